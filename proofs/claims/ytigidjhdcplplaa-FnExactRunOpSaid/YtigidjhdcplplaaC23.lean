/- The program computes these pure functions, printed by the generator of wip/gen. -/
import Derived.Test.YtigidjhdcplplaaFa
import Derived.Test.YtigidjhdcplplaaFg
import Derived.Test.YtigidjhdcplplaaFb
import Derived.Test.YtigidjhdcplplaaC1
import Derived.Test.YtigidjhdcplplaaC2
import Derived.Test.YtigidjhdcplplaaC15
namespace Go.Proofs.Ytigidjhdcplplaa.F
open Go Go.RowKit Go.Proofs.Ytigidjhdcplplaa.S
set_option linter.unusedVariables false
set_option maxRecDepth 100000
theorem spec_l5Do.calls (K : Nat) (a0_0 : List Int) (a0_0_A : Option Addr) (a0_0_n a0_0_c : Nat) (a0_1 : List Int) (a0_1_A : Option Addr) (a0_1_n a0_1_c : Nat) (a0_2 : List Int) (a0_2_A : Option Addr) (a0_2_n a0_2_c : Nat) (a0_3_A : Option Addr) (a0_3_n a0_3_c : Nat) (a1_0 : Int) (a1_1 : Int) (a1_2 : Int) {w0 w : World} {F : List Res} {r1 : Int} {r2 : List Int} {r3 : List Int} {r4 : List Int} (hm : Mem w0 (.row a0_0_A a0_0_c 3 1 (ii a0_0) :: .row a0_1_A a0_1_c 3 1 (ii a0_1) :: .row a0_2_A a0_2_c 3 1 (ii a0_2) :: F) w) (a0_0_h : a0_0.length = a0_0_n) (a0_1_h : a0_1.length = a0_1_n) (a0_2_h : a0_2.length = a0_2_n) (h : spec_l5Do.f K a0_0 a0_1 a0_2 a1_0 a1_1 a1_2 = some (r1, r2, r3, r4)) :
    Calls Try.prog 82 (List.toArray [.agg (List.toArray [.slice a0_0_A a0_0_n a0_0_c, .slice a0_1_A a0_1_n a0_1_c, .slice a0_2_A a0_2_n a0_2_c, .slice a0_3_A a0_3_n a0_3_c]), .agg (List.toArray [i6 a1_0, i6 a1_1, i6 a1_2])]) w fun e w' => ∃ x : (Ln r2.length a0_0.length) × (Ln r3.length a0_1.length) × (Ln r4.length a0_2.length), e = .returned (.tuple (List.toArray [.agg (List.toArray [.slice a0_0_A a0_0_n a0_0_c, .slice a0_1_A a0_1_n a0_1_c, .slice a0_2_A a0_2_n a0_2_c, .slice a0_3_A a0_3_n a0_3_c]), i6 r1])) ∧ Mem w0 (.row a0_0_A a0_0_c 3 1 (ii r2) :: .row a0_1_A a0_1_c 3 1 (ii r3) :: .row a0_2_A a0_2_c 3 1 (ii r4) :: F) w' := by
  unfold spec_l5Do.f at h
  refine calls_of_J (n := 89) Try.func82 rfl rfl rfl hm ?_
  refine j_seq ?_
  refine j_region ?_
  refine r_do (a_box rfl rfl) rfl rfl (fun x1 => ?_)
  refine r_do (a_box rfl rfl) rfl rfl (fun x2 => ?_)
  refine r_do (a_alloc zr29 rfl) rfl rfl (fun x3 => ?_)
  refine r_q (q_assign rfl rfl) rfl rfl ?_
  refine r_nil ?_
  refine j_then ?_
  refine j_seq ?_
  refine j_region ?_
  refine r_q (q_fieldAddr fi29_0 sz27 rfl rfl rfl) rfl rfl ?_
  refine r_q (q_fieldAddr fi27_2 sz25 rfl rfl rfl) rfl rfl ?_
  refine r_q (q_loadb 2 rfl ag25 rfl rfl rfl) rfl rfl ?_
  refine r_q (q_fieldAddr fi57_1 sz3 rfl rfl rfl) rfl rfl ?_
  refine r_q (q_loadb 1 rfl ag3 rfl rfl rfl) rfl rfl ?_
  obtain ⟨c1, h⟩ := of_guard h
  refine r_q (q_ix (Rd.row 5 rfl) (ints_len1 _ a0_2) (by decide) a0_2_h c1 un25 sz3 rfl rfl rfl) rfl rfl ?_
  refine r_q (q_ldI (Rd.row 5 rfl) c1 ag3 rfl rfl) rfl rfl ?_
  refine r_q (q_assign rfl rfl) rfl rfl ?_
  refine r_nil ?_
  refine j_then ?_
  refine j_seq ?_
  refine j_region ?_
  refine r_q (q_fieldAddr fi29_0 sz27 rfl rfl rfl) rfl rfl ?_
  refine r_q (q_fieldAddr fi27_2 sz25 rfl rfl rfl) rfl rfl ?_
  refine r_q (q_loadb 2 rfl ag25 rfl rfl rfl) rfl rfl ?_
  refine r_q (q_fieldAddr fi57_2 sz3 rfl rfl rfl) rfl rfl ?_
  refine r_q (q_loadb 1 rfl ag3 rfl rfl rfl) rfl rfl ?_
  obtain ⟨c2, h⟩ := of_guard h
  refine r_q (q_ix (Rd.row 5 rfl) (ints_len1 _ a0_2) (by decide) a0_2_h c2 un25 sz3 rfl rfl rfl) rfl rfl ?_
  refine r_q (q_ldI (Rd.row 5 rfl) c2 ag3 rfl rfl) rfl rfl ?_
  refine r_q (q_assign rfl rfl) rfl rfl ?_
  refine r_nil ?_
  refine j_then ?_
  refine j_seq ?_
  refine j_seq ?_
  refine j_region ?_
  refine r_q (q_fieldAddr fi57_0 sz3 rfl rfl rfl) rfl rfl ?_
  refine r_q (q_loadb 1 rfl ag3 rfl rfl rfl) rfl rfl ?_
  refine r_nil ?_
  refine j_then ?_
  refine j_block ?_
  refine j_seq ?_
  refine j_region ?_
  refine r_q (q_eql rfl rfl rfl) rfl rfl ?_
  refine r_q (q_assign rfl rfl) rfl rfl ?_
  refine r_nil ?_
  refine j_then ?_
  rcases of_if h with ⟨c3, h⟩ | ⟨c3, h⟩
  · refine j_true rfl (beq_t c3) ?_
    refine j_region ?_
    refine r_q (q_fieldAddr fi29_0 sz27 rfl rfl rfl) rfl rfl ?_
    refine r_q (q_fieldAddr fi27_2 sz25 rfl rfl rfl) rfl rfl ?_
    refine r_q (q_loadb 2 rfl ag25 rfl rfl rfl) rfl rfl ?_
    refine r_q (q_fieldAddr fi57_1 sz3 rfl rfl rfl) rfl rfl ?_
    refine r_q (q_loadb 1 rfl ag3 rfl rfl rfl) rfl rfl ?_
    refine r_q (q_move rfl rfl) rfl rfl ?_
    refine r_q (q_ix (Rd.row 5 rfl) (ints_len1 _ a0_2) (by decide) a0_2_h c1 un25 sz3 rfl rfl rfl) rfl rfl ?_
    refine r_do (a_stI 5 rfl c1 sz3 rfl rfl rfl) rfl rfl (fun _ => ?_)
    refine j_s5 ?_
    refine r_nil ?_
    refine j_in ?_
    refine j_then ?_
    refine j_seq ?_
    refine j_region ?_
    refine r_q (q_loadb_agg 2 rfl ag29 sz29 rfl rfl rfl rfl) rfl rfl ?_
    refine r_do (a_storeb 0 rfl sz29 rfl rfl rfl rfl (Nat.le_of_ble_eq_true rfl) rfl) rfl rfl (fun _ => ?_)
    refine j_b0 [(.slice a0_0_A a0_0_n a0_0_c), (.slice a0_1_A a0_1_n a0_1_c), (.slice a0_2_A a0_2_n a0_2_c), (.slice a0_3_A a0_3_n a0_3_c)] rfl ?_
    refine r_q (q_assign rfl rfl) rfl rfl ?_
    refine r_nil ?_
    refine j_then ?_
    refine j_ret ?_
    cases h
    exact j_return rfl (ResOf.cell 0 rfl rfl ag29 sz29 (ResOf.tmp rfl ResOf.nil)) rfl (fun w h => ⟨(⟨Eq.trans a0_0_h a0_0_h.symm⟩, ⟨Eq.trans a0_1_h a0_1_h.symm⟩, ⟨Eq.trans (set_len a0_2_h _ _) a0_2_h.symm⟩), rfl, (h.drop 3)⟩)
  · refine j_false rfl (beq_f c3) ?_
    refine j_seq ?_
    refine j_region ?_
    refine r_q (q_eql rfl rfl rfl) rfl rfl ?_
    refine r_q (q_assign rfl rfl) rfl rfl ?_
    refine r_nil ?_
    refine j_then ?_
    rcases of_if h with ⟨c4, h⟩ | ⟨c4, h⟩
    · refine j_true rfl (beq_t c4) ?_
      refine j_region ?_
      refine r_q (q_fieldAddr fi29_0 sz27 rfl rfl rfl) rfl rfl ?_
      refine r_q (q_fieldAddr fi27_2 sz25 rfl rfl rfl) rfl rfl ?_
      refine r_q (q_loadb 2 rfl ag25 rfl rfl rfl) rfl rfl ?_
      refine r_q (q_fieldAddr fi57_1 sz3 rfl rfl rfl) rfl rfl ?_
      refine r_q (q_loadb 1 rfl ag3 rfl rfl rfl) rfl rfl ?_
      refine r_q (q_ix (Rd.row 5 rfl) (ints_len1 _ a0_2) (by decide) a0_2_h c1 un25 sz3 rfl rfl rfl) rfl rfl ?_
      refine r_do (a_stI 5 rfl c1 sz3 rfl rfl rfl) rfl rfl (fun _ => ?_)
      refine j_s5 ?_
      refine r_nil ?_
      refine j_in ?_
      refine j_then ?_
      refine j_seq ?_
      refine j_region ?_
      refine r_q (q_loadb_agg 2 rfl ag29 sz29 rfl rfl rfl rfl) rfl rfl ?_
      refine r_do (a_storeb 0 rfl sz29 rfl rfl rfl rfl (Nat.le_of_ble_eq_true rfl) rfl) rfl rfl (fun _ => ?_)
      refine j_b0 [(.slice a0_0_A a0_0_n a0_0_c), (.slice a0_1_A a0_1_n a0_1_c), (.slice a0_2_A a0_2_n a0_2_c), (.slice a0_3_A a0_3_n a0_3_c)] rfl ?_
      refine r_q (q_assign rfl rfl) rfl rfl ?_
      refine r_nil ?_
      refine j_then ?_
      refine j_ret ?_
      cases h
      exact j_return rfl (ResOf.cell 0 rfl rfl ag29 sz29 (ResOf.tmp rfl ResOf.nil)) rfl (fun w h => ⟨(⟨Eq.trans a0_0_h a0_0_h.symm⟩, ⟨Eq.trans a0_1_h a0_1_h.symm⟩, ⟨Eq.trans (set_len a0_2_h _ _) a0_2_h.symm⟩), rfl, (h.drop 3)⟩)
    · refine j_false rfl (beq_f c4) ?_
      refine j_seq ?_
      refine j_seq ?_
      refine j_region ?_
      refine r_q (q_eql rfl rfl rfl) rfl rfl ?_
      refine r_q (q_assign rfl rfl) rfl rfl ?_
      refine r_nil ?_
      refine j_then ?_
      rcases of_if h with ⟨c5, h⟩ | ⟨c5, h⟩
      · refine j_true rfl (beq_t c5) ?_
        refine j_skip ?_
        refine j_then ?_
        refine j_true rfl (beq_t c5) ?_
        refine j_seq ?_
        refine j_seq ?_
        refine j_region ?_
        refine r_q (q_move rfl rfl) rfl rfl ?_
        refine r_q (q_eql rfl rfl rfl) rfl rfl ?_
        refine r_nil ?_
        refine j_then ?_
        rcases of_if h with ⟨c6, h⟩ | ⟨c6, h⟩
        · refine j_true rfl (beq_t c6) ?_
          refine j_seq ?_
          refine j_region ?_
          refine r_q (q_loadb_agg 2 rfl ag29 sz29 rfl rfl rfl rfl) rfl rfl ?_
          refine r_do (a_storeb 0 rfl sz29 rfl rfl rfl rfl (Nat.le_of_ble_eq_true rfl) rfl) rfl rfl (fun _ => ?_)
          refine j_b0 [(.slice a0_0_A a0_0_n a0_0_c), (.slice a0_1_A a0_1_n a0_1_c), (.slice a0_2_A a0_2_n a0_2_c), (.slice a0_3_A a0_3_n a0_3_c)] rfl ?_
          refine r_q (q_assign rfl rfl) rfl rfl ?_
          refine r_nil ?_
          refine j_then ?_
          refine j_ret ?_
          refine j_then_ret ?_
          refine j_in_ret ?_
          refine j_then_ret ?_
          cases h
          exact j_return rfl (ResOf.cell 0 rfl rfl ag29 sz29 (ResOf.tmp rfl ResOf.nil)) rfl (fun w h => ⟨(⟨Eq.trans a0_0_h a0_0_h.symm⟩, ⟨Eq.trans a0_1_h a0_1_h.symm⟩, ⟨Eq.trans a0_2_h a0_2_h.symm⟩), rfl, (h.drop 3)⟩)
        · refine j_false rfl (beq_f c6) ?_
          refine j_skip ?_
          refine j_then ?_
          refine j_seq ?_
          refine j_region ?_
          refine r_q (q_fieldAddr fi29_0 sz27 rfl rfl rfl) rfl rfl ?_
          refine r_q (q_fieldAddr fi27_0 sz25 rfl rfl rfl) rfl rfl ?_
          refine r_q (q_loadb 2 rfl ag25 rfl rfl rfl) rfl rfl ?_
          refine r_q (q_move rfl rfl) rfl rfl ?_
          obtain ⟨c7, h⟩ := of_guard h
          refine r_q (q_ix (Rd.row 3 rfl) (ints_len1 _ a0_0) (by decide) a0_0_h c7 un25 sz3 rfl rfl rfl) rfl rfl ?_
          refine r_q (q_ldI (Rd.row 3 rfl) c7 ag3 rfl rfl) rfl rfl ?_
          refine r_q (q_assign rfl rfl) rfl rfl ?_
          refine r_nil ?_
          refine j_then ?_
          refine j_seq ?_
          refine j_seq ?_
          refine j_region ?_
          refine r_q (q_fieldAddr fi57_0 sz3 rfl rfl rfl) rfl rfl ?_
          refine r_q (q_loadb 1 rfl ag3 rfl rfl rfl) rfl rfl ?_
          refine r_q (q_eql rfl rfl rfl) rfl rfl ?_
          refine r_nil ?_
          refine j_then ?_
          rcases of_if h with ⟨c8, h⟩ | ⟨c8, h⟩
          · refine j_true rfl (beq_t c8) ?_
            refine j_region ?_
            refine r_q (q_fieldAddr fi29_0 sz27 rfl rfl rfl) rfl rfl ?_
            refine r_q (q_fieldAddr fi27_1 sz25 rfl rfl rfl) rfl rfl ?_
            refine r_q (q_loadb 2 rfl ag25 rfl rfl rfl) rfl rfl ?_
            refine r_q (q_move rfl rfl) rfl rfl ?_
            obtain ⟨c9, h⟩ := of_guard h
            refine r_q (q_ix (Rd.row 4 rfl) (ints_len1 _ a0_1) (by decide) a0_1_h c9 un25 sz3 rfl rfl rfl) rfl rfl ?_
            refine r_q (q_ldI (Rd.row 4 rfl) c9 ag3 rfl rfl) rfl rfl ?_
            refine r_q (q_assign rfl rfl) rfl rfl ?_
            refine r_nil ?_
            refine j_then ?_
            refine j_region ?_
            refine r_q (q_fieldAddr fi29_0 sz27 rfl rfl rfl) rfl rfl ?_
            refine r_q (q_fieldAddr fi27_2 sz25 rfl rfl rfl) rfl rfl ?_
            refine r_q (q_loadb 2 rfl ag25 rfl rfl rfl) rfl rfl ?_
            refine r_q (q_fieldAddr fi57_1 sz3 rfl rfl rfl) rfl rfl ?_
            refine r_q (q_loadb 1 rfl ag3 rfl rfl rfl) rfl rfl ?_
            refine r_q (q_move rfl rfl) rfl rfl ?_
            refine r_q (q_ix (Rd.row 5 rfl) (ints_len1 _ a0_2) (by decide) a0_2_h c1 un25 sz3 rfl rfl rfl) rfl rfl ?_
            refine r_do (a_stI 5 rfl c1 sz3 rfl rfl rfl) rfl rfl (fun _ => ?_)
            refine j_s5 ?_
            refine r_nil ?_
            refine j_in ?_
            refine j_then ?_
            refine j_seq ?_
            refine j_region ?_
            refine r_q (q_loadb_agg 2 rfl ag29 sz29 rfl rfl rfl rfl) rfl rfl ?_
            refine r_do (a_storeb 0 rfl sz29 rfl rfl rfl rfl (Nat.le_of_ble_eq_true rfl) rfl) rfl rfl (fun _ => ?_)
            refine j_b0 [(.slice a0_0_A a0_0_n a0_0_c), (.slice a0_1_A a0_1_n a0_1_c), (.slice a0_2_A a0_2_n a0_2_c), (.slice a0_3_A a0_3_n a0_3_c)] rfl ?_
            refine r_q (q_assign rfl rfl) rfl rfl ?_
            refine r_nil ?_
            refine j_then ?_
            refine j_ret ?_
            cases h
            exact j_return rfl (ResOf.cell 0 rfl rfl ag29 sz29 (ResOf.tmp rfl ResOf.nil)) rfl (fun w h => ⟨(⟨Eq.trans a0_0_h a0_0_h.symm⟩, ⟨Eq.trans a0_1_h a0_1_h.symm⟩, ⟨Eq.trans (set_len a0_2_h _ _) a0_2_h.symm⟩), rfl, (h.drop 3)⟩)
          · refine j_false rfl (beq_f c8) ?_
            refine j_skip ?_
            refine j_then ?_
            refine j_region ?_
            refine r_q (q_fieldAddr fi29_0 sz27 rfl rfl rfl) rfl rfl ?_
            refine r_q (q_fieldAddr fi27_2 sz25 rfl rfl rfl) rfl rfl ?_
            refine r_q (q_loadb 2 rfl ag25 rfl rfl rfl) rfl rfl ?_
            refine r_q (q_fieldAddr fi57_1 sz3 rfl rfl rfl) rfl rfl ?_
            refine r_q (q_loadb 1 rfl ag3 rfl rfl rfl) rfl rfl ?_
            refine r_q (q_move rfl rfl) rfl rfl ?_
            refine r_q (q_ix (Rd.row 5 rfl) (ints_len1 _ a0_2) (by decide) a0_2_h c1 un25 sz3 rfl rfl rfl) rfl rfl ?_
            refine r_do (a_stI 5 rfl c1 sz3 rfl rfl rfl) rfl rfl (fun _ => ?_)
            refine j_s5 ?_
            refine r_nil ?_
            refine j_in ?_
            refine j_then ?_
            refine j_seq ?_
            refine j_region ?_
            refine r_q (q_loadb_agg 2 rfl ag29 sz29 rfl rfl rfl rfl) rfl rfl ?_
            refine r_do (a_storeb 0 rfl sz29 rfl rfl rfl rfl (Nat.le_of_ble_eq_true rfl) rfl) rfl rfl (fun _ => ?_)
            refine j_b0 [(.slice a0_0_A a0_0_n a0_0_c), (.slice a0_1_A a0_1_n a0_1_c), (.slice a0_2_A a0_2_n a0_2_c), (.slice a0_3_A a0_3_n a0_3_c)] rfl ?_
            refine r_q (q_assign rfl rfl) rfl rfl ?_
            refine r_nil ?_
            refine j_then ?_
            refine j_ret ?_
            cases h
            exact j_return rfl (ResOf.cell 0 rfl rfl ag29 sz29 (ResOf.tmp rfl ResOf.nil)) rfl (fun w h => ⟨(⟨Eq.trans a0_0_h a0_0_h.symm⟩, ⟨Eq.trans a0_1_h a0_1_h.symm⟩, ⟨Eq.trans (set_len a0_2_h _ _) a0_2_h.symm⟩), rfl, (h.drop 3)⟩)
      · refine j_false rfl (beq_f c5) ?_
        refine j_region ?_
        refine r_q (q_eql rfl rfl rfl) rfl rfl ?_
        refine r_q (q_assign rfl rfl) rfl rfl ?_
        refine r_nil ?_
        refine j_then ?_
        rcases of_if h with ⟨c10, h⟩ | ⟨c10, h⟩
        · refine j_true rfl (beq_t c10) ?_
          refine j_seq ?_
          refine j_seq ?_
          refine j_region ?_
          refine r_q (q_move rfl rfl) rfl rfl ?_
          refine r_q (q_eql rfl rfl rfl) rfl rfl ?_
          refine r_nil ?_
          refine j_then ?_
          rcases of_if h with ⟨c11, h⟩ | ⟨c11, h⟩
          · refine j_true rfl (beq_t c11) ?_
            refine j_seq ?_
            refine j_region ?_
            refine r_q (q_loadb_agg 2 rfl ag29 sz29 rfl rfl rfl rfl) rfl rfl ?_
            refine r_do (a_storeb 0 rfl sz29 rfl rfl rfl rfl (Nat.le_of_ble_eq_true rfl) rfl) rfl rfl (fun _ => ?_)
            refine j_b0 [(.slice a0_0_A a0_0_n a0_0_c), (.slice a0_1_A a0_1_n a0_1_c), (.slice a0_2_A a0_2_n a0_2_c), (.slice a0_3_A a0_3_n a0_3_c)] rfl ?_
            refine r_q (q_assign rfl rfl) rfl rfl ?_
            refine r_nil ?_
            refine j_then ?_
            refine j_ret ?_
            refine j_then_ret ?_
            refine j_in_ret ?_
            refine j_then_ret ?_
            cases h
            exact j_return rfl (ResOf.cell 0 rfl rfl ag29 sz29 (ResOf.tmp rfl ResOf.nil)) rfl (fun w h => ⟨(⟨Eq.trans a0_0_h a0_0_h.symm⟩, ⟨Eq.trans a0_1_h a0_1_h.symm⟩, ⟨Eq.trans a0_2_h a0_2_h.symm⟩), rfl, (h.drop 3)⟩)
          · refine j_false rfl (beq_f c11) ?_
            refine j_skip ?_
            refine j_then ?_
            refine j_seq ?_
            refine j_region ?_
            refine r_q (q_fieldAddr fi29_0 sz27 rfl rfl rfl) rfl rfl ?_
            refine r_q (q_fieldAddr fi27_0 sz25 rfl rfl rfl) rfl rfl ?_
            refine r_q (q_loadb 2 rfl ag25 rfl rfl rfl) rfl rfl ?_
            refine r_q (q_move rfl rfl) rfl rfl ?_
            obtain ⟨c12, h⟩ := of_guard h
            refine r_q (q_ix (Rd.row 3 rfl) (ints_len1 _ a0_0) (by decide) a0_0_h c12 un25 sz3 rfl rfl rfl) rfl rfl ?_
            refine r_q (q_ldI (Rd.row 3 rfl) c12 ag3 rfl rfl) rfl rfl ?_
            refine r_q (q_assign rfl rfl) rfl rfl ?_
            refine r_nil ?_
            refine j_then ?_
            refine j_seq ?_
            refine j_seq ?_
            refine j_region ?_
            refine r_q (q_fieldAddr fi57_0 sz3 rfl rfl rfl) rfl rfl ?_
            refine r_q (q_loadb 1 rfl ag3 rfl rfl rfl) rfl rfl ?_
            refine r_q (q_eql rfl rfl rfl) rfl rfl ?_
            refine r_nil ?_
            refine j_then ?_
            refine j_true rfl (beq_t c10) ?_
            refine j_region ?_
            refine r_q (q_fieldAddr fi29_0 sz27 rfl rfl rfl) rfl rfl ?_
            refine r_q (q_fieldAddr fi27_1 sz25 rfl rfl rfl) rfl rfl ?_
            refine r_q (q_loadb 2 rfl ag25 rfl rfl rfl) rfl rfl ?_
            refine r_q (q_move rfl rfl) rfl rfl ?_
            obtain ⟨c13, h⟩ := of_guard h
            refine r_q (q_ix (Rd.row 4 rfl) (ints_len1 _ a0_1) (by decide) a0_1_h c13 un25 sz3 rfl rfl rfl) rfl rfl ?_
            refine r_q (q_ldI (Rd.row 4 rfl) c13 ag3 rfl rfl) rfl rfl ?_
            refine r_q (q_assign rfl rfl) rfl rfl ?_
            refine r_nil ?_
            refine j_then ?_
            refine j_region ?_
            refine r_q (q_fieldAddr fi29_0 sz27 rfl rfl rfl) rfl rfl ?_
            refine r_q (q_fieldAddr fi27_2 sz25 rfl rfl rfl) rfl rfl ?_
            refine r_q (q_loadb 2 rfl ag25 rfl rfl rfl) rfl rfl ?_
            refine r_q (q_fieldAddr fi57_1 sz3 rfl rfl rfl) rfl rfl ?_
            refine r_q (q_loadb 1 rfl ag3 rfl rfl rfl) rfl rfl ?_
            refine r_q (q_move rfl rfl) rfl rfl ?_
            refine r_q (q_ix (Rd.row 5 rfl) (ints_len1 _ a0_2) (by decide) a0_2_h c1 un25 sz3 rfl rfl rfl) rfl rfl ?_
            refine r_do (a_stI 5 rfl c1 sz3 rfl rfl rfl) rfl rfl (fun _ => ?_)
            refine j_s5 ?_
            refine r_nil ?_
            refine j_in ?_
            refine j_then ?_
            refine j_seq ?_
            refine j_region ?_
            refine r_q (q_loadb_agg 2 rfl ag29 sz29 rfl rfl rfl rfl) rfl rfl ?_
            refine r_do (a_storeb 0 rfl sz29 rfl rfl rfl rfl (Nat.le_of_ble_eq_true rfl) rfl) rfl rfl (fun _ => ?_)
            refine j_b0 [(.slice a0_0_A a0_0_n a0_0_c), (.slice a0_1_A a0_1_n a0_1_c), (.slice a0_2_A a0_2_n a0_2_c), (.slice a0_3_A a0_3_n a0_3_c)] rfl ?_
            refine r_q (q_assign rfl rfl) rfl rfl ?_
            refine r_nil ?_
            refine j_then ?_
            refine j_ret ?_
            cases h
            exact j_return rfl (ResOf.cell 0 rfl rfl ag29 sz29 (ResOf.tmp rfl ResOf.nil)) rfl (fun w h => ⟨(⟨Eq.trans a0_0_h a0_0_h.symm⟩, ⟨Eq.trans a0_1_h a0_1_h.symm⟩, ⟨Eq.trans (set_len a0_2_h _ _) a0_2_h.symm⟩), rfl, (h.drop 3)⟩)
        · refine j_false rfl (beq_f c10) ?_
          refine j_seq ?_
          refine j_seq ?_
          refine j_region ?_
          refine r_q (q_move rfl rfl) rfl rfl ?_
          refine r_q (q_eql rfl rfl rfl) rfl rfl ?_
          refine r_nil ?_
          refine j_then ?_
          rcases of_if h with ⟨c14, h⟩ | ⟨c14, h⟩
          · refine j_true rfl (beq_t c14) ?_
            refine j_seq ?_
            refine j_region ?_
            refine r_q (q_loadb_agg 2 rfl ag29 sz29 rfl rfl rfl rfl) rfl rfl ?_
            refine r_do (a_storeb 0 rfl sz29 rfl rfl rfl rfl (Nat.le_of_ble_eq_true rfl) rfl) rfl rfl (fun _ => ?_)
            refine j_b0 [(.slice a0_0_A a0_0_n a0_0_c), (.slice a0_1_A a0_1_n a0_1_c), (.slice a0_2_A a0_2_n a0_2_c), (.slice a0_3_A a0_3_n a0_3_c)] rfl ?_
            refine r_q (q_assign rfl rfl) rfl rfl ?_
            refine r_nil ?_
            refine j_then ?_
            refine j_ret ?_
            refine j_then_ret ?_
            refine j_in_ret ?_
            refine j_then_ret ?_
            cases h
            exact j_return rfl (ResOf.cell 0 rfl rfl ag29 sz29 (ResOf.tmp rfl ResOf.nil)) rfl (fun w h => ⟨(⟨Eq.trans a0_0_h a0_0_h.symm⟩, ⟨Eq.trans a0_1_h a0_1_h.symm⟩, ⟨Eq.trans a0_2_h a0_2_h.symm⟩), rfl, (h.drop 3)⟩)
          · refine j_false rfl (beq_f c14) ?_
            refine j_skip ?_
            refine j_then ?_
            refine j_seq ?_
            refine j_region ?_
            refine r_q (q_fieldAddr fi57_0 sz3 rfl rfl rfl) rfl rfl ?_
            refine r_q (q_loadb 1 rfl ag3 rfl rfl rfl) rfl rfl ?_
            refine r_q (q_eql rfl rfl rfl) rfl rfl ?_
            refine r_nil ?_
            refine j_then ?_
            rcases of_if h with ⟨c15, h⟩ | ⟨c15, h⟩
            · refine j_true rfl (beq_t c15) ?_
              refine j_region ?_
              refine r_q (q_fieldAddr fi29_0 sz27 rfl rfl rfl) rfl rfl ?_
              refine r_q (q_fieldAddr fi27_0 sz25 rfl rfl rfl) rfl rfl ?_
              refine r_q (q_loadb 2 rfl ag25 rfl rfl rfl) rfl rfl ?_
              refine r_q (q_move rfl rfl) rfl rfl ?_
              refine r_q (q_move rfl rfl) rfl rfl ?_
              obtain ⟨c16, h⟩ := of_guard h
              refine r_q (q_ix (Rd.row 3 rfl) (ints_len1 _ a0_0) (by decide) a0_0_h c16 un25 sz3 rfl rfl rfl) rfl rfl ?_
              refine r_do (a_stI 3 rfl c16 sz3 rfl rfl rfl) rfl rfl (fun _ => ?_)
              refine j_s3 ?_
              refine r_nil ?_
              refine j_in ?_
              refine j_then ?_
              refine j_seq ?_
              refine j_region ?_
              refine r_q (q_loadb_agg 2 rfl ag29 sz29 rfl rfl rfl rfl) rfl rfl ?_
              refine r_do (a_storeb 0 rfl sz29 rfl rfl rfl rfl (Nat.le_of_ble_eq_true rfl) rfl) rfl rfl (fun _ => ?_)
              refine j_b0 [(.slice a0_0_A a0_0_n a0_0_c), (.slice a0_1_A a0_1_n a0_1_c), (.slice a0_2_A a0_2_n a0_2_c), (.slice a0_3_A a0_3_n a0_3_c)] rfl ?_
              refine r_q (q_assign rfl rfl) rfl rfl ?_
              refine r_nil ?_
              refine j_then ?_
              refine j_ret ?_
              cases h
              exact j_return rfl (ResOf.cell 0 rfl rfl ag29 sz29 (ResOf.tmp rfl ResOf.nil)) rfl (fun w h => ⟨(⟨Eq.trans (set_len a0_0_h _ _) a0_0_h.symm⟩, ⟨Eq.trans a0_1_h a0_1_h.symm⟩, ⟨Eq.trans a0_2_h a0_2_h.symm⟩), rfl, (h.drop 3)⟩)
            · refine j_false rfl (beq_f c15) ?_
              refine j_region ?_
              refine r_q (q_fieldAddr fi29_0 sz27 rfl rfl rfl) rfl rfl ?_
              refine r_q (q_fieldAddr fi27_1 sz25 rfl rfl rfl) rfl rfl ?_
              refine r_q (q_loadb 2 rfl ag25 rfl rfl rfl) rfl rfl ?_
              refine r_q (q_move rfl rfl) rfl rfl ?_
              refine r_q (q_move rfl rfl) rfl rfl ?_
              obtain ⟨c17, h⟩ := of_guard h
              refine r_q (q_ix (Rd.row 4 rfl) (ints_len1 _ a0_1) (by decide) a0_1_h c17 un25 sz3 rfl rfl rfl) rfl rfl ?_
              refine r_do (a_stI 4 rfl c17 sz3 rfl rfl rfl) rfl rfl (fun _ => ?_)
              refine j_s4 ?_
              refine r_nil ?_
              refine j_in ?_
              refine j_then ?_
              refine j_seq ?_
              refine j_region ?_
              refine r_q (q_loadb_agg 2 rfl ag29 sz29 rfl rfl rfl rfl) rfl rfl ?_
              refine r_do (a_storeb 0 rfl sz29 rfl rfl rfl rfl (Nat.le_of_ble_eq_true rfl) rfl) rfl rfl (fun _ => ?_)
              refine j_b0 [(.slice a0_0_A a0_0_n a0_0_c), (.slice a0_1_A a0_1_n a0_1_c), (.slice a0_2_A a0_2_n a0_2_c), (.slice a0_3_A a0_3_n a0_3_c)] rfl ?_
              refine r_q (q_assign rfl rfl) rfl rfl ?_
              refine r_nil ?_
              refine j_then ?_
              refine j_ret ?_
              cases h
              exact j_return rfl (ResOf.cell 0 rfl rfl ag29 sz29 (ResOf.tmp rfl ResOf.nil)) rfl (fun w h => ⟨(⟨Eq.trans a0_0_h a0_0_h.symm⟩, ⟨Eq.trans (set_len a0_1_h _ _) a0_1_h.symm⟩, ⟨Eq.trans a0_2_h a0_2_h.symm⟩), rfl, (h.drop 3)⟩)

theorem spec_RunOp.calls (K : Nat) (a0_0 : List Int) (a0_0_A : Option Addr) (a0_0_n a0_0_c : Nat) (a0_1 : List Int) (a0_1_A : Option Addr) (a0_1_n a0_1_c : Nat) (a0_2 : List Int) (a0_2_A : Option Addr) (a0_2_n a0_2_c : Nat) (a0_3 : List Int) (a0_3_A : Option Addr) (a0_3_n a0_3_c : Nat) (a1_0 : Int) (a1_1 : Int) (a1_2 : Int) {w0 w : World} {F : List Res} {r1 : List Int} {r2 : List Int} {r3 : List Int} {r4 : List Int} {r5 : Int} {r6 : Bool} (hm : Mem w0 (F) w) (a0_0_h : a0_0.length = a0_0_n) (a0_0_R : Rd w0 F a0_0_A (ii a0_0)) (a0_1_h : a0_1.length = a0_1_n) (a0_1_R : Rd w0 F a0_1_A (ii a0_1)) (a0_2_h : a0_2.length = a0_2_n) (a0_2_R : Rd w0 F a0_2_A (ii a0_2)) (a0_3_h : a0_3.length = a0_3_n) (a0_3_R : Rd w0 F a0_3_A (ii a0_3)) (a0_3_k : a0_3.length ≤ a0_3_c) (h : spec_RunOp.f K a0_0 a0_1 a0_2 a0_3 a1_0 a1_1 a1_2 = some (r1, r2, r3, r4, r5, r6)) :
    Calls Try.prog 49 (List.toArray [.agg (List.toArray [.slice a0_0_A a0_0_n a0_0_c, .slice a0_1_A a0_1_n a0_1_c, .slice a0_2_A a0_2_n a0_2_c, .slice a0_3_A a0_3_n a0_3_c]), .agg (List.toArray [i6 a1_0, i6 a1_1, i6 a1_2])]) w fun e w' => ∃ x : (Sl r1.length) × (Sl r2.length) × (Sl r3.length) × (Sl r4.length), e = .returned (.tuple (List.toArray [.agg (List.toArray [.slice x.1.A x.1.n x.1.c, .slice x.2.1.A x.2.1.n x.2.1.c, .slice x.2.2.1.A x.2.2.1.n x.2.2.1.c, .slice x.2.2.2.A x.2.2.2.n x.2.2.2.c]), i6 r5, .bool r6])) ∧ Mem w0 (.row x.1.A x.1.c 3 1 (ii r1) :: .row x.2.1.A x.2.1.c 3 1 (ii r2) :: .row x.2.2.1.A x.2.2.1.c 3 1 (ii r3) :: .row x.2.2.2.A x.2.2.2.c 3 1 (ii r4) :: F) w' := by
  unfold spec_RunOp.f at h
  refine calls_of_J (n := 50) Try.func49 rfl rfl rfl hm ?_
  refine j_seq ?_
  refine j_region ?_
  refine r_do (a_box rfl rfl) rfl rfl (fun x1 => ?_)
  refine r_do (a_box rfl rfl) rfl rfl (fun x2 => ?_)
  refine r_do (a_alloc zr29 rfl) rfl rfl (fun x3 => ?_)
  refine r_q (q_assign rfl rfl) rfl rfl ?_
  refine r_q (q_assign rfl rfl) rfl rfl ?_
  refine r_nil ?_
  refine j_then ?_
  refine j_seq ?_
  refine j_seq ?_
  refine j_region ?_
  refine r_q (q_loadb_agg 2 rfl ag29 sz29 rfl rfl rfl rfl) rfl rfl ?_
  obtain ⟨v1, hb1, h⟩ := of_b1 h
  refine r_do (a_call ok23 rfl rfl rfl rfl (fun w hm => spec_StoreValid.calls K a0_0 a0_0_A a0_0_n a0_0_c a0_1 a0_1_A a0_1_n a0_1_c a0_2 a0_2_A a0_2_n a0_2_c a0_3 a0_3_A a0_3_n a0_3_c hm a0_0_h (Rd.drop 3 a0_0_R) a0_1_h (Rd.drop 3 a0_1_R) a0_2_h (Rd.drop 3 a0_2_R) a0_3_h (Rd.drop 3 a0_3_R) a0_3_k hb1)) rfl rfl (fun x4 => ?_)
  refine r_q (q_not rfl rfl) rfl rfl ?_
  refine r_q (q_move rfl rfl) rfl rfl ?_
  rcases of_if h with ⟨c1, h⟩ | ⟨c1, h⟩
  · refine r_qon (q_loadb_agg 1 rfl ag57 sz57 rfl rfl rfl rfl) rfl rfl rfl rfl (not_f c1) rfl ?_
    refine r_qon (q_fieldAddr fi29_0 sz27 rfl rfl rfl) rfl rfl rfl rfl (not_f c1) rfl ?_
    refine r_qon (q_fieldAddr fi27_2 sz25 rfl rfl rfl) rfl rfl rfl rfl (not_f c1) rfl ?_
    refine r_qon (q_loadb 2 rfl ag25 rfl rfl rfl) rfl rfl rfl rfl (not_f c1) rfl ?_
    refine r_qon (q_lenX a0_2 a0_2_h un25 rfl rfl rfl rfl rfl) rfl rfl rfl rfl (not_f c1) rfl ?_
    obtain ⟨v2, hb2, h⟩ := of_b1 h
    refine r_on (a_call ok80 rfl rfl rfl rfl (fun w hm => spec_OpValid.calls K a1_0 a1_1 a1_2 (a0_2.length : Int) hm hb2)) rfl rfl rfl rfl (not_f c1) rfl (fun x5 => ?_)
    refine r_qon (q_not rfl rfl) rfl rfl rfl rfl (not_f c1) rfl ?_
    refine r_q (q_pick_f rfl rfl (not_f c1) rfl) rfl rfl ?_
    refine r_nil ?_
    refine j_then ?_
    rcases of_if h with ⟨c2, h⟩ | ⟨c2, h⟩
    · refine j_false rfl (not_f c2) ?_
      refine j_skip ?_
      refine j_then ?_
      refine j_seq ?_
      refine j_seq ?_
      refine j_region ?_
      refine r_q (q_fieldAddr fi57_0 sz3 rfl rfl rfl) rfl rfl ?_
      refine r_q (q_loadb 1 rfl ag3 rfl rfl rfl) rfl rfl ?_
      refine r_q (q_neq rfl rfl rfl) rfl rfl ?_
      refine r_nil ?_
      refine j_then ?_
      rcases of_if h with ⟨c3, h⟩ | ⟨c3, h⟩
      · refine j_false rfl (bne_f c3) ?_
        refine j_skip ?_
        refine j_then ?_
        refine j_seq ?_
        refine j_region ?_
        refine r_q (q_loadb_agg 2 rfl ag29 sz29 rfl rfl rfl rfl) rfl rfl ?_
        refine r_q (q_fieldAddr fi57_1 sz3 rfl rfl rfl) rfl rfl ?_
        refine r_q (q_loadb 1 rfl ag3 rfl rfl rfl) rfl rfl ?_
        obtain ⟨v3, v4, v5, v6, v7, v8, hb3, h⟩ := of_b6 h
        refine r_do (a_call ok25 rfl rfl rfl rfl (fun w hm => spec_AllocCell.calls K a0_0 a0_0_A a0_0_n a0_0_c a0_1 a0_1_A a0_1_n a0_1_c a0_2 a0_2_A a0_2_n a0_2_c a0_3 a0_3_A a0_3_n a0_3_c a1_1 hm a0_0_h (Rd.drop 3 a0_0_R) a0_1_h (Rd.drop 3 a0_1_R) a0_2_h (Rd.drop 3 a0_2_R) a0_3_h (Rd.drop 3 a0_3_R) a0_3_k hb3)) rfl rfl (fun x6 => ?_)
        refine r_q (q_move rfl rfl) rfl rfl ?_
        refine r_q (q_extract rfl rfl rfl) rfl rfl ?_
        refine r_q (q_extract rfl rfl rfl) rfl rfl ?_
        refine r_q (q_extract rfl rfl rfl) rfl rfl ?_
        refine r_do (a_alloc zr29 rfl) rfl rfl (fun x7 => ?_)
        refine r_do (a_storeb 0 rfl sz29 rfl rfl rfl rfl (Nat.le_of_ble_eq_true rfl) rfl) rfl rfl (fun _ => ?_)
        refine j_b0 [(.slice x6.1.A x6.1.n x6.1.c), (.slice x6.2.1.A x6.2.1.n x6.2.1.c), (.slice x6.2.2.1.A x6.2.2.1.n x6.2.2.1.c), (.slice x6.2.2.2.A x6.2.2.2.n x6.2.2.2.c)] rfl ?_
        refine r_q (q_assign rfl rfl) rfl rfl ?_
        refine r_q (q_assign rfl rfl) rfl rfl ?_
        refine r_nil ?_
        refine j_then ?_
        refine j_seq ?_
        refine j_seq ?_
        refine j_region ?_
        refine r_q (q_move rfl rfl) rfl rfl ?_
        refine r_q (q_not rfl rfl) rfl rfl ?_
        refine r_nil ?_
        refine j_then ?_
        rcases of_if h with ⟨c4, h⟩ | ⟨c4, h⟩
        · refine j_false rfl (not_f c4) ?_
          refine j_skip ?_
          refine j_then ?_
          refine j_seq ?_
          refine j_region ?_
          refine r_q (q_loadb_agg 0 rfl ag29 sz29 rfl rfl rfl rfl) rfl rfl ?_
          refine r_do (a_storeb 5 rfl sz29 rfl rfl rfl rfl (Nat.le_of_ble_eq_true rfl) rfl) rfl rfl (fun _ => ?_)
          refine j_b5 [(.slice x6.1.A x6.1.n x6.1.c), (.slice x6.2.1.A x6.2.1.n x6.2.1.c), (.slice x6.2.2.1.A x6.2.2.1.n x6.2.2.1.c), (.slice x6.2.2.2.A x6.2.2.2.n x6.2.2.2.c)] rfl ?_
          refine r_q (q_assign rfl rfl) rfl rfl ?_
          refine r_q (q_assign rfl rfl) rfl rfl ?_
          refine r_nil ?_
          refine j_then ?_
          refine j_ret ?_
          cases h
          exact j_return rfl (ResOf.cell 5 rfl rfl ag29 sz29 (ResOf.tmp rfl (ResOf.tmp rfl ResOf.nil))) rfl (fun w h => ⟨(⟨x6.1.A, x6.1.n, x6.1.c, x6.1.h⟩, ⟨x6.2.1.A, x6.2.1.n, x6.2.1.c, x6.2.1.h⟩, ⟨x6.2.2.1.A, x6.2.2.1.n, x6.2.2.1.c, x6.2.2.1.h⟩, ⟨x6.2.2.2.A, x6.2.2.2.n, x6.2.2.2.c, x6.2.2.2.h⟩), rfl, h.pick 8 [1, 2, 3, 4] rfl⟩)
        · refine j_true rfl (not_t (var_f c4)) ?_
          refine j_seq ?_
          refine j_region ?_
          refine r_q (q_loadb_agg 7 rfl ag29 sz29 rfl rfl rfl rfl) rfl rfl ?_
          obtain ⟨v9, v10, v11, v12, hb4, h⟩ := of_b4 h
          refine r_do (a_call ok68 rfl rfl rfl rfl (fun w hm => spec_l4Copy.calls K a0_0 a0_0_A a0_0_n a0_0_c a0_1 a0_1_A a0_1_n a0_1_c a0_2 a0_2_A a0_2_n a0_2_c a0_3 a0_3_A a0_3_n a0_3_c hm a0_0_h (Rd.drop 8 a0_0_R) a0_1_h (Rd.drop 8 a0_1_R) a0_2_h (Rd.drop 8 a0_2_R) a0_3_h (Rd.drop 8 a0_3_R) hb4)) rfl rfl (fun x8 => ?_)
          refine r_do (a_storeb 9 rfl sz29 rfl rfl rfl rfl (Nat.le_of_ble_eq_true rfl) rfl) rfl rfl (fun _ => ?_)
          refine j_b9 [(.slice x8.1.A x8.1.n x8.1.c), (.slice x8.2.1.A x8.2.1.n x8.2.1.c), (.slice x8.2.2.1.A x8.2.2.1.n x8.2.2.1.c), (.slice x8.2.2.2.A x8.2.2.2.n x8.2.2.2.c)] rfl ?_
          refine r_q (q_assign rfl rfl) rfl rfl ?_
          refine r_q (q_assign rfl rfl) rfl rfl ?_
          refine r_nil ?_
          refine j_then ?_
          refine j_ret ?_
          refine j_then_ret ?_
          cases h
          exact j_return rfl (ResOf.cell 9 rfl rfl ag29 sz29 (ResOf.tmp rfl (ResOf.tmp rfl ResOf.nil))) rfl (fun w h => ⟨(⟨x8.1.A, x8.1.n, x8.1.c, x8.1.h⟩, ⟨x8.2.1.A, x8.2.1.n, x8.2.1.c, x8.2.1.h⟩, ⟨x8.2.2.1.A, x8.2.2.1.n, x8.2.2.1.c, x8.2.2.1.h⟩, ⟨x8.2.2.2.A, x8.2.2.2.n, x8.2.2.2.c, x8.2.2.2.h⟩), rfl, h.pick 12 [0, 1, 2, 3] rfl⟩)
      · refine j_true rfl (bne_t c3) ?_
        refine j_seq ?_
        obtain ⟨v13, v14, v15, v16, hb5, h⟩ := of_b4 h
        obtain ⟨v17, v18, v19, v20, hb6, h⟩ := of_b4 h
        refine j_draw (.box x3 29 [(.slice none 0 0), (.slice none 0 0), (.slice none 0 0), (.slice none 0 0)] :: .box x2 57 [(i6 a1_0), (i6 a1_1), (i6 a1_2)] :: .box x1 29 [(.slice a0_0_A a0_0_n a0_0_c), (.slice a0_1_A a0_1_n a0_1_c), (.slice a0_2_A a0_2_n a0_2_c), (.slice a0_3_A a0_3_n a0_3_c)] :: F) 10 follows_any rfl ?_
        refine d_take 0 rfl (q_loadb_agg 2 rfl ag29 sz29 rfl rfl rfl rfl) rfl rfl (by kernel_rfl) (by kernel_rfl) (by kernel_rfl) (fun w h => h) ?_
        refine d_take 2 rfl (q_loadb_agg 1 rfl ag57 sz57 rfl rfl rfl rfl) rfl rfl (by kernel_rfl) (by kernel_rfl) (by kernel_rfl) (fun w h => h) ?_
        refine d_join (σ := ((Sl v13.length) × (Sl v14.length) × (Sl v15.length) × (Sl v16.length)) × ((Ln v18.length v13.length) × (Ln v19.length v14.length) × (Ln v20.length v15.length)) × Nat) 0 #[true, true, true, true, true, true, true, true, true, true] (fun s => [(4, (pt x3)), (7, (pt s.2.2)), (8, (i6 v17))]) (fun s => .box s.2.2 29 [(.slice s.1.1.A s.1.1.n s.1.1.c), (.slice s.1.2.1.A s.1.2.1.n s.1.2.1.c), (.slice s.1.2.2.1.A s.1.2.2.1.n s.1.2.2.1.c), (.slice s.1.2.2.2.A s.1.2.2.2.n s.1.2.2.2.c)] :: .row s.1.1.A s.1.1.c 3 1 (ii v18) :: .row s.1.2.1.A s.1.2.1.c 3 1 (ii v19) :: .row s.1.2.2.1.A s.1.2.2.1.c 3 1 (ii v20) :: .row s.1.2.2.2.A s.1.2.2.2.c 3 1 (ii v16) :: .box x3 29 [(.slice none 0 0), (.slice none 0 0), (.slice none 0 0), (.slice none 0 0)] :: .box x2 57 [(i6 a1_0), (i6 a1_1), (i6 a1_2)] :: .box x1 29 [(.slice a0_0_A a0_0_n a0_0_c), (.slice a0_1_A a0_1_n a0_1_c), (.slice a0_2_A a0_2_n a0_2_c), (.slice a0_3_A a0_3_n a0_3_c)] :: F) ?_ (fun hD1023 => ?_)
        · rintro ⟨x9, x10, x11⟩
          show J _ _ [(4, (pt x3)), (7, (pt x11)), (8, (i6 v17))] _ (.box x11 29 [(.slice x9.1.A x9.1.n x9.1.c), (.slice x9.2.1.A x9.2.1.n x9.2.1.c), (.slice x9.2.2.1.A x9.2.2.1.n x9.2.2.1.c), (.slice x9.2.2.2.A x9.2.2.2.n x9.2.2.2.c)] :: .row x9.1.A x9.1.c 3 1 (ii v18) :: .row x9.2.1.A x9.2.1.c 3 1 (ii v19) :: .row x9.2.2.1.A x9.2.2.1.c 3 1 (ii v20) :: .row x9.2.2.2.A x9.2.2.2.c 3 1 (ii v16) :: .box x3 29 [(.slice none 0 0), (.slice none 0 0), (.slice none 0 0), (.slice none 0 0)] :: .box x2 57 [(i6 a1_0), (i6 a1_1), (i6 a1_2)] :: .box x1 29 [(.slice a0_0_A a0_0_n a0_0_c), (.slice a0_1_A a0_1_n a0_1_c), (.slice a0_2_A a0_2_n a0_2_c), (.slice a0_3_A a0_3_n a0_3_c)] :: F)
          refine d_done (by kernel_rfl) ?_
          refine j_then ?_
          refine j_seq ?_
          refine j_region ?_
          refine r_q (q_loadb_agg 0 rfl ag29 sz29 rfl rfl rfl rfl) rfl rfl ?_
          refine r_q (q_move rfl rfl) rfl rfl ?_
          refine r_do (a_storeb 5 rfl sz29 rfl rfl rfl rfl (Nat.le_of_ble_eq_true rfl) rfl) rfl rfl (fun _ => ?_)
          refine j_b5 [(.slice x9.1.A x9.1.n x9.1.c), (.slice x9.2.1.A x9.2.1.n x9.2.1.c), (.slice x9.2.2.1.A x9.2.2.1.n x9.2.2.1.c), (.slice x9.2.2.2.A x9.2.2.2.n x9.2.2.2.c)] rfl ?_
          refine r_q (q_assign rfl rfl) rfl rfl ?_
          refine r_q (q_assign rfl rfl) rfl rfl ?_
          refine r_nil ?_
          refine j_then ?_
          refine j_ret ?_
          refine j_then_ret ?_
          cases h
          exact j_return rfl (ResOf.cell 5 rfl rfl ag29 sz29 (ResOf.tmp rfl (ResOf.tmp rfl ResOf.nil))) rfl (fun w h => ⟨(⟨x9.1.A, x9.1.n, x9.1.c, (x10.1.h.trans x9.1.h)⟩, ⟨x9.2.1.A, x9.2.1.n, x9.2.1.c, (x10.2.1.h.trans x9.2.1.h)⟩, ⟨x9.2.2.1.A, x9.2.2.1.n, x9.2.2.1.c, (x10.2.2.h.trans x9.2.2.1.h)⟩, ⟨x9.2.2.2.A, x9.2.2.2.n, x9.2.2.2.c, x9.2.2.2.h⟩), rfl, h.pick 8 [1, 2, 3, 4] rfl⟩)
        refine d_join (σ := ((Sl v13.length) × (Sl v14.length) × (Sl v15.length) × (Sl v16.length)) × ((Ln v18.length v13.length) × (Ln v19.length v14.length) × (Ln v20.length v15.length)) × Nat) 2 #[true, true, true, true, true, true, true, true, false, false] (fun s => [(4, (pt x3)), (7, (pt s.2.2)), (33, (.agg (List.toArray [(.slice s.1.1.A s.1.1.n s.1.1.c), (.slice s.1.2.1.A s.1.2.1.n s.1.2.1.c), (.slice s.1.2.2.1.A s.1.2.2.1.n s.1.2.2.1.c), (.slice s.1.2.2.2.A s.1.2.2.2.n s.1.2.2.2.c)]))), (34, (i6 v17))]) (fun s => .box s.2.2 29 [(.slice none 0 0), (.slice none 0 0), (.slice none 0 0), (.slice none 0 0)] :: .row s.1.1.A s.1.1.c 3 1 (ii v18) :: .row s.1.2.1.A s.1.2.1.c 3 1 (ii v19) :: .row s.1.2.2.1.A s.1.2.2.1.c 3 1 (ii v20) :: .row s.1.2.2.2.A s.1.2.2.2.c 3 1 (ii v16) :: .box x3 29 [(.slice none 0 0), (.slice none 0 0), (.slice none 0 0), (.slice none 0 0)] :: .box x2 57 [(i6 a1_0), (i6 a1_1), (i6 a1_2)] :: .box x1 29 [(.slice a0_0_A a0_0_n a0_0_c), (.slice a0_1_A a0_1_n a0_1_c), (.slice a0_2_A a0_2_n a0_2_c), (.slice a0_3_A a0_3_n a0_3_c)] :: F) ?_ (fun hD255 => ?_)
        · rintro ⟨x9, x10, x11⟩
          show J _ _ [(4, (pt x3)), (7, (pt x11)), (33, (.agg (List.toArray [(.slice x9.1.A x9.1.n x9.1.c), (.slice x9.2.1.A x9.2.1.n x9.2.1.c), (.slice x9.2.2.1.A x9.2.2.1.n x9.2.2.1.c), (.slice x9.2.2.2.A x9.2.2.2.n x9.2.2.2.c)]))), (34, (i6 v17))] _ (.box x11 29 [(.slice none 0 0), (.slice none 0 0), (.slice none 0 0), (.slice none 0 0)] :: .row x9.1.A x9.1.c 3 1 (ii v18) :: .row x9.2.1.A x9.2.1.c 3 1 (ii v19) :: .row x9.2.2.1.A x9.2.2.1.c 3 1 (ii v20) :: .row x9.2.2.2.A x9.2.2.2.c 3 1 (ii v16) :: .box x3 29 [(.slice none 0 0), (.slice none 0 0), (.slice none 0 0), (.slice none 0 0)] :: .box x2 57 [(i6 a1_0), (i6 a1_1), (i6 a1_2)] :: .box x1 29 [(.slice a0_0_A a0_0_n a0_0_c), (.slice a0_1_A a0_1_n a0_1_c), (.slice a0_2_A a0_2_n a0_2_c), (.slice a0_3_A a0_3_n a0_3_c)] :: F)
          refine d_one 8 (by kernel_rfl) ?_
          · refine o_do rfl (a_storeb 0 rfl sz29 rfl rfl rfl rfl (Nat.le_of_ble_eq_true rfl) rfl) rfl rfl (fun _ w h => (h.drop 5)) (fun _ => ?_)
            refine j_b0 [(.slice x9.1.A x9.1.n x9.1.c), (.slice x9.2.1.A x9.2.1.n x9.2.1.c), (.slice x9.2.2.1.A x9.2.2.1.n x9.2.2.1.c), (.slice x9.2.2.2.A x9.2.2.2.n x9.2.2.2.c)] rfl ?_
            refine d_take 9 rfl (q_assign rfl rfl) rfl rfl (by kernel_rfl) (by kernel_rfl) (by kernel_rfl) (fun w h => (h.drop 5)) ?_
            refine j_rs (.box x11 29 [(.slice x9.1.A x9.1.n x9.1.c), (.slice x9.2.1.A x9.2.1.n x9.2.1.c), (.slice x9.2.2.1.A x9.2.2.1.n x9.2.2.1.c), (.slice x9.2.2.2.A x9.2.2.2.n x9.2.2.2.c)] :: .row x9.1.A x9.1.c 3 1 (ii v18) :: .row x9.2.1.A x9.2.1.c 3 1 (ii v19) :: .row x9.2.2.1.A x9.2.2.1.c 3 1 (ii v20) :: .row x9.2.2.2.A x9.2.2.2.c 3 1 (ii v16) :: .box x3 29 [(.slice none 0 0), (.slice none 0 0), (.slice none 0 0), (.slice none 0 0)] :: .box x2 57 [(i6 a1_0), (i6 a1_1), (i6 a1_2)] :: .box x1 29 [(.slice a0_0_A a0_0_n a0_0_c), (.slice a0_1_A a0_1_n a0_1_c), (.slice a0_2_A a0_2_n a0_2_c), (.slice a0_3_A a0_3_n a0_3_c)] :: F) (fun _ h => h) ?_
            refine j_env [(4, (pt x3)), (7, (pt x11)), (8, (i6 v17))] ⟨rfl, rfl, rfl, trivial⟩ ?_
            exact hD1023 (x9, x10, x11)
        refine d_join (σ := ((Sl v13.length) × (Sl v14.length) × (Sl v15.length) × (Sl v16.length)) × ((Ln v18.length v13.length) × (Ln v19.length v14.length) × (Ln v20.length v15.length))) 3 #[true, true, true, true, true, true, true, false, false, false] (fun s => [(4, (pt x3)), (33, (.agg (List.toArray [(.slice s.1.1.A s.1.1.n s.1.1.c), (.slice s.1.2.1.A s.1.2.1.n s.1.2.1.c), (.slice s.1.2.2.1.A s.1.2.2.1.n s.1.2.2.1.c), (.slice s.1.2.2.2.A s.1.2.2.2.n s.1.2.2.2.c)]))), (34, (i6 v17))]) (fun s => .row s.1.1.A s.1.1.c 3 1 (ii v18) :: .row s.1.2.1.A s.1.2.1.c 3 1 (ii v19) :: .row s.1.2.2.1.A s.1.2.2.1.c 3 1 (ii v20) :: .row s.1.2.2.2.A s.1.2.2.2.c 3 1 (ii v16) :: .box x3 29 [(.slice none 0 0), (.slice none 0 0), (.slice none 0 0), (.slice none 0 0)] :: .box x2 57 [(i6 a1_0), (i6 a1_1), (i6 a1_2)] :: .box x1 29 [(.slice a0_0_A a0_0_n a0_0_c), (.slice a0_1_A a0_1_n a0_1_c), (.slice a0_2_A a0_2_n a0_2_c), (.slice a0_3_A a0_3_n a0_3_c)] :: F) ?_ (fun hD127 => ?_)
        · rintro ⟨x9, x10⟩
          show J _ _ [(4, (pt x3)), (33, (.agg (List.toArray [(.slice x9.1.A x9.1.n x9.1.c), (.slice x9.2.1.A x9.2.1.n x9.2.1.c), (.slice x9.2.2.1.A x9.2.2.1.n x9.2.2.1.c), (.slice x9.2.2.2.A x9.2.2.2.n x9.2.2.2.c)]))), (34, (i6 v17))] _ (.row x9.1.A x9.1.c 3 1 (ii v18) :: .row x9.2.1.A x9.2.1.c 3 1 (ii v19) :: .row x9.2.2.1.A x9.2.2.1.c 3 1 (ii v20) :: .row x9.2.2.2.A x9.2.2.2.c 3 1 (ii v16) :: .box x3 29 [(.slice none 0 0), (.slice none 0 0), (.slice none 0 0), (.slice none 0 0)] :: .box x2 57 [(i6 a1_0), (i6 a1_1), (i6 a1_2)] :: .box x1 29 [(.slice a0_0_A a0_0_n a0_0_c), (.slice a0_1_A a0_1_n a0_1_c), (.slice a0_2_A a0_2_n a0_2_c), (.slice a0_3_A a0_3_n a0_3_c)] :: F)
          refine d_one 7 (by kernel_rfl) ?_
          · refine o_do rfl (a_alloc zr29 rfl) rfl rfl (fun x11 w h => (h.drop 5)) (fun x11 => ?_)
            refine j_rs (.box x11 29 [(.slice none 0 0), (.slice none 0 0), (.slice none 0 0), (.slice none 0 0)] :: .row x9.1.A x9.1.c 3 1 (ii v18) :: .row x9.2.1.A x9.2.1.c 3 1 (ii v19) :: .row x9.2.2.1.A x9.2.2.1.c 3 1 (ii v20) :: .row x9.2.2.2.A x9.2.2.2.c 3 1 (ii v16) :: .box x3 29 [(.slice none 0 0), (.slice none 0 0), (.slice none 0 0), (.slice none 0 0)] :: .box x2 57 [(i6 a1_0), (i6 a1_1), (i6 a1_2)] :: .box x1 29 [(.slice a0_0_A a0_0_n a0_0_c), (.slice a0_1_A a0_1_n a0_1_c), (.slice a0_2_A a0_2_n a0_2_c), (.slice a0_3_A a0_3_n a0_3_c)] :: F) (fun _ h => h) ?_
            refine j_env [(4, (pt x3)), (7, (pt x11)), (33, (.agg (List.toArray [(.slice x9.1.A x9.1.n x9.1.c), (.slice x9.2.1.A x9.2.1.n x9.2.1.c), (.slice x9.2.2.1.A x9.2.2.1.n x9.2.2.1.c), (.slice x9.2.2.2.A x9.2.2.2.n x9.2.2.2.c)]))), (34, (i6 v17))] ⟨rfl, rfl, rfl, rfl, trivial⟩ ?_
            exact hD255 (x9, x10, x11)
        refine d_join (σ := ((Sl v13.length) × (Sl v14.length) × (Sl v15.length) × (Sl v16.length)) × Nat) 6 #[true, true, true, false, false, false, false, true, false, false] (fun s => [(4, (pt x3)), (7, (pt s.2)), (30, (.agg (List.toArray [(.slice s.1.1.A s.1.1.n s.1.1.c), (.slice s.1.2.1.A s.1.2.1.n s.1.2.1.c), (.slice s.1.2.2.1.A s.1.2.2.1.n s.1.2.2.1.c), (.slice s.1.2.2.2.A s.1.2.2.2.n s.1.2.2.2.c)]))), (31, (.agg (List.toArray [(i6 a1_0), (i6 a1_1), (i6 a1_2)])))]) (fun s => .box s.2 29 [(.slice none 0 0), (.slice none 0 0), (.slice none 0 0), (.slice none 0 0)] :: .row s.1.1.A s.1.1.c 3 1 (ii v13) :: .row s.1.2.1.A s.1.2.1.c 3 1 (ii v14) :: .row s.1.2.2.1.A s.1.2.2.1.c 3 1 (ii v15) :: .row s.1.2.2.2.A s.1.2.2.2.c 3 1 (ii v16) :: .box x3 29 [(.slice none 0 0), (.slice none 0 0), (.slice none 0 0), (.slice none 0 0)] :: .box x2 57 [(i6 a1_0), (i6 a1_1), (i6 a1_2)] :: .box x1 29 [(.slice a0_0_A a0_0_n a0_0_c), (.slice a0_1_A a0_1_n a0_1_c), (.slice a0_2_A a0_2_n a0_2_c), (.slice a0_3_A a0_3_n a0_3_c)] :: F) ?_ (fun hD135 => ?_)
        · rintro ⟨x9, x11⟩
          show J _ _ [(4, (pt x3)), (7, (pt x11)), (30, (.agg (List.toArray [(.slice x9.1.A x9.1.n x9.1.c), (.slice x9.2.1.A x9.2.1.n x9.2.1.c), (.slice x9.2.2.1.A x9.2.2.1.n x9.2.2.1.c), (.slice x9.2.2.2.A x9.2.2.2.n x9.2.2.2.c)]))), (31, (.agg (List.toArray [(i6 a1_0), (i6 a1_1), (i6 a1_2)])))] _ (.box x11 29 [(.slice none 0 0), (.slice none 0 0), (.slice none 0 0), (.slice none 0 0)] :: .row x9.1.A x9.1.c 3 1 (ii v13) :: .row x9.2.1.A x9.2.1.c 3 1 (ii v14) :: .row x9.2.2.1.A x9.2.2.1.c 3 1 (ii v15) :: .row x9.2.2.2.A x9.2.2.2.c 3 1 (ii v16) :: .box x3 29 [(.slice none 0 0), (.slice none 0 0), (.slice none 0 0), (.slice none 0 0)] :: .box x2 57 [(i6 a1_0), (i6 a1_1), (i6 a1_2)] :: .box x1 29 [(.slice a0_0_A a0_0_n a0_0_c), (.slice a0_1_A a0_1_n a0_1_c), (.slice a0_2_A a0_2_n a0_2_c), (.slice a0_3_A a0_3_n a0_3_c)] :: F)
          refine d_one 3 (by kernel_rfl) ?_
          · refine j_rs (.row x9.1.A x9.1.c 3 1 (ii v13) :: .row x9.2.1.A x9.2.1.c 3 1 (ii v14) :: .row x9.2.2.1.A x9.2.2.1.c 3 1 (ii v15) :: .box x11 29 [(.slice none 0 0), (.slice none 0 0), (.slice none 0 0), (.slice none 0 0)] :: .row x9.2.2.2.A x9.2.2.2.c 3 1 (ii v16) :: .box x3 29 [(.slice none 0 0), (.slice none 0 0), (.slice none 0 0), (.slice none 0 0)] :: .box x2 57 [(i6 a1_0), (i6 a1_1), (i6 a1_2)] :: .box x1 29 [(.slice a0_0_A a0_0_n a0_0_c), (.slice a0_1_A a0_1_n a0_1_c), (.slice a0_2_A a0_2_n a0_2_c), (.slice a0_3_A a0_3_n a0_3_c)] :: F) (fun _ h => h.pick 8 [1, 2, 3, 0, 4, 5, 6, 7] rfl) ?_
            refine o_do rfl (a_call ok82 rfl rfl rfl rfl (fun w hm => spec_l5Do.calls K v13 x9.1.A x9.1.n x9.1.c v14 x9.2.1.A x9.2.1.n x9.2.1.c v15 x9.2.2.1.A x9.2.2.1.n x9.2.2.1.c x9.2.2.2.A x9.2.2.2.n x9.2.2.2.c a1_0 a1_1 a1_2 hm x9.1.h x9.2.1.h x9.2.2.1.h hb6)) rfl rfl (fun x10 w h => (h.drop 5)) (fun x10 => ?_)
            refine d_take 4 rfl (q_move rfl rfl) rfl rfl (by kernel_rfl) (by kernel_rfl) (by kernel_rfl) (fun w h => (h.drop 5)) ?_
            refine d_take 5 rfl (q_extract rfl rfl rfl) rfl rfl (by kernel_rfl) (by kernel_rfl) (by kernel_rfl) (fun w h => (h.drop 5)) ?_
            refine d_take 6 rfl (q_extract rfl rfl rfl) rfl rfl (by kernel_rfl) (by kernel_rfl) (by kernel_rfl) (fun w h => (h.drop 5)) ?_
            refine j_rs (.box x11 29 [(.slice none 0 0), (.slice none 0 0), (.slice none 0 0), (.slice none 0 0)] :: .row x9.1.A x9.1.c 3 1 (ii v18) :: .row x9.2.1.A x9.2.1.c 3 1 (ii v19) :: .row x9.2.2.1.A x9.2.2.1.c 3 1 (ii v20) :: .row x9.2.2.2.A x9.2.2.2.c 3 1 (ii v16) :: .box x3 29 [(.slice none 0 0), (.slice none 0 0), (.slice none 0 0), (.slice none 0 0)] :: .box x2 57 [(i6 a1_0), (i6 a1_1), (i6 a1_2)] :: .box x1 29 [(.slice a0_0_A a0_0_n a0_0_c), (.slice a0_1_A a0_1_n a0_1_c), (.slice a0_2_A a0_2_n a0_2_c), (.slice a0_3_A a0_3_n a0_3_c)] :: F) (fun _ h => h.pick 8 [3, 0, 1, 2, 4, 5, 6, 7] rfl) ?_
            refine j_env [(4, (pt x3)), (7, (pt x11)), (33, (.agg (List.toArray [(.slice x9.1.A x9.1.n x9.1.c), (.slice x9.2.1.A x9.2.1.n x9.2.1.c), (.slice x9.2.2.1.A x9.2.2.1.n x9.2.2.1.c), (.slice x9.2.2.2.A x9.2.2.2.n x9.2.2.2.c)]))), (34, (i6 v17))] ⟨rfl, rfl, rfl, rfl, trivial⟩ ?_
            exact hD255 (x9, x10, x11)
        refine d_join (σ := ((Sl v13.length) × (Sl v14.length) × (Sl v15.length) × (Sl v16.length))) 7 #[true, true, true, false, false, false, false, false, false, false] (fun s => [(4, (pt x3)), (30, (.agg (List.toArray [(.slice s.1.A s.1.n s.1.c), (.slice s.2.1.A s.2.1.n s.2.1.c), (.slice s.2.2.1.A s.2.2.1.n s.2.2.1.c), (.slice s.2.2.2.A s.2.2.2.n s.2.2.2.c)]))), (31, (.agg (List.toArray [(i6 a1_0), (i6 a1_1), (i6 a1_2)])))]) (fun s => .row s.1.A s.1.c 3 1 (ii v13) :: .row s.2.1.A s.2.1.c 3 1 (ii v14) :: .row s.2.2.1.A s.2.2.1.c 3 1 (ii v15) :: .row s.2.2.2.A s.2.2.2.c 3 1 (ii v16) :: .box x3 29 [(.slice none 0 0), (.slice none 0 0), (.slice none 0 0), (.slice none 0 0)] :: .box x2 57 [(i6 a1_0), (i6 a1_1), (i6 a1_2)] :: .box x1 29 [(.slice a0_0_A a0_0_n a0_0_c), (.slice a0_1_A a0_1_n a0_1_c), (.slice a0_2_A a0_2_n a0_2_c), (.slice a0_3_A a0_3_n a0_3_c)] :: F) ?_ (fun hD7 => ?_)
        · rintro x9
          show J _ _ [(4, (pt x3)), (30, (.agg (List.toArray [(.slice x9.1.A x9.1.n x9.1.c), (.slice x9.2.1.A x9.2.1.n x9.2.1.c), (.slice x9.2.2.1.A x9.2.2.1.n x9.2.2.1.c), (.slice x9.2.2.2.A x9.2.2.2.n x9.2.2.2.c)]))), (31, (.agg (List.toArray [(i6 a1_0), (i6 a1_1), (i6 a1_2)])))] _ (.row x9.1.A x9.1.c 3 1 (ii v13) :: .row x9.2.1.A x9.2.1.c 3 1 (ii v14) :: .row x9.2.2.1.A x9.2.2.1.c 3 1 (ii v15) :: .row x9.2.2.2.A x9.2.2.2.c 3 1 (ii v16) :: .box x3 29 [(.slice none 0 0), (.slice none 0 0), (.slice none 0 0), (.slice none 0 0)] :: .box x2 57 [(i6 a1_0), (i6 a1_1), (i6 a1_2)] :: .box x1 29 [(.slice a0_0_A a0_0_n a0_0_c), (.slice a0_1_A a0_1_n a0_1_c), (.slice a0_2_A a0_2_n a0_2_c), (.slice a0_3_A a0_3_n a0_3_c)] :: F)
          refine d_two 3 7 (by kernel_rfl) ?_ ?_
          · refine o_do rfl (a_call ok82 rfl rfl rfl rfl (fun w hm => spec_l5Do.calls K v13 x9.1.A x9.1.n x9.1.c v14 x9.2.1.A x9.2.1.n x9.2.1.c v15 x9.2.2.1.A x9.2.2.1.n x9.2.2.1.c x9.2.2.2.A x9.2.2.2.n x9.2.2.2.c a1_0 a1_1 a1_2 hm x9.1.h x9.2.1.h x9.2.2.1.h hb6)) rfl rfl (fun x10 w h => (h.drop 4)) (fun x10 => ?_)
            refine d_take 4 rfl (q_move rfl rfl) rfl rfl (by kernel_rfl) (by kernel_rfl) (by kernel_rfl) (fun w h => (h.drop 4)) ?_
            refine d_take 5 rfl (q_extract rfl rfl rfl) rfl rfl (by kernel_rfl) (by kernel_rfl) (by kernel_rfl) (fun w h => (h.drop 4)) ?_
            refine d_take 6 rfl (q_extract rfl rfl rfl) rfl rfl (by kernel_rfl) (by kernel_rfl) (by kernel_rfl) (fun w h => (h.drop 4)) ?_
            refine j_rs (.row x9.1.A x9.1.c 3 1 (ii v18) :: .row x9.2.1.A x9.2.1.c 3 1 (ii v19) :: .row x9.2.2.1.A x9.2.2.1.c 3 1 (ii v20) :: .row x9.2.2.2.A x9.2.2.2.c 3 1 (ii v16) :: .box x3 29 [(.slice none 0 0), (.slice none 0 0), (.slice none 0 0), (.slice none 0 0)] :: .box x2 57 [(i6 a1_0), (i6 a1_1), (i6 a1_2)] :: .box x1 29 [(.slice a0_0_A a0_0_n a0_0_c), (.slice a0_1_A a0_1_n a0_1_c), (.slice a0_2_A a0_2_n a0_2_c), (.slice a0_3_A a0_3_n a0_3_c)] :: F) (fun _ h => h) ?_
            refine j_env [(4, (pt x3)), (33, (.agg (List.toArray [(.slice x9.1.A x9.1.n x9.1.c), (.slice x9.2.1.A x9.2.1.n x9.2.1.c), (.slice x9.2.2.1.A x9.2.2.1.n x9.2.2.1.c), (.slice x9.2.2.2.A x9.2.2.2.n x9.2.2.2.c)]))), (34, (i6 v17))] ⟨rfl, rfl, rfl, trivial⟩ ?_
            exact hD127 (x9, x10)
          · refine o_do rfl (a_alloc zr29 rfl) rfl rfl (fun x11 w h => (h.drop 5)) (fun x11 => ?_)
            refine j_rs (.box x11 29 [(.slice none 0 0), (.slice none 0 0), (.slice none 0 0), (.slice none 0 0)] :: .row x9.1.A x9.1.c 3 1 (ii v13) :: .row x9.2.1.A x9.2.1.c 3 1 (ii v14) :: .row x9.2.2.1.A x9.2.2.1.c 3 1 (ii v15) :: .row x9.2.2.2.A x9.2.2.2.c 3 1 (ii v16) :: .box x3 29 [(.slice none 0 0), (.slice none 0 0), (.slice none 0 0), (.slice none 0 0)] :: .box x2 57 [(i6 a1_0), (i6 a1_1), (i6 a1_2)] :: .box x1 29 [(.slice a0_0_A a0_0_n a0_0_c), (.slice a0_1_A a0_1_n a0_1_c), (.slice a0_2_A a0_2_n a0_2_c), (.slice a0_3_A a0_3_n a0_3_c)] :: F) (fun _ h => h) ?_
            refine j_env [(4, (pt x3)), (7, (pt x11)), (30, (.agg (List.toArray [(.slice x9.1.A x9.1.n x9.1.c), (.slice x9.2.1.A x9.2.1.n x9.2.1.c), (.slice x9.2.2.1.A x9.2.2.1.n x9.2.2.1.c), (.slice x9.2.2.2.A x9.2.2.2.n x9.2.2.2.c)]))), (31, (.agg (List.toArray [(i6 a1_0), (i6 a1_1), (i6 a1_2)])))] ⟨rfl, rfl, rfl, rfl, trivial⟩ ?_
            exact hD135 (x9, x11)
        refine d_join (σ := Nat) 7 #[true, false, true, false, false, false, false, true, false, false] (fun s => [(4, (pt x3)), (7, (pt s)), (29, (.agg (List.toArray [(.slice a0_0_A a0_0_n a0_0_c), (.slice a0_1_A a0_1_n a0_1_c), (.slice a0_2_A a0_2_n a0_2_c), (.slice a0_3_A a0_3_n a0_3_c)]))), (31, (.agg (List.toArray [(i6 a1_0), (i6 a1_1), (i6 a1_2)])))]) (fun s => .box s 29 [(.slice none 0 0), (.slice none 0 0), (.slice none 0 0), (.slice none 0 0)] :: .box x3 29 [(.slice none 0 0), (.slice none 0 0), (.slice none 0 0), (.slice none 0 0)] :: .box x2 57 [(i6 a1_0), (i6 a1_1), (i6 a1_2)] :: .box x1 29 [(.slice a0_0_A a0_0_n a0_0_c), (.slice a0_1_A a0_1_n a0_1_c), (.slice a0_2_A a0_2_n a0_2_c), (.slice a0_3_A a0_3_n a0_3_c)] :: F) ?_ (fun hD133 => ?_)
        · rintro x11
          show J _ _ [(4, (pt x3)), (7, (pt x11)), (29, (.agg (List.toArray [(.slice a0_0_A a0_0_n a0_0_c), (.slice a0_1_A a0_1_n a0_1_c), (.slice a0_2_A a0_2_n a0_2_c), (.slice a0_3_A a0_3_n a0_3_c)]))), (31, (.agg (List.toArray [(i6 a1_0), (i6 a1_1), (i6 a1_2)])))] _ (.box x11 29 [(.slice none 0 0), (.slice none 0 0), (.slice none 0 0), (.slice none 0 0)] :: .box x3 29 [(.slice none 0 0), (.slice none 0 0), (.slice none 0 0), (.slice none 0 0)] :: .box x2 57 [(i6 a1_0), (i6 a1_1), (i6 a1_2)] :: .box x1 29 [(.slice a0_0_A a0_0_n a0_0_c), (.slice a0_1_A a0_1_n a0_1_c), (.slice a0_2_A a0_2_n a0_2_c), (.slice a0_3_A a0_3_n a0_3_c)] :: F)
          refine d_one 1 (by kernel_rfl) ?_
          · refine o_do rfl (a_call ok68 rfl rfl rfl rfl (fun w hm => spec_l4Copy.calls K a0_0 a0_0_A a0_0_n a0_0_c a0_1 a0_1_A a0_1_n a0_1_c a0_2 a0_2_A a0_2_n a0_2_c a0_3 a0_3_A a0_3_n a0_3_c hm a0_0_h (Rd.drop 4 a0_0_R) a0_1_h (Rd.drop 4 a0_1_R) a0_2_h (Rd.drop 4 a0_2_R) a0_3_h (Rd.drop 4 a0_3_R) hb5)) rfl rfl (fun x9 w h => (h.drop 5)) (fun x9 => ?_)
            refine j_rs (.box x11 29 [(.slice none 0 0), (.slice none 0 0), (.slice none 0 0), (.slice none 0 0)] :: .row x9.1.A x9.1.c 3 1 (ii v13) :: .row x9.2.1.A x9.2.1.c 3 1 (ii v14) :: .row x9.2.2.1.A x9.2.2.1.c 3 1 (ii v15) :: .row x9.2.2.2.A x9.2.2.2.c 3 1 (ii v16) :: .box x3 29 [(.slice none 0 0), (.slice none 0 0), (.slice none 0 0), (.slice none 0 0)] :: .box x2 57 [(i6 a1_0), (i6 a1_1), (i6 a1_2)] :: .box x1 29 [(.slice a0_0_A a0_0_n a0_0_c), (.slice a0_1_A a0_1_n a0_1_c), (.slice a0_2_A a0_2_n a0_2_c), (.slice a0_3_A a0_3_n a0_3_c)] :: F) (fun _ h => h.pick 8 [4, 0, 1, 2, 3, 5, 6, 7] rfl) ?_
            refine j_env [(4, (pt x3)), (7, (pt x11)), (30, (.agg (List.toArray [(.slice x9.1.A x9.1.n x9.1.c), (.slice x9.2.1.A x9.2.1.n x9.2.1.c), (.slice x9.2.2.1.A x9.2.2.1.n x9.2.2.1.c), (.slice x9.2.2.2.A x9.2.2.2.n x9.2.2.2.c)]))), (31, (.agg (List.toArray [(i6 a1_0), (i6 a1_1), (i6 a1_2)])))] ⟨rfl, rfl, rfl, rfl, trivial⟩ ?_
            exact hD135 (x9, x11)
        refine d_two 1 7 (by kernel_rfl) ?_ ?_
        · refine o_do rfl (a_call ok68 rfl rfl rfl rfl (fun w hm => spec_l4Copy.calls K a0_0 a0_0_A a0_0_n a0_0_c a0_1 a0_1_A a0_1_n a0_1_c a0_2 a0_2_A a0_2_n a0_2_c a0_3 a0_3_A a0_3_n a0_3_c hm a0_0_h (Rd.drop 3 a0_0_R) a0_1_h (Rd.drop 3 a0_1_R) a0_2_h (Rd.drop 3 a0_2_R) a0_3_h (Rd.drop 3 a0_3_R) hb5)) rfl rfl (fun x9 w h => (h.drop 4)) (fun x9 => ?_)
          refine j_rs (.row x9.1.A x9.1.c 3 1 (ii v13) :: .row x9.2.1.A x9.2.1.c 3 1 (ii v14) :: .row x9.2.2.1.A x9.2.2.1.c 3 1 (ii v15) :: .row x9.2.2.2.A x9.2.2.2.c 3 1 (ii v16) :: .box x3 29 [(.slice none 0 0), (.slice none 0 0), (.slice none 0 0), (.slice none 0 0)] :: .box x2 57 [(i6 a1_0), (i6 a1_1), (i6 a1_2)] :: .box x1 29 [(.slice a0_0_A a0_0_n a0_0_c), (.slice a0_1_A a0_1_n a0_1_c), (.slice a0_2_A a0_2_n a0_2_c), (.slice a0_3_A a0_3_n a0_3_c)] :: F) (fun _ h => h) ?_
          refine j_env [(4, (pt x3)), (30, (.agg (List.toArray [(.slice x9.1.A x9.1.n x9.1.c), (.slice x9.2.1.A x9.2.1.n x9.2.1.c), (.slice x9.2.2.1.A x9.2.2.1.n x9.2.2.1.c), (.slice x9.2.2.2.A x9.2.2.2.n x9.2.2.2.c)]))), (31, (.agg (List.toArray [(i6 a1_0), (i6 a1_1), (i6 a1_2)])))] ⟨rfl, rfl, rfl, trivial⟩ ?_
          exact hD7 x9
        · refine o_do rfl (a_alloc zr29 rfl) rfl rfl (fun x11 w h => h.tail) (fun x11 => ?_)
          refine j_rs (.box x11 29 [(.slice none 0 0), (.slice none 0 0), (.slice none 0 0), (.slice none 0 0)] :: .box x3 29 [(.slice none 0 0), (.slice none 0 0), (.slice none 0 0), (.slice none 0 0)] :: .box x2 57 [(i6 a1_0), (i6 a1_1), (i6 a1_2)] :: .box x1 29 [(.slice a0_0_A a0_0_n a0_0_c), (.slice a0_1_A a0_1_n a0_1_c), (.slice a0_2_A a0_2_n a0_2_c), (.slice a0_3_A a0_3_n a0_3_c)] :: F) (fun _ h => h) ?_
          refine j_env [(4, (pt x3)), (7, (pt x11)), (29, (.agg (List.toArray [(.slice a0_0_A a0_0_n a0_0_c), (.slice a0_1_A a0_1_n a0_1_c), (.slice a0_2_A a0_2_n a0_2_c), (.slice a0_3_A a0_3_n a0_3_c)]))), (31, (.agg (List.toArray [(i6 a1_0), (i6 a1_1), (i6 a1_2)])))] ⟨rfl, rfl, rfl, rfl, trivial⟩ ?_
          exact hD133 x11
    · refine j_true rfl (not_t (var_f c2)) ?_
      refine j_seq ?_
      refine j_region ?_
      refine r_q (q_build (cs := [(.slice none 0 0), (.slice none 0 0), (.slice none 0 0), (.slice none 0 0)]) zr29 pl29 rfl rfl rfl rfl) rfl rfl ?_
      refine r_do (a_storeb 0 rfl sz29 rfl rfl rfl rfl (Nat.le_of_ble_eq_true rfl) rfl) rfl rfl (fun _ => ?_)
      refine j_b0 [(.slice none 0 0), (.slice none 0 0), (.slice none 0 0), (.slice none 0 0)] rfl ?_
      refine r_q (q_assign rfl rfl) rfl rfl ?_
      refine r_q (q_assign rfl rfl) rfl rfl ?_
      refine r_nil ?_
      refine j_then ?_
      refine j_ret ?_
      refine j_then_ret ?_
      refine j_nil 3 1 ?_
      refine j_nil 3 1 ?_
      refine j_nil 3 1 ?_
      refine j_nil 3 1 ?_
      cases h
      exact j_return rfl (ResOf.cell 4 rfl rfl ag29 sz29 (ResOf.tmp rfl (ResOf.tmp rfl ResOf.nil))) rfl (fun w h => ⟨(⟨none, 0, 0, rfl⟩, ⟨none, 0, 0, rfl⟩, ⟨none, 0, 0, rfl⟩, ⟨none, 0, 0, rfl⟩), rfl, h.pick 7 [3, 2, 1, 0] rfl⟩)
  · refine r_off rfl rfl rfl rfl (not_t (var_f c1)) rfl ?_
    refine r_off rfl rfl rfl rfl (not_t (var_f c1)) rfl ?_
    refine r_off rfl rfl rfl rfl (not_t (var_f c1)) rfl ?_
    refine r_off rfl rfl rfl rfl (not_t (var_f c1)) rfl ?_
    refine r_off rfl rfl rfl rfl (not_t (var_f c1)) rfl ?_
    refine r_off rfl rfl rfl rfl (not_t (var_f c1)) rfl ?_
    refine r_off rfl rfl rfl rfl (not_t (var_f c1)) rfl ?_
    refine r_q (q_pick_t rfl rfl (not_t (var_f c1)) rfl) rfl rfl ?_
    refine r_nil ?_
    refine j_then ?_
    refine j_true rfl rfl ?_
    refine j_seq ?_
    refine j_region ?_
    refine r_q (q_build (cs := [(.slice none 0 0), (.slice none 0 0), (.slice none 0 0), (.slice none 0 0)]) zr29 pl29 rfl rfl rfl rfl) rfl rfl ?_
    refine r_do (a_storeb 0 rfl sz29 rfl rfl rfl rfl (Nat.le_of_ble_eq_true rfl) rfl) rfl rfl (fun _ => ?_)
    refine j_b0 [(.slice none 0 0), (.slice none 0 0), (.slice none 0 0), (.slice none 0 0)] rfl ?_
    refine r_q (q_assign rfl rfl) rfl rfl ?_
    refine r_q (q_assign rfl rfl) rfl rfl ?_
    refine r_nil ?_
    refine j_then ?_
    refine j_ret ?_
    refine j_then_ret ?_
    refine j_nil 3 1 ?_
    refine j_nil 3 1 ?_
    refine j_nil 3 1 ?_
    refine j_nil 3 1 ?_
    cases h
    exact j_return rfl (ResOf.cell 4 rfl rfl ag29 sz29 (ResOf.tmp rfl (ResOf.tmp rfl ResOf.nil))) rfl (fun w h => ⟨(⟨none, 0, 0, rfl⟩, ⟨none, 0, 0, rfl⟩, ⟨none, 0, 0, rfl⟩, ⟨none, 0, 0, rfl⟩), rfl, h.pick 7 [3, 2, 1, 0] rfl⟩)

end Go.Proofs.Ytigidjhdcplplaa.F
