/- The program computes these pure functions, printed by the generator of wip/gen. -/
import Derived.Test.YtigidjhdcplplaaFa
import Derived.Test.YtigidjhdcplplaaFg
import Derived.Test.YtigidjhdcplplaaFb
import Derived.Test.YtigidjhdcplplaaC0
import Derived.Test.YtigidjhdcplplaaC1
import Derived.Test.YtigidjhdcplplaaC15
namespace Go.Proofs.Ytigidjhdcplplaa.F
open Go Go.RowKit Go.Proofs.Ytigidjhdcplplaa.S
set_option linter.unusedVariables false
set_option maxRecDepth 100000
theorem impl_TargetOf.calls (K : Nat) (a0_0 : List Int) (a0_0_A : Option Addr) (a0_0_n a0_0_c : Nat) (a0_1 : List Int) (a0_1_A : Option Addr) (a0_1_n a0_1_c : Nat) (a0_2 : List Int) (a0_2_A : Option Addr) (a0_2_n a0_2_c : Nat) (a0_3 : List Int) (a0_3_A : Option Addr) (a0_3_n a0_3_c : Nat) (a1_0 : Int) (a1_1 : Int) (a1_2 : Int) {w0 w : World} {F : List Res} {r1 : Int} (hm : Mem w0 (F) w) (a0_0_h : a0_0.length = a0_0_n) (a0_0_R : Rd w0 F a0_0_A (ii a0_0)) (a0_1_h : a0_1.length = a0_1_n) (a0_1_R : Rd w0 F a0_1_A (ii a0_1)) (a0_2_h : a0_2.length = a0_2_n) (a0_2_R : Rd w0 F a0_2_A (ii a0_2)) (a0_3_h : a0_3.length = a0_3_n) (a0_3_R : Rd w0 F a0_3_A (ii a0_3)) (a0_3_k : a0_3.length ≤ a0_3_c) (h : impl_TargetOf.f K a0_0 a0_1 a0_2 a0_3 a1_0 a1_1 a1_2 = some r1) :
    Calls Try.prog 44 (List.toArray [.agg (List.toArray [.slice a0_0_A a0_0_n a0_0_c, .slice a0_1_A a0_1_n a0_1_c, .slice a0_2_A a0_2_n a0_2_c, .slice a0_3_A a0_3_n a0_3_c]), .agg (List.toArray [i6 a1_0, i6 a1_1, i6 a1_2])]) w fun e w' => ∃ x : Unit, e = .returned (i6 r1) ∧ Mem w0 (F) w' := by
  unfold impl_TargetOf.f at h
  refine calls_of_J (n := 44) Try.func44 rfl rfl rfl hm ?_
  refine j_seq ?_
  refine j_region ?_
  refine r_do (a_box rfl rfl) rfl rfl (fun x1 => ?_)
  refine r_do (a_box rfl rfl) rfl rfl (fun x2 => ?_)
  refine r_q (q_assign rfl rfl) rfl rfl ?_
  refine r_nil ?_
  refine j_then ?_
  refine j_seq ?_
  refine j_seq ?_
  refine j_region ?_
  refine r_q (q_loadb_agg 1 rfl ag29 sz29 rfl rfl rfl rfl) rfl rfl ?_
  obtain ⟨v1, hb1, h⟩ := of_b1 h
  refine r_do (a_call ok22 rfl rfl rfl rfl (fun w hm => impl_StoreValid.calls K a0_0 a0_0_A a0_0_n a0_0_c a0_1 a0_1_A a0_1_n a0_1_c a0_2 a0_2_A a0_2_n a0_2_c a0_3 a0_3_A a0_3_n a0_3_c hm a0_0_h (Rd.drop 2 a0_0_R) a0_1_h (Rd.drop 2 a0_1_R) a0_2_h (Rd.drop 2 a0_2_R) a0_3_h (Rd.drop 2 a0_3_R) a0_3_k hb1)) rfl rfl (fun x3 => ?_)
  refine r_q (q_not rfl rfl) rfl rfl ?_
  refine r_q (q_move rfl rfl) rfl rfl ?_
  rcases of_if h with ⟨c1, h⟩ | ⟨c1, h⟩
  · refine r_qon (q_loadb_agg 0 rfl ag57 sz57 rfl rfl rfl rfl) rfl rfl rfl rfl (not_f c1) rfl ?_
    refine r_qon (q_fieldAddr fi29_0 sz27 rfl rfl rfl) rfl rfl rfl rfl (not_f c1) rfl ?_
    refine r_qon (q_fieldAddr fi27_2 sz25 rfl rfl rfl) rfl rfl rfl rfl (not_f c1) rfl ?_
    refine r_qon (q_loadb 1 rfl ag25 rfl rfl rfl) rfl rfl rfl rfl (not_f c1) rfl ?_
    refine r_qon (q_lenX a0_2 a0_2_h un25 rfl rfl rfl rfl rfl) rfl rfl rfl rfl (not_f c1) rfl ?_
    obtain ⟨v2, hb2, h⟩ := of_b1 h
    refine r_on (a_call ok79 rfl rfl rfl rfl (fun w hm => impl_OpValid.calls K a1_0 a1_1 a1_2 (a0_2.length : Int) hm hb2)) rfl rfl rfl rfl (not_f c1) rfl (fun x4 => ?_)
    refine r_qon (q_not rfl rfl) rfl rfl rfl rfl (not_f c1) rfl ?_
    refine r_q (q_pick_f rfl rfl (not_f c1) rfl) rfl rfl ?_
    refine r_q (q_move rfl rfl) rfl rfl ?_
    rcases of_if h with ⟨c2, h⟩ | ⟨c2, h⟩
    · refine r_qon (q_fieldAddr fi57_0 sz3 rfl rfl rfl) rfl rfl rfl rfl (not_f c2) rfl ?_
      refine r_qon (q_loadb 0 rfl ag3 rfl rfl rfl) rfl rfl rfl rfl (not_f c2) rfl ?_
      refine r_qon (q_neq rfl rfl rfl) rfl rfl rfl rfl (not_f c2) rfl ?_
      refine r_qon (q_move rfl rfl) rfl rfl rfl rfl (not_f c2) rfl ?_
      rcases of_if h with ⟨c3, h⟩ | ⟨c3, h⟩
      · refine r_off rfl rfl rfl rfl (bne_f c3) rfl ?_
        refine r_off rfl rfl rfl rfl (bne_f c3) rfl ?_
        refine r_off rfl rfl rfl rfl (bne_f c3) rfl ?_
        refine r_qon (q_pick_f rfl rfl (bne_f c3) rfl) rfl rfl rfl rfl (not_f c2) rfl ?_
        refine r_q (q_pick_f rfl rfl (not_f c2) rfl) rfl rfl ?_
        refine r_q (q_move rfl rfl) rfl rfl ?_
        refine r_qon (q_fieldAddr fi29_0 sz27 rfl rfl rfl) rfl rfl rfl rfl rfl rfl ?_
        refine r_qon (q_fieldAddr fi27_2 sz25 rfl rfl rfl) rfl rfl rfl rfl rfl rfl ?_
        refine r_qon (q_loadb 1 rfl ag25 rfl rfl rfl) rfl rfl rfl rfl rfl rfl ?_
        refine r_qon (q_fieldAddr fi57_1 sz3 rfl rfl rfl) rfl rfl rfl rfl rfl rfl ?_
        refine r_qon (q_loadb 0 rfl ag3 rfl rfl rfl) rfl rfl rfl rfl rfl rfl ?_
        obtain ⟨c4, h⟩ := of_guard h
        refine r_qon (q_ix (Rd.drop 2 a0_2_R) (ints_len1 _ a0_2) (by decide) a0_2_h c4 un25 sz3 rfl rfl rfl) rfl rfl rfl rfl rfl rfl ?_
        refine r_qon (q_ldI (Rd.drop 2 a0_2_R) c4 ag3 rfl rfl) rfl rfl rfl rfl rfl rfl ?_
        refine r_qon (q_eql rfl rfl rfl) rfl rfl rfl rfl rfl rfl ?_
        refine r_q (q_pick_f rfl rfl rfl rfl) rfl rfl ?_
        refine r_nil ?_
        refine j_then ?_
        rcases of_if h with ⟨c5, h⟩ | ⟨c5, h⟩
        · refine j_true rfl (beq_t c5) ?_
          refine j_seq ?_
          refine j_region ?_
          refine r_q (q_assign rfl rfl) rfl rfl ?_
          refine r_nil ?_
          refine j_then ?_
          refine j_ret ?_
          refine j_then_ret ?_
          cases h
          exact j_return rfl (ResOf.tmp rfl ResOf.nil) rfl (fun w h => ⟨(), rfl, (h.drop 2)⟩)
        · refine j_false rfl (beq_f c5) ?_
          refine j_skip ?_
          refine j_then ?_
          refine j_seq ?_
          refine j_region ?_
          refine r_q (q_fieldAddr fi29_0 sz27 rfl rfl rfl) rfl rfl ?_
          refine r_q (q_fieldAddr fi27_2 sz25 rfl rfl rfl) rfl rfl ?_
          refine r_q (q_loadb 1 rfl ag25 rfl rfl rfl) rfl rfl ?_
          refine r_q (q_fieldAddr fi57_2 sz3 rfl rfl rfl) rfl rfl ?_
          refine r_q (q_loadb 0 rfl ag3 rfl rfl rfl) rfl rfl ?_
          obtain ⟨c6, h⟩ := of_guard h
          refine r_q (q_ix (Rd.drop 2 a0_2_R) (ints_len1 _ a0_2) (by decide) a0_2_h c6 un25 sz3 rfl rfl rfl) rfl rfl ?_
          refine r_q (q_ldI (Rd.drop 2 a0_2_R) c6 ag3 rfl rfl) rfl rfl ?_
          refine r_q (q_assign rfl rfl) rfl rfl ?_
          refine r_nil ?_
          refine j_then ?_
          refine j_ret ?_
          cases h
          exact j_return rfl (ResOf.tmp rfl ResOf.nil) rfl (fun w h => ⟨(), rfl, (h.drop 2)⟩)
      · refine r_qon (q_fieldAddr fi57_0 sz3 rfl rfl rfl) rfl rfl rfl rfl (bne_t c3) rfl ?_
        refine r_qon (q_loadb 0 rfl ag3 rfl rfl rfl) rfl rfl rfl rfl (bne_t c3) rfl ?_
        refine r_qon (q_neq rfl rfl rfl) rfl rfl rfl rfl (bne_t c3) rfl ?_
        refine r_qon (q_pick_t rfl rfl (bne_t c3) rfl) rfl rfl rfl rfl (not_f c2) rfl ?_
        refine r_q (q_pick_f rfl rfl (not_f c2) rfl) rfl rfl ?_
        refine r_q (q_move rfl rfl) rfl rfl ?_
        rcases of_if h with ⟨c7, h⟩ | ⟨c7, h⟩
        · refine r_qon (q_fieldAddr fi29_0 sz27 rfl rfl rfl) rfl rfl rfl rfl (bne_f c7) rfl ?_
          refine r_qon (q_fieldAddr fi27_2 sz25 rfl rfl rfl) rfl rfl rfl rfl (bne_f c7) rfl ?_
          refine r_qon (q_loadb 1 rfl ag25 rfl rfl rfl) rfl rfl rfl rfl (bne_f c7) rfl ?_
          refine r_qon (q_fieldAddr fi57_1 sz3 rfl rfl rfl) rfl rfl rfl rfl (bne_f c7) rfl ?_
          refine r_qon (q_loadb 0 rfl ag3 rfl rfl rfl) rfl rfl rfl rfl (bne_f c7) rfl ?_
          obtain ⟨c8, h⟩ := of_guard h
          refine r_qon (q_ix (Rd.drop 2 a0_2_R) (ints_len1 _ a0_2) (by decide) a0_2_h c8 un25 sz3 rfl rfl rfl) rfl rfl rfl rfl (bne_f c7) rfl ?_
          refine r_qon (q_ldI (Rd.drop 2 a0_2_R) c8 ag3 rfl rfl) rfl rfl rfl rfl (bne_f c7) rfl ?_
          refine r_qon (q_eql rfl rfl rfl) rfl rfl rfl rfl (bne_f c7) rfl ?_
          refine r_q (q_pick_f rfl rfl (bne_f c7) rfl) rfl rfl ?_
          refine r_nil ?_
          refine j_then ?_
          rcases of_if h with ⟨c9, h⟩ | ⟨c9, h⟩
          · refine j_true rfl (beq_t c9) ?_
            refine j_seq ?_
            refine j_region ?_
            refine r_q (q_assign rfl rfl) rfl rfl ?_
            refine r_nil ?_
            refine j_then ?_
            refine j_ret ?_
            refine j_then_ret ?_
            cases h
            exact j_return rfl (ResOf.tmp rfl ResOf.nil) rfl (fun w h => ⟨(), rfl, (h.drop 2)⟩)
          · refine j_false rfl (beq_f c9) ?_
            refine j_skip ?_
            refine j_then ?_
            refine j_seq ?_
            refine j_region ?_
            refine r_q (q_fieldAddr fi29_0 sz27 rfl rfl rfl) rfl rfl ?_
            refine r_q (q_fieldAddr fi27_2 sz25 rfl rfl rfl) rfl rfl ?_
            refine r_q (q_loadb 1 rfl ag25 rfl rfl rfl) rfl rfl ?_
            refine r_q (q_fieldAddr fi57_2 sz3 rfl rfl rfl) rfl rfl ?_
            refine r_q (q_loadb 0 rfl ag3 rfl rfl rfl) rfl rfl ?_
            obtain ⟨c10, h⟩ := of_guard h
            refine r_q (q_ix (Rd.drop 2 a0_2_R) (ints_len1 _ a0_2) (by decide) a0_2_h c10 un25 sz3 rfl rfl rfl) rfl rfl ?_
            refine r_q (q_ldI (Rd.drop 2 a0_2_R) c10 ag3 rfl rfl) rfl rfl ?_
            refine r_q (q_assign rfl rfl) rfl rfl ?_
            refine r_nil ?_
            refine j_then ?_
            refine j_ret ?_
            cases h
            exact j_return rfl (ResOf.tmp rfl ResOf.nil) rfl (fun w h => ⟨(), rfl, (h.drop 2)⟩)
        · refine r_off rfl rfl rfl rfl (bne_t c7) rfl ?_
          refine r_off rfl rfl rfl rfl (bne_t c7) rfl ?_
          refine r_off rfl rfl rfl rfl (bne_t c7) rfl ?_
          refine r_off rfl rfl rfl rfl (bne_t c7) rfl ?_
          refine r_off rfl rfl rfl rfl (bne_t c7) rfl ?_
          refine r_off rfl rfl rfl rfl (bne_t c7) rfl ?_
          refine r_off rfl rfl rfl rfl (bne_t c7) rfl ?_
          refine r_off rfl rfl rfl rfl (bne_t c7) rfl ?_
          refine r_q (q_pick_t rfl rfl (bne_t c7) rfl) rfl rfl ?_
          refine r_nil ?_
          refine j_then ?_
          refine j_true rfl rfl ?_
          refine j_seq ?_
          refine j_region ?_
          refine r_q (q_assign rfl rfl) rfl rfl ?_
          refine r_nil ?_
          refine j_then ?_
          refine j_ret ?_
          refine j_then_ret ?_
          cases h
          exact j_return rfl (ResOf.tmp rfl ResOf.nil) rfl (fun w h => ⟨(), rfl, (h.drop 2)⟩)
    · refine r_off rfl rfl rfl rfl (not_t (var_f c2)) rfl ?_
      refine r_off rfl rfl rfl rfl (not_t (var_f c2)) rfl ?_
      refine r_off rfl rfl rfl rfl (not_t (var_f c2)) rfl ?_
      refine r_off rfl rfl rfl rfl (not_t (var_f c2)) rfl ?_
      refine r_offu rfl rfl rfl rfl rfl ?_
      refine r_offu rfl rfl rfl rfl rfl ?_
      refine r_offu rfl rfl rfl rfl rfl ?_
      refine r_off rfl rfl rfl rfl (not_t (var_f c2)) rfl ?_
      refine r_q (q_pick_t rfl rfl (not_t (var_f c2)) rfl) rfl rfl ?_
      refine r_q (q_move rfl rfl) rfl rfl ?_
      refine r_off rfl rfl rfl rfl rfl rfl ?_
      refine r_off rfl rfl rfl rfl rfl rfl ?_
      refine r_off rfl rfl rfl rfl rfl rfl ?_
      refine r_off rfl rfl rfl rfl rfl rfl ?_
      refine r_off rfl rfl rfl rfl rfl rfl ?_
      refine r_off rfl rfl rfl rfl rfl rfl ?_
      refine r_off rfl rfl rfl rfl rfl rfl ?_
      refine r_off rfl rfl rfl rfl rfl rfl ?_
      refine r_q (q_pick_t rfl rfl rfl rfl) rfl rfl ?_
      refine r_nil ?_
      refine j_then ?_
      refine j_true rfl rfl ?_
      refine j_seq ?_
      refine j_region ?_
      refine r_q (q_assign rfl rfl) rfl rfl ?_
      refine r_nil ?_
      refine j_then ?_
      refine j_ret ?_
      refine j_then_ret ?_
      cases h
      exact j_return rfl (ResOf.tmp rfl ResOf.nil) rfl (fun w h => ⟨(), rfl, (h.drop 2)⟩)
  · refine r_off rfl rfl rfl rfl (not_t (var_f c1)) rfl ?_
    refine r_off rfl rfl rfl rfl (not_t (var_f c1)) rfl ?_
    refine r_off rfl rfl rfl rfl (not_t (var_f c1)) rfl ?_
    refine r_off rfl rfl rfl rfl (not_t (var_f c1)) rfl ?_
    refine r_off rfl rfl rfl rfl (not_t (var_f c1)) rfl ?_
    refine r_off rfl rfl rfl rfl (not_t (var_f c1)) rfl ?_
    refine r_off rfl rfl rfl rfl (not_t (var_f c1)) rfl ?_
    refine r_q (q_pick_t rfl rfl (not_t (var_f c1)) rfl) rfl rfl ?_
    refine r_q (q_move rfl rfl) rfl rfl ?_
    refine r_off rfl rfl rfl rfl rfl rfl ?_
    refine r_off rfl rfl rfl rfl rfl rfl ?_
    refine r_off rfl rfl rfl rfl rfl rfl ?_
    refine r_off rfl rfl rfl rfl rfl rfl ?_
    refine r_offu rfl rfl rfl rfl rfl ?_
    refine r_offu rfl rfl rfl rfl rfl ?_
    refine r_offu rfl rfl rfl rfl rfl ?_
    refine r_off rfl rfl rfl rfl rfl rfl ?_
    refine r_q (q_pick_t rfl rfl rfl rfl) rfl rfl ?_
    refine r_q (q_move rfl rfl) rfl rfl ?_
    refine r_off rfl rfl rfl rfl rfl rfl ?_
    refine r_off rfl rfl rfl rfl rfl rfl ?_
    refine r_off rfl rfl rfl rfl rfl rfl ?_
    refine r_off rfl rfl rfl rfl rfl rfl ?_
    refine r_off rfl rfl rfl rfl rfl rfl ?_
    refine r_off rfl rfl rfl rfl rfl rfl ?_
    refine r_off rfl rfl rfl rfl rfl rfl ?_
    refine r_off rfl rfl rfl rfl rfl rfl ?_
    refine r_q (q_pick_t rfl rfl rfl rfl) rfl rfl ?_
    refine r_nil ?_
    refine j_then ?_
    refine j_true rfl rfl ?_
    refine j_seq ?_
    refine j_region ?_
    refine r_q (q_assign rfl rfl) rfl rfl ?_
    refine r_nil ?_
    refine j_then ?_
    refine j_ret ?_
    refine j_then_ret ?_
    cases h
    exact j_return rfl (ResOf.tmp rfl ResOf.nil) rfl (fun w h => ⟨(), rfl, (h.drop 2)⟩)

theorem spec_TargetOf.calls (K : Nat) (a0_0 : List Int) (a0_0_A : Option Addr) (a0_0_n a0_0_c : Nat) (a0_1 : List Int) (a0_1_A : Option Addr) (a0_1_n a0_1_c : Nat) (a0_2 : List Int) (a0_2_A : Option Addr) (a0_2_n a0_2_c : Nat) (a0_3 : List Int) (a0_3_A : Option Addr) (a0_3_n a0_3_c : Nat) (a1_0 : Int) (a1_1 : Int) (a1_2 : Int) {w0 w : World} {F : List Res} {r1 : Int} (hm : Mem w0 (F) w) (a0_0_h : a0_0.length = a0_0_n) (a0_0_R : Rd w0 F a0_0_A (ii a0_0)) (a0_1_h : a0_1.length = a0_1_n) (a0_1_R : Rd w0 F a0_1_A (ii a0_1)) (a0_2_h : a0_2.length = a0_2_n) (a0_2_R : Rd w0 F a0_2_A (ii a0_2)) (a0_3_h : a0_3.length = a0_3_n) (a0_3_R : Rd w0 F a0_3_A (ii a0_3)) (a0_3_k : a0_3.length ≤ a0_3_c) (h : spec_TargetOf.f K a0_0 a0_1 a0_2 a0_3 a1_0 a1_1 a1_2 = some r1) :
    Calls Try.prog 45 (List.toArray [.agg (List.toArray [.slice a0_0_A a0_0_n a0_0_c, .slice a0_1_A a0_1_n a0_1_c, .slice a0_2_A a0_2_n a0_2_c, .slice a0_3_A a0_3_n a0_3_c]), .agg (List.toArray [i6 a1_0, i6 a1_1, i6 a1_2])]) w fun e w' => ∃ x : Unit, e = .returned (i6 r1) ∧ Mem w0 (F) w' := by
  unfold spec_TargetOf.f at h
  refine calls_of_J (n := 44) Try.func45 rfl rfl rfl hm ?_
  refine j_seq ?_
  refine j_region ?_
  refine r_do (a_box rfl rfl) rfl rfl (fun x1 => ?_)
  refine r_do (a_box rfl rfl) rfl rfl (fun x2 => ?_)
  refine r_q (q_assign rfl rfl) rfl rfl ?_
  refine r_nil ?_
  refine j_then ?_
  refine j_seq ?_
  refine j_seq ?_
  refine j_region ?_
  refine r_q (q_loadb_agg 1 rfl ag29 sz29 rfl rfl rfl rfl) rfl rfl ?_
  obtain ⟨v1, hb1, h⟩ := of_b1 h
  refine r_do (a_call ok23 rfl rfl rfl rfl (fun w hm => spec_StoreValid.calls K a0_0 a0_0_A a0_0_n a0_0_c a0_1 a0_1_A a0_1_n a0_1_c a0_2 a0_2_A a0_2_n a0_2_c a0_3 a0_3_A a0_3_n a0_3_c hm a0_0_h (Rd.drop 2 a0_0_R) a0_1_h (Rd.drop 2 a0_1_R) a0_2_h (Rd.drop 2 a0_2_R) a0_3_h (Rd.drop 2 a0_3_R) a0_3_k hb1)) rfl rfl (fun x3 => ?_)
  refine r_q (q_not rfl rfl) rfl rfl ?_
  refine r_q (q_move rfl rfl) rfl rfl ?_
  rcases of_if h with ⟨c1, h⟩ | ⟨c1, h⟩
  · refine r_qon (q_loadb_agg 0 rfl ag57 sz57 rfl rfl rfl rfl) rfl rfl rfl rfl (not_f c1) rfl ?_
    refine r_qon (q_fieldAddr fi29_0 sz27 rfl rfl rfl) rfl rfl rfl rfl (not_f c1) rfl ?_
    refine r_qon (q_fieldAddr fi27_2 sz25 rfl rfl rfl) rfl rfl rfl rfl (not_f c1) rfl ?_
    refine r_qon (q_loadb 1 rfl ag25 rfl rfl rfl) rfl rfl rfl rfl (not_f c1) rfl ?_
    refine r_qon (q_lenX a0_2 a0_2_h un25 rfl rfl rfl rfl rfl) rfl rfl rfl rfl (not_f c1) rfl ?_
    obtain ⟨v2, hb2, h⟩ := of_b1 h
    refine r_on (a_call ok80 rfl rfl rfl rfl (fun w hm => spec_OpValid.calls K a1_0 a1_1 a1_2 (a0_2.length : Int) hm hb2)) rfl rfl rfl rfl (not_f c1) rfl (fun x4 => ?_)
    refine r_qon (q_not rfl rfl) rfl rfl rfl rfl (not_f c1) rfl ?_
    refine r_q (q_pick_f rfl rfl (not_f c1) rfl) rfl rfl ?_
    refine r_q (q_move rfl rfl) rfl rfl ?_
    rcases of_if h with ⟨c2, h⟩ | ⟨c2, h⟩
    · refine r_qon (q_fieldAddr fi57_0 sz3 rfl rfl rfl) rfl rfl rfl rfl (not_f c2) rfl ?_
      refine r_qon (q_loadb 0 rfl ag3 rfl rfl rfl) rfl rfl rfl rfl (not_f c2) rfl ?_
      refine r_qon (q_neq rfl rfl rfl) rfl rfl rfl rfl (not_f c2) rfl ?_
      refine r_qon (q_move rfl rfl) rfl rfl rfl rfl (not_f c2) rfl ?_
      rcases of_if h with ⟨c3, h⟩ | ⟨c3, h⟩
      · refine r_off rfl rfl rfl rfl (bne_f c3) rfl ?_
        refine r_off rfl rfl rfl rfl (bne_f c3) rfl ?_
        refine r_off rfl rfl rfl rfl (bne_f c3) rfl ?_
        refine r_qon (q_pick_f rfl rfl (bne_f c3) rfl) rfl rfl rfl rfl (not_f c2) rfl ?_
        refine r_q (q_pick_f rfl rfl (not_f c2) rfl) rfl rfl ?_
        refine r_q (q_move rfl rfl) rfl rfl ?_
        refine r_qon (q_fieldAddr fi29_0 sz27 rfl rfl rfl) rfl rfl rfl rfl rfl rfl ?_
        refine r_qon (q_fieldAddr fi27_2 sz25 rfl rfl rfl) rfl rfl rfl rfl rfl rfl ?_
        refine r_qon (q_loadb 1 rfl ag25 rfl rfl rfl) rfl rfl rfl rfl rfl rfl ?_
        refine r_qon (q_fieldAddr fi57_1 sz3 rfl rfl rfl) rfl rfl rfl rfl rfl rfl ?_
        refine r_qon (q_loadb 0 rfl ag3 rfl rfl rfl) rfl rfl rfl rfl rfl rfl ?_
        obtain ⟨c4, h⟩ := of_guard h
        refine r_qon (q_ix (Rd.drop 2 a0_2_R) (ints_len1 _ a0_2) (by decide) a0_2_h c4 un25 sz3 rfl rfl rfl) rfl rfl rfl rfl rfl rfl ?_
        refine r_qon (q_ldI (Rd.drop 2 a0_2_R) c4 ag3 rfl rfl) rfl rfl rfl rfl rfl rfl ?_
        refine r_qon (q_eql rfl rfl rfl) rfl rfl rfl rfl rfl rfl ?_
        refine r_q (q_pick_f rfl rfl rfl rfl) rfl rfl ?_
        refine r_nil ?_
        refine j_then ?_
        rcases of_if h with ⟨c5, h⟩ | ⟨c5, h⟩
        · refine j_true rfl (beq_t c5) ?_
          refine j_seq ?_
          refine j_region ?_
          refine r_q (q_assign rfl rfl) rfl rfl ?_
          refine r_nil ?_
          refine j_then ?_
          refine j_ret ?_
          refine j_then_ret ?_
          cases h
          exact j_return rfl (ResOf.tmp rfl ResOf.nil) rfl (fun w h => ⟨(), rfl, (h.drop 2)⟩)
        · refine j_false rfl (beq_f c5) ?_
          refine j_skip ?_
          refine j_then ?_
          refine j_seq ?_
          refine j_region ?_
          refine r_q (q_fieldAddr fi29_0 sz27 rfl rfl rfl) rfl rfl ?_
          refine r_q (q_fieldAddr fi27_2 sz25 rfl rfl rfl) rfl rfl ?_
          refine r_q (q_loadb 1 rfl ag25 rfl rfl rfl) rfl rfl ?_
          refine r_q (q_fieldAddr fi57_2 sz3 rfl rfl rfl) rfl rfl ?_
          refine r_q (q_loadb 0 rfl ag3 rfl rfl rfl) rfl rfl ?_
          obtain ⟨c6, h⟩ := of_guard h
          refine r_q (q_ix (Rd.drop 2 a0_2_R) (ints_len1 _ a0_2) (by decide) a0_2_h c6 un25 sz3 rfl rfl rfl) rfl rfl ?_
          refine r_q (q_ldI (Rd.drop 2 a0_2_R) c6 ag3 rfl rfl) rfl rfl ?_
          refine r_q (q_assign rfl rfl) rfl rfl ?_
          refine r_nil ?_
          refine j_then ?_
          refine j_ret ?_
          cases h
          exact j_return rfl (ResOf.tmp rfl ResOf.nil) rfl (fun w h => ⟨(), rfl, (h.drop 2)⟩)
      · refine r_qon (q_fieldAddr fi57_0 sz3 rfl rfl rfl) rfl rfl rfl rfl (bne_t c3) rfl ?_
        refine r_qon (q_loadb 0 rfl ag3 rfl rfl rfl) rfl rfl rfl rfl (bne_t c3) rfl ?_
        refine r_qon (q_neq rfl rfl rfl) rfl rfl rfl rfl (bne_t c3) rfl ?_
        refine r_qon (q_pick_t rfl rfl (bne_t c3) rfl) rfl rfl rfl rfl (not_f c2) rfl ?_
        refine r_q (q_pick_f rfl rfl (not_f c2) rfl) rfl rfl ?_
        refine r_q (q_move rfl rfl) rfl rfl ?_
        rcases of_if h with ⟨c7, h⟩ | ⟨c7, h⟩
        · refine r_qon (q_fieldAddr fi29_0 sz27 rfl rfl rfl) rfl rfl rfl rfl (bne_f c7) rfl ?_
          refine r_qon (q_fieldAddr fi27_2 sz25 rfl rfl rfl) rfl rfl rfl rfl (bne_f c7) rfl ?_
          refine r_qon (q_loadb 1 rfl ag25 rfl rfl rfl) rfl rfl rfl rfl (bne_f c7) rfl ?_
          refine r_qon (q_fieldAddr fi57_1 sz3 rfl rfl rfl) rfl rfl rfl rfl (bne_f c7) rfl ?_
          refine r_qon (q_loadb 0 rfl ag3 rfl rfl rfl) rfl rfl rfl rfl (bne_f c7) rfl ?_
          obtain ⟨c8, h⟩ := of_guard h
          refine r_qon (q_ix (Rd.drop 2 a0_2_R) (ints_len1 _ a0_2) (by decide) a0_2_h c8 un25 sz3 rfl rfl rfl) rfl rfl rfl rfl (bne_f c7) rfl ?_
          refine r_qon (q_ldI (Rd.drop 2 a0_2_R) c8 ag3 rfl rfl) rfl rfl rfl rfl (bne_f c7) rfl ?_
          refine r_qon (q_eql rfl rfl rfl) rfl rfl rfl rfl (bne_f c7) rfl ?_
          refine r_q (q_pick_f rfl rfl (bne_f c7) rfl) rfl rfl ?_
          refine r_nil ?_
          refine j_then ?_
          rcases of_if h with ⟨c9, h⟩ | ⟨c9, h⟩
          · refine j_true rfl (beq_t c9) ?_
            refine j_seq ?_
            refine j_region ?_
            refine r_q (q_assign rfl rfl) rfl rfl ?_
            refine r_nil ?_
            refine j_then ?_
            refine j_ret ?_
            refine j_then_ret ?_
            cases h
            exact j_return rfl (ResOf.tmp rfl ResOf.nil) rfl (fun w h => ⟨(), rfl, (h.drop 2)⟩)
          · refine j_false rfl (beq_f c9) ?_
            refine j_skip ?_
            refine j_then ?_
            refine j_seq ?_
            refine j_region ?_
            refine r_q (q_fieldAddr fi29_0 sz27 rfl rfl rfl) rfl rfl ?_
            refine r_q (q_fieldAddr fi27_2 sz25 rfl rfl rfl) rfl rfl ?_
            refine r_q (q_loadb 1 rfl ag25 rfl rfl rfl) rfl rfl ?_
            refine r_q (q_fieldAddr fi57_2 sz3 rfl rfl rfl) rfl rfl ?_
            refine r_q (q_loadb 0 rfl ag3 rfl rfl rfl) rfl rfl ?_
            obtain ⟨c10, h⟩ := of_guard h
            refine r_q (q_ix (Rd.drop 2 a0_2_R) (ints_len1 _ a0_2) (by decide) a0_2_h c10 un25 sz3 rfl rfl rfl) rfl rfl ?_
            refine r_q (q_ldI (Rd.drop 2 a0_2_R) c10 ag3 rfl rfl) rfl rfl ?_
            refine r_q (q_assign rfl rfl) rfl rfl ?_
            refine r_nil ?_
            refine j_then ?_
            refine j_ret ?_
            cases h
            exact j_return rfl (ResOf.tmp rfl ResOf.nil) rfl (fun w h => ⟨(), rfl, (h.drop 2)⟩)
        · refine r_off rfl rfl rfl rfl (bne_t c7) rfl ?_
          refine r_off rfl rfl rfl rfl (bne_t c7) rfl ?_
          refine r_off rfl rfl rfl rfl (bne_t c7) rfl ?_
          refine r_off rfl rfl rfl rfl (bne_t c7) rfl ?_
          refine r_off rfl rfl rfl rfl (bne_t c7) rfl ?_
          refine r_off rfl rfl rfl rfl (bne_t c7) rfl ?_
          refine r_off rfl rfl rfl rfl (bne_t c7) rfl ?_
          refine r_off rfl rfl rfl rfl (bne_t c7) rfl ?_
          refine r_q (q_pick_t rfl rfl (bne_t c7) rfl) rfl rfl ?_
          refine r_nil ?_
          refine j_then ?_
          refine j_true rfl rfl ?_
          refine j_seq ?_
          refine j_region ?_
          refine r_q (q_assign rfl rfl) rfl rfl ?_
          refine r_nil ?_
          refine j_then ?_
          refine j_ret ?_
          refine j_then_ret ?_
          cases h
          exact j_return rfl (ResOf.tmp rfl ResOf.nil) rfl (fun w h => ⟨(), rfl, (h.drop 2)⟩)
    · refine r_off rfl rfl rfl rfl (not_t (var_f c2)) rfl ?_
      refine r_off rfl rfl rfl rfl (not_t (var_f c2)) rfl ?_
      refine r_off rfl rfl rfl rfl (not_t (var_f c2)) rfl ?_
      refine r_off rfl rfl rfl rfl (not_t (var_f c2)) rfl ?_
      refine r_offu rfl rfl rfl rfl rfl ?_
      refine r_offu rfl rfl rfl rfl rfl ?_
      refine r_offu rfl rfl rfl rfl rfl ?_
      refine r_off rfl rfl rfl rfl (not_t (var_f c2)) rfl ?_
      refine r_q (q_pick_t rfl rfl (not_t (var_f c2)) rfl) rfl rfl ?_
      refine r_q (q_move rfl rfl) rfl rfl ?_
      refine r_off rfl rfl rfl rfl rfl rfl ?_
      refine r_off rfl rfl rfl rfl rfl rfl ?_
      refine r_off rfl rfl rfl rfl rfl rfl ?_
      refine r_off rfl rfl rfl rfl rfl rfl ?_
      refine r_off rfl rfl rfl rfl rfl rfl ?_
      refine r_off rfl rfl rfl rfl rfl rfl ?_
      refine r_off rfl rfl rfl rfl rfl rfl ?_
      refine r_off rfl rfl rfl rfl rfl rfl ?_
      refine r_q (q_pick_t rfl rfl rfl rfl) rfl rfl ?_
      refine r_nil ?_
      refine j_then ?_
      refine j_true rfl rfl ?_
      refine j_seq ?_
      refine j_region ?_
      refine r_q (q_assign rfl rfl) rfl rfl ?_
      refine r_nil ?_
      refine j_then ?_
      refine j_ret ?_
      refine j_then_ret ?_
      cases h
      exact j_return rfl (ResOf.tmp rfl ResOf.nil) rfl (fun w h => ⟨(), rfl, (h.drop 2)⟩)
  · refine r_off rfl rfl rfl rfl (not_t (var_f c1)) rfl ?_
    refine r_off rfl rfl rfl rfl (not_t (var_f c1)) rfl ?_
    refine r_off rfl rfl rfl rfl (not_t (var_f c1)) rfl ?_
    refine r_off rfl rfl rfl rfl (not_t (var_f c1)) rfl ?_
    refine r_off rfl rfl rfl rfl (not_t (var_f c1)) rfl ?_
    refine r_off rfl rfl rfl rfl (not_t (var_f c1)) rfl ?_
    refine r_off rfl rfl rfl rfl (not_t (var_f c1)) rfl ?_
    refine r_q (q_pick_t rfl rfl (not_t (var_f c1)) rfl) rfl rfl ?_
    refine r_q (q_move rfl rfl) rfl rfl ?_
    refine r_off rfl rfl rfl rfl rfl rfl ?_
    refine r_off rfl rfl rfl rfl rfl rfl ?_
    refine r_off rfl rfl rfl rfl rfl rfl ?_
    refine r_off rfl rfl rfl rfl rfl rfl ?_
    refine r_offu rfl rfl rfl rfl rfl ?_
    refine r_offu rfl rfl rfl rfl rfl ?_
    refine r_offu rfl rfl rfl rfl rfl ?_
    refine r_off rfl rfl rfl rfl rfl rfl ?_
    refine r_q (q_pick_t rfl rfl rfl rfl) rfl rfl ?_
    refine r_q (q_move rfl rfl) rfl rfl ?_
    refine r_off rfl rfl rfl rfl rfl rfl ?_
    refine r_off rfl rfl rfl rfl rfl rfl ?_
    refine r_off rfl rfl rfl rfl rfl rfl ?_
    refine r_off rfl rfl rfl rfl rfl rfl ?_
    refine r_off rfl rfl rfl rfl rfl rfl ?_
    refine r_off rfl rfl rfl rfl rfl rfl ?_
    refine r_off rfl rfl rfl rfl rfl rfl ?_
    refine r_off rfl rfl rfl rfl rfl rfl ?_
    refine r_q (q_pick_t rfl rfl rfl rfl) rfl rfl ?_
    refine r_nil ?_
    refine j_then ?_
    refine j_true rfl rfl ?_
    refine j_seq ?_
    refine j_region ?_
    refine r_q (q_assign rfl rfl) rfl rfl ?_
    refine r_nil ?_
    refine j_then ?_
    refine j_ret ?_
    refine j_then_ret ?_
    cases h
    exact j_return rfl (ResOf.tmp rfl ResOf.nil) rfl (fun w h => ⟨(), rfl, (h.drop 2)⟩)

end Go.Proofs.Ytigidjhdcplplaa.F
