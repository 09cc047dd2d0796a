/- The program computes these pure functions, printed by the generator of wip/gen. -/
import Derived.Test.YtnfaiojmabolmaaFa
import Derived.Test.YtnfaiojmabolmaaFg
import Derived.Test.YtnfaiojmabolmaaFb
import Derived.Test.YtnfaiojmabolmaaC0
import Derived.Test.YtnfaiojmabolmaaC1
namespace Go.Proofs.Ytnfaiojmabolmaa.F
open Go Go.RowKit Go.Proofs.Ytnfaiojmabolmaa.S
set_option linter.unusedVariables false
set_option maxRecDepth 100000
theorem impl_AllocCell.calls (K : Nat) (a0_0 : List Int) (a0_0_A : Option Addr) (a0_0_n a0_0_c : Nat) (a0_1 : List Int) (a0_1_A : Option Addr) (a0_1_n a0_1_c : Nat) (a0_2 : List Int) (a0_2_A : Option Addr) (a0_2_n a0_2_c : Nat) (a0_3 : List Int) (a0_3_A : Option Addr) (a0_3_n a0_3_c : Nat) (a1 : Int) {w0 w : World} {F : List Res} {r1 : List Int} {r2 : List Int} {r3 : List Int} {r4 : List Int} {r5 : Int} {r6 : Bool} (hm : Mem w0 (F) w) (a0_0_h : a0_0.length = a0_0_n) (a0_0_R : Rd w0 F a0_0_A (ii a0_0)) (a0_1_h : a0_1.length = a0_1_n) (a0_1_R : Rd w0 F a0_1_A (ii a0_1)) (a0_2_h : a0_2.length = a0_2_n) (a0_2_R : Rd w0 F a0_2_A (ii a0_2)) (a0_3_h : a0_3.length = a0_3_n) (a0_3_R : Rd w0 F a0_3_A (ii a0_3)) (a0_3_k : a0_3.length ≤ a0_3_c) (h : impl_AllocCell.f K a0_0 a0_1 a0_2 a0_3 a1 = some (r1, r2, r3, r4, r5, r6)) :
    Calls Try.prog 17 (List.toArray [.agg (List.toArray [.slice a0_0_A a0_0_n a0_0_c, .slice a0_1_A a0_1_n a0_1_c, .slice a0_2_A a0_2_n a0_2_c, .slice a0_3_A a0_3_n a0_3_c]), i6 a1]) w fun e w' => ∃ x : (Sl r1.length) × (Sl r2.length) × (Sl r3.length) × (Sl r4.length), e = .returned (.tuple (List.toArray [.agg (List.toArray [.slice x.1.A x.1.n x.1.c, .slice x.2.1.A x.2.1.n x.2.1.c, .slice x.2.2.1.A x.2.2.1.n x.2.2.1.c, .slice x.2.2.2.A x.2.2.2.n x.2.2.2.c]), i6 r5, .bool r6])) ∧ Mem w0 (.row x.1.A x.1.c 3 1 (ii r1) :: .row x.2.1.A x.2.1.c 3 1 (ii r2) :: .row x.2.2.1.A x.2.2.1.c 3 1 (ii r3) :: .row x.2.2.2.A x.2.2.2.c 3 1 (ii r4) :: F) w' := by
  unfold impl_AllocCell.f at h
  refine calls_of_J (n := 48) Try.func17 rfl rfl rfl hm ?_
  refine j_seq ?_
  refine j_region ?_
  refine r_do (a_box rfl rfl) rfl rfl (fun x1 => ?_)
  refine r_do (a_alloc zr27 rfl) rfl rfl (fun x2 => ?_)
  refine r_q (q_assign rfl rfl) rfl rfl ?_
  refine r_q (q_assign rfl rfl) rfl rfl ?_
  refine r_nil ?_
  refine j_then ?_
  refine j_seq ?_
  refine j_seq ?_
  refine j_region ?_
  refine r_q (q_loadb_agg 1 rfl ag27 sz27 rfl rfl rfl rfl) rfl rfl ?_
  obtain ⟨v1, hb1, h⟩ := of_b1 h
  refine r_do (a_call ok14 rfl rfl rfl rfl (fun w hm => impl_StoreValid.calls K a0_0 a0_0_A a0_0_n a0_0_c a0_1 a0_1_A a0_1_n a0_1_c a0_2 a0_2_A a0_2_n a0_2_c a0_3 a0_3_A a0_3_n a0_3_c hm a0_0_h (Rd.drop 2 a0_0_R) a0_1_h (Rd.drop 2 a0_1_R) a0_2_h (Rd.drop 2 a0_2_R) a0_3_h (Rd.drop 2 a0_3_R) a0_3_k hb1)) rfl rfl (fun x3 => ?_)
  refine r_q (q_not rfl rfl) rfl rfl ?_
  refine r_q (q_move rfl rfl) rfl rfl ?_
  rcases of_if h with ⟨c1, h⟩ | ⟨c1, h⟩
  · refine r_qon (q_move rfl rfl) rfl rfl rfl rfl (not_f c1) rfl ?_
    refine r_qon (q_lss rfl rfl rfl) rfl rfl rfl rfl (not_f c1) rfl ?_
    refine r_q (q_pick_f rfl rfl (not_f c1) rfl) rfl rfl ?_
    refine r_q (q_move rfl rfl) rfl rfl ?_
    rcases of_if h with ⟨c2, h⟩ | ⟨c2, h⟩
    · refine r_off rfl rfl rfl rfl (decide_eq_true c2) rfl ?_
      refine r_off rfl rfl rfl rfl (decide_eq_true c2) rfl ?_
      refine r_off rfl rfl rfl rfl (decide_eq_true c2) rfl ?_
      refine r_off rfl rfl rfl rfl (decide_eq_true c2) rfl ?_
      refine r_off rfl rfl rfl rfl (decide_eq_true c2) rfl ?_
      refine r_off rfl rfl rfl rfl (decide_eq_true c2) rfl ?_
      refine r_q (q_pick_t rfl rfl (decide_eq_true c2) rfl) rfl rfl ?_
      refine r_q (q_move rfl rfl) rfl rfl ?_
      refine r_off rfl rfl rfl rfl rfl rfl ?_
      refine r_off rfl rfl rfl rfl rfl rfl ?_
      refine r_off rfl rfl rfl rfl rfl rfl ?_
      refine r_off rfl rfl rfl rfl rfl rfl ?_
      refine r_q (q_pick_t rfl rfl rfl rfl) rfl rfl ?_
      refine r_nil ?_
      refine j_then ?_
      refine j_true rfl rfl ?_
      refine j_seq ?_
      refine j_region ?_
      refine r_q (q_build (cs := [(.slice none 0 0), (.slice none 0 0), (.slice none 0 0), (.slice none 0 0)]) zr27 pl27 rfl rfl rfl rfl) rfl rfl ?_
      refine r_do (a_storeb 0 rfl sz27 rfl rfl rfl rfl (Nat.le_of_ble_eq_true rfl) rfl) rfl rfl (fun _ => ?_)
      refine j_b0 [(.slice none 0 0), (.slice none 0 0), (.slice none 0 0), (.slice none 0 0)] rfl ?_
      refine r_q (q_assign rfl rfl) rfl rfl ?_
      refine r_q (q_assign rfl rfl) rfl rfl ?_
      refine r_nil ?_
      refine j_then ?_
      refine j_ret ?_
      refine j_then_ret ?_
      refine j_nil 3 1 ?_
      refine j_nil 3 1 ?_
      refine j_nil 3 1 ?_
      refine j_nil 3 1 ?_
      cases h
      exact j_return rfl (ResOf.cell 4 rfl rfl ag27 sz27 (ResOf.tmp rfl (ResOf.tmp rfl ResOf.nil))) rfl (fun w h => ⟨(⟨none, 0, 0, rfl⟩, ⟨none, 0, 0, rfl⟩, ⟨none, 0, 0, rfl⟩, ⟨none, 0, 0, rfl⟩), rfl, h.pick 6 [3, 2, 1, 0] rfl⟩)
    · refine r_qon (q_move rfl rfl) rfl rfl rfl rfl (decide_eq_false c2) rfl ?_
      refine r_qon (q_fieldAddr fi27_0 sz25 rfl rfl rfl) rfl rfl rfl rfl (decide_eq_false c2) rfl ?_
      refine r_qon (q_fieldAddr fi25_2 sz23 rfl rfl rfl) rfl rfl rfl rfl (decide_eq_false c2) rfl ?_
      refine r_qon (q_loadb 1 rfl ag23 rfl rfl rfl) rfl rfl rfl rfl (decide_eq_false c2) rfl ?_
      refine r_qon (q_lenX a0_2 a0_2_h un23 rfl rfl rfl rfl rfl) rfl rfl rfl rfl (decide_eq_false c2) rfl ?_
      refine r_qon (q_geq rfl rfl rfl) rfl rfl rfl rfl (decide_eq_false c2) rfl ?_
      refine r_q (q_pick_f rfl rfl (decide_eq_false c2) rfl) rfl rfl ?_
      refine r_q (q_move rfl rfl) rfl rfl ?_
      rcases of_if h with ⟨c3, h⟩ | ⟨c3, h⟩
      · refine r_off rfl rfl rfl rfl (decide_eq_true c3) rfl ?_
        refine r_off rfl rfl rfl rfl (decide_eq_true c3) rfl ?_
        refine r_off rfl rfl rfl rfl (decide_eq_true c3) rfl ?_
        refine r_off rfl rfl rfl rfl (decide_eq_true c3) rfl ?_
        refine r_q (q_pick_t rfl rfl (decide_eq_true c3) rfl) rfl rfl ?_
        refine r_nil ?_
        refine j_then ?_
        refine j_true rfl rfl ?_
        refine j_seq ?_
        refine j_region ?_
        refine r_q (q_build (cs := [(.slice none 0 0), (.slice none 0 0), (.slice none 0 0), (.slice none 0 0)]) zr27 pl27 rfl rfl rfl rfl) rfl rfl ?_
        refine r_do (a_storeb 0 rfl sz27 rfl rfl rfl rfl (Nat.le_of_ble_eq_true rfl) rfl) rfl rfl (fun _ => ?_)
        refine j_b0 [(.slice none 0 0), (.slice none 0 0), (.slice none 0 0), (.slice none 0 0)] rfl ?_
        refine r_q (q_assign rfl rfl) rfl rfl ?_
        refine r_q (q_assign rfl rfl) rfl rfl ?_
        refine r_nil ?_
        refine j_then ?_
        refine j_ret ?_
        refine j_then_ret ?_
        refine j_nil 3 1 ?_
        refine j_nil 3 1 ?_
        refine j_nil 3 1 ?_
        refine j_nil 3 1 ?_
        cases h
        exact j_return rfl (ResOf.cell 4 rfl rfl ag27 sz27 (ResOf.tmp rfl (ResOf.tmp rfl ResOf.nil))) rfl (fun w h => ⟨(⟨none, 0, 0, rfl⟩, ⟨none, 0, 0, rfl⟩, ⟨none, 0, 0, rfl⟩, ⟨none, 0, 0, rfl⟩), rfl, h.pick 6 [3, 2, 1, 0] rfl⟩)
      · refine r_qon (q_fieldAddr fi27_1 sz23 rfl rfl rfl) rfl rfl rfl rfl (decide_eq_false c3) rfl ?_
        refine r_qon (q_loadb 1 rfl ag23 rfl rfl rfl) rfl rfl rfl rfl (decide_eq_false c3) rfl ?_
        refine r_qon (q_lenX a0_3 a0_3_h un23 rfl rfl rfl rfl rfl) rfl rfl rfl rfl (decide_eq_false c3) rfl ?_
        refine r_qon (q_eql rfl rfl rfl) rfl rfl rfl rfl (decide_eq_false c3) rfl ?_
        refine r_q (q_pick_f rfl rfl (decide_eq_false c3) rfl) rfl rfl ?_
        refine r_nil ?_
        refine j_then ?_
        rcases of_if h with ⟨c4, h⟩ | ⟨c4, h⟩
        · refine j_true rfl (beq_t c4) ?_
          refine j_seq ?_
          refine j_region ?_
          refine r_q (q_build (cs := [(.slice none 0 0), (.slice none 0 0), (.slice none 0 0), (.slice none 0 0)]) zr27 pl27 rfl rfl rfl rfl) rfl rfl ?_
          refine r_do (a_storeb 0 rfl sz27 rfl rfl rfl rfl (Nat.le_of_ble_eq_true rfl) rfl) rfl rfl (fun _ => ?_)
          refine j_b0 [(.slice none 0 0), (.slice none 0 0), (.slice none 0 0), (.slice none 0 0)] rfl ?_
          refine r_q (q_assign rfl rfl) rfl rfl ?_
          refine r_q (q_assign rfl rfl) rfl rfl ?_
          refine r_nil ?_
          refine j_then ?_
          refine j_ret ?_
          refine j_then_ret ?_
          refine j_nil 3 1 ?_
          refine j_nil 3 1 ?_
          refine j_nil 3 1 ?_
          refine j_nil 3 1 ?_
          cases h
          exact j_return rfl (ResOf.cell 4 rfl rfl ag27 sz27 (ResOf.tmp rfl (ResOf.tmp rfl ResOf.nil))) rfl (fun w h => ⟨(⟨none, 0, 0, rfl⟩, ⟨none, 0, 0, rfl⟩, ⟨none, 0, 0, rfl⟩, ⟨none, 0, 0, rfl⟩), rfl, h.pick 6 [3, 2, 1, 0] rfl⟩)
        · refine j_false rfl (beq_f c4) ?_
          refine j_skip ?_
          refine j_then ?_
          refine j_seq ?_
          refine j_region ?_
          refine r_q (q_loadb_agg 1 rfl ag27 sz27 rfl rfl rfl rfl) rfl rfl ?_
          obtain ⟨v2, v3, v4, v5, hb2, h⟩ := of_b4 h
          refine r_do (a_call ok16 rfl rfl rfl rfl (fun w hm => impl_again.calls K a0_0 a0_0_A a0_0_n a0_0_c a0_1 a0_1_A a0_1_n a0_1_c a0_2 a0_2_A a0_2_n a0_2_c a0_3 a0_3_A a0_3_n a0_3_c hm a0_0_h (Rd.drop 2 a0_0_R) a0_1_h (Rd.drop 2 a0_1_R) a0_2_h (Rd.drop 2 a0_2_R) a0_3_h (Rd.drop 2 a0_3_R) hb2)) rfl rfl (fun x4 => ?_)
          refine r_do (a_storeb 5 rfl sz27 rfl rfl rfl rfl (Nat.le_of_ble_eq_true rfl) rfl) rfl rfl (fun _ => ?_)
          refine j_b5 [(.slice x4.1.A x4.1.n x4.1.c), (.slice x4.2.1.A x4.2.1.n x4.2.1.c), (.slice x4.2.2.1.A x4.2.2.1.n x4.2.2.1.c), (.slice x4.2.2.2.A x4.2.2.2.n x4.2.2.2.c)] rfl ?_
          refine r_nil ?_
          refine j_then ?_
          refine j_seq ?_
          refine j_region ?_
          refine r_q (q_fieldAddr fi27_1 sz23 rfl rfl rfl) rfl rfl ?_
          refine r_q (q_loadb 5 rfl ag23 rfl rfl rfl) rfl rfl ?_
          obtain ⟨c5, h⟩ := of_guard h
          refine r_q (q_ix (Rd.row 3 rfl) (ints_len1 _ v5) (by decide) x4.2.2.2.h c5 un23 sz3 rfl rfl rfl) rfl rfl ?_
          refine r_q (q_ldI (Rd.row 3 rfl) c5 ag3 rfl rfl) rfl rfl ?_
          refine r_q (q_assign rfl rfl) rfl rfl ?_
          refine r_nil ?_
          refine j_then ?_
          refine j_seq ?_
          refine j_region ?_
          refine r_q (q_fieldAddr fi27_1 sz23 rfl rfl rfl) rfl rfl ?_
          refine r_q (q_loadb 5 rfl ag23 rfl rfl rfl) rfl rfl ?_
          obtain ⟨c6, h⟩ := of_guard h
          refine j_fact (fun w hm => (hm.roomI 3 rfl)) (fun k2 => ?_)
          refine r_q (q_lo v5 x4.2.2.2.h c6 un23 sz3 rfl rfl rfl) rfl rfl ?_
          refine r_q (q_fieldAddr fi27_1 sz23 rfl rfl rfl) rfl rfl ?_
          refine r_do (a_storeb 5 rfl sz23 rfl rfl rfl rfl (Nat.le_of_ble_eq_true rfl) rfl) rfl rfl (fun _ => ?_)
          refine j_b5 [(.slice x4.1.A x4.1.n x4.1.c), (.slice x4.2.1.A x4.2.1.n x4.2.1.c), (.slice x4.2.2.1.A x4.2.2.1.n x4.2.2.1.c), (.slice (cutA x4.2.2.2.A x4.2.2.2.c (1:Int).toNat 1) (v5.drop (1:Int).toNat).length (x4.2.2.2.c - (1:Int).toNat))] rfl ?_
          refine r_nil ?_
          refine j_then ?_
          refine j_seq ?_
          refine j_region ?_
          refine r_q (q_fieldAddr fi27_0 sz25 rfl rfl rfl) rfl rfl ?_
          refine r_q (q_fieldAddr fi25_2 sz23 rfl rfl rfl) rfl rfl ?_
          refine r_q (q_loadb 5 rfl ag23 rfl rfl rfl) rfl rfl ?_
          refine r_q (q_move rfl rfl) rfl rfl ?_
          refine r_q (q_move rfl rfl) rfl rfl ?_
          obtain ⟨c7, h⟩ := of_guard h
          refine r_q (q_ix (Rd.row 2 rfl) (ints_len1 _ v4) (by decide) x4.2.2.1.h c7 un23 sz3 rfl rfl rfl) rfl rfl ?_
          refine r_do (a_stI 2 rfl c7 sz3 rfl rfl rfl) rfl rfl (fun _ => ?_)
          refine j_s2 ?_
          refine r_nil ?_
          refine j_then ?_
          refine j_seq ?_
          refine j_region ?_
          refine r_q (q_loadb_agg 5 rfl ag27 sz27 rfl rfl rfl rfl) rfl rfl ?_
          refine r_q (q_move rfl rfl) rfl rfl ?_
          refine r_do (a_storeb 4 rfl sz27 rfl rfl rfl rfl (Nat.le_of_ble_eq_true rfl) rfl) rfl rfl (fun _ => ?_)
          refine j_b4 [(.slice x4.1.A x4.1.n x4.1.c), (.slice x4.2.1.A x4.2.1.n x4.2.1.c), (.slice x4.2.2.1.A x4.2.2.1.n x4.2.2.1.c), (.slice (cutA x4.2.2.2.A x4.2.2.2.c (1:Int).toNat 1) (v5.drop (1:Int).toNat).length (x4.2.2.2.c - (1:Int).toNat))] rfl ?_
          refine r_q (q_assign rfl rfl) rfl rfl ?_
          refine r_q (q_assign rfl rfl) rfl rfl ?_
          refine r_nil ?_
          refine j_then ?_
          refine j_ret ?_
          refine j_cutRowI 3 (1:Int).toNat rfl (cut_le c6 k2) ?_
          refine j_s3 ?_
          cases h
          exact j_return rfl (ResOf.cell 4 rfl rfl ag27 sz27 (ResOf.tmp rfl (ResOf.tmp rfl ResOf.nil))) rfl (fun w h => ⟨(⟨x4.1.A, x4.1.n, x4.1.c, x4.1.h⟩, ⟨x4.2.1.A, x4.2.1.n, x4.2.1.c, x4.2.1.h⟩, ⟨x4.2.2.1.A, x4.2.2.1.n, x4.2.2.1.c, (set_len x4.2.2.1.h _ _)⟩, ⟨(cutA x4.2.2.2.A x4.2.2.2.c (1:Int).toNat 1), (v5.drop (1:Int).toNat).length, (x4.2.2.2.c - (1:Int).toNat), rfl⟩), rfl, h.pick 6 [0, 1, 2, 3] rfl⟩)
  · refine r_off rfl rfl rfl rfl (not_t (var_f c1)) rfl ?_
    refine r_off rfl rfl rfl rfl (not_t (var_f c1)) rfl ?_
    refine r_q (q_pick_t rfl rfl (not_t (var_f c1)) rfl) rfl rfl ?_
    refine r_q (q_move rfl rfl) rfl rfl ?_
    refine r_off rfl rfl rfl rfl rfl rfl ?_
    refine r_off rfl rfl rfl rfl rfl rfl ?_
    refine r_off rfl rfl rfl rfl rfl rfl ?_
    refine r_off rfl rfl rfl rfl rfl rfl ?_
    refine r_off rfl rfl rfl rfl rfl rfl ?_
    refine r_off rfl rfl rfl rfl rfl rfl ?_
    refine r_q (q_pick_t rfl rfl rfl rfl) rfl rfl ?_
    refine r_q (q_move rfl rfl) rfl rfl ?_
    refine r_off rfl rfl rfl rfl rfl rfl ?_
    refine r_off rfl rfl rfl rfl rfl rfl ?_
    refine r_off rfl rfl rfl rfl rfl rfl ?_
    refine r_off rfl rfl rfl rfl rfl rfl ?_
    refine r_q (q_pick_t rfl rfl rfl rfl) rfl rfl ?_
    refine r_nil ?_
    refine j_then ?_
    refine j_true rfl rfl ?_
    refine j_seq ?_
    refine j_region ?_
    refine r_q (q_build (cs := [(.slice none 0 0), (.slice none 0 0), (.slice none 0 0), (.slice none 0 0)]) zr27 pl27 rfl rfl rfl rfl) rfl rfl ?_
    refine r_do (a_storeb 0 rfl sz27 rfl rfl rfl rfl (Nat.le_of_ble_eq_true rfl) rfl) rfl rfl (fun _ => ?_)
    refine j_b0 [(.slice none 0 0), (.slice none 0 0), (.slice none 0 0), (.slice none 0 0)] rfl ?_
    refine r_q (q_assign rfl rfl) rfl rfl ?_
    refine r_q (q_assign rfl rfl) rfl rfl ?_
    refine r_nil ?_
    refine j_then ?_
    refine j_ret ?_
    refine j_then_ret ?_
    refine j_nil 3 1 ?_
    refine j_nil 3 1 ?_
    refine j_nil 3 1 ?_
    refine j_nil 3 1 ?_
    cases h
    exact j_return rfl (ResOf.cell 4 rfl rfl ag27 sz27 (ResOf.tmp rfl (ResOf.tmp rfl ResOf.nil))) rfl (fun w h => ⟨(⟨none, 0, 0, rfl⟩, ⟨none, 0, 0, rfl⟩, ⟨none, 0, 0, rfl⟩, ⟨none, 0, 0, rfl⟩), rfl, h.pick 6 [3, 2, 1, 0] rfl⟩)

theorem impl_RunOp.calls (K : Nat) (a0_0 : List Int) (a0_0_A : Option Addr) (a0_0_n a0_0_c : Nat) (a0_1 : List Int) (a0_1_A : Option Addr) (a0_1_n a0_1_c : Nat) (a0_2 : List Int) (a0_2_A : Option Addr) (a0_2_n a0_2_c : Nat) (a0_3 : List Int) (a0_3_A : Option Addr) (a0_3_n a0_3_c : Nat) (a1_0 : Int) (a1_1 : Int) (a1_2 : Int) {w0 w : World} {F : List Res} {r1 : List Int} {r2 : List Int} {r3 : List Int} {r4 : List Int} {r5 : Int} {r6 : Bool} (hm : Mem w0 (F) w) (a0_0_h : a0_0.length = a0_0_n) (a0_0_R : Rd w0 F a0_0_A (ii a0_0)) (a0_1_h : a0_1.length = a0_1_n) (a0_1_R : Rd w0 F a0_1_A (ii a0_1)) (a0_2_h : a0_2.length = a0_2_n) (a0_2_R : Rd w0 F a0_2_A (ii a0_2)) (a0_3_h : a0_3.length = a0_3_n) (a0_3_R : Rd w0 F a0_3_A (ii a0_3)) (a0_3_k : a0_3.length ≤ a0_3_c) (h : impl_RunOp.f K a0_0 a0_1 a0_2 a0_3 a1_0 a1_1 a1_2 = some (r1, r2, r3, r4, r5, r6)) :
    Calls Try.prog 7 (List.toArray [.agg (List.toArray [.slice a0_0_A a0_0_n a0_0_c, .slice a0_1_A a0_1_n a0_1_c, .slice a0_2_A a0_2_n a0_2_c, .slice a0_3_A a0_3_n a0_3_c]), .agg (List.toArray [i6 a1_0, i6 a1_1, i6 a1_2])]) w fun e w' => ∃ x : (Sl r1.length) × (Sl r2.length) × (Sl r3.length) × (Sl r4.length), e = .returned (.tuple (List.toArray [.agg (List.toArray [.slice x.1.A x.1.n x.1.c, .slice x.2.1.A x.2.1.n x.2.1.c, .slice x.2.2.1.A x.2.2.1.n x.2.2.1.c, .slice x.2.2.2.A x.2.2.2.n x.2.2.2.c]), i6 r5, .bool r6])) ∧ Mem w0 (.row x.1.A x.1.c 3 1 (ii r1) :: .row x.2.1.A x.2.1.c 3 1 (ii r2) :: .row x.2.2.1.A x.2.2.1.c 3 1 (ii r3) :: .row x.2.2.2.A x.2.2.2.c 3 1 (ii r4) :: F) w' := by
  unfold impl_RunOp.f at h
  refine calls_of_J (n := 133) Try.func7 rfl rfl rfl hm ?_
  refine j_seq ?_
  refine j_region ?_
  refine r_do (a_box rfl rfl) rfl rfl (fun x1 => ?_)
  refine r_do (a_box rfl rfl) rfl rfl (fun x2 => ?_)
  refine r_do (a_alloc zr27 rfl) rfl rfl (fun x3 => ?_)
  refine r_q (q_assign rfl rfl) rfl rfl ?_
  refine r_q (q_assign rfl rfl) rfl rfl ?_
  refine r_nil ?_
  refine j_then ?_
  refine j_seq ?_
  refine j_seq ?_
  refine j_region ?_
  refine r_q (q_loadb_agg 2 rfl ag27 sz27 rfl rfl rfl rfl) rfl rfl ?_
  obtain ⟨v1, hb1, h⟩ := of_b1 h
  refine r_do (a_call ok14 rfl rfl rfl rfl (fun w hm => impl_StoreValid.calls K a0_0 a0_0_A a0_0_n a0_0_c a0_1 a0_1_A a0_1_n a0_1_c a0_2 a0_2_A a0_2_n a0_2_c a0_3 a0_3_A a0_3_n a0_3_c hm a0_0_h (Rd.drop 3 a0_0_R) a0_1_h (Rd.drop 3 a0_1_R) a0_2_h (Rd.drop 3 a0_2_R) a0_3_h (Rd.drop 3 a0_3_R) a0_3_k hb1)) rfl rfl (fun x4 => ?_)
  refine r_q (q_not rfl rfl) rfl rfl ?_
  refine r_q (q_move rfl rfl) rfl rfl ?_
  rcases of_if h with ⟨c1, h⟩ | ⟨c1, h⟩
  · refine r_qon (q_loadb_agg 1 rfl ag29 sz29 rfl rfl rfl rfl) rfl rfl rfl rfl (not_f c1) rfl ?_
    refine r_qon (q_fieldAddr fi27_0 sz25 rfl rfl rfl) rfl rfl rfl rfl (not_f c1) rfl ?_
    refine r_qon (q_fieldAddr fi25_2 sz23 rfl rfl rfl) rfl rfl rfl rfl (not_f c1) rfl ?_
    refine r_qon (q_loadb 2 rfl ag23 rfl rfl rfl) rfl rfl rfl rfl (not_f c1) rfl ?_
    refine r_qon (q_lenX a0_2 a0_2_h un23 rfl rfl rfl rfl rfl) rfl rfl rfl rfl (not_f c1) rfl ?_
    obtain ⟨v2, hb2, h⟩ := of_b1 h
    refine r_on (a_call ok15 rfl rfl rfl rfl (fun w hm => impl_OpValid.calls K a1_0 a1_1 a1_2 (a0_2.length : Int) hm hb2)) rfl rfl rfl rfl (not_f c1) rfl (fun x5 => ?_)
    refine r_qon (q_not rfl rfl) rfl rfl rfl rfl (not_f c1) rfl ?_
    refine r_q (q_pick_f rfl rfl (not_f c1) rfl) rfl rfl ?_
    refine r_nil ?_
    refine j_then ?_
    rcases of_if h with ⟨c2, h⟩ | ⟨c2, h⟩
    · refine j_false rfl (not_f c2) ?_
      refine j_skip ?_
      refine j_then ?_
      refine j_seq ?_
      refine j_region ?_
      refine r_q (q_loadb_agg 2 rfl ag27 sz27 rfl rfl rfl rfl) rfl rfl ?_
      obtain ⟨v3, v4, v5, v6, hb3, h⟩ := of_b4 h
      refine r_do (a_call ok16 rfl rfl rfl rfl (fun w hm => impl_again.calls K a0_0 a0_0_A a0_0_n a0_0_c a0_1 a0_1_A a0_1_n a0_1_c a0_2 a0_2_A a0_2_n a0_2_c a0_3 a0_3_A a0_3_n a0_3_c hm a0_0_h (Rd.drop 3 a0_0_R) a0_1_h (Rd.drop 3 a0_1_R) a0_2_h (Rd.drop 3 a0_2_R) a0_3_h (Rd.drop 3 a0_3_R) hb3)) rfl rfl (fun x6 => ?_)
      refine r_do (a_storeb 6 rfl sz27 rfl rfl rfl rfl (Nat.le_of_ble_eq_true rfl) rfl) rfl rfl (fun _ => ?_)
      refine j_b6 [(.slice x6.1.A x6.1.n x6.1.c), (.slice x6.2.1.A x6.2.1.n x6.2.1.c), (.slice x6.2.2.1.A x6.2.2.1.n x6.2.2.1.c), (.slice x6.2.2.2.A x6.2.2.2.n x6.2.2.2.c)] rfl ?_
      refine r_nil ?_
      refine j_then ?_
      refine j_seq ?_
      refine j_region ?_
      refine r_q (q_fieldAddr fi27_0 sz25 rfl rfl rfl) rfl rfl ?_
      refine r_q (q_fieldAddr fi25_2 sz23 rfl rfl rfl) rfl rfl ?_
      refine r_q (q_loadb 6 rfl ag23 rfl rfl rfl) rfl rfl ?_
      refine r_q (q_assign rfl rfl) rfl rfl ?_
      refine r_nil ?_
      refine j_then ?_
      refine j_seq ?_
      refine j_seq ?_
      refine j_region ?_
      refine r_q (q_fieldAddr fi29_0 sz3 rfl rfl rfl) rfl rfl ?_
      refine r_q (q_loadb 5 rfl ag3 rfl rfl rfl) rfl rfl ?_
      refine r_nil ?_
      refine j_then ?_
      refine j_block ?_
      refine j_seq ?_
      refine j_region ?_
      refine r_q (q_eql rfl rfl rfl) rfl rfl ?_
      refine r_q (q_assign rfl rfl) rfl rfl ?_
      refine r_nil ?_
      refine j_then ?_
      rcases of_if h with ⟨c3, h⟩ | ⟨c3, h⟩
      · refine j_true rfl (beq_t c3) ?_
        refine j_seq ?_
        refine j_region ?_
        refine r_q (q_loadb_agg 6 rfl ag27 sz27 rfl rfl rfl rfl) rfl rfl ?_
        refine r_q (q_fieldAddr fi29_1 sz3 rfl rfl rfl) rfl rfl ?_
        refine r_q (q_loadb 5 rfl ag3 rfl rfl rfl) rfl rfl ?_
        obtain ⟨v7, v8, v9, v10, v11, v12, hb4, h⟩ := of_b6 h
        refine r_do (a_call ok17 rfl rfl rfl rfl (fun w hm => impl_AllocCell.calls K v3 x6.1.A x6.1.n x6.1.c v4 x6.2.1.A x6.2.1.n x6.2.1.c v5 x6.2.2.1.A x6.2.2.1.n x6.2.2.1.c v6 x6.2.2.2.A x6.2.2.2.n x6.2.2.2.c a1_1 hm x6.1.h (Rd.row 0 rfl) x6.2.1.h (Rd.row 1 rfl) x6.2.2.1.h (Rd.row 2 rfl) x6.2.2.2.h (Rd.row 3 rfl) (hm.roomI 3 rfl) hb4)) rfl rfl (fun x7 => ?_)
        refine r_q (q_move rfl rfl) rfl rfl ?_
        refine r_q (q_extract rfl rfl rfl) rfl rfl ?_
        refine r_q (q_extract rfl rfl rfl) rfl rfl ?_
        refine r_q (q_extract rfl rfl rfl) rfl rfl ?_
        refine r_do (a_alloc zr27 rfl) rfl rfl (fun x8 => ?_)
        refine r_do (a_storeb 0 rfl sz27 rfl rfl rfl rfl (Nat.le_of_ble_eq_true rfl) rfl) rfl rfl (fun _ => ?_)
        refine j_b0 [(.slice x7.1.A x7.1.n x7.1.c), (.slice x7.2.1.A x7.2.1.n x7.2.1.c), (.slice x7.2.2.1.A x7.2.2.1.n x7.2.2.1.c), (.slice x7.2.2.2.A x7.2.2.2.n x7.2.2.2.c)] rfl ?_
        refine r_q (q_assign rfl rfl) rfl rfl ?_
        refine r_q (q_assign rfl rfl) rfl rfl ?_
        refine r_nil ?_
        refine j_then ?_
        refine j_seq ?_
        refine j_seq ?_
        refine j_region ?_
        refine r_q (q_move rfl rfl) rfl rfl ?_
        refine r_q (q_not rfl rfl) rfl rfl ?_
        refine r_nil ?_
        refine j_then ?_
        rcases of_if h with ⟨c4, h⟩ | ⟨c4, h⟩
        · refine j_false rfl (not_f c4) ?_
          refine j_skip ?_
          refine j_then ?_
          refine j_seq ?_
          refine j_region ?_
          refine r_q (q_loadb_agg 0 rfl ag27 sz27 rfl rfl rfl rfl) rfl rfl ?_
          refine r_do (a_storeb 9 rfl sz27 rfl rfl rfl rfl (Nat.le_of_ble_eq_true rfl) rfl) rfl rfl (fun _ => ?_)
          refine j_b9 [(.slice x7.1.A x7.1.n x7.1.c), (.slice x7.2.1.A x7.2.1.n x7.2.1.c), (.slice x7.2.2.1.A x7.2.2.1.n x7.2.2.1.c), (.slice x7.2.2.2.A x7.2.2.2.n x7.2.2.2.c)] rfl ?_
          refine r_q (q_assign rfl rfl) rfl rfl ?_
          refine r_q (q_assign rfl rfl) rfl rfl ?_
          refine r_nil ?_
          refine j_then ?_
          refine j_ret ?_
          refine j_in_ret ?_
          refine j_then_ret ?_
          cases h
          exact j_return rfl (ResOf.cell 9 rfl rfl ag27 sz27 (ResOf.tmp rfl (ResOf.tmp rfl ResOf.nil))) rfl (fun w h => ⟨(⟨x7.1.A, x7.1.n, x7.1.c, x7.1.h⟩, ⟨x7.2.1.A, x7.2.1.n, x7.2.1.c, x7.2.1.h⟩, ⟨x7.2.2.1.A, x7.2.2.1.n, x7.2.2.1.c, x7.2.2.1.h⟩, ⟨x7.2.2.2.A, x7.2.2.2.n, x7.2.2.2.c, x7.2.2.2.h⟩), rfl, h.pick 12 [1, 2, 3, 4] rfl⟩)
        · refine j_true rfl (not_t (var_f c4)) ?_
          refine j_seq ?_
          refine j_region ?_
          refine r_q (q_loadb_agg 11 rfl ag27 sz27 rfl rfl rfl rfl) rfl rfl ?_
          refine r_do (a_storeb 9 rfl sz27 rfl rfl rfl rfl (Nat.le_of_ble_eq_true rfl) rfl) rfl rfl (fun _ => ?_)
          refine j_b9 [(.slice x6.1.A x6.1.n x6.1.c), (.slice x6.2.1.A x6.2.1.n x6.2.1.c), (.slice x6.2.2.1.A x6.2.2.1.n x6.2.2.1.c), (.slice x6.2.2.2.A x6.2.2.2.n x6.2.2.2.c)] rfl ?_
          refine r_q (q_assign rfl rfl) rfl rfl ?_
          refine r_q (q_assign rfl rfl) rfl rfl ?_
          refine r_nil ?_
          refine j_then ?_
          refine j_ret ?_
          refine j_then_ret ?_
          refine j_in_ret ?_
          refine j_then_ret ?_
          cases h
          exact j_return rfl (ResOf.cell 9 rfl rfl ag27 sz27 (ResOf.tmp rfl (ResOf.tmp rfl ResOf.nil))) rfl (fun w h => ⟨(⟨x6.1.A, x6.1.n, x6.1.c, x6.1.h⟩, ⟨x6.2.1.A, x6.2.1.n, x6.2.1.c, x6.2.1.h⟩, ⟨x6.2.2.1.A, x6.2.2.1.n, x6.2.2.1.c, x6.2.2.1.h⟩, ⟨x6.2.2.2.A, x6.2.2.2.n, x6.2.2.2.c, x6.2.2.2.h⟩), rfl, h.pick 12 [5, 6, 7, 8] rfl⟩)
      · refine j_false rfl (beq_f c3) ?_
        refine j_seq ?_
        refine j_region ?_
        refine r_q (q_eql rfl rfl rfl) rfl rfl ?_
        refine r_q (q_assign rfl rfl) rfl rfl ?_
        refine r_nil ?_
        refine j_then ?_
        rcases of_if h with ⟨c5, h⟩ | ⟨c5, h⟩
        · refine j_true rfl (beq_t c5) ?_
          obtain ⟨c6, h⟩ := of_guard h
          obtain ⟨c7, h⟩ := of_guard h
          refine j_draw (.row x6.1.A x6.1.c 3 1 (ii v3) :: .row x6.2.1.A x6.2.1.c 3 1 (ii v4) :: .row x6.2.2.2.A x6.2.2.2.c 3 1 (ii v6) :: .box x3 27 [(.slice none 0 0), (.slice none 0 0), (.slice none 0 0), (.slice none 0 0)] :: .box x2 29 [(i6 a1_0), (i6 a1_1), (i6 a1_2)] :: .box x1 27 [(.slice x6.1.A x6.1.n x6.1.c), (.slice x6.2.1.A x6.2.1.n x6.2.1.c), (.slice x6.2.2.1.A x6.2.2.1.n x6.2.2.1.c), (.slice x6.2.2.2.A x6.2.2.2.n x6.2.2.2.c)] :: F) 10 follows_any rfl ?_
          refine d_take 0 rfl (q_move rfl rfl) rfl rfl (by kernel_rfl) (by kernel_rfl) (by kernel_rfl) (fun w h => h.pick 7 [0, 1, 3, 4, 5, 6] rfl) ?_
          refine d_take 1 rfl (q_fieldAddr fi29_1 sz3 rfl rfl rfl) rfl rfl (by kernel_rfl) (by kernel_rfl) (by kernel_rfl) (fun w h => h.pick 7 [0, 1, 3, 4, 5, 6] rfl) ?_
          refine d_take 2 rfl (q_loadb 4 rfl ag3 rfl rfl rfl) rfl rfl (by kernel_rfl) (by kernel_rfl) (by kernel_rfl) (fun w h => h.pick 7 [0, 1, 3, 4, 5, 6] rfl) ?_
          refine d_take 3 rfl (q_move rfl rfl) rfl rfl (by kernel_rfl) (by kernel_rfl) (by kernel_rfl) (fun w h => h.pick 7 [0, 1, 3, 4, 5, 6] rfl) ?_
          refine d_take 4 rfl (q_fieldAddr fi29_2 sz3 rfl rfl rfl) rfl rfl (by kernel_rfl) (by kernel_rfl) (by kernel_rfl) (fun w h => h.pick 7 [0, 1, 3, 4, 5, 6] rfl) ?_
          refine d_take 5 rfl (q_loadb 4 rfl ag3 rfl rfl rfl) rfl rfl (by kernel_rfl) (by kernel_rfl) (by kernel_rfl) (fun w h => h.pick 7 [0, 1, 3, 4, 5, 6] rfl) ?_
          refine d_one 6 (by kernel_rfl) ?_
          refine o_do rfl ((q_ix (Rd.row 2 rfl) (ints_len1 _ v5) (by decide) x6.2.2.1.h c6 un23 sz3 rfl rfl rfl)).acts rfl rfl (fun _ w h => h.pick 7 [0, 1, 3, 4, 5, 6] rfl) (fun _ => ?_)
          refine d_one 7 (by kernel_rfl) ?_
          refine o_do rfl ((q_ldI (Rd.row 2 rfl) c6 ag3 rfl rfl)).acts rfl rfl (fun _ w h => h.pick 7 [0, 1, 3, 4, 5, 6] rfl) (fun _ => ?_)
          refine d_one 8 (by kernel_rfl) ?_
          refine o_do rfl ((q_ix (Rd.row 2 rfl) (ints_len1 _ v5) (by decide) x6.2.2.1.h c7 un23 sz3 rfl rfl rfl)).acts rfl rfl (fun _ w h => h.pick 7 [0, 1, 3, 4, 5, 6] rfl) (fun _ => ?_)
          refine d_one 9 (by kernel_rfl) ?_
          refine o_do rfl (a_stI 2 rfl c7 sz3 rfl rfl rfl) rfl rfl (fun _ w h => h.pick 7 [0, 1, 3, 4, 5, 6] rfl) (fun _ => ?_)
          refine j_s2 ?_
          refine d_done (by kernel_rfl) ?_
          refine j_in ?_
          refine j_then ?_
          refine j_seq ?_
          refine j_region ?_
          refine r_q (q_loadb_agg 6 rfl ag27 sz27 rfl rfl rfl rfl) rfl rfl ?_
          refine r_do (a_storeb 4 rfl sz27 rfl rfl rfl rfl (Nat.le_of_ble_eq_true rfl) rfl) rfl rfl (fun _ => ?_)
          refine j_b4 [(.slice x6.1.A x6.1.n x6.1.c), (.slice x6.2.1.A x6.2.1.n x6.2.1.c), (.slice x6.2.2.1.A x6.2.2.1.n x6.2.2.1.c), (.slice x6.2.2.2.A x6.2.2.2.n x6.2.2.2.c)] rfl ?_
          refine r_q (q_assign rfl rfl) rfl rfl ?_
          refine r_q (q_assign rfl rfl) rfl rfl ?_
          refine r_nil ?_
          refine j_then ?_
          refine j_ret ?_
          cases h
          exact j_return rfl (ResOf.cell 4 rfl rfl ag27 sz27 (ResOf.tmp rfl (ResOf.tmp rfl ResOf.nil))) rfl (fun w h => ⟨(⟨x6.1.A, x6.1.n, x6.1.c, x6.1.h⟩, ⟨x6.2.1.A, x6.2.1.n, x6.2.1.c, x6.2.1.h⟩, ⟨x6.2.2.1.A, x6.2.2.1.n, x6.2.2.1.c, (set_len x6.2.2.1.h _ _)⟩, ⟨x6.2.2.2.A, x6.2.2.2.n, x6.2.2.2.c, x6.2.2.2.h⟩), rfl, h.pick 7 [0, 1, 2, 3] rfl⟩)
        · refine j_false rfl (beq_f c5) ?_
          refine j_seq ?_
          refine j_seq ?_
          refine j_region ?_
          refine r_q (q_eql rfl rfl rfl) rfl rfl ?_
          refine r_q (q_assign rfl rfl) rfl rfl ?_
          refine r_nil ?_
          refine j_then ?_
          rcases of_if h with ⟨c8, h⟩ | ⟨c8, h⟩
          · refine j_true rfl (beq_t c8) ?_
            refine j_skip ?_
            refine j_then ?_
            refine j_true rfl (beq_t c8) ?_
            refine j_seq ?_
            refine j_region ?_
            refine r_q (q_move rfl rfl) rfl rfl ?_
            refine r_q (q_fieldAddr fi29_2 sz3 rfl rfl rfl) rfl rfl ?_
            refine r_q (q_loadb 5 rfl ag3 rfl rfl rfl) rfl rfl ?_
            obtain ⟨c9, h⟩ := of_guard h
            refine r_q (q_ix (Rd.row 2 rfl) (ints_len1 _ v5) (by decide) x6.2.2.1.h c9 un23 sz3 rfl rfl rfl) rfl rfl ?_
            refine r_q (q_ldI (Rd.row 2 rfl) c9 ag3 rfl rfl) rfl rfl ?_
            refine r_q (q_assign rfl rfl) rfl rfl ?_
            refine r_nil ?_
            refine j_then ?_
            refine j_seq ?_
            refine j_seq ?_
            refine j_region ?_
            refine r_q (q_move rfl rfl) rfl rfl ?_
            refine r_q (q_eql rfl rfl rfl) rfl rfl ?_
            refine r_nil ?_
            refine j_then ?_
            rcases of_if h with ⟨c10, h⟩ | ⟨c10, h⟩
            · refine j_true rfl (beq_t c10) ?_
              refine j_seq ?_
              refine j_region ?_
              refine r_q (q_loadb_agg 6 rfl ag27 sz27 rfl rfl rfl rfl) rfl rfl ?_
              refine r_do (a_storeb 4 rfl sz27 rfl rfl rfl rfl (Nat.le_of_ble_eq_true rfl) rfl) rfl rfl (fun _ => ?_)
              refine j_b4 [(.slice x6.1.A x6.1.n x6.1.c), (.slice x6.2.1.A x6.2.1.n x6.2.1.c), (.slice x6.2.2.1.A x6.2.2.1.n x6.2.2.1.c), (.slice x6.2.2.2.A x6.2.2.2.n x6.2.2.2.c)] rfl ?_
              refine r_q (q_assign rfl rfl) rfl rfl ?_
              refine r_q (q_assign rfl rfl) rfl rfl ?_
              refine r_nil ?_
              refine j_then ?_
              refine j_ret ?_
              refine j_then_ret ?_
              refine j_in_ret ?_
              refine j_then_ret ?_
              cases h
              exact j_return rfl (ResOf.cell 4 rfl rfl ag27 sz27 (ResOf.tmp rfl (ResOf.tmp rfl ResOf.nil))) rfl (fun w h => ⟨(⟨x6.1.A, x6.1.n, x6.1.c, x6.1.h⟩, ⟨x6.2.1.A, x6.2.1.n, x6.2.1.c, x6.2.1.h⟩, ⟨x6.2.2.1.A, x6.2.2.1.n, x6.2.2.1.c, x6.2.2.1.h⟩, ⟨x6.2.2.2.A, x6.2.2.2.n, x6.2.2.2.c, x6.2.2.2.h⟩), rfl, h.pick 7 [0, 1, 2, 3] rfl⟩)
            · refine j_false rfl (beq_f c10) ?_
              refine j_skip ?_
              refine j_then ?_
              refine j_seq ?_
              obtain ⟨c11, h⟩ := of_guard h
              obtain ⟨c12, h⟩ := of_guard h
              refine j_draw (.row x6.1.A x6.1.c 3 1 (ii v3) :: .row x6.2.1.A x6.2.1.c 3 1 (ii v4) :: .row x6.2.2.2.A x6.2.2.2.c 3 1 (ii v6) :: .box x3 27 [(.slice none 0 0), (.slice none 0 0), (.slice none 0 0), (.slice none 0 0)] :: .box x2 29 [(i6 a1_0), (i6 a1_1), (i6 a1_2)] :: .box x1 27 [(.slice x6.1.A x6.1.n x6.1.c), (.slice x6.2.1.A x6.2.1.n x6.2.1.c), (.slice x6.2.2.1.A x6.2.2.1.n x6.2.2.1.c), (.slice x6.2.2.2.A x6.2.2.2.n x6.2.2.2.c)] :: F) 11 follows_any rfl ?_
              refine d_take 0 rfl (q_move rfl rfl) rfl rfl (by kernel_rfl) (by kernel_rfl) (by kernel_rfl) (fun w h => h.pick 7 [0, 1, 3, 4, 5, 6] rfl) ?_
              refine d_take 1 rfl (q_fieldAddr fi29_1 sz3 rfl rfl rfl) rfl rfl (by kernel_rfl) (by kernel_rfl) (by kernel_rfl) (fun w h => h.pick 7 [0, 1, 3, 4, 5, 6] rfl) ?_
              refine d_take 2 rfl (q_loadb 4 rfl ag3 rfl rfl rfl) rfl rfl (by kernel_rfl) (by kernel_rfl) (by kernel_rfl) (fun w h => h.pick 7 [0, 1, 3, 4, 5, 6] rfl) ?_
              refine d_take 3 rfl (q_fieldAddr fi27_0 sz25 rfl rfl rfl) rfl rfl (by kernel_rfl) (by kernel_rfl) (by kernel_rfl) (fun w h => h.pick 7 [0, 1, 3, 4, 5, 6] rfl) ?_
              refine d_take 4 rfl (q_fieldAddr fi25_0 sz23 rfl rfl rfl) rfl rfl (by kernel_rfl) (by kernel_rfl) (by kernel_rfl) (fun w h => h.pick 7 [0, 1, 3, 4, 5, 6] rfl) ?_
              refine d_take 5 rfl (q_loadb 5 rfl ag23 rfl rfl rfl) rfl rfl (by kernel_rfl) (by kernel_rfl) (by kernel_rfl) (fun w h => h.pick 7 [0, 1, 3, 4, 5, 6] rfl) ?_
              refine d_take 6 rfl (q_move rfl rfl) rfl rfl (by kernel_rfl) (by kernel_rfl) (by kernel_rfl) (fun w h => h.pick 7 [0, 1, 3, 4, 5, 6] rfl) ?_
              refine d_take 7 rfl (q_ix (Rd.row 0 rfl) (ints_len1 _ v3) (by decide) x6.1.h c11 un23 sz3 rfl rfl rfl) rfl rfl (by kernel_rfl) (by kernel_rfl) (by kernel_rfl) (fun w h => h.pick 7 [0, 1, 3, 4, 5, 6] rfl) ?_
              refine d_take 8 rfl (q_ldI (Rd.row 0 rfl) c11 ag3 rfl rfl) rfl rfl (by kernel_rfl) (by kernel_rfl) (by kernel_rfl) (fun w h => h.pick 7 [0, 1, 3, 4, 5, 6] rfl) ?_
              refine d_one 9 (by kernel_rfl) ?_
              refine o_do rfl ((q_ix (Rd.row 2 rfl) (ints_len1 _ v5) (by decide) x6.2.2.1.h c12 un23 sz3 rfl rfl rfl)).acts rfl rfl (fun _ w h => h.pick 7 [0, 1, 3, 4, 5, 6] rfl) (fun _ => ?_)
              refine d_one 10 (by kernel_rfl) ?_
              refine o_do rfl (a_stI 2 rfl c12 sz3 rfl rfl rfl) rfl rfl (fun _ w h => h.pick 7 [0, 1, 3, 4, 5, 6] rfl) (fun _ => ?_)
              refine j_s2 ?_
              refine d_done (by kernel_rfl) ?_
              refine j_then ?_
              refine j_seq ?_
              refine j_region ?_
              refine r_q (q_fieldAddr fi29_0 sz3 rfl rfl rfl) rfl rfl ?_
              refine r_q (q_loadb 5 rfl ag3 rfl rfl rfl) rfl rfl ?_
              refine r_q (q_eql rfl rfl rfl) rfl rfl ?_
              refine r_nil ?_
              refine j_then ?_
              rcases of_if h with ⟨c13, h⟩ | ⟨c13, h⟩
              · refine j_true rfl (beq_t c13) ?_
                obtain ⟨c14, h⟩ := of_guard h
                obtain ⟨c15, h⟩ := of_guard h
                refine j_draw (.row x6.1.A x6.1.c 3 1 (ii v3) :: .row x6.2.1.A x6.2.1.c 3 1 (ii v4) :: .row x6.2.2.2.A x6.2.2.2.c 3 1 (ii v6) :: .box x3 27 [(.slice none 0 0), (.slice none 0 0), (.slice none 0 0), (.slice none 0 0)] :: .box x2 29 [(i6 a1_0), (i6 a1_1), (i6 a1_2)] :: .box x1 27 [(.slice x6.1.A x6.1.n x6.1.c), (.slice x6.2.1.A x6.2.1.n x6.2.1.c), (.slice x6.2.2.1.A x6.2.2.1.n x6.2.2.1.c), (.slice x6.2.2.2.A x6.2.2.2.n x6.2.2.2.c)] :: F) 11 follows_any rfl ?_
                refine d_take 0 rfl (q_move rfl rfl) rfl rfl (by kernel_rfl) (by kernel_rfl) (by kernel_rfl) (fun w h => h.pick 7 [0, 1, 3, 4, 5, 6] rfl) ?_
                refine d_take 1 rfl (q_fieldAddr fi29_1 sz3 rfl rfl rfl) rfl rfl (by kernel_rfl) (by kernel_rfl) (by kernel_rfl) (fun w h => h.pick 7 [0, 1, 3, 4, 5, 6] rfl) ?_
                refine d_take 2 rfl (q_loadb 4 rfl ag3 rfl rfl rfl) rfl rfl (by kernel_rfl) (by kernel_rfl) (by kernel_rfl) (fun w h => h.pick 7 [0, 1, 3, 4, 5, 6] rfl) ?_
                refine d_take 3 rfl (q_fieldAddr fi27_0 sz25 rfl rfl rfl) rfl rfl (by kernel_rfl) (by kernel_rfl) (by kernel_rfl) (fun w h => h.pick 7 [0, 1, 3, 4, 5, 6] rfl) ?_
                refine d_take 4 rfl (q_fieldAddr fi25_1 sz23 rfl rfl rfl) rfl rfl (by kernel_rfl) (by kernel_rfl) (by kernel_rfl) (fun w h => h.pick 7 [0, 1, 3, 4, 5, 6] rfl) ?_
                refine d_take 5 rfl (q_loadb 5 rfl ag23 rfl rfl rfl) rfl rfl (by kernel_rfl) (by kernel_rfl) (by kernel_rfl) (fun w h => h.pick 7 [0, 1, 3, 4, 5, 6] rfl) ?_
                refine d_take 6 rfl (q_move rfl rfl) rfl rfl (by kernel_rfl) (by kernel_rfl) (by kernel_rfl) (fun w h => h.pick 7 [0, 1, 3, 4, 5, 6] rfl) ?_
                refine d_take 7 rfl (q_ix (Rd.row 1 rfl) (ints_len1 _ v4) (by decide) x6.2.1.h c14 un23 sz3 rfl rfl rfl) rfl rfl (by kernel_rfl) (by kernel_rfl) (by kernel_rfl) (fun w h => h.pick 7 [0, 1, 3, 4, 5, 6] rfl) ?_
                refine d_take 8 rfl (q_ldI (Rd.row 1 rfl) c14 ag3 rfl rfl) rfl rfl (by kernel_rfl) (by kernel_rfl) (by kernel_rfl) (fun w h => h.pick 7 [0, 1, 3, 4, 5, 6] rfl) ?_
                refine d_one 9 (by kernel_rfl) ?_
                refine o_do rfl ((q_ix (Rd.row 2 rfl) (ints_len1 _ (v5.set a1_1.toNat (rd v3 (rd v5 a1_2)))) (by decide) (set_len x6.2.2.1.h _ _) c15 un23 sz3 rfl rfl rfl)).acts rfl rfl (fun _ w h => h.pick 7 [0, 1, 3, 4, 5, 6] rfl) (fun _ => ?_)
                refine d_one 10 (by kernel_rfl) ?_
                refine o_do rfl (a_stI 2 rfl c15 sz3 rfl rfl rfl) rfl rfl (fun _ w h => h.pick 7 [0, 1, 3, 4, 5, 6] rfl) (fun _ => ?_)
                refine j_s2 ?_
                refine d_done (by kernel_rfl) ?_
                refine j_in ?_
                refine j_then ?_
                refine j_seq ?_
                refine j_region ?_
                refine r_q (q_loadb_agg 6 rfl ag27 sz27 rfl rfl rfl rfl) rfl rfl ?_
                refine r_do (a_storeb 4 rfl sz27 rfl rfl rfl rfl (Nat.le_of_ble_eq_true rfl) rfl) rfl rfl (fun _ => ?_)
                refine j_b4 [(.slice x6.1.A x6.1.n x6.1.c), (.slice x6.2.1.A x6.2.1.n x6.2.1.c), (.slice x6.2.2.1.A x6.2.2.1.n x6.2.2.1.c), (.slice x6.2.2.2.A x6.2.2.2.n x6.2.2.2.c)] rfl ?_
                refine r_q (q_assign rfl rfl) rfl rfl ?_
                refine r_q (q_assign rfl rfl) rfl rfl ?_
                refine r_nil ?_
                refine j_then ?_
                refine j_ret ?_
                cases h
                exact j_return rfl (ResOf.cell 4 rfl rfl ag27 sz27 (ResOf.tmp rfl (ResOf.tmp rfl ResOf.nil))) rfl (fun w h => ⟨(⟨x6.1.A, x6.1.n, x6.1.c, x6.1.h⟩, ⟨x6.2.1.A, x6.2.1.n, x6.2.1.c, x6.2.1.h⟩, ⟨x6.2.2.1.A, x6.2.2.1.n, x6.2.2.1.c, (set_len (set_len x6.2.2.1.h _ _) _ _)⟩, ⟨x6.2.2.2.A, x6.2.2.2.n, x6.2.2.2.c, x6.2.2.2.h⟩), rfl, h.pick 7 [0, 1, 2, 3] rfl⟩)
              · refine j_false rfl (beq_f c13) ?_
                refine j_skip ?_
                refine j_in ?_
                refine j_then ?_
                refine j_seq ?_
                refine j_region ?_
                refine r_q (q_loadb_agg 6 rfl ag27 sz27 rfl rfl rfl rfl) rfl rfl ?_
                refine r_do (a_storeb 4 rfl sz27 rfl rfl rfl rfl (Nat.le_of_ble_eq_true rfl) rfl) rfl rfl (fun _ => ?_)
                refine j_b4 [(.slice x6.1.A x6.1.n x6.1.c), (.slice x6.2.1.A x6.2.1.n x6.2.1.c), (.slice x6.2.2.1.A x6.2.2.1.n x6.2.2.1.c), (.slice x6.2.2.2.A x6.2.2.2.n x6.2.2.2.c)] rfl ?_
                refine r_q (q_assign rfl rfl) rfl rfl ?_
                refine r_q (q_assign rfl rfl) rfl rfl ?_
                refine r_nil ?_
                refine j_then ?_
                refine j_ret ?_
                cases h
                exact j_return rfl (ResOf.cell 4 rfl rfl ag27 sz27 (ResOf.tmp rfl (ResOf.tmp rfl ResOf.nil))) rfl (fun w h => ⟨(⟨x6.1.A, x6.1.n, x6.1.c, x6.1.h⟩, ⟨x6.2.1.A, x6.2.1.n, x6.2.1.c, x6.2.1.h⟩, ⟨x6.2.2.1.A, x6.2.2.1.n, x6.2.2.1.c, (set_len x6.2.2.1.h _ _)⟩, ⟨x6.2.2.2.A, x6.2.2.2.n, x6.2.2.2.c, x6.2.2.2.h⟩), rfl, h.pick 7 [0, 1, 2, 3] rfl⟩)
          · refine j_false rfl (beq_f c8) ?_
            refine j_region ?_
            refine r_q (q_eql rfl rfl rfl) rfl rfl ?_
            refine r_q (q_assign rfl rfl) rfl rfl ?_
            refine r_nil ?_
            refine j_then ?_
            rcases of_if h with ⟨c16, h⟩ | ⟨c16, h⟩
            · refine j_true rfl (beq_t c16) ?_
              refine j_seq ?_
              refine j_region ?_
              refine r_q (q_move rfl rfl) rfl rfl ?_
              refine r_q (q_fieldAddr fi29_2 sz3 rfl rfl rfl) rfl rfl ?_
              refine r_q (q_loadb 5 rfl ag3 rfl rfl rfl) rfl rfl ?_
              obtain ⟨c17, h⟩ := of_guard h
              refine r_q (q_ix (Rd.row 2 rfl) (ints_len1 _ v5) (by decide) x6.2.2.1.h c17 un23 sz3 rfl rfl rfl) rfl rfl ?_
              refine r_q (q_ldI (Rd.row 2 rfl) c17 ag3 rfl rfl) rfl rfl ?_
              refine r_q (q_assign rfl rfl) rfl rfl ?_
              refine r_nil ?_
              refine j_then ?_
              refine j_seq ?_
              refine j_seq ?_
              refine j_region ?_
              refine r_q (q_move rfl rfl) rfl rfl ?_
              refine r_q (q_eql rfl rfl rfl) rfl rfl ?_
              refine r_nil ?_
              refine j_then ?_
              rcases of_if h with ⟨c18, h⟩ | ⟨c18, h⟩
              · refine j_true rfl (beq_t c18) ?_
                refine j_seq ?_
                refine j_region ?_
                refine r_q (q_loadb_agg 6 rfl ag27 sz27 rfl rfl rfl rfl) rfl rfl ?_
                refine r_do (a_storeb 4 rfl sz27 rfl rfl rfl rfl (Nat.le_of_ble_eq_true rfl) rfl) rfl rfl (fun _ => ?_)
                refine j_b4 [(.slice x6.1.A x6.1.n x6.1.c), (.slice x6.2.1.A x6.2.1.n x6.2.1.c), (.slice x6.2.2.1.A x6.2.2.1.n x6.2.2.1.c), (.slice x6.2.2.2.A x6.2.2.2.n x6.2.2.2.c)] rfl ?_
                refine r_q (q_assign rfl rfl) rfl rfl ?_
                refine r_q (q_assign rfl rfl) rfl rfl ?_
                refine r_nil ?_
                refine j_then ?_
                refine j_ret ?_
                refine j_then_ret ?_
                refine j_in_ret ?_
                refine j_then_ret ?_
                cases h
                exact j_return rfl (ResOf.cell 4 rfl rfl ag27 sz27 (ResOf.tmp rfl (ResOf.tmp rfl ResOf.nil))) rfl (fun w h => ⟨(⟨x6.1.A, x6.1.n, x6.1.c, x6.1.h⟩, ⟨x6.2.1.A, x6.2.1.n, x6.2.1.c, x6.2.1.h⟩, ⟨x6.2.2.1.A, x6.2.2.1.n, x6.2.2.1.c, x6.2.2.1.h⟩, ⟨x6.2.2.2.A, x6.2.2.2.n, x6.2.2.2.c, x6.2.2.2.h⟩), rfl, h.pick 7 [0, 1, 2, 3] rfl⟩)
              · refine j_false rfl (beq_f c18) ?_
                refine j_skip ?_
                refine j_then ?_
                refine j_seq ?_
                obtain ⟨c19, h⟩ := of_guard h
                obtain ⟨c20, h⟩ := of_guard h
                refine j_draw (.row x6.1.A x6.1.c 3 1 (ii v3) :: .row x6.2.1.A x6.2.1.c 3 1 (ii v4) :: .row x6.2.2.2.A x6.2.2.2.c 3 1 (ii v6) :: .box x3 27 [(.slice none 0 0), (.slice none 0 0), (.slice none 0 0), (.slice none 0 0)] :: .box x2 29 [(i6 a1_0), (i6 a1_1), (i6 a1_2)] :: .box x1 27 [(.slice x6.1.A x6.1.n x6.1.c), (.slice x6.2.1.A x6.2.1.n x6.2.1.c), (.slice x6.2.2.1.A x6.2.2.1.n x6.2.2.1.c), (.slice x6.2.2.2.A x6.2.2.2.n x6.2.2.2.c)] :: F) 11 follows_any rfl ?_
                refine d_take 0 rfl (q_move rfl rfl) rfl rfl (by kernel_rfl) (by kernel_rfl) (by kernel_rfl) (fun w h => h.pick 7 [0, 1, 3, 4, 5, 6] rfl) ?_
                refine d_take 1 rfl (q_fieldAddr fi29_1 sz3 rfl rfl rfl) rfl rfl (by kernel_rfl) (by kernel_rfl) (by kernel_rfl) (fun w h => h.pick 7 [0, 1, 3, 4, 5, 6] rfl) ?_
                refine d_take 2 rfl (q_loadb 4 rfl ag3 rfl rfl rfl) rfl rfl (by kernel_rfl) (by kernel_rfl) (by kernel_rfl) (fun w h => h.pick 7 [0, 1, 3, 4, 5, 6] rfl) ?_
                refine d_take 3 rfl (q_fieldAddr fi27_0 sz25 rfl rfl rfl) rfl rfl (by kernel_rfl) (by kernel_rfl) (by kernel_rfl) (fun w h => h.pick 7 [0, 1, 3, 4, 5, 6] rfl) ?_
                refine d_take 4 rfl (q_fieldAddr fi25_0 sz23 rfl rfl rfl) rfl rfl (by kernel_rfl) (by kernel_rfl) (by kernel_rfl) (fun w h => h.pick 7 [0, 1, 3, 4, 5, 6] rfl) ?_
                refine d_take 5 rfl (q_loadb 5 rfl ag23 rfl rfl rfl) rfl rfl (by kernel_rfl) (by kernel_rfl) (by kernel_rfl) (fun w h => h.pick 7 [0, 1, 3, 4, 5, 6] rfl) ?_
                refine d_take 6 rfl (q_move rfl rfl) rfl rfl (by kernel_rfl) (by kernel_rfl) (by kernel_rfl) (fun w h => h.pick 7 [0, 1, 3, 4, 5, 6] rfl) ?_
                refine d_take 7 rfl (q_ix (Rd.row 0 rfl) (ints_len1 _ v3) (by decide) x6.1.h c19 un23 sz3 rfl rfl rfl) rfl rfl (by kernel_rfl) (by kernel_rfl) (by kernel_rfl) (fun w h => h.pick 7 [0, 1, 3, 4, 5, 6] rfl) ?_
                refine d_take 8 rfl (q_ldI (Rd.row 0 rfl) c19 ag3 rfl rfl) rfl rfl (by kernel_rfl) (by kernel_rfl) (by kernel_rfl) (fun w h => h.pick 7 [0, 1, 3, 4, 5, 6] rfl) ?_
                refine d_one 9 (by kernel_rfl) ?_
                refine o_do rfl ((q_ix (Rd.row 2 rfl) (ints_len1 _ v5) (by decide) x6.2.2.1.h c20 un23 sz3 rfl rfl rfl)).acts rfl rfl (fun _ w h => h.pick 7 [0, 1, 3, 4, 5, 6] rfl) (fun _ => ?_)
                refine d_one 10 (by kernel_rfl) ?_
                refine o_do rfl (a_stI 2 rfl c20 sz3 rfl rfl rfl) rfl rfl (fun _ w h => h.pick 7 [0, 1, 3, 4, 5, 6] rfl) (fun _ => ?_)
                refine j_s2 ?_
                refine d_done (by kernel_rfl) ?_
                refine j_then ?_
                refine j_seq ?_
                refine j_region ?_
                refine r_q (q_fieldAddr fi29_0 sz3 rfl rfl rfl) rfl rfl ?_
                refine r_q (q_loadb 5 rfl ag3 rfl rfl rfl) rfl rfl ?_
                refine r_q (q_eql rfl rfl rfl) rfl rfl ?_
                refine r_nil ?_
                refine j_then ?_
                refine j_true rfl (beq_t c16) ?_
                obtain ⟨c21, h⟩ := of_guard h
                obtain ⟨c22, h⟩ := of_guard h
                refine j_draw (.row x6.1.A x6.1.c 3 1 (ii v3) :: .row x6.2.1.A x6.2.1.c 3 1 (ii v4) :: .row x6.2.2.2.A x6.2.2.2.c 3 1 (ii v6) :: .box x3 27 [(.slice none 0 0), (.slice none 0 0), (.slice none 0 0), (.slice none 0 0)] :: .box x2 29 [(i6 a1_0), (i6 a1_1), (i6 a1_2)] :: .box x1 27 [(.slice x6.1.A x6.1.n x6.1.c), (.slice x6.2.1.A x6.2.1.n x6.2.1.c), (.slice x6.2.2.1.A x6.2.2.1.n x6.2.2.1.c), (.slice x6.2.2.2.A x6.2.2.2.n x6.2.2.2.c)] :: F) 11 follows_any rfl ?_
                refine d_take 0 rfl (q_move rfl rfl) rfl rfl (by kernel_rfl) (by kernel_rfl) (by kernel_rfl) (fun w h => h.pick 7 [0, 1, 3, 4, 5, 6] rfl) ?_
                refine d_take 1 rfl (q_fieldAddr fi29_1 sz3 rfl rfl rfl) rfl rfl (by kernel_rfl) (by kernel_rfl) (by kernel_rfl) (fun w h => h.pick 7 [0, 1, 3, 4, 5, 6] rfl) ?_
                refine d_take 2 rfl (q_loadb 4 rfl ag3 rfl rfl rfl) rfl rfl (by kernel_rfl) (by kernel_rfl) (by kernel_rfl) (fun w h => h.pick 7 [0, 1, 3, 4, 5, 6] rfl) ?_
                refine d_take 3 rfl (q_fieldAddr fi27_0 sz25 rfl rfl rfl) rfl rfl (by kernel_rfl) (by kernel_rfl) (by kernel_rfl) (fun w h => h.pick 7 [0, 1, 3, 4, 5, 6] rfl) ?_
                refine d_take 4 rfl (q_fieldAddr fi25_1 sz23 rfl rfl rfl) rfl rfl (by kernel_rfl) (by kernel_rfl) (by kernel_rfl) (fun w h => h.pick 7 [0, 1, 3, 4, 5, 6] rfl) ?_
                refine d_take 5 rfl (q_loadb 5 rfl ag23 rfl rfl rfl) rfl rfl (by kernel_rfl) (by kernel_rfl) (by kernel_rfl) (fun w h => h.pick 7 [0, 1, 3, 4, 5, 6] rfl) ?_
                refine d_take 6 rfl (q_move rfl rfl) rfl rfl (by kernel_rfl) (by kernel_rfl) (by kernel_rfl) (fun w h => h.pick 7 [0, 1, 3, 4, 5, 6] rfl) ?_
                refine d_take 7 rfl (q_ix (Rd.row 1 rfl) (ints_len1 _ v4) (by decide) x6.2.1.h c21 un23 sz3 rfl rfl rfl) rfl rfl (by kernel_rfl) (by kernel_rfl) (by kernel_rfl) (fun w h => h.pick 7 [0, 1, 3, 4, 5, 6] rfl) ?_
                refine d_take 8 rfl (q_ldI (Rd.row 1 rfl) c21 ag3 rfl rfl) rfl rfl (by kernel_rfl) (by kernel_rfl) (by kernel_rfl) (fun w h => h.pick 7 [0, 1, 3, 4, 5, 6] rfl) ?_
                refine d_one 9 (by kernel_rfl) ?_
                refine o_do rfl ((q_ix (Rd.row 2 rfl) (ints_len1 _ (v5.set a1_1.toNat (rd v3 (rd v5 a1_2)))) (by decide) (set_len x6.2.2.1.h _ _) c22 un23 sz3 rfl rfl rfl)).acts rfl rfl (fun _ w h => h.pick 7 [0, 1, 3, 4, 5, 6] rfl) (fun _ => ?_)
                refine d_one 10 (by kernel_rfl) ?_
                refine o_do rfl (a_stI 2 rfl c22 sz3 rfl rfl rfl) rfl rfl (fun _ w h => h.pick 7 [0, 1, 3, 4, 5, 6] rfl) (fun _ => ?_)
                refine j_s2 ?_
                refine d_done (by kernel_rfl) ?_
                refine j_in ?_
                refine j_then ?_
                refine j_seq ?_
                refine j_region ?_
                refine r_q (q_loadb_agg 6 rfl ag27 sz27 rfl rfl rfl rfl) rfl rfl ?_
                refine r_do (a_storeb 4 rfl sz27 rfl rfl rfl rfl (Nat.le_of_ble_eq_true rfl) rfl) rfl rfl (fun _ => ?_)
                refine j_b4 [(.slice x6.1.A x6.1.n x6.1.c), (.slice x6.2.1.A x6.2.1.n x6.2.1.c), (.slice x6.2.2.1.A x6.2.2.1.n x6.2.2.1.c), (.slice x6.2.2.2.A x6.2.2.2.n x6.2.2.2.c)] rfl ?_
                refine r_q (q_assign rfl rfl) rfl rfl ?_
                refine r_q (q_assign rfl rfl) rfl rfl ?_
                refine r_nil ?_
                refine j_then ?_
                refine j_ret ?_
                cases h
                exact j_return rfl (ResOf.cell 4 rfl rfl ag27 sz27 (ResOf.tmp rfl (ResOf.tmp rfl ResOf.nil))) rfl (fun w h => ⟨(⟨x6.1.A, x6.1.n, x6.1.c, x6.1.h⟩, ⟨x6.2.1.A, x6.2.1.n, x6.2.1.c, x6.2.1.h⟩, ⟨x6.2.2.1.A, x6.2.2.1.n, x6.2.2.1.c, (set_len (set_len x6.2.2.1.h _ _) _ _)⟩, ⟨x6.2.2.2.A, x6.2.2.2.n, x6.2.2.2.c, x6.2.2.2.h⟩), rfl, h.pick 7 [0, 1, 2, 3] rfl⟩)
            · refine j_false rfl (beq_f c16) ?_
              refine j_seq ?_
              refine j_seq ?_
              refine j_region ?_
              refine r_q (q_eql rfl rfl rfl) rfl rfl ?_
              refine r_q (q_assign rfl rfl) rfl rfl ?_
              refine r_nil ?_
              refine j_then ?_
              rcases of_if h with ⟨c23, h⟩ | ⟨c23, h⟩
              · refine j_true rfl (beq_t c23) ?_
                refine j_skip ?_
                refine j_then ?_
                refine j_true rfl (beq_t c23) ?_
                refine j_seq ?_
                refine j_region ?_
                refine r_q (q_move rfl rfl) rfl rfl ?_
                refine r_q (q_fieldAddr fi29_1 sz3 rfl rfl rfl) rfl rfl ?_
                refine r_q (q_loadb 5 rfl ag3 rfl rfl rfl) rfl rfl ?_
                obtain ⟨c24, h⟩ := of_guard h
                refine r_q (q_ix (Rd.row 2 rfl) (ints_len1 _ v5) (by decide) x6.2.2.1.h c24 un23 sz3 rfl rfl rfl) rfl rfl ?_
                refine r_q (q_ldI (Rd.row 2 rfl) c24 ag3 rfl rfl) rfl rfl ?_
                refine r_q (q_assign rfl rfl) rfl rfl ?_
                refine r_nil ?_
                refine j_then ?_
                refine j_seq ?_
                refine j_seq ?_
                refine j_region ?_
                refine r_q (q_move rfl rfl) rfl rfl ?_
                refine r_q (q_eql rfl rfl rfl) rfl rfl ?_
                refine r_nil ?_
                refine j_then ?_
                rcases of_if h with ⟨c25, h⟩ | ⟨c25, h⟩
                · refine j_true rfl (beq_t c25) ?_
                  refine j_seq ?_
                  refine j_region ?_
                  refine r_q (q_loadb_agg 6 rfl ag27 sz27 rfl rfl rfl rfl) rfl rfl ?_
                  refine r_do (a_storeb 4 rfl sz27 rfl rfl rfl rfl (Nat.le_of_ble_eq_true rfl) rfl) rfl rfl (fun _ => ?_)
                  refine j_b4 [(.slice x6.1.A x6.1.n x6.1.c), (.slice x6.2.1.A x6.2.1.n x6.2.1.c), (.slice x6.2.2.1.A x6.2.2.1.n x6.2.2.1.c), (.slice x6.2.2.2.A x6.2.2.2.n x6.2.2.2.c)] rfl ?_
                  refine r_q (q_assign rfl rfl) rfl rfl ?_
                  refine r_q (q_assign rfl rfl) rfl rfl ?_
                  refine r_nil ?_
                  refine j_then ?_
                  refine j_ret ?_
                  refine j_then_ret ?_
                  refine j_in_ret ?_
                  refine j_then_ret ?_
                  cases h
                  exact j_return rfl (ResOf.cell 4 rfl rfl ag27 sz27 (ResOf.tmp rfl (ResOf.tmp rfl ResOf.nil))) rfl (fun w h => ⟨(⟨x6.1.A, x6.1.n, x6.1.c, x6.1.h⟩, ⟨x6.2.1.A, x6.2.1.n, x6.2.1.c, x6.2.1.h⟩, ⟨x6.2.2.1.A, x6.2.2.1.n, x6.2.2.1.c, x6.2.2.1.h⟩, ⟨x6.2.2.2.A, x6.2.2.2.n, x6.2.2.2.c, x6.2.2.2.h⟩), rfl, h.pick 7 [0, 1, 2, 3] rfl⟩)
                · refine j_false rfl (beq_f c25) ?_
                  refine j_skip ?_
                  refine j_then ?_
                  refine j_seq ?_
                  refine j_region ?_
                  refine r_q (q_fieldAddr fi29_0 sz3 rfl rfl rfl) rfl rfl ?_
                  refine r_q (q_loadb 5 rfl ag3 rfl rfl rfl) rfl rfl ?_
                  refine r_q (q_eql rfl rfl rfl) rfl rfl ?_
                  refine r_nil ?_
                  refine j_then ?_
                  refine j_true rfl (beq_t c23) ?_
                  obtain ⟨c26, h⟩ := of_guard h
                  obtain ⟨c27, h⟩ := of_guard h
                  refine j_draw (.row x6.2.1.A x6.2.1.c 3 1 (ii v4) :: .row x6.2.2.1.A x6.2.2.1.c 3 1 (ii v5) :: .row x6.2.2.2.A x6.2.2.2.c 3 1 (ii v6) :: .box x3 27 [(.slice none 0 0), (.slice none 0 0), (.slice none 0 0), (.slice none 0 0)] :: .box x2 29 [(i6 a1_0), (i6 a1_1), (i6 a1_2)] :: .box x1 27 [(.slice x6.1.A x6.1.n x6.1.c), (.slice x6.2.1.A x6.2.1.n x6.2.1.c), (.slice x6.2.2.1.A x6.2.2.1.n x6.2.2.1.c), (.slice x6.2.2.2.A x6.2.2.2.n x6.2.2.2.c)] :: F) 11 follows_any rfl ?_
                  refine d_take 0 rfl (q_fieldAddr fi27_0 sz25 rfl rfl rfl) rfl rfl (by kernel_rfl) (by kernel_rfl) (by kernel_rfl) (fun w h => h.tail) ?_
                  refine d_take 1 rfl (q_fieldAddr fi25_0 sz23 rfl rfl rfl) rfl rfl (by kernel_rfl) (by kernel_rfl) (by kernel_rfl) (fun w h => h.tail) ?_
                  refine d_take 2 rfl (q_loadb 5 rfl ag23 rfl rfl rfl) rfl rfl (by kernel_rfl) (by kernel_rfl) (by kernel_rfl) (fun w h => h.tail) ?_
                  refine d_take 3 rfl (q_move rfl rfl) rfl rfl (by kernel_rfl) (by kernel_rfl) (by kernel_rfl) (fun w h => h.tail) ?_
                  refine d_take 4 rfl (q_move rfl rfl) rfl rfl (by kernel_rfl) (by kernel_rfl) (by kernel_rfl) (fun w h => h.tail) ?_
                  refine d_take 5 rfl (q_fieldAddr fi29_2 sz3 rfl rfl rfl) rfl rfl (by kernel_rfl) (by kernel_rfl) (by kernel_rfl) (fun w h => h.tail) ?_
                  refine d_take 6 rfl (q_loadb 4 rfl ag3 rfl rfl rfl) rfl rfl (by kernel_rfl) (by kernel_rfl) (by kernel_rfl) (fun w h => h.tail) ?_
                  refine d_take 7 rfl (q_ix (Rd.row 1 rfl) (ints_len1 _ v5) (by decide) x6.2.2.1.h c26 un23 sz3 rfl rfl rfl) rfl rfl (by kernel_rfl) (by kernel_rfl) (by kernel_rfl) (fun w h => h.tail) ?_
                  refine d_take 8 rfl (q_ldI (Rd.row 1 rfl) c26 ag3 rfl rfl) rfl rfl (by kernel_rfl) (by kernel_rfl) (by kernel_rfl) (fun w h => h.tail) ?_
                  refine d_one 9 (by kernel_rfl) ?_
                  refine o_do rfl ((q_ix (Rd.row 0 rfl) (ints_len1 _ v3) (by decide) x6.1.h c27 un23 sz3 rfl rfl rfl)).acts rfl rfl (fun _ w h => h.tail) (fun _ => ?_)
                  refine d_one 10 (by kernel_rfl) ?_
                  refine o_do rfl (a_stI 0 rfl c27 sz3 rfl rfl rfl) rfl rfl (fun _ w h => h.tail) (fun _ => ?_)
                  refine j_s0 ?_
                  refine d_done (by kernel_rfl) ?_
                  refine j_in ?_
                  refine j_then ?_
                  refine j_seq ?_
                  refine j_region ?_
                  refine r_q (q_loadb_agg 6 rfl ag27 sz27 rfl rfl rfl rfl) rfl rfl ?_
                  refine r_do (a_storeb 4 rfl sz27 rfl rfl rfl rfl (Nat.le_of_ble_eq_true rfl) rfl) rfl rfl (fun _ => ?_)
                  refine j_b4 [(.slice x6.1.A x6.1.n x6.1.c), (.slice x6.2.1.A x6.2.1.n x6.2.1.c), (.slice x6.2.2.1.A x6.2.2.1.n x6.2.2.1.c), (.slice x6.2.2.2.A x6.2.2.2.n x6.2.2.2.c)] rfl ?_
                  refine r_q (q_assign rfl rfl) rfl rfl ?_
                  refine r_q (q_assign rfl rfl) rfl rfl ?_
                  refine r_nil ?_
                  refine j_then ?_
                  refine j_ret ?_
                  cases h
                  exact j_return rfl (ResOf.cell 4 rfl rfl ag27 sz27 (ResOf.tmp rfl (ResOf.tmp rfl ResOf.nil))) rfl (fun w h => ⟨(⟨x6.1.A, x6.1.n, x6.1.c, (set_len x6.1.h _ _)⟩, ⟨x6.2.1.A, x6.2.1.n, x6.2.1.c, x6.2.1.h⟩, ⟨x6.2.2.1.A, x6.2.2.1.n, x6.2.2.1.c, x6.2.2.1.h⟩, ⟨x6.2.2.2.A, x6.2.2.2.n, x6.2.2.2.c, x6.2.2.2.h⟩), rfl, h.pick 7 [0, 1, 2, 3] rfl⟩)
              · refine j_false rfl (beq_f c23) ?_
                refine j_region ?_
                refine r_q (q_eql rfl rfl rfl) rfl rfl ?_
                refine r_q (q_assign rfl rfl) rfl rfl ?_
                refine r_nil ?_
                refine j_then ?_
                rcases of_if h with ⟨c28, h⟩ | ⟨c28, h⟩
                · refine j_true rfl (beq_t c28) ?_
                  refine j_seq ?_
                  refine j_region ?_
                  refine r_q (q_move rfl rfl) rfl rfl ?_
                  refine r_q (q_fieldAddr fi29_1 sz3 rfl rfl rfl) rfl rfl ?_
                  refine r_q (q_loadb 5 rfl ag3 rfl rfl rfl) rfl rfl ?_
                  obtain ⟨c29, h⟩ := of_guard h
                  refine r_q (q_ix (Rd.row 2 rfl) (ints_len1 _ v5) (by decide) x6.2.2.1.h c29 un23 sz3 rfl rfl rfl) rfl rfl ?_
                  refine r_q (q_ldI (Rd.row 2 rfl) c29 ag3 rfl rfl) rfl rfl ?_
                  refine r_q (q_assign rfl rfl) rfl rfl ?_
                  refine r_nil ?_
                  refine j_then ?_
                  refine j_seq ?_
                  refine j_seq ?_
                  refine j_region ?_
                  refine r_q (q_move rfl rfl) rfl rfl ?_
                  refine r_q (q_eql rfl rfl rfl) rfl rfl ?_
                  refine r_nil ?_
                  refine j_then ?_
                  rcases of_if h with ⟨c30, h⟩ | ⟨c30, h⟩
                  · refine j_true rfl (beq_t c30) ?_
                    refine j_seq ?_
                    refine j_region ?_
                    refine r_q (q_loadb_agg 6 rfl ag27 sz27 rfl rfl rfl rfl) rfl rfl ?_
                    refine r_do (a_storeb 4 rfl sz27 rfl rfl rfl rfl (Nat.le_of_ble_eq_true rfl) rfl) rfl rfl (fun _ => ?_)
                    refine j_b4 [(.slice x6.1.A x6.1.n x6.1.c), (.slice x6.2.1.A x6.2.1.n x6.2.1.c), (.slice x6.2.2.1.A x6.2.2.1.n x6.2.2.1.c), (.slice x6.2.2.2.A x6.2.2.2.n x6.2.2.2.c)] rfl ?_
                    refine r_q (q_assign rfl rfl) rfl rfl ?_
                    refine r_q (q_assign rfl rfl) rfl rfl ?_
                    refine r_nil ?_
                    refine j_then ?_
                    refine j_ret ?_
                    refine j_then_ret ?_
                    refine j_in_ret ?_
                    refine j_then_ret ?_
                    cases h
                    exact j_return rfl (ResOf.cell 4 rfl rfl ag27 sz27 (ResOf.tmp rfl (ResOf.tmp rfl ResOf.nil))) rfl (fun w h => ⟨(⟨x6.1.A, x6.1.n, x6.1.c, x6.1.h⟩, ⟨x6.2.1.A, x6.2.1.n, x6.2.1.c, x6.2.1.h⟩, ⟨x6.2.2.1.A, x6.2.2.1.n, x6.2.2.1.c, x6.2.2.1.h⟩, ⟨x6.2.2.2.A, x6.2.2.2.n, x6.2.2.2.c, x6.2.2.2.h⟩), rfl, h.pick 7 [0, 1, 2, 3] rfl⟩)
                  · refine j_false rfl (beq_f c30) ?_
                    refine j_skip ?_
                    refine j_then ?_
                    refine j_seq ?_
                    refine j_region ?_
                    refine r_q (q_fieldAddr fi29_0 sz3 rfl rfl rfl) rfl rfl ?_
                    refine r_q (q_loadb 5 rfl ag3 rfl rfl rfl) rfl rfl ?_
                    refine r_q (q_eql rfl rfl rfl) rfl rfl ?_
                    refine r_nil ?_
                    refine j_then ?_
                    refine j_false rfl (beq_f c23) ?_
                    obtain ⟨c31, h⟩ := of_guard h
                    obtain ⟨c32, h⟩ := of_guard h
                    refine j_draw (.row x6.1.A x6.1.c 3 1 (ii v3) :: .row x6.2.2.1.A x6.2.2.1.c 3 1 (ii v5) :: .row x6.2.2.2.A x6.2.2.2.c 3 1 (ii v6) :: .box x3 27 [(.slice none 0 0), (.slice none 0 0), (.slice none 0 0), (.slice none 0 0)] :: .box x2 29 [(i6 a1_0), (i6 a1_1), (i6 a1_2)] :: .box x1 27 [(.slice x6.1.A x6.1.n x6.1.c), (.slice x6.2.1.A x6.2.1.n x6.2.1.c), (.slice x6.2.2.1.A x6.2.2.1.n x6.2.2.1.c), (.slice x6.2.2.2.A x6.2.2.2.n x6.2.2.2.c)] :: F) 11 follows_any rfl ?_
                    refine d_take 0 rfl (q_fieldAddr fi27_0 sz25 rfl rfl rfl) rfl rfl (by kernel_rfl) (by kernel_rfl) (by kernel_rfl) (fun w h => h.pick 7 [0, 2, 3, 4, 5, 6] rfl) ?_
                    refine d_take 1 rfl (q_fieldAddr fi25_1 sz23 rfl rfl rfl) rfl rfl (by kernel_rfl) (by kernel_rfl) (by kernel_rfl) (fun w h => h.pick 7 [0, 2, 3, 4, 5, 6] rfl) ?_
                    refine d_take 2 rfl (q_loadb 5 rfl ag23 rfl rfl rfl) rfl rfl (by kernel_rfl) (by kernel_rfl) (by kernel_rfl) (fun w h => h.pick 7 [0, 2, 3, 4, 5, 6] rfl) ?_
                    refine d_take 3 rfl (q_move rfl rfl) rfl rfl (by kernel_rfl) (by kernel_rfl) (by kernel_rfl) (fun w h => h.pick 7 [0, 2, 3, 4, 5, 6] rfl) ?_
                    refine d_take 4 rfl (q_move rfl rfl) rfl rfl (by kernel_rfl) (by kernel_rfl) (by kernel_rfl) (fun w h => h.pick 7 [0, 2, 3, 4, 5, 6] rfl) ?_
                    refine d_take 5 rfl (q_fieldAddr fi29_2 sz3 rfl rfl rfl) rfl rfl (by kernel_rfl) (by kernel_rfl) (by kernel_rfl) (fun w h => h.pick 7 [0, 2, 3, 4, 5, 6] rfl) ?_
                    refine d_take 6 rfl (q_loadb 4 rfl ag3 rfl rfl rfl) rfl rfl (by kernel_rfl) (by kernel_rfl) (by kernel_rfl) (fun w h => h.pick 7 [0, 2, 3, 4, 5, 6] rfl) ?_
                    refine d_take 7 rfl (q_ix (Rd.row 1 rfl) (ints_len1 _ v5) (by decide) x6.2.2.1.h c31 un23 sz3 rfl rfl rfl) rfl rfl (by kernel_rfl) (by kernel_rfl) (by kernel_rfl) (fun w h => h.pick 7 [0, 2, 3, 4, 5, 6] rfl) ?_
                    refine d_take 8 rfl (q_ldI (Rd.row 1 rfl) c31 ag3 rfl rfl) rfl rfl (by kernel_rfl) (by kernel_rfl) (by kernel_rfl) (fun w h => h.pick 7 [0, 2, 3, 4, 5, 6] rfl) ?_
                    refine d_one 9 (by kernel_rfl) ?_
                    refine o_do rfl ((q_ix (Rd.row 1 rfl) (ints_len1 _ v4) (by decide) x6.2.1.h c32 un23 sz3 rfl rfl rfl)).acts rfl rfl (fun _ w h => h.pick 7 [0, 2, 3, 4, 5, 6] rfl) (fun _ => ?_)
                    refine d_one 10 (by kernel_rfl) ?_
                    refine o_do rfl (a_stI 1 rfl c32 sz3 rfl rfl rfl) rfl rfl (fun _ w h => h.pick 7 [0, 2, 3, 4, 5, 6] rfl) (fun _ => ?_)
                    refine j_s1 ?_
                    refine d_done (by kernel_rfl) ?_
                    refine j_in ?_
                    refine j_then ?_
                    refine j_seq ?_
                    refine j_region ?_
                    refine r_q (q_loadb_agg 6 rfl ag27 sz27 rfl rfl rfl rfl) rfl rfl ?_
                    refine r_do (a_storeb 4 rfl sz27 rfl rfl rfl rfl (Nat.le_of_ble_eq_true rfl) rfl) rfl rfl (fun _ => ?_)
                    refine j_b4 [(.slice x6.1.A x6.1.n x6.1.c), (.slice x6.2.1.A x6.2.1.n x6.2.1.c), (.slice x6.2.2.1.A x6.2.2.1.n x6.2.2.1.c), (.slice x6.2.2.2.A x6.2.2.2.n x6.2.2.2.c)] rfl ?_
                    refine r_q (q_assign rfl rfl) rfl rfl ?_
                    refine r_q (q_assign rfl rfl) rfl rfl ?_
                    refine r_nil ?_
                    refine j_then ?_
                    refine j_ret ?_
                    cases h
                    exact j_return rfl (ResOf.cell 4 rfl rfl ag27 sz27 (ResOf.tmp rfl (ResOf.tmp rfl ResOf.nil))) rfl (fun w h => ⟨(⟨x6.1.A, x6.1.n, x6.1.c, x6.1.h⟩, ⟨x6.2.1.A, x6.2.1.n, x6.2.1.c, (set_len x6.2.1.h _ _)⟩, ⟨x6.2.2.1.A, x6.2.2.1.n, x6.2.2.1.c, x6.2.2.1.h⟩, ⟨x6.2.2.2.A, x6.2.2.2.n, x6.2.2.2.c, x6.2.2.2.h⟩), rfl, h.pick 7 [0, 1, 2, 3] rfl⟩)
                · refine j_false rfl (beq_f c28) ?_
                  refine j_seq ?_
                  refine j_region ?_
                  refine r_q (q_eql rfl rfl rfl) rfl rfl ?_
                  refine r_q (q_assign rfl rfl) rfl rfl ?_
                  refine r_nil ?_
                  refine j_then ?_
                  rcases of_if h with ⟨c33, h⟩ | ⟨c33, h⟩
                  · refine j_true rfl (beq_t c33) ?_
                    refine j_region ?_
                    refine r_q (q_move rfl rfl) rfl rfl ?_
                    refine r_q (q_fieldAddr fi29_1 sz3 rfl rfl rfl) rfl rfl ?_
                    refine r_q (q_loadb 5 rfl ag3 rfl rfl rfl) rfl rfl ?_
                    obtain ⟨c34, h⟩ := of_guard h
                    refine r_q (q_ix (Rd.row 2 rfl) (ints_len1 _ v5) (by decide) x6.2.2.1.h c34 un23 sz3 rfl rfl rfl) rfl rfl ?_
                    refine r_do (a_stI 2 rfl c34 sz3 rfl rfl rfl) rfl rfl (fun _ => ?_)
                    refine j_s2 ?_
                    refine r_nil ?_
                    refine j_in ?_
                    refine j_then ?_
                    refine j_seq ?_
                    refine j_region ?_
                    refine r_q (q_loadb_agg 6 rfl ag27 sz27 rfl rfl rfl rfl) rfl rfl ?_
                    refine r_do (a_storeb 4 rfl sz27 rfl rfl rfl rfl (Nat.le_of_ble_eq_true rfl) rfl) rfl rfl (fun _ => ?_)
                    refine j_b4 [(.slice x6.1.A x6.1.n x6.1.c), (.slice x6.2.1.A x6.2.1.n x6.2.1.c), (.slice x6.2.2.1.A x6.2.2.1.n x6.2.2.1.c), (.slice x6.2.2.2.A x6.2.2.2.n x6.2.2.2.c)] rfl ?_
                    refine r_q (q_assign rfl rfl) rfl rfl ?_
                    refine r_q (q_assign rfl rfl) rfl rfl ?_
                    refine r_nil ?_
                    refine j_then ?_
                    refine j_ret ?_
                    cases h
                    exact j_return rfl (ResOf.cell 4 rfl rfl ag27 sz27 (ResOf.tmp rfl (ResOf.tmp rfl ResOf.nil))) rfl (fun w h => ⟨(⟨x6.1.A, x6.1.n, x6.1.c, x6.1.h⟩, ⟨x6.2.1.A, x6.2.1.n, x6.2.1.c, x6.2.1.h⟩, ⟨x6.2.2.1.A, x6.2.2.1.n, x6.2.2.1.c, (set_len x6.2.2.1.h _ _)⟩, ⟨x6.2.2.2.A, x6.2.2.2.n, x6.2.2.2.c, x6.2.2.2.h⟩), rfl, h.pick 7 [0, 1, 2, 3] rfl⟩)
                  · refine j_false rfl (beq_f c33) ?_
                    refine j_skip ?_
                    refine j_in ?_
                    refine j_then ?_
                    refine j_seq ?_
                    refine j_region ?_
                    refine r_q (q_loadb_agg 6 rfl ag27 sz27 rfl rfl rfl rfl) rfl rfl ?_
                    refine r_do (a_storeb 4 rfl sz27 rfl rfl rfl rfl (Nat.le_of_ble_eq_true rfl) rfl) rfl rfl (fun _ => ?_)
                    refine j_b4 [(.slice x6.1.A x6.1.n x6.1.c), (.slice x6.2.1.A x6.2.1.n x6.2.1.c), (.slice x6.2.2.1.A x6.2.2.1.n x6.2.2.1.c), (.slice x6.2.2.2.A x6.2.2.2.n x6.2.2.2.c)] rfl ?_
                    refine r_q (q_assign rfl rfl) rfl rfl ?_
                    refine r_q (q_assign rfl rfl) rfl rfl ?_
                    refine r_nil ?_
                    refine j_then ?_
                    refine j_ret ?_
                    cases h
                    exact j_return rfl (ResOf.cell 4 rfl rfl ag27 sz27 (ResOf.tmp rfl (ResOf.tmp rfl ResOf.nil))) rfl (fun w h => ⟨(⟨x6.1.A, x6.1.n, x6.1.c, x6.1.h⟩, ⟨x6.2.1.A, x6.2.1.n, x6.2.1.c, x6.2.1.h⟩, ⟨x6.2.2.1.A, x6.2.2.1.n, x6.2.2.1.c, x6.2.2.1.h⟩, ⟨x6.2.2.2.A, x6.2.2.2.n, x6.2.2.2.c, x6.2.2.2.h⟩), rfl, h.pick 7 [0, 1, 2, 3] rfl⟩)
    · refine j_true rfl (not_t (var_f c2)) ?_
      refine j_seq ?_
      refine j_region ?_
      refine r_q (q_build (cs := [(.slice none 0 0), (.slice none 0 0), (.slice none 0 0), (.slice none 0 0)]) zr27 pl27 rfl rfl rfl rfl) rfl rfl ?_
      refine r_do (a_storeb 0 rfl sz27 rfl rfl rfl rfl (Nat.le_of_ble_eq_true rfl) rfl) rfl rfl (fun _ => ?_)
      refine j_b0 [(.slice none 0 0), (.slice none 0 0), (.slice none 0 0), (.slice none 0 0)] rfl ?_
      refine r_q (q_assign rfl rfl) rfl rfl ?_
      refine r_q (q_assign rfl rfl) rfl rfl ?_
      refine r_nil ?_
      refine j_then ?_
      refine j_ret ?_
      refine j_then_ret ?_
      refine j_nil 3 1 ?_
      refine j_nil 3 1 ?_
      refine j_nil 3 1 ?_
      refine j_nil 3 1 ?_
      cases h
      exact j_return rfl (ResOf.cell 4 rfl rfl ag27 sz27 (ResOf.tmp rfl (ResOf.tmp rfl ResOf.nil))) rfl (fun w h => ⟨(⟨none, 0, 0, rfl⟩, ⟨none, 0, 0, rfl⟩, ⟨none, 0, 0, rfl⟩, ⟨none, 0, 0, rfl⟩), rfl, h.pick 7 [3, 2, 1, 0] rfl⟩)
  · refine r_off rfl rfl rfl rfl (not_t (var_f c1)) rfl ?_
    refine r_off rfl rfl rfl rfl (not_t (var_f c1)) rfl ?_
    refine r_off rfl rfl rfl rfl (not_t (var_f c1)) rfl ?_
    refine r_off rfl rfl rfl rfl (not_t (var_f c1)) rfl ?_
    refine r_off rfl rfl rfl rfl (not_t (var_f c1)) rfl ?_
    refine r_off rfl rfl rfl rfl (not_t (var_f c1)) rfl ?_
    refine r_off rfl rfl rfl rfl (not_t (var_f c1)) rfl ?_
    refine r_q (q_pick_t rfl rfl (not_t (var_f c1)) rfl) rfl rfl ?_
    refine r_nil ?_
    refine j_then ?_
    refine j_true rfl rfl ?_
    refine j_seq ?_
    refine j_region ?_
    refine r_q (q_build (cs := [(.slice none 0 0), (.slice none 0 0), (.slice none 0 0), (.slice none 0 0)]) zr27 pl27 rfl rfl rfl rfl) rfl rfl ?_
    refine r_do (a_storeb 0 rfl sz27 rfl rfl rfl rfl (Nat.le_of_ble_eq_true rfl) rfl) rfl rfl (fun _ => ?_)
    refine j_b0 [(.slice none 0 0), (.slice none 0 0), (.slice none 0 0), (.slice none 0 0)] rfl ?_
    refine r_q (q_assign rfl rfl) rfl rfl ?_
    refine r_q (q_assign rfl rfl) rfl rfl ?_
    refine r_nil ?_
    refine j_then ?_
    refine j_ret ?_
    refine j_then_ret ?_
    refine j_nil 3 1 ?_
    refine j_nil 3 1 ?_
    refine j_nil 3 1 ?_
    refine j_nil 3 1 ?_
    cases h
    exact j_return rfl (ResOf.cell 4 rfl rfl ag27 sz27 (ResOf.tmp rfl (ResOf.tmp rfl ResOf.nil))) rfl (fun w h => ⟨(⟨none, 0, 0, rfl⟩, ⟨none, 0, 0, rfl⟩, ⟨none, 0, 0, rfl⟩, ⟨none, 0, 0, rfl⟩), rfl, h.pick 7 [3, 2, 1, 0] rfl⟩)

theorem spec_l5Word.calls (K : Nat) (a0 : Int) {w0 w : World} {F : List Res} {r1 : ByteArray} (hm : Mem w0 (F) w)  (h : spec_l5Word.f K a0 = some r1) :
    Calls Try.prog 38 (List.toArray [i6 a0]) w fun e w' => ∃ x : Unit, e = .returned (.string r1) ∧ Mem w0 (F) w' := by
  unfold spec_l5Word.f at h
  refine calls_of_J (n := 15) Try.func38 rfl rfl rfl hm ?_
  refine j_seq ?_
  refine j_region ?_
  refine r_q (q_assign rfl rfl) rfl rfl ?_
  refine r_nil ?_
  refine j_then ?_
  refine j_seq ?_
  refine j_region ?_
  refine r_do (a_litX (vs := [(.string (⟨#[]⟩ : ByteArray)), (.string (⟨#[110, 101, 119]⟩ : ByteArray)), (.string (⟨#[99, 111, 112, 121]⟩ : ByteArray)), (.string (⟨#[108, 101, 102, 116]⟩ : ByteArray)), (.string (⟨#[114, 105, 103, 104, 116]⟩ : ByteArray)), (.string (⟨#[112, 117, 116, 108, 101, 102, 116]⟩ : ByteArray)), (.string (⟨#[112, 117, 116, 114, 105, 103, 104, 116]⟩ : ByteArray)), (.string (⟨#[99, 108, 101, 97, 114]⟩ : ByteArray))]) (strs ([(⟨#[]⟩ : ByteArray), (⟨#[110, 101, 119]⟩ : ByteArray), (⟨#[99, 111, 112, 121]⟩ : ByteArray), (⟨#[108, 101, 102, 116]⟩ : ByteArray), (⟨#[114, 105, 103, 104, 116]⟩ : ByteArray), (⟨#[112, 117, 116, 108, 101, 102, 116]⟩ : ByteArray), (⟨#[112, 117, 116, 114, 105, 103, 104, 116]⟩ : ByteArray), (⟨#[99, 108, 101, 97, 114]⟩ : ByteArray)] : List ByteArray)) un70 sz9 zr9 rfl rfl rfl rfl rfl rfl rfl rfl rfl) rfl rfl (fun x1 => ?_)
  refine r_q (q_assign rfl rfl) rfl rfl ?_
  refine r_nil ?_
  refine j_then ?_
  refine j_seq ?_
  refine j_seq ?_
  refine j_region ?_
  refine r_q (q_move rfl rfl) rfl rfl ?_
  refine r_q (q_lss rfl rfl rfl) rfl rfl ?_
  refine r_q (q_move rfl rfl) rfl rfl ?_
  rcases of_if h with ⟨c1, h⟩ | ⟨c1, h⟩
  · refine r_off rfl rfl rfl rfl (decide_eq_true c1) rfl ?_
    refine r_off rfl rfl rfl rfl (decide_eq_true c1) rfl ?_
    refine r_q (q_pick_t rfl rfl (decide_eq_true c1) rfl) rfl rfl ?_
    refine r_nil ?_
    refine j_then ?_
    refine j_true rfl rfl ?_
    refine j_seq ?_
    refine j_region ?_
    refine r_q (q_assign rfl rfl) rfl rfl ?_
    refine r_nil ?_
    refine j_then ?_
    refine j_ret ?_
    refine j_then_ret ?_
    cases h
    exact j_return rfl (ResOf.tmp rfl ResOf.nil) rfl (fun w h => ⟨(), rfl, h.tail⟩)
  · refine r_qon (q_move rfl rfl) rfl rfl rfl rfl (decide_eq_false c1) rfl ?_
    refine r_qon (q_gtr rfl rfl rfl) rfl rfl rfl rfl (decide_eq_false c1) rfl ?_
    refine r_q (q_pick_f rfl rfl (decide_eq_false c1) rfl) rfl rfl ?_
    refine r_nil ?_
    refine j_then ?_
    rcases of_if h with ⟨c2, h⟩ | ⟨c2, h⟩
    · refine j_true rfl (decide_eq_true c2) ?_
      refine j_seq ?_
      refine j_region ?_
      refine r_q (q_assign rfl rfl) rfl rfl ?_
      refine r_nil ?_
      refine j_then ?_
      refine j_ret ?_
      refine j_then_ret ?_
      cases h
      exact j_return rfl (ResOf.tmp rfl ResOf.nil) rfl (fun w h => ⟨(), rfl, h.tail⟩)
    · refine j_false rfl (decide_eq_false c2) ?_
      refine j_skip ?_
      refine j_then ?_
      refine j_seq ?_
      refine j_region ?_
      refine r_q (q_move rfl rfl) rfl rfl ?_
      refine r_q (q_move rfl rfl) rfl rfl ?_
      obtain ⟨c3, h⟩ := of_guard h
      refine r_q (q_ix (Rd.row 0 rfl) (strs_len1 ([(⟨#[]⟩ : ByteArray), (⟨#[110, 101, 119]⟩ : ByteArray), (⟨#[99, 111, 112, 121]⟩ : ByteArray), (⟨#[108, 101, 102, 116]⟩ : ByteArray), (⟨#[114, 105, 103, 104, 116]⟩ : ByteArray), (⟨#[112, 117, 116, 108, 101, 102, 116]⟩ : ByteArray), (⟨#[112, 117, 116, 114, 105, 103, 104, 116]⟩ : ByteArray), (⟨#[99, 108, 101, 97, 114]⟩ : ByteArray)] : List ByteArray)) (by decide) rfl c3 un70 sz9 rfl rfl rfl) rfl rfl ?_
      refine r_q (q_ldS (Rd.row 0 rfl) c3 ag9 rfl rfl) rfl rfl ?_
      refine r_q (q_assign rfl rfl) rfl rfl ?_
      refine r_nil ?_
      refine j_then ?_
      refine j_ret ?_
      cases h
      exact j_return rfl (ResOf.tmp rfl ResOf.nil) rfl (fun w h => ⟨(), rfl, h.tail⟩)

theorem spec_OpValid.calls (K : Nat) (a0_0 : Int) (a0_1 : Int) (a0_2 : Int) (a1 : Int) {w0 w : World} {F : List Res} {r1 : Bool} (hm : Mem w0 (F) w)  (h : spec_OpValid.f K a0_0 a0_1 a0_2 a1 = some r1) :
    Calls Try.prog 19 (List.toArray [.agg (List.toArray [i6 a0_0, i6 a0_1, i6 a0_2]), i6 a1]) w fun e w' => ∃ x : Unit, e = .returned (.bool r1) ∧ Mem w0 (F) w' := by
  unfold spec_OpValid.f at h
  refine calls_of_J (n := 45) Try.func19 rfl rfl rfl hm ?_
  refine j_seq ?_
  refine j_region ?_
  refine r_do (a_box rfl rfl) rfl rfl (fun x1 => ?_)
  refine r_q (q_assign rfl rfl) rfl rfl ?_
  refine r_nil ?_
  refine j_then ?_
  refine j_seq ?_
  refine j_seq ?_
  refine j_region ?_
  refine r_q (q_fieldAddr fi29_0 sz3 rfl rfl rfl) rfl rfl ?_
  refine r_q (q_loadb 0 rfl ag3 rfl rfl rfl) rfl rfl ?_
  obtain ⟨v1, hb1, h⟩ := of_b1 h
  refine r_do (a_call ok38 rfl rfl rfl rfl (fun w hm => spec_l5Word.calls K a0_0 hm hb1)) rfl rfl (fun x2 => ?_)
  refine r_q (q_seql rfl rfl rfl) rfl rfl ?_
  refine r_q (q_move rfl rfl) rfl rfl ?_
  rcases of_if h with ⟨c1, h⟩ | ⟨c1, h⟩
  · refine r_off rfl rfl rfl rfl (beq_t c1) rfl ?_
    refine r_off rfl rfl rfl rfl (beq_t c1) rfl ?_
    refine r_off rfl rfl rfl rfl (beq_t c1) rfl ?_
    refine r_q (q_pick_t rfl rfl (beq_t c1) rfl) rfl rfl ?_
    refine r_q (q_move rfl rfl) rfl rfl ?_
    refine r_off rfl rfl rfl rfl rfl rfl ?_
    refine r_off rfl rfl rfl rfl rfl rfl ?_
    refine r_off rfl rfl rfl rfl rfl rfl ?_
    refine r_off rfl rfl rfl rfl rfl rfl ?_
    refine r_q (q_pick_t rfl rfl rfl rfl) rfl rfl ?_
    refine r_q (q_move rfl rfl) rfl rfl ?_
    refine r_off rfl rfl rfl rfl rfl rfl ?_
    refine r_off rfl rfl rfl rfl rfl rfl ?_
    refine r_off rfl rfl rfl rfl rfl rfl ?_
    refine r_q (q_pick_t rfl rfl rfl rfl) rfl rfl ?_
    refine r_q (q_move rfl rfl) rfl rfl ?_
    refine r_off rfl rfl rfl rfl rfl rfl ?_
    refine r_off rfl rfl rfl rfl rfl rfl ?_
    refine r_off rfl rfl rfl rfl rfl rfl ?_
    refine r_q (q_pick_t rfl rfl rfl rfl) rfl rfl ?_
    refine r_q (q_move rfl rfl) rfl rfl ?_
    refine r_off rfl rfl rfl rfl rfl rfl ?_
    refine r_off rfl rfl rfl rfl rfl rfl ?_
    refine r_off rfl rfl rfl rfl rfl rfl ?_
    refine r_q (q_pick_t rfl rfl rfl rfl) rfl rfl ?_
    refine r_nil ?_
    refine j_then ?_
    refine j_true rfl rfl ?_
    refine j_seq ?_
    refine j_region ?_
    refine r_q (q_assign rfl rfl) rfl rfl ?_
    refine r_nil ?_
    refine j_then ?_
    refine j_ret ?_
    refine j_then_ret ?_
    cases h
    exact j_return rfl (ResOf.tmp rfl ResOf.nil) rfl (fun w h => ⟨(), rfl, h.tail⟩)
  · refine r_qon (q_fieldAddr fi29_1 sz3 rfl rfl rfl) rfl rfl rfl rfl (beq_f c1) rfl ?_
    refine r_qon (q_loadb 0 rfl ag3 rfl rfl rfl) rfl rfl rfl rfl (beq_f c1) rfl ?_
    refine r_qon (q_lss rfl rfl rfl) rfl rfl rfl rfl (beq_f c1) rfl ?_
    refine r_q (q_pick_f rfl rfl (beq_f c1) rfl) rfl rfl ?_
    refine r_q (q_move rfl rfl) rfl rfl ?_
    rcases of_if h with ⟨c2, h⟩ | ⟨c2, h⟩
    · refine r_off rfl rfl rfl rfl (decide_eq_true c2) rfl ?_
      refine r_off rfl rfl rfl rfl (decide_eq_true c2) rfl ?_
      refine r_off rfl rfl rfl rfl (decide_eq_true c2) rfl ?_
      refine r_off rfl rfl rfl rfl (decide_eq_true c2) rfl ?_
      refine r_q (q_pick_t rfl rfl (decide_eq_true c2) rfl) rfl rfl ?_
      refine r_q (q_move rfl rfl) rfl rfl ?_
      refine r_off rfl rfl rfl rfl rfl rfl ?_
      refine r_off rfl rfl rfl rfl rfl rfl ?_
      refine r_off rfl rfl rfl rfl rfl rfl ?_
      refine r_q (q_pick_t rfl rfl rfl rfl) rfl rfl ?_
      refine r_q (q_move rfl rfl) rfl rfl ?_
      refine r_off rfl rfl rfl rfl rfl rfl ?_
      refine r_off rfl rfl rfl rfl rfl rfl ?_
      refine r_off rfl rfl rfl rfl rfl rfl ?_
      refine r_q (q_pick_t rfl rfl rfl rfl) rfl rfl ?_
      refine r_q (q_move rfl rfl) rfl rfl ?_
      refine r_off rfl rfl rfl rfl rfl rfl ?_
      refine r_off rfl rfl rfl rfl rfl rfl ?_
      refine r_off rfl rfl rfl rfl rfl rfl ?_
      refine r_q (q_pick_t rfl rfl rfl rfl) rfl rfl ?_
      refine r_nil ?_
      refine j_then ?_
      refine j_true rfl rfl ?_
      refine j_seq ?_
      refine j_region ?_
      refine r_q (q_assign rfl rfl) rfl rfl ?_
      refine r_nil ?_
      refine j_then ?_
      refine j_ret ?_
      refine j_then_ret ?_
      cases h
      exact j_return rfl (ResOf.tmp rfl ResOf.nil) rfl (fun w h => ⟨(), rfl, h.tail⟩)
    · refine r_qon (q_fieldAddr fi29_1 sz3 rfl rfl rfl) rfl rfl rfl rfl (decide_eq_false c2) rfl ?_
      refine r_qon (q_loadb 0 rfl ag3 rfl rfl rfl) rfl rfl rfl rfl (decide_eq_false c2) rfl ?_
      refine r_qon (q_move rfl rfl) rfl rfl rfl rfl (decide_eq_false c2) rfl ?_
      refine r_qon (q_geq rfl rfl rfl) rfl rfl rfl rfl (decide_eq_false c2) rfl ?_
      refine r_q (q_pick_f rfl rfl (decide_eq_false c2) rfl) rfl rfl ?_
      refine r_q (q_move rfl rfl) rfl rfl ?_
      rcases of_if h with ⟨c3, h⟩ | ⟨c3, h⟩
      · refine r_off rfl rfl rfl rfl (decide_eq_true c3) rfl ?_
        refine r_off rfl rfl rfl rfl (decide_eq_true c3) rfl ?_
        refine r_off rfl rfl rfl rfl (decide_eq_true c3) rfl ?_
        refine r_q (q_pick_t rfl rfl (decide_eq_true c3) rfl) rfl rfl ?_
        refine r_q (q_move rfl rfl) rfl rfl ?_
        refine r_off rfl rfl rfl rfl rfl rfl ?_
        refine r_off rfl rfl rfl rfl rfl rfl ?_
        refine r_off rfl rfl rfl rfl rfl rfl ?_
        refine r_q (q_pick_t rfl rfl rfl rfl) rfl rfl ?_
        refine r_q (q_move rfl rfl) rfl rfl ?_
        refine r_off rfl rfl rfl rfl rfl rfl ?_
        refine r_off rfl rfl rfl rfl rfl rfl ?_
        refine r_off rfl rfl rfl rfl rfl rfl ?_
        refine r_q (q_pick_t rfl rfl rfl rfl) rfl rfl ?_
        refine r_nil ?_
        refine j_then ?_
        refine j_true rfl rfl ?_
        refine j_seq ?_
        refine j_region ?_
        refine r_q (q_assign rfl rfl) rfl rfl ?_
        refine r_nil ?_
        refine j_then ?_
        refine j_ret ?_
        refine j_then_ret ?_
        cases h
        exact j_return rfl (ResOf.tmp rfl ResOf.nil) rfl (fun w h => ⟨(), rfl, h.tail⟩)
      · refine r_qon (q_fieldAddr fi29_1 sz3 rfl rfl rfl) rfl rfl rfl rfl (decide_eq_false c3) rfl ?_
        refine r_qon (q_loadb 0 rfl ag3 rfl rfl rfl) rfl rfl rfl rfl (decide_eq_false c3) rfl ?_
        refine r_qon (q_geq rfl rfl rfl) rfl rfl rfl rfl (decide_eq_false c3) rfl ?_
        refine r_q (q_pick_f rfl rfl (decide_eq_false c3) rfl) rfl rfl ?_
        refine r_q (q_move rfl rfl) rfl rfl ?_
        rcases of_if h with ⟨c4, h⟩ | ⟨c4, h⟩
        · refine r_off rfl rfl rfl rfl (decide_eq_true c4) rfl ?_
          refine r_off rfl rfl rfl rfl (decide_eq_true c4) rfl ?_
          refine r_off rfl rfl rfl rfl (decide_eq_true c4) rfl ?_
          refine r_q (q_pick_t rfl rfl (decide_eq_true c4) rfl) rfl rfl ?_
          refine r_q (q_move rfl rfl) rfl rfl ?_
          refine r_off rfl rfl rfl rfl rfl rfl ?_
          refine r_off rfl rfl rfl rfl rfl rfl ?_
          refine r_off rfl rfl rfl rfl rfl rfl ?_
          refine r_q (q_pick_t rfl rfl rfl rfl) rfl rfl ?_
          refine r_nil ?_
          refine j_then ?_
          refine j_true rfl rfl ?_
          refine j_seq ?_
          refine j_region ?_
          refine r_q (q_assign rfl rfl) rfl rfl ?_
          refine r_nil ?_
          refine j_then ?_
          refine j_ret ?_
          refine j_then_ret ?_
          cases h
          exact j_return rfl (ResOf.tmp rfl ResOf.nil) rfl (fun w h => ⟨(), rfl, h.tail⟩)
        · refine r_qon (q_fieldAddr fi29_2 sz3 rfl rfl rfl) rfl rfl rfl rfl (decide_eq_false c4) rfl ?_
          refine r_qon (q_loadb 0 rfl ag3 rfl rfl rfl) rfl rfl rfl rfl (decide_eq_false c4) rfl ?_
          refine r_qon (q_lss rfl rfl rfl) rfl rfl rfl rfl (decide_eq_false c4) rfl ?_
          refine r_q (q_pick_f rfl rfl (decide_eq_false c4) rfl) rfl rfl ?_
          refine r_q (q_move rfl rfl) rfl rfl ?_
          rcases of_if h with ⟨c5, h⟩ | ⟨c5, h⟩
          · refine r_off rfl rfl rfl rfl (decide_eq_true c5) rfl ?_
            refine r_off rfl rfl rfl rfl (decide_eq_true c5) rfl ?_
            refine r_off rfl rfl rfl rfl (decide_eq_true c5) rfl ?_
            refine r_q (q_pick_t rfl rfl (decide_eq_true c5) rfl) rfl rfl ?_
            refine r_nil ?_
            refine j_then ?_
            refine j_true rfl rfl ?_
            refine j_seq ?_
            refine j_region ?_
            refine r_q (q_assign rfl rfl) rfl rfl ?_
            refine r_nil ?_
            refine j_then ?_
            refine j_ret ?_
            refine j_then_ret ?_
            cases h
            exact j_return rfl (ResOf.tmp rfl ResOf.nil) rfl (fun w h => ⟨(), rfl, h.tail⟩)
          · refine r_qon (q_fieldAddr fi29_2 sz3 rfl rfl rfl) rfl rfl rfl rfl (decide_eq_false c5) rfl ?_
            refine r_qon (q_loadb 0 rfl ag3 rfl rfl rfl) rfl rfl rfl rfl (decide_eq_false c5) rfl ?_
            refine r_qon (q_geq rfl rfl rfl) rfl rfl rfl rfl (decide_eq_false c5) rfl ?_
            refine r_q (q_pick_f rfl rfl (decide_eq_false c5) rfl) rfl rfl ?_
            refine r_nil ?_
            refine j_then ?_
            rcases of_if h with ⟨c6, h⟩ | ⟨c6, h⟩
            · refine j_true rfl (decide_eq_true c6) ?_
              refine j_seq ?_
              refine j_region ?_
              refine r_q (q_assign rfl rfl) rfl rfl ?_
              refine r_nil ?_
              refine j_then ?_
              refine j_ret ?_
              refine j_then_ret ?_
              cases h
              exact j_return rfl (ResOf.tmp rfl ResOf.nil) rfl (fun w h => ⟨(), rfl, h.tail⟩)
            · refine j_false rfl (decide_eq_false c6) ?_
              refine j_skip ?_
              refine j_then ?_
              refine j_seq ?_
              refine j_seq ?_
              refine j_region ?_
              refine r_q (q_fieldAddr fi29_0 sz3 rfl rfl rfl) rfl rfl ?_
              refine r_q (q_loadb 0 rfl ag3 rfl rfl rfl) rfl rfl ?_
              obtain ⟨v2, hb2, h⟩ := of_b1 h
              refine r_do (a_call ok29 rfl rfl rfl rfl (fun w hm => spec_l5One.calls K a0_0 hm hb2)) rfl rfl (fun x3 => ?_)
              refine r_nil ?_
              refine j_then ?_
              rcases of_if h with ⟨c7, h⟩ | ⟨c7, h⟩
              · refine j_true rfl c7 ?_
                refine j_seq ?_
                refine j_region ?_
                refine r_q (q_fieldAddr fi29_2 sz3 rfl rfl rfl) rfl rfl ?_
                refine r_q (q_loadb 0 rfl ag3 rfl rfl rfl) rfl rfl ?_
                refine r_q (q_eql rfl rfl rfl) rfl rfl ?_
                refine r_q (q_assign rfl rfl) rfl rfl ?_
                refine r_nil ?_
                refine j_then ?_
                refine j_ret ?_
                refine j_then_ret ?_
                cases h
                exact j_return rfl (ResOf.tmp rfl ResOf.nil) rfl (fun w h => ⟨(), rfl, h.tail⟩)
              · refine j_false rfl (var_f c7) ?_
                refine j_skip ?_
                refine j_then ?_
                refine j_seq ?_
                refine j_region ?_
                refine r_q (q_fieldAddr fi29_2 sz3 rfl rfl rfl) rfl rfl ?_
                refine r_q (q_loadb 0 rfl ag3 rfl rfl rfl) rfl rfl ?_
                refine r_q (q_move rfl rfl) rfl rfl ?_
                refine r_q (q_lss rfl rfl rfl) rfl rfl ?_
                refine r_q (q_assign rfl rfl) rfl rfl ?_
                refine r_nil ?_
                refine j_then ?_
                refine j_ret ?_
                cases h
                exact j_return rfl (ResOf.tmp rfl ResOf.nil) rfl (fun w h => ⟨(), rfl, h.tail⟩)

theorem spec_l5Do.calls (K : Nat) (a0_0 : List Int) (a0_0_A : Option Addr) (a0_0_n a0_0_c : Nat) (a0_1 : List Int) (a0_1_A : Option Addr) (a0_1_n a0_1_c : Nat) (a0_2 : List Int) (a0_2_A : Option Addr) (a0_2_n a0_2_c : Nat) (a0_3_A : Option Addr) (a0_3_n a0_3_c : Nat) (a1_0 : Int) (a1_1 : Int) (a1_2 : Int) {w0 w : World} {F : List Res} {r1 : Int} {r2 : List Int} {r3 : List Int} {r4 : List Int} (hm : Mem w0 (.row a0_0_A a0_0_c 3 1 (ii a0_0) :: .row a0_1_A a0_1_c 3 1 (ii a0_1) :: .row a0_2_A a0_2_c 3 1 (ii a0_2) :: F) w) (a0_0_h : a0_0.length = a0_0_n) (a0_1_h : a0_1.length = a0_1_n) (a0_2_h : a0_2.length = a0_2_n) (h : spec_l5Do.f K a0_0 a0_1 a0_2 a1_0 a1_1 a1_2 = some (r1, r2, r3, r4)) :
    Calls Try.prog 20 (List.toArray [.agg (List.toArray [.slice a0_0_A a0_0_n a0_0_c, .slice a0_1_A a0_1_n a0_1_c, .slice a0_2_A a0_2_n a0_2_c, .slice a0_3_A a0_3_n a0_3_c]), .agg (List.toArray [i6 a1_0, i6 a1_1, i6 a1_2])]) w fun e w' => ∃ x : (Ln r2.length a0_0.length) × (Ln r3.length a0_1.length) × (Ln r4.length a0_2.length), e = .returned (.tuple (List.toArray [.agg (List.toArray [.slice a0_0_A a0_0_n a0_0_c, .slice a0_1_A a0_1_n a0_1_c, .slice a0_2_A a0_2_n a0_2_c, .slice a0_3_A a0_3_n a0_3_c]), i6 r1])) ∧ Mem w0 (.row a0_0_A a0_0_c 3 1 (ii r2) :: .row a0_1_A a0_1_c 3 1 (ii r3) :: .row a0_2_A a0_2_c 3 1 (ii r4) :: F) w' := by
  unfold spec_l5Do.f at h
  refine calls_of_J (n := 89) Try.func20 rfl rfl rfl hm ?_
  refine j_seq ?_
  refine j_region ?_
  refine r_do (a_box rfl rfl) rfl rfl (fun x1 => ?_)
  refine r_do (a_box rfl rfl) rfl rfl (fun x2 => ?_)
  refine r_do (a_alloc zr27 rfl) rfl rfl (fun x3 => ?_)
  refine r_q (q_assign rfl rfl) rfl rfl ?_
  refine r_nil ?_
  refine j_then ?_
  refine j_seq ?_
  refine j_region ?_
  refine r_q (q_fieldAddr fi27_0 sz25 rfl rfl rfl) rfl rfl ?_
  refine r_q (q_fieldAddr fi25_2 sz23 rfl rfl rfl) rfl rfl ?_
  refine r_q (q_loadb 2 rfl ag23 rfl rfl rfl) rfl rfl ?_
  refine r_q (q_fieldAddr fi29_1 sz3 rfl rfl rfl) rfl rfl ?_
  refine r_q (q_loadb 1 rfl ag3 rfl rfl rfl) rfl rfl ?_
  obtain ⟨c1, h⟩ := of_guard h
  refine r_q (q_ix (Rd.row 5 rfl) (ints_len1 _ a0_2) (by decide) a0_2_h c1 un23 sz3 rfl rfl rfl) rfl rfl ?_
  refine r_q (q_ldI (Rd.row 5 rfl) c1 ag3 rfl rfl) rfl rfl ?_
  refine r_q (q_assign rfl rfl) rfl rfl ?_
  refine r_nil ?_
  refine j_then ?_
  refine j_seq ?_
  refine j_region ?_
  refine r_q (q_fieldAddr fi27_0 sz25 rfl rfl rfl) rfl rfl ?_
  refine r_q (q_fieldAddr fi25_2 sz23 rfl rfl rfl) rfl rfl ?_
  refine r_q (q_loadb 2 rfl ag23 rfl rfl rfl) rfl rfl ?_
  refine r_q (q_fieldAddr fi29_2 sz3 rfl rfl rfl) rfl rfl ?_
  refine r_q (q_loadb 1 rfl ag3 rfl rfl rfl) rfl rfl ?_
  obtain ⟨c2, h⟩ := of_guard h
  refine r_q (q_ix (Rd.row 5 rfl) (ints_len1 _ a0_2) (by decide) a0_2_h c2 un23 sz3 rfl rfl rfl) rfl rfl ?_
  refine r_q (q_ldI (Rd.row 5 rfl) c2 ag3 rfl rfl) rfl rfl ?_
  refine r_q (q_assign rfl rfl) rfl rfl ?_
  refine r_nil ?_
  refine j_then ?_
  refine j_seq ?_
  refine j_seq ?_
  refine j_region ?_
  refine r_q (q_fieldAddr fi29_0 sz3 rfl rfl rfl) rfl rfl ?_
  refine r_q (q_loadb 1 rfl ag3 rfl rfl rfl) rfl rfl ?_
  refine r_nil ?_
  refine j_then ?_
  refine j_block ?_
  refine j_seq ?_
  refine j_region ?_
  refine r_q (q_eql rfl rfl rfl) rfl rfl ?_
  refine r_q (q_assign rfl rfl) rfl rfl ?_
  refine r_nil ?_
  refine j_then ?_
  rcases of_if h with ⟨c3, h⟩ | ⟨c3, h⟩
  · refine j_true rfl (beq_t c3) ?_
    refine j_region ?_
    refine r_q (q_fieldAddr fi27_0 sz25 rfl rfl rfl) rfl rfl ?_
    refine r_q (q_fieldAddr fi25_2 sz23 rfl rfl rfl) rfl rfl ?_
    refine r_q (q_loadb 2 rfl ag23 rfl rfl rfl) rfl rfl ?_
    refine r_q (q_fieldAddr fi29_1 sz3 rfl rfl rfl) rfl rfl ?_
    refine r_q (q_loadb 1 rfl ag3 rfl rfl rfl) rfl rfl ?_
    refine r_q (q_move rfl rfl) rfl rfl ?_
    refine r_q (q_ix (Rd.row 5 rfl) (ints_len1 _ a0_2) (by decide) a0_2_h c1 un23 sz3 rfl rfl rfl) rfl rfl ?_
    refine r_do (a_stI 5 rfl c1 sz3 rfl rfl rfl) rfl rfl (fun _ => ?_)
    refine j_s5 ?_
    refine r_nil ?_
    refine j_in ?_
    refine j_then ?_
    refine j_seq ?_
    refine j_region ?_
    refine r_q (q_loadb_agg 2 rfl ag27 sz27 rfl rfl rfl rfl) rfl rfl ?_
    refine r_do (a_storeb 0 rfl sz27 rfl rfl rfl rfl (Nat.le_of_ble_eq_true rfl) rfl) rfl rfl (fun _ => ?_)
    refine j_b0 [(.slice a0_0_A a0_0_n a0_0_c), (.slice a0_1_A a0_1_n a0_1_c), (.slice a0_2_A a0_2_n a0_2_c), (.slice a0_3_A a0_3_n a0_3_c)] rfl ?_
    refine r_q (q_assign rfl rfl) rfl rfl ?_
    refine r_nil ?_
    refine j_then ?_
    refine j_ret ?_
    cases h
    exact j_return rfl (ResOf.cell 0 rfl rfl ag27 sz27 (ResOf.tmp rfl ResOf.nil)) rfl (fun w h => ⟨(⟨Eq.trans a0_0_h a0_0_h.symm⟩, ⟨Eq.trans a0_1_h a0_1_h.symm⟩, ⟨Eq.trans (set_len a0_2_h _ _) a0_2_h.symm⟩), rfl, (h.drop 3)⟩)
  · refine j_false rfl (beq_f c3) ?_
    refine j_seq ?_
    refine j_region ?_
    refine r_q (q_eql rfl rfl rfl) rfl rfl ?_
    refine r_q (q_assign rfl rfl) rfl rfl ?_
    refine r_nil ?_
    refine j_then ?_
    rcases of_if h with ⟨c4, h⟩ | ⟨c4, h⟩
    · refine j_true rfl (beq_t c4) ?_
      refine j_region ?_
      refine r_q (q_fieldAddr fi27_0 sz25 rfl rfl rfl) rfl rfl ?_
      refine r_q (q_fieldAddr fi25_2 sz23 rfl rfl rfl) rfl rfl ?_
      refine r_q (q_loadb 2 rfl ag23 rfl rfl rfl) rfl rfl ?_
      refine r_q (q_fieldAddr fi29_1 sz3 rfl rfl rfl) rfl rfl ?_
      refine r_q (q_loadb 1 rfl ag3 rfl rfl rfl) rfl rfl ?_
      refine r_q (q_ix (Rd.row 5 rfl) (ints_len1 _ a0_2) (by decide) a0_2_h c1 un23 sz3 rfl rfl rfl) rfl rfl ?_
      refine r_do (a_stI 5 rfl c1 sz3 rfl rfl rfl) rfl rfl (fun _ => ?_)
      refine j_s5 ?_
      refine r_nil ?_
      refine j_in ?_
      refine j_then ?_
      refine j_seq ?_
      refine j_region ?_
      refine r_q (q_loadb_agg 2 rfl ag27 sz27 rfl rfl rfl rfl) rfl rfl ?_
      refine r_do (a_storeb 0 rfl sz27 rfl rfl rfl rfl (Nat.le_of_ble_eq_true rfl) rfl) rfl rfl (fun _ => ?_)
      refine j_b0 [(.slice a0_0_A a0_0_n a0_0_c), (.slice a0_1_A a0_1_n a0_1_c), (.slice a0_2_A a0_2_n a0_2_c), (.slice a0_3_A a0_3_n a0_3_c)] rfl ?_
      refine r_q (q_assign rfl rfl) rfl rfl ?_
      refine r_nil ?_
      refine j_then ?_
      refine j_ret ?_
      cases h
      exact j_return rfl (ResOf.cell 0 rfl rfl ag27 sz27 (ResOf.tmp rfl ResOf.nil)) rfl (fun w h => ⟨(⟨Eq.trans a0_0_h a0_0_h.symm⟩, ⟨Eq.trans a0_1_h a0_1_h.symm⟩, ⟨Eq.trans (set_len a0_2_h _ _) a0_2_h.symm⟩), rfl, (h.drop 3)⟩)
    · refine j_false rfl (beq_f c4) ?_
      refine j_seq ?_
      refine j_seq ?_
      refine j_region ?_
      refine r_q (q_eql rfl rfl rfl) rfl rfl ?_
      refine r_q (q_assign rfl rfl) rfl rfl ?_
      refine r_nil ?_
      refine j_then ?_
      rcases of_if h with ⟨c5, h⟩ | ⟨c5, h⟩
      · refine j_true rfl (beq_t c5) ?_
        refine j_skip ?_
        refine j_then ?_
        refine j_true rfl (beq_t c5) ?_
        refine j_seq ?_
        refine j_seq ?_
        refine j_region ?_
        refine r_q (q_move rfl rfl) rfl rfl ?_
        refine r_q (q_eql rfl rfl rfl) rfl rfl ?_
        refine r_nil ?_
        refine j_then ?_
        rcases of_if h with ⟨c6, h⟩ | ⟨c6, h⟩
        · refine j_true rfl (beq_t c6) ?_
          refine j_seq ?_
          refine j_region ?_
          refine r_q (q_loadb_agg 2 rfl ag27 sz27 rfl rfl rfl rfl) rfl rfl ?_
          refine r_do (a_storeb 0 rfl sz27 rfl rfl rfl rfl (Nat.le_of_ble_eq_true rfl) rfl) rfl rfl (fun _ => ?_)
          refine j_b0 [(.slice a0_0_A a0_0_n a0_0_c), (.slice a0_1_A a0_1_n a0_1_c), (.slice a0_2_A a0_2_n a0_2_c), (.slice a0_3_A a0_3_n a0_3_c)] rfl ?_
          refine r_q (q_assign rfl rfl) rfl rfl ?_
          refine r_nil ?_
          refine j_then ?_
          refine j_ret ?_
          refine j_then_ret ?_
          refine j_in_ret ?_
          refine j_then_ret ?_
          cases h
          exact j_return rfl (ResOf.cell 0 rfl rfl ag27 sz27 (ResOf.tmp rfl ResOf.nil)) rfl (fun w h => ⟨(⟨Eq.trans a0_0_h a0_0_h.symm⟩, ⟨Eq.trans a0_1_h a0_1_h.symm⟩, ⟨Eq.trans a0_2_h a0_2_h.symm⟩), rfl, (h.drop 3)⟩)
        · refine j_false rfl (beq_f c6) ?_
          refine j_skip ?_
          refine j_then ?_
          refine j_seq ?_
          refine j_region ?_
          refine r_q (q_fieldAddr fi27_0 sz25 rfl rfl rfl) rfl rfl ?_
          refine r_q (q_fieldAddr fi25_0 sz23 rfl rfl rfl) rfl rfl ?_
          refine r_q (q_loadb 2 rfl ag23 rfl rfl rfl) rfl rfl ?_
          refine r_q (q_move rfl rfl) rfl rfl ?_
          obtain ⟨c7, h⟩ := of_guard h
          refine r_q (q_ix (Rd.row 3 rfl) (ints_len1 _ a0_0) (by decide) a0_0_h c7 un23 sz3 rfl rfl rfl) rfl rfl ?_
          refine r_q (q_ldI (Rd.row 3 rfl) c7 ag3 rfl rfl) rfl rfl ?_
          refine r_q (q_assign rfl rfl) rfl rfl ?_
          refine r_nil ?_
          refine j_then ?_
          refine j_seq ?_
          refine j_seq ?_
          refine j_region ?_
          refine r_q (q_fieldAddr fi29_0 sz3 rfl rfl rfl) rfl rfl ?_
          refine r_q (q_loadb 1 rfl ag3 rfl rfl rfl) rfl rfl ?_
          refine r_q (q_eql rfl rfl rfl) rfl rfl ?_
          refine r_nil ?_
          refine j_then ?_
          rcases of_if h with ⟨c8, h⟩ | ⟨c8, h⟩
          · refine j_true rfl (beq_t c8) ?_
            refine j_region ?_
            refine r_q (q_fieldAddr fi27_0 sz25 rfl rfl rfl) rfl rfl ?_
            refine r_q (q_fieldAddr fi25_1 sz23 rfl rfl rfl) rfl rfl ?_
            refine r_q (q_loadb 2 rfl ag23 rfl rfl rfl) rfl rfl ?_
            refine r_q (q_move rfl rfl) rfl rfl ?_
            obtain ⟨c9, h⟩ := of_guard h
            refine r_q (q_ix (Rd.row 4 rfl) (ints_len1 _ a0_1) (by decide) a0_1_h c9 un23 sz3 rfl rfl rfl) rfl rfl ?_
            refine r_q (q_ldI (Rd.row 4 rfl) c9 ag3 rfl rfl) rfl rfl ?_
            refine r_q (q_assign rfl rfl) rfl rfl ?_
            refine r_nil ?_
            refine j_then ?_
            refine j_region ?_
            refine r_q (q_fieldAddr fi27_0 sz25 rfl rfl rfl) rfl rfl ?_
            refine r_q (q_fieldAddr fi25_2 sz23 rfl rfl rfl) rfl rfl ?_
            refine r_q (q_loadb 2 rfl ag23 rfl rfl rfl) rfl rfl ?_
            refine r_q (q_fieldAddr fi29_1 sz3 rfl rfl rfl) rfl rfl ?_
            refine r_q (q_loadb 1 rfl ag3 rfl rfl rfl) rfl rfl ?_
            refine r_q (q_move rfl rfl) rfl rfl ?_
            refine r_q (q_ix (Rd.row 5 rfl) (ints_len1 _ a0_2) (by decide) a0_2_h c1 un23 sz3 rfl rfl rfl) rfl rfl ?_
            refine r_do (a_stI 5 rfl c1 sz3 rfl rfl rfl) rfl rfl (fun _ => ?_)
            refine j_s5 ?_
            refine r_nil ?_
            refine j_in ?_
            refine j_then ?_
            refine j_seq ?_
            refine j_region ?_
            refine r_q (q_loadb_agg 2 rfl ag27 sz27 rfl rfl rfl rfl) rfl rfl ?_
            refine r_do (a_storeb 0 rfl sz27 rfl rfl rfl rfl (Nat.le_of_ble_eq_true rfl) rfl) rfl rfl (fun _ => ?_)
            refine j_b0 [(.slice a0_0_A a0_0_n a0_0_c), (.slice a0_1_A a0_1_n a0_1_c), (.slice a0_2_A a0_2_n a0_2_c), (.slice a0_3_A a0_3_n a0_3_c)] rfl ?_
            refine r_q (q_assign rfl rfl) rfl rfl ?_
            refine r_nil ?_
            refine j_then ?_
            refine j_ret ?_
            cases h
            exact j_return rfl (ResOf.cell 0 rfl rfl ag27 sz27 (ResOf.tmp rfl ResOf.nil)) rfl (fun w h => ⟨(⟨Eq.trans a0_0_h a0_0_h.symm⟩, ⟨Eq.trans a0_1_h a0_1_h.symm⟩, ⟨Eq.trans (set_len a0_2_h _ _) a0_2_h.symm⟩), rfl, (h.drop 3)⟩)
          · refine j_false rfl (beq_f c8) ?_
            refine j_skip ?_
            refine j_then ?_
            refine j_region ?_
            refine r_q (q_fieldAddr fi27_0 sz25 rfl rfl rfl) rfl rfl ?_
            refine r_q (q_fieldAddr fi25_2 sz23 rfl rfl rfl) rfl rfl ?_
            refine r_q (q_loadb 2 rfl ag23 rfl rfl rfl) rfl rfl ?_
            refine r_q (q_fieldAddr fi29_1 sz3 rfl rfl rfl) rfl rfl ?_
            refine r_q (q_loadb 1 rfl ag3 rfl rfl rfl) rfl rfl ?_
            refine r_q (q_move rfl rfl) rfl rfl ?_
            refine r_q (q_ix (Rd.row 5 rfl) (ints_len1 _ a0_2) (by decide) a0_2_h c1 un23 sz3 rfl rfl rfl) rfl rfl ?_
            refine r_do (a_stI 5 rfl c1 sz3 rfl rfl rfl) rfl rfl (fun _ => ?_)
            refine j_s5 ?_
            refine r_nil ?_
            refine j_in ?_
            refine j_then ?_
            refine j_seq ?_
            refine j_region ?_
            refine r_q (q_loadb_agg 2 rfl ag27 sz27 rfl rfl rfl rfl) rfl rfl ?_
            refine r_do (a_storeb 0 rfl sz27 rfl rfl rfl rfl (Nat.le_of_ble_eq_true rfl) rfl) rfl rfl (fun _ => ?_)
            refine j_b0 [(.slice a0_0_A a0_0_n a0_0_c), (.slice a0_1_A a0_1_n a0_1_c), (.slice a0_2_A a0_2_n a0_2_c), (.slice a0_3_A a0_3_n a0_3_c)] rfl ?_
            refine r_q (q_assign rfl rfl) rfl rfl ?_
            refine r_nil ?_
            refine j_then ?_
            refine j_ret ?_
            cases h
            exact j_return rfl (ResOf.cell 0 rfl rfl ag27 sz27 (ResOf.tmp rfl ResOf.nil)) rfl (fun w h => ⟨(⟨Eq.trans a0_0_h a0_0_h.symm⟩, ⟨Eq.trans a0_1_h a0_1_h.symm⟩, ⟨Eq.trans (set_len a0_2_h _ _) a0_2_h.symm⟩), rfl, (h.drop 3)⟩)
      · refine j_false rfl (beq_f c5) ?_
        refine j_region ?_
        refine r_q (q_eql rfl rfl rfl) rfl rfl ?_
        refine r_q (q_assign rfl rfl) rfl rfl ?_
        refine r_nil ?_
        refine j_then ?_
        rcases of_if h with ⟨c10, h⟩ | ⟨c10, h⟩
        · refine j_true rfl (beq_t c10) ?_
          refine j_seq ?_
          refine j_seq ?_
          refine j_region ?_
          refine r_q (q_move rfl rfl) rfl rfl ?_
          refine r_q (q_eql rfl rfl rfl) rfl rfl ?_
          refine r_nil ?_
          refine j_then ?_
          rcases of_if h with ⟨c11, h⟩ | ⟨c11, h⟩
          · refine j_true rfl (beq_t c11) ?_
            refine j_seq ?_
            refine j_region ?_
            refine r_q (q_loadb_agg 2 rfl ag27 sz27 rfl rfl rfl rfl) rfl rfl ?_
            refine r_do (a_storeb 0 rfl sz27 rfl rfl rfl rfl (Nat.le_of_ble_eq_true rfl) rfl) rfl rfl (fun _ => ?_)
            refine j_b0 [(.slice a0_0_A a0_0_n a0_0_c), (.slice a0_1_A a0_1_n a0_1_c), (.slice a0_2_A a0_2_n a0_2_c), (.slice a0_3_A a0_3_n a0_3_c)] rfl ?_
            refine r_q (q_assign rfl rfl) rfl rfl ?_
            refine r_nil ?_
            refine j_then ?_
            refine j_ret ?_
            refine j_then_ret ?_
            refine j_in_ret ?_
            refine j_then_ret ?_
            cases h
            exact j_return rfl (ResOf.cell 0 rfl rfl ag27 sz27 (ResOf.tmp rfl ResOf.nil)) rfl (fun w h => ⟨(⟨Eq.trans a0_0_h a0_0_h.symm⟩, ⟨Eq.trans a0_1_h a0_1_h.symm⟩, ⟨Eq.trans a0_2_h a0_2_h.symm⟩), rfl, (h.drop 3)⟩)
          · refine j_false rfl (beq_f c11) ?_
            refine j_skip ?_
            refine j_then ?_
            refine j_seq ?_
            refine j_region ?_
            refine r_q (q_fieldAddr fi27_0 sz25 rfl rfl rfl) rfl rfl ?_
            refine r_q (q_fieldAddr fi25_0 sz23 rfl rfl rfl) rfl rfl ?_
            refine r_q (q_loadb 2 rfl ag23 rfl rfl rfl) rfl rfl ?_
            refine r_q (q_move rfl rfl) rfl rfl ?_
            obtain ⟨c12, h⟩ := of_guard h
            refine r_q (q_ix (Rd.row 3 rfl) (ints_len1 _ a0_0) (by decide) a0_0_h c12 un23 sz3 rfl rfl rfl) rfl rfl ?_
            refine r_q (q_ldI (Rd.row 3 rfl) c12 ag3 rfl rfl) rfl rfl ?_
            refine r_q (q_assign rfl rfl) rfl rfl ?_
            refine r_nil ?_
            refine j_then ?_
            refine j_seq ?_
            refine j_seq ?_
            refine j_region ?_
            refine r_q (q_fieldAddr fi29_0 sz3 rfl rfl rfl) rfl rfl ?_
            refine r_q (q_loadb 1 rfl ag3 rfl rfl rfl) rfl rfl ?_
            refine r_q (q_eql rfl rfl rfl) rfl rfl ?_
            refine r_nil ?_
            refine j_then ?_
            refine j_true rfl (beq_t c10) ?_
            refine j_region ?_
            refine r_q (q_fieldAddr fi27_0 sz25 rfl rfl rfl) rfl rfl ?_
            refine r_q (q_fieldAddr fi25_1 sz23 rfl rfl rfl) rfl rfl ?_
            refine r_q (q_loadb 2 rfl ag23 rfl rfl rfl) rfl rfl ?_
            refine r_q (q_move rfl rfl) rfl rfl ?_
            obtain ⟨c13, h⟩ := of_guard h
            refine r_q (q_ix (Rd.row 4 rfl) (ints_len1 _ a0_1) (by decide) a0_1_h c13 un23 sz3 rfl rfl rfl) rfl rfl ?_
            refine r_q (q_ldI (Rd.row 4 rfl) c13 ag3 rfl rfl) rfl rfl ?_
            refine r_q (q_assign rfl rfl) rfl rfl ?_
            refine r_nil ?_
            refine j_then ?_
            refine j_region ?_
            refine r_q (q_fieldAddr fi27_0 sz25 rfl rfl rfl) rfl rfl ?_
            refine r_q (q_fieldAddr fi25_2 sz23 rfl rfl rfl) rfl rfl ?_
            refine r_q (q_loadb 2 rfl ag23 rfl rfl rfl) rfl rfl ?_
            refine r_q (q_fieldAddr fi29_1 sz3 rfl rfl rfl) rfl rfl ?_
            refine r_q (q_loadb 1 rfl ag3 rfl rfl rfl) rfl rfl ?_
            refine r_q (q_move rfl rfl) rfl rfl ?_
            refine r_q (q_ix (Rd.row 5 rfl) (ints_len1 _ a0_2) (by decide) a0_2_h c1 un23 sz3 rfl rfl rfl) rfl rfl ?_
            refine r_do (a_stI 5 rfl c1 sz3 rfl rfl rfl) rfl rfl (fun _ => ?_)
            refine j_s5 ?_
            refine r_nil ?_
            refine j_in ?_
            refine j_then ?_
            refine j_seq ?_
            refine j_region ?_
            refine r_q (q_loadb_agg 2 rfl ag27 sz27 rfl rfl rfl rfl) rfl rfl ?_
            refine r_do (a_storeb 0 rfl sz27 rfl rfl rfl rfl (Nat.le_of_ble_eq_true rfl) rfl) rfl rfl (fun _ => ?_)
            refine j_b0 [(.slice a0_0_A a0_0_n a0_0_c), (.slice a0_1_A a0_1_n a0_1_c), (.slice a0_2_A a0_2_n a0_2_c), (.slice a0_3_A a0_3_n a0_3_c)] rfl ?_
            refine r_q (q_assign rfl rfl) rfl rfl ?_
            refine r_nil ?_
            refine j_then ?_
            refine j_ret ?_
            cases h
            exact j_return rfl (ResOf.cell 0 rfl rfl ag27 sz27 (ResOf.tmp rfl ResOf.nil)) rfl (fun w h => ⟨(⟨Eq.trans a0_0_h a0_0_h.symm⟩, ⟨Eq.trans a0_1_h a0_1_h.symm⟩, ⟨Eq.trans (set_len a0_2_h _ _) a0_2_h.symm⟩), rfl, (h.drop 3)⟩)
        · refine j_false rfl (beq_f c10) ?_
          refine j_seq ?_
          refine j_seq ?_
          refine j_region ?_
          refine r_q (q_move rfl rfl) rfl rfl ?_
          refine r_q (q_eql rfl rfl rfl) rfl rfl ?_
          refine r_nil ?_
          refine j_then ?_
          rcases of_if h with ⟨c14, h⟩ | ⟨c14, h⟩
          · refine j_true rfl (beq_t c14) ?_
            refine j_seq ?_
            refine j_region ?_
            refine r_q (q_loadb_agg 2 rfl ag27 sz27 rfl rfl rfl rfl) rfl rfl ?_
            refine r_do (a_storeb 0 rfl sz27 rfl rfl rfl rfl (Nat.le_of_ble_eq_true rfl) rfl) rfl rfl (fun _ => ?_)
            refine j_b0 [(.slice a0_0_A a0_0_n a0_0_c), (.slice a0_1_A a0_1_n a0_1_c), (.slice a0_2_A a0_2_n a0_2_c), (.slice a0_3_A a0_3_n a0_3_c)] rfl ?_
            refine r_q (q_assign rfl rfl) rfl rfl ?_
            refine r_nil ?_
            refine j_then ?_
            refine j_ret ?_
            refine j_then_ret ?_
            refine j_in_ret ?_
            refine j_then_ret ?_
            cases h
            exact j_return rfl (ResOf.cell 0 rfl rfl ag27 sz27 (ResOf.tmp rfl ResOf.nil)) rfl (fun w h => ⟨(⟨Eq.trans a0_0_h a0_0_h.symm⟩, ⟨Eq.trans a0_1_h a0_1_h.symm⟩, ⟨Eq.trans a0_2_h a0_2_h.symm⟩), rfl, (h.drop 3)⟩)
          · refine j_false rfl (beq_f c14) ?_
            refine j_skip ?_
            refine j_then ?_
            refine j_seq ?_
            refine j_region ?_
            refine r_q (q_fieldAddr fi29_0 sz3 rfl rfl rfl) rfl rfl ?_
            refine r_q (q_loadb 1 rfl ag3 rfl rfl rfl) rfl rfl ?_
            refine r_q (q_eql rfl rfl rfl) rfl rfl ?_
            refine r_nil ?_
            refine j_then ?_
            rcases of_if h with ⟨c15, h⟩ | ⟨c15, h⟩
            · refine j_true rfl (beq_t c15) ?_
              refine j_region ?_
              refine r_q (q_fieldAddr fi27_0 sz25 rfl rfl rfl) rfl rfl ?_
              refine r_q (q_fieldAddr fi25_0 sz23 rfl rfl rfl) rfl rfl ?_
              refine r_q (q_loadb 2 rfl ag23 rfl rfl rfl) rfl rfl ?_
              refine r_q (q_move rfl rfl) rfl rfl ?_
              refine r_q (q_move rfl rfl) rfl rfl ?_
              obtain ⟨c16, h⟩ := of_guard h
              refine r_q (q_ix (Rd.row 3 rfl) (ints_len1 _ a0_0) (by decide) a0_0_h c16 un23 sz3 rfl rfl rfl) rfl rfl ?_
              refine r_do (a_stI 3 rfl c16 sz3 rfl rfl rfl) rfl rfl (fun _ => ?_)
              refine j_s3 ?_
              refine r_nil ?_
              refine j_in ?_
              refine j_then ?_
              refine j_seq ?_
              refine j_region ?_
              refine r_q (q_loadb_agg 2 rfl ag27 sz27 rfl rfl rfl rfl) rfl rfl ?_
              refine r_do (a_storeb 0 rfl sz27 rfl rfl rfl rfl (Nat.le_of_ble_eq_true rfl) rfl) rfl rfl (fun _ => ?_)
              refine j_b0 [(.slice a0_0_A a0_0_n a0_0_c), (.slice a0_1_A a0_1_n a0_1_c), (.slice a0_2_A a0_2_n a0_2_c), (.slice a0_3_A a0_3_n a0_3_c)] rfl ?_
              refine r_q (q_assign rfl rfl) rfl rfl ?_
              refine r_nil ?_
              refine j_then ?_
              refine j_ret ?_
              cases h
              exact j_return rfl (ResOf.cell 0 rfl rfl ag27 sz27 (ResOf.tmp rfl ResOf.nil)) rfl (fun w h => ⟨(⟨Eq.trans (set_len a0_0_h _ _) a0_0_h.symm⟩, ⟨Eq.trans a0_1_h a0_1_h.symm⟩, ⟨Eq.trans a0_2_h a0_2_h.symm⟩), rfl, (h.drop 3)⟩)
            · refine j_false rfl (beq_f c15) ?_
              refine j_region ?_
              refine r_q (q_fieldAddr fi27_0 sz25 rfl rfl rfl) rfl rfl ?_
              refine r_q (q_fieldAddr fi25_1 sz23 rfl rfl rfl) rfl rfl ?_
              refine r_q (q_loadb 2 rfl ag23 rfl rfl rfl) rfl rfl ?_
              refine r_q (q_move rfl rfl) rfl rfl ?_
              refine r_q (q_move rfl rfl) rfl rfl ?_
              obtain ⟨c17, h⟩ := of_guard h
              refine r_q (q_ix (Rd.row 4 rfl) (ints_len1 _ a0_1) (by decide) a0_1_h c17 un23 sz3 rfl rfl rfl) rfl rfl ?_
              refine r_do (a_stI 4 rfl c17 sz3 rfl rfl rfl) rfl rfl (fun _ => ?_)
              refine j_s4 ?_
              refine r_nil ?_
              refine j_in ?_
              refine j_then ?_
              refine j_seq ?_
              refine j_region ?_
              refine r_q (q_loadb_agg 2 rfl ag27 sz27 rfl rfl rfl rfl) rfl rfl ?_
              refine r_do (a_storeb 0 rfl sz27 rfl rfl rfl rfl (Nat.le_of_ble_eq_true rfl) rfl) rfl rfl (fun _ => ?_)
              refine j_b0 [(.slice a0_0_A a0_0_n a0_0_c), (.slice a0_1_A a0_1_n a0_1_c), (.slice a0_2_A a0_2_n a0_2_c), (.slice a0_3_A a0_3_n a0_3_c)] rfl ?_
              refine r_q (q_assign rfl rfl) rfl rfl ?_
              refine r_nil ?_
              refine j_then ?_
              refine j_ret ?_
              cases h
              exact j_return rfl (ResOf.cell 0 rfl rfl ag27 sz27 (ResOf.tmp rfl ResOf.nil)) rfl (fun w h => ⟨(⟨Eq.trans a0_0_h a0_0_h.symm⟩, ⟨Eq.trans (set_len a0_1_h _ _) a0_1_h.symm⟩, ⟨Eq.trans a0_2_h a0_2_h.symm⟩), rfl, (h.drop 3)⟩)

theorem spec_RunOp.calls (K : Nat) (a0_0 : List Int) (a0_0_A : Option Addr) (a0_0_n a0_0_c : Nat) (a0_1 : List Int) (a0_1_A : Option Addr) (a0_1_n a0_1_c : Nat) (a0_2 : List Int) (a0_2_A : Option Addr) (a0_2_n a0_2_c : Nat) (a0_3 : List Int) (a0_3_A : Option Addr) (a0_3_n a0_3_c : Nat) (a1_0 : Int) (a1_1 : Int) (a1_2 : Int) {w0 w : World} {F : List Res} {r1 : List Int} {r2 : List Int} {r3 : List Int} {r4 : List Int} {r5 : Int} {r6 : Bool} (hm : Mem w0 (F) w) (a0_0_h : a0_0.length = a0_0_n) (a0_0_R : Rd w0 F a0_0_A (ii a0_0)) (a0_1_h : a0_1.length = a0_1_n) (a0_1_R : Rd w0 F a0_1_A (ii a0_1)) (a0_2_h : a0_2.length = a0_2_n) (a0_2_R : Rd w0 F a0_2_A (ii a0_2)) (a0_3_h : a0_3.length = a0_3_n) (a0_3_R : Rd w0 F a0_3_A (ii a0_3)) (a0_3_k : a0_3.length ≤ a0_3_c) (h : spec_RunOp.f K a0_0 a0_1 a0_2 a0_3 a1_0 a1_1 a1_2 = some (r1, r2, r3, r4, r5, r6)) :
    Calls Try.prog 8 (List.toArray [.agg (List.toArray [.slice a0_0_A a0_0_n a0_0_c, .slice a0_1_A a0_1_n a0_1_c, .slice a0_2_A a0_2_n a0_2_c, .slice a0_3_A a0_3_n a0_3_c]), .agg (List.toArray [i6 a1_0, i6 a1_1, i6 a1_2])]) w fun e w' => ∃ x : (Sl r1.length) × (Sl r2.length) × (Sl r3.length) × (Sl r4.length), e = .returned (.tuple (List.toArray [.agg (List.toArray [.slice x.1.A x.1.n x.1.c, .slice x.2.1.A x.2.1.n x.2.1.c, .slice x.2.2.1.A x.2.2.1.n x.2.2.1.c, .slice x.2.2.2.A x.2.2.2.n x.2.2.2.c]), i6 r5, .bool r6])) ∧ Mem w0 (.row x.1.A x.1.c 3 1 (ii r1) :: .row x.2.1.A x.2.1.c 3 1 (ii r2) :: .row x.2.2.1.A x.2.2.1.c 3 1 (ii r3) :: .row x.2.2.2.A x.2.2.2.c 3 1 (ii r4) :: F) w' := by
  unfold spec_RunOp.f at h
  refine calls_of_J (n := 50) Try.func8 rfl rfl rfl hm ?_
  refine j_seq ?_
  refine j_region ?_
  refine r_do (a_box rfl rfl) rfl rfl (fun x1 => ?_)
  refine r_do (a_box rfl rfl) rfl rfl (fun x2 => ?_)
  refine r_do (a_alloc zr27 rfl) rfl rfl (fun x3 => ?_)
  refine r_q (q_assign rfl rfl) rfl rfl ?_
  refine r_q (q_assign rfl rfl) rfl rfl ?_
  refine r_nil ?_
  refine j_then ?_
  refine j_seq ?_
  refine j_seq ?_
  refine j_region ?_
  refine r_q (q_loadb_agg 2 rfl ag27 sz27 rfl rfl rfl rfl) rfl rfl ?_
  obtain ⟨v1, hb1, h⟩ := of_b1 h
  refine r_do (a_call ok18 rfl rfl rfl rfl (fun w hm => spec_StoreValid.calls K a0_0 a0_0_A a0_0_n a0_0_c a0_1 a0_1_A a0_1_n a0_1_c a0_2 a0_2_A a0_2_n a0_2_c a0_3 a0_3_A a0_3_n a0_3_c hm a0_0_h (Rd.drop 3 a0_0_R) a0_1_h (Rd.drop 3 a0_1_R) a0_2_h (Rd.drop 3 a0_2_R) a0_3_h (Rd.drop 3 a0_3_R) a0_3_k hb1)) rfl rfl (fun x4 => ?_)
  refine r_q (q_not rfl rfl) rfl rfl ?_
  refine r_q (q_move rfl rfl) rfl rfl ?_
  rcases of_if h with ⟨c1, h⟩ | ⟨c1, h⟩
  · refine r_qon (q_loadb_agg 1 rfl ag29 sz29 rfl rfl rfl rfl) rfl rfl rfl rfl (not_f c1) rfl ?_
    refine r_qon (q_fieldAddr fi27_0 sz25 rfl rfl rfl) rfl rfl rfl rfl (not_f c1) rfl ?_
    refine r_qon (q_fieldAddr fi25_2 sz23 rfl rfl rfl) rfl rfl rfl rfl (not_f c1) rfl ?_
    refine r_qon (q_loadb 2 rfl ag23 rfl rfl rfl) rfl rfl rfl rfl (not_f c1) rfl ?_
    refine r_qon (q_lenX a0_2 a0_2_h un23 rfl rfl rfl rfl rfl) rfl rfl rfl rfl (not_f c1) rfl ?_
    obtain ⟨v2, hb2, h⟩ := of_b1 h
    refine r_on (a_call ok19 rfl rfl rfl rfl (fun w hm => spec_OpValid.calls K a1_0 a1_1 a1_2 (a0_2.length : Int) hm hb2)) rfl rfl rfl rfl (not_f c1) rfl (fun x5 => ?_)
    refine r_qon (q_not rfl rfl) rfl rfl rfl rfl (not_f c1) rfl ?_
    refine r_q (q_pick_f rfl rfl (not_f c1) rfl) rfl rfl ?_
    refine r_nil ?_
    refine j_then ?_
    rcases of_if h with ⟨c2, h⟩ | ⟨c2, h⟩
    · refine j_false rfl (not_f c2) ?_
      refine j_skip ?_
      refine j_then ?_
      refine j_seq ?_
      refine j_seq ?_
      refine j_region ?_
      refine r_q (q_fieldAddr fi29_0 sz3 rfl rfl rfl) rfl rfl ?_
      refine r_q (q_loadb 1 rfl ag3 rfl rfl rfl) rfl rfl ?_
      refine r_q (q_neq rfl rfl rfl) rfl rfl ?_
      refine r_nil ?_
      refine j_then ?_
      rcases of_if h with ⟨c3, h⟩ | ⟨c3, h⟩
      · refine j_false rfl (bne_f c3) ?_
        refine j_skip ?_
        refine j_then ?_
        refine j_seq ?_
        refine j_region ?_
        refine r_q (q_loadb_agg 2 rfl ag27 sz27 rfl rfl rfl rfl) rfl rfl ?_
        refine r_q (q_fieldAddr fi29_1 sz3 rfl rfl rfl) rfl rfl ?_
        refine r_q (q_loadb 1 rfl ag3 rfl rfl rfl) rfl rfl ?_
        obtain ⟨v3, v4, v5, v6, v7, v8, hb3, h⟩ := of_b6 h
        refine r_do (a_call ok22 rfl rfl rfl rfl (fun w hm => spec_AllocCell.calls K a0_0 a0_0_A a0_0_n a0_0_c a0_1 a0_1_A a0_1_n a0_1_c a0_2 a0_2_A a0_2_n a0_2_c a0_3 a0_3_A a0_3_n a0_3_c a1_1 hm a0_0_h (Rd.drop 3 a0_0_R) a0_1_h (Rd.drop 3 a0_1_R) a0_2_h (Rd.drop 3 a0_2_R) a0_3_h (Rd.drop 3 a0_3_R) a0_3_k hb3)) rfl rfl (fun x6 => ?_)
        refine r_q (q_move rfl rfl) rfl rfl ?_
        refine r_q (q_extract rfl rfl rfl) rfl rfl ?_
        refine r_q (q_extract rfl rfl rfl) rfl rfl ?_
        refine r_q (q_extract rfl rfl rfl) rfl rfl ?_
        refine r_do (a_alloc zr27 rfl) rfl rfl (fun x7 => ?_)
        refine r_do (a_storeb 0 rfl sz27 rfl rfl rfl rfl (Nat.le_of_ble_eq_true rfl) rfl) rfl rfl (fun _ => ?_)
        refine j_b0 [(.slice x6.1.A x6.1.n x6.1.c), (.slice x6.2.1.A x6.2.1.n x6.2.1.c), (.slice x6.2.2.1.A x6.2.2.1.n x6.2.2.1.c), (.slice x6.2.2.2.A x6.2.2.2.n x6.2.2.2.c)] rfl ?_
        refine r_q (q_assign rfl rfl) rfl rfl ?_
        refine r_q (q_assign rfl rfl) rfl rfl ?_
        refine r_nil ?_
        refine j_then ?_
        refine j_seq ?_
        refine j_seq ?_
        refine j_region ?_
        refine r_q (q_move rfl rfl) rfl rfl ?_
        refine r_q (q_not rfl rfl) rfl rfl ?_
        refine r_nil ?_
        refine j_then ?_
        rcases of_if h with ⟨c4, h⟩ | ⟨c4, h⟩
        · refine j_false rfl (not_f c4) ?_
          refine j_skip ?_
          refine j_then ?_
          refine j_seq ?_
          refine j_region ?_
          refine r_q (q_loadb_agg 0 rfl ag27 sz27 rfl rfl rfl rfl) rfl rfl ?_
          refine r_do (a_storeb 5 rfl sz27 rfl rfl rfl rfl (Nat.le_of_ble_eq_true rfl) rfl) rfl rfl (fun _ => ?_)
          refine j_b5 [(.slice x6.1.A x6.1.n x6.1.c), (.slice x6.2.1.A x6.2.1.n x6.2.1.c), (.slice x6.2.2.1.A x6.2.2.1.n x6.2.2.1.c), (.slice x6.2.2.2.A x6.2.2.2.n x6.2.2.2.c)] rfl ?_
          refine r_q (q_assign rfl rfl) rfl rfl ?_
          refine r_q (q_assign rfl rfl) rfl rfl ?_
          refine r_nil ?_
          refine j_then ?_
          refine j_ret ?_
          cases h
          exact j_return rfl (ResOf.cell 5 rfl rfl ag27 sz27 (ResOf.tmp rfl (ResOf.tmp rfl ResOf.nil))) rfl (fun w h => ⟨(⟨x6.1.A, x6.1.n, x6.1.c, x6.1.h⟩, ⟨x6.2.1.A, x6.2.1.n, x6.2.1.c, x6.2.1.h⟩, ⟨x6.2.2.1.A, x6.2.2.1.n, x6.2.2.1.c, x6.2.2.1.h⟩, ⟨x6.2.2.2.A, x6.2.2.2.n, x6.2.2.2.c, x6.2.2.2.h⟩), rfl, h.pick 8 [1, 2, 3, 4] rfl⟩)
        · refine j_true rfl (not_t (var_f c4)) ?_
          refine j_seq ?_
          refine j_region ?_
          refine r_q (q_loadb_agg 7 rfl ag27 sz27 rfl rfl rfl rfl) rfl rfl ?_
          obtain ⟨v9, v10, v11, v12, hb4, h⟩ := of_b4 h
          refine r_do (a_call ok21 rfl rfl rfl rfl (fun w hm => spec_l4Copy.calls K a0_0 a0_0_A a0_0_n a0_0_c a0_1 a0_1_A a0_1_n a0_1_c a0_2 a0_2_A a0_2_n a0_2_c a0_3 a0_3_A a0_3_n a0_3_c hm a0_0_h (Rd.drop 8 a0_0_R) a0_1_h (Rd.drop 8 a0_1_R) a0_2_h (Rd.drop 8 a0_2_R) a0_3_h (Rd.drop 8 a0_3_R) hb4)) rfl rfl (fun x8 => ?_)
          refine r_do (a_storeb 9 rfl sz27 rfl rfl rfl rfl (Nat.le_of_ble_eq_true rfl) rfl) rfl rfl (fun _ => ?_)
          refine j_b9 [(.slice x8.1.A x8.1.n x8.1.c), (.slice x8.2.1.A x8.2.1.n x8.2.1.c), (.slice x8.2.2.1.A x8.2.2.1.n x8.2.2.1.c), (.slice x8.2.2.2.A x8.2.2.2.n x8.2.2.2.c)] rfl ?_
          refine r_q (q_assign rfl rfl) rfl rfl ?_
          refine r_q (q_assign rfl rfl) rfl rfl ?_
          refine r_nil ?_
          refine j_then ?_
          refine j_ret ?_
          refine j_then_ret ?_
          cases h
          exact j_return rfl (ResOf.cell 9 rfl rfl ag27 sz27 (ResOf.tmp rfl (ResOf.tmp rfl ResOf.nil))) rfl (fun w h => ⟨(⟨x8.1.A, x8.1.n, x8.1.c, x8.1.h⟩, ⟨x8.2.1.A, x8.2.1.n, x8.2.1.c, x8.2.1.h⟩, ⟨x8.2.2.1.A, x8.2.2.1.n, x8.2.2.1.c, x8.2.2.1.h⟩, ⟨x8.2.2.2.A, x8.2.2.2.n, x8.2.2.2.c, x8.2.2.2.h⟩), rfl, h.pick 12 [0, 1, 2, 3] rfl⟩)
      · refine j_true rfl (bne_t c3) ?_
        refine j_seq ?_
        obtain ⟨v13, v14, v15, v16, hb5, h⟩ := of_b4 h
        obtain ⟨v17, v18, v19, v20, hb6, h⟩ := of_b4 h
        refine j_draw (.box x3 27 [(.slice none 0 0), (.slice none 0 0), (.slice none 0 0), (.slice none 0 0)] :: .box x2 29 [(i6 a1_0), (i6 a1_1), (i6 a1_2)] :: .box x1 27 [(.slice a0_0_A a0_0_n a0_0_c), (.slice a0_1_A a0_1_n a0_1_c), (.slice a0_2_A a0_2_n a0_2_c), (.slice a0_3_A a0_3_n a0_3_c)] :: F) 10 follows_any rfl ?_
        refine d_take 0 rfl (q_loadb_agg 2 rfl ag27 sz27 rfl rfl rfl rfl) rfl rfl (by kernel_rfl) (by kernel_rfl) (by kernel_rfl) (fun w h => h) ?_
        refine d_take 2 rfl (q_loadb_agg 1 rfl ag29 sz29 rfl rfl rfl rfl) rfl rfl (by kernel_rfl) (by kernel_rfl) (by kernel_rfl) (fun w h => h) ?_
        refine d_join (σ := ((Sl v13.length) × (Sl v14.length) × (Sl v15.length) × (Sl v16.length)) × ((Ln v18.length v13.length) × (Ln v19.length v14.length) × (Ln v20.length v15.length)) × Nat) 0 #[true, true, true, true, true, true, true, true, true, true] (fun s => [(4, (pt x3)), (7, (pt s.2.2)), (8, (i6 v17))]) (fun s => .box s.2.2 27 [(.slice s.1.1.A s.1.1.n s.1.1.c), (.slice s.1.2.1.A s.1.2.1.n s.1.2.1.c), (.slice s.1.2.2.1.A s.1.2.2.1.n s.1.2.2.1.c), (.slice s.1.2.2.2.A s.1.2.2.2.n s.1.2.2.2.c)] :: .row s.1.1.A s.1.1.c 3 1 (ii v18) :: .row s.1.2.1.A s.1.2.1.c 3 1 (ii v19) :: .row s.1.2.2.1.A s.1.2.2.1.c 3 1 (ii v20) :: .row s.1.2.2.2.A s.1.2.2.2.c 3 1 (ii v16) :: .box x3 27 [(.slice none 0 0), (.slice none 0 0), (.slice none 0 0), (.slice none 0 0)] :: .box x2 29 [(i6 a1_0), (i6 a1_1), (i6 a1_2)] :: .box x1 27 [(.slice a0_0_A a0_0_n a0_0_c), (.slice a0_1_A a0_1_n a0_1_c), (.slice a0_2_A a0_2_n a0_2_c), (.slice a0_3_A a0_3_n a0_3_c)] :: F) ?_ (fun hD1023 => ?_)
        · rintro ⟨x9, x10, x11⟩
          show J _ _ [(4, (pt x3)), (7, (pt x11)), (8, (i6 v17))] _ (.box x11 27 [(.slice x9.1.A x9.1.n x9.1.c), (.slice x9.2.1.A x9.2.1.n x9.2.1.c), (.slice x9.2.2.1.A x9.2.2.1.n x9.2.2.1.c), (.slice x9.2.2.2.A x9.2.2.2.n x9.2.2.2.c)] :: .row x9.1.A x9.1.c 3 1 (ii v18) :: .row x9.2.1.A x9.2.1.c 3 1 (ii v19) :: .row x9.2.2.1.A x9.2.2.1.c 3 1 (ii v20) :: .row x9.2.2.2.A x9.2.2.2.c 3 1 (ii v16) :: .box x3 27 [(.slice none 0 0), (.slice none 0 0), (.slice none 0 0), (.slice none 0 0)] :: .box x2 29 [(i6 a1_0), (i6 a1_1), (i6 a1_2)] :: .box x1 27 [(.slice a0_0_A a0_0_n a0_0_c), (.slice a0_1_A a0_1_n a0_1_c), (.slice a0_2_A a0_2_n a0_2_c), (.slice a0_3_A a0_3_n a0_3_c)] :: F)
          refine d_done (by kernel_rfl) ?_
          refine j_then ?_
          refine j_seq ?_
          refine j_region ?_
          refine r_q (q_loadb_agg 0 rfl ag27 sz27 rfl rfl rfl rfl) rfl rfl ?_
          refine r_q (q_move rfl rfl) rfl rfl ?_
          refine r_do (a_storeb 5 rfl sz27 rfl rfl rfl rfl (Nat.le_of_ble_eq_true rfl) rfl) rfl rfl (fun _ => ?_)
          refine j_b5 [(.slice x9.1.A x9.1.n x9.1.c), (.slice x9.2.1.A x9.2.1.n x9.2.1.c), (.slice x9.2.2.1.A x9.2.2.1.n x9.2.2.1.c), (.slice x9.2.2.2.A x9.2.2.2.n x9.2.2.2.c)] rfl ?_
          refine r_q (q_assign rfl rfl) rfl rfl ?_
          refine r_q (q_assign rfl rfl) rfl rfl ?_
          refine r_nil ?_
          refine j_then ?_
          refine j_ret ?_
          refine j_then_ret ?_
          cases h
          exact j_return rfl (ResOf.cell 5 rfl rfl ag27 sz27 (ResOf.tmp rfl (ResOf.tmp rfl ResOf.nil))) rfl (fun w h => ⟨(⟨x9.1.A, x9.1.n, x9.1.c, (x10.1.h.trans x9.1.h)⟩, ⟨x9.2.1.A, x9.2.1.n, x9.2.1.c, (x10.2.1.h.trans x9.2.1.h)⟩, ⟨x9.2.2.1.A, x9.2.2.1.n, x9.2.2.1.c, (x10.2.2.h.trans x9.2.2.1.h)⟩, ⟨x9.2.2.2.A, x9.2.2.2.n, x9.2.2.2.c, x9.2.2.2.h⟩), rfl, h.pick 8 [1, 2, 3, 4] rfl⟩)
        refine d_join (σ := ((Sl v13.length) × (Sl v14.length) × (Sl v15.length) × (Sl v16.length)) × ((Ln v18.length v13.length) × (Ln v19.length v14.length) × (Ln v20.length v15.length)) × Nat) 2 #[true, true, true, true, true, true, true, true, false, false] (fun s => [(4, (pt x3)), (7, (pt s.2.2)), (33, (.agg (List.toArray [(.slice s.1.1.A s.1.1.n s.1.1.c), (.slice s.1.2.1.A s.1.2.1.n s.1.2.1.c), (.slice s.1.2.2.1.A s.1.2.2.1.n s.1.2.2.1.c), (.slice s.1.2.2.2.A s.1.2.2.2.n s.1.2.2.2.c)]))), (34, (i6 v17))]) (fun s => .box s.2.2 27 [(.slice none 0 0), (.slice none 0 0), (.slice none 0 0), (.slice none 0 0)] :: .row s.1.1.A s.1.1.c 3 1 (ii v18) :: .row s.1.2.1.A s.1.2.1.c 3 1 (ii v19) :: .row s.1.2.2.1.A s.1.2.2.1.c 3 1 (ii v20) :: .row s.1.2.2.2.A s.1.2.2.2.c 3 1 (ii v16) :: .box x3 27 [(.slice none 0 0), (.slice none 0 0), (.slice none 0 0), (.slice none 0 0)] :: .box x2 29 [(i6 a1_0), (i6 a1_1), (i6 a1_2)] :: .box x1 27 [(.slice a0_0_A a0_0_n a0_0_c), (.slice a0_1_A a0_1_n a0_1_c), (.slice a0_2_A a0_2_n a0_2_c), (.slice a0_3_A a0_3_n a0_3_c)] :: F) ?_ (fun hD255 => ?_)
        · rintro ⟨x9, x10, x11⟩
          show J _ _ [(4, (pt x3)), (7, (pt x11)), (33, (.agg (List.toArray [(.slice x9.1.A x9.1.n x9.1.c), (.slice x9.2.1.A x9.2.1.n x9.2.1.c), (.slice x9.2.2.1.A x9.2.2.1.n x9.2.2.1.c), (.slice x9.2.2.2.A x9.2.2.2.n x9.2.2.2.c)]))), (34, (i6 v17))] _ (.box x11 27 [(.slice none 0 0), (.slice none 0 0), (.slice none 0 0), (.slice none 0 0)] :: .row x9.1.A x9.1.c 3 1 (ii v18) :: .row x9.2.1.A x9.2.1.c 3 1 (ii v19) :: .row x9.2.2.1.A x9.2.2.1.c 3 1 (ii v20) :: .row x9.2.2.2.A x9.2.2.2.c 3 1 (ii v16) :: .box x3 27 [(.slice none 0 0), (.slice none 0 0), (.slice none 0 0), (.slice none 0 0)] :: .box x2 29 [(i6 a1_0), (i6 a1_1), (i6 a1_2)] :: .box x1 27 [(.slice a0_0_A a0_0_n a0_0_c), (.slice a0_1_A a0_1_n a0_1_c), (.slice a0_2_A a0_2_n a0_2_c), (.slice a0_3_A a0_3_n a0_3_c)] :: F)
          refine d_one 8 (by kernel_rfl) ?_
          · refine o_do rfl (a_storeb 0 rfl sz27 rfl rfl rfl rfl (Nat.le_of_ble_eq_true rfl) rfl) rfl rfl (fun _ w h => (h.drop 5)) (fun _ => ?_)
            refine j_b0 [(.slice x9.1.A x9.1.n x9.1.c), (.slice x9.2.1.A x9.2.1.n x9.2.1.c), (.slice x9.2.2.1.A x9.2.2.1.n x9.2.2.1.c), (.slice x9.2.2.2.A x9.2.2.2.n x9.2.2.2.c)] rfl ?_
            refine d_take 9 rfl (q_assign rfl rfl) rfl rfl (by kernel_rfl) (by kernel_rfl) (by kernel_rfl) (fun w h => (h.drop 5)) ?_
            refine j_rs (.box x11 27 [(.slice x9.1.A x9.1.n x9.1.c), (.slice x9.2.1.A x9.2.1.n x9.2.1.c), (.slice x9.2.2.1.A x9.2.2.1.n x9.2.2.1.c), (.slice x9.2.2.2.A x9.2.2.2.n x9.2.2.2.c)] :: .row x9.1.A x9.1.c 3 1 (ii v18) :: .row x9.2.1.A x9.2.1.c 3 1 (ii v19) :: .row x9.2.2.1.A x9.2.2.1.c 3 1 (ii v20) :: .row x9.2.2.2.A x9.2.2.2.c 3 1 (ii v16) :: .box x3 27 [(.slice none 0 0), (.slice none 0 0), (.slice none 0 0), (.slice none 0 0)] :: .box x2 29 [(i6 a1_0), (i6 a1_1), (i6 a1_2)] :: .box x1 27 [(.slice a0_0_A a0_0_n a0_0_c), (.slice a0_1_A a0_1_n a0_1_c), (.slice a0_2_A a0_2_n a0_2_c), (.slice a0_3_A a0_3_n a0_3_c)] :: F) (fun _ h => h) ?_
            refine j_env [(4, (pt x3)), (7, (pt x11)), (8, (i6 v17))] ⟨rfl, rfl, rfl, trivial⟩ ?_
            exact hD1023 (x9, x10, x11)
        refine d_join (σ := ((Sl v13.length) × (Sl v14.length) × (Sl v15.length) × (Sl v16.length)) × ((Ln v18.length v13.length) × (Ln v19.length v14.length) × (Ln v20.length v15.length))) 3 #[true, true, true, true, true, true, true, false, false, false] (fun s => [(4, (pt x3)), (33, (.agg (List.toArray [(.slice s.1.1.A s.1.1.n s.1.1.c), (.slice s.1.2.1.A s.1.2.1.n s.1.2.1.c), (.slice s.1.2.2.1.A s.1.2.2.1.n s.1.2.2.1.c), (.slice s.1.2.2.2.A s.1.2.2.2.n s.1.2.2.2.c)]))), (34, (i6 v17))]) (fun s => .row s.1.1.A s.1.1.c 3 1 (ii v18) :: .row s.1.2.1.A s.1.2.1.c 3 1 (ii v19) :: .row s.1.2.2.1.A s.1.2.2.1.c 3 1 (ii v20) :: .row s.1.2.2.2.A s.1.2.2.2.c 3 1 (ii v16) :: .box x3 27 [(.slice none 0 0), (.slice none 0 0), (.slice none 0 0), (.slice none 0 0)] :: .box x2 29 [(i6 a1_0), (i6 a1_1), (i6 a1_2)] :: .box x1 27 [(.slice a0_0_A a0_0_n a0_0_c), (.slice a0_1_A a0_1_n a0_1_c), (.slice a0_2_A a0_2_n a0_2_c), (.slice a0_3_A a0_3_n a0_3_c)] :: F) ?_ (fun hD127 => ?_)
        · rintro ⟨x9, x10⟩
          show J _ _ [(4, (pt x3)), (33, (.agg (List.toArray [(.slice x9.1.A x9.1.n x9.1.c), (.slice x9.2.1.A x9.2.1.n x9.2.1.c), (.slice x9.2.2.1.A x9.2.2.1.n x9.2.2.1.c), (.slice x9.2.2.2.A x9.2.2.2.n x9.2.2.2.c)]))), (34, (i6 v17))] _ (.row x9.1.A x9.1.c 3 1 (ii v18) :: .row x9.2.1.A x9.2.1.c 3 1 (ii v19) :: .row x9.2.2.1.A x9.2.2.1.c 3 1 (ii v20) :: .row x9.2.2.2.A x9.2.2.2.c 3 1 (ii v16) :: .box x3 27 [(.slice none 0 0), (.slice none 0 0), (.slice none 0 0), (.slice none 0 0)] :: .box x2 29 [(i6 a1_0), (i6 a1_1), (i6 a1_2)] :: .box x1 27 [(.slice a0_0_A a0_0_n a0_0_c), (.slice a0_1_A a0_1_n a0_1_c), (.slice a0_2_A a0_2_n a0_2_c), (.slice a0_3_A a0_3_n a0_3_c)] :: F)
          refine d_one 7 (by kernel_rfl) ?_
          · refine o_do rfl (a_alloc zr27 rfl) rfl rfl (fun x11 w h => (h.drop 5)) (fun x11 => ?_)
            refine j_rs (.box x11 27 [(.slice none 0 0), (.slice none 0 0), (.slice none 0 0), (.slice none 0 0)] :: .row x9.1.A x9.1.c 3 1 (ii v18) :: .row x9.2.1.A x9.2.1.c 3 1 (ii v19) :: .row x9.2.2.1.A x9.2.2.1.c 3 1 (ii v20) :: .row x9.2.2.2.A x9.2.2.2.c 3 1 (ii v16) :: .box x3 27 [(.slice none 0 0), (.slice none 0 0), (.slice none 0 0), (.slice none 0 0)] :: .box x2 29 [(i6 a1_0), (i6 a1_1), (i6 a1_2)] :: .box x1 27 [(.slice a0_0_A a0_0_n a0_0_c), (.slice a0_1_A a0_1_n a0_1_c), (.slice a0_2_A a0_2_n a0_2_c), (.slice a0_3_A a0_3_n a0_3_c)] :: F) (fun _ h => h) ?_
            refine j_env [(4, (pt x3)), (7, (pt x11)), (33, (.agg (List.toArray [(.slice x9.1.A x9.1.n x9.1.c), (.slice x9.2.1.A x9.2.1.n x9.2.1.c), (.slice x9.2.2.1.A x9.2.2.1.n x9.2.2.1.c), (.slice x9.2.2.2.A x9.2.2.2.n x9.2.2.2.c)]))), (34, (i6 v17))] ⟨rfl, rfl, rfl, rfl, trivial⟩ ?_
            exact hD255 (x9, x10, x11)
        refine d_join (σ := ((Sl v13.length) × (Sl v14.length) × (Sl v15.length) × (Sl v16.length)) × Nat) 6 #[true, true, true, false, false, false, false, true, false, false] (fun s => [(4, (pt x3)), (7, (pt s.2)), (30, (.agg (List.toArray [(.slice s.1.1.A s.1.1.n s.1.1.c), (.slice s.1.2.1.A s.1.2.1.n s.1.2.1.c), (.slice s.1.2.2.1.A s.1.2.2.1.n s.1.2.2.1.c), (.slice s.1.2.2.2.A s.1.2.2.2.n s.1.2.2.2.c)]))), (31, (.agg (List.toArray [(i6 a1_0), (i6 a1_1), (i6 a1_2)])))]) (fun s => .box s.2 27 [(.slice none 0 0), (.slice none 0 0), (.slice none 0 0), (.slice none 0 0)] :: .row s.1.1.A s.1.1.c 3 1 (ii v13) :: .row s.1.2.1.A s.1.2.1.c 3 1 (ii v14) :: .row s.1.2.2.1.A s.1.2.2.1.c 3 1 (ii v15) :: .row s.1.2.2.2.A s.1.2.2.2.c 3 1 (ii v16) :: .box x3 27 [(.slice none 0 0), (.slice none 0 0), (.slice none 0 0), (.slice none 0 0)] :: .box x2 29 [(i6 a1_0), (i6 a1_1), (i6 a1_2)] :: .box x1 27 [(.slice a0_0_A a0_0_n a0_0_c), (.slice a0_1_A a0_1_n a0_1_c), (.slice a0_2_A a0_2_n a0_2_c), (.slice a0_3_A a0_3_n a0_3_c)] :: F) ?_ (fun hD135 => ?_)
        · rintro ⟨x9, x11⟩
          show J _ _ [(4, (pt x3)), (7, (pt x11)), (30, (.agg (List.toArray [(.slice x9.1.A x9.1.n x9.1.c), (.slice x9.2.1.A x9.2.1.n x9.2.1.c), (.slice x9.2.2.1.A x9.2.2.1.n x9.2.2.1.c), (.slice x9.2.2.2.A x9.2.2.2.n x9.2.2.2.c)]))), (31, (.agg (List.toArray [(i6 a1_0), (i6 a1_1), (i6 a1_2)])))] _ (.box x11 27 [(.slice none 0 0), (.slice none 0 0), (.slice none 0 0), (.slice none 0 0)] :: .row x9.1.A x9.1.c 3 1 (ii v13) :: .row x9.2.1.A x9.2.1.c 3 1 (ii v14) :: .row x9.2.2.1.A x9.2.2.1.c 3 1 (ii v15) :: .row x9.2.2.2.A x9.2.2.2.c 3 1 (ii v16) :: .box x3 27 [(.slice none 0 0), (.slice none 0 0), (.slice none 0 0), (.slice none 0 0)] :: .box x2 29 [(i6 a1_0), (i6 a1_1), (i6 a1_2)] :: .box x1 27 [(.slice a0_0_A a0_0_n a0_0_c), (.slice a0_1_A a0_1_n a0_1_c), (.slice a0_2_A a0_2_n a0_2_c), (.slice a0_3_A a0_3_n a0_3_c)] :: F)
          refine d_one 3 (by kernel_rfl) ?_
          · refine j_rs (.row x9.1.A x9.1.c 3 1 (ii v13) :: .row x9.2.1.A x9.2.1.c 3 1 (ii v14) :: .row x9.2.2.1.A x9.2.2.1.c 3 1 (ii v15) :: .box x11 27 [(.slice none 0 0), (.slice none 0 0), (.slice none 0 0), (.slice none 0 0)] :: .row x9.2.2.2.A x9.2.2.2.c 3 1 (ii v16) :: .box x3 27 [(.slice none 0 0), (.slice none 0 0), (.slice none 0 0), (.slice none 0 0)] :: .box x2 29 [(i6 a1_0), (i6 a1_1), (i6 a1_2)] :: .box x1 27 [(.slice a0_0_A a0_0_n a0_0_c), (.slice a0_1_A a0_1_n a0_1_c), (.slice a0_2_A a0_2_n a0_2_c), (.slice a0_3_A a0_3_n a0_3_c)] :: F) (fun _ h => h.pick 8 [1, 2, 3, 0, 4, 5, 6, 7] rfl) ?_
            refine o_do rfl (a_call ok20 rfl rfl rfl rfl (fun w hm => spec_l5Do.calls K v13 x9.1.A x9.1.n x9.1.c v14 x9.2.1.A x9.2.1.n x9.2.1.c v15 x9.2.2.1.A x9.2.2.1.n x9.2.2.1.c x9.2.2.2.A x9.2.2.2.n x9.2.2.2.c a1_0 a1_1 a1_2 hm x9.1.h x9.2.1.h x9.2.2.1.h hb6)) rfl rfl (fun x10 w h => (h.drop 5)) (fun x10 => ?_)
            refine d_take 4 rfl (q_move rfl rfl) rfl rfl (by kernel_rfl) (by kernel_rfl) (by kernel_rfl) (fun w h => (h.drop 5)) ?_
            refine d_take 5 rfl (q_extract rfl rfl rfl) rfl rfl (by kernel_rfl) (by kernel_rfl) (by kernel_rfl) (fun w h => (h.drop 5)) ?_
            refine d_take 6 rfl (q_extract rfl rfl rfl) rfl rfl (by kernel_rfl) (by kernel_rfl) (by kernel_rfl) (fun w h => (h.drop 5)) ?_
            refine j_rs (.box x11 27 [(.slice none 0 0), (.slice none 0 0), (.slice none 0 0), (.slice none 0 0)] :: .row x9.1.A x9.1.c 3 1 (ii v18) :: .row x9.2.1.A x9.2.1.c 3 1 (ii v19) :: .row x9.2.2.1.A x9.2.2.1.c 3 1 (ii v20) :: .row x9.2.2.2.A x9.2.2.2.c 3 1 (ii v16) :: .box x3 27 [(.slice none 0 0), (.slice none 0 0), (.slice none 0 0), (.slice none 0 0)] :: .box x2 29 [(i6 a1_0), (i6 a1_1), (i6 a1_2)] :: .box x1 27 [(.slice a0_0_A a0_0_n a0_0_c), (.slice a0_1_A a0_1_n a0_1_c), (.slice a0_2_A a0_2_n a0_2_c), (.slice a0_3_A a0_3_n a0_3_c)] :: F) (fun _ h => h.pick 8 [3, 0, 1, 2, 4, 5, 6, 7] rfl) ?_
            refine j_env [(4, (pt x3)), (7, (pt x11)), (33, (.agg (List.toArray [(.slice x9.1.A x9.1.n x9.1.c), (.slice x9.2.1.A x9.2.1.n x9.2.1.c), (.slice x9.2.2.1.A x9.2.2.1.n x9.2.2.1.c), (.slice x9.2.2.2.A x9.2.2.2.n x9.2.2.2.c)]))), (34, (i6 v17))] ⟨rfl, rfl, rfl, rfl, trivial⟩ ?_
            exact hD255 (x9, x10, x11)
        refine d_join (σ := ((Sl v13.length) × (Sl v14.length) × (Sl v15.length) × (Sl v16.length))) 7 #[true, true, true, false, false, false, false, false, false, false] (fun s => [(4, (pt x3)), (30, (.agg (List.toArray [(.slice s.1.A s.1.n s.1.c), (.slice s.2.1.A s.2.1.n s.2.1.c), (.slice s.2.2.1.A s.2.2.1.n s.2.2.1.c), (.slice s.2.2.2.A s.2.2.2.n s.2.2.2.c)]))), (31, (.agg (List.toArray [(i6 a1_0), (i6 a1_1), (i6 a1_2)])))]) (fun s => .row s.1.A s.1.c 3 1 (ii v13) :: .row s.2.1.A s.2.1.c 3 1 (ii v14) :: .row s.2.2.1.A s.2.2.1.c 3 1 (ii v15) :: .row s.2.2.2.A s.2.2.2.c 3 1 (ii v16) :: .box x3 27 [(.slice none 0 0), (.slice none 0 0), (.slice none 0 0), (.slice none 0 0)] :: .box x2 29 [(i6 a1_0), (i6 a1_1), (i6 a1_2)] :: .box x1 27 [(.slice a0_0_A a0_0_n a0_0_c), (.slice a0_1_A a0_1_n a0_1_c), (.slice a0_2_A a0_2_n a0_2_c), (.slice a0_3_A a0_3_n a0_3_c)] :: F) ?_ (fun hD7 => ?_)
        · rintro x9
          show J _ _ [(4, (pt x3)), (30, (.agg (List.toArray [(.slice x9.1.A x9.1.n x9.1.c), (.slice x9.2.1.A x9.2.1.n x9.2.1.c), (.slice x9.2.2.1.A x9.2.2.1.n x9.2.2.1.c), (.slice x9.2.2.2.A x9.2.2.2.n x9.2.2.2.c)]))), (31, (.agg (List.toArray [(i6 a1_0), (i6 a1_1), (i6 a1_2)])))] _ (.row x9.1.A x9.1.c 3 1 (ii v13) :: .row x9.2.1.A x9.2.1.c 3 1 (ii v14) :: .row x9.2.2.1.A x9.2.2.1.c 3 1 (ii v15) :: .row x9.2.2.2.A x9.2.2.2.c 3 1 (ii v16) :: .box x3 27 [(.slice none 0 0), (.slice none 0 0), (.slice none 0 0), (.slice none 0 0)] :: .box x2 29 [(i6 a1_0), (i6 a1_1), (i6 a1_2)] :: .box x1 27 [(.slice a0_0_A a0_0_n a0_0_c), (.slice a0_1_A a0_1_n a0_1_c), (.slice a0_2_A a0_2_n a0_2_c), (.slice a0_3_A a0_3_n a0_3_c)] :: F)
          refine d_two 3 7 (by kernel_rfl) ?_ ?_
          · refine o_do rfl (a_call ok20 rfl rfl rfl rfl (fun w hm => spec_l5Do.calls K v13 x9.1.A x9.1.n x9.1.c v14 x9.2.1.A x9.2.1.n x9.2.1.c v15 x9.2.2.1.A x9.2.2.1.n x9.2.2.1.c x9.2.2.2.A x9.2.2.2.n x9.2.2.2.c a1_0 a1_1 a1_2 hm x9.1.h x9.2.1.h x9.2.2.1.h hb6)) rfl rfl (fun x10 w h => (h.drop 4)) (fun x10 => ?_)
            refine d_take 4 rfl (q_move rfl rfl) rfl rfl (by kernel_rfl) (by kernel_rfl) (by kernel_rfl) (fun w h => (h.drop 4)) ?_
            refine d_take 5 rfl (q_extract rfl rfl rfl) rfl rfl (by kernel_rfl) (by kernel_rfl) (by kernel_rfl) (fun w h => (h.drop 4)) ?_
            refine d_take 6 rfl (q_extract rfl rfl rfl) rfl rfl (by kernel_rfl) (by kernel_rfl) (by kernel_rfl) (fun w h => (h.drop 4)) ?_
            refine j_rs (.row x9.1.A x9.1.c 3 1 (ii v18) :: .row x9.2.1.A x9.2.1.c 3 1 (ii v19) :: .row x9.2.2.1.A x9.2.2.1.c 3 1 (ii v20) :: .row x9.2.2.2.A x9.2.2.2.c 3 1 (ii v16) :: .box x3 27 [(.slice none 0 0), (.slice none 0 0), (.slice none 0 0), (.slice none 0 0)] :: .box x2 29 [(i6 a1_0), (i6 a1_1), (i6 a1_2)] :: .box x1 27 [(.slice a0_0_A a0_0_n a0_0_c), (.slice a0_1_A a0_1_n a0_1_c), (.slice a0_2_A a0_2_n a0_2_c), (.slice a0_3_A a0_3_n a0_3_c)] :: F) (fun _ h => h) ?_
            refine j_env [(4, (pt x3)), (33, (.agg (List.toArray [(.slice x9.1.A x9.1.n x9.1.c), (.slice x9.2.1.A x9.2.1.n x9.2.1.c), (.slice x9.2.2.1.A x9.2.2.1.n x9.2.2.1.c), (.slice x9.2.2.2.A x9.2.2.2.n x9.2.2.2.c)]))), (34, (i6 v17))] ⟨rfl, rfl, rfl, trivial⟩ ?_
            exact hD127 (x9, x10)
          · refine o_do rfl (a_alloc zr27 rfl) rfl rfl (fun x11 w h => (h.drop 5)) (fun x11 => ?_)
            refine j_rs (.box x11 27 [(.slice none 0 0), (.slice none 0 0), (.slice none 0 0), (.slice none 0 0)] :: .row x9.1.A x9.1.c 3 1 (ii v13) :: .row x9.2.1.A x9.2.1.c 3 1 (ii v14) :: .row x9.2.2.1.A x9.2.2.1.c 3 1 (ii v15) :: .row x9.2.2.2.A x9.2.2.2.c 3 1 (ii v16) :: .box x3 27 [(.slice none 0 0), (.slice none 0 0), (.slice none 0 0), (.slice none 0 0)] :: .box x2 29 [(i6 a1_0), (i6 a1_1), (i6 a1_2)] :: .box x1 27 [(.slice a0_0_A a0_0_n a0_0_c), (.slice a0_1_A a0_1_n a0_1_c), (.slice a0_2_A a0_2_n a0_2_c), (.slice a0_3_A a0_3_n a0_3_c)] :: F) (fun _ h => h) ?_
            refine j_env [(4, (pt x3)), (7, (pt x11)), (30, (.agg (List.toArray [(.slice x9.1.A x9.1.n x9.1.c), (.slice x9.2.1.A x9.2.1.n x9.2.1.c), (.slice x9.2.2.1.A x9.2.2.1.n x9.2.2.1.c), (.slice x9.2.2.2.A x9.2.2.2.n x9.2.2.2.c)]))), (31, (.agg (List.toArray [(i6 a1_0), (i6 a1_1), (i6 a1_2)])))] ⟨rfl, rfl, rfl, rfl, trivial⟩ ?_
            exact hD135 (x9, x11)
        refine d_join (σ := Nat) 7 #[true, false, true, false, false, false, false, true, false, false] (fun s => [(4, (pt x3)), (7, (pt s)), (29, (.agg (List.toArray [(.slice a0_0_A a0_0_n a0_0_c), (.slice a0_1_A a0_1_n a0_1_c), (.slice a0_2_A a0_2_n a0_2_c), (.slice a0_3_A a0_3_n a0_3_c)]))), (31, (.agg (List.toArray [(i6 a1_0), (i6 a1_1), (i6 a1_2)])))]) (fun s => .box s 27 [(.slice none 0 0), (.slice none 0 0), (.slice none 0 0), (.slice none 0 0)] :: .box x3 27 [(.slice none 0 0), (.slice none 0 0), (.slice none 0 0), (.slice none 0 0)] :: .box x2 29 [(i6 a1_0), (i6 a1_1), (i6 a1_2)] :: .box x1 27 [(.slice a0_0_A a0_0_n a0_0_c), (.slice a0_1_A a0_1_n a0_1_c), (.slice a0_2_A a0_2_n a0_2_c), (.slice a0_3_A a0_3_n a0_3_c)] :: F) ?_ (fun hD133 => ?_)
        · rintro x11
          show J _ _ [(4, (pt x3)), (7, (pt x11)), (29, (.agg (List.toArray [(.slice a0_0_A a0_0_n a0_0_c), (.slice a0_1_A a0_1_n a0_1_c), (.slice a0_2_A a0_2_n a0_2_c), (.slice a0_3_A a0_3_n a0_3_c)]))), (31, (.agg (List.toArray [(i6 a1_0), (i6 a1_1), (i6 a1_2)])))] _ (.box x11 27 [(.slice none 0 0), (.slice none 0 0), (.slice none 0 0), (.slice none 0 0)] :: .box x3 27 [(.slice none 0 0), (.slice none 0 0), (.slice none 0 0), (.slice none 0 0)] :: .box x2 29 [(i6 a1_0), (i6 a1_1), (i6 a1_2)] :: .box x1 27 [(.slice a0_0_A a0_0_n a0_0_c), (.slice a0_1_A a0_1_n a0_1_c), (.slice a0_2_A a0_2_n a0_2_c), (.slice a0_3_A a0_3_n a0_3_c)] :: F)
          refine d_one 1 (by kernel_rfl) ?_
          · refine o_do rfl (a_call ok21 rfl rfl rfl rfl (fun w hm => spec_l4Copy.calls K a0_0 a0_0_A a0_0_n a0_0_c a0_1 a0_1_A a0_1_n a0_1_c a0_2 a0_2_A a0_2_n a0_2_c a0_3 a0_3_A a0_3_n a0_3_c hm a0_0_h (Rd.drop 4 a0_0_R) a0_1_h (Rd.drop 4 a0_1_R) a0_2_h (Rd.drop 4 a0_2_R) a0_3_h (Rd.drop 4 a0_3_R) hb5)) rfl rfl (fun x9 w h => (h.drop 5)) (fun x9 => ?_)
            refine j_rs (.box x11 27 [(.slice none 0 0), (.slice none 0 0), (.slice none 0 0), (.slice none 0 0)] :: .row x9.1.A x9.1.c 3 1 (ii v13) :: .row x9.2.1.A x9.2.1.c 3 1 (ii v14) :: .row x9.2.2.1.A x9.2.2.1.c 3 1 (ii v15) :: .row x9.2.2.2.A x9.2.2.2.c 3 1 (ii v16) :: .box x3 27 [(.slice none 0 0), (.slice none 0 0), (.slice none 0 0), (.slice none 0 0)] :: .box x2 29 [(i6 a1_0), (i6 a1_1), (i6 a1_2)] :: .box x1 27 [(.slice a0_0_A a0_0_n a0_0_c), (.slice a0_1_A a0_1_n a0_1_c), (.slice a0_2_A a0_2_n a0_2_c), (.slice a0_3_A a0_3_n a0_3_c)] :: F) (fun _ h => h.pick 8 [4, 0, 1, 2, 3, 5, 6, 7] rfl) ?_
            refine j_env [(4, (pt x3)), (7, (pt x11)), (30, (.agg (List.toArray [(.slice x9.1.A x9.1.n x9.1.c), (.slice x9.2.1.A x9.2.1.n x9.2.1.c), (.slice x9.2.2.1.A x9.2.2.1.n x9.2.2.1.c), (.slice x9.2.2.2.A x9.2.2.2.n x9.2.2.2.c)]))), (31, (.agg (List.toArray [(i6 a1_0), (i6 a1_1), (i6 a1_2)])))] ⟨rfl, rfl, rfl, rfl, trivial⟩ ?_
            exact hD135 (x9, x11)
        refine d_two 1 7 (by kernel_rfl) ?_ ?_
        · refine o_do rfl (a_call ok21 rfl rfl rfl rfl (fun w hm => spec_l4Copy.calls K a0_0 a0_0_A a0_0_n a0_0_c a0_1 a0_1_A a0_1_n a0_1_c a0_2 a0_2_A a0_2_n a0_2_c a0_3 a0_3_A a0_3_n a0_3_c hm a0_0_h (Rd.drop 3 a0_0_R) a0_1_h (Rd.drop 3 a0_1_R) a0_2_h (Rd.drop 3 a0_2_R) a0_3_h (Rd.drop 3 a0_3_R) hb5)) rfl rfl (fun x9 w h => (h.drop 4)) (fun x9 => ?_)
          refine j_rs (.row x9.1.A x9.1.c 3 1 (ii v13) :: .row x9.2.1.A x9.2.1.c 3 1 (ii v14) :: .row x9.2.2.1.A x9.2.2.1.c 3 1 (ii v15) :: .row x9.2.2.2.A x9.2.2.2.c 3 1 (ii v16) :: .box x3 27 [(.slice none 0 0), (.slice none 0 0), (.slice none 0 0), (.slice none 0 0)] :: .box x2 29 [(i6 a1_0), (i6 a1_1), (i6 a1_2)] :: .box x1 27 [(.slice a0_0_A a0_0_n a0_0_c), (.slice a0_1_A a0_1_n a0_1_c), (.slice a0_2_A a0_2_n a0_2_c), (.slice a0_3_A a0_3_n a0_3_c)] :: F) (fun _ h => h) ?_
          refine j_env [(4, (pt x3)), (30, (.agg (List.toArray [(.slice x9.1.A x9.1.n x9.1.c), (.slice x9.2.1.A x9.2.1.n x9.2.1.c), (.slice x9.2.2.1.A x9.2.2.1.n x9.2.2.1.c), (.slice x9.2.2.2.A x9.2.2.2.n x9.2.2.2.c)]))), (31, (.agg (List.toArray [(i6 a1_0), (i6 a1_1), (i6 a1_2)])))] ⟨rfl, rfl, rfl, trivial⟩ ?_
          exact hD7 x9
        · refine o_do rfl (a_alloc zr27 rfl) rfl rfl (fun x11 w h => h.tail) (fun x11 => ?_)
          refine j_rs (.box x11 27 [(.slice none 0 0), (.slice none 0 0), (.slice none 0 0), (.slice none 0 0)] :: .box x3 27 [(.slice none 0 0), (.slice none 0 0), (.slice none 0 0), (.slice none 0 0)] :: .box x2 29 [(i6 a1_0), (i6 a1_1), (i6 a1_2)] :: .box x1 27 [(.slice a0_0_A a0_0_n a0_0_c), (.slice a0_1_A a0_1_n a0_1_c), (.slice a0_2_A a0_2_n a0_2_c), (.slice a0_3_A a0_3_n a0_3_c)] :: F) (fun _ h => h) ?_
          refine j_env [(4, (pt x3)), (7, (pt x11)), (29, (.agg (List.toArray [(.slice a0_0_A a0_0_n a0_0_c), (.slice a0_1_A a0_1_n a0_1_c), (.slice a0_2_A a0_2_n a0_2_c), (.slice a0_3_A a0_3_n a0_3_c)]))), (31, (.agg (List.toArray [(i6 a1_0), (i6 a1_1), (i6 a1_2)])))] ⟨rfl, rfl, rfl, rfl, trivial⟩ ?_
          exact hD133 x11
    · refine j_true rfl (not_t (var_f c2)) ?_
      refine j_seq ?_
      refine j_region ?_
      refine r_q (q_build (cs := [(.slice none 0 0), (.slice none 0 0), (.slice none 0 0), (.slice none 0 0)]) zr27 pl27 rfl rfl rfl rfl) rfl rfl ?_
      refine r_do (a_storeb 0 rfl sz27 rfl rfl rfl rfl (Nat.le_of_ble_eq_true rfl) rfl) rfl rfl (fun _ => ?_)
      refine j_b0 [(.slice none 0 0), (.slice none 0 0), (.slice none 0 0), (.slice none 0 0)] rfl ?_
      refine r_q (q_assign rfl rfl) rfl rfl ?_
      refine r_q (q_assign rfl rfl) rfl rfl ?_
      refine r_nil ?_
      refine j_then ?_
      refine j_ret ?_
      refine j_then_ret ?_
      refine j_nil 3 1 ?_
      refine j_nil 3 1 ?_
      refine j_nil 3 1 ?_
      refine j_nil 3 1 ?_
      cases h
      exact j_return rfl (ResOf.cell 4 rfl rfl ag27 sz27 (ResOf.tmp rfl (ResOf.tmp rfl ResOf.nil))) rfl (fun w h => ⟨(⟨none, 0, 0, rfl⟩, ⟨none, 0, 0, rfl⟩, ⟨none, 0, 0, rfl⟩, ⟨none, 0, 0, rfl⟩), rfl, h.pick 7 [3, 2, 1, 0] rfl⟩)
  · refine r_off rfl rfl rfl rfl (not_t (var_f c1)) rfl ?_
    refine r_off rfl rfl rfl rfl (not_t (var_f c1)) rfl ?_
    refine r_off rfl rfl rfl rfl (not_t (var_f c1)) rfl ?_
    refine r_off rfl rfl rfl rfl (not_t (var_f c1)) rfl ?_
    refine r_off rfl rfl rfl rfl (not_t (var_f c1)) rfl ?_
    refine r_off rfl rfl rfl rfl (not_t (var_f c1)) rfl ?_
    refine r_off rfl rfl rfl rfl (not_t (var_f c1)) rfl ?_
    refine r_q (q_pick_t rfl rfl (not_t (var_f c1)) rfl) rfl rfl ?_
    refine r_nil ?_
    refine j_then ?_
    refine j_true rfl rfl ?_
    refine j_seq ?_
    refine j_region ?_
    refine r_q (q_build (cs := [(.slice none 0 0), (.slice none 0 0), (.slice none 0 0), (.slice none 0 0)]) zr27 pl27 rfl rfl rfl rfl) rfl rfl ?_
    refine r_do (a_storeb 0 rfl sz27 rfl rfl rfl rfl (Nat.le_of_ble_eq_true rfl) rfl) rfl rfl (fun _ => ?_)
    refine j_b0 [(.slice none 0 0), (.slice none 0 0), (.slice none 0 0), (.slice none 0 0)] rfl ?_
    refine r_q (q_assign rfl rfl) rfl rfl ?_
    refine r_q (q_assign rfl rfl) rfl rfl ?_
    refine r_nil ?_
    refine j_then ?_
    refine j_ret ?_
    refine j_then_ret ?_
    refine j_nil 3 1 ?_
    refine j_nil 3 1 ?_
    refine j_nil 3 1 ?_
    refine j_nil 3 1 ?_
    cases h
    exact j_return rfl (ResOf.cell 4 rfl rfl ag27 sz27 (ResOf.tmp rfl (ResOf.tmp rfl ResOf.nil))) rfl (fun w h => ⟨(⟨none, 0, 0, rfl⟩, ⟨none, 0, 0, rfl⟩, ⟨none, 0, 0, rfl⟩, ⟨none, 0, 0, rfl⟩), rfl, h.pick 7 [3, 2, 1, 0] rfl⟩)

theorem slices_Equal_int.calls (K : Nat) (a0 : List Int) (a0_A : Option Addr) (a0_n a0_c : Nat) (a1 : List Int) (a1_A : Option Addr) (a1_n a1_c : Nat) {w0 w : World} {F : List Res} {r1 : Bool} (hm : Mem w0 (F) w) (a0_h : a0.length = a0_n) (a0_R : Rd w0 F a0_A (ii a0)) (a1_h : a1.length = a1_n) (a1_R : Rd w0 F a1_A (ii a1)) (h : slices_Equal_int.f K a0 a1 = some r1) :
    Calls Try.prog 24 (List.toArray [.slice a0_A a0_n a0_c, .slice a1_A a1_n a1_c]) w fun e w' => ∃ x : Unit, e = .returned (.bool r1) ∧ Mem w0 (F) w' := by
  unfold slices_Equal_int.f at h
  refine calls_of_J (n := 26) Try.func24 rfl rfl rfl hm ?_
  refine j_seq ?_
  refine j_region ?_
  refine r_q (q_assign rfl rfl) rfl rfl ?_
  refine r_nil ?_
  refine j_then ?_
  refine j_seq ?_
  refine j_seq ?_
  refine j_region ?_
  refine r_q (q_move rfl rfl) rfl rfl ?_
  refine r_q (q_lenX a0 a0_h un23 rfl rfl rfl rfl rfl) rfl rfl ?_
  refine r_q (q_move rfl rfl) rfl rfl ?_
  refine r_q (q_lenX a1 a1_h un23 rfl rfl rfl rfl rfl) rfl rfl ?_
  refine r_q (q_neq rfl rfl rfl) rfl rfl ?_
  refine r_nil ?_
  refine j_then ?_
  rcases of_if h with ⟨c1, h⟩ | ⟨c1, h⟩
  · refine j_false rfl (bne_f c1) ?_
    refine j_skip ?_
    refine j_then ?_
    refine j_seq ?_
    refine j_seq ?_
    refine j_region ?_
    refine r_q (q_move rfl rfl) rfl rfl ?_
    refine r_q (q_lenX a0 a0_h un23 rfl rfl rfl rfl rfl) rfl rfl ?_
    refine r_q (q_move rfl rfl) rfl rfl ?_
    refine r_nil ?_
    refine j_then ?_
    obtain ⟨κ0, h, hκ0⟩ := ex_k (g := fun κ => slices_Equal_int.loop0 K κ a0 a1 K (0:Int) = some r1) h
    refine j_cut (σ := Unit) (fun s => []) (fun s => F) (fun s => κ0 () = some r1) ?_ ?_
    · refine j_block ?_
      refine j_loop (σ := Int) (fun s => [(0, (.slice a0_A a0_n a0_c)), (1, (.slice a1_A a1_n a1_c)), (12, (i6 (a0.length : Int))), (13, (i6 s))]) (fun s => F) (fun m s => slices_Equal_int.loop0 K κ0 a0 a1 m s = some r1) K (0:Int) h (fun a he => he.sub ⟨rfl, rfl, rfl, rfl, trivial⟩) (fun w h => h) ?_
      rintro m p2 h
      cases m with
      | zero => exact absurd h (by rw [slices_Equal_int.loop0]; exact nofun)
      | succ m =>
        rw [slices_Equal_int.loop0] at h
        show J _ _ [(0, (.slice a0_A a0_n a0_c)), (1, (.slice a1_A a1_n a1_c)), (12, (i6 (a0.length : Int))), (13, (i6 p2))] _ (F)
        refine j_seq ?_
        refine j_region ?_
        refine r_q (q_lss rfl rfl rfl) rfl rfl ?_
        refine r_nil ?_
        refine j_then ?_
        refine j_seq ?_
        rcases of_if h with ⟨c14, h⟩ | ⟨c14, h⟩
        · refine j_true rfl (decide_eq_true c14) ?_
          refine j_skip ?_
          refine j_then ?_
          refine j_seq ?_
          refine j_block ?_
          refine j_seq ?_
          refine j_region ?_
          refine r_q (q_move rfl rfl) rfl rfl ?_
          refine r_q (q_assign rfl rfl) rfl rfl ?_
          refine r_nil ?_
          refine j_then ?_
          refine j_seq ?_
          obtain ⟨c15, h⟩ := of_guard h
          obtain ⟨c16, h⟩ := of_guard h
          refine j_draw (F) 9 follows_any rfl ?_
          refine d_take 0 rfl (q_move rfl rfl) rfl rfl (by kernel_rfl) (by kernel_rfl) (by kernel_rfl) (fun w h => h) ?_
          refine d_take 1 rfl (q_move rfl rfl) rfl rfl (by kernel_rfl) (by kernel_rfl) (by kernel_rfl) (fun w h => h) ?_
          refine d_take 2 rfl (q_ix a0_R (ints_len1 _ a0) (by decide) a0_h c15 un23 sz3 rfl rfl rfl) rfl rfl (by kernel_rfl) (by kernel_rfl) (by kernel_rfl) (fun w h => h) ?_
          refine d_take 3 rfl (q_ldI a0_R c15 ag3 rfl rfl) rfl rfl (by kernel_rfl) (by kernel_rfl) (by kernel_rfl) (fun w h => h) ?_
          refine d_take 4 rfl (q_move rfl rfl) rfl rfl (by kernel_rfl) (by kernel_rfl) (by kernel_rfl) (fun w h => h) ?_
          refine d_take 5 rfl (q_move rfl rfl) rfl rfl (by kernel_rfl) (by kernel_rfl) (by kernel_rfl) (fun w h => h) ?_
          refine d_take 6 rfl (q_ix a1_R (ints_len1 _ a1) (by decide) a1_h c16 un23 sz3 rfl rfl rfl) rfl rfl (by kernel_rfl) (by kernel_rfl) (by kernel_rfl) (fun w h => h) ?_
          refine d_take 7 rfl (q_ldI a1_R c16 ag3 rfl rfl) rfl rfl (by kernel_rfl) (by kernel_rfl) (by kernel_rfl) (fun w h => h) ?_
          refine d_take 8 rfl (q_neq rfl rfl rfl) rfl rfl (by kernel_rfl) (by kernel_rfl) (by kernel_rfl) (fun w h => h) ?_
          refine d_done (by kernel_rfl) ?_
          refine j_then ?_
          rcases of_if h with ⟨c17, h⟩ | ⟨c17, h⟩
          · refine j_false rfl (bne_f c17) ?_
            refine j_skip ?_
            refine j_in ?_
            refine j_then ?_
            refine j_region ?_
            refine r_q (q_add rfl rfl rfl) rfl rfl ?_
            refine r_q (q_move rfl rfl) rfl rfl ?_
            refine r_nil ?_
            refine j_then ?_
            exact j_again m (wrap64 (p2 + (1:Int))) (Nat.lt_succ_self m) h (fun a he => he.sub ⟨rfl, rfl, rfl, rfl, trivial⟩) (fun w h => h)
          · refine j_true rfl (bne_t c17) ?_
            refine j_seq ?_
            refine j_region ?_
            refine r_q (q_assign rfl rfl) rfl rfl ?_
            refine r_nil ?_
            refine j_then ?_
            refine j_ret ?_
            refine j_in_ret ?_
            refine j_then_ret ?_
            refine j_then_ret ?_
            refine j_in_ret ?_
            refine j_then_ret ?_
            refine j_then_ret ?_
            cases h
            exact j_return rfl (ResOf.tmp rfl ResOf.nil) rfl (fun w h => ⟨(), rfl, h⟩)
        · refine j_false rfl (decide_eq_false c14) ?_
          refine j_exit ?_
          refine j_then_exit ?_
          refine j_then_exit ?_
          refine j_in_exit ?_
          refine j_then ?_
          exact j_meet () h (fun a he => he.sub trivial) (fun w h => h)
    · rintro _ h
      subst hκ0
      show J _ _ [] _ (F)
      refine j_then ?_
      refine j_seq ?_
      refine j_region ?_
      refine r_q (q_assign rfl rfl) rfl rfl ?_
      refine r_nil ?_
      refine j_then ?_
      refine j_ret ?_
      cases h
      exact j_return rfl (ResOf.tmp rfl ResOf.nil) rfl (fun w h => ⟨(), rfl, h⟩)
  · refine j_true rfl (bne_t c1) ?_
    refine j_seq ?_
    refine j_region ?_
    refine r_q (q_assign rfl rfl) rfl rfl ?_
    refine r_nil ?_
    refine j_then ?_
    refine j_ret ?_
    refine j_then_ret ?_
    cases h
    exact j_return rfl (ResOf.tmp rfl ResOf.nil) rfl (fun w h => ⟨(), rfl, h⟩)

theorem impl_HeapSame.calls (K : Nat) (a0_0 : List Int) (a0_0_A : Option Addr) (a0_0_n a0_0_c : Nat) (a0_1 : List Int) (a0_1_A : Option Addr) (a0_1_n a0_1_c : Nat) (a0_2 : List Int) (a0_2_A : Option Addr) (a0_2_n a0_2_c : Nat) (a1_0 : List Int) (a1_0_A : Option Addr) (a1_0_n a1_0_c : Nat) (a1_1 : List Int) (a1_1_A : Option Addr) (a1_1_n a1_1_c : Nat) (a1_2 : List Int) (a1_2_A : Option Addr) (a1_2_n a1_2_c : Nat) {w0 w : World} {F : List Res} {r1 : Bool} (hm : Mem w0 (F) w) (a0_0_h : a0_0.length = a0_0_n) (a0_0_R : Rd w0 F a0_0_A (ii a0_0)) (a0_1_h : a0_1.length = a0_1_n) (a0_1_R : Rd w0 F a0_1_A (ii a0_1)) (a0_2_h : a0_2.length = a0_2_n) (a0_2_R : Rd w0 F a0_2_A (ii a0_2)) (a1_0_h : a1_0.length = a1_0_n) (a1_0_R : Rd w0 F a1_0_A (ii a1_0)) (a1_1_h : a1_1.length = a1_1_n) (a1_1_R : Rd w0 F a1_1_A (ii a1_1)) (a1_2_h : a1_2.length = a1_2_n) (a1_2_R : Rd w0 F a1_2_A (ii a1_2)) (h : impl_HeapSame.f K a0_0 a0_1 a0_2 a1_0 a1_1 a1_2 = some r1) :
    Calls Try.prog 23 (List.toArray [.agg (List.toArray [.slice a0_0_A a0_0_n a0_0_c, .slice a0_1_A a0_1_n a0_1_c, .slice a0_2_A a0_2_n a0_2_c]), .agg (List.toArray [.slice a1_0_A a1_0_n a1_0_c, .slice a1_1_A a1_1_n a1_1_c, .slice a1_2_A a1_2_n a1_2_c])]) w fun e w' => ∃ x : Unit, e = .returned (.bool r1) ∧ Mem w0 (F) w' := by
  unfold impl_HeapSame.f at h
  refine calls_of_J (n := 24) Try.func23 rfl rfl rfl hm ?_
  refine j_seq ?_
  refine j_region ?_
  refine r_do (a_box rfl rfl) rfl rfl (fun x1 => ?_)
  refine r_do (a_box rfl rfl) rfl rfl (fun x2 => ?_)
  refine r_q (q_assign rfl rfl) rfl rfl ?_
  refine r_nil ?_
  refine j_then ?_
  refine j_seq ?_
  refine j_region ?_
  refine r_q (q_fieldAddr fi25_0 sz23 rfl rfl rfl) rfl rfl ?_
  refine r_q (q_loadb 1 rfl ag23 rfl rfl rfl) rfl rfl ?_
  refine r_q (q_fieldAddr fi25_0 sz23 rfl rfl rfl) rfl rfl ?_
  refine r_q (q_loadb 0 rfl ag23 rfl rfl rfl) rfl rfl ?_
  obtain ⟨v1, hb1, h⟩ := of_b1 h
  refine r_do (a_call ok24 rfl rfl rfl rfl (fun w hm => slices_Equal_int.calls K a0_0 a0_0_A a0_0_n a0_0_c a1_0 a1_0_A a1_0_n a1_0_c hm a0_0_h (Rd.drop 2 a0_0_R) a1_0_h (Rd.drop 2 a1_0_R) hb1)) rfl rfl (fun x3 => ?_)
  refine r_q (q_move rfl rfl) rfl rfl ?_
  rcases of_if h with ⟨c1, h⟩ | ⟨c1, h⟩
  · refine r_qon (q_fieldAddr fi25_1 sz23 rfl rfl rfl) rfl rfl rfl rfl c1 rfl ?_
    refine r_qon (q_loadb 1 rfl ag23 rfl rfl rfl) rfl rfl rfl rfl c1 rfl ?_
    refine r_qon (q_fieldAddr fi25_1 sz23 rfl rfl rfl) rfl rfl rfl rfl c1 rfl ?_
    refine r_qon (q_loadb 0 rfl ag23 rfl rfl rfl) rfl rfl rfl rfl c1 rfl ?_
    obtain ⟨v2, hb2, h⟩ := of_b1 h
    refine r_on (a_call ok24 rfl rfl rfl rfl (fun w hm => slices_Equal_int.calls K a0_1 a0_1_A a0_1_n a0_1_c a1_1 a1_1_A a1_1_n a1_1_c hm a0_1_h (Rd.drop 2 a0_1_R) a1_1_h (Rd.drop 2 a1_1_R) hb2)) rfl rfl rfl rfl c1 rfl (fun x4 => ?_)
    refine r_q (q_pick_t rfl rfl c1 rfl) rfl rfl ?_
    refine r_q (q_move rfl rfl) rfl rfl ?_
    rcases of_if h with ⟨c2, h⟩ | ⟨c2, h⟩
    · refine r_qon (q_fieldAddr fi25_2 sz23 rfl rfl rfl) rfl rfl rfl rfl c2 rfl ?_
      refine r_qon (q_loadb 1 rfl ag23 rfl rfl rfl) rfl rfl rfl rfl c2 rfl ?_
      refine r_qon (q_fieldAddr fi25_2 sz23 rfl rfl rfl) rfl rfl rfl rfl c2 rfl ?_
      refine r_qon (q_loadb 0 rfl ag23 rfl rfl rfl) rfl rfl rfl rfl c2 rfl ?_
      obtain ⟨v3, hb3, h⟩ := of_b1 h
      refine r_on (a_call ok24 rfl rfl rfl rfl (fun w hm => slices_Equal_int.calls K a0_2 a0_2_A a0_2_n a0_2_c a1_2 a1_2_A a1_2_n a1_2_c hm a0_2_h (Rd.drop 2 a0_2_R) a1_2_h (Rd.drop 2 a1_2_R) hb3)) rfl rfl rfl rfl c2 rfl (fun x5 => ?_)
      refine r_q (q_pick_t rfl rfl c2 rfl) rfl rfl ?_
      refine r_q (q_assign rfl rfl) rfl rfl ?_
      refine r_nil ?_
      refine j_then ?_
      refine j_ret ?_
      cases h
      exact j_return rfl (ResOf.tmp rfl ResOf.nil) rfl (fun w h => ⟨(), rfl, (h.drop 2)⟩)
    · refine r_off rfl rfl rfl rfl (var_f c2) rfl ?_
      refine r_off rfl rfl rfl rfl (var_f c2) rfl ?_
      refine r_off rfl rfl rfl rfl (var_f c2) rfl ?_
      refine r_off rfl rfl rfl rfl (var_f c2) rfl ?_
      refine r_off rfl rfl rfl rfl (var_f c2) rfl ?_
      refine r_q (q_pick_f rfl rfl (var_f c2) rfl) rfl rfl ?_
      refine r_q (q_assign rfl rfl) rfl rfl ?_
      refine r_nil ?_
      refine j_then ?_
      refine j_ret ?_
      cases h
      exact j_return rfl (ResOf.tmp rfl ResOf.nil) rfl (fun w h => ⟨(), rfl, (h.drop 2)⟩)
  · refine r_off rfl rfl rfl rfl (var_f c1) rfl ?_
    refine r_off rfl rfl rfl rfl (var_f c1) rfl ?_
    refine r_off rfl rfl rfl rfl (var_f c1) rfl ?_
    refine r_off rfl rfl rfl rfl (var_f c1) rfl ?_
    refine r_off rfl rfl rfl rfl (var_f c1) rfl ?_
    refine r_q (q_pick_f rfl rfl (var_f c1) rfl) rfl rfl ?_
    refine r_q (q_move rfl rfl) rfl rfl ?_
    refine r_off rfl rfl rfl rfl rfl rfl ?_
    refine r_off rfl rfl rfl rfl rfl rfl ?_
    refine r_off rfl rfl rfl rfl rfl rfl ?_
    refine r_off rfl rfl rfl rfl rfl rfl ?_
    refine r_off rfl rfl rfl rfl rfl rfl ?_
    refine r_q (q_pick_f rfl rfl rfl rfl) rfl rfl ?_
    refine r_q (q_assign rfl rfl) rfl rfl ?_
    refine r_nil ?_
    refine j_then ?_
    refine j_ret ?_
    cases h
    exact j_return rfl (ResOf.tmp rfl ResOf.nil) rfl (fun w h => ⟨(), rfl, (h.drop 2)⟩)

theorem impl_StoreSame.calls (K : Nat) (a0_0 : List Int) (a0_0_A : Option Addr) (a0_0_n a0_0_c : Nat) (a0_1 : List Int) (a0_1_A : Option Addr) (a0_1_n a0_1_c : Nat) (a0_2 : List Int) (a0_2_A : Option Addr) (a0_2_n a0_2_c : Nat) (a0_3 : List Int) (a0_3_A : Option Addr) (a0_3_n a0_3_c : Nat) (a1_0 : List Int) (a1_0_A : Option Addr) (a1_0_n a1_0_c : Nat) (a1_1 : List Int) (a1_1_A : Option Addr) (a1_1_n a1_1_c : Nat) (a1_2 : List Int) (a1_2_A : Option Addr) (a1_2_n a1_2_c : Nat) (a1_3 : List Int) (a1_3_A : Option Addr) (a1_3_n a1_3_c : Nat) {w0 w : World} {F : List Res} {r1 : Bool} (hm : Mem w0 (F) w) (a0_0_h : a0_0.length = a0_0_n) (a0_0_R : Rd w0 F a0_0_A (ii a0_0)) (a0_1_h : a0_1.length = a0_1_n) (a0_1_R : Rd w0 F a0_1_A (ii a0_1)) (a0_2_h : a0_2.length = a0_2_n) (a0_2_R : Rd w0 F a0_2_A (ii a0_2)) (a0_3_h : a0_3.length = a0_3_n) (a0_3_R : Rd w0 F a0_3_A (ii a0_3)) (a1_0_h : a1_0.length = a1_0_n) (a1_0_R : Rd w0 F a1_0_A (ii a1_0)) (a1_1_h : a1_1.length = a1_1_n) (a1_1_R : Rd w0 F a1_1_A (ii a1_1)) (a1_2_h : a1_2.length = a1_2_n) (a1_2_R : Rd w0 F a1_2_A (ii a1_2)) (a1_3_h : a1_3.length = a1_3_n) (a1_3_R : Rd w0 F a1_3_A (ii a1_3)) (h : impl_StoreSame.f K a0_0 a0_1 a0_2 a0_3 a1_0 a1_1 a1_2 a1_3 = some r1) :
    Calls Try.prog 9 (List.toArray [.agg (List.toArray [.slice a0_0_A a0_0_n a0_0_c, .slice a0_1_A a0_1_n a0_1_c, .slice a0_2_A a0_2_n a0_2_c, .slice a0_3_A a0_3_n a0_3_c]), .agg (List.toArray [.slice a1_0_A a1_0_n a1_0_c, .slice a1_1_A a1_1_n a1_1_c, .slice a1_2_A a1_2_n a1_2_c, .slice a1_3_A a1_3_n a1_3_c])]) w fun e w' => ∃ x : Unit, e = .returned (.bool r1) ∧ Mem w0 (F) w' := by
  unfold impl_StoreSame.f at h
  refine calls_of_J (n := 17) Try.func9 rfl rfl rfl hm ?_
  refine j_seq ?_
  refine j_region ?_
  refine r_do (a_box rfl rfl) rfl rfl (fun x1 => ?_)
  refine r_do (a_box rfl rfl) rfl rfl (fun x2 => ?_)
  refine r_q (q_assign rfl rfl) rfl rfl ?_
  refine r_nil ?_
  refine j_then ?_
  refine j_seq ?_
  refine j_region ?_
  refine r_q (q_fieldAddr fi27_0 sz25 rfl rfl rfl) rfl rfl ?_
  refine r_q (q_loadb_agg 1 rfl ag25 sz25 rfl rfl rfl rfl) rfl rfl ?_
  refine r_q (q_fieldAddr fi27_0 sz25 rfl rfl rfl) rfl rfl ?_
  refine r_q (q_loadb_agg 0 rfl ag25 sz25 rfl rfl rfl rfl) rfl rfl ?_
  obtain ⟨v1, hb1, h⟩ := of_b1 h
  refine r_do (a_call ok23 rfl rfl rfl rfl (fun w hm => impl_HeapSame.calls K a0_0 a0_0_A a0_0_n a0_0_c a0_1 a0_1_A a0_1_n a0_1_c a0_2 a0_2_A a0_2_n a0_2_c a1_0 a1_0_A a1_0_n a1_0_c a1_1 a1_1_A a1_1_n a1_1_c a1_2 a1_2_A a1_2_n a1_2_c hm a0_0_h (Rd.drop 2 a0_0_R) a0_1_h (Rd.drop 2 a0_1_R) a0_2_h (Rd.drop 2 a0_2_R) a1_0_h (Rd.drop 2 a1_0_R) a1_1_h (Rd.drop 2 a1_1_R) a1_2_h (Rd.drop 2 a1_2_R) hb1)) rfl rfl (fun x3 => ?_)
  refine r_q (q_move rfl rfl) rfl rfl ?_
  rcases of_if h with ⟨c1, h⟩ | ⟨c1, h⟩
  · refine r_qon (q_fieldAddr fi27_1 sz23 rfl rfl rfl) rfl rfl rfl rfl c1 rfl ?_
    refine r_qon (q_loadb 1 rfl ag23 rfl rfl rfl) rfl rfl rfl rfl c1 rfl ?_
    refine r_qon (q_fieldAddr fi27_1 sz23 rfl rfl rfl) rfl rfl rfl rfl c1 rfl ?_
    refine r_qon (q_loadb 0 rfl ag23 rfl rfl rfl) rfl rfl rfl rfl c1 rfl ?_
    obtain ⟨v2, hb2, h⟩ := of_b1 h
    refine r_on (a_call ok24 rfl rfl rfl rfl (fun w hm => slices_Equal_int.calls K a0_3 a0_3_A a0_3_n a0_3_c a1_3 a1_3_A a1_3_n a1_3_c hm a0_3_h (Rd.drop 2 a0_3_R) a1_3_h (Rd.drop 2 a1_3_R) hb2)) rfl rfl rfl rfl c1 rfl (fun x4 => ?_)
    refine r_q (q_pick_t rfl rfl c1 rfl) rfl rfl ?_
    refine r_q (q_assign rfl rfl) rfl rfl ?_
    refine r_nil ?_
    refine j_then ?_
    refine j_ret ?_
    cases h
    exact j_return rfl (ResOf.tmp rfl ResOf.nil) rfl (fun w h => ⟨(), rfl, (h.drop 2)⟩)
  · refine r_off rfl rfl rfl rfl (var_f c1) rfl ?_
    refine r_off rfl rfl rfl rfl (var_f c1) rfl ?_
    refine r_off rfl rfl rfl rfl (var_f c1) rfl ?_
    refine r_off rfl rfl rfl rfl (var_f c1) rfl ?_
    refine r_off rfl rfl rfl rfl (var_f c1) rfl ?_
    refine r_q (q_pick_f rfl rfl (var_f c1) rfl) rfl rfl ?_
    refine r_q (q_assign rfl rfl) rfl rfl ?_
    refine r_nil ?_
    refine j_then ?_
    refine j_ret ?_
    cases h
    exact j_return rfl (ResOf.tmp rfl ResOf.nil) rfl (fun w h => ⟨(), rfl, (h.drop 2)⟩)

end Go.Proofs.Ytnfaiojmabolmaa.F
