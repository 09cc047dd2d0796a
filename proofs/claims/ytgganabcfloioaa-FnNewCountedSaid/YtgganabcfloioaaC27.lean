/- The program computes these pure functions, printed by the generator of wip/gen. -/
import Derived.Test.YtgganabcfloioaaFa
import Derived.Test.YtgganabcfloioaaFh
import Derived.Test.YtgganabcfloioaaFb
import Derived.Test.YtgganabcfloioaaC0
import Derived.Test.YtgganabcfloioaaC1
import Derived.Test.YtgganabcfloioaaC2
import Derived.Test.YtgganabcfloioaaC4
import Derived.Test.YtgganabcfloioaaC6
import Derived.Test.YtgganabcfloioaaC7
import Derived.Test.YtgganabcfloioaaC11
import Derived.Test.YtgganabcfloioaaC12
namespace Go.Proofs.Ytgganabcfloioaa.F
open Go Go.RowKit Go.Proofs.Ytgganabcfloioaa.S
set_option linter.unusedVariables false
set_option maxRecDepth 100000
theorem spec_AllocCell.calls (K : Nat) (a0_0 : List Int) (a0_0_A : Option Addr) (a0_0_n a0_0_c : Nat) (a0_1 : List Int) (a0_1_A : Option Addr) (a0_1_n a0_1_c : Nat) (a0_2 : List Int) (a0_2_A : Option Addr) (a0_2_n a0_2_c : Nat) (a0_3 : List Int) (a0_3_A : Option Addr) (a0_3_n a0_3_c : Nat) (a1 : Int) {w0 w : World} {F : List Res} {r1 : List Int} {r2 : List Int} {r3 : List Int} {r4 : List Int} {r5 : Int} {r6 : Bool} (hm : Mem w0 (F) w) (a0_0_h : a0_0.length = a0_0_n) (a0_0_R : Rd w0 F a0_0_A (ii a0_0)) (a0_1_h : a0_1.length = a0_1_n) (a0_1_R : Rd w0 F a0_1_A (ii a0_1)) (a0_2_h : a0_2.length = a0_2_n) (a0_2_R : Rd w0 F a0_2_A (ii a0_2)) (a0_3_h : a0_3.length = a0_3_n) (a0_3_R : Rd w0 F a0_3_A (ii a0_3)) (a0_3_k : a0_3.length ≤ a0_3_c) (h : spec_AllocCell.f K a0_0 a0_1 a0_2 a0_3 a1 = some (r1, r2, r3, r4, r5, r6)) :
    Calls Try.prog 100 (List.toArray [.agg (List.toArray [.slice a0_0_A a0_0_n a0_0_c, .slice a0_1_A a0_1_n a0_1_c, .slice a0_2_A a0_2_n a0_2_c, .slice a0_3_A a0_3_n a0_3_c]), i6 a1]) w fun e w' => ∃ x : (Sl r1.length) × (Sl r2.length) × (Sl r3.length) × (Sl r4.length), e = .returned (.tuple (List.toArray [.agg (List.toArray [.slice x.1.A x.1.n x.1.c, .slice x.2.1.A x.2.1.n x.2.1.c, .slice x.2.2.1.A x.2.2.1.n x.2.2.1.c, .slice x.2.2.2.A x.2.2.2.n x.2.2.2.c]), i6 r5, .bool r6])) ∧ Mem w0 (.row x.1.A x.1.c 3 1 (ii r1) :: .row x.2.1.A x.2.1.c 3 1 (ii r2) :: .row x.2.2.1.A x.2.2.1.c 3 1 (ii r3) :: .row x.2.2.2.A x.2.2.2.c 3 1 (ii r4) :: F) w' := by
  unfold spec_AllocCell.f at h
  refine calls_of_J (n := 51) Try.func100 rfl rfl rfl hm ?_
  refine j_seq ?_
  refine j_region ?_
  refine r_do (a_box rfl rfl) rfl rfl (fun x1 => ?_)
  refine r_do (a_alloc zr27 rfl) rfl rfl (fun x2 => ?_)
  refine r_q (q_assign rfl rfl) rfl rfl ?_
  refine r_q (q_assign rfl rfl) rfl rfl ?_
  refine r_nil ?_
  refine j_then ?_
  refine j_seq ?_
  refine j_seq ?_
  refine j_region ?_
  refine r_q (q_loadb_agg 1 rfl ag27 sz27 rfl rfl rfl rfl) rfl rfl ?_
  obtain ⟨v1, hb1, h⟩ := of_b1 h
  refine r_do (a_call ok60 rfl rfl rfl rfl (fun w hm => spec_StoreValid.calls K a0_0 a0_0_A a0_0_n a0_0_c a0_1 a0_1_A a0_1_n a0_1_c a0_2 a0_2_A a0_2_n a0_2_c a0_3 a0_3_A a0_3_n a0_3_c hm a0_0_h (Rd.drop 2 a0_0_R) a0_1_h (Rd.drop 2 a0_1_R) a0_2_h (Rd.drop 2 a0_2_R) a0_3_h (Rd.drop 2 a0_3_R) a0_3_k hb1)) rfl rfl (fun x3 => ?_)
  refine r_q (q_not rfl rfl) rfl rfl ?_
  refine r_q (q_move rfl rfl) rfl rfl ?_
  rcases of_if h with ⟨c1, h⟩ | ⟨c1, h⟩
  · refine r_qon (q_move rfl rfl) rfl rfl rfl rfl (not_f c1) rfl ?_
    refine r_qon (q_lss rfl rfl rfl) rfl rfl rfl rfl (not_f c1) rfl ?_
    refine r_q (q_pick_f rfl rfl (not_f c1) rfl) rfl rfl ?_
    refine r_q (q_move rfl rfl) rfl rfl ?_
    rcases of_if h with ⟨c2, h⟩ | ⟨c2, h⟩
    · refine r_off rfl rfl rfl rfl (decide_eq_true c2) rfl ?_
      refine r_off rfl rfl rfl rfl (decide_eq_true c2) rfl ?_
      refine r_off rfl rfl rfl rfl (decide_eq_true c2) rfl ?_
      refine r_off rfl rfl rfl rfl (decide_eq_true c2) rfl ?_
      refine r_off rfl rfl rfl rfl (decide_eq_true c2) rfl ?_
      refine r_off rfl rfl rfl rfl (decide_eq_true c2) rfl ?_
      refine r_q (q_pick_t rfl rfl (decide_eq_true c2) rfl) rfl rfl ?_
      refine r_q (q_move rfl rfl) rfl rfl ?_
      refine r_off rfl rfl rfl rfl rfl rfl ?_
      refine r_off rfl rfl rfl rfl rfl rfl ?_
      refine r_off rfl rfl rfl rfl rfl rfl ?_
      refine r_off rfl rfl rfl rfl rfl rfl ?_
      refine r_q (q_pick_t rfl rfl rfl rfl) rfl rfl ?_
      refine r_nil ?_
      refine j_then ?_
      refine j_true rfl rfl ?_
      refine j_seq ?_
      refine j_region ?_
      refine r_q (q_build (cs := [(.slice none 0 0), (.slice none 0 0), (.slice none 0 0), (.slice none 0 0)]) zr27 pl27 rfl rfl rfl rfl) rfl rfl ?_
      refine r_do (a_storeb 0 rfl sz27 rfl rfl rfl rfl (Nat.le_of_ble_eq_true rfl) rfl) rfl rfl (fun _ => ?_)
      refine j_b0 [(.slice none 0 0), (.slice none 0 0), (.slice none 0 0), (.slice none 0 0)] rfl ?_
      refine r_q (q_assign rfl rfl) rfl rfl ?_
      refine r_q (q_assign rfl rfl) rfl rfl ?_
      refine r_nil ?_
      refine j_then ?_
      refine j_ret ?_
      refine j_then_ret ?_
      refine j_nil 3 1 ?_
      refine j_nil 3 1 ?_
      refine j_nil 3 1 ?_
      refine j_nil 3 1 ?_
      cases h
      exact j_return rfl (ResOf.cell 4 rfl rfl ag27 sz27 (ResOf.tmp rfl (ResOf.tmp rfl ResOf.nil))) rfl (fun w h => ⟨(⟨none, 0, 0, rfl⟩, ⟨none, 0, 0, rfl⟩, ⟨none, 0, 0, rfl⟩, ⟨none, 0, 0, rfl⟩), rfl, h.pick 6 [3, 2, 1, 0] rfl⟩)
    · refine r_qon (q_move rfl rfl) rfl rfl rfl rfl (decide_eq_false c2) rfl ?_
      refine r_qon (q_fieldAddr fi27_0 sz25 rfl rfl rfl) rfl rfl rfl rfl (decide_eq_false c2) rfl ?_
      refine r_qon (q_fieldAddr fi25_2 sz23 rfl rfl rfl) rfl rfl rfl rfl (decide_eq_false c2) rfl ?_
      refine r_qon (q_loadb 1 rfl ag23 rfl rfl rfl) rfl rfl rfl rfl (decide_eq_false c2) rfl ?_
      refine r_qon (q_lenX a0_2 a0_2_h un23 rfl rfl rfl rfl rfl) rfl rfl rfl rfl (decide_eq_false c2) rfl ?_
      refine r_qon (q_geq rfl rfl rfl) rfl rfl rfl rfl (decide_eq_false c2) rfl ?_
      refine r_q (q_pick_f rfl rfl (decide_eq_false c2) rfl) rfl rfl ?_
      refine r_q (q_move rfl rfl) rfl rfl ?_
      rcases of_if h with ⟨c3, h⟩ | ⟨c3, h⟩
      · refine r_off rfl rfl rfl rfl (decide_eq_true c3) rfl ?_
        refine r_off rfl rfl rfl rfl (decide_eq_true c3) rfl ?_
        refine r_off rfl rfl rfl rfl (decide_eq_true c3) rfl ?_
        refine r_off rfl rfl rfl rfl (decide_eq_true c3) rfl ?_
        refine r_q (q_pick_t rfl rfl (decide_eq_true c3) rfl) rfl rfl ?_
        refine r_nil ?_
        refine j_then ?_
        refine j_true rfl rfl ?_
        refine j_seq ?_
        refine j_region ?_
        refine r_q (q_build (cs := [(.slice none 0 0), (.slice none 0 0), (.slice none 0 0), (.slice none 0 0)]) zr27 pl27 rfl rfl rfl rfl) rfl rfl ?_
        refine r_do (a_storeb 0 rfl sz27 rfl rfl rfl rfl (Nat.le_of_ble_eq_true rfl) rfl) rfl rfl (fun _ => ?_)
        refine j_b0 [(.slice none 0 0), (.slice none 0 0), (.slice none 0 0), (.slice none 0 0)] rfl ?_
        refine r_q (q_assign rfl rfl) rfl rfl ?_
        refine r_q (q_assign rfl rfl) rfl rfl ?_
        refine r_nil ?_
        refine j_then ?_
        refine j_ret ?_
        refine j_then_ret ?_
        refine j_nil 3 1 ?_
        refine j_nil 3 1 ?_
        refine j_nil 3 1 ?_
        refine j_nil 3 1 ?_
        cases h
        exact j_return rfl (ResOf.cell 4 rfl rfl ag27 sz27 (ResOf.tmp rfl (ResOf.tmp rfl ResOf.nil))) rfl (fun w h => ⟨(⟨none, 0, 0, rfl⟩, ⟨none, 0, 0, rfl⟩, ⟨none, 0, 0, rfl⟩, ⟨none, 0, 0, rfl⟩), rfl, h.pick 6 [3, 2, 1, 0] rfl⟩)
      · refine r_qon (q_fieldAddr fi27_1 sz23 rfl rfl rfl) rfl rfl rfl rfl (decide_eq_false c3) rfl ?_
        refine r_qon (q_loadb 1 rfl ag23 rfl rfl rfl) rfl rfl rfl rfl (decide_eq_false c3) rfl ?_
        refine r_qon (q_lenX a0_3 a0_3_h un23 rfl rfl rfl rfl rfl) rfl rfl rfl rfl (decide_eq_false c3) rfl ?_
        refine r_qon (q_eql rfl rfl rfl) rfl rfl rfl rfl (decide_eq_false c3) rfl ?_
        refine r_q (q_pick_f rfl rfl (decide_eq_false c3) rfl) rfl rfl ?_
        refine r_nil ?_
        refine j_then ?_
        rcases of_if h with ⟨c4, h⟩ | ⟨c4, h⟩
        · refine j_true rfl (beq_t c4) ?_
          refine j_seq ?_
          refine j_region ?_
          refine r_q (q_build (cs := [(.slice none 0 0), (.slice none 0 0), (.slice none 0 0), (.slice none 0 0)]) zr27 pl27 rfl rfl rfl rfl) rfl rfl ?_
          refine r_do (a_storeb 0 rfl sz27 rfl rfl rfl rfl (Nat.le_of_ble_eq_true rfl) rfl) rfl rfl (fun _ => ?_)
          refine j_b0 [(.slice none 0 0), (.slice none 0 0), (.slice none 0 0), (.slice none 0 0)] rfl ?_
          refine r_q (q_assign rfl rfl) rfl rfl ?_
          refine r_q (q_assign rfl rfl) rfl rfl ?_
          refine r_nil ?_
          refine j_then ?_
          refine j_ret ?_
          refine j_then_ret ?_
          refine j_nil 3 1 ?_
          refine j_nil 3 1 ?_
          refine j_nil 3 1 ?_
          refine j_nil 3 1 ?_
          cases h
          exact j_return rfl (ResOf.cell 4 rfl rfl ag27 sz27 (ResOf.tmp rfl (ResOf.tmp rfl ResOf.nil))) rfl (fun w h => ⟨(⟨none, 0, 0, rfl⟩, ⟨none, 0, 0, rfl⟩, ⟨none, 0, 0, rfl⟩, ⟨none, 0, 0, rfl⟩), rfl, h.pick 6 [3, 2, 1, 0] rfl⟩)
        · refine j_false rfl (beq_f c4) ?_
          refine j_skip ?_
          refine j_then ?_
          refine j_seq ?_
          refine j_region ?_
          refine r_q (q_loadb_agg 1 rfl ag27 sz27 rfl rfl rfl rfl) rfl rfl ?_
          obtain ⟨v2, v3, v4, v5, hb2, h⟩ := of_b4 h
          refine r_do (a_call ok67 rfl rfl rfl rfl (fun w hm => spec_l4Copy.calls K a0_0 a0_0_A a0_0_n a0_0_c a0_1 a0_1_A a0_1_n a0_1_c a0_2 a0_2_A a0_2_n a0_2_c a0_3 a0_3_A a0_3_n a0_3_c hm a0_0_h (Rd.drop 2 a0_0_R) a0_1_h (Rd.drop 2 a0_1_R) a0_2_h (Rd.drop 2 a0_2_R) a0_3_h (Rd.drop 2 a0_3_R) hb2)) rfl rfl (fun x4 => ?_)
          refine r_do (a_alloc zr27 rfl) rfl rfl (fun x5 => ?_)
          refine r_do (a_storeb 0 rfl sz27 rfl rfl rfl rfl (Nat.le_of_ble_eq_true rfl) rfl) rfl rfl (fun _ => ?_)
          refine j_b0 [(.slice x4.1.A x4.1.n x4.1.c), (.slice x4.2.1.A x4.2.1.n x4.2.1.c), (.slice x4.2.2.1.A x4.2.2.1.n x4.2.2.1.c), (.slice x4.2.2.2.A x4.2.2.2.n x4.2.2.2.c)] rfl ?_
          refine r_nil ?_
          refine j_then ?_
          refine j_seq ?_
          refine j_region ?_
          refine r_q (q_fieldAddr fi27_1 sz23 rfl rfl rfl) rfl rfl ?_
          refine r_q (q_loadb 6 rfl ag23 rfl rfl rfl) rfl rfl ?_
          obtain ⟨c5, h⟩ := of_guard h
          refine r_q (q_ix (Rd.drop 7 a0_3_R) (ints_len1 _ a0_3) (by decide) a0_3_h c5 un23 sz3 rfl rfl rfl) rfl rfl ?_
          refine r_q (q_ldI (Rd.drop 7 a0_3_R) c5 ag3 rfl rfl) rfl rfl ?_
          refine r_q (q_assign rfl rfl) rfl rfl ?_
          refine r_nil ?_
          refine j_then ?_
          refine j_seq ?_
          refine j_region ?_
          refine r_do (a_litX (vs := []) (ii ([] : List Int)) un23 sz3 zr3 rfl rfl rfl rfl rfl rfl rfl rfl rfl) rfl rfl (fun x6 => ?_)
          refine r_q (q_fieldAddr fi27_1 sz23 rfl rfl rfl) rfl rfl ?_
          refine r_q (q_loadb 7 rfl ag23 rfl rfl rfl) rfl rfl ?_
          obtain ⟨c6, h⟩ := of_guard h
          refine j_fact (fun w hm => a0_3_k) (fun k2 => ?_)
          refine r_q (q_lo a0_3 a0_3_h c6 un23 sz3 rfl rfl rfl) rfl rfl ?_
          obtain ⟨c7, h⟩ := of_guard h
          refine r_do (a_appI (xs := ([] : List Int)) (ys := (a0_3.drop (1:Int).toNat)) 0 un23 un23 sz3 by3 zr3 rfl rfl rfl rfl rfl rfl rfl rfl rfl rfl rfl (rd_loI (Rd.drop 8 a0_3_R) k2 (1:Int).toNat) c7) rfl rfl (fun x7 => ?_)
          refine j_s0 ?_
          refine r_q (q_fieldAddr fi27_1 sz23 rfl rfl rfl) rfl rfl ?_
          refine r_do (a_storeb 1 rfl sz23 rfl rfl rfl rfl (Nat.le_of_ble_eq_true rfl) rfl) rfl rfl (fun _ => ?_)
          refine j_b1 [(.slice x4.1.A x4.1.n x4.1.c), (.slice x4.2.1.A x4.2.1.n x4.2.1.c), (.slice x4.2.2.1.A x4.2.2.1.n x4.2.2.1.c), (.slice x7.1 (0 + (a0_3.drop (1:Int).toNat).length) x7.2)] rfl ?_
          refine r_nil ?_
          refine j_then ?_
          refine j_seq ?_
          refine j_region ?_
          refine r_q (q_fieldAddr fi27_0 sz25 rfl rfl rfl) rfl rfl ?_
          refine r_q (q_fieldAddr fi25_2 sz23 rfl rfl rfl) rfl rfl ?_
          refine r_q (q_loadb 1 rfl ag23 rfl rfl rfl) rfl rfl ?_
          refine r_q (q_move rfl rfl) rfl rfl ?_
          refine r_q (q_move rfl rfl) rfl rfl ?_
          obtain ⟨c8, h⟩ := of_guard h
          refine r_q (q_ix (Rd.row 4 rfl) (ints_len1 _ v4) (by decide) x4.2.2.1.h c8 un23 sz3 rfl rfl rfl) rfl rfl ?_
          refine r_do (a_stI 4 rfl c8 sz3 rfl rfl rfl) rfl rfl (fun _ => ?_)
          refine j_s4 ?_
          refine r_nil ?_
          refine j_then ?_
          refine j_seq ?_
          refine j_region ?_
          refine r_q (q_loadb_agg 1 rfl ag27 sz27 rfl rfl rfl rfl) rfl rfl ?_
          refine r_q (q_move rfl rfl) rfl rfl ?_
          refine r_do (a_storeb 6 rfl sz27 rfl rfl rfl rfl (Nat.le_of_ble_eq_true rfl) rfl) rfl rfl (fun _ => ?_)
          refine j_b6 [(.slice x4.1.A x4.1.n x4.1.c), (.slice x4.2.1.A x4.2.1.n x4.2.1.c), (.slice x4.2.2.1.A x4.2.2.1.n x4.2.2.1.c), (.slice x7.1 (0 + (a0_3.drop (1:Int).toNat).length) x7.2)] rfl ?_
          refine r_q (q_assign rfl rfl) rfl rfl ?_
          refine r_q (q_assign rfl rfl) rfl rfl ?_
          refine r_nil ?_
          refine j_then ?_
          refine j_ret ?_
          cases h
          exact j_return rfl (ResOf.cell 6 rfl rfl ag27 sz27 (ResOf.tmp rfl (ResOf.tmp rfl ResOf.nil))) rfl (fun w h => ⟨(⟨x4.1.A, x4.1.n, x4.1.c, x4.1.h⟩, ⟨x4.2.1.A, x4.2.1.n, x4.2.1.c, x4.2.1.h⟩, ⟨x4.2.2.1.A, x4.2.2.1.n, x4.2.2.1.c, (set_len x4.2.2.1.h _ _)⟩, ⟨x7.1, (0 + (a0_3.drop (1:Int).toNat).length), x7.2, (app_len rfl rfl)⟩), rfl, h.pick 8 [2, 3, 4, 0] rfl⟩)
  · refine r_off rfl rfl rfl rfl (not_t (var_f c1)) rfl ?_
    refine r_off rfl rfl rfl rfl (not_t (var_f c1)) rfl ?_
    refine r_q (q_pick_t rfl rfl (not_t (var_f c1)) rfl) rfl rfl ?_
    refine r_q (q_move rfl rfl) rfl rfl ?_
    refine r_off rfl rfl rfl rfl rfl rfl ?_
    refine r_off rfl rfl rfl rfl rfl rfl ?_
    refine r_off rfl rfl rfl rfl rfl rfl ?_
    refine r_off rfl rfl rfl rfl rfl rfl ?_
    refine r_off rfl rfl rfl rfl rfl rfl ?_
    refine r_off rfl rfl rfl rfl rfl rfl ?_
    refine r_q (q_pick_t rfl rfl rfl rfl) rfl rfl ?_
    refine r_q (q_move rfl rfl) rfl rfl ?_
    refine r_off rfl rfl rfl rfl rfl rfl ?_
    refine r_off rfl rfl rfl rfl rfl rfl ?_
    refine r_off rfl rfl rfl rfl rfl rfl ?_
    refine r_off rfl rfl rfl rfl rfl rfl ?_
    refine r_q (q_pick_t rfl rfl rfl rfl) rfl rfl ?_
    refine r_nil ?_
    refine j_then ?_
    refine j_true rfl rfl ?_
    refine j_seq ?_
    refine j_region ?_
    refine r_q (q_build (cs := [(.slice none 0 0), (.slice none 0 0), (.slice none 0 0), (.slice none 0 0)]) zr27 pl27 rfl rfl rfl rfl) rfl rfl ?_
    refine r_do (a_storeb 0 rfl sz27 rfl rfl rfl rfl (Nat.le_of_ble_eq_true rfl) rfl) rfl rfl (fun _ => ?_)
    refine j_b0 [(.slice none 0 0), (.slice none 0 0), (.slice none 0 0), (.slice none 0 0)] rfl ?_
    refine r_q (q_assign rfl rfl) rfl rfl ?_
    refine r_q (q_assign rfl rfl) rfl rfl ?_
    refine r_nil ?_
    refine j_then ?_
    refine j_ret ?_
    refine j_then_ret ?_
    refine j_nil 3 1 ?_
    refine j_nil 3 1 ?_
    refine j_nil 3 1 ?_
    refine j_nil 3 1 ?_
    cases h
    exact j_return rfl (ResOf.cell 4 rfl rfl ag27 sz27 (ResOf.tmp rfl (ResOf.tmp rfl ResOf.nil))) rfl (fun w h => ⟨(⟨none, 0, 0, rfl⟩, ⟨none, 0, 0, rfl⟩, ⟨none, 0, 0, rfl⟩, ⟨none, 0, 0, rfl⟩), rfl, h.pick 6 [3, 2, 1, 0] rfl⟩)

theorem spec_l4Draw.calls (K : Nat) (a0_g : Nat) (a0_0 : List Int) (a0_0_A : Option Addr) (a0_0_n a0_0_c : Nat) (a0_1 : Int) {w0 w : World} {F : List Res} {r1 : List Int} {r2 : List Int} {r3 : List Int} {r4 : List Int} {r5 : Int} (hm : Mem w0 (.box a0_g 84 [.slice a0_0_A a0_0_n a0_0_c, i6 a0_1] :: F) w) (a0_0_h : a0_0.length = a0_0_n) (a0_0_R : Rd w0 F a0_0_A (ints .u8 a0_0)) (h : spec_l4Draw.f K a0_0 a0_1 = some (r1, r2, r3, r4, r5)) :
    Calls Try.prog 97 (List.toArray [pt a0_g]) w fun e w' => ∃ x : (Sl r1.length) × (Sl r2.length) × (Sl r3.length) × (Sl r4.length), e = .returned (.agg (List.toArray [.slice x.1.A x.1.n x.1.c, .slice x.2.1.A x.2.1.n x.2.1.c, .slice x.2.2.1.A x.2.2.1.n x.2.2.1.c, .slice x.2.2.2.A x.2.2.2.n x.2.2.2.c])) ∧ Mem w0 (.row x.1.A x.1.c 3 1 (ii r1) :: .row x.2.1.A x.2.1.c 3 1 (ii r2) :: .row x.2.2.1.A x.2.2.1.c 3 1 (ii r3) :: .row x.2.2.2.A x.2.2.2.c 3 1 (ii r4) :: .box a0_g 84 [.slice a0_0_A a0_0_n a0_0_c, i6 r5] :: F) w' := by
  unfold spec_l4Draw.f at h
  refine calls_of_J (n := 102) Try.func97 rfl rfl rfl hm ?_
  refine j_seq ?_
  refine j_region ?_
  refine r_do (a_alloc zr27 rfl) rfl rfl (fun x1 => ?_)
  refine r_nil ?_
  refine j_then ?_
  refine j_seq ?_
  refine j_region ?_
  refine r_q (q_move rfl rfl) rfl rfl ?_
  refine r_do (a_litX (vs := [(i6 (4:Int)), (i6 (3:Int)), (i6 (5:Int)), (i6 (6:Int)), (i6 (2:Int)), (i6 (8:Int))]) (ii ([(4:Int), (3:Int), (5:Int), (6:Int), (2:Int), (8:Int)] : List Int)) un23 sz3 zr3 rfl rfl rfl rfl rfl rfl rfl rfl rfl) rfl rfl (fun x2 => ?_)
  obtain ⟨v1, v2, hb1, h⟩ := of_b2 h
  refine j_rs (.box a0_g 84 [(.slice a0_0_A a0_0_n a0_0_c), (i6 a0_1)] :: .row x2 6 3 1 (ii ([(4:Int), (3:Int), (5:Int), (6:Int), (2:Int), (8:Int)] : List Int)) :: .box x1 27 [(.slice none 0 0), (.slice none 0 0), (.slice none 0 0), (.slice none 0 0)] :: F) (fun _ h => h.pick 3 [2, 0, 1] rfl) ?_
  refine r_do (a_call ok80 rfl rfl rfl rfl (fun w hm => spec_l13Rd_num.calls K a0_g a0_0 a0_0_A a0_0_n a0_0_c a0_1 ([(4:Int), (3:Int), (5:Int), (6:Int), (2:Int), (8:Int)] : List Int) x2 6 6 hm a0_0_h (Rd.drop 2 a0_0_R) rfl (Rd.row 0 rfl) hb1)) rfl rfl (fun x3 => ?_)
  refine r_q (q_move rfl rfl) rfl rfl ?_
  refine r_do (a_litX (vs := [(i6 (2:Int)), (i6 (1:Int)), (i6 (3:Int))]) (ii ([(2:Int), (1:Int), (3:Int)] : List Int)) un23 sz3 zr3 rfl rfl rfl rfl rfl rfl rfl rfl rfl) rfl rfl (fun x4 => ?_)
  obtain ⟨v3, v4, hb2, h⟩ := of_b2 h
  refine j_rs (.box a0_g 84 [(.slice a0_0_A a0_0_n a0_0_c), (i6 v2)] :: .row x4 3 3 1 (ii ([(2:Int), (1:Int), (3:Int)] : List Int)) :: .row x2 6 3 1 (ii ([(4:Int), (3:Int), (5:Int), (6:Int), (2:Int), (8:Int)] : List Int)) :: .box x1 27 [(.slice none 0 0), (.slice none 0 0), (.slice none 0 0), (.slice none 0 0)] :: F) (fun _ h => h.pick 4 [1, 0, 2, 3] rfl) ?_
  refine r_do (a_call ok80 rfl rfl rfl rfl (fun w hm => spec_l13Rd_num.calls K a0_g a0_0 a0_0_A a0_0_n a0_0_c v2 ([(2:Int), (1:Int), (3:Int)] : List Int) x4 3 3 hm a0_0_h (Rd.drop 3 a0_0_R) rfl (Rd.row 0 rfl) hb2)) rfl rfl (fun x5 => ?_)
  obtain ⟨v5, v6, v7, v8, v9, hb3, h⟩ := of_b5 h
  refine r_do (a_call ok84 rfl rfl rfl rfl (fun w hm => spec_NewStore.calls K v1 v3 hm hb3)) rfl rfl (fun x6 => ?_)
  refine r_q (q_move rfl rfl) rfl rfl ?_
  refine r_q (q_extract rfl rfl rfl) rfl rfl ?_
  refine r_q (q_extract rfl rfl rfl) rfl rfl ?_
  refine r_do (a_alloc zr27 rfl) rfl rfl (fun x7 => ?_)
  refine r_do (a_storeb 0 rfl sz27 rfl rfl rfl rfl (Nat.le_of_ble_eq_true rfl) rfl) rfl rfl (fun _ => ?_)
  refine j_b0 [(.slice x6.1.A x6.1.n x6.1.c), (.slice x6.2.1.A x6.2.1.n x6.2.1.c), (.slice x6.2.2.1.A x6.2.2.1.n x6.2.2.1.c), (.slice x6.2.2.2.A x6.2.2.2.n x6.2.2.2.c)] rfl ?_
  refine r_q (q_assign rfl rfl) rfl rfl ?_
  refine r_nil ?_
  refine j_then ?_
  refine j_seq ?_
  refine j_seq ?_
  refine j_region ?_
  refine r_q (q_move rfl rfl) rfl rfl ?_
  refine r_do (a_litX (vs := [(i6 (5:Int)), (i6 (3:Int)), (i6 (8:Int)), (i6 (2:Int)), (i6 (0:Int)), (i6 (12:Int))]) (ii ([(5:Int), (3:Int), (8:Int), (2:Int), (0:Int), (12:Int)] : List Int)) un23 sz3 zr3 rfl rfl rfl rfl rfl rfl rfl rfl rfl) rfl rfl (fun x8 => ?_)
  obtain ⟨v10, v11, hb4, h⟩ := of_b2 h
  refine j_rs (.box a0_g 84 [(.slice a0_0_A a0_0_n a0_0_c), (i6 v4)] :: .row x8 6 3 1 (ii ([(5:Int), (3:Int), (8:Int), (2:Int), (0:Int), (12:Int)] : List Int)) :: .box x7 27 [(.slice x6.1.A x6.1.n x6.1.c), (.slice x6.2.1.A x6.2.1.n x6.2.1.c), (.slice x6.2.2.1.A x6.2.2.1.n x6.2.2.1.c), (.slice x6.2.2.2.A x6.2.2.2.n x6.2.2.2.c)] :: .row x6.1.A x6.1.c 3 1 (ii v5) :: .row x6.2.1.A x6.2.1.c 3 1 (ii v6) :: .row x6.2.2.1.A x6.2.2.1.c 3 1 (ii v7) :: .row x6.2.2.2.A x6.2.2.2.c 3 1 (ii v8) :: .row x4 3 3 1 (ii ([(2:Int), (1:Int), (3:Int)] : List Int)) :: .row x2 6 3 1 (ii ([(4:Int), (3:Int), (5:Int), (6:Int), (2:Int), (8:Int)] : List Int)) :: .box x1 27 [(.slice none 0 0), (.slice none 0 0), (.slice none 0 0), (.slice none 0 0)] :: F) (fun _ h => h.pick 10 [6, 0, 1, 2, 3, 4, 5, 7, 8, 9] rfl) ?_
  refine r_do (a_call ok80 rfl rfl rfl rfl (fun w hm => spec_l13Rd_num.calls K a0_g a0_0 a0_0_A a0_0_n a0_0_c v4 ([(5:Int), (3:Int), (8:Int), (2:Int), (0:Int), (12:Int)] : List Int) x8 6 6 hm a0_0_h (Rd.drop 9 a0_0_R) rfl (Rd.row 0 rfl) hb4)) rfl rfl (fun x9 => ?_)
  refine r_q (q_assign rfl rfl) rfl rfl ?_
  refine r_nil ?_
  refine j_then ?_
  obtain ⟨κ0, h, hκ0⟩ := ex_k (g := fun κ => spec_l4Draw.loop0 K κ a0_0 K v10 v11 v5 v6 v7 v8 = some (r1, r2, r3, r4, r5)) h
  refine j_cut (σ := (Option Addr) × Nat × Nat × (List Int) × (Option Addr) × Nat × Nat × (List Int) × (Option Addr) × Nat × Nat × (List Int) × (Option Addr) × Nat × Nat × (List Int) × Int) (fun s => [(2, (pt x1)), (3, (pt x7))]) (fun s => .box x1 27 [(.slice none 0 0), (.slice none 0 0), (.slice none 0 0), (.slice none 0 0)] :: .box x7 27 [(.slice s.1 s.2.1 s.2.2.1), (.slice s.2.2.2.2.1 s.2.2.2.2.2.1 s.2.2.2.2.2.2.1), (.slice s.2.2.2.2.2.2.2.2.1 s.2.2.2.2.2.2.2.2.2.1 s.2.2.2.2.2.2.2.2.2.2.1), (.slice s.2.2.2.2.2.2.2.2.2.2.2.2.1 s.2.2.2.2.2.2.2.2.2.2.2.2.2.1 s.2.2.2.2.2.2.2.2.2.2.2.2.2.2.1)] :: .box a0_g 84 [(.slice a0_0_A a0_0_n a0_0_c), (i6 s.2.2.2.2.2.2.2.2.2.2.2.2.2.2.2.2)] :: .row s.1 s.2.2.1 3 1 (ii s.2.2.2.1) :: .row s.2.2.2.2.1 s.2.2.2.2.2.2.1 3 1 (ii s.2.2.2.2.2.2.2.1) :: .row s.2.2.2.2.2.2.2.2.1 s.2.2.2.2.2.2.2.2.2.2.1 3 1 (ii s.2.2.2.2.2.2.2.2.2.2.2.1) :: .row s.2.2.2.2.2.2.2.2.2.2.2.2.1 s.2.2.2.2.2.2.2.2.2.2.2.2.2.2.1 3 1 (ii s.2.2.2.2.2.2.2.2.2.2.2.2.2.2.2.1) :: F) (fun s => κ0 s.2.2.2.1 s.2.2.2.2.2.2.2.1 s.2.2.2.2.2.2.2.2.2.2.2.1 s.2.2.2.2.2.2.2.2.2.2.2.2.2.2.2.1 s.2.2.2.2.2.2.2.2.2.2.2.2.2.2.2.2 = some (r1, r2, r3, r4, r5) ∧ (s.2.2.2.1.length = s.2.1) ∧ (s.2.2.2.2.2.2.2.1.length = s.2.2.2.2.2.1) ∧ (s.2.2.2.2.2.2.2.2.2.2.2.1.length = s.2.2.2.2.2.2.2.2.2.1) ∧ (s.2.2.2.2.2.2.2.2.2.2.2.2.2.2.2.1.length = s.2.2.2.2.2.2.2.2.2.2.2.2.2.1)) ?_ ?_
  · refine j_block ?_
    refine j_loop (σ := Int × Int × (Option Addr) × Nat × Nat × (List Int) × (Option Addr) × Nat × Nat × (List Int) × (Option Addr) × Nat × Nat × (List Int) × (Option Addr) × Nat × Nat × (List Int)) (fun s => [(0, (pt a0_g)), (2, (pt x1)), (3, (pt x7)), (5, (i6 s.1))]) (fun s => .box a0_g 84 [(.slice a0_0_A a0_0_n a0_0_c), (i6 s.2.1)] :: .box x1 27 [(.slice none 0 0), (.slice none 0 0), (.slice none 0 0), (.slice none 0 0)] :: .box x7 27 [(.slice s.2.2.1 s.2.2.2.1 s.2.2.2.2.1), (.slice s.2.2.2.2.2.2.1 s.2.2.2.2.2.2.2.1 s.2.2.2.2.2.2.2.2.1), (.slice s.2.2.2.2.2.2.2.2.2.2.1 s.2.2.2.2.2.2.2.2.2.2.2.1 s.2.2.2.2.2.2.2.2.2.2.2.2.1), (.slice s.2.2.2.2.2.2.2.2.2.2.2.2.2.2.1 s.2.2.2.2.2.2.2.2.2.2.2.2.2.2.2.1 s.2.2.2.2.2.2.2.2.2.2.2.2.2.2.2.2.1)] :: .row s.2.2.1 s.2.2.2.2.1 3 1 (ii s.2.2.2.2.2.1) :: .row s.2.2.2.2.2.2.1 s.2.2.2.2.2.2.2.2.1 3 1 (ii s.2.2.2.2.2.2.2.2.2.1) :: .row s.2.2.2.2.2.2.2.2.2.2.1 s.2.2.2.2.2.2.2.2.2.2.2.2.1 3 1 (ii s.2.2.2.2.2.2.2.2.2.2.2.2.2.1) :: .row s.2.2.2.2.2.2.2.2.2.2.2.2.2.2.1 s.2.2.2.2.2.2.2.2.2.2.2.2.2.2.2.2.1 3 1 (ii s.2.2.2.2.2.2.2.2.2.2.2.2.2.2.2.2.2) :: F) (fun m s => spec_l4Draw.loop0 K κ0 a0_0 m s.1 s.2.1 s.2.2.2.2.2.1 s.2.2.2.2.2.2.2.2.2.1 s.2.2.2.2.2.2.2.2.2.2.2.2.2.1 s.2.2.2.2.2.2.2.2.2.2.2.2.2.2.2.2.2 = some (r1, r2, r3, r4, r5) ∧ (s.2.2.2.2.2.1.length = s.2.2.2.1) ∧ (s.2.2.2.2.2.2.2.2.2.1.length = s.2.2.2.2.2.2.2.1) ∧ (s.2.2.2.2.2.2.2.2.2.2.2.2.2.1.length = s.2.2.2.2.2.2.2.2.2.2.2.1) ∧ (s.2.2.2.2.2.2.2.2.2.2.2.2.2.2.2.2.2.length = s.2.2.2.2.2.2.2.2.2.2.2.2.2.2.2.1)) K (v10, v11, x6.1.A, x6.1.n, x6.1.c, v5, x6.2.1.A, x6.2.1.n, x6.2.1.c, v6, x6.2.2.1.A, x6.2.2.1.n, x6.2.2.1.c, v7, x6.2.2.2.A, x6.2.2.2.n, x6.2.2.2.c, v8) ⟨h, x6.1.h, x6.2.1.h, x6.2.2.1.h, x6.2.2.2.h⟩ (fun a he => he.sub ⟨rfl, rfl, rfl, rfl, trivial⟩) (fun w h => h.pick 10 [0, 9, 2, 3, 4, 5, 6] rfl) ?_
    rintro m ⟨p3, p4, A5, n5, d5, l5, A6, n6, d6, l6, A7, n7, d7, l7, A8, n8, d8, l8⟩ ⟨h, q5, q6, q7, q8⟩
    cases m with
    | zero => exact absurd h (by rw [spec_l4Draw.loop0]; exact nofun)
    | succ m =>
      rw [spec_l4Draw.loop0] at h
      show J _ _ [(0, (pt a0_g)), (2, (pt x1)), (3, (pt x7)), (5, (i6 p3))] _ (.box a0_g 84 [(.slice a0_0_A a0_0_n a0_0_c), (i6 p4)] :: .box x1 27 [(.slice none 0 0), (.slice none 0 0), (.slice none 0 0), (.slice none 0 0)] :: .box x7 27 [(.slice A5 n5 d5), (.slice A6 n6 d6), (.slice A7 n7 d7), (.slice A8 n8 d8)] :: .row A5 d5 3 1 (ii l5) :: .row A6 d6 3 1 (ii l6) :: .row A7 d7 3 1 (ii l7) :: .row A8 d8 3 1 (ii l8) :: F)
      refine j_seq ?_
      refine j_seq ?_
      refine j_region ?_
      refine r_q (q_move rfl rfl) rfl rfl ?_
      refine r_q (q_gtr rfl rfl rfl) rfl rfl ?_
      refine r_nil ?_
      refine j_then ?_
      rcases of_if h with ⟨c46, h⟩ | ⟨c46, h⟩
      · refine j_true rfl (decide_eq_true c46) ?_
        refine j_skip ?_
        refine j_then ?_
        refine j_seq ?_
        refine j_block ?_
        refine j_seq ?_
        refine j_region ?_
        refine r_q (q_move rfl rfl) rfl rfl ?_
        refine r_q (q_fieldAddr fi27_0 sz25 rfl rfl rfl) rfl rfl ?_
        refine r_q (q_fieldAddr fi25_2 sz23 rfl rfl rfl) rfl rfl ?_
        refine r_q (q_loadb 2 rfl ag23 rfl rfl rfl) rfl rfl ?_
        refine r_q (q_lenX l7 q7 un23 rfl rfl rfl rfl rfl) rfl rfl ?_
        obtain ⟨v66, v67, hb20, h⟩ := of_b2 h
        refine r_do (a_call ok82 rfl rfl rfl rfl (fun w hm => spec_l13Rd_pick.calls K a0_g a0_0 a0_0_A a0_0_n a0_0_c p4 (l7.length : Int) hm a0_0_h (Rd.drop 6 a0_0_R) hb20)) rfl rfl (fun x10 => ?_)
        refine r_q (q_assign rfl rfl) rfl rfl ?_
        refine r_nil ?_
        refine j_then ?_
        refine j_seq ?_
        refine j_region ?_
        refine r_q (q_move rfl rfl) rfl rfl ?_
        refine r_q (q_fieldAddr fi27_0 sz25 rfl rfl rfl) rfl rfl ?_
        refine r_q (q_fieldAddr fi25_2 sz23 rfl rfl rfl) rfl rfl ?_
        refine r_q (q_loadb 2 rfl ag23 rfl rfl rfl) rfl rfl ?_
        refine r_q (q_lenX l7 q7 un23 rfl rfl rfl rfl rfl) rfl rfl ?_
        obtain ⟨v68, v69, hb21, h⟩ := of_b2 h
        refine r_do (a_call ok82 rfl rfl rfl rfl (fun w hm => spec_l13Rd_pick.calls K a0_g a0_0 a0_0_A a0_0_n a0_0_c v67 (l7.length : Int) hm a0_0_h (Rd.drop 6 a0_0_R) hb21)) rfl rfl (fun x11 => ?_)
        refine r_q (q_assign rfl rfl) rfl rfl ?_
        refine r_nil ?_
        refine j_then ?_
        refine j_seq ?_
        refine j_region ?_
        refine r_q (q_fieldAddr fi27_0 sz25 rfl rfl rfl) rfl rfl ?_
        refine r_q (q_fieldAddr fi25_2 sz23 rfl rfl rfl) rfl rfl ?_
        refine r_q (q_loadb 2 rfl ag23 rfl rfl rfl) rfl rfl ?_
        refine r_q (q_move rfl rfl) rfl rfl ?_
        obtain ⟨c47, h⟩ := of_guard h
        refine r_q (q_ix (Rd.row 5 rfl) (ints_len1 _ l7) (by decide) q7 c47 un23 sz3 rfl rfl rfl) rfl rfl ?_
        refine r_q (q_ldI (Rd.row 5 rfl) c47 ag3 rfl rfl) rfl rfl ?_
        refine r_q (q_assign rfl rfl) rfl rfl ?_
        refine r_nil ?_
        refine j_then ?_
        refine j_seq ?_
        refine j_region ?_
        refine r_q (q_fieldAddr fi27_0 sz25 rfl rfl rfl) rfl rfl ?_
        refine r_q (q_fieldAddr fi25_2 sz23 rfl rfl rfl) rfl rfl ?_
        refine r_q (q_loadb 2 rfl ag23 rfl rfl rfl) rfl rfl ?_
        refine r_q (q_move rfl rfl) rfl rfl ?_
        obtain ⟨c48, h⟩ := of_guard h
        refine r_q (q_ix (Rd.row 5 rfl) (ints_len1 _ l7) (by decide) q7 c48 un23 sz3 rfl rfl rfl) rfl rfl ?_
        refine r_q (q_ldI (Rd.row 5 rfl) c48 ag3 rfl rfl) rfl rfl ?_
        refine r_q (q_assign rfl rfl) rfl rfl ?_
        refine r_nil ?_
        refine j_then ?_
        refine j_seq ?_
        refine j_region ?_
        refine r_q (q_move rfl rfl) rfl rfl ?_
        obtain ⟨v70, v71, hb22, h⟩ := of_b2 h
        refine r_do (a_call ok82 rfl rfl rfl rfl (fun w hm => spec_l13Rd_pick.calls K a0_g a0_0 a0_0_A a0_0_n a0_0_c v69 (5:Int) hm a0_0_h (Rd.drop 6 a0_0_R) hb22)) rfl rfl (fun x12 => ?_)
        refine r_nil ?_
        refine j_then ?_
        refine j_block ?_
        refine j_seq ?_
        refine j_seq ?_
        refine j_region ?_
        refine r_q (q_eql rfl rfl rfl) rfl rfl ?_
        refine r_q (q_assign rfl rfl) rfl rfl ?_
        refine r_nil ?_
        refine j_then ?_
        rcases of_if h with ⟨c49, h⟩ | ⟨c49, h⟩
        · refine j_true rfl (beq_t c49) ?_
          refine j_skip ?_
          refine j_then ?_
          refine j_true rfl (beq_t c49) ?_
          refine j_seq ?_
          refine j_region ?_
          refine r_q (q_loadb_agg 2 rfl ag27 sz27 rfl rfl rfl rfl) rfl rfl ?_
          refine r_q (q_move rfl rfl) rfl rfl ?_
          obtain ⟨v72, v73, v74, v75, v76, v77, hb23, h⟩ := of_b6 h
          refine r_do (a_call ok100 rfl rfl rfl rfl (fun w hm => spec_AllocCell.calls K l5 A5 n5 d5 l6 A6 n6 d6 l7 A7 n7 d7 l8 A8 n8 d8 v66 hm q5 (Rd.row 3 rfl) q6 (Rd.row 4 rfl) q7 (Rd.row 5 rfl) q8 (Rd.row 6 rfl) (hm.roomI 6 rfl) hb23)) rfl rfl (fun x13 => ?_)
          refine r_q (q_move rfl rfl) rfl rfl ?_
          refine r_q (q_extract rfl rfl rfl) rfl rfl ?_
          refine r_q (q_extract rfl rfl rfl) rfl rfl ?_
          refine r_q (q_extract rfl rfl rfl) rfl rfl ?_
          refine r_do (a_alloc zr27 rfl) rfl rfl (fun x14 => ?_)
          refine r_do (a_storeb 0 rfl sz27 rfl rfl rfl rfl (Nat.le_of_ble_eq_true rfl) rfl) rfl rfl (fun _ => ?_)
          refine j_b0 [(.slice x13.1.A x13.1.n x13.1.c), (.slice x13.2.1.A x13.2.1.n x13.2.1.c), (.slice x13.2.2.1.A x13.2.2.1.n x13.2.2.1.c), (.slice x13.2.2.2.A x13.2.2.2.n x13.2.2.2.c)] rfl ?_
          refine r_q (q_assign rfl rfl) rfl rfl ?_
          refine r_q (q_assign rfl rfl) rfl rfl ?_
          refine r_nil ?_
          refine j_then ?_
          refine j_seq ?_
          refine j_region ?_
          refine r_q (q_move rfl rfl) rfl rfl ?_
          refine r_nil ?_
          refine j_then ?_
          rcases of_if h with ⟨c50, h⟩ | ⟨c50, h⟩
          · refine j_true rfl c50 ?_
            refine j_region ?_
            refine r_q (q_loadb_agg 0 rfl ag27 sz27 rfl rfl rfl rfl) rfl rfl ?_
            refine r_do (a_storeb 7 rfl sz27 rfl rfl rfl rfl (Nat.le_of_ble_eq_true rfl) rfl) rfl rfl (fun _ => ?_)
            refine j_b7 [(.slice x13.1.A x13.1.n x13.1.c), (.slice x13.2.1.A x13.2.1.n x13.2.1.c), (.slice x13.2.2.1.A x13.2.2.1.n x13.2.2.1.c), (.slice x13.2.2.2.A x13.2.2.2.n x13.2.2.2.c)] rfl ?_
            refine r_nil ?_
            refine j_in ?_
            refine j_in ?_
            refine j_then ?_
            refine j_region ?_
            refine r_q (q_move rfl rfl) rfl rfl ?_
            refine r_q (q_sub rfl rfl rfl) rfl rfl ?_
            refine r_q (q_assign rfl rfl) rfl rfl ?_
            refine r_nil ?_
            refine j_then ?_
            exact j_again m ((wrap64 (p3 - (1:Int))), v71, x13.1.A, x13.1.n, x13.1.c, v72, x13.2.1.A, x13.2.1.n, x13.2.1.c, v73, x13.2.2.1.A, x13.2.2.1.n, x13.2.2.1.c, v74, x13.2.2.2.A, x13.2.2.2.n, x13.2.2.2.c, v75) (Nat.lt_succ_self m) ⟨h, x13.1.h, x13.2.1.h, x13.2.2.1.h, x13.2.2.2.h⟩ (fun a he => he.sub ⟨rfl, rfl, rfl, rfl, trivial⟩) (fun w h => h.pick 12 [5, 6, 7, 1, 2, 3, 4] rfl)
          · refine j_false rfl (var_f c50) ?_
            refine j_skip ?_
            refine j_in ?_
            refine j_in ?_
            refine j_then ?_
            refine j_region ?_
            refine r_q (q_move rfl rfl) rfl rfl ?_
            refine r_q (q_sub rfl rfl rfl) rfl rfl ?_
            refine r_q (q_assign rfl rfl) rfl rfl ?_
            refine r_nil ?_
            refine j_then ?_
            exact j_again m ((wrap64 (p3 - (1:Int))), v71, A5, n5, d5, l5, A6, n6, d6, l6, A7, n7, d7, l7, A8, n8, d8, l8) (Nat.lt_succ_self m) ⟨h, q5, q6, q7, q8⟩ (fun a he => he.sub ⟨rfl, rfl, rfl, rfl, trivial⟩) (fun w h => (h.drop 5))
        · refine j_false rfl (beq_f c49) ?_
          refine j_region ?_
          refine r_q (q_eql rfl rfl rfl) rfl rfl ?_
          refine r_q (q_assign rfl rfl) rfl rfl ?_
          refine r_nil ?_
          refine j_then ?_
          rcases of_if h with ⟨c51, h⟩ | ⟨c51, h⟩
          · refine j_true rfl (beq_t c51) ?_
            refine j_seq ?_
            refine j_region ?_
            refine r_q (q_loadb_agg 2 rfl ag27 sz27 rfl rfl rfl rfl) rfl rfl ?_
            refine r_q (q_move rfl rfl) rfl rfl ?_
            obtain ⟨v78, v79, v80, v81, v82, v83, hb24, h⟩ := of_b6 h
            refine r_do (a_call ok100 rfl rfl rfl rfl (fun w hm => spec_AllocCell.calls K l5 A5 n5 d5 l6 A6 n6 d6 l7 A7 n7 d7 l8 A8 n8 d8 v66 hm q5 (Rd.row 3 rfl) q6 (Rd.row 4 rfl) q7 (Rd.row 5 rfl) q8 (Rd.row 6 rfl) (hm.roomI 6 rfl) hb24)) rfl rfl (fun x13 => ?_)
            refine r_q (q_move rfl rfl) rfl rfl ?_
            refine r_q (q_extract rfl rfl rfl) rfl rfl ?_
            refine r_q (q_extract rfl rfl rfl) rfl rfl ?_
            refine r_q (q_extract rfl rfl rfl) rfl rfl ?_
            refine r_do (a_alloc zr27 rfl) rfl rfl (fun x14 => ?_)
            refine r_do (a_storeb 0 rfl sz27 rfl rfl rfl rfl (Nat.le_of_ble_eq_true rfl) rfl) rfl rfl (fun _ => ?_)
            refine j_b0 [(.slice x13.1.A x13.1.n x13.1.c), (.slice x13.2.1.A x13.2.1.n x13.2.1.c), (.slice x13.2.2.1.A x13.2.2.1.n x13.2.2.1.c), (.slice x13.2.2.2.A x13.2.2.2.n x13.2.2.2.c)] rfl ?_
            refine r_q (q_assign rfl rfl) rfl rfl ?_
            refine r_q (q_assign rfl rfl) rfl rfl ?_
            refine r_nil ?_
            refine j_then ?_
            refine j_seq ?_
            refine j_region ?_
            refine r_q (q_move rfl rfl) rfl rfl ?_
            refine r_nil ?_
            refine j_then ?_
            rcases of_if h with ⟨c52, h⟩ | ⟨c52, h⟩
            · refine j_true rfl c52 ?_
              refine j_region ?_
              refine r_q (q_loadb_agg 0 rfl ag27 sz27 rfl rfl rfl rfl) rfl rfl ?_
              refine r_do (a_storeb 7 rfl sz27 rfl rfl rfl rfl (Nat.le_of_ble_eq_true rfl) rfl) rfl rfl (fun _ => ?_)
              refine j_b7 [(.slice x13.1.A x13.1.n x13.1.c), (.slice x13.2.1.A x13.2.1.n x13.2.1.c), (.slice x13.2.2.1.A x13.2.2.1.n x13.2.2.1.c), (.slice x13.2.2.2.A x13.2.2.2.n x13.2.2.2.c)] rfl ?_
              refine r_nil ?_
              refine j_in ?_
              refine j_in ?_
              refine j_then ?_
              refine j_region ?_
              refine r_q (q_move rfl rfl) rfl rfl ?_
              refine r_q (q_sub rfl rfl rfl) rfl rfl ?_
              refine r_q (q_assign rfl rfl) rfl rfl ?_
              refine r_nil ?_
              refine j_then ?_
              exact j_again m ((wrap64 (p3 - (1:Int))), v71, x13.1.A, x13.1.n, x13.1.c, v78, x13.2.1.A, x13.2.1.n, x13.2.1.c, v79, x13.2.2.1.A, x13.2.2.1.n, x13.2.2.1.c, v80, x13.2.2.2.A, x13.2.2.2.n, x13.2.2.2.c, v81) (Nat.lt_succ_self m) ⟨h, x13.1.h, x13.2.1.h, x13.2.2.1.h, x13.2.2.2.h⟩ (fun a he => he.sub ⟨rfl, rfl, rfl, rfl, trivial⟩) (fun w h => h.pick 12 [5, 6, 7, 1, 2, 3, 4] rfl)
            · refine j_false rfl (var_f c52) ?_
              refine j_skip ?_
              refine j_in ?_
              refine j_in ?_
              refine j_then ?_
              refine j_region ?_
              refine r_q (q_move rfl rfl) rfl rfl ?_
              refine r_q (q_sub rfl rfl rfl) rfl rfl ?_
              refine r_q (q_assign rfl rfl) rfl rfl ?_
              refine r_nil ?_
              refine j_then ?_
              exact j_again m ((wrap64 (p3 - (1:Int))), v71, A5, n5, d5, l5, A6, n6, d6, l6, A7, n7, d7, l7, A8, n8, d8, l8) (Nat.lt_succ_self m) ⟨h, q5, q6, q7, q8⟩ (fun a he => he.sub ⟨rfl, rfl, rfl, rfl, trivial⟩) (fun w h => (h.drop 5))
          · refine j_false rfl (beq_f c51) ?_
            refine j_seq ?_
            refine j_region ?_
            refine r_q (q_eql rfl rfl rfl) rfl rfl ?_
            refine r_q (q_assign rfl rfl) rfl rfl ?_
            refine r_nil ?_
            refine j_then ?_
            rcases of_if h with ⟨c53, h⟩ | ⟨c53, h⟩
            · refine j_true rfl (beq_t c53) ?_
              refine j_seq ?_
              refine j_region ?_
              refine r_q (q_move rfl rfl) rfl rfl ?_
              refine r_q (q_neq rfl rfl rfl) rfl rfl ?_
              refine r_nil ?_
              refine j_then ?_
              rcases of_if h with ⟨c54, h⟩ | ⟨c54, h⟩
              · refine j_false rfl (bne_f c54) ?_
                refine j_skip ?_
                refine j_in ?_
                refine j_in ?_
                refine j_then ?_
                refine j_region ?_
                refine r_q (q_move rfl rfl) rfl rfl ?_
                refine r_q (q_sub rfl rfl rfl) rfl rfl ?_
                refine r_q (q_assign rfl rfl) rfl rfl ?_
                refine r_nil ?_
                refine j_then ?_
                exact j_again m ((wrap64 (p3 - (1:Int))), v71, A5, n5, d5, l5, A6, n6, d6, l6, A7, n7, d7, l7, A8, n8, d8, l8) (Nat.lt_succ_self m) ⟨h, q5, q6, q7, q8⟩ (fun a he => he.sub ⟨rfl, rfl, rfl, rfl, trivial⟩) (fun w h => h)
              · refine j_true rfl (bne_t c54) ?_
                refine j_region ?_
                refine r_q (q_fieldAddr fi27_0 sz25 rfl rfl rfl) rfl rfl ?_
                refine r_q (q_fieldAddr fi25_0 sz23 rfl rfl rfl) rfl rfl ?_
                refine r_q (q_loadb 2 rfl ag23 rfl rfl rfl) rfl rfl ?_
                refine r_q (q_move rfl rfl) rfl rfl ?_
                refine r_q (q_move rfl rfl) rfl rfl ?_
                obtain ⟨c55, h⟩ := of_guard h
                refine r_q (q_ix (Rd.row 3 rfl) (ints_len1 _ l5) (by decide) q5 c55 un23 sz3 rfl rfl rfl) rfl rfl ?_
                refine r_do (a_stI 3 rfl c55 sz3 rfl rfl rfl) rfl rfl (fun _ => ?_)
                refine j_s3 ?_
                refine r_nil ?_
                refine j_in ?_
                refine j_in ?_
                refine j_then ?_
                refine j_region ?_
                refine r_q (q_move rfl rfl) rfl rfl ?_
                refine r_q (q_sub rfl rfl rfl) rfl rfl ?_
                refine r_q (q_assign rfl rfl) rfl rfl ?_
                refine r_nil ?_
                refine j_then ?_
                exact j_again m ((wrap64 (p3 - (1:Int))), v71, A5, n5, d5, (l5.set (rd l7 v66).toNat (rd l7 v68)), A6, n6, d6, l6, A7, n7, d7, l7, A8, n8, d8, l8) (Nat.lt_succ_self m) ⟨h, (set_len q5 _ _), q6, q7, q8⟩ (fun a he => he.sub ⟨rfl, rfl, rfl, rfl, trivial⟩) (fun w h => h)
            · refine j_false rfl (beq_f c53) ?_
              refine j_seq ?_
              refine j_region ?_
              refine r_q (q_eql rfl rfl rfl) rfl rfl ?_
              refine r_q (q_assign rfl rfl) rfl rfl ?_
              refine r_nil ?_
              refine j_then ?_
              rcases of_if h with ⟨c56, h⟩ | ⟨c56, h⟩
              · refine j_true rfl (beq_t c56) ?_
                refine j_seq ?_
                refine j_region ?_
                refine r_q (q_move rfl rfl) rfl rfl ?_
                refine r_q (q_neq rfl rfl rfl) rfl rfl ?_
                refine r_nil ?_
                refine j_then ?_
                rcases of_if h with ⟨c57, h⟩ | ⟨c57, h⟩
                · refine j_false rfl (bne_f c57) ?_
                  refine j_skip ?_
                  refine j_in ?_
                  refine j_in ?_
                  refine j_then ?_
                  refine j_region ?_
                  refine r_q (q_move rfl rfl) rfl rfl ?_
                  refine r_q (q_sub rfl rfl rfl) rfl rfl ?_
                  refine r_q (q_assign rfl rfl) rfl rfl ?_
                  refine r_nil ?_
                  refine j_then ?_
                  exact j_again m ((wrap64 (p3 - (1:Int))), v71, A5, n5, d5, l5, A6, n6, d6, l6, A7, n7, d7, l7, A8, n8, d8, l8) (Nat.lt_succ_self m) ⟨h, q5, q6, q7, q8⟩ (fun a he => he.sub ⟨rfl, rfl, rfl, rfl, trivial⟩) (fun w h => h)
                · refine j_true rfl (bne_t c57) ?_
                  refine j_region ?_
                  refine r_q (q_fieldAddr fi27_0 sz25 rfl rfl rfl) rfl rfl ?_
                  refine r_q (q_fieldAddr fi25_1 sz23 rfl rfl rfl) rfl rfl ?_
                  refine r_q (q_loadb 2 rfl ag23 rfl rfl rfl) rfl rfl ?_
                  refine r_q (q_move rfl rfl) rfl rfl ?_
                  refine r_q (q_move rfl rfl) rfl rfl ?_
                  obtain ⟨c58, h⟩ := of_guard h
                  refine r_q (q_ix (Rd.row 4 rfl) (ints_len1 _ l6) (by decide) q6 c58 un23 sz3 rfl rfl rfl) rfl rfl ?_
                  refine r_do (a_stI 4 rfl c58 sz3 rfl rfl rfl) rfl rfl (fun _ => ?_)
                  refine j_s4 ?_
                  refine r_nil ?_
                  refine j_in ?_
                  refine j_in ?_
                  refine j_then ?_
                  refine j_region ?_
                  refine r_q (q_move rfl rfl) rfl rfl ?_
                  refine r_q (q_sub rfl rfl rfl) rfl rfl ?_
                  refine r_q (q_assign rfl rfl) rfl rfl ?_
                  refine r_nil ?_
                  refine j_then ?_
                  exact j_again m ((wrap64 (p3 - (1:Int))), v71, A5, n5, d5, l5, A6, n6, d6, (l6.set (rd l7 v66).toNat (rd l7 v68)), A7, n7, d7, l7, A8, n8, d8, l8) (Nat.lt_succ_self m) ⟨h, q5, (set_len q6 _ _), q7, q8⟩ (fun a he => he.sub ⟨rfl, rfl, rfl, rfl, trivial⟩) (fun w h => h)
              · refine j_false rfl (beq_f c56) ?_
                refine j_seq ?_
                refine j_region ?_
                refine r_q (q_move rfl rfl) rfl rfl ?_
                refine r_q (q_neq rfl rfl rfl) rfl rfl ?_
                refine r_nil ?_
                refine j_then ?_
                rcases of_if h with ⟨c59, h⟩ | ⟨c59, h⟩
                · refine j_false rfl (bne_f c59) ?_
                  refine j_skip ?_
                  refine j_in ?_
                  refine j_in ?_
                  refine j_then ?_
                  refine j_region ?_
                  refine r_q (q_move rfl rfl) rfl rfl ?_
                  refine r_q (q_sub rfl rfl rfl) rfl rfl ?_
                  refine r_q (q_assign rfl rfl) rfl rfl ?_
                  refine r_nil ?_
                  refine j_then ?_
                  exact j_again m ((wrap64 (p3 - (1:Int))), v71, A5, n5, d5, l5, A6, n6, d6, l6, A7, n7, d7, l7, A8, n8, d8, l8) (Nat.lt_succ_self m) ⟨h, q5, q6, q7, q8⟩ (fun a he => he.sub ⟨rfl, rfl, rfl, rfl, trivial⟩) (fun w h => h)
                · refine j_true rfl (bne_t c59) ?_
                  obtain ⟨c60, h⟩ := of_guard h
                  refine j_draw (.box a0_g 84 [(.slice a0_0_A a0_0_n a0_0_c), (i6 v71)] :: .box x1 27 [(.slice none 0 0), (.slice none 0 0), (.slice none 0 0), (.slice none 0 0)] :: .box x7 27 [(.slice A5 n5 d5), (.slice A6 n6 d6), (.slice A7 n7 d7), (.slice A8 n8 d8)] :: .row A5 d5 3 1 (ii l5) :: .row A6 d6 3 1 (ii l6) :: .row A8 d8 3 1 (ii l8) :: F) 12 follows_any rfl ?_
                  refine d_take 0 rfl (q_fieldAddr fi27_0 sz25 rfl rfl rfl) rfl rfl (by kernel_rfl) (by kernel_rfl) (by kernel_rfl) (fun w h => h.pick 7 [0, 1, 2, 3, 4, 6] rfl) ?_
                  refine d_take 1 rfl (q_fieldAddr fi25_2 sz23 rfl rfl rfl) rfl rfl (by kernel_rfl) (by kernel_rfl) (by kernel_rfl) (fun w h => h.pick 7 [0, 1, 2, 3, 4, 6] rfl) ?_
                  refine d_take 2 rfl (q_loadb 2 rfl ag23 rfl rfl rfl) rfl rfl (by kernel_rfl) (by kernel_rfl) (by kernel_rfl) (fun w h => h.pick 7 [0, 1, 2, 3, 4, 6] rfl) ?_
                  refine d_take 3 rfl (q_move rfl rfl) rfl rfl (by kernel_rfl) (by kernel_rfl) (by kernel_rfl) (fun w h => h.pick 7 [0, 1, 2, 3, 4, 6] rfl) ?_
                  refine d_take 4 rfl (q_fieldAddr fi27_0 sz25 rfl rfl rfl) rfl rfl (by kernel_rfl) (by kernel_rfl) (by kernel_rfl) (fun w h => h.pick 7 [0, 1, 2, 3, 4, 6] rfl) ?_
                  refine d_take 5 rfl (q_fieldAddr fi25_0 sz23 rfl rfl rfl) rfl rfl (by kernel_rfl) (by kernel_rfl) (by kernel_rfl) (fun w h => h.pick 7 [0, 1, 2, 3, 4, 6] rfl) ?_
                  refine d_take 6 rfl (q_loadb 2 rfl ag23 rfl rfl rfl) rfl rfl (by kernel_rfl) (by kernel_rfl) (by kernel_rfl) (fun w h => h.pick 7 [0, 1, 2, 3, 4, 6] rfl) ?_
                  refine d_take 7 rfl (q_move rfl rfl) rfl rfl (by kernel_rfl) (by kernel_rfl) (by kernel_rfl) (fun w h => h.pick 7 [0, 1, 2, 3, 4, 6] rfl) ?_
                  refine d_take 8 rfl (q_ix (Rd.row 3 rfl) (ints_len1 _ l5) (by decide) q5 c60 un23 sz3 rfl rfl rfl) rfl rfl (by kernel_rfl) (by kernel_rfl) (by kernel_rfl) (fun w h => h.pick 7 [0, 1, 2, 3, 4, 6] rfl) ?_
                  refine d_take 9 rfl (q_ldI (Rd.row 3 rfl) c60 ag3 rfl rfl) rfl rfl (by kernel_rfl) (by kernel_rfl) (by kernel_rfl) (fun w h => h.pick 7 [0, 1, 2, 3, 4, 6] rfl) ?_
                  refine d_one 10 (by kernel_rfl) ?_
                  refine o_do rfl ((q_ix (Rd.row 5 rfl) (ints_len1 _ l7) (by decide) q7 c47 un23 sz3 rfl rfl rfl)).acts rfl rfl (fun _ w h => h.pick 7 [0, 1, 2, 3, 4, 6] rfl) (fun _ => ?_)
                  refine d_one 11 (by kernel_rfl) ?_
                  refine o_do rfl (a_stI 5 rfl c47 sz3 rfl rfl rfl) rfl rfl (fun _ w h => h.pick 7 [0, 1, 2, 3, 4, 6] rfl) (fun _ => ?_)
                  refine j_s5 ?_
                  refine d_done (by kernel_rfl) ?_
                  refine j_in ?_
                  refine j_in ?_
                  refine j_then ?_
                  refine j_region ?_
                  refine r_q (q_move rfl rfl) rfl rfl ?_
                  refine r_q (q_sub rfl rfl rfl) rfl rfl ?_
                  refine r_q (q_assign rfl rfl) rfl rfl ?_
                  refine r_nil ?_
                  refine j_then ?_
                  exact j_again m ((wrap64 (p3 - (1:Int))), v71, A5, n5, d5, l5, A6, n6, d6, l6, A7, n7, d7, (l7.set v66.toNat (rd l5 (rd l7 v68))), A8, n8, d8, l8) (Nat.lt_succ_self m) ⟨h, q5, q6, (set_len q7 _ _), q8⟩ (fun a he => he.sub ⟨rfl, rfl, rfl, rfl, trivial⟩) (fun w h => h)
      · refine j_false rfl (decide_eq_false c46) ?_
        refine j_exit ?_
        refine j_then_exit ?_
        refine j_then_exit ?_
        refine j_in_exit ?_
        refine j_then ?_
        exact j_meet (A5, n5, d5, l5, A6, n6, d6, l6, A7, n7, d7, l7, A8, n8, d8, l8, p4) ⟨h, q5, q6, q7, q8⟩ (fun a he => he.sub ⟨rfl, rfl, trivial⟩) (fun w h => h.pick 7 [1, 2, 0, 3, 4, 5, 6] rfl)
  · rintro ⟨A9, n9, d9, l9, A10, n10, d10, l10, A11, n11, d11, l11, A12, n12, d12, l12, p5⟩ ⟨h, q9, q10, q11, q12⟩
    subst hκ0
    show J _ _ [(2, (pt x1)), (3, (pt x7))] _ (.box x1 27 [(.slice none 0 0), (.slice none 0 0), (.slice none 0 0), (.slice none 0 0)] :: .box x7 27 [(.slice A9 n9 d9), (.slice A10 n10 d10), (.slice A11 n11 d11), (.slice A12 n12 d12)] :: .box a0_g 84 [(.slice a0_0_A a0_0_n a0_0_c), (i6 p5)] :: .row A9 d9 3 1 (ii l9) :: .row A10 d10 3 1 (ii l10) :: .row A11 d11 3 1 (ii l11) :: .row A12 d12 3 1 (ii l12) :: F)
    refine j_then ?_
    refine j_seq ?_
    refine j_region ?_
    refine r_q (q_loadb_agg 1 rfl ag27 sz27 rfl rfl rfl rfl) rfl rfl ?_
    refine r_do (a_storeb 0 rfl sz27 rfl rfl rfl rfl (Nat.le_of_ble_eq_true rfl) rfl) rfl rfl (fun _ => ?_)
    refine j_b0 [(.slice A9 n9 d9), (.slice A10 n10 d10), (.slice A11 n11 d11), (.slice A12 n12 d12)] rfl ?_
    refine r_nil ?_
    refine j_then ?_
    refine j_ret ?_
    cases h
    exact j_return rfl (ResOf.cell 0 rfl rfl ag27 sz27 ResOf.nil) rfl (fun w h => ⟨(⟨A9, n9, d9, q9⟩, ⟨A10, n10, d10, q10⟩, ⟨A11, n11, d11, q11⟩, ⟨A12, n12, d12, q12⟩), rfl, h.pick 7 [3, 4, 5, 6, 2] rfl⟩)

theorem spec_l2Distances.calls (K : Nat) (a0_0 : List Int) (a0_0_A : Option Addr) (a0_0_n a0_0_c : Nat) (a0_1 : List Int) (a0_1_A : Option Addr) (a0_1_n a0_1_c : Nat) (a0_2_A : Option Addr) (a0_2_n a0_2_c : Nat) (a1 : List Int) (a1_A : Option Addr) (a1_n a1_c : Nat) {w0 w : World} {F : List Res} {r1 : List Int} (hm : Mem w0 (F) w) (a0_0_h : a0_0.length = a0_0_n) (a0_0_R : Rd w0 F a0_0_A (ii a0_0)) (a0_1_h : a0_1.length = a0_1_n) (a0_1_R : Rd w0 F a0_1_A (ii a0_1)) (a1_h : a1.length = a1_n) (a1_R : Rd w0 F a1_A (ii a1)) (h : spec_l2Distances.f K a0_0 a0_1 a1 = some r1) :
    Calls Try.prog 103 (List.toArray [.agg (List.toArray [.slice a0_0_A a0_0_n a0_0_c, .slice a0_1_A a0_1_n a0_1_c, .slice a0_2_A a0_2_n a0_2_c]), .slice a1_A a1_n a1_c]) w fun e w' => ∃ x : (Sl r1.length), e = .returned (.slice x.A x.n x.c) ∧ Mem w0 (.row x.A x.c 3 1 (ii r1) :: F) w' := by
  unfold spec_l2Distances.f at h
  refine calls_of_J (n := 110) Try.func103 rfl rfl rfl hm ?_
  refine j_seq ?_
  refine j_region ?_
  refine r_do (a_box rfl rfl) rfl rfl (fun x1 => ?_)
  refine r_q (q_assign rfl rfl) rfl rfl ?_
  refine r_nil ?_
  refine j_then ?_
  refine j_seq ?_
  refine j_region ?_
  refine r_q (q_fieldAddr fi25_0 sz23 rfl rfl rfl) rfl rfl ?_
  refine r_q (q_loadb 0 rfl ag23 rfl rfl rfl) rfl rfl ?_
  refine r_q (q_lenX a0_0 a0_0_h un23 rfl rfl rfl rfl rfl) rfl rfl ?_
  obtain ⟨v1, hb1, h⟩ := of_b1 h
  refine r_do (a_call ok99 rfl rfl rfl rfl (fun w hm => spec_l1Many.calls K (a0_0.length : Int) hm hb1)) rfl rfl (fun x2 => ?_)
  refine r_q (q_assign rfl rfl) rfl rfl ?_
  refine r_nil ?_
  refine j_then ?_
  refine j_seq ?_
  refine j_region ?_
  refine r_do (a_litX (vs := []) (ii ([] : List Int)) un23 sz3 zr3 rfl rfl rfl rfl rfl rfl rfl rfl rfl) rfl rfl (fun x3 => ?_)
  refine r_q (q_assign rfl rfl) rfl rfl ?_
  refine r_nil ?_
  refine j_then ?_
  refine j_seq ?_
  refine j_seq ?_
  refine j_region ?_
  refine r_q (q_assign rfl rfl) rfl rfl ?_
  refine r_nil ?_
  refine j_then ?_
  obtain ⟨κ0, h, hκ0⟩ := ex_k (g := fun κ => spec_l2Distances.loop0 K κ a1 K ([] : List Int) (0:Int) v1 = some r1) h
  refine j_cut (σ := (Option Addr) × Nat × Nat × (List Int) × (List Int)) (fun s => [(2, (pt x1)), (5, (.slice x2.A x2.n x2.c)), (6, (.slice s.1 s.2.1 s.2.2.1))]) (fun s => .box x1 25 [(.slice a0_0_A a0_0_n a0_0_c), (.slice a0_1_A a0_1_n a0_1_c), (.slice a0_2_A a0_2_n a0_2_c)] :: .row x2.A x2.c 3 1 (ii s.2.2.2.2) :: .row s.1 s.2.2.1 3 1 (ii s.2.2.2.1) :: F) (fun s => κ0 s.2.2.2.1 s.2.2.2.2 = some r1 ∧ (s.2.2.2.1.length = s.2.1) ∧ (s.2.2.2.2.length = x2.n)) ?_ ?_
  · refine j_block ?_
    refine j_loop (σ := (Option Addr) × Nat × Nat × (List Int) × Int × (List Int)) (fun s => [(1, (.slice a1_A a1_n a1_c)), (2, (pt x1)), (5, (.slice x2.A x2.n x2.c)), (6, (.slice s.1 s.2.1 s.2.2.1)), (7, (i6 s.2.2.2.2.1))]) (fun s => .box x1 25 [(.slice a0_0_A a0_0_n a0_0_c), (.slice a0_1_A a0_1_n a0_1_c), (.slice a0_2_A a0_2_n a0_2_c)] :: .row x2.A x2.c 3 1 (ii s.2.2.2.2.2) :: .row s.1 s.2.2.1 3 1 (ii s.2.2.2.1) :: F) (fun m s => spec_l2Distances.loop0 K κ0 a1 m s.2.2.2.1 s.2.2.2.2.1 s.2.2.2.2.2 = some r1 ∧ (s.2.2.2.1.length = s.2.1) ∧ (s.2.2.2.2.2.length = x2.n)) K (x3, 0, 0, ([] : List Int), (0:Int), v1) ⟨h, rfl, x2.h⟩ (fun a he => he.sub ⟨rfl, rfl, rfl, rfl, rfl, trivial⟩) (fun w h => h.pick 3 [2, 1, 0] rfl) ?_
    rintro m ⟨A2, n2, d2, l3, p2, l4⟩ ⟨h, q3, q4⟩
    cases m with
    | zero => exact absurd h (by rw [spec_l2Distances.loop0]; exact nofun)
    | succ m =>
      rw [spec_l2Distances.loop0] at h
      show J _ _ [(1, (.slice a1_A a1_n a1_c)), (2, (pt x1)), (5, (.slice x2.A x2.n x2.c)), (6, (.slice A2 n2 d2)), (7, (i6 p2))] _ (.box x1 25 [(.slice a0_0_A a0_0_n a0_0_c), (.slice a0_1_A a0_1_n a0_1_c), (.slice a0_2_A a0_2_n a0_2_c)] :: .row x2.A x2.c 3 1 (ii l4) :: .row A2 d2 3 1 (ii l3) :: F)
      refine j_seq ?_
      refine j_seq ?_
      refine j_region ?_
      refine r_q (q_move rfl rfl) rfl rfl ?_
      refine r_q (q_move rfl rfl) rfl rfl ?_
      refine r_q (q_lenX a1 a1_h un23 rfl rfl rfl rfl rfl) rfl rfl ?_
      refine r_q (q_lss rfl rfl rfl) rfl rfl ?_
      refine r_nil ?_
      refine j_then ?_
      rcases of_if h with ⟨c19, h⟩ | ⟨c19, h⟩
      · refine j_true rfl (decide_eq_true c19) ?_
        refine j_skip ?_
        refine j_then ?_
        refine j_seq ?_
        refine j_block ?_
        refine j_seq ?_
        refine j_region ?_
        refine r_q (q_move rfl rfl) rfl rfl ?_
        refine r_q (q_move rfl rfl) rfl rfl ?_
        obtain ⟨c20, h⟩ := of_guard h
        refine r_q (q_ix (Rd.drop 3 a1_R) (ints_len1 _ a1) (by decide) a1_h c20 un23 sz3 rfl rfl rfl) rfl rfl ?_
        refine r_q (q_ldI (Rd.drop 3 a1_R) c20 ag3 rfl rfl) rfl rfl ?_
        refine r_q (q_neq rfl rfl rfl) rfl rfl ?_
        refine r_q (q_move rfl rfl) rfl rfl ?_
        rcases of_if h with ⟨c21, h⟩ | ⟨c21, h⟩
        · refine r_off rfl rfl rfl rfl (bne_f c21) rfl ?_
          refine r_off rfl rfl rfl rfl (bne_f c21) rfl ?_
          refine r_off rfl rfl rfl rfl (bne_f c21) rfl ?_
          refine r_off rfl rfl rfl rfl (bne_f c21) rfl ?_
          refine r_off rfl rfl rfl rfl (bne_f c21) rfl ?_
          refine r_off rfl rfl rfl rfl (bne_f c21) rfl ?_
          refine r_off rfl rfl rfl rfl (bne_f c21) rfl ?_
          refine r_off rfl rfl rfl rfl (bne_f c21) rfl ?_
          refine r_q (q_pick_f rfl rfl (bne_f c21) rfl) rfl rfl ?_
          refine r_nil ?_
          refine j_then ?_
          refine j_false rfl rfl ?_
          refine j_skip ?_
          refine j_in ?_
          refine j_then ?_
          refine j_region ?_
          refine r_q (q_move rfl rfl) rfl rfl ?_
          refine r_q (q_add rfl rfl rfl) rfl rfl ?_
          refine r_q (q_assign rfl rfl) rfl rfl ?_
          refine r_nil ?_
          refine j_then ?_
          exact j_again m (A2, n2, d2, l3, (wrap64 (p2 + (1:Int))), l4) (Nat.lt_succ_self m) ⟨h, q3, q4⟩ (fun a he => he.sub ⟨rfl, rfl, rfl, rfl, rfl, trivial⟩) (fun w h => h)
        · refine r_qon (q_move rfl rfl) rfl rfl rfl rfl (bne_t c21) rfl ?_
          refine r_qon (q_move rfl rfl) rfl rfl rfl rfl (bne_t c21) rfl ?_
          refine r_qon (q_move rfl rfl) rfl rfl rfl rfl (bne_t c21) rfl ?_
          refine r_qon (q_ix (Rd.drop 3 a1_R) (ints_len1 _ a1) (by decide) a1_h c20 un23 sz3 rfl rfl rfl) rfl rfl rfl rfl (bne_t c21) rfl ?_
          refine r_qon (q_ldI (Rd.drop 3 a1_R) c20 ag3 rfl rfl) rfl rfl rfl rfl (bne_t c21) rfl ?_
          obtain ⟨c22, h⟩ := of_guard h
          refine r_qon (q_ix (Rd.row 1 rfl) (ints_len1 _ l4) (by decide) q4 c22 un23 sz3 rfl rfl rfl) rfl rfl rfl rfl (bne_t c21) rfl ?_
          refine r_qon (q_ldI (Rd.row 1 rfl) c22 ag3 rfl rfl) rfl rfl rfl rfl (bne_t c21) rfl ?_
          refine r_qon (q_lss rfl rfl rfl) rfl rfl rfl rfl (bne_t c21) rfl ?_
          refine r_q (q_pick_t rfl rfl (bne_t c21) rfl) rfl rfl ?_
          refine r_nil ?_
          refine j_then ?_
          rcases of_if h with ⟨c23, h⟩ | ⟨c23, h⟩
          · refine j_true rfl (decide_eq_true c23) ?_
            refine j_seq ?_
            refine j_region ?_
            refine r_q (q_move rfl rfl) rfl rfl ?_
            refine r_q (q_move rfl rfl) rfl rfl ?_
            refine r_q (q_move rfl rfl) rfl rfl ?_
            refine r_q (q_ix (Rd.drop 3 a1_R) (ints_len1 _ a1) (by decide) a1_h c20 un23 sz3 rfl rfl rfl) rfl rfl ?_
            refine r_q (q_ldI (Rd.drop 3 a1_R) c20 ag3 rfl rfl) rfl rfl ?_
            refine r_q (q_ix (Rd.row 1 rfl) (ints_len1 _ l4) (by decide) q4 c22 un23 sz3 rfl rfl rfl) rfl rfl ?_
            refine r_do (a_stI 1 rfl c22 sz3 rfl rfl rfl) rfl rfl (fun _ => ?_)
            refine j_s1 ?_
            refine r_nil ?_
            refine j_then ?_
            refine j_region ?_
            refine r_q (q_move rfl rfl) rfl rfl ?_
            refine r_q (q_move rfl rfl) rfl rfl ?_
            refine r_q (q_move rfl rfl) rfl rfl ?_
            refine r_q (q_ix (Rd.drop 3 a1_R) (ints_len1 _ a1) (by decide) a1_h c20 un23 sz3 rfl rfl rfl) rfl rfl ?_
            refine r_q (q_ldI (Rd.drop 3 a1_R) c20 ag3 rfl rfl) rfl rfl ?_
            refine r_do (a_litX (vs := [(i6 (rd a1 p2))]) (ii ([(rd a1 p2)] : List Int)) un23 sz3 zr3 rfl rfl rfl rfl rfl rfl rfl rfl rfl) rfl rfl (fun x4 => ?_)
            obtain ⟨c24, h⟩ := of_guard h
            refine r_do (a_appI (xs := l3) (ys := ([(rd a1 p2)] : List Int)) 3 un23 un23 sz3 by3 zr3 rfl rfl rfl rfl rfl rfl rfl rfl rfl q3 rfl (Rd.row 0 rfl) c24) rfl rfl (fun x5 => ?_)
            refine j_s3 ?_
            refine r_q (q_assign rfl rfl) rfl rfl ?_
            refine r_nil ?_
            refine j_in ?_
            refine j_then ?_
            refine j_region ?_
            refine r_q (q_move rfl rfl) rfl rfl ?_
            refine r_q (q_add rfl rfl rfl) rfl rfl ?_
            refine r_q (q_assign rfl rfl) rfl rfl ?_
            refine r_nil ?_
            refine j_then ?_
            exact j_again m (x5.1, (n2 + 1), x5.2, (l3 ++ ([(rd a1 p2)] : List Int)), (wrap64 (p2 + (1:Int))), (l4.set (rd a1 p2).toNat (1:Int))) (Nat.lt_succ_self m) ⟨h, (app_len q3 rfl), (set_len q4 _ _)⟩ (fun a he => he.sub ⟨rfl, rfl, rfl, rfl, rfl, trivial⟩) (fun w h => h.tail)
          · refine j_false rfl (decide_eq_false c23) ?_
            refine j_skip ?_
            refine j_in ?_
            refine j_then ?_
            refine j_region ?_
            refine r_q (q_move rfl rfl) rfl rfl ?_
            refine r_q (q_add rfl rfl rfl) rfl rfl ?_
            refine r_q (q_assign rfl rfl) rfl rfl ?_
            refine r_nil ?_
            refine j_then ?_
            exact j_again m (A2, n2, d2, l3, (wrap64 (p2 + (1:Int))), l4) (Nat.lt_succ_self m) ⟨h, q3, q4⟩ (fun a he => he.sub ⟨rfl, rfl, rfl, rfl, rfl, trivial⟩) (fun w h => h)
      · refine j_false rfl (decide_eq_false c19) ?_
        refine j_exit ?_
        refine j_then_exit ?_
        refine j_then_exit ?_
        refine j_in_exit ?_
        refine j_then ?_
        exact j_meet (A2, n2, d2, l3, l4) ⟨h, q3, q4⟩ (fun a he => he.sub ⟨rfl, rfl, rfl, trivial⟩) (fun w h => h)
  · rintro ⟨A3, n3, d3, l5, l6⟩ ⟨h, q5, q6⟩
    subst hκ0
    show J _ _ [(2, (pt x1)), (5, (.slice x2.A x2.n x2.c)), (6, (.slice A3 n3 d3))] _ (.box x1 25 [(.slice a0_0_A a0_0_n a0_0_c), (.slice a0_1_A a0_1_n a0_1_c), (.slice a0_2_A a0_2_n a0_2_c)] :: .row x2.A x2.c 3 1 (ii l6) :: .row A3 d3 3 1 (ii l5) :: F)
    refine j_then ?_
    refine j_seq ?_
    refine j_seq ?_
    refine j_region ?_
    refine r_q (q_assign rfl rfl) rfl rfl ?_
    refine r_nil ?_
    refine j_then ?_
    obtain ⟨κ1, h, hκ1⟩ := ex_k (g := fun κ => spec_l2Distances.loop1 K κ a0_0 a0_1 K l5 (0:Int) l6 = some r1) h
    refine j_cut (σ := (List Int)) (fun s => [(5, (.slice x2.A x2.n x2.c))]) (fun s => .row x2.A x2.c 3 1 (ii s) :: F) (fun s => κ1 s = some r1 ∧ (s.length = x2.n)) ?_ ?_
    · refine j_block ?_
      refine j_loop (σ := (Option Addr) × Nat × Nat × (List Int) × Int × (List Int)) (fun s => [(2, (pt x1)), (5, (.slice x2.A x2.n x2.c)), (6, (.slice s.1 s.2.1 s.2.2.1)), (8, (i6 s.2.2.2.2.1))]) (fun s => .box x1 25 [(.slice a0_0_A a0_0_n a0_0_c), (.slice a0_1_A a0_1_n a0_1_c), (.slice a0_2_A a0_2_n a0_2_c)] :: .row x2.A x2.c 3 1 (ii s.2.2.2.2.2) :: .row s.1 s.2.2.1 3 1 (ii s.2.2.2.1) :: F) (fun m s => spec_l2Distances.loop1 K κ1 a0_0 a0_1 m s.2.2.2.1 s.2.2.2.2.1 s.2.2.2.2.2 = some r1 ∧ (s.2.2.2.1.length = s.2.1) ∧ (s.2.2.2.2.2.length = x2.n)) K (A3, n3, d3, l5, (0:Int), l6) ⟨h, q5, q6⟩ (fun a he => he.sub ⟨rfl, rfl, rfl, rfl, trivial⟩) (fun w h => h) ?_
      rintro m ⟨A11, n11, d11, l21, p8, l22⟩ ⟨h, q21, q22⟩
      cases m with
      | zero => exact absurd h (by rw [spec_l2Distances.loop1]; exact nofun)
      | succ m =>
        rw [spec_l2Distances.loop1] at h
        show J _ _ [(2, (pt x1)), (5, (.slice x2.A x2.n x2.c)), (6, (.slice A11 n11 d11)), (8, (i6 p8))] _ (.box x1 25 [(.slice a0_0_A a0_0_n a0_0_c), (.slice a0_1_A a0_1_n a0_1_c), (.slice a0_2_A a0_2_n a0_2_c)] :: .row x2.A x2.c 3 1 (ii l22) :: .row A11 d11 3 1 (ii l21) :: F)
        refine j_seq ?_
        refine j_seq ?_
        refine j_region ?_
        refine r_q (q_move rfl rfl) rfl rfl ?_
        refine r_q (q_move rfl rfl) rfl rfl ?_
        refine r_q (q_lenX l21 q21 un23 rfl rfl rfl rfl rfl) rfl rfl ?_
        refine r_q (q_lss rfl rfl rfl) rfl rfl ?_
        refine r_nil ?_
        refine j_then ?_
        rcases of_if h with ⟨c118, h⟩ | ⟨c118, h⟩
        · refine j_true rfl (decide_eq_true c118) ?_
          refine j_skip ?_
          refine j_then ?_
          refine j_seq ?_
          refine j_block ?_
          refine j_seq ?_
          refine j_region ?_
          refine r_q (q_move rfl rfl) rfl rfl ?_
          refine r_q (q_move rfl rfl) rfl rfl ?_
          obtain ⟨c119, h⟩ := of_guard h
          refine r_q (q_ix (Rd.row 2 rfl) (ints_len1 _ l21) (by decide) q21 c119 un23 sz3 rfl rfl rfl) rfl rfl ?_
          refine r_q (q_ldI (Rd.row 2 rfl) c119 ag3 rfl rfl) rfl rfl ?_
          refine r_q (q_assign rfl rfl) rfl rfl ?_
          refine r_nil ?_
          refine j_then ?_
          refine j_seq ?_
          obtain ⟨c120, h⟩ := of_guard h
          obtain ⟨c121, h⟩ := of_guard h
          refine j_draw (.box x1 25 [(.slice a0_0_A a0_0_n a0_0_c), (.slice a0_1_A a0_1_n a0_1_c), (.slice a0_2_A a0_2_n a0_2_c)] :: .row x2.A x2.c 3 1 (ii l22) :: .row A11 d11 3 1 (ii l21) :: F) 12 follows_any rfl ?_
          refine d_take 0 rfl (q_fieldAddr fi25_0 sz23 rfl rfl rfl) rfl rfl (by kernel_rfl) (by kernel_rfl) (by kernel_rfl) (fun w h => h) ?_
          refine d_take 1 rfl (q_loadb 0 rfl ag23 rfl rfl rfl) rfl rfl (by kernel_rfl) (by kernel_rfl) (by kernel_rfl) (fun w h => h) ?_
          refine d_take 2 rfl (q_move rfl rfl) rfl rfl (by kernel_rfl) (by kernel_rfl) (by kernel_rfl) (fun w h => h) ?_
          refine d_take 3 rfl (q_ix (Rd.drop 3 a0_0_R) (ints_len1 _ a0_0) (by decide) a0_0_h c120 un23 sz3 rfl rfl rfl) rfl rfl (by kernel_rfl) (by kernel_rfl) (by kernel_rfl) (fun w h => h) ?_
          refine d_take 4 rfl (q_ldI (Rd.drop 3 a0_0_R) c120 ag3 rfl rfl) rfl rfl (by kernel_rfl) (by kernel_rfl) (by kernel_rfl) (fun w h => h) ?_
          refine d_take 5 rfl (q_fieldAddr fi25_1 sz23 rfl rfl rfl) rfl rfl (by kernel_rfl) (by kernel_rfl) (by kernel_rfl) (fun w h => h) ?_
          refine d_take 6 rfl (q_loadb 0 rfl ag23 rfl rfl rfl) rfl rfl (by kernel_rfl) (by kernel_rfl) (by kernel_rfl) (fun w h => h) ?_
          refine d_take 7 rfl (q_move rfl rfl) rfl rfl (by kernel_rfl) (by kernel_rfl) (by kernel_rfl) (fun w h => h) ?_
          refine d_take 8 rfl (q_ix (Rd.drop 3 a0_1_R) (ints_len1 _ a0_1) (by decide) a0_1_h c121 un23 sz3 rfl rfl rfl) rfl rfl (by kernel_rfl) (by kernel_rfl) (by kernel_rfl) (fun w h => h) ?_
          refine d_take 9 rfl (q_ldI (Rd.drop 3 a0_1_R) c121 ag3 rfl rfl) rfl rfl (by kernel_rfl) (by kernel_rfl) (by kernel_rfl) (fun w h => h) ?_
          refine d_one 10 (by kernel_rfl) ?_
          refine o_do rfl (a_litX (vs := [(i6 (rd a0_0 (rd l21 p8))), (i6 (rd a0_1 (rd l21 p8)))]) (ii ([(rd a0_0 (rd l21 p8)), (rd a0_1 (rd l21 p8))] : List Int)) un23 sz3 zr3 rfl rfl rfl rfl rfl rfl rfl rfl rfl) rfl rfl (fun x6 w h => h.tail) (fun x6 => ?_)
          refine d_take 11 rfl (q_assign rfl rfl) rfl rfl (by kernel_rfl) (by kernel_rfl) (by kernel_rfl) (fun w h => h.tail) ?_
          refine d_done (by kernel_rfl) ?_
          refine j_then ?_
          refine j_seq ?_
          refine j_region ?_
          refine r_q (q_assign rfl rfl) rfl rfl ?_
          refine r_nil ?_
          refine j_then ?_
          obtain ⟨κ2, h, hκ2⟩ := ex_k (g := fun κ => spec_l2Distances.loop2 K κ a0_0 a0_1 l21 p8 K l21 (0:Int) l22 = some r1) h
          refine j_cut (σ := (Option Addr) × Nat × Nat × (List Int) × (List Int)) (fun s => [(2, (pt x1)), (5, (.slice x2.A x2.n x2.c)), (6, (.slice s.1 s.2.1 s.2.2.1)), (8, (i6 p8))]) (fun s => .box x1 25 [(.slice a0_0_A a0_0_n a0_0_c), (.slice a0_1_A a0_1_n a0_1_c), (.slice a0_2_A a0_2_n a0_2_c)] :: .row x2.A x2.c 3 1 (ii s.2.2.2.2) :: .row s.1 s.2.2.1 3 1 (ii s.2.2.2.1) :: F) (fun s => κ2 s.2.2.2.1 s.2.2.2.2 = some r1 ∧ (s.2.2.2.1.length = s.2.1) ∧ (s.2.2.2.2.length = x2.n)) ?_ ?_
          · refine j_block ?_
            refine j_loop (σ := (Option Addr) × Nat × Nat × (List Int) × Int × (List Int)) (fun s => [(2, (pt x1)), (5, (.slice x2.A x2.n x2.c)), (6, (.slice s.1 s.2.1 s.2.2.1)), (8, (i6 p8)), (9, (i6 (rd l21 p8))), (10, (.slice x6 2 2)), (11, (i6 s.2.2.2.2.1))]) (fun s => .box x1 25 [(.slice a0_0_A a0_0_n a0_0_c), (.slice a0_1_A a0_1_n a0_1_c), (.slice a0_2_A a0_2_n a0_2_c)] :: .row x2.A x2.c 3 1 (ii s.2.2.2.2.2) :: .row x6 2 3 1 (ii ([(rd a0_0 (rd l21 p8)), (rd a0_1 (rd l21 p8))] : List Int)) :: .row s.1 s.2.2.1 3 1 (ii s.2.2.2.1) :: F) (fun m s => spec_l2Distances.loop2 K κ2 a0_0 a0_1 l21 p8 m s.2.2.2.1 s.2.2.2.2.1 s.2.2.2.2.2 = some r1 ∧ (s.2.2.2.1.length = s.2.1) ∧ (s.2.2.2.2.2.length = x2.n)) K (A11, n11, d11, l21, (0:Int), l22) ⟨h, q21, q22⟩ (fun a he => he.sub ⟨rfl, rfl, rfl, rfl, rfl, rfl, rfl, trivial⟩) (fun w h => h.pick 4 [1, 2, 0, 3] rfl) ?_
            rintro m ⟨A16, n16, d16, l32, p12, l33⟩ ⟨h, q32, q33⟩
            cases m with
            | zero => exact absurd h (by rw [spec_l2Distances.loop2]; exact nofun)
            | succ m =>
              rw [spec_l2Distances.loop2] at h
              show J _ _ [(2, (pt x1)), (5, (.slice x2.A x2.n x2.c)), (6, (.slice A16 n16 d16)), (8, (i6 p8)), (9, (i6 (rd l21 p8))), (10, (.slice x6 2 2)), (11, (i6 p12))] _ (.box x1 25 [(.slice a0_0_A a0_0_n a0_0_c), (.slice a0_1_A a0_1_n a0_1_c), (.slice a0_2_A a0_2_n a0_2_c)] :: .row x2.A x2.c 3 1 (ii l33) :: .row x6 2 3 1 (ii ([(rd a0_0 (rd l21 p8)), (rd a0_1 (rd l21 p8))] : List Int)) :: .row A16 d16 3 1 (ii l32) :: F)
              refine j_seq ?_
              refine j_seq ?_
              refine j_region ?_
              refine r_q (q_move rfl rfl) rfl rfl ?_
              refine r_q (q_lss rfl rfl rfl) rfl rfl ?_
              refine r_nil ?_
              refine j_then ?_
              rcases of_if h with ⟨c142, h⟩ | ⟨c142, h⟩
              · refine j_true rfl (decide_eq_true c142) ?_
                refine j_skip ?_
                refine j_then ?_
                refine j_seq ?_
                refine j_block ?_
                refine j_seq ?_
                refine j_region ?_
                refine r_q (q_move rfl rfl) rfl rfl ?_
                refine r_q (q_move rfl rfl) rfl rfl ?_
                obtain ⟨c143, h⟩ := of_guard h
                refine r_q (q_ix (Rd.row 2 rfl) (ints_len1 _ ([(rd a0_0 (rd l21 p8)), (rd a0_1 (rd l21 p8))] : List Int)) (by decide) rfl c143 un23 sz3 rfl rfl rfl) rfl rfl ?_
                refine r_q (q_ldI (Rd.row 2 rfl) c143 ag3 rfl rfl) rfl rfl ?_
                refine r_q (q_neq rfl rfl rfl) rfl rfl ?_
                refine r_q (q_move rfl rfl) rfl rfl ?_
                rcases of_if h with ⟨c144, h⟩ | ⟨c144, h⟩
                · refine r_off rfl rfl rfl rfl (bne_f c144) rfl ?_
                  refine r_off rfl rfl rfl rfl (bne_f c144) rfl ?_
                  refine r_off rfl rfl rfl rfl (bne_f c144) rfl ?_
                  refine r_off rfl rfl rfl rfl (bne_f c144) rfl ?_
                  refine r_off rfl rfl rfl rfl (bne_f c144) rfl ?_
                  refine r_off rfl rfl rfl rfl (bne_f c144) rfl ?_
                  refine r_off rfl rfl rfl rfl (bne_f c144) rfl ?_
                  refine r_off rfl rfl rfl rfl (bne_f c144) rfl ?_
                  refine r_q (q_pick_f rfl rfl (bne_f c144) rfl) rfl rfl ?_
                  refine r_nil ?_
                  refine j_then ?_
                  refine j_false rfl rfl ?_
                  refine j_skip ?_
                  refine j_in ?_
                  refine j_then ?_
                  refine j_region ?_
                  refine r_q (q_move rfl rfl) rfl rfl ?_
                  refine r_q (q_add rfl rfl rfl) rfl rfl ?_
                  refine r_q (q_assign rfl rfl) rfl rfl ?_
                  refine r_nil ?_
                  refine j_then ?_
                  exact j_again m (A16, n16, d16, l32, (wrap64 (p12 + (1:Int))), l33) (Nat.lt_succ_self m) ⟨h, q32, q33⟩ (fun a he => he.sub ⟨rfl, rfl, rfl, rfl, rfl, rfl, rfl, trivial⟩) (fun w h => h)
                · refine r_qon (q_move rfl rfl) rfl rfl rfl rfl (bne_t c144) rfl ?_
                  refine r_qon (q_move rfl rfl) rfl rfl rfl rfl (bne_t c144) rfl ?_
                  refine r_qon (q_move rfl rfl) rfl rfl rfl rfl (bne_t c144) rfl ?_
                  refine r_qon (q_ix (Rd.row 2 rfl) (ints_len1 _ ([(rd a0_0 (rd l21 p8)), (rd a0_1 (rd l21 p8))] : List Int)) (by decide) rfl c143 un23 sz3 rfl rfl rfl) rfl rfl rfl rfl (bne_t c144) rfl ?_
                  refine r_qon (q_ldI (Rd.row 2 rfl) c143 ag3 rfl rfl) rfl rfl rfl rfl (bne_t c144) rfl ?_
                  obtain ⟨c145, h⟩ := of_guard h
                  refine r_qon (q_ix (Rd.row 1 rfl) (ints_len1 _ l33) (by decide) q33 c145 un23 sz3 rfl rfl rfl) rfl rfl rfl rfl (bne_t c144) rfl ?_
                  refine r_qon (q_ldI (Rd.row 1 rfl) c145 ag3 rfl rfl) rfl rfl rfl rfl (bne_t c144) rfl ?_
                  refine r_qon (q_lss rfl rfl rfl) rfl rfl rfl rfl (bne_t c144) rfl ?_
                  refine r_q (q_pick_t rfl rfl (bne_t c144) rfl) rfl rfl ?_
                  refine r_nil ?_
                  refine j_then ?_
                  rcases of_if h with ⟨c146, h⟩ | ⟨c146, h⟩
                  · refine j_true rfl (decide_eq_true c146) ?_
                    refine j_seq ?_
                    obtain ⟨c147, h⟩ := of_guard h
                    refine j_draw (.box x1 25 [(.slice a0_0_A a0_0_n a0_0_c), (.slice a0_1_A a0_1_n a0_1_c), (.slice a0_2_A a0_2_n a0_2_c)] :: .row x6 2 3 1 (ii ([(rd a0_0 (rd l21 p8)), (rd a0_1 (rd l21 p8))] : List Int)) :: .row A16 d16 3 1 (ii l32) :: F) 12 follows_any rfl ?_
                    refine d_take 0 rfl (q_move rfl rfl) rfl rfl (by kernel_rfl) (by kernel_rfl) (by kernel_rfl) (fun w h => h.pick 4 [0, 2, 3] rfl) ?_
                    refine d_take 1 rfl (q_move rfl rfl) rfl rfl (by kernel_rfl) (by kernel_rfl) (by kernel_rfl) (fun w h => h.pick 4 [0, 2, 3] rfl) ?_
                    refine d_take 2 rfl (q_move rfl rfl) rfl rfl (by kernel_rfl) (by kernel_rfl) (by kernel_rfl) (fun w h => h.pick 4 [0, 2, 3] rfl) ?_
                    refine d_take 3 rfl (q_ix (Rd.row 1 rfl) (ints_len1 _ ([(rd a0_0 (rd l21 p8)), (rd a0_1 (rd l21 p8))] : List Int)) (by decide) rfl c143 un23 sz3 rfl rfl rfl) rfl rfl (by kernel_rfl) (by kernel_rfl) (by kernel_rfl) (fun w h => h.pick 4 [0, 2, 3] rfl) ?_
                    refine d_take 4 rfl (q_ldI (Rd.row 1 rfl) c143 ag3 rfl rfl) rfl rfl (by kernel_rfl) (by kernel_rfl) (by kernel_rfl) (fun w h => h.pick 4 [0, 2, 3] rfl) ?_
                    refine d_take 5 rfl (q_move rfl rfl) rfl rfl (by kernel_rfl) (by kernel_rfl) (by kernel_rfl) (fun w h => h.pick 4 [0, 2, 3] rfl) ?_
                    refine d_take 6 rfl (q_move rfl rfl) rfl rfl (by kernel_rfl) (by kernel_rfl) (by kernel_rfl) (fun w h => h.pick 4 [0, 2, 3] rfl) ?_
                    refine d_one 7 (by kernel_rfl) ?_
                    refine o_do rfl ((q_ix (Rd.row 1 rfl) (ints_len1 _ l33) (by decide) q33 c147 un23 sz3 rfl rfl rfl)).acts rfl rfl (fun _ w h => h.pick 4 [0, 2, 3] rfl) (fun _ => ?_)
                    refine d_one 8 (by kernel_rfl) ?_
                    refine o_do rfl ((q_ldI (Rd.row 1 rfl) c147 ag3 rfl rfl)).acts rfl rfl (fun _ w h => h.pick 4 [0, 2, 3] rfl) (fun _ => ?_)
                    refine d_take 9 rfl (q_add rfl rfl rfl) rfl rfl (by kernel_rfl) (by kernel_rfl) (by kernel_rfl) (fun w h => h.pick 4 [0, 2, 3] rfl) ?_
                    refine d_one 10 (by kernel_rfl) ?_
                    refine o_do rfl ((q_ix (Rd.row 1 rfl) (ints_len1 _ l33) (by decide) q33 c145 un23 sz3 rfl rfl rfl)).acts rfl rfl (fun _ w h => h.pick 4 [0, 2, 3] rfl) (fun _ => ?_)
                    refine d_one 11 (by kernel_rfl) ?_
                    refine o_do rfl (a_stI 1 rfl c145 sz3 rfl rfl rfl) rfl rfl (fun _ w h => h.pick 4 [0, 2, 3] rfl) (fun _ => ?_)
                    refine j_s1 ?_
                    refine d_done (by kernel_rfl) ?_
                    refine j_then ?_
                    refine j_region ?_
                    refine r_q (q_move rfl rfl) rfl rfl ?_
                    refine r_q (q_move rfl rfl) rfl rfl ?_
                    refine r_q (q_move rfl rfl) rfl rfl ?_
                    refine r_q (q_ix (Rd.row 2 rfl) (ints_len1 _ ([(rd a0_0 (rd l21 p8)), (rd a0_1 (rd l21 p8))] : List Int)) (by decide) rfl c143 un23 sz3 rfl rfl rfl) rfl rfl ?_
                    refine r_q (q_ldI (Rd.row 2 rfl) c143 ag3 rfl rfl) rfl rfl ?_
                    refine r_do (a_litX (vs := [(i6 (rd ([(rd a0_0 (rd l21 p8)), (rd a0_1 (rd l21 p8))] : List Int) p12))]) (ii ([(rd ([(rd a0_0 (rd l21 p8)), (rd a0_1 (rd l21 p8))] : List Int) p12)] : List Int)) un23 sz3 zr3 rfl rfl rfl rfl rfl rfl rfl rfl rfl) rfl rfl (fun x7 => ?_)
                    obtain ⟨c148, h⟩ := of_guard h
                    refine r_do (a_appI (xs := l32) (ys := ([(rd ([(rd a0_0 (rd l21 p8)), (rd a0_1 (rd l21 p8))] : List Int) p12)] : List Int)) 4 un23 un23 sz3 by3 zr3 rfl rfl rfl rfl rfl rfl rfl rfl rfl q32 rfl (Rd.row 0 rfl) c148) rfl rfl (fun x8 => ?_)
                    refine j_s4 ?_
                    refine r_q (q_assign rfl rfl) rfl rfl ?_
                    refine r_nil ?_
                    refine j_in ?_
                    refine j_then ?_
                    refine j_region ?_
                    refine r_q (q_move rfl rfl) rfl rfl ?_
                    refine r_q (q_add rfl rfl rfl) rfl rfl ?_
                    refine r_q (q_assign rfl rfl) rfl rfl ?_
                    refine r_nil ?_
                    refine j_then ?_
                    exact j_again m (x8.1, (n16 + 1), x8.2, (l32 ++ ([(rd ([(rd a0_0 (rd l21 p8)), (rd a0_1 (rd l21 p8))] : List Int) p12)] : List Int)), (wrap64 (p12 + (1:Int))), (l33.set (rd ([(rd a0_0 (rd l21 p8)), (rd a0_1 (rd l21 p8))] : List Int) p12).toNat (wrap64 ((rd l33 (rd l21 p8)) + (1:Int))))) (Nat.lt_succ_self m) ⟨h, (app_len q32 rfl), (set_len q33 _ _)⟩ (fun a he => he.sub ⟨rfl, rfl, rfl, rfl, rfl, rfl, rfl, trivial⟩) (fun w h => h.tail)
                  · refine j_false rfl (decide_eq_false c146) ?_
                    refine j_skip ?_
                    refine j_in ?_
                    refine j_then ?_
                    refine j_region ?_
                    refine r_q (q_move rfl rfl) rfl rfl ?_
                    refine r_q (q_add rfl rfl rfl) rfl rfl ?_
                    refine r_q (q_assign rfl rfl) rfl rfl ?_
                    refine r_nil ?_
                    refine j_then ?_
                    exact j_again m (A16, n16, d16, l32, (wrap64 (p12 + (1:Int))), l33) (Nat.lt_succ_self m) ⟨h, q32, q33⟩ (fun a he => he.sub ⟨rfl, rfl, rfl, rfl, rfl, rfl, rfl, trivial⟩) (fun w h => h)
              · refine j_false rfl (decide_eq_false c142) ?_
                refine j_exit ?_
                refine j_then_exit ?_
                refine j_then_exit ?_
                refine j_in_exit ?_
                refine j_then ?_
                exact j_meet (A16, n16, d16, l32, l33) ⟨h, q32, q33⟩ (fun a he => he.sub ⟨rfl, rfl, rfl, rfl, trivial⟩) (fun w h => h.pick 4 [0, 1, 3] rfl)
          · rintro ⟨A17, n17, d17, l34, l35⟩ ⟨h, q34, q35⟩
            subst hκ2
            show J _ _ [(2, (pt x1)), (5, (.slice x2.A x2.n x2.c)), (6, (.slice A17 n17 d17)), (8, (i6 p8))] _ (.box x1 25 [(.slice a0_0_A a0_0_n a0_0_c), (.slice a0_1_A a0_1_n a0_1_c), (.slice a0_2_A a0_2_n a0_2_c)] :: .row x2.A x2.c 3 1 (ii l35) :: .row A17 d17 3 1 (ii l34) :: F)
            refine j_in ?_
            refine j_then ?_
            refine j_region ?_
            refine r_q (q_move rfl rfl) rfl rfl ?_
            refine r_q (q_add rfl rfl rfl) rfl rfl ?_
            refine r_q (q_assign rfl rfl) rfl rfl ?_
            refine r_nil ?_
            refine j_then ?_
            exact j_again m (A17, n17, d17, l34, (wrap64 (p8 + (1:Int))), l35) (Nat.lt_succ_self m) ⟨h, q34, q35⟩ (fun a he => he.sub ⟨rfl, rfl, rfl, rfl, trivial⟩) (fun w h => h)
        · refine j_false rfl (decide_eq_false c118) ?_
          refine j_exit ?_
          refine j_then_exit ?_
          refine j_then_exit ?_
          refine j_in_exit ?_
          refine j_then ?_
          exact j_meet l22 ⟨h, q22⟩ (fun a he => he.sub ⟨rfl, trivial⟩) (fun w h => h.pick 3 [1] rfl)
    · rintro l29 ⟨h, q29⟩
      subst hκ1
      show J _ _ [(5, (.slice x2.A x2.n x2.c))] _ (.row x2.A x2.c 3 1 (ii l29) :: F)
      refine j_then ?_
      refine j_seq ?_
      refine j_region ?_
      refine r_q (q_move rfl rfl) rfl rfl ?_
      refine r_q (q_assign rfl rfl) rfl rfl ?_
      refine r_nil ?_
      refine j_then ?_
      refine j_ret ?_
      cases h
      exact j_return rfl (ResOf.tmp rfl ResOf.nil) rfl (fun w h => ⟨⟨x2.A, x2.n, x2.c, q29⟩, rfl, h⟩)

theorem spec_Reachable.calls (K : Nat) (a0_0 : List Int) (a0_0_A : Option Addr) (a0_0_n a0_0_c : Nat) (a0_1 : List Int) (a0_1_A : Option Addr) (a0_1_n a0_1_c : Nat) (a0_2 : List Int) (a0_2_A : Option Addr) (a0_2_n a0_2_c : Nat) {w0 w : World} {F : List Res} {r1 : List Bool} (hm : Mem w0 (F) w) (a0_0_h : a0_0.length = a0_0_n) (a0_0_R : Rd w0 F a0_0_A (ii a0_0)) (a0_1_h : a0_1.length = a0_1_n) (a0_1_R : Rd w0 F a0_1_A (ii a0_1)) (a0_2_h : a0_2.length = a0_2_n) (a0_2_R : Rd w0 F a0_2_A (ii a0_2)) (h : spec_Reachable.f K a0_0 a0_1 a0_2 = some r1) :
    Calls Try.prog 102 (List.toArray [.agg (List.toArray [.slice a0_0_A a0_0_n a0_0_c, .slice a0_1_A a0_1_n a0_1_c, .slice a0_2_A a0_2_n a0_2_c])]) w fun e w' => ∃ x : (Sl r1.length), e = .returned (.slice x.A x.n x.c) ∧ Mem w0 (.row x.A x.c 4 1 (bls r1) :: F) w' := by
  unfold spec_Reachable.f at h
  refine calls_of_J (n := 30) Try.func102 rfl rfl rfl hm ?_
  refine j_seq ?_
  refine j_region ?_
  refine r_do (a_box rfl rfl) rfl rfl (fun x1 => ?_)
  refine r_q (q_assign rfl rfl) rfl rfl ?_
  refine r_nil ?_
  refine j_then ?_
  refine j_seq ?_
  refine j_region ?_
  refine r_do (a_litX (vs := []) (bls ([] : List Bool)) un104 sz4 zr4 rfl rfl rfl rfl rfl rfl rfl rfl rfl) rfl rfl (fun x2 => ?_)
  refine r_q (q_assign rfl rfl) rfl rfl ?_
  refine r_nil ?_
  refine j_then ?_
  refine j_seq ?_
  refine j_seq ?_
  refine j_region ?_
  refine r_q (q_loadb_agg 1 rfl ag25 sz25 rfl rfl rfl rfl) rfl rfl ?_
  obtain ⟨v1, hb1, h⟩ := of_b1 h
  refine r_do (a_call ok85 rfl rfl rfl rfl (fun w hm => spec_HeapValid.calls K a0_0 a0_0_A a0_0_n a0_0_c a0_1 a0_1_A a0_1_n a0_1_c a0_2 a0_2_A a0_2_n a0_2_c hm a0_0_h (Rd.drop 2 a0_0_R) a0_1_h (Rd.drop 2 a0_1_R) a0_2_h (Rd.drop 2 a0_2_R) hb1)) rfl rfl (fun x3 => ?_)
  refine r_q (q_not rfl rfl) rfl rfl ?_
  refine r_nil ?_
  refine j_then ?_
  rcases of_if h with ⟨c1, h⟩ | ⟨c1, h⟩
  · refine j_false rfl (not_f c1) ?_
    refine j_skip ?_
    refine j_then ?_
    refine j_seq ?_
    refine j_region ?_
    refine r_q (q_loadb_agg 1 rfl ag25 sz25 rfl rfl rfl rfl) rfl rfl ?_
    refine r_q (q_fieldAddr fi25_2 sz23 rfl rfl rfl) rfl rfl ?_
    refine r_q (q_loadb 1 rfl ag23 rfl rfl rfl) rfl rfl ?_
    obtain ⟨v2, hb2, h⟩ := of_b1 h
    refine r_do (a_call ok103 rfl rfl rfl rfl (fun w hm => spec_l2Distances.calls K a0_0 a0_0_A a0_0_n a0_0_c a0_1 a0_1_A a0_1_n a0_1_c a0_2_A a0_2_n a0_2_c a0_2 a0_2_A a0_2_n a0_2_c hm a0_0_h (Rd.drop 2 a0_0_R) a0_1_h (Rd.drop 2 a0_1_R) a0_2_h (Rd.drop 2 a0_2_R) hb2)) rfl rfl (fun x4 => ?_)
    refine r_q (q_assign rfl rfl) rfl rfl ?_
    refine r_nil ?_
    refine j_then ?_
    refine j_seq ?_
    refine j_seq ?_
    refine j_region ?_
    refine r_q (q_assign rfl rfl) rfl rfl ?_
    refine r_nil ?_
    refine j_then ?_
    obtain ⟨κ0, h, hκ0⟩ := ex_k (g := fun κ => spec_Reachable.loop0 K κ v2 K ([] : List Bool) (0:Int) = some r1) h
    refine j_cut (σ := (Option Addr) × Nat × Nat × (List Bool)) (fun s => [(3, (.slice s.1 s.2.1 s.2.2.1))]) (fun s => .row s.1 s.2.2.1 4 1 (bls s.2.2.2) :: F) (fun s => κ0 s.2.2.2 = some r1 ∧ (s.2.2.2.length = s.2.1)) ?_ ?_
    · refine j_block ?_
      refine j_loop (σ := (Option Addr) × Nat × Nat × (List Bool) × Int) (fun s => [(3, (.slice s.1 s.2.1 s.2.2.1)), (4, (.slice x4.A x4.n x4.c)), (5, (i6 s.2.2.2.2))]) (fun s => .row x4.A x4.c 3 1 (ii v2) :: .row s.1 s.2.2.1 4 1 (bls s.2.2.2.1) :: F) (fun m s => spec_Reachable.loop0 K κ0 v2 m s.2.2.2.1 s.2.2.2.2 = some r1 ∧ (s.2.2.2.1.length = s.2.1)) K (x2, 0, 0, ([] : List Bool), (0:Int)) ⟨h, rfl⟩ (fun a he => he.sub ⟨rfl, rfl, rfl, trivial⟩) (fun w h => h.pick 3 [0, 1] rfl) ?_
      rintro m ⟨A2, n2, d2, l2, p2⟩ ⟨h, q2⟩
      cases m with
      | zero => exact absurd h (by rw [spec_Reachable.loop0]; exact nofun)
      | succ m =>
        rw [spec_Reachable.loop0] at h
        show J _ _ [(3, (.slice A2 n2 d2)), (4, (.slice x4.A x4.n x4.c)), (5, (i6 p2))] _ (.row x4.A x4.c 3 1 (ii v2) :: .row A2 d2 4 1 (bls l2) :: F)
        refine j_seq ?_
        refine j_seq ?_
        refine j_region ?_
        refine r_q (q_move rfl rfl) rfl rfl ?_
        refine r_q (q_move rfl rfl) rfl rfl ?_
        refine r_q (q_lenX v2 x4.h un23 rfl rfl rfl rfl rfl) rfl rfl ?_
        refine r_q (q_lss rfl rfl rfl) rfl rfl ?_
        refine r_nil ?_
        refine j_then ?_
        rcases of_if h with ⟨c11, h⟩ | ⟨c11, h⟩
        · refine j_true rfl (decide_eq_true c11) ?_
          refine j_skip ?_
          refine j_then ?_
          refine j_seq ?_
          refine j_block ?_
          refine j_region ?_
          refine r_q (q_move rfl rfl) rfl rfl ?_
          refine r_q (q_move rfl rfl) rfl rfl ?_
          refine r_q (q_move rfl rfl) rfl rfl ?_
          obtain ⟨c12, h⟩ := of_guard h
          refine r_q (q_ix (Rd.row 0 rfl) (ints_len1 _ v2) (by decide) x4.h c12 un23 sz3 rfl rfl rfl) rfl rfl ?_
          refine r_q (q_ldI (Rd.row 0 rfl) c12 ag3 rfl rfl) rfl rfl ?_
          refine r_q (q_gtr rfl rfl rfl) rfl rfl ?_
          refine r_do (a_litX (vs := [(.bool (decide ((rd v2 p2) > (0:Int))))]) (bls ([(decide ((rd v2 p2) > (0:Int)))] : List Bool)) un104 sz4 zr4 rfl rfl rfl rfl rfl rfl rfl rfl rfl) rfl rfl (fun x5 => ?_)
          obtain ⟨c13, h⟩ := of_guard h
          refine r_do (a_appB (xs := l2) (ys := ([(decide ((rd v2 p2) > (0:Int)))] : List Bool)) 2 un104 un104 sz4 by4 zr4 rfl rfl rfl rfl rfl rfl rfl rfl rfl q2 rfl (Rd.row 0 rfl) c13) rfl rfl (fun x6 => ?_)
          refine j_s2 ?_
          refine r_q (q_assign rfl rfl) rfl rfl ?_
          refine r_nil ?_
          refine j_in ?_
          refine j_then ?_
          refine j_region ?_
          refine r_q (q_move rfl rfl) rfl rfl ?_
          refine r_q (q_add rfl rfl rfl) rfl rfl ?_
          refine r_q (q_assign rfl rfl) rfl rfl ?_
          refine r_nil ?_
          refine j_then ?_
          exact j_again m (x6.1, (n2 + 1), x6.2, (l2 ++ ([(decide ((rd v2 p2) > (0:Int)))] : List Bool)), (wrap64 (p2 + (1:Int)))) (Nat.lt_succ_self m) ⟨h, (app_len q2 rfl)⟩ (fun a he => he.sub ⟨rfl, rfl, rfl, trivial⟩) (fun w h => h.tail)
        · refine j_false rfl (decide_eq_false c11) ?_
          refine j_exit ?_
          refine j_then_exit ?_
          refine j_then_exit ?_
          refine j_in_exit ?_
          refine j_then ?_
          exact j_meet (A2, n2, d2, l2) ⟨h, q2⟩ (fun a he => he.sub ⟨rfl, trivial⟩) (fun w h => h.tail)
    · rintro ⟨A3, n3, d3, l3⟩ ⟨h, q3⟩
      subst hκ0
      show J _ _ [(3, (.slice A3 n3 d3))] _ (.row A3 d3 4 1 (bls l3) :: F)
      refine j_then ?_
      refine j_seq ?_
      refine j_region ?_
      refine r_q (q_move rfl rfl) rfl rfl ?_
      refine r_q (q_assign rfl rfl) rfl rfl ?_
      refine r_nil ?_
      refine j_then ?_
      refine j_ret ?_
      cases h
      exact j_return rfl (ResOf.tmp rfl ResOf.nil) rfl (fun w h => ⟨⟨A3, n3, d3, q3⟩, rfl, h⟩)
  · refine j_true rfl (not_t (var_f c1)) ?_
    refine j_seq ?_
    refine j_region ?_
    refine r_q (q_move rfl rfl) rfl rfl ?_
    refine r_q (q_assign rfl rfl) rfl rfl ?_
    refine r_nil ?_
    refine j_then ?_
    refine j_ret ?_
    refine j_then_ret ?_
    cases h
    exact j_return rfl (ResOf.tmp rfl ResOf.nil) rfl (fun w h => ⟨⟨x2, 0, 0, rfl⟩, rfl, h.pick 2 [0] rfl⟩)

theorem spec_GarbageOf.calls (K : Nat) (a0_0 : List Int) (a0_0_A : Option Addr) (a0_0_n a0_0_c : Nat) (a0_1 : List Int) (a0_1_A : Option Addr) (a0_1_n a0_1_c : Nat) (a0_2 : List Int) (a0_2_A : Option Addr) (a0_2_n a0_2_c : Nat) {w0 w : World} {F : List Res} {r1 : List Int} (hm : Mem w0 (F) w) (a0_0_h : a0_0.length = a0_0_n) (a0_0_R : Rd w0 F a0_0_A (ii a0_0)) (a0_1_h : a0_1.length = a0_1_n) (a0_1_R : Rd w0 F a0_1_A (ii a0_1)) (a0_2_h : a0_2.length = a0_2_n) (a0_2_R : Rd w0 F a0_2_A (ii a0_2)) (h : spec_GarbageOf.f K a0_0 a0_1 a0_2 = some r1) :
    Calls Try.prog 101 (List.toArray [.agg (List.toArray [.slice a0_0_A a0_0_n a0_0_c, .slice a0_1_A a0_1_n a0_1_c, .slice a0_2_A a0_2_n a0_2_c])]) w fun e w' => ∃ x : (Sl r1.length), e = .returned (.slice x.A x.n x.c) ∧ Mem w0 (.row x.A x.c 3 1 (ii r1) :: F) w' := by
  unfold spec_GarbageOf.f at h
  refine calls_of_J (n := 25) Try.func101 rfl rfl rfl hm ?_
  refine j_seq ?_
  refine j_region ?_
  refine r_do (a_box rfl rfl) rfl rfl (fun x1 => ?_)
  refine r_q (q_assign rfl rfl) rfl rfl ?_
  refine r_nil ?_
  refine j_then ?_
  refine j_seq ?_
  refine j_region ?_
  refine r_do (a_litX (vs := []) (ii ([] : List Int)) un23 sz3 zr3 rfl rfl rfl rfl rfl rfl rfl rfl rfl) rfl rfl (fun x2 => ?_)
  refine r_q (q_assign rfl rfl) rfl rfl ?_
  refine r_nil ?_
  refine j_then ?_
  refine j_seq ?_
  refine j_region ?_
  refine r_q (q_loadb_agg 1 rfl ag25 sz25 rfl rfl rfl rfl) rfl rfl ?_
  obtain ⟨v1, hb1, h⟩ := of_b1 h
  refine r_do (a_call ok102 rfl rfl rfl rfl (fun w hm => spec_Reachable.calls K a0_0 a0_0_A a0_0_n a0_0_c a0_1 a0_1_A a0_1_n a0_1_c a0_2 a0_2_A a0_2_n a0_2_c hm a0_0_h (Rd.drop 2 a0_0_R) a0_1_h (Rd.drop 2 a0_1_R) a0_2_h (Rd.drop 2 a0_2_R) hb1)) rfl rfl (fun x3 => ?_)
  refine r_q (q_assign rfl rfl) rfl rfl ?_
  refine r_nil ?_
  refine j_then ?_
  refine j_seq ?_
  refine j_seq ?_
  refine j_region ?_
  refine r_q (q_assign rfl rfl) rfl rfl ?_
  refine r_nil ?_
  refine j_then ?_
  obtain ⟨κ0, h, hκ0⟩ := ex_k (g := fun κ => spec_GarbageOf.loop0 K κ v1 K ([] : List Int) (0:Int) = some r1) h
  refine j_cut (σ := (Option Addr) × Nat × Nat × (List Int)) (fun s => [(3, (.slice s.1 s.2.1 s.2.2.1))]) (fun s => .row s.1 s.2.2.1 3 1 (ii s.2.2.2) :: F) (fun s => κ0 s.2.2.2 = some r1 ∧ (s.2.2.2.length = s.2.1)) ?_ ?_
  · refine j_block ?_
    refine j_loop (σ := (Option Addr) × Nat × Nat × (List Int) × Int) (fun s => [(3, (.slice s.1 s.2.1 s.2.2.1)), (4, (.slice x3.A x3.n x3.c)), (5, (i6 s.2.2.2.2))]) (fun s => .row x3.A x3.c 4 1 (bls v1) :: .row s.1 s.2.2.1 3 1 (ii s.2.2.2.1) :: F) (fun m s => spec_GarbageOf.loop0 K κ0 v1 m s.2.2.2.1 s.2.2.2.2 = some r1 ∧ (s.2.2.2.1.length = s.2.1)) K (x2, 0, 0, ([] : List Int), (0:Int)) ⟨h, rfl⟩ (fun a he => he.sub ⟨rfl, rfl, rfl, trivial⟩) (fun w h => h.pick 3 [0, 1] rfl) ?_
    rintro m ⟨A2, n2, d2, l2, p2⟩ ⟨h, q2⟩
    cases m with
    | zero => exact absurd h (by rw [spec_GarbageOf.loop0]; exact nofun)
    | succ m =>
      rw [spec_GarbageOf.loop0] at h
      show J _ _ [(3, (.slice A2 n2 d2)), (4, (.slice x3.A x3.n x3.c)), (5, (i6 p2))] _ (.row x3.A x3.c 4 1 (bls v1) :: .row A2 d2 3 1 (ii l2) :: F)
      refine j_seq ?_
      refine j_seq ?_
      refine j_region ?_
      refine r_q (q_move rfl rfl) rfl rfl ?_
      refine r_q (q_move rfl rfl) rfl rfl ?_
      refine r_q (q_lenX v1 x3.h un104 rfl rfl rfl rfl rfl) rfl rfl ?_
      refine r_q (q_lss rfl rfl rfl) rfl rfl ?_
      refine r_nil ?_
      refine j_then ?_
      rcases of_if h with ⟨c13, h⟩ | ⟨c13, h⟩
      · refine j_true rfl (decide_eq_true c13) ?_
        refine j_skip ?_
        refine j_then ?_
        refine j_seq ?_
        refine j_block ?_
        refine j_seq ?_
        refine j_region ?_
        refine r_q (q_move rfl rfl) rfl rfl ?_
        refine r_q (q_move rfl rfl) rfl rfl ?_
        obtain ⟨c14, h⟩ := of_guard h
        refine r_q (q_ix (Rd.row 0 rfl) (bls_len1 v1) (by decide) x3.h c14 un104 sz4 rfl rfl rfl) rfl rfl ?_
        refine r_q (q_ldB (Rd.row 0 rfl) c14 ag4 rfl rfl) rfl rfl ?_
        refine r_q (q_not rfl rfl) rfl rfl ?_
        refine r_nil ?_
        refine j_then ?_
        rcases of_if h with ⟨c15, h⟩ | ⟨c15, h⟩
        · refine j_false rfl (not_f c15) ?_
          refine j_skip ?_
          refine j_in ?_
          refine j_then ?_
          refine j_region ?_
          refine r_q (q_move rfl rfl) rfl rfl ?_
          refine r_q (q_add rfl rfl rfl) rfl rfl ?_
          refine r_q (q_assign rfl rfl) rfl rfl ?_
          refine r_nil ?_
          refine j_then ?_
          exact j_again m (A2, n2, d2, l2, (wrap64 (p2 + (1:Int)))) (Nat.lt_succ_self m) ⟨h, q2⟩ (fun a he => he.sub ⟨rfl, rfl, rfl, trivial⟩) (fun w h => h)
        · refine j_true rfl (not_t (var_f c15)) ?_
          refine j_region ?_
          refine r_q (q_move rfl rfl) rfl rfl ?_
          refine r_q (q_move rfl rfl) rfl rfl ?_
          refine r_do (a_litX (vs := [(i6 p2)]) (ii ([p2] : List Int)) un23 sz3 zr3 rfl rfl rfl rfl rfl rfl rfl rfl rfl) rfl rfl (fun x4 => ?_)
          obtain ⟨c16, h⟩ := of_guard h
          refine r_do (a_appI (xs := l2) (ys := ([p2] : List Int)) 2 un23 un23 sz3 by3 zr3 rfl rfl rfl rfl rfl rfl rfl rfl rfl q2 rfl (Rd.row 0 rfl) c16) rfl rfl (fun x5 => ?_)
          refine j_s2 ?_
          refine r_q (q_assign rfl rfl) rfl rfl ?_
          refine r_nil ?_
          refine j_in ?_
          refine j_then ?_
          refine j_region ?_
          refine r_q (q_move rfl rfl) rfl rfl ?_
          refine r_q (q_add rfl rfl rfl) rfl rfl ?_
          refine r_q (q_assign rfl rfl) rfl rfl ?_
          refine r_nil ?_
          refine j_then ?_
          exact j_again m (x5.1, (n2 + 1), x5.2, (l2 ++ ([p2] : List Int)), (wrap64 (p2 + (1:Int)))) (Nat.lt_succ_self m) ⟨h, (app_len q2 rfl)⟩ (fun a he => he.sub ⟨rfl, rfl, rfl, trivial⟩) (fun w h => h.tail)
      · refine j_false rfl (decide_eq_false c13) ?_
        refine j_exit ?_
        refine j_then_exit ?_
        refine j_then_exit ?_
        refine j_in_exit ?_
        refine j_then ?_
        exact j_meet (A2, n2, d2, l2) ⟨h, q2⟩ (fun a he => he.sub ⟨rfl, trivial⟩) (fun w h => h.tail)
  · rintro ⟨A3, n3, d3, l3⟩ ⟨h, q3⟩
    subst hκ0
    show J _ _ [(3, (.slice A3 n3 d3))] _ (.row A3 d3 3 1 (ii l3) :: F)
    refine j_then ?_
    refine j_seq ?_
    refine j_region ?_
    refine r_q (q_move rfl rfl) rfl rfl ?_
    refine r_q (q_assign rfl rfl) rfl rfl ?_
    refine r_nil ?_
    refine j_then ?_
    refine j_ret ?_
    cases h
    exact j_return rfl (ResOf.tmp rfl ResOf.nil) rfl (fun w h => ⟨⟨A3, n3, d3, q3⟩, rfl, h⟩)

theorem spec_LeakedOf.calls (K : Nat) (a0_0 : List Int) (a0_0_A : Option Addr) (a0_0_n a0_0_c : Nat) (a0_1 : List Int) (a0_1_A : Option Addr) (a0_1_n a0_1_c : Nat) (a0_2 : List Int) (a0_2_A : Option Addr) (a0_2_n a0_2_c : Nat) (a0_3 : List Int) (a0_3_A : Option Addr) (a0_3_n a0_3_c : Nat) {w0 w : World} {F : List Res} {r1 : List Int} (hm : Mem w0 (F) w) (a0_0_h : a0_0.length = a0_0_n) (a0_0_R : Rd w0 F a0_0_A (ii a0_0)) (a0_1_h : a0_1.length = a0_1_n) (a0_1_R : Rd w0 F a0_1_A (ii a0_1)) (a0_2_h : a0_2.length = a0_2_n) (a0_2_R : Rd w0 F a0_2_A (ii a0_2)) (a0_3_h : a0_3.length = a0_3_n) (a0_3_R : Rd w0 F a0_3_A (ii a0_3)) (a0_3_k : a0_3.length ≤ a0_3_c) (h : spec_LeakedOf.f K a0_0 a0_1 a0_2 a0_3 = some r1) :
    Calls Try.prog 98 (List.toArray [.agg (List.toArray [.slice a0_0_A a0_0_n a0_0_c, .slice a0_1_A a0_1_n a0_1_c, .slice a0_2_A a0_2_n a0_2_c, .slice a0_3_A a0_3_n a0_3_c])]) w fun e w' => ∃ x : (Sl r1.length), e = .returned (.slice x.A x.n x.c) ∧ Mem w0 (.row x.A x.c 3 1 (ii r1) :: F) w' := by
  unfold spec_LeakedOf.f at h
  refine calls_of_J (n := 36) Try.func98 rfl rfl rfl hm ?_
  refine j_seq ?_
  refine j_region ?_
  refine r_do (a_box rfl rfl) rfl rfl (fun x1 => ?_)
  refine r_q (q_assign rfl rfl) rfl rfl ?_
  refine r_nil ?_
  refine j_then ?_
  refine j_seq ?_
  refine j_region ?_
  refine r_do (a_litX (vs := []) (ii ([] : List Int)) un23 sz3 zr3 rfl rfl rfl rfl rfl rfl rfl rfl rfl) rfl rfl (fun x2 => ?_)
  refine r_q (q_assign rfl rfl) rfl rfl ?_
  refine r_nil ?_
  refine j_then ?_
  refine j_seq ?_
  refine j_seq ?_
  refine j_region ?_
  refine r_q (q_loadb_agg 1 rfl ag27 sz27 rfl rfl rfl rfl) rfl rfl ?_
  obtain ⟨v1, hb1, h⟩ := of_b1 h
  refine r_do (a_call ok60 rfl rfl rfl rfl (fun w hm => spec_StoreValid.calls K a0_0 a0_0_A a0_0_n a0_0_c a0_1 a0_1_A a0_1_n a0_1_c a0_2 a0_2_A a0_2_n a0_2_c a0_3 a0_3_A a0_3_n a0_3_c hm a0_0_h (Rd.drop 2 a0_0_R) a0_1_h (Rd.drop 2 a0_1_R) a0_2_h (Rd.drop 2 a0_2_R) a0_3_h (Rd.drop 2 a0_3_R) a0_3_k hb1)) rfl rfl (fun x3 => ?_)
  refine r_q (q_not rfl rfl) rfl rfl ?_
  refine r_nil ?_
  refine j_then ?_
  rcases of_if h with ⟨c1, h⟩ | ⟨c1, h⟩
  · refine j_false rfl (not_f c1) ?_
    refine j_skip ?_
    refine j_then ?_
    refine j_seq ?_
    refine j_region ?_
    refine r_q (q_fieldAddr fi27_0 sz25 rfl rfl rfl) rfl rfl ?_
    refine r_q (q_loadb_agg 1 rfl ag25 sz25 rfl rfl rfl rfl) rfl rfl ?_
    obtain ⟨v2, hb2, h⟩ := of_b1 h
    refine r_do (a_call ok101 rfl rfl rfl rfl (fun w hm => spec_GarbageOf.calls K a0_0 a0_0_A a0_0_n a0_0_c a0_1 a0_1_A a0_1_n a0_1_c a0_2 a0_2_A a0_2_n a0_2_c hm a0_0_h (Rd.drop 2 a0_0_R) a0_1_h (Rd.drop 2 a0_1_R) a0_2_h (Rd.drop 2 a0_2_R) hb2)) rfl rfl (fun x4 => ?_)
    refine r_q (q_assign rfl rfl) rfl rfl ?_
    refine r_nil ?_
    refine j_then ?_
    refine j_seq ?_
    refine j_seq ?_
    refine j_region ?_
    refine r_q (q_assign rfl rfl) rfl rfl ?_
    refine r_nil ?_
    refine j_then ?_
    obtain ⟨κ0, h, hκ0⟩ := ex_k (g := fun κ => spec_LeakedOf.loop0 K κ a0_3 v2 K ([] : List Int) (0:Int) = some r1) h
    refine j_cut (σ := (Option Addr) × Nat × Nat × (List Int)) (fun s => [(3, (.slice s.1 s.2.1 s.2.2.1))]) (fun s => .row s.1 s.2.2.1 3 1 (ii s.2.2.2) :: F) (fun s => κ0 s.2.2.2 = some r1 ∧ (s.2.2.2.length = s.2.1)) ?_ ?_
    · refine j_block ?_
      refine j_loop (σ := (Option Addr) × Nat × Nat × (List Int) × Int) (fun s => [(1, (pt x1)), (3, (.slice s.1 s.2.1 s.2.2.1)), (4, (.slice x4.A x4.n x4.c)), (5, (i6 s.2.2.2.2))]) (fun s => .box x1 27 [(.slice a0_0_A a0_0_n a0_0_c), (.slice a0_1_A a0_1_n a0_1_c), (.slice a0_2_A a0_2_n a0_2_c), (.slice a0_3_A a0_3_n a0_3_c)] :: .row x4.A x4.c 3 1 (ii v2) :: .row s.1 s.2.2.1 3 1 (ii s.2.2.2.1) :: F) (fun m s => spec_LeakedOf.loop0 K κ0 a0_3 v2 m s.2.2.2.1 s.2.2.2.2 = some r1 ∧ (s.2.2.2.1.length = s.2.1)) K (x2, 0, 0, ([] : List Int), (0:Int)) ⟨h, rfl⟩ (fun a he => he.sub ⟨rfl, rfl, rfl, rfl, trivial⟩) (fun w h => h.pick 3 [2, 0, 1] rfl) ?_
      rintro m ⟨A2, n2, d2, l2, p2⟩ ⟨h, q2⟩
      cases m with
      | zero => exact absurd h (by rw [spec_LeakedOf.loop0]; exact nofun)
      | succ m =>
        rw [spec_LeakedOf.loop0] at h
        show J _ _ [(1, (pt x1)), (3, (.slice A2 n2 d2)), (4, (.slice x4.A x4.n x4.c)), (5, (i6 p2))] _ (.box x1 27 [(.slice a0_0_A a0_0_n a0_0_c), (.slice a0_1_A a0_1_n a0_1_c), (.slice a0_2_A a0_2_n a0_2_c), (.slice a0_3_A a0_3_n a0_3_c)] :: .row x4.A x4.c 3 1 (ii v2) :: .row A2 d2 3 1 (ii l2) :: F)
        refine j_seq ?_
        refine j_seq ?_
        refine j_region ?_
        refine r_q (q_move rfl rfl) rfl rfl ?_
        refine r_q (q_move rfl rfl) rfl rfl ?_
        refine r_q (q_lenX v2 x4.h un23 rfl rfl rfl rfl rfl) rfl rfl ?_
        refine r_q (q_lss rfl rfl rfl) rfl rfl ?_
        refine r_nil ?_
        refine j_then ?_
        rcases of_if h with ⟨c14, h⟩ | ⟨c14, h⟩
        · refine j_true rfl (decide_eq_true c14) ?_
          refine j_skip ?_
          refine j_then ?_
          refine j_seq ?_
          refine j_block ?_
          refine j_seq ?_
          obtain ⟨c15, h⟩ := of_guard h
          obtain ⟨v6, hb6, h⟩ := of_b1 h
          refine j_draw (.box x1 27 [(.slice a0_0_A a0_0_n a0_0_c), (.slice a0_1_A a0_1_n a0_1_c), (.slice a0_2_A a0_2_n a0_2_c), (.slice a0_3_A a0_3_n a0_3_c)] :: .row x4.A x4.c 3 1 (ii v2) :: .row A2 d2 3 1 (ii l2) :: F) 8 follows_any rfl ?_
          refine d_take 0 rfl (q_fieldAddr fi27_1 sz23 rfl rfl rfl) rfl rfl (by kernel_rfl) (by kernel_rfl) (by kernel_rfl) (fun w h => h) ?_
          refine d_take 1 rfl (q_loadb 0 rfl ag23 rfl rfl rfl) rfl rfl (by kernel_rfl) (by kernel_rfl) (by kernel_rfl) (fun w h => h) ?_
          refine d_take 2 rfl (q_move rfl rfl) rfl rfl (by kernel_rfl) (by kernel_rfl) (by kernel_rfl) (fun w h => h) ?_
          refine d_take 3 rfl (q_move rfl rfl) rfl rfl (by kernel_rfl) (by kernel_rfl) (by kernel_rfl) (fun w h => h) ?_
          refine d_take 4 rfl (q_ix (Rd.row 1 rfl) (ints_len1 _ v2) (by decide) x4.h c15 un23 sz3 rfl rfl rfl) rfl rfl (by kernel_rfl) (by kernel_rfl) (by kernel_rfl) (fun w h => h) ?_
          refine d_take 5 rfl (q_ldI (Rd.row 1 rfl) c15 ag3 rfl rfl) rfl rfl (by kernel_rfl) (by kernel_rfl) (by kernel_rfl) (fun w h => h) ?_
          refine d_one 6 (by kernel_rfl) ?_
          refine o_do rfl (a_call ok87 rfl rfl rfl rfl (fun w hm => spec_l4At.calls K a0_3 a0_3_A a0_3_n a0_3_c (rd v2 p2) hm a0_3_h (Rd.drop 3 a0_3_R) hb6)) rfl rfl (fun x5 w h => h) (fun x5 => ?_)
          refine d_take 7 rfl (q_lss rfl rfl rfl) rfl rfl (by kernel_rfl) (by kernel_rfl) (by kernel_rfl) (fun w h => h) ?_
          refine d_done (by kernel_rfl) ?_
          refine j_then ?_
          rcases of_if h with ⟨c16, h⟩ | ⟨c16, h⟩
          · refine j_true rfl (decide_eq_true c16) ?_
            refine j_region ?_
            refine r_q (q_move rfl rfl) rfl rfl ?_
            refine r_q (q_move rfl rfl) rfl rfl ?_
            refine r_q (q_move rfl rfl) rfl rfl ?_
            refine r_q (q_ix (Rd.row 1 rfl) (ints_len1 _ v2) (by decide) x4.h c15 un23 sz3 rfl rfl rfl) rfl rfl ?_
            refine r_q (q_ldI (Rd.row 1 rfl) c15 ag3 rfl rfl) rfl rfl ?_
            refine r_do (a_litX (vs := [(i6 (rd v2 p2))]) (ii ([(rd v2 p2)] : List Int)) un23 sz3 zr3 rfl rfl rfl rfl rfl rfl rfl rfl rfl) rfl rfl (fun x6 => ?_)
            obtain ⟨c17, h⟩ := of_guard h
            refine r_do (a_appI (xs := l2) (ys := ([(rd v2 p2)] : List Int)) 3 un23 un23 sz3 by3 zr3 rfl rfl rfl rfl rfl rfl rfl rfl rfl q2 rfl (Rd.row 0 rfl) c17) rfl rfl (fun x7 => ?_)
            refine j_s3 ?_
            refine r_q (q_assign rfl rfl) rfl rfl ?_
            refine r_nil ?_
            refine j_in ?_
            refine j_then ?_
            refine j_region ?_
            refine r_q (q_move rfl rfl) rfl rfl ?_
            refine r_q (q_add rfl rfl rfl) rfl rfl ?_
            refine r_q (q_assign rfl rfl) rfl rfl ?_
            refine r_nil ?_
            refine j_then ?_
            exact j_again m (x7.1, (n2 + 1), x7.2, (l2 ++ ([(rd v2 p2)] : List Int)), (wrap64 (p2 + (1:Int)))) (Nat.lt_succ_self m) ⟨h, (app_len q2 rfl)⟩ (fun a he => he.sub ⟨rfl, rfl, rfl, rfl, trivial⟩) (fun w h => h.tail)
          · refine j_false rfl (decide_eq_false c16) ?_
            refine j_skip ?_
            refine j_in ?_
            refine j_then ?_
            refine j_region ?_
            refine r_q (q_move rfl rfl) rfl rfl ?_
            refine r_q (q_add rfl rfl rfl) rfl rfl ?_
            refine r_q (q_assign rfl rfl) rfl rfl ?_
            refine r_nil ?_
            refine j_then ?_
            exact j_again m (A2, n2, d2, l2, (wrap64 (p2 + (1:Int)))) (Nat.lt_succ_self m) ⟨h, q2⟩ (fun a he => he.sub ⟨rfl, rfl, rfl, rfl, trivial⟩) (fun w h => h)
        · refine j_false rfl (decide_eq_false c14) ?_
          refine j_exit ?_
          refine j_then_exit ?_
          refine j_then_exit ?_
          refine j_in_exit ?_
          refine j_then ?_
          exact j_meet (A2, n2, d2, l2) ⟨h, q2⟩ (fun a he => he.sub ⟨rfl, trivial⟩) (fun w h => (h.drop 2))
    · rintro ⟨A3, n3, d3, l3⟩ ⟨h, q3⟩
      subst hκ0
      show J _ _ [(3, (.slice A3 n3 d3))] _ (.row A3 d3 3 1 (ii l3) :: F)
      refine j_then ?_
      refine j_seq ?_
      refine j_region ?_
      refine r_q (q_move rfl rfl) rfl rfl ?_
      refine r_q (q_assign rfl rfl) rfl rfl ?_
      refine r_nil ?_
      refine j_then ?_
      refine j_ret ?_
      cases h
      exact j_return rfl (ResOf.tmp rfl ResOf.nil) rfl (fun w h => ⟨⟨A3, n3, d3, q3⟩, rfl, h⟩)
  · refine j_true rfl (not_t (var_f c1)) ?_
    refine j_seq ?_
    refine j_region ?_
    refine r_q (q_move rfl rfl) rfl rfl ?_
    refine r_q (q_assign rfl rfl) rfl rfl ?_
    refine r_nil ?_
    refine j_then ?_
    refine j_ret ?_
    refine j_then_ret ?_
    cases h
    exact j_return rfl (ResOf.tmp rfl ResOf.nil) rfl (fun w h => ⟨⟨x2, 0, 0, rfl⟩, rfl, h.pick 2 [0] rfl⟩)

theorem spec_l4Case.calls (K : Nat) (a0 : List Int) (a0_A : Option Addr) (a0_n a0_c : Nat) {w0 w : World} {F : List Res} {r1 : List Int} {r2 : List Int} {r3 : List Int} {r4 : List Int} {r5 : Int} (hm : Mem w0 (F) w) (a0_h : a0.length = a0_n) (a0_R : Rd w0 F a0_A (ints .u8 a0)) (a0_k : a0.length ≤ a0_c) (h : spec_l4Case.f K a0 = some (r1, r2, r3, r4, r5)) :
    Calls Try.prog 90 (List.toArray [.slice a0_A a0_n a0_c]) w fun e w' => ∃ x : (Sl r1.length) × (Sl r2.length) × (Sl r3.length) × (Sl r4.length), e = .returned (.tuple (List.toArray [.agg (List.toArray [.slice x.1.A x.1.n x.1.c, .slice x.2.1.A x.2.1.n x.2.1.c, .slice x.2.2.1.A x.2.2.1.n x.2.2.1.c, .slice x.2.2.2.A x.2.2.2.n x.2.2.2.c]), i6 r5])) ∧ Mem w0 (.row x.1.A x.1.c 3 1 (ii r1) :: .row x.2.1.A x.2.1.c 3 1 (ii r2) :: .row x.2.2.1.A x.2.2.1.c 3 1 (ii r3) :: .row x.2.2.2.A x.2.2.2.c 3 1 (ii r4) :: F) w' := by
  unfold spec_l4Case.f at h
  refine calls_of_J (n := 36) Try.func90 rfl rfl rfl hm ?_
  refine j_seq ?_
  refine j_region ?_
  refine r_do (a_alloc zr27 rfl) rfl rfl (fun x1 => ?_)
  refine r_q (q_assign rfl rfl) rfl rfl ?_
  refine r_nil ?_
  refine j_then ?_
  refine j_seq ?_
  refine j_region ?_
  refine r_q (q_move rfl rfl) rfl rfl ?_
  obtain ⟨_, hb1, h⟩ := of_b1 h
  refine r_do (a_call ok57 rfl rfl rfl rfl (fun w hm => spec_l13Open.calls K a0 a0_A a0_n a0_c hm a0_h (Rd.drop 1 a0_R) a0_k hb1)) rfl rfl (fun x2 => ?_)
  refine r_q (q_assign rfl rfl) rfl rfl ?_
  refine r_nil ?_
  refine j_then ?_
  refine j_seq ?_
  refine j_region ?_
  refine r_q (q_move rfl rfl) rfl rfl ?_
  refine r_q (q_move rfl rfl) rfl rfl ?_
  obtain ⟨v1, v2, v3, v4, v5, hb2, h⟩ := of_b5 h
  refine r_do (a_call ok97 rfl rfl rfl rfl (fun w hm => spec_l4Draw.calls K x2 (a0.take 2000) a0_A (a0.take 2000).length a0_c (0:Int) hm rfl (rd_hiI (Rd.drop 1 a0_R) 2000) hb2)) rfl rfl (fun x3 => ?_)
  obtain ⟨v6, v7, v8, v9, v10, hb3, h⟩ := of_b5 h
  refine j_rs (.box x2 84 [(.slice a0_A (a0.take 2000).length a0_c), (i6 v5)] :: .row x3.1.A x3.1.c 3 1 (ii v1) :: .row x3.2.1.A x3.2.1.c 3 1 (ii v2) :: .row x3.2.2.1.A x3.2.2.1.c 3 1 (ii v3) :: .row x3.2.2.2.A x3.2.2.2.c 3 1 (ii v4) :: .box x1 27 [(.slice none 0 0), (.slice none 0 0), (.slice none 0 0), (.slice none 0 0)] :: F) (fun _ h => h.pick 6 [4, 0, 1, 2, 3, 5] rfl) ?_
  refine r_do (a_call ok83 rfl rfl rfl rfl (fun w hm => spec_l4Wrong.calls K x2 (a0.take 2000) a0_A (a0.take 2000).length a0_c v5 v1 x3.1.A x3.1.n x3.1.c v2 x3.2.1.A x3.2.1.n x3.2.1.c v3 x3.2.2.1.A x3.2.2.1.n x3.2.2.1.c v4 x3.2.2.2.A x3.2.2.2.n x3.2.2.2.c hm rfl (rd_hiI (Rd.drop 5 a0_R) 2000) x3.1.h (Rd.row 0 rfl) x3.2.1.h (Rd.row 1 rfl) x3.2.2.1.h (Rd.row 2 rfl) x3.2.2.2.h (Rd.row 3 rfl) hb3)) rfl rfl (fun x4 => ?_)
  refine r_do (a_alloc zr27 rfl) rfl rfl (fun x5 => ?_)
  refine r_do (a_storeb 0 rfl sz27 rfl rfl rfl rfl (Nat.le_of_ble_eq_true rfl) rfl) rfl rfl (fun _ => ?_)
  refine j_b0 [(.slice x4.1.A x4.1.n x4.1.c), (.slice x4.2.1.A x4.2.1.n x4.2.1.c), (.slice x4.2.2.1.A x4.2.2.1.n x4.2.2.1.c), (.slice x4.2.2.2.A x4.2.2.2.n x4.2.2.2.c)] rfl ?_
  refine r_nil ?_
  refine j_then ?_
  refine j_seq ?_
  refine j_region ?_
  refine r_q (q_move rfl rfl) rfl rfl ?_
  refine r_do (a_litX (vs := [(i6 (0:Int)), (i6 (1:Int)), (i6 (2:Int)), (i6 (3:Int)), (i6 (8:Int)), (i6 (-1:Int))]) (ii ([(0:Int), (1:Int), (2:Int), (3:Int), (8:Int), (-1:Int)] : List Int)) un23 sz3 zr3 rfl rfl rfl rfl rfl rfl rfl rfl rfl) rfl rfl (fun x6 => ?_)
  obtain ⟨v11, v12, hb4, h⟩ := of_b2 h
  refine j_rs (.box x2 84 [(.slice a0_A (a0.take 2000).length a0_c), (i6 v10)] :: .row x6 6 3 1 (ii ([(0:Int), (1:Int), (2:Int), (3:Int), (8:Int), (-1:Int)] : List Int)) :: .box x5 27 [(.slice x4.1.A x4.1.n x4.1.c), (.slice x4.2.1.A x4.2.1.n x4.2.1.c), (.slice x4.2.2.1.A x4.2.2.1.n x4.2.2.1.c), (.slice x4.2.2.2.A x4.2.2.2.n x4.2.2.2.c)] :: .row x4.1.A x4.1.c 3 1 (ii v6) :: .row x4.2.1.A x4.2.1.c 3 1 (ii v7) :: .row x4.2.2.1.A x4.2.2.1.c 3 1 (ii v8) :: .row x4.2.2.2.A x4.2.2.2.c 3 1 (ii v9) :: .row x3.1.A x3.1.c 3 1 (ii v1) :: .row x3.2.1.A x3.2.1.c 3 1 (ii v2) :: .row x3.2.2.1.A x3.2.2.1.c 3 1 (ii v3) :: .row x3.2.2.2.A x3.2.2.2.c 3 1 (ii v4) :: .box x1 27 [(.slice none 0 0), (.slice none 0 0), (.slice none 0 0), (.slice none 0 0)] :: F) (fun _ h => h.pick 12 [6, 0, 1, 2, 3, 4, 5, 7, 8, 9, 10, 11] rfl) ?_
  refine r_do (a_call ok80 rfl rfl rfl rfl (fun w hm => spec_l13Rd_num.calls K x2 (a0.take 2000) a0_A (a0.take 2000).length a0_c v10 ([(0:Int), (1:Int), (2:Int), (3:Int), (8:Int), (-1:Int)] : List Int) x6 6 6 hm rfl (rd_hiI (Rd.drop 11 a0_R) 2000) rfl (Rd.row 0 rfl) hb4)) rfl rfl (fun x7 => ?_)
  refine r_q (q_assign rfl rfl) rfl rfl ?_
  refine r_nil ?_
  refine j_then ?_
  refine j_seq ?_
  refine j_region ?_
  refine r_q (q_loadb_agg 2 rfl ag27 sz27 rfl rfl rfl rfl) rfl rfl ?_
  obtain ⟨v13, hb5, h⟩ := of_b1 h
  refine r_do (a_call ok98 rfl rfl rfl rfl (fun w hm => spec_LeakedOf.calls K v6 x4.1.A x4.1.n x4.1.c v7 x4.2.1.A x4.2.1.n x4.2.1.c v8 x4.2.2.1.A x4.2.2.1.n x4.2.2.1.c v9 x4.2.2.2.A x4.2.2.2.n x4.2.2.2.c hm x4.1.h (Rd.row 3 rfl) x4.2.1.h (Rd.row 4 rfl) x4.2.2.1.h (Rd.row 5 rfl) x4.2.2.2.h (Rd.row 6 rfl) (hm.roomI 6 rfl) hb5)) rfl rfl (fun x8 => ?_)
  refine r_q (q_assign rfl rfl) rfl rfl ?_
  refine r_nil ?_
  refine j_then ?_
  refine j_seq ?_
  refine j_seq ?_
  refine j_region ?_
  refine r_q (q_move rfl rfl) rfl rfl ?_
  refine r_q (q_lenX v13 x8.h un23 rfl rfl rfl rfl rfl) rfl rfl ?_
  refine r_q (q_gtr rfl rfl rfl) rfl rfl ?_
  refine r_q (q_move rfl rfl) rfl rfl ?_
  rcases of_if h with ⟨c1, h⟩ | ⟨c1, h⟩
  · refine r_qon (q_move rfl rfl) rfl rfl rfl rfl (decide_eq_true c1) rfl ?_
    obtain ⟨v14, v15, hb6, h⟩ := of_b2 h
    refine j_rs (.box x2 84 [(.slice a0_A (a0.take 2000).length a0_c), (i6 v12)] :: .row x8.A x8.c 3 1 (ii v13) :: .row x6 6 3 1 (ii ([(0:Int), (1:Int), (2:Int), (3:Int), (8:Int), (-1:Int)] : List Int)) :: .box x5 27 [(.slice x4.1.A x4.1.n x4.1.c), (.slice x4.2.1.A x4.2.1.n x4.2.1.c), (.slice x4.2.2.1.A x4.2.2.1.n x4.2.2.1.c), (.slice x4.2.2.2.A x4.2.2.2.n x4.2.2.2.c)] :: .row x4.1.A x4.1.c 3 1 (ii v6) :: .row x4.2.1.A x4.2.1.c 3 1 (ii v7) :: .row x4.2.2.1.A x4.2.2.1.c 3 1 (ii v8) :: .row x4.2.2.2.A x4.2.2.2.c 3 1 (ii v9) :: .row x3.1.A x3.1.c 3 1 (ii v1) :: .row x3.2.1.A x3.2.1.c 3 1 (ii v2) :: .row x3.2.2.1.A x3.2.2.1.c 3 1 (ii v3) :: .row x3.2.2.2.A x3.2.2.2.c 3 1 (ii v4) :: .box x1 27 [(.slice none 0 0), (.slice none 0 0), (.slice none 0 0), (.slice none 0 0)] :: F) (fun _ h => h.pick 13 [1, 0, 2, 3, 4, 5, 6, 7, 8, 9, 10, 11, 12] rfl) ?_
    refine r_on (a_call ok82 rfl rfl rfl rfl (fun w hm => spec_l13Rd_pick.calls K x2 (a0.take 2000) a0_A (a0.take 2000).length a0_c v12 (2:Int) hm rfl (rd_hiI (Rd.drop 12 a0_R) 2000) hb6)) rfl rfl rfl rfl (decide_eq_true c1) rfl (fun x9 => ?_)
    refine r_qon (q_eql rfl rfl rfl) rfl rfl rfl rfl (decide_eq_true c1) rfl ?_
    refine r_q (q_pick_t rfl rfl (decide_eq_true c1) rfl) rfl rfl ?_
    refine r_nil ?_
    refine j_then ?_
    rcases of_if h with ⟨c2, h⟩ | ⟨c2, h⟩
    · refine j_true rfl (beq_t c2) ?_
      refine j_region ?_
      refine r_q (q_move rfl rfl) rfl rfl ?_
      refine r_q (q_move rfl rfl) rfl rfl ?_
      refine r_q (q_move rfl rfl) rfl rfl ?_
      refine r_q (q_lenX v13 x8.h un23 rfl rfl rfl rfl rfl) rfl rfl ?_
      obtain ⟨v16, v17, hb7, h⟩ := of_b2 h
      refine r_do (a_call ok82 rfl rfl rfl rfl (fun w hm => spec_l13Rd_pick.calls K x2 (a0.take 2000) a0_A (a0.take 2000).length a0_c v15 (v13.length : Int) hm rfl (rd_hiI (Rd.drop 12 a0_R) 2000) hb7)) rfl rfl (fun x10 => ?_)
      obtain ⟨c3, h⟩ := of_guard h
      refine r_q (q_ix (Rd.row 1 rfl) (ints_len1 _ v13) (by decide) x8.h c3 un23 sz3 rfl rfl rfl) rfl rfl ?_
      refine r_q (q_ldI (Rd.row 1 rfl) c3 ag3 rfl rfl) rfl rfl ?_
      refine r_q (q_assign rfl rfl) rfl rfl ?_
      refine r_nil ?_
      refine j_then ?_
      refine j_seq ?_
      refine j_region ?_
      refine r_q (q_loadb_agg 3 rfl ag27 sz27 rfl rfl rfl rfl) rfl rfl ?_
      refine r_q (q_move rfl rfl) rfl rfl ?_
      refine r_do (a_storeb 12 rfl sz27 rfl rfl rfl rfl (Nat.le_of_ble_eq_true rfl) rfl) rfl rfl (fun _ => ?_)
      refine j_b12 [(.slice x4.1.A x4.1.n x4.1.c), (.slice x4.2.1.A x4.2.1.n x4.2.1.c), (.slice x4.2.2.1.A x4.2.2.1.n x4.2.2.1.c), (.slice x4.2.2.2.A x4.2.2.2.n x4.2.2.2.c)] rfl ?_
      refine r_q (q_assign rfl rfl) rfl rfl ?_
      refine r_nil ?_
      refine j_then ?_
      refine j_ret ?_
      cases h
      exact j_return rfl (ResOf.cell 12 rfl rfl ag27 sz27 (ResOf.tmp rfl ResOf.nil)) rfl (fun w h => ⟨(⟨x4.1.A, x4.1.n, x4.1.c, x4.1.h⟩, ⟨x4.2.1.A, x4.2.1.n, x4.2.1.c, x4.2.1.h⟩, ⟨x4.2.2.1.A, x4.2.2.1.n, x4.2.2.1.c, x4.2.2.1.h⟩, ⟨x4.2.2.2.A, x4.2.2.2.n, x4.2.2.2.c, x4.2.2.2.h⟩), rfl, h.pick 13 [4, 5, 6, 7] rfl⟩)
    · refine j_false rfl (beq_f c2) ?_
      refine j_skip ?_
      refine j_then ?_
      refine j_seq ?_
      refine j_region ?_
      refine r_q (q_loadb_agg 3 rfl ag27 sz27 rfl rfl rfl rfl) rfl rfl ?_
      refine r_q (q_move rfl rfl) rfl rfl ?_
      refine r_do (a_storeb 12 rfl sz27 rfl rfl rfl rfl (Nat.le_of_ble_eq_true rfl) rfl) rfl rfl (fun _ => ?_)
      refine j_b12 [(.slice x4.1.A x4.1.n x4.1.c), (.slice x4.2.1.A x4.2.1.n x4.2.1.c), (.slice x4.2.2.1.A x4.2.2.1.n x4.2.2.1.c), (.slice x4.2.2.2.A x4.2.2.2.n x4.2.2.2.c)] rfl ?_
      refine r_q (q_assign rfl rfl) rfl rfl ?_
      refine r_nil ?_
      refine j_then ?_
      refine j_ret ?_
      cases h
      exact j_return rfl (ResOf.cell 12 rfl rfl ag27 sz27 (ResOf.tmp rfl ResOf.nil)) rfl (fun w h => ⟨(⟨x4.1.A, x4.1.n, x4.1.c, x4.1.h⟩, ⟨x4.2.1.A, x4.2.1.n, x4.2.1.c, x4.2.1.h⟩, ⟨x4.2.2.1.A, x4.2.2.1.n, x4.2.2.1.c, x4.2.2.1.h⟩, ⟨x4.2.2.2.A, x4.2.2.2.n, x4.2.2.2.c, x4.2.2.2.h⟩), rfl, h.pick 13 [4, 5, 6, 7] rfl⟩)
  · refine r_off rfl rfl rfl rfl (decide_eq_false c1) rfl ?_
    refine r_off rfl rfl rfl rfl (decide_eq_false c1) rfl ?_
    refine r_off rfl rfl rfl rfl (decide_eq_false c1) rfl ?_
    refine r_q (q_pick_f rfl rfl (decide_eq_false c1) rfl) rfl rfl ?_
    refine r_nil ?_
    refine j_then ?_
    refine j_false rfl rfl ?_
    refine j_skip ?_
    refine j_then ?_
    refine j_seq ?_
    refine j_region ?_
    refine r_q (q_loadb_agg 3 rfl ag27 sz27 rfl rfl rfl rfl) rfl rfl ?_
    refine r_q (q_move rfl rfl) rfl rfl ?_
    refine r_do (a_storeb 12 rfl sz27 rfl rfl rfl rfl (Nat.le_of_ble_eq_true rfl) rfl) rfl rfl (fun _ => ?_)
    refine j_b12 [(.slice x4.1.A x4.1.n x4.1.c), (.slice x4.2.1.A x4.2.1.n x4.2.1.c), (.slice x4.2.2.1.A x4.2.2.1.n x4.2.2.1.c), (.slice x4.2.2.2.A x4.2.2.2.n x4.2.2.2.c)] rfl ?_
    refine r_q (q_assign rfl rfl) rfl rfl ?_
    refine r_nil ?_
    refine j_then ?_
    refine j_ret ?_
    cases h
    exact j_return rfl (ResOf.cell 12 rfl rfl ag27 sz27 (ResOf.tmp rfl ResOf.nil)) rfl (fun w h => ⟨(⟨x4.1.A, x4.1.n, x4.1.c, x4.1.h⟩, ⟨x4.2.1.A, x4.2.1.n, x4.2.1.c, x4.2.1.h⟩, ⟨x4.2.2.1.A, x4.2.2.1.n, x4.2.2.1.c, x4.2.2.1.h⟩, ⟨x4.2.2.2.A, x4.2.2.2.n, x4.2.2.2.c, x4.2.2.2.h⟩), rfl, h.pick 13 [4, 5, 6, 7] rfl⟩)

theorem spec_DrawCollectStore.calls (K : Nat) (a0 : List Int) (a0_A : Option Addr) (a0_n a0_c : Nat) {w0 w : World} {F : List Res} {r1 : List Int} {r2 : List Int} {r3 : List Int} {r4 : List Int} (hm : Mem w0 (F) w) (a0_h : a0.length = a0_n) (a0_R : Rd w0 F a0_A (ints .u8 a0)) (a0_k : a0.length ≤ a0_c) (h : spec_DrawCollectStore.f K a0 = some (r1, r2, r3, r4)) :
    Calls Try.prog 66 (List.toArray [.slice a0_A a0_n a0_c]) w fun e w' => ∃ x : (Sl r1.length) × (Sl r2.length) × (Sl r3.length) × (Sl r4.length), e = .returned (.agg (List.toArray [.slice x.1.A x.1.n x.1.c, .slice x.2.1.A x.2.1.n x.2.1.c, .slice x.2.2.1.A x.2.2.1.n x.2.2.1.c, .slice x.2.2.2.A x.2.2.2.n x.2.2.2.c])) ∧ Mem w0 (.row x.1.A x.1.c 3 1 (ii r1) :: .row x.2.1.A x.2.1.c 3 1 (ii r2) :: .row x.2.2.1.A x.2.2.1.c 3 1 (ii r3) :: .row x.2.2.2.A x.2.2.2.c 3 1 (ii r4) :: F) w' := by
  unfold spec_DrawCollectStore.f at h
  refine calls_of_J (n := 11) Try.func66 rfl rfl rfl hm ?_
  refine j_seq ?_
  refine j_region ?_
  refine r_do (a_alloc zr27 rfl) rfl rfl (fun x1 => ?_)
  refine r_nil ?_
  refine j_then ?_
  refine j_seq ?_
  refine j_region ?_
  refine r_q (q_move rfl rfl) rfl rfl ?_
  obtain ⟨v1, v2, v3, v4, v5, hb1, h⟩ := of_b5 h
  refine r_do (a_call ok90 rfl rfl rfl rfl (fun w hm => spec_l4Case.calls K a0 a0_A a0_n a0_c hm a0_h (Rd.drop 1 a0_R) a0_k hb1)) rfl rfl (fun x2 => ?_)
  refine r_q (q_move rfl rfl) rfl rfl ?_
  refine r_q (q_extract rfl rfl rfl) rfl rfl ?_
  refine r_q (q_extract rfl rfl rfl) rfl rfl ?_
  refine r_do (a_alloc zr27 rfl) rfl rfl (fun x3 => ?_)
  refine r_do (a_storeb 0 rfl sz27 rfl rfl rfl rfl (Nat.le_of_ble_eq_true rfl) rfl) rfl rfl (fun _ => ?_)
  refine j_b0 [(.slice x2.1.A x2.1.n x2.1.c), (.slice x2.2.1.A x2.2.1.n x2.2.1.c), (.slice x2.2.2.1.A x2.2.2.1.n x2.2.2.1.c), (.slice x2.2.2.2.A x2.2.2.2.n x2.2.2.2.c)] rfl ?_
  refine r_q (q_assign rfl rfl) rfl rfl ?_
  refine r_nil ?_
  refine j_then ?_
  refine j_seq ?_
  refine j_region ?_
  refine r_q (q_loadb_agg 0 rfl ag27 sz27 rfl rfl rfl rfl) rfl rfl ?_
  refine r_do (a_storeb 5 rfl sz27 rfl rfl rfl rfl (Nat.le_of_ble_eq_true rfl) rfl) rfl rfl (fun _ => ?_)
  refine j_b5 [(.slice x2.1.A x2.1.n x2.1.c), (.slice x2.2.1.A x2.2.1.n x2.2.1.c), (.slice x2.2.2.1.A x2.2.2.1.n x2.2.2.1.c), (.slice x2.2.2.2.A x2.2.2.2.n x2.2.2.2.c)] rfl ?_
  refine r_nil ?_
  refine j_then ?_
  refine j_ret ?_
  cases h
  exact j_return rfl (ResOf.cell 5 rfl rfl ag27 sz27 ResOf.nil) rfl (fun w h => ⟨(⟨x2.1.A, x2.1.n, x2.1.c, x2.1.h⟩, ⟨x2.2.1.A, x2.2.1.n, x2.2.1.c, x2.2.1.h⟩, ⟨x2.2.2.1.A, x2.2.2.1.n, x2.2.2.1.c, x2.2.2.1.h⟩, ⟨x2.2.2.2.A, x2.2.2.2.n, x2.2.2.2.c, x2.2.2.2.h⟩), rfl, h.pick 6 [1, 2, 3, 4] rfl⟩)

theorem spec_DrawNewCounted.calls (K : Nat) (a0 : List Int) (a0_A : Option Addr) (a0_n a0_c : Nat) {w0 w : World} {F : List Res} {r1 : List Int} {r2 : List Int} {r3 : List Int} {r4 : List Int} (hm : Mem w0 (F) w) (a0_h : a0.length = a0_n) (a0_R : Rd w0 F a0_A (ints .u8 a0)) (a0_k : a0.length ≤ a0_c) (h : spec_DrawNewCounted.f K a0 = some (r1, r2, r3, r4)) :
    Calls Try.prog 34 (List.toArray [.slice a0_A a0_n a0_c]) w fun e w' => ∃ x : (Sl r1.length) × (Sl r2.length) × (Sl r3.length) × (Sl r4.length), e = .returned (.agg (List.toArray [.slice x.1.A x.1.n x.1.c, .slice x.2.1.A x.2.1.n x.2.1.c, .slice x.2.2.1.A x.2.2.1.n x.2.2.1.c, .slice x.2.2.2.A x.2.2.2.n x.2.2.2.c])) ∧ Mem w0 (.row x.1.A x.1.c 3 1 (ii r1) :: .row x.2.1.A x.2.1.c 3 1 (ii r2) :: .row x.2.2.1.A x.2.2.1.c 3 1 (ii r3) :: .row x.2.2.2.A x.2.2.2.c 3 1 (ii r4) :: F) w' := by
  unfold spec_DrawNewCounted.f at h
  refine calls_of_J (n := 5) Try.func34 rfl rfl rfl hm ?_
  refine j_seq ?_
  refine j_region ?_
  refine r_do (a_alloc zr27 rfl) rfl rfl (fun x1 => ?_)
  refine r_nil ?_
  refine j_then ?_
  refine j_seq ?_
  refine j_region ?_
  refine r_q (q_move rfl rfl) rfl rfl ?_
  obtain ⟨v1, v2, v3, v4, hb1, h⟩ := of_b4 h
  refine r_do (a_call ok66 rfl rfl rfl rfl (fun w hm => spec_DrawCollectStore.calls K a0 a0_A a0_n a0_c hm a0_h (Rd.drop 1 a0_R) a0_k hb1)) rfl rfl (fun x2 => ?_)
  refine r_do (a_storeb 4 rfl sz27 rfl rfl rfl rfl (Nat.le_of_ble_eq_true rfl) rfl) rfl rfl (fun _ => ?_)
  refine j_b4 [(.slice x2.1.A x2.1.n x2.1.c), (.slice x2.2.1.A x2.2.1.n x2.2.1.c), (.slice x2.2.2.1.A x2.2.2.1.n x2.2.2.1.c), (.slice x2.2.2.2.A x2.2.2.2.n x2.2.2.2.c)] rfl ?_
  refine r_nil ?_
  refine j_then ?_
  refine j_ret ?_
  cases h
  exact j_return rfl (ResOf.cell 4 rfl rfl ag27 sz27 ResOf.nil) rfl (fun w h => ⟨(⟨x2.1.A, x2.1.n, x2.1.c, x2.1.h⟩, ⟨x2.2.1.A, x2.2.1.n, x2.2.1.c, x2.2.1.h⟩, ⟨x2.2.2.1.A, x2.2.2.1.n, x2.2.2.1.c, x2.2.2.1.h⟩, ⟨x2.2.2.2.A, x2.2.2.2.n, x2.2.2.2.c, x2.2.2.2.h⟩), rfl, h.pick 5 [0, 1, 2, 3] rfl⟩)

theorem laws_ccInts.calls (K : Nat) (a0 : List Int) (a0_A : Option Addr) (a0_n a0_c : Nat) (a1 : List Int) (a1_A : Option Addr) (a1_n a1_c : Nat) {w0 w : World} {F : List Res} {r1 : Bool} (hm : Mem w0 (F) w) (a0_h : a0.length = a0_n) (a0_R : Rd w0 F a0_A (ii a0)) (a1_h : a1.length = a1_n) (a1_R : Rd w0 F a1_A (ii a1)) (h : laws_ccInts.f K a0 a1 = some r1) :
    Calls Try.prog 37 (List.toArray [.slice a0_A a0_n a0_c, .slice a1_A a1_n a1_c]) w fun e w' => ∃ x : Unit, e = .returned (.bool r1) ∧ Mem w0 (F) w' := by
  unfold laws_ccInts.f at h
  refine calls_of_J (n := 26) Try.func37 rfl rfl rfl hm ?_
  refine j_seq ?_
  refine j_region ?_
  refine r_q (q_assign rfl rfl) rfl rfl ?_
  refine r_nil ?_
  refine j_then ?_
  refine j_seq ?_
  refine j_seq ?_
  refine j_region ?_
  refine r_q (q_move rfl rfl) rfl rfl ?_
  refine r_q (q_lenX a0 a0_h un23 rfl rfl rfl rfl rfl) rfl rfl ?_
  refine r_q (q_move rfl rfl) rfl rfl ?_
  refine r_q (q_lenX a1 a1_h un23 rfl rfl rfl rfl rfl) rfl rfl ?_
  refine r_q (q_neq rfl rfl rfl) rfl rfl ?_
  refine r_nil ?_
  refine j_then ?_
  rcases of_if h with ⟨c1, h⟩ | ⟨c1, h⟩
  · refine j_false rfl (bne_f c1) ?_
    refine j_skip ?_
    refine j_then ?_
    refine j_seq ?_
    refine j_seq ?_
    refine j_region ?_
    refine r_q (q_assign rfl rfl) rfl rfl ?_
    refine r_nil ?_
    refine j_then ?_
    obtain ⟨κ0, h, hκ0⟩ := ex_k (g := fun κ => laws_ccInts.loop0 K κ a0 a1 K (0:Int) = some r1) h
    refine j_cut (σ := Unit) (fun s => []) (fun s => F) (fun s => κ0 () = some r1) ?_ ?_
    · refine j_block ?_
      refine j_loop (σ := Int) (fun s => [(0, (.slice a0_A a0_n a0_c)), (1, (.slice a1_A a1_n a1_c)), (5, (i6 s))]) (fun s => F) (fun m s => laws_ccInts.loop0 K κ0 a0 a1 m s = some r1) K (0:Int) h (fun a he => he.sub ⟨rfl, rfl, rfl, trivial⟩) (fun w h => h) ?_
      rintro m p2 h
      cases m with
      | zero => exact absurd h (by rw [laws_ccInts.loop0]; exact nofun)
      | succ m =>
        rw [laws_ccInts.loop0] at h
        show J _ _ [(0, (.slice a0_A a0_n a0_c)), (1, (.slice a1_A a1_n a1_c)), (5, (i6 p2))] _ (F)
        refine j_seq ?_
        refine j_seq ?_
        refine j_region ?_
        refine r_q (q_move rfl rfl) rfl rfl ?_
        refine r_q (q_move rfl rfl) rfl rfl ?_
        refine r_q (q_lenX a0 a0_h un23 rfl rfl rfl rfl rfl) rfl rfl ?_
        refine r_q (q_lss rfl rfl rfl) rfl rfl ?_
        refine r_nil ?_
        refine j_then ?_
        rcases of_if h with ⟨c14, h⟩ | ⟨c14, h⟩
        · refine j_true rfl (decide_eq_true c14) ?_
          refine j_skip ?_
          refine j_then ?_
          refine j_seq ?_
          refine j_block ?_
          refine j_seq ?_
          obtain ⟨c15, h⟩ := of_guard h
          obtain ⟨c16, h⟩ := of_guard h
          refine j_draw (F) 9 follows_any rfl ?_
          refine d_take 0 rfl (q_move rfl rfl) rfl rfl (by kernel_rfl) (by kernel_rfl) (by kernel_rfl) (fun w h => h) ?_
          refine d_take 1 rfl (q_move rfl rfl) rfl rfl (by kernel_rfl) (by kernel_rfl) (by kernel_rfl) (fun w h => h) ?_
          refine d_take 2 rfl (q_ix a0_R (ints_len1 _ a0) (by decide) a0_h c15 un23 sz3 rfl rfl rfl) rfl rfl (by kernel_rfl) (by kernel_rfl) (by kernel_rfl) (fun w h => h) ?_
          refine d_take 3 rfl (q_ldI a0_R c15 ag3 rfl rfl) rfl rfl (by kernel_rfl) (by kernel_rfl) (by kernel_rfl) (fun w h => h) ?_
          refine d_take 4 rfl (q_move rfl rfl) rfl rfl (by kernel_rfl) (by kernel_rfl) (by kernel_rfl) (fun w h => h) ?_
          refine d_take 5 rfl (q_move rfl rfl) rfl rfl (by kernel_rfl) (by kernel_rfl) (by kernel_rfl) (fun w h => h) ?_
          refine d_take 6 rfl (q_ix a1_R (ints_len1 _ a1) (by decide) a1_h c16 un23 sz3 rfl rfl rfl) rfl rfl (by kernel_rfl) (by kernel_rfl) (by kernel_rfl) (fun w h => h) ?_
          refine d_take 7 rfl (q_ldI a1_R c16 ag3 rfl rfl) rfl rfl (by kernel_rfl) (by kernel_rfl) (by kernel_rfl) (fun w h => h) ?_
          refine d_take 8 rfl (q_neq rfl rfl rfl) rfl rfl (by kernel_rfl) (by kernel_rfl) (by kernel_rfl) (fun w h => h) ?_
          refine d_done (by kernel_rfl) ?_
          refine j_then ?_
          rcases of_if h with ⟨c17, h⟩ | ⟨c17, h⟩
          · refine j_false rfl (bne_f c17) ?_
            refine j_skip ?_
            refine j_in ?_
            refine j_then ?_
            refine j_region ?_
            refine r_q (q_move rfl rfl) rfl rfl ?_
            refine r_q (q_add rfl rfl rfl) rfl rfl ?_
            refine r_q (q_assign rfl rfl) rfl rfl ?_
            refine r_nil ?_
            refine j_then ?_
            exact j_again m (wrap64 (p2 + (1:Int))) (Nat.lt_succ_self m) h (fun a he => he.sub ⟨rfl, rfl, rfl, trivial⟩) (fun w h => h)
          · refine j_true rfl (bne_t c17) ?_
            refine j_seq ?_
            refine j_region ?_
            refine r_q (q_assign rfl rfl) rfl rfl ?_
            refine r_nil ?_
            refine j_then ?_
            refine j_ret ?_
            refine j_in_ret ?_
            refine j_then_ret ?_
            refine j_then_ret ?_
            refine j_in_ret ?_
            refine j_then_ret ?_
            refine j_then_ret ?_
            cases h
            exact j_return rfl (ResOf.tmp rfl ResOf.nil) rfl (fun w h => ⟨(), rfl, h⟩)
        · refine j_false rfl (decide_eq_false c14) ?_
          refine j_exit ?_
          refine j_then_exit ?_
          refine j_then_exit ?_
          refine j_in_exit ?_
          refine j_then ?_
          exact j_meet () h (fun a he => he.sub trivial) (fun w h => h)
    · rintro _ h
      subst hκ0
      show J _ _ [] _ (F)
      refine j_then ?_
      refine j_seq ?_
      refine j_region ?_
      refine r_q (q_assign rfl rfl) rfl rfl ?_
      refine r_nil ?_
      refine j_then ?_
      refine j_ret ?_
      cases h
      exact j_return rfl (ResOf.tmp rfl ResOf.nil) rfl (fun w h => ⟨(), rfl, h⟩)
  · refine j_true rfl (bne_t c1) ?_
    refine j_seq ?_
    refine j_region ?_
    refine r_q (q_assign rfl rfl) rfl rfl ?_
    refine r_nil ?_
    refine j_then ?_
    refine j_ret ?_
    refine j_then_ret ?_
    cases h
    exact j_return rfl (ResOf.tmp rfl ResOf.nil) rfl (fun w h => ⟨(), rfl, h⟩)

theorem laws_FnNewCounted.calls (K : Nat) (a0 : List Int) (a0_A : Option Addr) (a0_n a0_c : Nat) {w0 w : World} {F : List Res} {r1 : Bool} (hm : Mem w0 (F) w) (a0_h : a0.length = a0_n) (a0_R : Rd w0 F a0_A (ints .u8 a0)) (a0_k : a0.length ≤ a0_c) (h : laws_FnNewCounted.f K a0 = some r1) :
    Calls Try.prog 12 (List.toArray [.slice a0_A a0_n a0_c]) w fun e w' => ∃ x : Unit, e = .returned (.bool r1) ∧ Mem w0 (F) w' := by
  unfold laws_FnNewCounted.f at h
  refine calls_of_J (n := 79) Try.func12 rfl rfl rfl hm ?_
  refine j_seq ?_
  refine j_region ?_
  refine r_q (q_assign rfl rfl) rfl rfl ?_
  refine r_nil ?_
  refine j_then ?_
  refine j_seq ?_
  refine j_seq ?_
  refine j_region ?_
  refine r_q (q_move rfl rfl) rfl rfl ?_
  refine r_q (q_lenX a0 a0_h un22 rfl rfl rfl rfl rfl) rfl rfl ?_
  refine r_q (q_gtr rfl rfl rfl) rfl rfl ?_
  refine r_nil ?_
  refine j_then ?_
  rcases of_if h with ⟨c1, h⟩ | ⟨c1, h⟩
  · refine j_true rfl (decide_eq_true c1) ?_
    refine j_seq ?_
    refine j_region ?_
    refine r_q (q_assign rfl rfl) rfl rfl ?_
    refine r_nil ?_
    refine j_then ?_
    refine j_ret ?_
    refine j_then_ret ?_
    cases h
    exact j_return rfl (ResOf.tmp rfl ResOf.nil) rfl (fun w h => ⟨(), rfl, h⟩)
  · refine j_false rfl (decide_eq_false c1) ?_
    refine j_skip ?_
    refine j_then ?_
    refine j_seq ?_
    refine j_region ?_
    refine r_q (q_move rfl rfl) rfl rfl ?_
    obtain ⟨v1, v2, v3, v4, hb1, h⟩ := of_b4 h
    refine r_do (a_call ok34 rfl rfl rfl rfl (fun w hm => spec_DrawNewCounted.calls K a0 a0_A a0_n a0_c hm a0_h a0_R a0_k hb1)) rfl rfl (fun x1 => ?_)
    refine r_do (a_alloc zr27 rfl) rfl rfl (fun x2 => ?_)
    refine r_do (a_storeb 0 rfl sz27 rfl rfl rfl rfl (Nat.le_of_ble_eq_true rfl) rfl) rfl rfl (fun _ => ?_)
    refine j_b0 [(.slice x1.1.A x1.1.n x1.1.c), (.slice x1.2.1.A x1.2.1.n x1.2.1.c), (.slice x1.2.2.1.A x1.2.2.1.n x1.2.2.1.c), (.slice x1.2.2.2.A x1.2.2.2.n x1.2.2.2.c)] rfl ?_
    refine r_nil ?_
    refine j_then ?_
    refine j_seq ?_
    refine j_region ?_
    refine r_q (q_loadb_agg 0 rfl ag27 sz27 rfl rfl rfl rfl) rfl rfl ?_
    obtain ⟨v5, v6, v7, v8, v9, v10, hb2, h⟩ := of_b6 h
    refine r_do (a_call ok33 rfl rfl rfl rfl (fun w hm => impl_NewCounted.calls K v1 x1.1.A x1.1.n x1.1.c v2 x1.2.1.A x1.2.1.n x1.2.1.c v3 x1.2.2.1.A x1.2.2.1.n x1.2.2.1.c v4 x1.2.2.2.A x1.2.2.2.n x1.2.2.2.c hm x1.1.h (Rd.row 1 rfl) x1.2.1.h (Rd.row 2 rfl) x1.2.2.1.h (Rd.row 3 rfl) x1.2.2.2.h (Rd.row 4 rfl) (hm.roomI 4 rfl) hb2)) rfl rfl (fun x3 => ?_)
    refine r_q (q_move rfl rfl) rfl rfl ?_
    refine r_q (q_extract rfl rfl rfl) rfl rfl ?_
    refine r_q (q_extract rfl rfl rfl) rfl rfl ?_
    refine r_do (a_alloc zr29 rfl) rfl rfl (fun x4 => ?_)
    refine r_do (a_storeb 0 rfl sz29 rfl rfl rfl rfl (Nat.le_of_ble_eq_true rfl) rfl) rfl rfl (fun _ => ?_)
    refine j_b0 [(.slice x3.1.A x3.1.n x3.1.c), (.slice x3.2.1.A x3.2.1.n x3.2.1.c), (.slice x3.2.2.1.A x3.2.2.1.n x3.2.2.1.c), (.slice x3.2.2.2.1.A x3.2.2.2.1.n x3.2.2.2.1.c), (.slice x3.2.2.2.2.A x3.2.2.2.2.n x3.2.2.2.2.c)] rfl ?_
    refine r_q (q_assign rfl rfl) rfl rfl ?_
    refine r_nil ?_
    refine j_then ?_
    refine j_seq ?_
    refine j_region ?_
    refine r_q (q_loadb_agg 6 rfl ag27 sz27 rfl rfl rfl rfl) rfl rfl ?_
    obtain ⟨v11, v12, v13, v14, v15, v16, hb3, h⟩ := of_b6 h
    refine r_do (a_call ok35 rfl rfl rfl rfl (fun w hm => spec_NewCounted.calls K v1 x1.1.A x1.1.n x1.1.c v2 x1.2.1.A x1.2.1.n x1.2.1.c v3 x1.2.2.1.A x1.2.2.1.n x1.2.2.1.c v4 x1.2.2.2.A x1.2.2.2.n x1.2.2.2.c hm x1.1.h (Rd.row 7 rfl) x1.2.1.h (Rd.row 8 rfl) x1.2.2.1.h (Rd.row 9 rfl) x1.2.2.2.h (Rd.row 10 rfl) (hm.roomI 10 rfl) hb3)) rfl rfl (fun x5 => ?_)
    refine r_q (q_move rfl rfl) rfl rfl ?_
    refine r_q (q_extract rfl rfl rfl) rfl rfl ?_
    refine r_q (q_extract rfl rfl rfl) rfl rfl ?_
    refine r_do (a_alloc zr29 rfl) rfl rfl (fun x6 => ?_)
    refine r_do (a_storeb 0 rfl sz29 rfl rfl rfl rfl (Nat.le_of_ble_eq_true rfl) rfl) rfl rfl (fun _ => ?_)
    refine j_b0 [(.slice x5.1.A x5.1.n x5.1.c), (.slice x5.2.1.A x5.2.1.n x5.2.1.c), (.slice x5.2.2.1.A x5.2.2.1.n x5.2.2.1.c), (.slice x5.2.2.2.1.A x5.2.2.2.1.n x5.2.2.2.1.c), (.slice x5.2.2.2.2.A x5.2.2.2.2.n x5.2.2.2.2.c)] rfl ?_
    refine r_q (q_assign rfl rfl) rfl rfl ?_
    refine r_nil ?_
    refine j_then ?_
    refine j_seq ?_
    refine j_seq ?_
    refine j_region ?_
    refine r_q (q_loadb_agg 6 rfl ag29 sz29 rfl rfl rfl rfl) rfl rfl ?_
    refine r_q (q_loadb_agg 0 rfl ag29 sz29 rfl rfl rfl rfl) rfl rfl ?_
    obtain ⟨v17, hb4, h⟩ := of_b1 h
    refine r_do (a_call ok18 rfl rfl rfl rfl (fun w hm => impl_CountedSame.calls K v5 x3.1.A x3.1.n x3.1.c v6 x3.2.1.A x3.2.1.n x3.2.1.c v7 x3.2.2.1.A x3.2.2.1.n x3.2.2.1.c v8 x3.2.2.2.1.A x3.2.2.2.1.n x3.2.2.2.1.c v9 x3.2.2.2.2.A x3.2.2.2.2.n x3.2.2.2.2.c v11 x5.1.A x5.1.n x5.1.c v12 x5.2.1.A x5.2.1.n x5.2.1.c v13 x5.2.2.1.A x5.2.2.1.n x5.2.2.1.c v14 x5.2.2.2.1.A x5.2.2.2.1.n x5.2.2.2.1.c v15 x5.2.2.2.2.A x5.2.2.2.2.n x5.2.2.2.2.c hm x3.1.h (Rd.row 7 rfl) x3.2.1.h (Rd.row 8 rfl) x3.2.2.1.h (Rd.row 9 rfl) x3.2.2.2.1.h (Rd.row 10 rfl) x3.2.2.2.2.h (Rd.row 11 rfl) x5.1.h (Rd.row 1 rfl) x5.2.1.h (Rd.row 2 rfl) x5.2.2.1.h (Rd.row 3 rfl) x5.2.2.2.1.h (Rd.row 4 rfl) x5.2.2.2.2.h (Rd.row 5 rfl) hb4)) rfl rfl (fun x7 => ?_)
    refine r_q (q_not rfl rfl) rfl rfl ?_
    refine r_q (q_move rfl rfl) rfl rfl ?_
    rcases of_if h with ⟨c2, h⟩ | ⟨c2, h⟩
    · refine r_qon (q_move rfl rfl) rfl rfl rfl rfl (not_f c2) rfl ?_
      refine r_qon (q_move rfl rfl) rfl rfl rfl rfl (not_f c2) rfl ?_
      refine r_qon (q_bneq un4 rfl rfl rfl) rfl rfl rfl rfl (not_f c2) rfl ?_
      refine r_q (q_pick_f rfl rfl (not_f c2) rfl) rfl rfl ?_
      refine r_q (q_move rfl rfl) rfl rfl ?_
      rcases of_if h with ⟨c3, h⟩ | ⟨c3, h⟩
      · refine r_qon (q_move rfl rfl) rfl rfl rfl rfl (bne_f c3) rfl ?_
        refine r_qon (q_not rfl rfl) rfl rfl rfl rfl (bne_f c3) rfl ?_
        refine r_q (q_pick_f rfl rfl (bne_f c3) rfl) rfl rfl ?_
        refine r_nil ?_
        refine j_then ?_
        rcases of_if h with ⟨c4, h⟩ | ⟨c4, h⟩
        · refine j_false rfl (not_f c4) ?_
          refine j_skip ?_
          refine j_then ?_
          refine j_seq ?_
          refine j_seq ?_
          refine j_region ?_
          refine r_q (q_assign rfl rfl) rfl rfl ?_
          refine r_nil ?_
          refine j_then ?_
          obtain ⟨κ0, h, hκ0⟩ := ex_k (g := fun κ => laws_FnNewCounted.loop0 K κ v1 v2 v3 v4 v9 K (0:Int) = some r1) h
          refine j_cut (σ := Unit) (fun s => [(3, (pt x2)), (4, (pt x4))]) (fun s => .box x2 27 [(.slice x1.1.A x1.1.n x1.1.c), (.slice x1.2.1.A x1.2.1.n x1.2.1.c), (.slice x1.2.2.1.A x1.2.2.1.n x1.2.2.1.c), (.slice x1.2.2.2.A x1.2.2.2.n x1.2.2.2.c)] :: .box x4 29 [(.slice x3.1.A x3.1.n x3.1.c), (.slice x3.2.1.A x3.2.1.n x3.2.1.c), (.slice x3.2.2.1.A x3.2.2.1.n x3.2.2.1.c), (.slice x3.2.2.2.1.A x3.2.2.2.1.n x3.2.2.2.1.c), (.slice x3.2.2.2.2.A x3.2.2.2.2.n x3.2.2.2.2.c)] :: .row x1.1.A x1.1.c 3 1 (ii v1) :: .row x1.2.1.A x1.2.1.c 3 1 (ii v2) :: .row x1.2.2.1.A x1.2.2.1.c 3 1 (ii v3) :: .row x1.2.2.2.A x1.2.2.2.c 3 1 (ii v4) :: .row x3.1.A x3.1.c 3 1 (ii v5) :: .row x3.2.1.A x3.2.1.c 3 1 (ii v6) :: .row x3.2.2.1.A x3.2.2.1.c 3 1 (ii v7) :: .row x3.2.2.2.1.A x3.2.2.2.1.c 3 1 (ii v8) :: .row x3.2.2.2.2.A x3.2.2.2.2.c 3 1 (ii v9) :: F) (fun s => κ0 () = some r1) ?_ ?_
          · refine j_block ?_
            refine j_loop (σ := Int) (fun s => [(3, (pt x2)), (4, (pt x4)), (8, (i6 s))]) (fun s => .box x2 27 [(.slice x1.1.A x1.1.n x1.1.c), (.slice x1.2.1.A x1.2.1.n x1.2.1.c), (.slice x1.2.2.1.A x1.2.2.1.n x1.2.2.1.c), (.slice x1.2.2.2.A x1.2.2.2.n x1.2.2.2.c)] :: .box x4 29 [(.slice x3.1.A x3.1.n x3.1.c), (.slice x3.2.1.A x3.2.1.n x3.2.1.c), (.slice x3.2.2.1.A x3.2.2.1.n x3.2.2.1.c), (.slice x3.2.2.2.1.A x3.2.2.2.1.n x3.2.2.2.1.c), (.slice x3.2.2.2.2.A x3.2.2.2.2.n x3.2.2.2.2.c)] :: .row x1.1.A x1.1.c 3 1 (ii v1) :: .row x1.2.1.A x1.2.1.c 3 1 (ii v2) :: .row x1.2.2.1.A x1.2.2.1.c 3 1 (ii v3) :: .row x1.2.2.2.A x1.2.2.2.c 3 1 (ii v4) :: .row x3.1.A x3.1.c 3 1 (ii v5) :: .row x3.2.1.A x3.2.1.c 3 1 (ii v6) :: .row x3.2.2.1.A x3.2.2.1.c 3 1 (ii v7) :: .row x3.2.2.2.1.A x3.2.2.2.1.c 3 1 (ii v8) :: .row x3.2.2.2.2.A x3.2.2.2.2.c 3 1 (ii v9) :: F) (fun m s => laws_FnNewCounted.loop0 K κ0 v1 v2 v3 v4 v9 m s = some r1) K (0:Int) h (fun a he => he.sub ⟨rfl, rfl, rfl, trivial⟩) (fun w h => h.pick 17 [12, 6, 13, 14, 15, 16, 7, 8, 9, 10, 11] rfl) ?_
            rintro m p2 h
            cases m with
            | zero => exact absurd h (by rw [laws_FnNewCounted.loop0]; exact nofun)
            | succ m =>
              rw [laws_FnNewCounted.loop0] at h
              show J _ _ [(3, (pt x2)), (4, (pt x4)), (8, (i6 p2))] _ (.box x2 27 [(.slice x1.1.A x1.1.n x1.1.c), (.slice x1.2.1.A x1.2.1.n x1.2.1.c), (.slice x1.2.2.1.A x1.2.2.1.n x1.2.2.1.c), (.slice x1.2.2.2.A x1.2.2.2.n x1.2.2.2.c)] :: .box x4 29 [(.slice x3.1.A x3.1.n x3.1.c), (.slice x3.2.1.A x3.2.1.n x3.2.1.c), (.slice x3.2.2.1.A x3.2.2.1.n x3.2.2.1.c), (.slice x3.2.2.2.1.A x3.2.2.2.1.n x3.2.2.2.1.c), (.slice x3.2.2.2.2.A x3.2.2.2.2.n x3.2.2.2.2.c)] :: .row x1.1.A x1.1.c 3 1 (ii v1) :: .row x1.2.1.A x1.2.1.c 3 1 (ii v2) :: .row x1.2.2.1.A x1.2.2.1.c 3 1 (ii v3) :: .row x1.2.2.2.A x1.2.2.2.c 3 1 (ii v4) :: .row x3.1.A x3.1.c 3 1 (ii v5) :: .row x3.2.1.A x3.2.1.c 3 1 (ii v6) :: .row x3.2.2.1.A x3.2.2.1.c 3 1 (ii v7) :: .row x3.2.2.2.1.A x3.2.2.2.1.c 3 1 (ii v8) :: .row x3.2.2.2.2.A x3.2.2.2.2.c 3 1 (ii v9) :: F)
              refine j_seq ?_
              refine j_seq ?_
              refine j_region ?_
              refine r_q (q_move rfl rfl) rfl rfl ?_
              refine r_q (q_fieldAddr fi29_1 sz23 rfl rfl rfl) rfl rfl ?_
              refine r_q (q_loadb 1 rfl ag23 rfl rfl rfl) rfl rfl ?_
              refine r_q (q_lenX v9 x3.2.2.2.2.h un23 rfl rfl rfl rfl rfl) rfl rfl ?_
              refine r_q (q_lss rfl rfl rfl) rfl rfl ?_
              refine r_nil ?_
              refine j_then ?_
              rcases of_if h with ⟨c17, h⟩ | ⟨c17, h⟩
              · refine j_true rfl (decide_eq_true c17) ?_
                refine j_skip ?_
                refine j_then ?_
                refine j_seq ?_
                refine j_block ?_
                refine j_seq ?_
                refine j_region ?_
                refine r_q (q_loadb_agg 0 rfl ag27 sz27 rfl rfl rfl rfl) rfl rfl ?_
                refine r_q (q_move rfl rfl) rfl rfl ?_
                obtain ⟨v21, hb8, h⟩ := of_b1 h
                refine r_do (a_call ok23 rfl rfl rfl rfl (fun w hm => impl_IsFree.calls K v1 x1.1.A x1.1.n x1.1.c v2 x1.2.1.A x1.2.1.n x1.2.1.c v3 x1.2.2.1.A x1.2.2.1.n x1.2.2.1.c v4 x1.2.2.2.A x1.2.2.2.n x1.2.2.2.c p2 hm x1.1.h (Rd.row 2 rfl) x1.2.1.h (Rd.row 3 rfl) x1.2.2.1.h (Rd.row 4 rfl) x1.2.2.2.h (Rd.row 5 rfl) (hm.roomI 5 rfl) hb8)) rfl rfl (fun x8 => ?_)
                refine r_q (q_move rfl rfl) rfl rfl ?_
                rcases of_if h with ⟨c18, h⟩ | ⟨c18, h⟩
                · refine r_qon (q_fieldAddr fi29_1 sz23 rfl rfl rfl) rfl rfl rfl rfl c18 rfl ?_
                  refine r_qon (q_loadb 1 rfl ag23 rfl rfl rfl) rfl rfl rfl rfl c18 rfl ?_
                  refine r_qon (q_move rfl rfl) rfl rfl rfl rfl c18 rfl ?_
                  obtain ⟨c19, h⟩ := of_guard h
                  refine r_qon (q_ix (Rd.row 10 rfl) (ints_len1 _ v9) (by decide) x3.2.2.2.2.h c19 un23 sz3 rfl rfl rfl) rfl rfl rfl rfl c18 rfl ?_
                  refine r_qon (q_ldI (Rd.row 10 rfl) c19 ag3 rfl rfl) rfl rfl rfl rfl c18 rfl ?_
                  refine r_qon (q_neq rfl rfl rfl) rfl rfl rfl rfl c18 rfl ?_
                  refine r_q (q_pick_t rfl rfl c18 rfl) rfl rfl ?_
                  refine r_nil ?_
                  refine j_then ?_
                  rcases of_if h with ⟨c20, h⟩ | ⟨c20, h⟩
                  · refine j_false rfl (bne_f c20) ?_
                    refine j_skip ?_
                    refine j_in ?_
                    refine j_then ?_
                    refine j_region ?_
                    refine r_q (q_move rfl rfl) rfl rfl ?_
                    refine r_q (q_add rfl rfl rfl) rfl rfl ?_
                    refine r_q (q_assign rfl rfl) rfl rfl ?_
                    refine r_nil ?_
                    refine j_then ?_
                    exact j_again m (wrap64 (p2 + (1:Int))) (Nat.lt_succ_self m) h (fun a he => he.sub ⟨rfl, rfl, rfl, trivial⟩) (fun w h => h)
                  · refine j_true rfl (bne_t c20) ?_
                    refine j_seq ?_
                    refine j_region ?_
                    refine r_q (q_assign rfl rfl) rfl rfl ?_
                    refine r_nil ?_
                    refine j_then ?_
                    refine j_ret ?_
                    refine j_in_ret ?_
                    refine j_then_ret ?_
                    refine j_then_ret ?_
                    refine j_in_ret ?_
                    refine j_then_ret ?_
                    refine j_then_ret ?_
                    cases h
                    exact j_return rfl (ResOf.tmp rfl ResOf.nil) rfl (fun w h => ⟨(), rfl, (h.drop 11)⟩)
                · refine r_off rfl rfl rfl rfl (var_f c18) rfl ?_
                  refine r_off rfl rfl rfl rfl (var_f c18) rfl ?_
                  refine r_off rfl rfl rfl rfl (var_f c18) rfl ?_
                  refine r_off rfl rfl rfl rfl (var_f c18) rfl ?_
                  refine r_off rfl rfl rfl rfl (var_f c18) rfl ?_
                  refine r_off rfl rfl rfl rfl (var_f c18) rfl ?_
                  refine r_q (q_pick_f rfl rfl (var_f c18) rfl) rfl rfl ?_
                  refine r_nil ?_
                  refine j_then ?_
                  refine j_false rfl rfl ?_
                  refine j_skip ?_
                  refine j_in ?_
                  refine j_then ?_
                  refine j_region ?_
                  refine r_q (q_move rfl rfl) rfl rfl ?_
                  refine r_q (q_add rfl rfl rfl) rfl rfl ?_
                  refine r_q (q_assign rfl rfl) rfl rfl ?_
                  refine r_nil ?_
                  refine j_then ?_
                  exact j_again m (wrap64 (p2 + (1:Int))) (Nat.lt_succ_self m) h (fun a he => he.sub ⟨rfl, rfl, rfl, trivial⟩) (fun w h => h)
              · refine j_false rfl (decide_eq_false c17) ?_
                refine j_exit ?_
                refine j_then_exit ?_
                refine j_then_exit ?_
                refine j_in_exit ?_
                refine j_then ?_
                exact j_meet () h (fun a he => he.sub ⟨rfl, rfl, trivial⟩) (fun w h => h)
          · rintro _ h
            subst hκ0
            show J _ _ [(3, (pt x2)), (4, (pt x4))] _ (.box x2 27 [(.slice x1.1.A x1.1.n x1.1.c), (.slice x1.2.1.A x1.2.1.n x1.2.1.c), (.slice x1.2.2.1.A x1.2.2.1.n x1.2.2.1.c), (.slice x1.2.2.2.A x1.2.2.2.n x1.2.2.2.c)] :: .box x4 29 [(.slice x3.1.A x3.1.n x3.1.c), (.slice x3.2.1.A x3.2.1.n x3.2.1.c), (.slice x3.2.2.1.A x3.2.2.1.n x3.2.2.1.c), (.slice x3.2.2.2.1.A x3.2.2.2.1.n x3.2.2.2.1.c), (.slice x3.2.2.2.2.A x3.2.2.2.2.n x3.2.2.2.2.c)] :: .row x1.1.A x1.1.c 3 1 (ii v1) :: .row x1.2.1.A x1.2.1.c 3 1 (ii v2) :: .row x1.2.2.1.A x1.2.2.1.c 3 1 (ii v3) :: .row x1.2.2.2.A x1.2.2.2.c 3 1 (ii v4) :: .row x3.1.A x3.1.c 3 1 (ii v5) :: .row x3.2.1.A x3.2.1.c 3 1 (ii v6) :: .row x3.2.2.1.A x3.2.2.1.c 3 1 (ii v7) :: .row x3.2.2.2.1.A x3.2.2.2.1.c 3 1 (ii v8) :: .row x3.2.2.2.2.A x3.2.2.2.2.c 3 1 (ii v9) :: F)
            refine j_then ?_
            refine j_seq ?_
            obtain ⟨v22, hb9, h⟩ := of_b1 h
            rcases of_if h with ⟨c21, h⟩ | ⟨c21, h⟩
            · obtain ⟨v23, hb10, h⟩ := of_b1 h
              rcases of_if h with ⟨c22, h⟩ | ⟨c22, h⟩
              · obtain ⟨v24, hb11, h⟩ := of_b1 h
                obtain ⟨v25, hb12, h⟩ := of_b1 h
                refine j_draw (.box x2 27 [(.slice x1.1.A x1.1.n x1.1.c), (.slice x1.2.1.A x1.2.1.n x1.2.1.c), (.slice x1.2.2.1.A x1.2.2.1.n x1.2.2.1.c), (.slice x1.2.2.2.A x1.2.2.2.n x1.2.2.2.c)] :: .box x4 29 [(.slice x3.1.A x3.1.n x3.1.c), (.slice x3.2.1.A x3.2.1.n x3.2.1.c), (.slice x3.2.2.1.A x3.2.2.1.n x3.2.2.1.c), (.slice x3.2.2.2.1.A x3.2.2.2.1.n x3.2.2.2.1.c), (.slice x3.2.2.2.2.A x3.2.2.2.2.n x3.2.2.2.2.c)] :: .row x1.1.A x1.1.c 3 1 (ii v1) :: .row x1.2.1.A x1.2.1.c 3 1 (ii v2) :: .row x1.2.2.1.A x1.2.2.1.c 3 1 (ii v3) :: .row x1.2.2.2.A x1.2.2.2.c 3 1 (ii v4) :: .row x3.1.A x3.1.c 3 1 (ii v5) :: .row x3.2.1.A x3.2.1.c 3 1 (ii v6) :: .row x3.2.2.1.A x3.2.2.1.c 3 1 (ii v7) :: .row x3.2.2.2.1.A x3.2.2.2.1.c 3 1 (ii v8) :: .row x3.2.2.2.2.A x3.2.2.2.2.c 3 1 (ii v9) :: F) 17 follows_any rfl ?_
                refine d_take 0 rfl (q_loadb_agg 1 rfl ag29 sz29 rfl rfl rfl rfl) rfl rfl (by kernel_rfl) (by kernel_rfl) (by kernel_rfl) (fun w h => h) ?_
                refine d_one 1 (by kernel_rfl) ?_
                refine o_do rfl (a_call ok22 rfl rfl rfl rfl (fun w hm => impl_CountedValid.calls K v5 x3.1.A x3.1.n x3.1.c v6 x3.2.1.A x3.2.1.n x3.2.1.c v7 x3.2.2.1.A x3.2.2.1.n x3.2.2.1.c v8 x3.2.2.2.1.A x3.2.2.2.1.n x3.2.2.2.1.c v9 x3.2.2.2.2.A x3.2.2.2.2.n x3.2.2.2.2.c hm x3.1.h (Rd.row 6 rfl) x3.2.1.h (Rd.row 7 rfl) x3.2.2.1.h (Rd.row 8 rfl) x3.2.2.2.1.h (Rd.row 9 rfl) (hm.roomI 9 rfl) x3.2.2.2.2.h (Rd.row 10 rfl) hb9)) rfl rfl (fun x9 w h => h) (fun x9 => ?_)
                refine d_take 2 rfl (q_move rfl rfl) rfl rfl (by kernel_rfl) (by kernel_rfl) (by kernel_rfl) (fun w h => h) ?_
                refine d_take_on 3 rfl (q_fieldAddr fi29_0 sz27 rfl rfl rfl) rfl rfl rfl rfl c21 rfl (by kernel_rfl) (by kernel_rfl) (by kernel_rfl) (fun w h => h) ?_
                refine d_take_on 4 rfl (q_loadb_agg 1 rfl ag27 sz27 rfl rfl rfl rfl) rfl rfl rfl rfl c21 rfl (by kernel_rfl) (by kernel_rfl) (by kernel_rfl) (fun w h => h) ?_
                refine d_take_on 5 rfl (q_loadb_agg 0 rfl ag27 sz27 rfl rfl rfl rfl) rfl rfl rfl rfl c21 rfl (by kernel_rfl) (by kernel_rfl) (by kernel_rfl) (fun w h => h) ?_
                refine d_one 6 (by kernel_rfl) ?_
                refine o_on rfl (a_call ok36 rfl rfl rfl rfl (fun w hm => impl_StoreSame.calls K v5 x3.1.A x3.1.n x3.1.c v6 x3.2.1.A x3.2.1.n x3.2.1.c v7 x3.2.2.1.A x3.2.2.1.n x3.2.2.1.c v8 x3.2.2.2.1.A x3.2.2.2.1.n x3.2.2.2.1.c v1 x1.1.A x1.1.n x1.1.c v2 x1.2.1.A x1.2.1.n x1.2.1.c v3 x1.2.2.1.A x1.2.2.1.n x1.2.2.1.c v4 x1.2.2.2.A x1.2.2.2.n x1.2.2.2.c hm x3.1.h (Rd.row 6 rfl) x3.2.1.h (Rd.row 7 rfl) x3.2.2.1.h (Rd.row 8 rfl) x3.2.2.2.1.h (Rd.row 9 rfl) x1.1.h (Rd.row 2 rfl) x1.2.1.h (Rd.row 3 rfl) x1.2.2.1.h (Rd.row 4 rfl) x1.2.2.2.h (Rd.row 5 rfl) hb10)) rfl rfl rfl rfl c21 rfl (fun x10 w h => h) (fun x10 => ?_)
                refine d_take 7 rfl (q_pick_t rfl rfl c21 rfl) rfl rfl (by kernel_rfl) (by kernel_rfl) (by kernel_rfl) (fun w h => h) ?_
                refine d_take 8 rfl (q_move rfl rfl) rfl rfl (by kernel_rfl) (by kernel_rfl) (by kernel_rfl) (fun w h => h) ?_
                refine d_take_on 9 rfl (q_fieldAddr fi29_1 sz23 rfl rfl rfl) rfl rfl rfl rfl c22 rfl (by kernel_rfl) (by kernel_rfl) (by kernel_rfl) (fun w h => h) ?_
                refine d_take_on 10 rfl (q_loadb 1 rfl ag23 rfl rfl rfl) rfl rfl rfl rfl c22 rfl (by kernel_rfl) (by kernel_rfl) (by kernel_rfl) (fun w h => h) ?_
                refine d_take_on 11 rfl (q_fieldAddr fi27_0 sz25 rfl rfl rfl) rfl rfl rfl rfl c22 rfl (by kernel_rfl) (by kernel_rfl) (by kernel_rfl) (fun w h => h) ?_
                refine d_take_on 12 rfl (q_loadb_agg 0 rfl ag25 sz25 rfl rfl rfl rfl) rfl rfl rfl rfl c22 rfl (by kernel_rfl) (by kernel_rfl) (by kernel_rfl) (fun w h => h) ?_
                refine d_one 13 (by kernel_rfl) ?_
                refine o_on rfl (a_call ok38 rfl rfl rfl rfl (fun w hm => impl_CountsOf.calls K v1 x1.1.A x1.1.n x1.1.c v2 x1.2.1.A x1.2.1.n x1.2.1.c v3 x1.2.2.1.A x1.2.2.1.n x1.2.2.1.c hm x1.1.h (Rd.row 2 rfl) x1.2.1.h (Rd.row 3 rfl) x1.2.2.1.h (Rd.row 4 rfl) hb11)) rfl rfl rfl rfl c22 rfl (fun x11 w h => h.tail) (fun x11 => ?_)
                refine d_one 14 (by kernel_rfl) ?_
                refine o_on rfl (a_call ok37 rfl rfl rfl rfl (fun w hm => laws_ccInts.calls K v9 x3.2.2.2.2.A x3.2.2.2.2.n x3.2.2.2.2.c v24 x11.A x11.n x11.c hm x3.2.2.2.2.h (Rd.row 11 rfl) x11.h (Rd.row 0 rfl) hb12)) rfl rfl rfl rfl c22 rfl (fun x12 w h => h.tail) (fun x12 => ?_)
                refine d_take 15 rfl (q_pick_t rfl rfl c22 rfl) rfl rfl (by kernel_rfl) (by kernel_rfl) (by kernel_rfl) (fun w h => h.tail) ?_
                refine d_take 16 rfl (q_assign rfl rfl) rfl rfl (by kernel_rfl) (by kernel_rfl) (by kernel_rfl) (fun w h => h.tail) ?_
                refine d_done (by kernel_rfl) ?_
                refine j_then ?_
                refine j_ret ?_
                cases h
                exact j_return rfl (ResOf.tmp rfl ResOf.nil) rfl (fun w h => ⟨(), rfl, (h.drop 12)⟩)
              · refine j_draw (.box x2 27 [(.slice x1.1.A x1.1.n x1.1.c), (.slice x1.2.1.A x1.2.1.n x1.2.1.c), (.slice x1.2.2.1.A x1.2.2.1.n x1.2.2.1.c), (.slice x1.2.2.2.A x1.2.2.2.n x1.2.2.2.c)] :: .box x4 29 [(.slice x3.1.A x3.1.n x3.1.c), (.slice x3.2.1.A x3.2.1.n x3.2.1.c), (.slice x3.2.2.1.A x3.2.2.1.n x3.2.2.1.c), (.slice x3.2.2.2.1.A x3.2.2.2.1.n x3.2.2.2.1.c), (.slice x3.2.2.2.2.A x3.2.2.2.2.n x3.2.2.2.2.c)] :: .row x1.1.A x1.1.c 3 1 (ii v1) :: .row x1.2.1.A x1.2.1.c 3 1 (ii v2) :: .row x1.2.2.1.A x1.2.2.1.c 3 1 (ii v3) :: .row x1.2.2.2.A x1.2.2.2.c 3 1 (ii v4) :: .row x3.1.A x3.1.c 3 1 (ii v5) :: .row x3.2.1.A x3.2.1.c 3 1 (ii v6) :: .row x3.2.2.1.A x3.2.2.1.c 3 1 (ii v7) :: .row x3.2.2.2.1.A x3.2.2.2.1.c 3 1 (ii v8) :: .row x3.2.2.2.2.A x3.2.2.2.2.c 3 1 (ii v9) :: F) 17 follows_any rfl ?_
                refine d_take 0 rfl (q_loadb_agg 1 rfl ag29 sz29 rfl rfl rfl rfl) rfl rfl (by kernel_rfl) (by kernel_rfl) (by kernel_rfl) (fun w h => h) ?_
                refine d_one 1 (by kernel_rfl) ?_
                refine o_do rfl (a_call ok22 rfl rfl rfl rfl (fun w hm => impl_CountedValid.calls K v5 x3.1.A x3.1.n x3.1.c v6 x3.2.1.A x3.2.1.n x3.2.1.c v7 x3.2.2.1.A x3.2.2.1.n x3.2.2.1.c v8 x3.2.2.2.1.A x3.2.2.2.1.n x3.2.2.2.1.c v9 x3.2.2.2.2.A x3.2.2.2.2.n x3.2.2.2.2.c hm x3.1.h (Rd.row 6 rfl) x3.2.1.h (Rd.row 7 rfl) x3.2.2.1.h (Rd.row 8 rfl) x3.2.2.2.1.h (Rd.row 9 rfl) (hm.roomI 9 rfl) x3.2.2.2.2.h (Rd.row 10 rfl) hb9)) rfl rfl (fun x9 w h => h) (fun x9 => ?_)
                refine d_take 2 rfl (q_move rfl rfl) rfl rfl (by kernel_rfl) (by kernel_rfl) (by kernel_rfl) (fun w h => h) ?_
                refine d_take_on 3 rfl (q_fieldAddr fi29_0 sz27 rfl rfl rfl) rfl rfl rfl rfl c21 rfl (by kernel_rfl) (by kernel_rfl) (by kernel_rfl) (fun w h => h) ?_
                refine d_take_on 4 rfl (q_loadb_agg 1 rfl ag27 sz27 rfl rfl rfl rfl) rfl rfl rfl rfl c21 rfl (by kernel_rfl) (by kernel_rfl) (by kernel_rfl) (fun w h => h) ?_
                refine d_take_on 5 rfl (q_loadb_agg 0 rfl ag27 sz27 rfl rfl rfl rfl) rfl rfl rfl rfl c21 rfl (by kernel_rfl) (by kernel_rfl) (by kernel_rfl) (fun w h => h) ?_
                refine d_one 6 (by kernel_rfl) ?_
                refine o_on rfl (a_call ok36 rfl rfl rfl rfl (fun w hm => impl_StoreSame.calls K v5 x3.1.A x3.1.n x3.1.c v6 x3.2.1.A x3.2.1.n x3.2.1.c v7 x3.2.2.1.A x3.2.2.1.n x3.2.2.1.c v8 x3.2.2.2.1.A x3.2.2.2.1.n x3.2.2.2.1.c v1 x1.1.A x1.1.n x1.1.c v2 x1.2.1.A x1.2.1.n x1.2.1.c v3 x1.2.2.1.A x1.2.2.1.n x1.2.2.1.c v4 x1.2.2.2.A x1.2.2.2.n x1.2.2.2.c hm x3.1.h (Rd.row 6 rfl) x3.2.1.h (Rd.row 7 rfl) x3.2.2.1.h (Rd.row 8 rfl) x3.2.2.2.1.h (Rd.row 9 rfl) x1.1.h (Rd.row 2 rfl) x1.2.1.h (Rd.row 3 rfl) x1.2.2.1.h (Rd.row 4 rfl) x1.2.2.2.h (Rd.row 5 rfl) hb10)) rfl rfl rfl rfl c21 rfl (fun x10 w h => h) (fun x10 => ?_)
                refine d_take 7 rfl (q_pick_t rfl rfl c21 rfl) rfl rfl (by kernel_rfl) (by kernel_rfl) (by kernel_rfl) (fun w h => h) ?_
                refine d_take 8 rfl (q_move rfl rfl) rfl rfl (by kernel_rfl) (by kernel_rfl) (by kernel_rfl) (fun w h => h) ?_
                refine d_take_off 9 rfl rfl rfl rfl rfl (var_f c22) rfl (by kernel_rfl) (by kernel_rfl) (by kernel_rfl) (fun w h => h) ?_
                refine d_take_off 10 rfl rfl rfl rfl rfl (var_f c22) rfl (by kernel_rfl) (by kernel_rfl) (by kernel_rfl) (fun w h => h) ?_
                refine d_take_off 11 rfl rfl rfl rfl rfl (var_f c22) rfl (by kernel_rfl) (by kernel_rfl) (by kernel_rfl) (fun w h => h) ?_
                refine d_take_off 12 rfl rfl rfl rfl rfl (var_f c22) rfl (by kernel_rfl) (by kernel_rfl) (by kernel_rfl) (fun w h => h) ?_
                refine d_take_off 13 rfl rfl rfl rfl rfl (var_f c22) rfl (by kernel_rfl) (by kernel_rfl) (by kernel_rfl) (fun w h => h) ?_
                refine d_take_off 14 rfl rfl rfl rfl rfl (var_f c22) rfl (by kernel_rfl) (by kernel_rfl) (by kernel_rfl) (fun w h => h) ?_
                refine d_take 15 rfl (q_pick_f rfl rfl (var_f c22) rfl) rfl rfl (by kernel_rfl) (by kernel_rfl) (by kernel_rfl) (fun w h => h) ?_
                refine d_take 16 rfl (q_assign rfl rfl) rfl rfl (by kernel_rfl) (by kernel_rfl) (by kernel_rfl) (fun w h => h) ?_
                refine d_done (by kernel_rfl) ?_
                refine j_then ?_
                refine j_ret ?_
                cases h
                exact j_return rfl (ResOf.tmp rfl ResOf.nil) rfl (fun w h => ⟨(), rfl, (h.drop 11)⟩)
            · refine j_draw (.box x2 27 [(.slice x1.1.A x1.1.n x1.1.c), (.slice x1.2.1.A x1.2.1.n x1.2.1.c), (.slice x1.2.2.1.A x1.2.2.1.n x1.2.2.1.c), (.slice x1.2.2.2.A x1.2.2.2.n x1.2.2.2.c)] :: .box x4 29 [(.slice x3.1.A x3.1.n x3.1.c), (.slice x3.2.1.A x3.2.1.n x3.2.1.c), (.slice x3.2.2.1.A x3.2.2.1.n x3.2.2.1.c), (.slice x3.2.2.2.1.A x3.2.2.2.1.n x3.2.2.2.1.c), (.slice x3.2.2.2.2.A x3.2.2.2.2.n x3.2.2.2.2.c)] :: .row x1.1.A x1.1.c 3 1 (ii v1) :: .row x1.2.1.A x1.2.1.c 3 1 (ii v2) :: .row x1.2.2.1.A x1.2.2.1.c 3 1 (ii v3) :: .row x1.2.2.2.A x1.2.2.2.c 3 1 (ii v4) :: .row x3.1.A x3.1.c 3 1 (ii v5) :: .row x3.2.1.A x3.2.1.c 3 1 (ii v6) :: .row x3.2.2.1.A x3.2.2.1.c 3 1 (ii v7) :: .row x3.2.2.2.1.A x3.2.2.2.1.c 3 1 (ii v8) :: .row x3.2.2.2.2.A x3.2.2.2.2.c 3 1 (ii v9) :: F) 17 follows_any rfl ?_
              refine d_take 0 rfl (q_loadb_agg 1 rfl ag29 sz29 rfl rfl rfl rfl) rfl rfl (by kernel_rfl) (by kernel_rfl) (by kernel_rfl) (fun w h => h) ?_
              refine d_one 1 (by kernel_rfl) ?_
              refine o_do rfl (a_call ok22 rfl rfl rfl rfl (fun w hm => impl_CountedValid.calls K v5 x3.1.A x3.1.n x3.1.c v6 x3.2.1.A x3.2.1.n x3.2.1.c v7 x3.2.2.1.A x3.2.2.1.n x3.2.2.1.c v8 x3.2.2.2.1.A x3.2.2.2.1.n x3.2.2.2.1.c v9 x3.2.2.2.2.A x3.2.2.2.2.n x3.2.2.2.2.c hm x3.1.h (Rd.row 6 rfl) x3.2.1.h (Rd.row 7 rfl) x3.2.2.1.h (Rd.row 8 rfl) x3.2.2.2.1.h (Rd.row 9 rfl) (hm.roomI 9 rfl) x3.2.2.2.2.h (Rd.row 10 rfl) hb9)) rfl rfl (fun x9 w h => h) (fun x9 => ?_)
              refine d_take 2 rfl (q_move rfl rfl) rfl rfl (by kernel_rfl) (by kernel_rfl) (by kernel_rfl) (fun w h => h) ?_
              refine d_take_off 3 rfl rfl rfl rfl rfl (var_f c21) rfl (by kernel_rfl) (by kernel_rfl) (by kernel_rfl) (fun w h => h) ?_
              refine d_take_off 4 rfl rfl rfl rfl rfl (var_f c21) rfl (by kernel_rfl) (by kernel_rfl) (by kernel_rfl) (fun w h => h) ?_
              refine d_take_off 5 rfl rfl rfl rfl rfl (var_f c21) rfl (by kernel_rfl) (by kernel_rfl) (by kernel_rfl) (fun w h => h) ?_
              refine d_take_off 6 rfl rfl rfl rfl rfl (var_f c21) rfl (by kernel_rfl) (by kernel_rfl) (by kernel_rfl) (fun w h => h) ?_
              refine d_take 7 rfl (q_pick_f rfl rfl (var_f c21) rfl) rfl rfl (by kernel_rfl) (by kernel_rfl) (by kernel_rfl) (fun w h => h) ?_
              refine d_take 8 rfl (q_move rfl rfl) rfl rfl (by kernel_rfl) (by kernel_rfl) (by kernel_rfl) (fun w h => h) ?_
              refine d_take_off 9 rfl rfl rfl rfl rfl rfl rfl (by kernel_rfl) (by kernel_rfl) (by kernel_rfl) (fun w h => h) ?_
              refine d_take_off 10 rfl rfl rfl rfl rfl rfl rfl (by kernel_rfl) (by kernel_rfl) (by kernel_rfl) (fun w h => h) ?_
              refine d_take_off 11 rfl rfl rfl rfl rfl rfl rfl (by kernel_rfl) (by kernel_rfl) (by kernel_rfl) (fun w h => h) ?_
              refine d_take_off 12 rfl rfl rfl rfl rfl rfl rfl (by kernel_rfl) (by kernel_rfl) (by kernel_rfl) (fun w h => h) ?_
              refine d_take_off 13 rfl rfl rfl rfl rfl rfl rfl (by kernel_rfl) (by kernel_rfl) (by kernel_rfl) (fun w h => h) ?_
              refine d_take_off 14 rfl rfl rfl rfl rfl rfl rfl (by kernel_rfl) (by kernel_rfl) (by kernel_rfl) (fun w h => h) ?_
              refine d_take 15 rfl (q_pick_f rfl rfl rfl rfl) rfl rfl (by kernel_rfl) (by kernel_rfl) (by kernel_rfl) (fun w h => h) ?_
              refine d_take 16 rfl (q_assign rfl rfl) rfl rfl (by kernel_rfl) (by kernel_rfl) (by kernel_rfl) (fun w h => h) ?_
              refine d_done (by kernel_rfl) ?_
              refine j_then ?_
              refine j_ret ?_
              cases h
              exact j_return rfl (ResOf.tmp rfl ResOf.nil) rfl (fun w h => ⟨(), rfl, (h.drop 11)⟩)
        · refine j_true rfl (not_t (var_f c4)) ?_
          refine j_seq ?_
          refine j_region ?_
          refine r_q (q_loadb_agg 6 rfl ag29 sz29 rfl rfl rfl rfl) rfl rfl ?_
          refine r_q (q_loadb_agg 0 rfl ag29 sz29 rfl rfl rfl rfl) rfl rfl ?_
          obtain ⟨v26, hb13, h⟩ := of_b1 h
          refine r_do (a_call ok18 rfl rfl rfl rfl (fun w hm => impl_CountedSame.calls K v5 x3.1.A x3.1.n x3.1.c v6 x3.2.1.A x3.2.1.n x3.2.1.c v7 x3.2.2.1.A x3.2.2.1.n x3.2.2.1.c v8 x3.2.2.2.1.A x3.2.2.2.1.n x3.2.2.2.1.c v9 x3.2.2.2.2.A x3.2.2.2.2.n x3.2.2.2.2.c v11 x5.1.A x5.1.n x5.1.c v12 x5.2.1.A x5.2.1.n x5.2.1.c v13 x5.2.2.1.A x5.2.2.1.n x5.2.2.1.c v14 x5.2.2.2.1.A x5.2.2.2.1.n x5.2.2.2.1.c v15 x5.2.2.2.2.A x5.2.2.2.2.n x5.2.2.2.2.c hm x3.1.h (Rd.row 7 rfl) x3.2.1.h (Rd.row 8 rfl) x3.2.2.1.h (Rd.row 9 rfl) x3.2.2.2.1.h (Rd.row 10 rfl) x3.2.2.2.2.h (Rd.row 11 rfl) x5.1.h (Rd.row 1 rfl) x5.2.1.h (Rd.row 2 rfl) x5.2.2.1.h (Rd.row 3 rfl) x5.2.2.2.1.h (Rd.row 4 rfl) x5.2.2.2.2.h (Rd.row 5 rfl) hb13)) rfl rfl (fun x13 => ?_)
          refine r_q (q_move rfl rfl) rfl rfl ?_
          rcases of_if h with ⟨c23, h⟩ | ⟨c23, h⟩
          · refine r_qon (q_move rfl rfl) rfl rfl rfl rfl c23 rfl ?_
            refine r_qon (q_move rfl rfl) rfl rfl rfl rfl c23 rfl ?_
            refine r_qon (q_beql un4 rfl rfl rfl) rfl rfl rfl rfl c23 rfl ?_
            refine r_q (q_pick_t rfl rfl c23 rfl) rfl rfl ?_
            refine r_q (q_assign rfl rfl) rfl rfl ?_
            refine r_nil ?_
            refine j_then ?_
            refine j_ret ?_
            refine j_then_ret ?_
            cases h
            exact j_return rfl (ResOf.tmp rfl ResOf.nil) rfl (fun w h => ⟨(), rfl, (h.drop 17)⟩)
          · refine r_off rfl rfl rfl rfl (var_f c23) rfl ?_
            refine r_off rfl rfl rfl rfl (var_f c23) rfl ?_
            refine r_off rfl rfl rfl rfl (var_f c23) rfl ?_
            refine r_q (q_pick_f rfl rfl (var_f c23) rfl) rfl rfl ?_
            refine r_q (q_assign rfl rfl) rfl rfl ?_
            refine r_nil ?_
            refine j_then ?_
            refine j_ret ?_
            refine j_then_ret ?_
            cases h
            exact j_return rfl (ResOf.tmp rfl ResOf.nil) rfl (fun w h => ⟨(), rfl, (h.drop 17)⟩)
      · refine r_off rfl rfl rfl rfl (bne_t c3) rfl ?_
        refine r_off rfl rfl rfl rfl (bne_t c3) rfl ?_
        refine r_q (q_pick_t rfl rfl (bne_t c3) rfl) rfl rfl ?_
        refine r_nil ?_
        refine j_then ?_
        refine j_true rfl rfl ?_
        refine j_seq ?_
        refine j_region ?_
        refine r_q (q_loadb_agg 6 rfl ag29 sz29 rfl rfl rfl rfl) rfl rfl ?_
        refine r_q (q_loadb_agg 0 rfl ag29 sz29 rfl rfl rfl rfl) rfl rfl ?_
        obtain ⟨v27, hb14, h⟩ := of_b1 h
        refine r_do (a_call ok18 rfl rfl rfl rfl (fun w hm => impl_CountedSame.calls K v5 x3.1.A x3.1.n x3.1.c v6 x3.2.1.A x3.2.1.n x3.2.1.c v7 x3.2.2.1.A x3.2.2.1.n x3.2.2.1.c v8 x3.2.2.2.1.A x3.2.2.2.1.n x3.2.2.2.1.c v9 x3.2.2.2.2.A x3.2.2.2.2.n x3.2.2.2.2.c v11 x5.1.A x5.1.n x5.1.c v12 x5.2.1.A x5.2.1.n x5.2.1.c v13 x5.2.2.1.A x5.2.2.1.n x5.2.2.1.c v14 x5.2.2.2.1.A x5.2.2.2.1.n x5.2.2.2.1.c v15 x5.2.2.2.2.A x5.2.2.2.2.n x5.2.2.2.2.c hm x3.1.h (Rd.row 7 rfl) x3.2.1.h (Rd.row 8 rfl) x3.2.2.1.h (Rd.row 9 rfl) x3.2.2.2.1.h (Rd.row 10 rfl) x3.2.2.2.2.h (Rd.row 11 rfl) x5.1.h (Rd.row 1 rfl) x5.2.1.h (Rd.row 2 rfl) x5.2.2.1.h (Rd.row 3 rfl) x5.2.2.2.1.h (Rd.row 4 rfl) x5.2.2.2.2.h (Rd.row 5 rfl) hb14)) rfl rfl (fun x13 => ?_)
        refine r_q (q_move rfl rfl) rfl rfl ?_
        rcases of_if h with ⟨c24, h⟩ | ⟨c24, h⟩
        · refine r_qon (q_move rfl rfl) rfl rfl rfl rfl c24 rfl ?_
          refine r_qon (q_move rfl rfl) rfl rfl rfl rfl c24 rfl ?_
          refine r_qon (q_beql un4 rfl rfl rfl) rfl rfl rfl rfl c24 rfl ?_
          refine r_q (q_pick_t rfl rfl c24 rfl) rfl rfl ?_
          refine r_q (q_assign rfl rfl) rfl rfl ?_
          refine r_nil ?_
          refine j_then ?_
          refine j_ret ?_
          refine j_then_ret ?_
          cases h
          exact j_return rfl (ResOf.tmp rfl ResOf.nil) rfl (fun w h => ⟨(), rfl, (h.drop 17)⟩)
        · refine r_off rfl rfl rfl rfl (var_f c24) rfl ?_
          refine r_off rfl rfl rfl rfl (var_f c24) rfl ?_
          refine r_off rfl rfl rfl rfl (var_f c24) rfl ?_
          refine r_q (q_pick_f rfl rfl (var_f c24) rfl) rfl rfl ?_
          refine r_q (q_assign rfl rfl) rfl rfl ?_
          refine r_nil ?_
          refine j_then ?_
          refine j_ret ?_
          refine j_then_ret ?_
          cases h
          exact j_return rfl (ResOf.tmp rfl ResOf.nil) rfl (fun w h => ⟨(), rfl, (h.drop 17)⟩)
    · refine r_off rfl rfl rfl rfl (not_t (var_f c2)) rfl ?_
      refine r_off rfl rfl rfl rfl (not_t (var_f c2)) rfl ?_
      refine r_off rfl rfl rfl rfl (not_t (var_f c2)) rfl ?_
      refine r_q (q_pick_t rfl rfl (not_t (var_f c2)) rfl) rfl rfl ?_
      refine r_q (q_move rfl rfl) rfl rfl ?_
      refine r_off rfl rfl rfl rfl rfl rfl ?_
      refine r_off rfl rfl rfl rfl rfl rfl ?_
      refine r_q (q_pick_t rfl rfl rfl rfl) rfl rfl ?_
      refine r_nil ?_
      refine j_then ?_
      refine j_true rfl rfl ?_
      refine j_seq ?_
      refine j_region ?_
      refine r_q (q_loadb_agg 6 rfl ag29 sz29 rfl rfl rfl rfl) rfl rfl ?_
      refine r_q (q_loadb_agg 0 rfl ag29 sz29 rfl rfl rfl rfl) rfl rfl ?_
      obtain ⟨v28, hb15, h⟩ := of_b1 h
      refine r_do (a_call ok18 rfl rfl rfl rfl (fun w hm => impl_CountedSame.calls K v5 x3.1.A x3.1.n x3.1.c v6 x3.2.1.A x3.2.1.n x3.2.1.c v7 x3.2.2.1.A x3.2.2.1.n x3.2.2.1.c v8 x3.2.2.2.1.A x3.2.2.2.1.n x3.2.2.2.1.c v9 x3.2.2.2.2.A x3.2.2.2.2.n x3.2.2.2.2.c v11 x5.1.A x5.1.n x5.1.c v12 x5.2.1.A x5.2.1.n x5.2.1.c v13 x5.2.2.1.A x5.2.2.1.n x5.2.2.1.c v14 x5.2.2.2.1.A x5.2.2.2.1.n x5.2.2.2.1.c v15 x5.2.2.2.2.A x5.2.2.2.2.n x5.2.2.2.2.c hm x3.1.h (Rd.row 7 rfl) x3.2.1.h (Rd.row 8 rfl) x3.2.2.1.h (Rd.row 9 rfl) x3.2.2.2.1.h (Rd.row 10 rfl) x3.2.2.2.2.h (Rd.row 11 rfl) x5.1.h (Rd.row 1 rfl) x5.2.1.h (Rd.row 2 rfl) x5.2.2.1.h (Rd.row 3 rfl) x5.2.2.2.1.h (Rd.row 4 rfl) x5.2.2.2.2.h (Rd.row 5 rfl) hb15)) rfl rfl (fun x13 => ?_)
      refine r_q (q_move rfl rfl) rfl rfl ?_
      rcases of_if h with ⟨c25, h⟩ | ⟨c25, h⟩
      · refine r_qon (q_move rfl rfl) rfl rfl rfl rfl c25 rfl ?_
        refine r_qon (q_move rfl rfl) rfl rfl rfl rfl c25 rfl ?_
        refine r_qon (q_beql un4 rfl rfl rfl) rfl rfl rfl rfl c25 rfl ?_
        refine r_q (q_pick_t rfl rfl c25 rfl) rfl rfl ?_
        refine r_q (q_assign rfl rfl) rfl rfl ?_
        refine r_nil ?_
        refine j_then ?_
        refine j_ret ?_
        refine j_then_ret ?_
        cases h
        exact j_return rfl (ResOf.tmp rfl ResOf.nil) rfl (fun w h => ⟨(), rfl, (h.drop 17)⟩)
      · refine r_off rfl rfl rfl rfl (var_f c25) rfl ?_
        refine r_off rfl rfl rfl rfl (var_f c25) rfl ?_
        refine r_off rfl rfl rfl rfl (var_f c25) rfl ?_
        refine r_q (q_pick_f rfl rfl (var_f c25) rfl) rfl rfl ?_
        refine r_q (q_assign rfl rfl) rfl rfl ?_
        refine r_nil ?_
        refine j_then ?_
        refine j_ret ?_
        refine j_then_ret ?_
        cases h
        exact j_return rfl (ResOf.tmp rfl ResOf.nil) rfl (fun w h => ⟨(), rfl, (h.drop 17)⟩)

end Go.Proofs.Ytgganabcfloioaa.F
