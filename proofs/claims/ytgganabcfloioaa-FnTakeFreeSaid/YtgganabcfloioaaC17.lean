/- The program computes these pure functions, printed by the generator of wip/gen. -/
import Derived.Test.YtgganabcfloioaaFa
import Derived.Test.YtgganabcfloioaaFh
import Derived.Test.YtgganabcfloioaaFb
import Derived.Test.YtgganabcfloioaaC0
import Derived.Test.YtgganabcfloioaaC1
import Derived.Test.YtgganabcfloioaaC7
import Derived.Test.YtgganabcfloioaaC8
namespace Go.Proofs.Ytgganabcfloioaa.F
open Go Go.RowKit Go.Proofs.Ytgganabcfloioaa.S
set_option linter.unusedVariables false
set_option maxRecDepth 100000
theorem impl_TakeCounted.calls (K : Nat) (a0_0 : List Int) (a0_0_A : Option Addr) (a0_0_n a0_0_c : Nat) (a0_1 : List Int) (a0_1_A : Option Addr) (a0_1_n a0_1_c : Nat) (a0_2 : List Int) (a0_2_A : Option Addr) (a0_2_n a0_2_c : Nat) (a0_3 : List Int) (a0_3_A : Option Addr) (a0_3_n a0_3_c : Nat) (a0_4 : List Int) (a0_4_A : Option Addr) (a0_4_n a0_4_c : Nat) (a1 : Int) {w0 w : World} {F : List Res} {r1 : List Int} {r2 : List Int} {r3 : List Int} {r4 : List Int} {r5 : List Int} {r6 : Bool} (hm : Mem w0 (F) w) (a0_0_h : a0_0.length = a0_0_n) (a0_0_R : Rd w0 F a0_0_A (ii a0_0)) (a0_1_h : a0_1.length = a0_1_n) (a0_1_R : Rd w0 F a0_1_A (ii a0_1)) (a0_2_h : a0_2.length = a0_2_n) (a0_2_R : Rd w0 F a0_2_A (ii a0_2)) (a0_3_h : a0_3.length = a0_3_n) (a0_3_R : Rd w0 F a0_3_A (ii a0_3)) (a0_3_k : a0_3.length ≤ a0_3_c) (a0_4_h : a0_4.length = a0_4_n) (a0_4_R : Rd w0 F a0_4_A (ii a0_4)) (h : impl_TakeCounted.f K a0_0 a0_1 a0_2 a0_3 a0_4 a1 = some (r1, r2, r3, r4, r5, r6)) :
    Calls Try.prog 25 (List.toArray [.agg (List.toArray [.slice a0_0_A a0_0_n a0_0_c, .slice a0_1_A a0_1_n a0_1_c, .slice a0_2_A a0_2_n a0_2_c, .slice a0_3_A a0_3_n a0_3_c, .slice a0_4_A a0_4_n a0_4_c]), i6 a1]) w fun e w' => ∃ x : (Sl r1.length) × (Sl r2.length) × (Sl r3.length) × (Sl r4.length) × (Sl r5.length), e = .returned (.tuple (List.toArray [.agg (List.toArray [.slice x.1.A x.1.n x.1.c, .slice x.2.1.A x.2.1.n x.2.1.c, .slice x.2.2.1.A x.2.2.1.n x.2.2.1.c, .slice x.2.2.2.1.A x.2.2.2.1.n x.2.2.2.1.c, .slice x.2.2.2.2.A x.2.2.2.2.n x.2.2.2.2.c]), .bool r6])) ∧ Mem w0 (.row x.1.A x.1.c 3 1 (ii r1) :: .row x.2.1.A x.2.1.c 3 1 (ii r2) :: .row x.2.2.1.A x.2.2.1.c 3 1 (ii r3) :: .row x.2.2.2.1.A x.2.2.2.1.c 3 1 (ii r4) :: .row x.2.2.2.2.A x.2.2.2.2.c 3 1 (ii r5) :: F) w' := by
  unfold impl_TakeCounted.f at h
  refine calls_of_J (n := 54) Try.func25 rfl rfl rfl hm ?_
  refine j_seq ?_
  refine j_region ?_
  refine r_do (a_box rfl rfl) rfl rfl (fun x1 => ?_)
  refine r_do (a_alloc zr29 rfl) rfl rfl (fun x2 => ?_)
  refine r_q (q_assign rfl rfl) rfl rfl ?_
  refine r_nil ?_
  refine j_then ?_
  refine j_seq ?_
  refine j_seq ?_
  refine j_region ?_
  refine r_q (q_loadb_agg 1 rfl ag29 sz29 rfl rfl rfl rfl) rfl rfl ?_
  refine r_q (q_move rfl rfl) rfl rfl ?_
  obtain ⟨v1, hb1, h⟩ := of_b1 h
  refine r_do (a_call ok48 rfl rfl rfl rfl (fun w hm => impl_rooted.calls K a0_0 a0_0_A a0_0_n a0_0_c a0_1 a0_1_A a0_1_n a0_1_c a0_2 a0_2_A a0_2_n a0_2_c a0_3 a0_3_A a0_3_n a0_3_c a0_4 a0_4_A a0_4_n a0_4_c a1 hm a0_0_h (Rd.drop 2 a0_0_R) a0_1_h (Rd.drop 2 a0_1_R) a0_2_h (Rd.drop 2 a0_2_R) a0_3_h (Rd.drop 2 a0_3_R) a0_3_k a0_4_h (Rd.drop 2 a0_4_R) hb1)) rfl rfl (fun x3 => ?_)
  refine r_q (q_not rfl rfl) rfl rfl ?_
  refine r_q (q_move rfl rfl) rfl rfl ?_
  rcases of_if h with ⟨c1, h⟩ | ⟨c1, h⟩
  · refine r_qon (q_fieldAddr fi29_0 sz27 rfl rfl rfl) rfl rfl rfl rfl (not_f c1) rfl ?_
    refine r_qon (q_fieldAddr fi27_1 sz23 rfl rfl rfl) rfl rfl rfl rfl (not_f c1) rfl ?_
    refine r_qon (q_loadb 1 rfl ag23 rfl rfl rfl) rfl rfl rfl rfl (not_f c1) rfl ?_
    refine r_qon (q_lenX a0_3 a0_3_h un23 rfl rfl rfl rfl rfl) rfl rfl rfl rfl (not_f c1) rfl ?_
    refine r_qon (q_eql rfl rfl rfl) rfl rfl rfl rfl (not_f c1) rfl ?_
    refine r_q (q_pick_f rfl rfl (not_f c1) rfl) rfl rfl ?_
    refine r_nil ?_
    refine j_then ?_
    rcases of_if h with ⟨c2, h⟩ | ⟨c2, h⟩
    · refine j_true rfl (beq_t c2) ?_
      refine j_seq ?_
      refine j_region ?_
      refine r_q (q_build (cs := [(.slice none 0 0), (.slice none 0 0), (.slice none 0 0), (.slice none 0 0), (.slice none 0 0)]) zr29 pl29 rfl rfl rfl rfl) rfl rfl ?_
      refine r_do (a_storeb 0 rfl sz29 rfl rfl rfl rfl (Nat.le_of_ble_eq_true rfl) rfl) rfl rfl (fun _ => ?_)
      refine j_b0 [(.slice none 0 0), (.slice none 0 0), (.slice none 0 0), (.slice none 0 0), (.slice none 0 0)] rfl ?_
      refine r_q (q_assign rfl rfl) rfl rfl ?_
      refine r_nil ?_
      refine j_then ?_
      refine j_ret ?_
      refine j_then_ret ?_
      refine j_nil 3 1 ?_
      refine j_nil 3 1 ?_
      refine j_nil 3 1 ?_
      refine j_nil 3 1 ?_
      refine j_nil 3 1 ?_
      cases h
      exact j_return rfl (ResOf.cell 5 rfl rfl ag29 sz29 (ResOf.tmp rfl ResOf.nil)) rfl (fun w h => ⟨(⟨none, 0, 0, rfl⟩, ⟨none, 0, 0, rfl⟩, ⟨none, 0, 0, rfl⟩, ⟨none, 0, 0, rfl⟩, ⟨none, 0, 0, rfl⟩), rfl, h.pick 7 [4, 3, 2, 1, 0] rfl⟩)
    · refine j_false rfl (beq_f c2) ?_
      refine j_skip ?_
      refine j_then ?_
      refine j_seq ?_
      refine j_region ?_
      refine r_q (q_loadb_agg 1 rfl ag29 sz29 rfl rfl rfl rfl) rfl rfl ?_
      obtain ⟨v2, v3, v4, v5, v6, hb2, h⟩ := of_b5 h
      refine r_do (a_call ok49 rfl rfl rfl rfl (fun w hm => impl_counted.calls K a0_0 a0_0_A a0_0_n a0_0_c a0_1 a0_1_A a0_1_n a0_1_c a0_2 a0_2_A a0_2_n a0_2_c a0_3 a0_3_A a0_3_n a0_3_c a0_4 a0_4_A a0_4_n a0_4_c hm a0_0_h (Rd.drop 2 a0_0_R) a0_1_h (Rd.drop 2 a0_1_R) a0_2_h (Rd.drop 2 a0_2_R) a0_3_h (Rd.drop 2 a0_3_R) a0_4_h (Rd.drop 2 a0_4_R) hb2)) rfl rfl (fun x4 => ?_)
      refine r_do (a_storeb 6 rfl sz29 rfl rfl rfl rfl (Nat.le_of_ble_eq_true rfl) rfl) rfl rfl (fun _ => ?_)
      refine j_b6 [(.slice x4.1.A x4.1.n x4.1.c), (.slice x4.2.1.A x4.2.1.n x4.2.1.c), (.slice x4.2.2.1.A x4.2.2.1.n x4.2.2.1.c), (.slice x4.2.2.2.1.A x4.2.2.2.1.n x4.2.2.2.1.c), (.slice x4.2.2.2.2.A x4.2.2.2.2.n x4.2.2.2.2.c)] rfl ?_
      refine r_nil ?_
      refine j_then ?_
      refine j_seq ?_
      refine j_region ?_
      refine r_q (q_fieldAddr fi29_0 sz27 rfl rfl rfl) rfl rfl ?_
      refine r_q (q_fieldAddr fi27_1 sz23 rfl rfl rfl) rfl rfl ?_
      refine r_q (q_loadb 6 rfl ag23 rfl rfl rfl) rfl rfl ?_
      obtain ⟨c3, h⟩ := of_guard h
      refine r_q (q_ix (Rd.row 3 rfl) (ints_len1 _ v5) (by decide) x4.2.2.2.1.h c3 un23 sz3 rfl rfl rfl) rfl rfl ?_
      refine r_q (q_ldI (Rd.row 3 rfl) c3 ag3 rfl rfl) rfl rfl ?_
      refine r_q (q_assign rfl rfl) rfl rfl ?_
      refine r_nil ?_
      refine j_then ?_
      refine j_seq ?_
      refine j_region ?_
      refine r_q (q_fieldAddr fi29_0 sz27 rfl rfl rfl) rfl rfl ?_
      refine r_q (q_fieldAddr fi27_1 sz23 rfl rfl rfl) rfl rfl ?_
      refine r_q (q_loadb 6 rfl ag23 rfl rfl rfl) rfl rfl ?_
      obtain ⟨c4, h⟩ := of_guard h
      refine j_fact (fun w hm => (hm.roomI 3 rfl)) (fun k2 => ?_)
      refine r_q (q_lo v5 x4.2.2.2.1.h c4 un23 sz3 rfl rfl rfl) rfl rfl ?_
      refine r_q (q_fieldAddr fi29_0 sz27 rfl rfl rfl) rfl rfl ?_
      refine r_q (q_fieldAddr fi27_1 sz23 rfl rfl rfl) rfl rfl ?_
      refine r_do (a_storeb 6 rfl sz23 rfl rfl rfl rfl (Nat.le_of_ble_eq_true rfl) rfl) rfl rfl (fun _ => ?_)
      refine j_b6 [(.slice x4.1.A x4.1.n x4.1.c), (.slice x4.2.1.A x4.2.1.n x4.2.1.c), (.slice x4.2.2.1.A x4.2.2.1.n x4.2.2.1.c), (.slice (cutA x4.2.2.2.1.A x4.2.2.2.1.c (1:Int).toNat 1) (v5.drop (1:Int).toNat).length (x4.2.2.2.1.c - (1:Int).toNat)), (.slice x4.2.2.2.2.A x4.2.2.2.2.n x4.2.2.2.2.c)] rfl ?_
      refine r_nil ?_
      refine j_then ?_
      refine j_seq ?_
      refine j_region ?_
      refine r_q (q_fieldAddr fi29_0 sz27 rfl rfl rfl) rfl rfl ?_
      refine r_q (q_fieldAddr fi27_0 sz25 rfl rfl rfl) rfl rfl ?_
      refine r_q (q_fieldAddr fi25_2 sz23 rfl rfl rfl) rfl rfl ?_
      refine r_q (q_loadb 6 rfl ag23 rfl rfl rfl) rfl rfl ?_
      refine r_q (q_move rfl rfl) rfl rfl ?_
      obtain ⟨c5, h⟩ := of_guard h
      refine r_q (q_ix (Rd.row 2 rfl) (ints_len1 _ v4) (by decide) x4.2.2.1.h c5 un23 sz3 rfl rfl rfl) rfl rfl ?_
      refine r_q (q_ldI (Rd.row 2 rfl) c5 ag3 rfl rfl) rfl rfl ?_
      refine r_q (q_assign rfl rfl) rfl rfl ?_
      refine r_nil ?_
      refine j_then ?_
      refine j_seq ?_
      refine j_region ?_
      refine r_q (q_fieldAddr fi29_0 sz27 rfl rfl rfl) rfl rfl ?_
      refine r_q (q_fieldAddr fi27_0 sz25 rfl rfl rfl) rfl rfl ?_
      refine r_q (q_fieldAddr fi25_2 sz23 rfl rfl rfl) rfl rfl ?_
      refine r_q (q_loadb 6 rfl ag23 rfl rfl rfl) rfl rfl ?_
      refine r_q (q_move rfl rfl) rfl rfl ?_
      refine r_q (q_move rfl rfl) rfl rfl ?_
      refine r_q (q_ix (Rd.row 2 rfl) (ints_len1 _ v4) (by decide) x4.2.2.1.h c5 un23 sz3 rfl rfl rfl) rfl rfl ?_
      refine r_do (a_stI 2 rfl c5 sz3 rfl rfl rfl) rfl rfl (fun _ => ?_)
      refine j_s2 ?_
      refine r_nil ?_
      refine j_then ?_
      refine j_seq ?_
      refine j_region ?_
      refine r_q (q_fieldAddr fi29_1 sz23 rfl rfl rfl) rfl rfl ?_
      refine r_q (q_loadb 6 rfl ag23 rfl rfl rfl) rfl rfl ?_
      refine r_q (q_move rfl rfl) rfl rfl ?_
      obtain ⟨c6, h⟩ := of_guard h
      refine r_q (q_ix (Rd.row 4 rfl) (ints_len1 _ v6) (by decide) x4.2.2.2.2.h c6 un23 sz3 rfl rfl rfl) rfl rfl ?_
      refine r_do (a_stI 4 rfl c6 sz3 rfl rfl rfl) rfl rfl (fun _ => ?_)
      refine j_s4 ?_
      refine r_nil ?_
      refine j_then ?_
      refine j_seq ?_
      refine j_region ?_
      refine r_q (q_move rfl rfl) rfl rfl ?_
      refine j_cutRowI 3 (1:Int).toNat rfl (cut_le c4 k2) ?_
      refine j_s3 ?_
      obtain ⟨v7, v8, v9, v10, hb3, h⟩ := of_b4 h
      refine j_rs (.box x1 29 [(.slice x4.1.A x4.1.n x4.1.c), (.slice x4.2.1.A x4.2.1.n x4.2.1.c), (.slice x4.2.2.1.A x4.2.2.1.n x4.2.2.1.c), (.slice (cutA x4.2.2.2.1.A x4.2.2.2.1.c (1:Int).toNat 1) (v5.drop (1:Int).toNat).length (x4.2.2.2.1.c - (1:Int).toNat)), (.slice x4.2.2.2.2.A x4.2.2.2.2.n x4.2.2.2.2.c)] :: .row x4.1.A x4.1.c 3 1 (ii v2) :: .row x4.2.1.A x4.2.1.c 3 1 (ii v3) :: .row (cutA x4.2.2.2.1.A x4.2.2.2.1.c (1:Int).toNat 1) (x4.2.2.2.1.c - (1:Int).toNat) 3 1 (ii (v5.drop (1:Int).toNat)) :: .row x4.2.2.2.2.A x4.2.2.2.2.c 3 1 (ii (v6.set (rd v5 (0:Int)).toNat (1:Int))) :: .row x4.2.2.1.A x4.2.2.1.c 3 1 (ii (v4.set a1.toNat (rd v5 (0:Int)))) :: .box x2 29 [(.slice none 0 0), (.slice none 0 0), (.slice none 0 0), (.slice none 0 0), (.slice none 0 0)] :: F) (fun _ h => h.pick 7 [6, 0, 1, 3, 4, 2, 5] rfl) ?_
      refine r_do (a_call ok50 rfl rfl rfl rfl (fun w hm => impl_Counted_giveUp.calls K x1 v2 x4.1.A x4.1.n x4.1.c v3 x4.2.1.A x4.2.1.n x4.2.1.c x4.2.2.1.A x4.2.2.1.n x4.2.2.1.c (v5.drop (1:Int).toNat) (cutA x4.2.2.2.1.A x4.2.2.2.1.c (1:Int).toNat 1) (v5.drop (1:Int).toNat).length (x4.2.2.2.1.c - (1:Int).toNat) (v6.set (rd v5 (0:Int)).toNat (1:Int)) x4.2.2.2.2.A x4.2.2.2.2.n x4.2.2.2.2.c (rd v4 a1) hm x4.1.h x4.2.1.h rfl (set_len x4.2.2.2.2.h _ _) hb3)) rfl rfl (fun x5 => ?_)
      refine r_nil ?_
      refine j_then ?_
      refine j_seq ?_
      refine j_region ?_
      refine r_q (q_loadb_agg 0 rfl ag29 sz29 rfl rfl rfl rfl) rfl rfl ?_
      refine r_do (a_storeb 6 rfl sz29 rfl rfl rfl rfl (Nat.le_of_ble_eq_true rfl) rfl) rfl rfl (fun _ => ?_)
      refine j_b6 [(.slice x4.1.A x4.1.n x4.1.c), (.slice x4.2.1.A x4.2.1.n x4.2.1.c), (.slice x4.2.2.1.A x4.2.2.1.n x4.2.2.1.c), (.slice x5.2.2.1.A x5.2.2.1.n x5.2.2.1.c), (.slice x4.2.2.2.2.A x4.2.2.2.2.n x4.2.2.2.2.c)] rfl ?_
      refine r_q (q_assign rfl rfl) rfl rfl ?_
      refine r_nil ?_
      refine j_then ?_
      refine j_ret ?_
      cases h
      exact j_return rfl (ResOf.cell 6 rfl rfl ag29 sz29 (ResOf.tmp rfl ResOf.nil)) rfl (fun w h => ⟨(⟨x4.1.A, x4.1.n, x4.1.c, (x5.1.h.trans x4.1.h)⟩, ⟨x4.2.1.A, x4.2.1.n, x4.2.1.c, (x5.2.1.h.trans x4.2.1.h)⟩, ⟨x4.2.2.1.A, x4.2.2.1.n, x4.2.2.1.c, (set_len x4.2.2.1.h _ _)⟩, ⟨x5.2.2.1.A, x5.2.2.1.n, x5.2.2.1.c, x5.2.2.1.h⟩, ⟨x4.2.2.2.2.A, x4.2.2.2.2.n, x4.2.2.2.2.c, (x5.2.2.2.h.trans (set_len x4.2.2.2.2.h _ _))⟩), rfl, h.pick 7 [1, 2, 5, 3, 4] rfl⟩)
  · refine r_off rfl rfl rfl rfl (not_t (var_f c1)) rfl ?_
    refine r_off rfl rfl rfl rfl (not_t (var_f c1)) rfl ?_
    refine r_off rfl rfl rfl rfl (not_t (var_f c1)) rfl ?_
    refine r_off rfl rfl rfl rfl (not_t (var_f c1)) rfl ?_
    refine r_off rfl rfl rfl rfl (not_t (var_f c1)) rfl ?_
    refine r_q (q_pick_t rfl rfl (not_t (var_f c1)) rfl) rfl rfl ?_
    refine r_nil ?_
    refine j_then ?_
    refine j_true rfl rfl ?_
    refine j_seq ?_
    refine j_region ?_
    refine r_q (q_build (cs := [(.slice none 0 0), (.slice none 0 0), (.slice none 0 0), (.slice none 0 0), (.slice none 0 0)]) zr29 pl29 rfl rfl rfl rfl) rfl rfl ?_
    refine r_do (a_storeb 0 rfl sz29 rfl rfl rfl rfl (Nat.le_of_ble_eq_true rfl) rfl) rfl rfl (fun _ => ?_)
    refine j_b0 [(.slice none 0 0), (.slice none 0 0), (.slice none 0 0), (.slice none 0 0), (.slice none 0 0)] rfl ?_
    refine r_q (q_assign rfl rfl) rfl rfl ?_
    refine r_nil ?_
    refine j_then ?_
    refine j_ret ?_
    refine j_then_ret ?_
    refine j_nil 3 1 ?_
    refine j_nil 3 1 ?_
    refine j_nil 3 1 ?_
    refine j_nil 3 1 ?_
    refine j_nil 3 1 ?_
    cases h
    exact j_return rfl (ResOf.cell 5 rfl rfl ag29 sz29 (ResOf.tmp rfl ResOf.nil)) rfl (fun w h => ⟨(⟨none, 0, 0, rfl⟩, ⟨none, 0, 0, rfl⟩, ⟨none, 0, 0, rfl⟩, ⟨none, 0, 0, rfl⟩, ⟨none, 0, 0, rfl⟩), rfl, h.pick 7 [4, 3, 2, 1, 0] rfl⟩)

end Go.Proofs.Ytgganabcfloioaa.F
