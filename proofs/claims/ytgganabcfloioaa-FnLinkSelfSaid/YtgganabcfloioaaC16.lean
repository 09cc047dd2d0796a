/- The program computes these pure functions, printed by the generator of wip/gen. -/
import Derived.Test.YtgganabcfloioaaFa
import Derived.Test.YtgganabcfloioaaFh
import Derived.Test.YtgganabcfloioaaFb
import Derived.Test.YtgganabcfloioaaC0
import Derived.Test.YtgganabcfloioaaC1
import Derived.Test.YtgganabcfloioaaC2
import Derived.Test.YtgganabcfloioaaC3
import Derived.Test.YtgganabcfloioaaC4
import Derived.Test.YtgganabcfloioaaC5
import Derived.Test.YtgganabcfloioaaC7
import Derived.Test.YtgganabcfloioaaC8
namespace Go.Proofs.Ytgganabcfloioaa.F
open Go Go.RowKit Go.Proofs.Ytgganabcfloioaa.S
set_option linter.unusedVariables false
set_option maxRecDepth 100000
theorem spec_DrawLinkCounted.calls (K : Nat) (a0 : List Int) (a0_A : Option Addr) (a0_n a0_c : Nat) {w0 w : World} {F : List Res} {r1 : List Int} {r2 : List Int} {r3 : List Int} {r4 : List Int} {r5 : List Int} {r6 : Int} {r7 : Int} (hm : Mem w0 (F) w) (a0_h : a0.length = a0_n) (a0_R : Rd w0 F a0_A (ints .u8 a0)) (a0_k : a0.length ≤ a0_c) (h : spec_DrawLinkCounted.f K a0 = some (r1, r2, r3, r4, r5, r6, r7)) :
    Calls Try.prog 19 (List.toArray [.slice a0_A a0_n a0_c]) w fun e w' => ∃ x : (Sl r1.length) × (Sl r2.length) × (Sl r3.length) × (Sl r4.length) × (Sl r5.length), e = .returned (.tuple (List.toArray [.agg (List.toArray [.slice x.1.A x.1.n x.1.c, .slice x.2.1.A x.2.1.n x.2.1.c, .slice x.2.2.1.A x.2.2.1.n x.2.2.1.c, .slice x.2.2.2.1.A x.2.2.2.1.n x.2.2.2.1.c, .slice x.2.2.2.2.A x.2.2.2.2.n x.2.2.2.2.c]), i6 r6, i6 r7])) ∧ Mem w0 (.row x.1.A x.1.c 3 1 (ii r1) :: .row x.2.1.A x.2.1.c 3 1 (ii r2) :: .row x.2.2.1.A x.2.2.1.c 3 1 (ii r3) :: .row x.2.2.2.1.A x.2.2.2.1.c 3 1 (ii r4) :: .row x.2.2.2.2.A x.2.2.2.2.c 3 1 (ii r5) :: F) w' := by
  unfold spec_DrawLinkCounted.f at h
  refine calls_of_J (n := 10) Try.func19 rfl rfl rfl hm ?_
  refine j_seq ?_
  refine j_region ?_
  refine r_do (a_alloc zr29 rfl) rfl rfl (fun x1 => ?_)
  refine r_q (q_assign rfl rfl) rfl rfl ?_
  refine r_q (q_assign rfl rfl) rfl rfl ?_
  refine r_nil ?_
  refine j_then ?_
  refine j_seq ?_
  refine j_region ?_
  refine r_q (q_move rfl rfl) rfl rfl ?_
  obtain ⟨v1, v2, v3, v4, v5, v6, v7, hb1, h⟩ := of_b7 h
  refine r_do (a_call ok55 rfl rfl rfl rfl (fun w hm => spec_l9Case.calls K a0 a0_A a0_n a0_c hm a0_h (Rd.drop 1 a0_R) a0_k hb1)) rfl rfl (fun x2 => ?_)
  refine r_q (q_extract rfl rfl rfl) rfl rfl ?_
  refine r_q (q_extract rfl rfl rfl) rfl rfl ?_
  refine r_q (q_extract rfl rfl rfl) rfl rfl ?_
  refine r_do (a_storeb 5 rfl sz29 rfl rfl rfl rfl (Nat.le_of_ble_eq_true rfl) rfl) rfl rfl (fun _ => ?_)
  refine j_b5 [(.slice x2.1.A x2.1.n x2.1.c), (.slice x2.2.1.A x2.2.1.n x2.2.1.c), (.slice x2.2.2.1.A x2.2.2.1.n x2.2.2.1.c), (.slice x2.2.2.2.1.A x2.2.2.2.1.n x2.2.2.2.1.c), (.slice x2.2.2.2.2.A x2.2.2.2.2.n x2.2.2.2.2.c)] rfl ?_
  refine r_q (q_assign rfl rfl) rfl rfl ?_
  refine r_q (q_assign rfl rfl) rfl rfl ?_
  refine r_nil ?_
  refine j_then ?_
  refine j_ret ?_
  cases h
  exact j_return rfl (ResOf.cell 5 rfl rfl ag29 sz29 (ResOf.tmp rfl (ResOf.tmp rfl ResOf.nil))) rfl (fun w h => ⟨(⟨x2.1.A, x2.1.n, x2.1.c, x2.1.h⟩, ⟨x2.2.1.A, x2.2.1.n, x2.2.1.c, x2.2.1.h⟩, ⟨x2.2.2.1.A, x2.2.2.1.n, x2.2.2.1.c, x2.2.2.1.h⟩, ⟨x2.2.2.2.1.A, x2.2.2.2.1.n, x2.2.2.2.1.c, x2.2.2.2.1.h⟩, ⟨x2.2.2.2.2.A, x2.2.2.2.2.n, x2.2.2.2.2.c, x2.2.2.2.2.h⟩), rfl, h.pick 6 [0, 1, 2, 3, 4] rfl⟩)

theorem impl_LinkCounted.calls (K : Nat) (a0_0 : List Int) (a0_0_A : Option Addr) (a0_0_n a0_0_c : Nat) (a0_1 : List Int) (a0_1_A : Option Addr) (a0_1_n a0_1_c : Nat) (a0_2 : List Int) (a0_2_A : Option Addr) (a0_2_n a0_2_c : Nat) (a0_3 : List Int) (a0_3_A : Option Addr) (a0_3_n a0_3_c : Nat) (a0_4 : List Int) (a0_4_A : Option Addr) (a0_4_n a0_4_c : Nat) (a1 : Int) (a2 : Int) {w0 w : World} {F : List Res} {r1 : List Int} {r2 : List Int} {r3 : List Int} {r4 : List Int} {r5 : List Int} {r6 : Bool} (hm : Mem w0 (F) w) (a0_0_h : a0_0.length = a0_0_n) (a0_0_R : Rd w0 F a0_0_A (ii a0_0)) (a0_1_h : a0_1.length = a0_1_n) (a0_1_R : Rd w0 F a0_1_A (ii a0_1)) (a0_2_h : a0_2.length = a0_2_n) (a0_2_R : Rd w0 F a0_2_A (ii a0_2)) (a0_3_h : a0_3.length = a0_3_n) (a0_3_R : Rd w0 F a0_3_A (ii a0_3)) (a0_3_k : a0_3.length ≤ a0_3_c) (a0_4_h : a0_4.length = a0_4_n) (a0_4_R : Rd w0 F a0_4_A (ii a0_4)) (h : impl_LinkCounted.f K a0_0 a0_1 a0_2 a0_3 a0_4 a1 a2 = some (r1, r2, r3, r4, r5, r6)) :
    Calls Try.prog 20 (List.toArray [.agg (List.toArray [.slice a0_0_A a0_0_n a0_0_c, .slice a0_1_A a0_1_n a0_1_c, .slice a0_2_A a0_2_n a0_2_c, .slice a0_3_A a0_3_n a0_3_c, .slice a0_4_A a0_4_n a0_4_c]), i6 a1, i6 a2]) w fun e w' => ∃ x : (Sl r1.length) × (Sl r2.length) × (Sl r3.length) × (Sl r4.length) × (Sl r5.length), e = .returned (.tuple (List.toArray [.agg (List.toArray [.slice x.1.A x.1.n x.1.c, .slice x.2.1.A x.2.1.n x.2.1.c, .slice x.2.2.1.A x.2.2.1.n x.2.2.1.c, .slice x.2.2.2.1.A x.2.2.2.1.n x.2.2.2.1.c, .slice x.2.2.2.2.A x.2.2.2.2.n x.2.2.2.2.c]), .bool r6])) ∧ Mem w0 (.row x.1.A x.1.c 3 1 (ii r1) :: .row x.2.1.A x.2.1.c 3 1 (ii r2) :: .row x.2.2.1.A x.2.2.1.c 3 1 (ii r3) :: .row x.2.2.2.1.A x.2.2.2.1.c 3 1 (ii r4) :: .row x.2.2.2.2.A x.2.2.2.2.c 3 1 (ii r5) :: F) w' := by
  unfold impl_LinkCounted.f at h
  refine calls_of_J (n := 70) Try.func20 rfl rfl rfl hm ?_
  refine j_seq ?_
  refine j_region ?_
  refine r_do (a_box rfl rfl) rfl rfl (fun x1 => ?_)
  refine r_do (a_alloc zr29 rfl) rfl rfl (fun x2 => ?_)
  refine r_q (q_assign rfl rfl) rfl rfl ?_
  refine r_nil ?_
  refine j_then ?_
  refine j_seq ?_
  refine j_seq ?_
  refine j_region ?_
  refine r_q (q_loadb_agg 1 rfl ag29 sz29 rfl rfl rfl rfl) rfl rfl ?_
  refine r_q (q_move rfl rfl) rfl rfl ?_
  obtain ⟨v1, hb1, h⟩ := of_b1 h
  refine r_do (a_call ok48 rfl rfl rfl rfl (fun w hm => impl_rooted.calls K a0_0 a0_0_A a0_0_n a0_0_c a0_1 a0_1_A a0_1_n a0_1_c a0_2 a0_2_A a0_2_n a0_2_c a0_3 a0_3_A a0_3_n a0_3_c a0_4 a0_4_A a0_4_n a0_4_c a1 hm a0_0_h (Rd.drop 2 a0_0_R) a0_1_h (Rd.drop 2 a0_1_R) a0_2_h (Rd.drop 2 a0_2_R) a0_3_h (Rd.drop 2 a0_3_R) a0_3_k a0_4_h (Rd.drop 2 a0_4_R) hb1)) rfl rfl (fun x3 => ?_)
  refine r_q (q_not rfl rfl) rfl rfl ?_
  refine r_q (q_move rfl rfl) rfl rfl ?_
  rcases of_if h with ⟨c1, h⟩ | ⟨c1, h⟩
  · refine r_qon (q_loadb_agg 1 rfl ag29 sz29 rfl rfl rfl rfl) rfl rfl rfl rfl (not_f c1) rfl ?_
    refine r_qon (q_move rfl rfl) rfl rfl rfl rfl (not_f c1) rfl ?_
    obtain ⟨v2, hb2, h⟩ := of_b1 h
    refine r_on (a_call ok48 rfl rfl rfl rfl (fun w hm => impl_rooted.calls K a0_0 a0_0_A a0_0_n a0_0_c a0_1 a0_1_A a0_1_n a0_1_c a0_2 a0_2_A a0_2_n a0_2_c a0_3 a0_3_A a0_3_n a0_3_c a0_4 a0_4_A a0_4_n a0_4_c a2 hm a0_0_h (Rd.drop 2 a0_0_R) a0_1_h (Rd.drop 2 a0_1_R) a0_2_h (Rd.drop 2 a0_2_R) a0_3_h (Rd.drop 2 a0_3_R) a0_3_k a0_4_h (Rd.drop 2 a0_4_R) hb2)) rfl rfl rfl rfl (not_f c1) rfl (fun x4 => ?_)
    refine r_qon (q_not rfl rfl) rfl rfl rfl rfl (not_f c1) rfl ?_
    refine r_q (q_pick_f rfl rfl (not_f c1) rfl) rfl rfl ?_
    refine r_q (q_move rfl rfl) rfl rfl ?_
    rcases of_if h with ⟨c2, h⟩ | ⟨c2, h⟩
    · refine r_qon (q_fieldAddr fi29_0 sz27 rfl rfl rfl) rfl rfl rfl rfl (not_f c2) rfl ?_
      refine r_qon (q_fieldAddr fi27_0 sz25 rfl rfl rfl) rfl rfl rfl rfl (not_f c2) rfl ?_
      refine r_qon (q_fieldAddr fi25_2 sz23 rfl rfl rfl) rfl rfl rfl rfl (not_f c2) rfl ?_
      refine r_qon (q_loadb 1 rfl ag23 rfl rfl rfl) rfl rfl rfl rfl (not_f c2) rfl ?_
      refine r_qon (q_move rfl rfl) rfl rfl rfl rfl (not_f c2) rfl ?_
      obtain ⟨c3, h⟩ := of_guard h
      refine r_qon (q_ix (Rd.drop 2 a0_2_R) (ints_len1 _ a0_2) (by decide) a0_2_h c3 un23 sz3 rfl rfl rfl) rfl rfl rfl rfl (not_f c2) rfl ?_
      refine r_qon (q_ldI (Rd.drop 2 a0_2_R) c3 ag3 rfl rfl) rfl rfl rfl rfl (not_f c2) rfl ?_
      refine r_qon (q_eql rfl rfl rfl) rfl rfl rfl rfl (not_f c2) rfl ?_
      refine r_q (q_pick_f rfl rfl (not_f c2) rfl) rfl rfl ?_
      refine r_nil ?_
      refine j_then ?_
      rcases of_if h with ⟨c4, h⟩ | ⟨c4, h⟩
      · refine j_true rfl (beq_t c4) ?_
        refine j_seq ?_
        refine j_region ?_
        refine r_q (q_build (cs := [(.slice none 0 0), (.slice none 0 0), (.slice none 0 0), (.slice none 0 0), (.slice none 0 0)]) zr29 pl29 rfl rfl rfl rfl) rfl rfl ?_
        refine r_do (a_storeb 0 rfl sz29 rfl rfl rfl rfl (Nat.le_of_ble_eq_true rfl) rfl) rfl rfl (fun _ => ?_)
        refine j_b0 [(.slice none 0 0), (.slice none 0 0), (.slice none 0 0), (.slice none 0 0), (.slice none 0 0)] rfl ?_
        refine r_q (q_assign rfl rfl) rfl rfl ?_
        refine r_nil ?_
        refine j_then ?_
        refine j_ret ?_
        refine j_then_ret ?_
        refine j_nil 3 1 ?_
        refine j_nil 3 1 ?_
        refine j_nil 3 1 ?_
        refine j_nil 3 1 ?_
        refine j_nil 3 1 ?_
        cases h
        exact j_return rfl (ResOf.cell 5 rfl rfl ag29 sz29 (ResOf.tmp rfl ResOf.nil)) rfl (fun w h => ⟨(⟨none, 0, 0, rfl⟩, ⟨none, 0, 0, rfl⟩, ⟨none, 0, 0, rfl⟩, ⟨none, 0, 0, rfl⟩, ⟨none, 0, 0, rfl⟩), rfl, h.pick 7 [4, 3, 2, 1, 0] rfl⟩)
      · refine j_false rfl (beq_f c4) ?_
        refine j_skip ?_
        refine j_then ?_
        refine j_seq ?_
        refine j_region ?_
        refine r_q (q_loadb_agg 1 rfl ag29 sz29 rfl rfl rfl rfl) rfl rfl ?_
        obtain ⟨v3, v4, v5, v6, v7, hb3, h⟩ := of_b5 h
        refine r_do (a_call ok49 rfl rfl rfl rfl (fun w hm => impl_counted.calls K a0_0 a0_0_A a0_0_n a0_0_c a0_1 a0_1_A a0_1_n a0_1_c a0_2 a0_2_A a0_2_n a0_2_c a0_3 a0_3_A a0_3_n a0_3_c a0_4 a0_4_A a0_4_n a0_4_c hm a0_0_h (Rd.drop 2 a0_0_R) a0_1_h (Rd.drop 2 a0_1_R) a0_2_h (Rd.drop 2 a0_2_R) a0_3_h (Rd.drop 2 a0_3_R) a0_4_h (Rd.drop 2 a0_4_R) hb3)) rfl rfl (fun x5 => ?_)
        refine r_do (a_storeb 6 rfl sz29 rfl rfl rfl rfl (Nat.le_of_ble_eq_true rfl) rfl) rfl rfl (fun _ => ?_)
        refine j_b6 [(.slice x5.1.A x5.1.n x5.1.c), (.slice x5.2.1.A x5.2.1.n x5.2.1.c), (.slice x5.2.2.1.A x5.2.2.1.n x5.2.2.1.c), (.slice x5.2.2.2.1.A x5.2.2.2.1.n x5.2.2.2.1.c), (.slice x5.2.2.2.2.A x5.2.2.2.2.n x5.2.2.2.2.c)] rfl ?_
        refine r_nil ?_
        refine j_then ?_
        refine j_seq ?_
        refine j_region ?_
        refine r_q (q_fieldAddr fi29_0 sz27 rfl rfl rfl) rfl rfl ?_
        refine r_q (q_fieldAddr fi27_0 sz25 rfl rfl rfl) rfl rfl ?_
        refine r_q (q_loadb_agg 6 rfl ag25 sz25 rfl rfl rfl rfl) rfl rfl ?_
        refine r_do (a_alloc zr25 rfl) rfl rfl (fun x6 => ?_)
        refine r_do (a_storeb 0 rfl sz25 rfl rfl rfl rfl (Nat.le_of_ble_eq_true rfl) rfl) rfl rfl (fun _ => ?_)
        refine j_b0 [(.slice x5.1.A x5.1.n x5.1.c), (.slice x5.2.1.A x5.2.1.n x5.2.1.c), (.slice x5.2.2.1.A x5.2.2.1.n x5.2.2.1.c)] rfl ?_
        refine r_nil ?_
        refine j_then ?_
        refine j_seq ?_
        obtain ⟨c5, h⟩ := of_guard h
        obtain ⟨c6, h⟩ := of_guard h
        refine j_draw (.box x6 25 [(.slice x5.1.A x5.1.n x5.1.c), (.slice x5.2.1.A x5.2.1.n x5.2.1.c), (.slice x5.2.2.1.A x5.2.2.1.n x5.2.2.1.c)] :: .row x5.1.A x5.1.c 3 1 (ii v3) :: .row x5.2.1.A x5.2.1.c 3 1 (ii v4) :: .row x5.2.2.1.A x5.2.2.1.c 3 1 (ii v5) :: .row x5.2.2.2.1.A x5.2.2.2.1.c 3 1 (ii v6) :: .row x5.2.2.2.2.A x5.2.2.2.2.c 3 1 (ii v7) :: .box x2 29 [(.slice none 0 0), (.slice none 0 0), (.slice none 0 0), (.slice none 0 0), (.slice none 0 0)] :: .box x1 29 [(.slice x5.1.A x5.1.n x5.1.c), (.slice x5.2.1.A x5.2.1.n x5.2.1.c), (.slice x5.2.2.1.A x5.2.2.1.n x5.2.2.1.c), (.slice x5.2.2.2.1.A x5.2.2.2.1.n x5.2.2.2.1.c), (.slice x5.2.2.2.2.A x5.2.2.2.2.n x5.2.2.2.2.c)] :: F) 12 follows_any rfl ?_
        refine d_take 0 rfl (q_fieldAddr fi25_2 sz23 rfl rfl rfl) rfl rfl (by kernel_rfl) (by kernel_rfl) (by kernel_rfl) (fun w h => h) ?_
        refine d_take 1 rfl (q_loadb 0 rfl ag23 rfl rfl rfl) rfl rfl (by kernel_rfl) (by kernel_rfl) (by kernel_rfl) (fun w h => h) ?_
        refine d_take 2 rfl (q_move rfl rfl) rfl rfl (by kernel_rfl) (by kernel_rfl) (by kernel_rfl) (fun w h => h) ?_
        refine d_take 3 rfl (q_ix (Rd.row 3 rfl) (ints_len1 _ v5) (by decide) x5.2.2.1.h c5 un23 sz3 rfl rfl rfl) rfl rfl (by kernel_rfl) (by kernel_rfl) (by kernel_rfl) (fun w h => h) ?_
        refine d_take 4 rfl (q_ldI (Rd.row 3 rfl) c5 ag3 rfl rfl) rfl rfl (by kernel_rfl) (by kernel_rfl) (by kernel_rfl) (fun w h => h) ?_
        refine d_take 5 rfl (q_fieldAddr fi25_2 sz23 rfl rfl rfl) rfl rfl (by kernel_rfl) (by kernel_rfl) (by kernel_rfl) (fun w h => h) ?_
        refine d_take 6 rfl (q_loadb 0 rfl ag23 rfl rfl rfl) rfl rfl (by kernel_rfl) (by kernel_rfl) (by kernel_rfl) (fun w h => h) ?_
        refine d_take 7 rfl (q_move rfl rfl) rfl rfl (by kernel_rfl) (by kernel_rfl) (by kernel_rfl) (fun w h => h) ?_
        refine d_take 8 rfl (q_ix (Rd.row 3 rfl) (ints_len1 _ v5) (by decide) x5.2.2.1.h c6 un23 sz3 rfl rfl rfl) rfl rfl (by kernel_rfl) (by kernel_rfl) (by kernel_rfl) (fun w h => h) ?_
        refine d_take 9 rfl (q_ldI (Rd.row 3 rfl) c6 ag3 rfl rfl) rfl rfl (by kernel_rfl) (by kernel_rfl) (by kernel_rfl) (fun w h => h) ?_
        refine d_take 10 rfl (q_assign rfl rfl) rfl rfl (by kernel_rfl) (by kernel_rfl) (by kernel_rfl) (fun w h => h) ?_
        refine d_take 11 rfl (q_assign rfl rfl) rfl rfl (by kernel_rfl) (by kernel_rfl) (by kernel_rfl) (fun w h => h) ?_
        refine d_done (by kernel_rfl) ?_
        refine j_then ?_
        refine j_seq ?_
        refine j_region ?_
        refine r_q (q_fieldAddr fi25_0 sz23 rfl rfl rfl) rfl rfl ?_
        refine r_q (q_loadb 0 rfl ag23 rfl rfl rfl) rfl rfl ?_
        refine r_q (q_move rfl rfl) rfl rfl ?_
        obtain ⟨c7, h⟩ := of_guard h
        refine r_q (q_ix (Rd.row 1 rfl) (ints_len1 _ v3) (by decide) x5.1.h c7 un23 sz3 rfl rfl rfl) rfl rfl ?_
        refine r_q (q_ldI (Rd.row 1 rfl) c7 ag3 rfl rfl) rfl rfl ?_
        refine r_q (q_assign rfl rfl) rfl rfl ?_
        refine r_nil ?_
        refine j_then ?_
        refine j_seq ?_
        refine j_region ?_
        refine r_q (q_fieldAddr fi25_0 sz23 rfl rfl rfl) rfl rfl ?_
        refine r_q (q_loadb 0 rfl ag23 rfl rfl rfl) rfl rfl ?_
        refine r_q (q_move rfl rfl) rfl rfl ?_
        refine r_q (q_move rfl rfl) rfl rfl ?_
        refine r_q (q_ix (Rd.row 1 rfl) (ints_len1 _ v3) (by decide) x5.1.h c7 un23 sz3 rfl rfl rfl) rfl rfl ?_
        refine r_do (a_stI 1 rfl c7 sz3 rfl rfl rfl) rfl rfl (fun _ => ?_)
        refine j_s1 ?_
        refine r_nil ?_
        refine j_then ?_
        refine j_seq ?_
        refine j_seq ?_
        refine j_region ?_
        refine r_q (q_move rfl rfl) rfl rfl ?_
        refine r_q (q_neq rfl rfl rfl) rfl rfl ?_
        refine r_nil ?_
        refine j_then ?_
        rcases of_if h with ⟨c8, h⟩ | ⟨c8, h⟩
        · refine j_false rfl (bne_f c8) ?_
          refine j_skip ?_
          refine j_then ?_
          refine j_seq ?_
          refine j_region ?_
          refine r_q (q_move rfl rfl) rfl rfl ?_
          obtain ⟨v8, v9, v10, v11, hb4, h⟩ := of_b4 h
          refine j_rs (.box x1 29 [(.slice x5.1.A x5.1.n x5.1.c), (.slice x5.2.1.A x5.2.1.n x5.2.1.c), (.slice x5.2.2.1.A x5.2.2.1.n x5.2.2.1.c), (.slice x5.2.2.2.1.A x5.2.2.2.1.n x5.2.2.2.1.c), (.slice x5.2.2.2.2.A x5.2.2.2.2.n x5.2.2.2.2.c)] :: .row x5.1.A x5.1.c 3 1 (ii (v3.set (rd v5 a1).toNat (rd v5 a2))) :: .row x5.2.1.A x5.2.1.c 3 1 (ii v4) :: .row x5.2.2.2.1.A x5.2.2.2.1.c 3 1 (ii v6) :: .row x5.2.2.2.2.A x5.2.2.2.2.c 3 1 (ii v7) :: .box x6 25 [(.slice x5.1.A x5.1.n x5.1.c), (.slice x5.2.1.A x5.2.1.n x5.2.1.c), (.slice x5.2.2.1.A x5.2.2.1.n x5.2.2.1.c)] :: .row x5.2.2.1.A x5.2.2.1.c 3 1 (ii v5) :: .box x2 29 [(.slice none 0 0), (.slice none 0 0), (.slice none 0 0), (.slice none 0 0), (.slice none 0 0)] :: F) (fun _ h => h.pick 8 [7, 1, 2, 4, 5, 0, 3, 6] rfl) ?_
          refine r_do (a_call ok50 rfl rfl rfl rfl (fun w hm => impl_Counted_giveUp.calls K x1 (v3.set (rd v5 a1).toNat (rd v5 a2)) x5.1.A x5.1.n x5.1.c v4 x5.2.1.A x5.2.1.n x5.2.1.c x5.2.2.1.A x5.2.2.1.n x5.2.2.1.c v6 x5.2.2.2.1.A x5.2.2.2.1.n x5.2.2.2.1.c v7 x5.2.2.2.2.A x5.2.2.2.2.n x5.2.2.2.2.c (rd v3 (rd v5 a1)) hm (set_len x5.1.h _ _) x5.2.1.h x5.2.2.2.1.h x5.2.2.2.2.h hb4)) rfl rfl (fun x7 => ?_)
          refine r_nil ?_
          refine j_then ?_
          refine j_seq ?_
          refine j_region ?_
          refine r_q (q_loadb_agg 0 rfl ag29 sz29 rfl rfl rfl rfl) rfl rfl ?_
          refine r_do (a_storeb 7 rfl sz29 rfl rfl rfl rfl (Nat.le_of_ble_eq_true rfl) rfl) rfl rfl (fun _ => ?_)
          refine j_b7 [(.slice x5.1.A x5.1.n x5.1.c), (.slice x5.2.1.A x5.2.1.n x5.2.1.c), (.slice x5.2.2.1.A x5.2.2.1.n x5.2.2.1.c), (.slice x7.2.2.1.A x7.2.2.1.n x7.2.2.1.c), (.slice x5.2.2.2.2.A x5.2.2.2.2.n x5.2.2.2.2.c)] rfl ?_
          refine r_q (q_assign rfl rfl) rfl rfl ?_
          refine r_nil ?_
          refine j_then ?_
          refine j_ret ?_
          cases h
          exact j_return rfl (ResOf.cell 7 rfl rfl ag29 sz29 (ResOf.tmp rfl ResOf.nil)) rfl (fun w h => ⟨(⟨x5.1.A, x5.1.n, x5.1.c, (x7.1.h.trans (set_len x5.1.h _ _))⟩, ⟨x5.2.1.A, x5.2.1.n, x5.2.1.c, (x7.2.1.h.trans x5.2.1.h)⟩, ⟨x5.2.2.1.A, x5.2.2.1.n, x5.2.2.1.c, x5.2.2.1.h⟩, ⟨x7.2.2.1.A, x7.2.2.1.n, x7.2.2.1.c, x7.2.2.1.h⟩, ⟨x5.2.2.2.2.A, x5.2.2.2.2.n, x5.2.2.2.2.c, (x7.2.2.2.h.trans x5.2.2.2.2.h)⟩), rfl, h.pick 8 [1, 2, 6, 3, 4] rfl⟩)
        · refine j_true rfl (bne_t c8) ?_
          refine j_region ?_
          refine r_q (q_fieldAddr fi29_1 sz23 rfl rfl rfl) rfl rfl ?_
          refine r_q (q_loadb 7 rfl ag23 rfl rfl rfl) rfl rfl ?_
          refine r_q (q_move rfl rfl) rfl rfl ?_
          obtain ⟨c9, h⟩ := of_guard h
          refine r_q (q_ix (Rd.row 5 rfl) (ints_len1 _ v7) (by decide) x5.2.2.2.2.h c9 un23 sz3 rfl rfl rfl) rfl rfl ?_
          refine r_q (q_ldI (Rd.row 5 rfl) c9 ag3 rfl rfl) rfl rfl ?_
          refine r_q (q_add rfl rfl rfl) rfl rfl ?_
          refine r_q (q_ix (Rd.row 5 rfl) (ints_len1 _ v7) (by decide) x5.2.2.2.2.h c9 un23 sz3 rfl rfl rfl) rfl rfl ?_
          refine r_do (a_stI 5 rfl c9 sz3 rfl rfl rfl) rfl rfl (fun _ => ?_)
          refine j_s5 ?_
          refine r_nil ?_
          refine j_then ?_
          refine j_seq ?_
          refine j_region ?_
          refine r_q (q_move rfl rfl) rfl rfl ?_
          obtain ⟨v12, v13, v14, v15, hb5, h⟩ := of_b4 h
          refine j_rs (.box x1 29 [(.slice x5.1.A x5.1.n x5.1.c), (.slice x5.2.1.A x5.2.1.n x5.2.1.c), (.slice x5.2.2.1.A x5.2.2.1.n x5.2.2.1.c), (.slice x5.2.2.2.1.A x5.2.2.2.1.n x5.2.2.2.1.c), (.slice x5.2.2.2.2.A x5.2.2.2.2.n x5.2.2.2.2.c)] :: .row x5.1.A x5.1.c 3 1 (ii (v3.set (rd v5 a1).toNat (rd v5 a2))) :: .row x5.2.1.A x5.2.1.c 3 1 (ii v4) :: .row x5.2.2.2.1.A x5.2.2.2.1.c 3 1 (ii v6) :: .row x5.2.2.2.2.A x5.2.2.2.2.c 3 1 (ii (v7.set (rd v5 a2).toNat (wrap64 ((rd v7 (rd v5 a2)) + (1:Int))))) :: .box x6 25 [(.slice x5.1.A x5.1.n x5.1.c), (.slice x5.2.1.A x5.2.1.n x5.2.1.c), (.slice x5.2.2.1.A x5.2.2.1.n x5.2.2.1.c)] :: .row x5.2.2.1.A x5.2.2.1.c 3 1 (ii v5) :: .box x2 29 [(.slice none 0 0), (.slice none 0 0), (.slice none 0 0), (.slice none 0 0), (.slice none 0 0)] :: F) (fun _ h => h.pick 8 [7, 1, 2, 4, 5, 0, 3, 6] rfl) ?_
          refine r_do (a_call ok50 rfl rfl rfl rfl (fun w hm => impl_Counted_giveUp.calls K x1 (v3.set (rd v5 a1).toNat (rd v5 a2)) x5.1.A x5.1.n x5.1.c v4 x5.2.1.A x5.2.1.n x5.2.1.c x5.2.2.1.A x5.2.2.1.n x5.2.2.1.c v6 x5.2.2.2.1.A x5.2.2.2.1.n x5.2.2.2.1.c (v7.set (rd v5 a2).toNat (wrap64 ((rd v7 (rd v5 a2)) + (1:Int)))) x5.2.2.2.2.A x5.2.2.2.2.n x5.2.2.2.2.c (rd v3 (rd v5 a1)) hm (set_len x5.1.h _ _) x5.2.1.h x5.2.2.2.1.h (set_len x5.2.2.2.2.h _ _) hb5)) rfl rfl (fun x7 => ?_)
          refine r_nil ?_
          refine j_then ?_
          refine j_seq ?_
          refine j_region ?_
          refine r_q (q_loadb_agg 0 rfl ag29 sz29 rfl rfl rfl rfl) rfl rfl ?_
          refine r_do (a_storeb 7 rfl sz29 rfl rfl rfl rfl (Nat.le_of_ble_eq_true rfl) rfl) rfl rfl (fun _ => ?_)
          refine j_b7 [(.slice x5.1.A x5.1.n x5.1.c), (.slice x5.2.1.A x5.2.1.n x5.2.1.c), (.slice x5.2.2.1.A x5.2.2.1.n x5.2.2.1.c), (.slice x7.2.2.1.A x7.2.2.1.n x7.2.2.1.c), (.slice x5.2.2.2.2.A x5.2.2.2.2.n x5.2.2.2.2.c)] rfl ?_
          refine r_q (q_assign rfl rfl) rfl rfl ?_
          refine r_nil ?_
          refine j_then ?_
          refine j_ret ?_
          cases h
          exact j_return rfl (ResOf.cell 7 rfl rfl ag29 sz29 (ResOf.tmp rfl ResOf.nil)) rfl (fun w h => ⟨(⟨x5.1.A, x5.1.n, x5.1.c, (x7.1.h.trans (set_len x5.1.h _ _))⟩, ⟨x5.2.1.A, x5.2.1.n, x5.2.1.c, (x7.2.1.h.trans x5.2.1.h)⟩, ⟨x5.2.2.1.A, x5.2.2.1.n, x5.2.2.1.c, x5.2.2.1.h⟩, ⟨x7.2.2.1.A, x7.2.2.1.n, x7.2.2.1.c, x7.2.2.1.h⟩, ⟨x5.2.2.2.2.A, x5.2.2.2.2.n, x5.2.2.2.2.c, (x7.2.2.2.h.trans (set_len x5.2.2.2.2.h _ _))⟩), rfl, h.pick 8 [1, 2, 6, 3, 4] rfl⟩)
    · refine r_off rfl rfl rfl rfl (not_t (var_f c2)) rfl ?_
      refine r_off rfl rfl rfl rfl (not_t (var_f c2)) rfl ?_
      refine r_off rfl rfl rfl rfl (not_t (var_f c2)) rfl ?_
      refine r_off rfl rfl rfl rfl (not_t (var_f c2)) rfl ?_
      refine r_off rfl rfl rfl rfl (not_t (var_f c2)) rfl ?_
      refine r_off rfl rfl rfl rfl (not_t (var_f c2)) rfl ?_
      refine r_off rfl rfl rfl rfl (not_t (var_f c2)) rfl ?_
      refine r_off rfl rfl rfl rfl (not_t (var_f c2)) rfl ?_
      refine r_q (q_pick_t rfl rfl (not_t (var_f c2)) rfl) rfl rfl ?_
      refine r_nil ?_
      refine j_then ?_
      refine j_true rfl rfl ?_
      refine j_seq ?_
      refine j_region ?_
      refine r_q (q_build (cs := [(.slice none 0 0), (.slice none 0 0), (.slice none 0 0), (.slice none 0 0), (.slice none 0 0)]) zr29 pl29 rfl rfl rfl rfl) rfl rfl ?_
      refine r_do (a_storeb 0 rfl sz29 rfl rfl rfl rfl (Nat.le_of_ble_eq_true rfl) rfl) rfl rfl (fun _ => ?_)
      refine j_b0 [(.slice none 0 0), (.slice none 0 0), (.slice none 0 0), (.slice none 0 0), (.slice none 0 0)] rfl ?_
      refine r_q (q_assign rfl rfl) rfl rfl ?_
      refine r_nil ?_
      refine j_then ?_
      refine j_ret ?_
      refine j_then_ret ?_
      refine j_nil 3 1 ?_
      refine j_nil 3 1 ?_
      refine j_nil 3 1 ?_
      refine j_nil 3 1 ?_
      refine j_nil 3 1 ?_
      cases h
      exact j_return rfl (ResOf.cell 5 rfl rfl ag29 sz29 (ResOf.tmp rfl ResOf.nil)) rfl (fun w h => ⟨(⟨none, 0, 0, rfl⟩, ⟨none, 0, 0, rfl⟩, ⟨none, 0, 0, rfl⟩, ⟨none, 0, 0, rfl⟩, ⟨none, 0, 0, rfl⟩), rfl, h.pick 7 [4, 3, 2, 1, 0] rfl⟩)
  · refine r_off rfl rfl rfl rfl (not_t (var_f c1)) rfl ?_
    refine r_off rfl rfl rfl rfl (not_t (var_f c1)) rfl ?_
    refine r_off rfl rfl rfl rfl (not_t (var_f c1)) rfl ?_
    refine r_off rfl rfl rfl rfl (not_t (var_f c1)) rfl ?_
    refine r_q (q_pick_t rfl rfl (not_t (var_f c1)) rfl) rfl rfl ?_
    refine r_q (q_move rfl rfl) rfl rfl ?_
    refine r_off rfl rfl rfl rfl rfl rfl ?_
    refine r_off rfl rfl rfl rfl rfl rfl ?_
    refine r_off rfl rfl rfl rfl rfl rfl ?_
    refine r_off rfl rfl rfl rfl rfl rfl ?_
    refine r_off rfl rfl rfl rfl rfl rfl ?_
    refine r_off rfl rfl rfl rfl rfl rfl ?_
    refine r_off rfl rfl rfl rfl rfl rfl ?_
    refine r_off rfl rfl rfl rfl rfl rfl ?_
    refine r_q (q_pick_t rfl rfl rfl rfl) rfl rfl ?_
    refine r_nil ?_
    refine j_then ?_
    refine j_true rfl rfl ?_
    refine j_seq ?_
    refine j_region ?_
    refine r_q (q_build (cs := [(.slice none 0 0), (.slice none 0 0), (.slice none 0 0), (.slice none 0 0), (.slice none 0 0)]) zr29 pl29 rfl rfl rfl rfl) rfl rfl ?_
    refine r_do (a_storeb 0 rfl sz29 rfl rfl rfl rfl (Nat.le_of_ble_eq_true rfl) rfl) rfl rfl (fun _ => ?_)
    refine j_b0 [(.slice none 0 0), (.slice none 0 0), (.slice none 0 0), (.slice none 0 0), (.slice none 0 0)] rfl ?_
    refine r_q (q_assign rfl rfl) rfl rfl ?_
    refine r_nil ?_
    refine j_then ?_
    refine j_ret ?_
    refine j_then_ret ?_
    refine j_nil 3 1 ?_
    refine j_nil 3 1 ?_
    refine j_nil 3 1 ?_
    refine j_nil 3 1 ?_
    refine j_nil 3 1 ?_
    cases h
    exact j_return rfl (ResOf.cell 5 rfl rfl ag29 sz29 (ResOf.tmp rfl ResOf.nil)) rfl (fun w h => ⟨(⟨none, 0, 0, rfl⟩, ⟨none, 0, 0, rfl⟩, ⟨none, 0, 0, rfl⟩, ⟨none, 0, 0, rfl⟩, ⟨none, 0, 0, rfl⟩), rfl, h.pick 7 [4, 3, 2, 1, 0] rfl⟩)

end Go.Proofs.Ytgganabcfloioaa.F
