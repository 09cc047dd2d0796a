/- The program computes these pure functions, printed by the generator of wip/gen. -/
import Derived.Test.YtgganabcfloioaaFa
import Derived.Test.YtgganabcfloioaaFh
import Derived.Test.YtgganabcfloioaaFb
import Derived.Test.YtgganabcfloioaaC0
import Derived.Test.YtgganabcfloioaaC1
import Derived.Test.YtgganabcfloioaaC2
import Derived.Test.YtgganabcfloioaaC3
import Derived.Test.YtgganabcfloioaaC4
import Derived.Test.YtgganabcfloioaaC5
import Derived.Test.YtgganabcfloioaaC6
import Derived.Test.YtgganabcfloioaaC7
import Derived.Test.YtgganabcfloioaaC8
import Derived.Test.YtgganabcfloioaaC16
namespace Go.Proofs.Ytgganabcfloioaa.F
open Go Go.RowKit Go.Proofs.Ytgganabcfloioaa.S
set_option linter.unusedVariables false
set_option maxRecDepth 100000
theorem laws_FnLinkCounted.calls (K : Nat) (a0 : List Int) (a0_A : Option Addr) (a0_n a0_c : Nat) {w0 w : World} {F : List Res} {r1 : Bool} (hm : Mem w0 (F) w) (a0_h : a0.length = a0_n) (a0_R : Rd w0 F a0_A (ints .u8 a0)) (a0_k : a0.length ≤ a0_c) (h : laws_FnLinkCounted.f K a0 = some r1) :
    Calls Try.prog 4 (List.toArray [.slice a0_A a0_n a0_c]) w fun e w' => ∃ x : Unit, e = .returned (.bool r1) ∧ Mem w0 (F) w' := by
  unfold laws_FnLinkCounted.f at h
  refine calls_of_J (n := 96) Try.func4 rfl rfl rfl hm ?_
  refine j_seq ?_
  refine j_region ?_
  refine r_q (q_assign rfl rfl) rfl rfl ?_
  refine r_nil ?_
  refine j_then ?_
  refine j_seq ?_
  refine j_seq ?_
  refine j_region ?_
  refine r_q (q_move rfl rfl) rfl rfl ?_
  refine r_q (q_lenX a0 a0_h un22 rfl rfl rfl rfl rfl) rfl rfl ?_
  refine r_q (q_gtr rfl rfl rfl) rfl rfl ?_
  refine r_nil ?_
  refine j_then ?_
  rcases of_if h with ⟨c1, h⟩ | ⟨c1, h⟩
  · refine j_true rfl (decide_eq_true c1) ?_
    refine j_seq ?_
    refine j_region ?_
    refine r_q (q_assign rfl rfl) rfl rfl ?_
    refine r_nil ?_
    refine j_then ?_
    refine j_ret ?_
    refine j_then_ret ?_
    cases h
    exact j_return rfl (ResOf.tmp rfl ResOf.nil) rfl (fun w h => ⟨(), rfl, h⟩)
  · refine j_false rfl (decide_eq_false c1) ?_
    refine j_skip ?_
    refine j_then ?_
    refine j_seq ?_
    refine j_region ?_
    refine r_q (q_move rfl rfl) rfl rfl ?_
    obtain ⟨v1, v2, v3, v4, v5, v6, v7, hb1, h⟩ := of_b7 h
    refine r_do (a_call ok19 rfl rfl rfl rfl (fun w hm => spec_DrawLinkCounted.calls K a0 a0_A a0_n a0_c hm a0_h a0_R a0_k hb1)) rfl rfl (fun x1 => ?_)
    refine r_q (q_move rfl rfl) rfl rfl ?_
    refine r_q (q_extract rfl rfl rfl) rfl rfl ?_
    refine r_q (q_extract rfl rfl rfl) rfl rfl ?_
    refine r_q (q_extract rfl rfl rfl) rfl rfl ?_
    refine r_do (a_alloc zr29 rfl) rfl rfl (fun x2 => ?_)
    refine r_do (a_storeb 0 rfl sz29 rfl rfl rfl rfl (Nat.le_of_ble_eq_true rfl) rfl) rfl rfl (fun _ => ?_)
    refine j_b0 [(.slice x1.1.A x1.1.n x1.1.c), (.slice x1.2.1.A x1.2.1.n x1.2.1.c), (.slice x1.2.2.1.A x1.2.2.1.n x1.2.2.1.c), (.slice x1.2.2.2.1.A x1.2.2.2.1.n x1.2.2.2.1.c), (.slice x1.2.2.2.2.A x1.2.2.2.2.n x1.2.2.2.2.c)] rfl ?_
    refine r_q (q_assign rfl rfl) rfl rfl ?_
    refine r_q (q_assign rfl rfl) rfl rfl ?_
    refine r_nil ?_
    refine j_then ?_
    refine j_seq ?_
    refine j_region ?_
    refine r_q (q_loadb_agg 0 rfl ag29 sz29 rfl rfl rfl rfl) rfl rfl ?_
    refine r_q (q_move rfl rfl) rfl rfl ?_
    refine r_q (q_move rfl rfl) rfl rfl ?_
    obtain ⟨v8, v9, v10, v11, v12, v13, hb2, h⟩ := of_b6 h
    refine r_do (a_call ok20 rfl rfl rfl rfl (fun w hm => impl_LinkCounted.calls K v1 x1.1.A x1.1.n x1.1.c v2 x1.2.1.A x1.2.1.n x1.2.1.c v3 x1.2.2.1.A x1.2.2.1.n x1.2.2.1.c v4 x1.2.2.2.1.A x1.2.2.2.1.n x1.2.2.2.1.c v5 x1.2.2.2.2.A x1.2.2.2.2.n x1.2.2.2.2.c v6 v7 hm x1.1.h (Rd.row 1 rfl) x1.2.1.h (Rd.row 2 rfl) x1.2.2.1.h (Rd.row 3 rfl) x1.2.2.2.1.h (Rd.row 4 rfl) (hm.roomI 4 rfl) x1.2.2.2.2.h (Rd.row 5 rfl) hb2)) rfl rfl (fun x3 => ?_)
    refine r_q (q_move rfl rfl) rfl rfl ?_
    refine r_q (q_extract rfl rfl rfl) rfl rfl ?_
    refine r_q (q_extract rfl rfl rfl) rfl rfl ?_
    refine r_do (a_alloc zr29 rfl) rfl rfl (fun x4 => ?_)
    refine r_do (a_storeb 0 rfl sz29 rfl rfl rfl rfl (Nat.le_of_ble_eq_true rfl) rfl) rfl rfl (fun _ => ?_)
    refine j_b0 [(.slice x3.1.A x3.1.n x3.1.c), (.slice x3.2.1.A x3.2.1.n x3.2.1.c), (.slice x3.2.2.1.A x3.2.2.1.n x3.2.2.1.c), (.slice x3.2.2.2.1.A x3.2.2.2.1.n x3.2.2.2.1.c), (.slice x3.2.2.2.2.A x3.2.2.2.2.n x3.2.2.2.2.c)] rfl ?_
    refine r_q (q_assign rfl rfl) rfl rfl ?_
    refine r_nil ?_
    refine j_then ?_
    refine j_seq ?_
    refine j_region ?_
    refine r_q (q_loadb_agg 6 rfl ag29 sz29 rfl rfl rfl rfl) rfl rfl ?_
    refine r_q (q_move rfl rfl) rfl rfl ?_
    refine r_q (q_move rfl rfl) rfl rfl ?_
    obtain ⟨v14, v15, v16, v17, v18, v19, hb3, h⟩ := of_b6 h
    refine r_do (a_call ok21 rfl rfl rfl rfl (fun w hm => spec_LinkCounted.calls K v1 x1.1.A x1.1.n x1.1.c v2 x1.2.1.A x1.2.1.n x1.2.1.c v3 x1.2.2.1.A x1.2.2.1.n x1.2.2.1.c v4 x1.2.2.2.1.A x1.2.2.2.1.n x1.2.2.2.1.c v5 x1.2.2.2.2.A x1.2.2.2.2.n x1.2.2.2.2.c v6 v7 hm x1.1.h (Rd.row 7 rfl) x1.2.1.h (Rd.row 8 rfl) x1.2.2.1.h (Rd.row 9 rfl) x1.2.2.2.1.h (Rd.row 10 rfl) (hm.roomI 10 rfl) x1.2.2.2.2.h (Rd.row 11 rfl) hb3)) rfl rfl (fun x5 => ?_)
    refine r_q (q_move rfl rfl) rfl rfl ?_
    refine r_q (q_extract rfl rfl rfl) rfl rfl ?_
    refine r_q (q_extract rfl rfl rfl) rfl rfl ?_
    refine r_do (a_alloc zr29 rfl) rfl rfl (fun x6 => ?_)
    refine r_do (a_storeb 0 rfl sz29 rfl rfl rfl rfl (Nat.le_of_ble_eq_true rfl) rfl) rfl rfl (fun _ => ?_)
    refine j_b0 [(.slice x5.1.A x5.1.n x5.1.c), (.slice x5.2.1.A x5.2.1.n x5.2.1.c), (.slice x5.2.2.1.A x5.2.2.1.n x5.2.2.1.c), (.slice x5.2.2.2.1.A x5.2.2.2.1.n x5.2.2.2.1.c), (.slice x5.2.2.2.2.A x5.2.2.2.2.n x5.2.2.2.2.c)] rfl ?_
    refine r_q (q_assign rfl rfl) rfl rfl ?_
    refine r_nil ?_
    refine j_then ?_
    refine j_seq ?_
    refine j_seq ?_
    refine j_region ?_
    refine r_q (q_loadb_agg 6 rfl ag29 sz29 rfl rfl rfl rfl) rfl rfl ?_
    refine r_q (q_loadb_agg 0 rfl ag29 sz29 rfl rfl rfl rfl) rfl rfl ?_
    obtain ⟨v20, hb4, h⟩ := of_b1 h
    refine r_do (a_call ok18 rfl rfl rfl rfl (fun w hm => impl_CountedSame.calls K v8 x3.1.A x3.1.n x3.1.c v9 x3.2.1.A x3.2.1.n x3.2.1.c v10 x3.2.2.1.A x3.2.2.1.n x3.2.2.1.c v11 x3.2.2.2.1.A x3.2.2.2.1.n x3.2.2.2.1.c v12 x3.2.2.2.2.A x3.2.2.2.2.n x3.2.2.2.2.c v14 x5.1.A x5.1.n x5.1.c v15 x5.2.1.A x5.2.1.n x5.2.1.c v16 x5.2.2.1.A x5.2.2.1.n x5.2.2.1.c v17 x5.2.2.2.1.A x5.2.2.2.1.n x5.2.2.2.1.c v18 x5.2.2.2.2.A x5.2.2.2.2.n x5.2.2.2.2.c hm x3.1.h (Rd.row 7 rfl) x3.2.1.h (Rd.row 8 rfl) x3.2.2.1.h (Rd.row 9 rfl) x3.2.2.2.1.h (Rd.row 10 rfl) x3.2.2.2.2.h (Rd.row 11 rfl) x5.1.h (Rd.row 1 rfl) x5.2.1.h (Rd.row 2 rfl) x5.2.2.1.h (Rd.row 3 rfl) x5.2.2.2.1.h (Rd.row 4 rfl) x5.2.2.2.2.h (Rd.row 5 rfl) hb4)) rfl rfl (fun x7 => ?_)
    refine r_q (q_not rfl rfl) rfl rfl ?_
    refine r_q (q_move rfl rfl) rfl rfl ?_
    rcases of_if h with ⟨c2, h⟩ | ⟨c2, h⟩
    · refine r_qon (q_move rfl rfl) rfl rfl rfl rfl (not_f c2) rfl ?_
      refine r_qon (q_move rfl rfl) rfl rfl rfl rfl (not_f c2) rfl ?_
      refine r_qon (q_bneq un4 rfl rfl rfl) rfl rfl rfl rfl (not_f c2) rfl ?_
      refine r_q (q_pick_f rfl rfl (not_f c2) rfl) rfl rfl ?_
      refine r_q (q_move rfl rfl) rfl rfl ?_
      rcases of_if h with ⟨c3, h⟩ | ⟨c3, h⟩
      · refine r_qon (q_move rfl rfl) rfl rfl rfl rfl (bne_f c3) rfl ?_
        refine r_qon (q_not rfl rfl) rfl rfl rfl rfl (bne_f c3) rfl ?_
        refine r_q (q_pick_f rfl rfl (bne_f c3) rfl) rfl rfl ?_
        refine r_nil ?_
        refine j_then ?_
        rcases of_if h with ⟨c4, h⟩ | ⟨c4, h⟩
        · refine j_false rfl (not_f c4) ?_
          refine j_skip ?_
          refine j_then ?_
          refine j_seq ?_
          refine j_region ?_
          refine r_q (q_loadb_agg 6 rfl ag29 sz29 rfl rfl rfl rfl) rfl rfl ?_
          refine r_q (q_move rfl rfl) rfl rfl ?_
          refine r_q (q_move rfl rfl) rfl rfl ?_
          obtain ⟨v21, v22, v23, v24, v25, v26, hb5, h⟩ := of_b6 h
          refine r_do (a_call ok20 rfl rfl rfl rfl (fun w hm => impl_LinkCounted.calls K v8 x3.1.A x3.1.n x3.1.c v9 x3.2.1.A x3.2.1.n x3.2.1.c v10 x3.2.2.1.A x3.2.2.1.n x3.2.2.1.c v11 x3.2.2.2.1.A x3.2.2.2.1.n x3.2.2.2.1.c v12 x3.2.2.2.2.A x3.2.2.2.2.n x3.2.2.2.2.c v6 v7 hm x3.1.h (Rd.row 7 rfl) x3.2.1.h (Rd.row 8 rfl) x3.2.2.1.h (Rd.row 9 rfl) x3.2.2.2.1.h (Rd.row 10 rfl) (hm.roomI 10 rfl) x3.2.2.2.2.h (Rd.row 11 rfl) hb5)) rfl rfl (fun x8 => ?_)
          refine r_q (q_move rfl rfl) rfl rfl ?_
          refine r_q (q_extract rfl rfl rfl) rfl rfl ?_
          refine r_q (q_extract rfl rfl rfl) rfl rfl ?_
          refine r_do (a_alloc zr29 rfl) rfl rfl (fun x9 => ?_)
          refine r_do (a_storeb 0 rfl sz29 rfl rfl rfl rfl (Nat.le_of_ble_eq_true rfl) rfl) rfl rfl (fun _ => ?_)
          refine j_b0 [(.slice x8.1.A x8.1.n x8.1.c), (.slice x8.2.1.A x8.2.1.n x8.2.1.c), (.slice x8.2.2.1.A x8.2.2.1.n x8.2.2.1.c), (.slice x8.2.2.2.1.A x8.2.2.2.1.n x8.2.2.2.1.c), (.slice x8.2.2.2.2.A x8.2.2.2.2.n x8.2.2.2.2.c)] rfl ?_
          refine r_q (q_assign rfl rfl) rfl rfl ?_
          refine r_nil ?_
          refine j_then ?_
          refine j_seq ?_
          obtain ⟨v27, hb6, h⟩ := of_b1 h
          rcases of_if h with ⟨c5, h⟩ | ⟨c5, h⟩
          · obtain ⟨c6, h⟩ := of_guard h
            obtain ⟨c7, h⟩ := of_guard h
            obtain ⟨c8, h⟩ := of_guard h
            rcases of_if h with ⟨c9, h⟩ | ⟨c9, h⟩
            · rcases of_if h with ⟨c10, h⟩ | ⟨c10, h⟩
              · obtain ⟨v28, hb7, h⟩ := of_b1 h
                refine j_draw (.box x9 29 [(.slice x8.1.A x8.1.n x8.1.c), (.slice x8.2.1.A x8.2.1.n x8.2.1.c), (.slice x8.2.2.1.A x8.2.2.1.n x8.2.2.1.c), (.slice x8.2.2.2.1.A x8.2.2.2.1.n x8.2.2.2.1.c), (.slice x8.2.2.2.2.A x8.2.2.2.2.n x8.2.2.2.2.c)] :: .row x8.1.A x8.1.c 3 1 (ii v21) :: .row x8.2.1.A x8.2.1.c 3 1 (ii v22) :: .row x8.2.2.1.A x8.2.2.1.c 3 1 (ii v23) :: .row x8.2.2.2.1.A x8.2.2.2.1.c 3 1 (ii v24) :: .row x8.2.2.2.2.A x8.2.2.2.2.c 3 1 (ii v25) :: .box x6 29 [(.slice x5.1.A x5.1.n x5.1.c), (.slice x5.2.1.A x5.2.1.n x5.2.1.c), (.slice x5.2.2.1.A x5.2.2.1.n x5.2.2.1.c), (.slice x5.2.2.2.1.A x5.2.2.2.1.n x5.2.2.2.1.c), (.slice x5.2.2.2.2.A x5.2.2.2.2.n x5.2.2.2.2.c)] :: .row x5.1.A x5.1.c 3 1 (ii v14) :: .row x5.2.1.A x5.2.1.c 3 1 (ii v15) :: .row x5.2.2.1.A x5.2.2.1.c 3 1 (ii v16) :: .row x5.2.2.2.1.A x5.2.2.2.1.c 3 1 (ii v17) :: .row x5.2.2.2.2.A x5.2.2.2.2.c 3 1 (ii v18) :: .box x4 29 [(.slice x3.1.A x3.1.n x3.1.c), (.slice x3.2.1.A x3.2.1.n x3.2.1.c), (.slice x3.2.2.1.A x3.2.2.1.n x3.2.2.1.c), (.slice x3.2.2.2.1.A x3.2.2.2.1.n x3.2.2.2.1.c), (.slice x3.2.2.2.2.A x3.2.2.2.2.n x3.2.2.2.2.c)] :: .row x3.1.A x3.1.c 3 1 (ii v8) :: .row x3.2.1.A x3.2.1.c 3 1 (ii v9) :: .row x3.2.2.1.A x3.2.2.1.c 3 1 (ii v10) :: .row x3.2.2.2.1.A x3.2.2.2.1.c 3 1 (ii v11) :: .row x3.2.2.2.2.A x3.2.2.2.2.c 3 1 (ii v12) :: .box x2 29 [(.slice x1.1.A x1.1.n x1.1.c), (.slice x1.2.1.A x1.2.1.n x1.2.1.c), (.slice x1.2.2.1.A x1.2.2.1.n x1.2.2.1.c), (.slice x1.2.2.2.1.A x1.2.2.2.1.n x1.2.2.2.1.c), (.slice x1.2.2.2.2.A x1.2.2.2.2.n x1.2.2.2.2.c)] :: .row x1.1.A x1.1.c 3 1 (ii v1) :: .row x1.2.1.A x1.2.1.c 3 1 (ii v2) :: .row x1.2.2.1.A x1.2.2.1.c 3 1 (ii v3) :: .row x1.2.2.2.1.A x1.2.2.2.1.c 3 1 (ii v4) :: .row x1.2.2.2.2.A x1.2.2.2.2.c 3 1 (ii v5) :: F) 34 follows_any rfl ?_
                refine d_take 0 rfl (q_loadb_agg 12 rfl ag29 sz29 rfl rfl rfl rfl) rfl rfl (by kernel_rfl) (by kernel_rfl) (by kernel_rfl) (fun w h => h) ?_
                refine d_one 1 (by kernel_rfl) ?_
                refine o_do rfl (a_call ok22 rfl rfl rfl rfl (fun w hm => impl_CountedValid.calls K v8 x3.1.A x3.1.n x3.1.c v9 x3.2.1.A x3.2.1.n x3.2.1.c v10 x3.2.2.1.A x3.2.2.1.n x3.2.2.1.c v11 x3.2.2.2.1.A x3.2.2.2.1.n x3.2.2.2.1.c v12 x3.2.2.2.2.A x3.2.2.2.2.n x3.2.2.2.2.c hm x3.1.h (Rd.row 13 rfl) x3.2.1.h (Rd.row 14 rfl) x3.2.2.1.h (Rd.row 15 rfl) x3.2.2.2.1.h (Rd.row 16 rfl) (hm.roomI 16 rfl) x3.2.2.2.2.h (Rd.row 17 rfl) hb6)) rfl rfl (fun x10 w h => h) (fun x10 => ?_)
                refine d_take 2 rfl (q_move rfl rfl) rfl rfl (by kernel_rfl) (by kernel_rfl) (by kernel_rfl) (fun w h => h) ?_
                refine d_take_on 3 rfl (q_fieldAddr fi29_0 sz27 rfl rfl rfl) rfl rfl rfl rfl c5 rfl (by kernel_rfl) (by kernel_rfl) (by kernel_rfl) (fun w h => h) ?_
                refine d_take_on 4 rfl (q_fieldAddr fi27_0 sz25 rfl rfl rfl) rfl rfl rfl rfl c5 rfl (by kernel_rfl) (by kernel_rfl) (by kernel_rfl) (fun w h => h) ?_
                refine d_take_on 5 rfl (q_fieldAddr fi25_0 sz23 rfl rfl rfl) rfl rfl rfl rfl c5 rfl (by kernel_rfl) (by kernel_rfl) (by kernel_rfl) (fun w h => h) ?_
                refine d_take_on 6 rfl (q_loadb 12 rfl ag23 rfl rfl rfl) rfl rfl rfl rfl c5 rfl (by kernel_rfl) (by kernel_rfl) (by kernel_rfl) (fun w h => h) ?_
                refine d_take_on 7 rfl (q_fieldAddr fi29_0 sz27 rfl rfl rfl) rfl rfl rfl rfl c5 rfl (by kernel_rfl) (by kernel_rfl) (by kernel_rfl) (fun w h => h) ?_
                refine d_take_on 8 rfl (q_fieldAddr fi27_0 sz25 rfl rfl rfl) rfl rfl rfl rfl c5 rfl (by kernel_rfl) (by kernel_rfl) (by kernel_rfl) (fun w h => h) ?_
                refine d_take_on 9 rfl (q_fieldAddr fi25_2 sz23 rfl rfl rfl) rfl rfl rfl rfl c5 rfl (by kernel_rfl) (by kernel_rfl) (by kernel_rfl) (fun w h => h) ?_
                refine d_take_on 10 rfl (q_loadb 12 rfl ag23 rfl rfl rfl) rfl rfl rfl rfl c5 rfl (by kernel_rfl) (by kernel_rfl) (by kernel_rfl) (fun w h => h) ?_
                refine d_take_on 11 rfl (q_move rfl rfl) rfl rfl rfl rfl c5 rfl (by kernel_rfl) (by kernel_rfl) (by kernel_rfl) (fun w h => h) ?_
                refine d_take_on 12 rfl (q_ix (Rd.row 15 rfl) (ints_len1 _ v10) (by decide) x3.2.2.1.h c6 un23 sz3 rfl rfl rfl) rfl rfl rfl rfl c5 rfl (by kernel_rfl) (by kernel_rfl) (by kernel_rfl) (fun w h => h) ?_
                refine d_take_on 13 rfl (q_ldI (Rd.row 15 rfl) c6 ag3 rfl rfl) rfl rfl rfl rfl c5 rfl (by kernel_rfl) (by kernel_rfl) (by kernel_rfl) (fun w h => h) ?_
                refine d_take_on 14 rfl (q_ix (Rd.row 13 rfl) (ints_len1 _ v8) (by decide) x3.1.h c7 un23 sz3 rfl rfl rfl) rfl rfl rfl rfl c5 rfl (by kernel_rfl) (by kernel_rfl) (by kernel_rfl) (fun w h => h) ?_
                refine d_take_on 15 rfl (q_ldI (Rd.row 13 rfl) c7 ag3 rfl rfl) rfl rfl rfl rfl c5 rfl (by kernel_rfl) (by kernel_rfl) (by kernel_rfl) (fun w h => h) ?_
                refine d_take_on 16 rfl (q_fieldAddr fi29_0 sz27 rfl rfl rfl) rfl rfl rfl rfl c5 rfl (by kernel_rfl) (by kernel_rfl) (by kernel_rfl) (fun w h => h) ?_
                refine d_take_on 17 rfl (q_fieldAddr fi27_0 sz25 rfl rfl rfl) rfl rfl rfl rfl c5 rfl (by kernel_rfl) (by kernel_rfl) (by kernel_rfl) (fun w h => h) ?_
                refine d_take_on 18 rfl (q_fieldAddr fi25_2 sz23 rfl rfl rfl) rfl rfl rfl rfl c5 rfl (by kernel_rfl) (by kernel_rfl) (by kernel_rfl) (fun w h => h) ?_
                refine d_take_on 19 rfl (q_loadb 18 rfl ag23 rfl rfl rfl) rfl rfl rfl rfl c5 rfl (by kernel_rfl) (by kernel_rfl) (by kernel_rfl) (fun w h => h) ?_
                refine d_take_on 20 rfl (q_move rfl rfl) rfl rfl rfl rfl c5 rfl (by kernel_rfl) (by kernel_rfl) (by kernel_rfl) (fun w h => h) ?_
                refine d_take_on 21 rfl (q_ix (Rd.row 21 rfl) (ints_len1 _ v3) (by decide) x1.2.2.1.h c8 un23 sz3 rfl rfl rfl) rfl rfl rfl rfl c5 rfl (by kernel_rfl) (by kernel_rfl) (by kernel_rfl) (fun w h => h) ?_
                refine d_take_on 22 rfl (q_ldI (Rd.row 21 rfl) c8 ag3 rfl rfl) rfl rfl rfl rfl c5 rfl (by kernel_rfl) (by kernel_rfl) (by kernel_rfl) (fun w h => h) ?_
                refine d_take_on 23 rfl (q_eql rfl rfl rfl) rfl rfl rfl rfl c5 rfl (by kernel_rfl) (by kernel_rfl) (by kernel_rfl) (fun w h => h) ?_
                refine d_take 24 rfl (q_pick_t rfl rfl c5 rfl) rfl rfl (by kernel_rfl) (by kernel_rfl) (by kernel_rfl) (fun w h => h) ?_
                refine d_take 25 rfl (q_move rfl rfl) rfl rfl (by kernel_rfl) (by kernel_rfl) (by kernel_rfl) (fun w h => h) ?_
                refine d_take_on 26 rfl (q_move rfl rfl) rfl rfl rfl rfl (beq_t c9) rfl (by kernel_rfl) (by kernel_rfl) (by kernel_rfl) (fun w h => h) ?_
                refine d_take 27 rfl (q_pick_t rfl rfl (beq_t c9) rfl) rfl rfl (by kernel_rfl) (by kernel_rfl) (by kernel_rfl) (fun w h => h) ?_
                refine d_take 28 rfl (q_move rfl rfl) rfl rfl (by kernel_rfl) (by kernel_rfl) (by kernel_rfl) (fun w h => h) ?_
                refine d_take_on 29 rfl (q_loadb_agg 0 rfl ag29 sz29 rfl rfl rfl rfl) rfl rfl rfl rfl c10 rfl (by kernel_rfl) (by kernel_rfl) (by kernel_rfl) (fun w h => h) ?_
                refine d_take_on 30 rfl (q_loadb_agg 12 rfl ag29 sz29 rfl rfl rfl rfl) rfl rfl rfl rfl c10 rfl (by kernel_rfl) (by kernel_rfl) (by kernel_rfl) (fun w h => h) ?_
                refine d_one 31 (by kernel_rfl) ?_
                refine o_on rfl (a_call ok18 rfl rfl rfl rfl (fun w hm => impl_CountedSame.calls K v21 x8.1.A x8.1.n x8.1.c v22 x8.2.1.A x8.2.1.n x8.2.1.c v23 x8.2.2.1.A x8.2.2.1.n x8.2.2.1.c v24 x8.2.2.2.1.A x8.2.2.2.1.n x8.2.2.2.1.c v25 x8.2.2.2.2.A x8.2.2.2.2.n x8.2.2.2.2.c v8 x3.1.A x3.1.n x3.1.c v9 x3.2.1.A x3.2.1.n x3.2.1.c v10 x3.2.2.1.A x3.2.2.1.n x3.2.2.1.c v11 x3.2.2.2.1.A x3.2.2.2.1.n x3.2.2.2.1.c v12 x3.2.2.2.2.A x3.2.2.2.2.n x3.2.2.2.2.c hm x8.1.h (Rd.row 1 rfl) x8.2.1.h (Rd.row 2 rfl) x8.2.2.1.h (Rd.row 3 rfl) x8.2.2.2.1.h (Rd.row 4 rfl) x8.2.2.2.2.h (Rd.row 5 rfl) x3.1.h (Rd.row 13 rfl) x3.2.1.h (Rd.row 14 rfl) x3.2.2.1.h (Rd.row 15 rfl) x3.2.2.2.1.h (Rd.row 16 rfl) x3.2.2.2.2.h (Rd.row 17 rfl) hb7)) rfl rfl rfl rfl c10 rfl (fun x11 w h => h) (fun x11 => ?_)
                refine d_take 32 rfl (q_pick_t rfl rfl c10 rfl) rfl rfl (by kernel_rfl) (by kernel_rfl) (by kernel_rfl) (fun w h => h) ?_
                refine d_take 33 rfl (q_assign rfl rfl) rfl rfl (by kernel_rfl) (by kernel_rfl) (by kernel_rfl) (fun w h => h) ?_
                refine d_done (by kernel_rfl) ?_
                refine j_then ?_
                refine j_ret ?_
                cases h
                exact j_return rfl (ResOf.tmp rfl ResOf.nil) rfl (fun w h => ⟨(), rfl, (h.drop 24)⟩)
              · refine j_draw (.box x9 29 [(.slice x8.1.A x8.1.n x8.1.c), (.slice x8.2.1.A x8.2.1.n x8.2.1.c), (.slice x8.2.2.1.A x8.2.2.1.n x8.2.2.1.c), (.slice x8.2.2.2.1.A x8.2.2.2.1.n x8.2.2.2.1.c), (.slice x8.2.2.2.2.A x8.2.2.2.2.n x8.2.2.2.2.c)] :: .row x8.1.A x8.1.c 3 1 (ii v21) :: .row x8.2.1.A x8.2.1.c 3 1 (ii v22) :: .row x8.2.2.1.A x8.2.2.1.c 3 1 (ii v23) :: .row x8.2.2.2.1.A x8.2.2.2.1.c 3 1 (ii v24) :: .row x8.2.2.2.2.A x8.2.2.2.2.c 3 1 (ii v25) :: .box x6 29 [(.slice x5.1.A x5.1.n x5.1.c), (.slice x5.2.1.A x5.2.1.n x5.2.1.c), (.slice x5.2.2.1.A x5.2.2.1.n x5.2.2.1.c), (.slice x5.2.2.2.1.A x5.2.2.2.1.n x5.2.2.2.1.c), (.slice x5.2.2.2.2.A x5.2.2.2.2.n x5.2.2.2.2.c)] :: .row x5.1.A x5.1.c 3 1 (ii v14) :: .row x5.2.1.A x5.2.1.c 3 1 (ii v15) :: .row x5.2.2.1.A x5.2.2.1.c 3 1 (ii v16) :: .row x5.2.2.2.1.A x5.2.2.2.1.c 3 1 (ii v17) :: .row x5.2.2.2.2.A x5.2.2.2.2.c 3 1 (ii v18) :: .box x4 29 [(.slice x3.1.A x3.1.n x3.1.c), (.slice x3.2.1.A x3.2.1.n x3.2.1.c), (.slice x3.2.2.1.A x3.2.2.1.n x3.2.2.1.c), (.slice x3.2.2.2.1.A x3.2.2.2.1.n x3.2.2.2.1.c), (.slice x3.2.2.2.2.A x3.2.2.2.2.n x3.2.2.2.2.c)] :: .row x3.1.A x3.1.c 3 1 (ii v8) :: .row x3.2.1.A x3.2.1.c 3 1 (ii v9) :: .row x3.2.2.1.A x3.2.2.1.c 3 1 (ii v10) :: .row x3.2.2.2.1.A x3.2.2.2.1.c 3 1 (ii v11) :: .row x3.2.2.2.2.A x3.2.2.2.2.c 3 1 (ii v12) :: .box x2 29 [(.slice x1.1.A x1.1.n x1.1.c), (.slice x1.2.1.A x1.2.1.n x1.2.1.c), (.slice x1.2.2.1.A x1.2.2.1.n x1.2.2.1.c), (.slice x1.2.2.2.1.A x1.2.2.2.1.n x1.2.2.2.1.c), (.slice x1.2.2.2.2.A x1.2.2.2.2.n x1.2.2.2.2.c)] :: .row x1.1.A x1.1.c 3 1 (ii v1) :: .row x1.2.1.A x1.2.1.c 3 1 (ii v2) :: .row x1.2.2.1.A x1.2.2.1.c 3 1 (ii v3) :: .row x1.2.2.2.1.A x1.2.2.2.1.c 3 1 (ii v4) :: .row x1.2.2.2.2.A x1.2.2.2.2.c 3 1 (ii v5) :: F) 34 follows_any rfl ?_
                refine d_take 0 rfl (q_loadb_agg 12 rfl ag29 sz29 rfl rfl rfl rfl) rfl rfl (by kernel_rfl) (by kernel_rfl) (by kernel_rfl) (fun w h => h) ?_
                refine d_one 1 (by kernel_rfl) ?_
                refine o_do rfl (a_call ok22 rfl rfl rfl rfl (fun w hm => impl_CountedValid.calls K v8 x3.1.A x3.1.n x3.1.c v9 x3.2.1.A x3.2.1.n x3.2.1.c v10 x3.2.2.1.A x3.2.2.1.n x3.2.2.1.c v11 x3.2.2.2.1.A x3.2.2.2.1.n x3.2.2.2.1.c v12 x3.2.2.2.2.A x3.2.2.2.2.n x3.2.2.2.2.c hm x3.1.h (Rd.row 13 rfl) x3.2.1.h (Rd.row 14 rfl) x3.2.2.1.h (Rd.row 15 rfl) x3.2.2.2.1.h (Rd.row 16 rfl) (hm.roomI 16 rfl) x3.2.2.2.2.h (Rd.row 17 rfl) hb6)) rfl rfl (fun x10 w h => h) (fun x10 => ?_)
                refine d_take 2 rfl (q_move rfl rfl) rfl rfl (by kernel_rfl) (by kernel_rfl) (by kernel_rfl) (fun w h => h) ?_
                refine d_take_on 3 rfl (q_fieldAddr fi29_0 sz27 rfl rfl rfl) rfl rfl rfl rfl c5 rfl (by kernel_rfl) (by kernel_rfl) (by kernel_rfl) (fun w h => h) ?_
                refine d_take_on 4 rfl (q_fieldAddr fi27_0 sz25 rfl rfl rfl) rfl rfl rfl rfl c5 rfl (by kernel_rfl) (by kernel_rfl) (by kernel_rfl) (fun w h => h) ?_
                refine d_take_on 5 rfl (q_fieldAddr fi25_0 sz23 rfl rfl rfl) rfl rfl rfl rfl c5 rfl (by kernel_rfl) (by kernel_rfl) (by kernel_rfl) (fun w h => h) ?_
                refine d_take_on 6 rfl (q_loadb 12 rfl ag23 rfl rfl rfl) rfl rfl rfl rfl c5 rfl (by kernel_rfl) (by kernel_rfl) (by kernel_rfl) (fun w h => h) ?_
                refine d_take_on 7 rfl (q_fieldAddr fi29_0 sz27 rfl rfl rfl) rfl rfl rfl rfl c5 rfl (by kernel_rfl) (by kernel_rfl) (by kernel_rfl) (fun w h => h) ?_
                refine d_take_on 8 rfl (q_fieldAddr fi27_0 sz25 rfl rfl rfl) rfl rfl rfl rfl c5 rfl (by kernel_rfl) (by kernel_rfl) (by kernel_rfl) (fun w h => h) ?_
                refine d_take_on 9 rfl (q_fieldAddr fi25_2 sz23 rfl rfl rfl) rfl rfl rfl rfl c5 rfl (by kernel_rfl) (by kernel_rfl) (by kernel_rfl) (fun w h => h) ?_
                refine d_take_on 10 rfl (q_loadb 12 rfl ag23 rfl rfl rfl) rfl rfl rfl rfl c5 rfl (by kernel_rfl) (by kernel_rfl) (by kernel_rfl) (fun w h => h) ?_
                refine d_take_on 11 rfl (q_move rfl rfl) rfl rfl rfl rfl c5 rfl (by kernel_rfl) (by kernel_rfl) (by kernel_rfl) (fun w h => h) ?_
                refine d_take_on 12 rfl (q_ix (Rd.row 15 rfl) (ints_len1 _ v10) (by decide) x3.2.2.1.h c6 un23 sz3 rfl rfl rfl) rfl rfl rfl rfl c5 rfl (by kernel_rfl) (by kernel_rfl) (by kernel_rfl) (fun w h => h) ?_
                refine d_take_on 13 rfl (q_ldI (Rd.row 15 rfl) c6 ag3 rfl rfl) rfl rfl rfl rfl c5 rfl (by kernel_rfl) (by kernel_rfl) (by kernel_rfl) (fun w h => h) ?_
                refine d_take_on 14 rfl (q_ix (Rd.row 13 rfl) (ints_len1 _ v8) (by decide) x3.1.h c7 un23 sz3 rfl rfl rfl) rfl rfl rfl rfl c5 rfl (by kernel_rfl) (by kernel_rfl) (by kernel_rfl) (fun w h => h) ?_
                refine d_take_on 15 rfl (q_ldI (Rd.row 13 rfl) c7 ag3 rfl rfl) rfl rfl rfl rfl c5 rfl (by kernel_rfl) (by kernel_rfl) (by kernel_rfl) (fun w h => h) ?_
                refine d_take_on 16 rfl (q_fieldAddr fi29_0 sz27 rfl rfl rfl) rfl rfl rfl rfl c5 rfl (by kernel_rfl) (by kernel_rfl) (by kernel_rfl) (fun w h => h) ?_
                refine d_take_on 17 rfl (q_fieldAddr fi27_0 sz25 rfl rfl rfl) rfl rfl rfl rfl c5 rfl (by kernel_rfl) (by kernel_rfl) (by kernel_rfl) (fun w h => h) ?_
                refine d_take_on 18 rfl (q_fieldAddr fi25_2 sz23 rfl rfl rfl) rfl rfl rfl rfl c5 rfl (by kernel_rfl) (by kernel_rfl) (by kernel_rfl) (fun w h => h) ?_
                refine d_take_on 19 rfl (q_loadb 18 rfl ag23 rfl rfl rfl) rfl rfl rfl rfl c5 rfl (by kernel_rfl) (by kernel_rfl) (by kernel_rfl) (fun w h => h) ?_
                refine d_take_on 20 rfl (q_move rfl rfl) rfl rfl rfl rfl c5 rfl (by kernel_rfl) (by kernel_rfl) (by kernel_rfl) (fun w h => h) ?_
                refine d_take_on 21 rfl (q_ix (Rd.row 21 rfl) (ints_len1 _ v3) (by decide) x1.2.2.1.h c8 un23 sz3 rfl rfl rfl) rfl rfl rfl rfl c5 rfl (by kernel_rfl) (by kernel_rfl) (by kernel_rfl) (fun w h => h) ?_
                refine d_take_on 22 rfl (q_ldI (Rd.row 21 rfl) c8 ag3 rfl rfl) rfl rfl rfl rfl c5 rfl (by kernel_rfl) (by kernel_rfl) (by kernel_rfl) (fun w h => h) ?_
                refine d_take_on 23 rfl (q_eql rfl rfl rfl) rfl rfl rfl rfl c5 rfl (by kernel_rfl) (by kernel_rfl) (by kernel_rfl) (fun w h => h) ?_
                refine d_take 24 rfl (q_pick_t rfl rfl c5 rfl) rfl rfl (by kernel_rfl) (by kernel_rfl) (by kernel_rfl) (fun w h => h) ?_
                refine d_take 25 rfl (q_move rfl rfl) rfl rfl (by kernel_rfl) (by kernel_rfl) (by kernel_rfl) (fun w h => h) ?_
                refine d_take_on 26 rfl (q_move rfl rfl) rfl rfl rfl rfl (beq_t c9) rfl (by kernel_rfl) (by kernel_rfl) (by kernel_rfl) (fun w h => h) ?_
                refine d_take 27 rfl (q_pick_t rfl rfl (beq_t c9) rfl) rfl rfl (by kernel_rfl) (by kernel_rfl) (by kernel_rfl) (fun w h => h) ?_
                refine d_take 28 rfl (q_move rfl rfl) rfl rfl (by kernel_rfl) (by kernel_rfl) (by kernel_rfl) (fun w h => h) ?_
                refine d_take_off 29 rfl rfl rfl rfl rfl (var_f c10) rfl (by kernel_rfl) (by kernel_rfl) (by kernel_rfl) (fun w h => h) ?_
                refine d_take_off 30 rfl rfl rfl rfl rfl (var_f c10) rfl (by kernel_rfl) (by kernel_rfl) (by kernel_rfl) (fun w h => h) ?_
                refine d_take_off 31 rfl rfl rfl rfl rfl (var_f c10) rfl (by kernel_rfl) (by kernel_rfl) (by kernel_rfl) (fun w h => h) ?_
                refine d_take 32 rfl (q_pick_f rfl rfl (var_f c10) rfl) rfl rfl (by kernel_rfl) (by kernel_rfl) (by kernel_rfl) (fun w h => h) ?_
                refine d_take 33 rfl (q_assign rfl rfl) rfl rfl (by kernel_rfl) (by kernel_rfl) (by kernel_rfl) (fun w h => h) ?_
                refine d_done (by kernel_rfl) ?_
                refine j_then ?_
                refine j_ret ?_
                cases h
                exact j_return rfl (ResOf.tmp rfl ResOf.nil) rfl (fun w h => ⟨(), rfl, (h.drop 24)⟩)
            · refine j_draw (.box x9 29 [(.slice x8.1.A x8.1.n x8.1.c), (.slice x8.2.1.A x8.2.1.n x8.2.1.c), (.slice x8.2.2.1.A x8.2.2.1.n x8.2.2.1.c), (.slice x8.2.2.2.1.A x8.2.2.2.1.n x8.2.2.2.1.c), (.slice x8.2.2.2.2.A x8.2.2.2.2.n x8.2.2.2.2.c)] :: .row x8.1.A x8.1.c 3 1 (ii v21) :: .row x8.2.1.A x8.2.1.c 3 1 (ii v22) :: .row x8.2.2.1.A x8.2.2.1.c 3 1 (ii v23) :: .row x8.2.2.2.1.A x8.2.2.2.1.c 3 1 (ii v24) :: .row x8.2.2.2.2.A x8.2.2.2.2.c 3 1 (ii v25) :: .box x6 29 [(.slice x5.1.A x5.1.n x5.1.c), (.slice x5.2.1.A x5.2.1.n x5.2.1.c), (.slice x5.2.2.1.A x5.2.2.1.n x5.2.2.1.c), (.slice x5.2.2.2.1.A x5.2.2.2.1.n x5.2.2.2.1.c), (.slice x5.2.2.2.2.A x5.2.2.2.2.n x5.2.2.2.2.c)] :: .row x5.1.A x5.1.c 3 1 (ii v14) :: .row x5.2.1.A x5.2.1.c 3 1 (ii v15) :: .row x5.2.2.1.A x5.2.2.1.c 3 1 (ii v16) :: .row x5.2.2.2.1.A x5.2.2.2.1.c 3 1 (ii v17) :: .row x5.2.2.2.2.A x5.2.2.2.2.c 3 1 (ii v18) :: .box x4 29 [(.slice x3.1.A x3.1.n x3.1.c), (.slice x3.2.1.A x3.2.1.n x3.2.1.c), (.slice x3.2.2.1.A x3.2.2.1.n x3.2.2.1.c), (.slice x3.2.2.2.1.A x3.2.2.2.1.n x3.2.2.2.1.c), (.slice x3.2.2.2.2.A x3.2.2.2.2.n x3.2.2.2.2.c)] :: .row x3.1.A x3.1.c 3 1 (ii v8) :: .row x3.2.1.A x3.2.1.c 3 1 (ii v9) :: .row x3.2.2.1.A x3.2.2.1.c 3 1 (ii v10) :: .row x3.2.2.2.1.A x3.2.2.2.1.c 3 1 (ii v11) :: .row x3.2.2.2.2.A x3.2.2.2.2.c 3 1 (ii v12) :: .box x2 29 [(.slice x1.1.A x1.1.n x1.1.c), (.slice x1.2.1.A x1.2.1.n x1.2.1.c), (.slice x1.2.2.1.A x1.2.2.1.n x1.2.2.1.c), (.slice x1.2.2.2.1.A x1.2.2.2.1.n x1.2.2.2.1.c), (.slice x1.2.2.2.2.A x1.2.2.2.2.n x1.2.2.2.2.c)] :: .row x1.1.A x1.1.c 3 1 (ii v1) :: .row x1.2.1.A x1.2.1.c 3 1 (ii v2) :: .row x1.2.2.1.A x1.2.2.1.c 3 1 (ii v3) :: .row x1.2.2.2.1.A x1.2.2.2.1.c 3 1 (ii v4) :: .row x1.2.2.2.2.A x1.2.2.2.2.c 3 1 (ii v5) :: F) 34 follows_any rfl ?_
              refine d_take 0 rfl (q_loadb_agg 12 rfl ag29 sz29 rfl rfl rfl rfl) rfl rfl (by kernel_rfl) (by kernel_rfl) (by kernel_rfl) (fun w h => h) ?_
              refine d_one 1 (by kernel_rfl) ?_
              refine o_do rfl (a_call ok22 rfl rfl rfl rfl (fun w hm => impl_CountedValid.calls K v8 x3.1.A x3.1.n x3.1.c v9 x3.2.1.A x3.2.1.n x3.2.1.c v10 x3.2.2.1.A x3.2.2.1.n x3.2.2.1.c v11 x3.2.2.2.1.A x3.2.2.2.1.n x3.2.2.2.1.c v12 x3.2.2.2.2.A x3.2.2.2.2.n x3.2.2.2.2.c hm x3.1.h (Rd.row 13 rfl) x3.2.1.h (Rd.row 14 rfl) x3.2.2.1.h (Rd.row 15 rfl) x3.2.2.2.1.h (Rd.row 16 rfl) (hm.roomI 16 rfl) x3.2.2.2.2.h (Rd.row 17 rfl) hb6)) rfl rfl (fun x10 w h => h) (fun x10 => ?_)
              refine d_take 2 rfl (q_move rfl rfl) rfl rfl (by kernel_rfl) (by kernel_rfl) (by kernel_rfl) (fun w h => h) ?_
              refine d_take_on 3 rfl (q_fieldAddr fi29_0 sz27 rfl rfl rfl) rfl rfl rfl rfl c5 rfl (by kernel_rfl) (by kernel_rfl) (by kernel_rfl) (fun w h => h) ?_
              refine d_take_on 4 rfl (q_fieldAddr fi27_0 sz25 rfl rfl rfl) rfl rfl rfl rfl c5 rfl (by kernel_rfl) (by kernel_rfl) (by kernel_rfl) (fun w h => h) ?_
              refine d_take_on 5 rfl (q_fieldAddr fi25_0 sz23 rfl rfl rfl) rfl rfl rfl rfl c5 rfl (by kernel_rfl) (by kernel_rfl) (by kernel_rfl) (fun w h => h) ?_
              refine d_take_on 6 rfl (q_loadb 12 rfl ag23 rfl rfl rfl) rfl rfl rfl rfl c5 rfl (by kernel_rfl) (by kernel_rfl) (by kernel_rfl) (fun w h => h) ?_
              refine d_take_on 7 rfl (q_fieldAddr fi29_0 sz27 rfl rfl rfl) rfl rfl rfl rfl c5 rfl (by kernel_rfl) (by kernel_rfl) (by kernel_rfl) (fun w h => h) ?_
              refine d_take_on 8 rfl (q_fieldAddr fi27_0 sz25 rfl rfl rfl) rfl rfl rfl rfl c5 rfl (by kernel_rfl) (by kernel_rfl) (by kernel_rfl) (fun w h => h) ?_
              refine d_take_on 9 rfl (q_fieldAddr fi25_2 sz23 rfl rfl rfl) rfl rfl rfl rfl c5 rfl (by kernel_rfl) (by kernel_rfl) (by kernel_rfl) (fun w h => h) ?_
              refine d_take_on 10 rfl (q_loadb 12 rfl ag23 rfl rfl rfl) rfl rfl rfl rfl c5 rfl (by kernel_rfl) (by kernel_rfl) (by kernel_rfl) (fun w h => h) ?_
              refine d_take_on 11 rfl (q_move rfl rfl) rfl rfl rfl rfl c5 rfl (by kernel_rfl) (by kernel_rfl) (by kernel_rfl) (fun w h => h) ?_
              refine d_take_on 12 rfl (q_ix (Rd.row 15 rfl) (ints_len1 _ v10) (by decide) x3.2.2.1.h c6 un23 sz3 rfl rfl rfl) rfl rfl rfl rfl c5 rfl (by kernel_rfl) (by kernel_rfl) (by kernel_rfl) (fun w h => h) ?_
              refine d_take_on 13 rfl (q_ldI (Rd.row 15 rfl) c6 ag3 rfl rfl) rfl rfl rfl rfl c5 rfl (by kernel_rfl) (by kernel_rfl) (by kernel_rfl) (fun w h => h) ?_
              refine d_take_on 14 rfl (q_ix (Rd.row 13 rfl) (ints_len1 _ v8) (by decide) x3.1.h c7 un23 sz3 rfl rfl rfl) rfl rfl rfl rfl c5 rfl (by kernel_rfl) (by kernel_rfl) (by kernel_rfl) (fun w h => h) ?_
              refine d_take_on 15 rfl (q_ldI (Rd.row 13 rfl) c7 ag3 rfl rfl) rfl rfl rfl rfl c5 rfl (by kernel_rfl) (by kernel_rfl) (by kernel_rfl) (fun w h => h) ?_
              refine d_take_on 16 rfl (q_fieldAddr fi29_0 sz27 rfl rfl rfl) rfl rfl rfl rfl c5 rfl (by kernel_rfl) (by kernel_rfl) (by kernel_rfl) (fun w h => h) ?_
              refine d_take_on 17 rfl (q_fieldAddr fi27_0 sz25 rfl rfl rfl) rfl rfl rfl rfl c5 rfl (by kernel_rfl) (by kernel_rfl) (by kernel_rfl) (fun w h => h) ?_
              refine d_take_on 18 rfl (q_fieldAddr fi25_2 sz23 rfl rfl rfl) rfl rfl rfl rfl c5 rfl (by kernel_rfl) (by kernel_rfl) (by kernel_rfl) (fun w h => h) ?_
              refine d_take_on 19 rfl (q_loadb 18 rfl ag23 rfl rfl rfl) rfl rfl rfl rfl c5 rfl (by kernel_rfl) (by kernel_rfl) (by kernel_rfl) (fun w h => h) ?_
              refine d_take_on 20 rfl (q_move rfl rfl) rfl rfl rfl rfl c5 rfl (by kernel_rfl) (by kernel_rfl) (by kernel_rfl) (fun w h => h) ?_
              refine d_take_on 21 rfl (q_ix (Rd.row 21 rfl) (ints_len1 _ v3) (by decide) x1.2.2.1.h c8 un23 sz3 rfl rfl rfl) rfl rfl rfl rfl c5 rfl (by kernel_rfl) (by kernel_rfl) (by kernel_rfl) (fun w h => h) ?_
              refine d_take_on 22 rfl (q_ldI (Rd.row 21 rfl) c8 ag3 rfl rfl) rfl rfl rfl rfl c5 rfl (by kernel_rfl) (by kernel_rfl) (by kernel_rfl) (fun w h => h) ?_
              refine d_take_on 23 rfl (q_eql rfl rfl rfl) rfl rfl rfl rfl c5 rfl (by kernel_rfl) (by kernel_rfl) (by kernel_rfl) (fun w h => h) ?_
              refine d_take 24 rfl (q_pick_t rfl rfl c5 rfl) rfl rfl (by kernel_rfl) (by kernel_rfl) (by kernel_rfl) (fun w h => h) ?_
              refine d_take 25 rfl (q_move rfl rfl) rfl rfl (by kernel_rfl) (by kernel_rfl) (by kernel_rfl) (fun w h => h) ?_
              refine d_take_off 26 rfl rfl rfl rfl rfl (beq_f c9) rfl (by kernel_rfl) (by kernel_rfl) (by kernel_rfl) (fun w h => h) ?_
              refine d_take 27 rfl (q_pick_f rfl rfl (beq_f c9) rfl) rfl rfl (by kernel_rfl) (by kernel_rfl) (by kernel_rfl) (fun w h => h) ?_
              refine d_take 28 rfl (q_move rfl rfl) rfl rfl (by kernel_rfl) (by kernel_rfl) (by kernel_rfl) (fun w h => h) ?_
              refine d_take_off 29 rfl rfl rfl rfl rfl rfl rfl (by kernel_rfl) (by kernel_rfl) (by kernel_rfl) (fun w h => h) ?_
              refine d_take_off 30 rfl rfl rfl rfl rfl rfl rfl (by kernel_rfl) (by kernel_rfl) (by kernel_rfl) (fun w h => h) ?_
              refine d_take_off 31 rfl rfl rfl rfl rfl rfl rfl (by kernel_rfl) (by kernel_rfl) (by kernel_rfl) (fun w h => h) ?_
              refine d_take 32 rfl (q_pick_f rfl rfl rfl rfl) rfl rfl (by kernel_rfl) (by kernel_rfl) (by kernel_rfl) (fun w h => h) ?_
              refine d_take 33 rfl (q_assign rfl rfl) rfl rfl (by kernel_rfl) (by kernel_rfl) (by kernel_rfl) (fun w h => h) ?_
              refine d_done (by kernel_rfl) ?_
              refine j_then ?_
              refine j_ret ?_
              cases h
              exact j_return rfl (ResOf.tmp rfl ResOf.nil) rfl (fun w h => ⟨(), rfl, (h.drop 24)⟩)
          · refine j_draw (.box x9 29 [(.slice x8.1.A x8.1.n x8.1.c), (.slice x8.2.1.A x8.2.1.n x8.2.1.c), (.slice x8.2.2.1.A x8.2.2.1.n x8.2.2.1.c), (.slice x8.2.2.2.1.A x8.2.2.2.1.n x8.2.2.2.1.c), (.slice x8.2.2.2.2.A x8.2.2.2.2.n x8.2.2.2.2.c)] :: .row x8.1.A x8.1.c 3 1 (ii v21) :: .row x8.2.1.A x8.2.1.c 3 1 (ii v22) :: .row x8.2.2.1.A x8.2.2.1.c 3 1 (ii v23) :: .row x8.2.2.2.1.A x8.2.2.2.1.c 3 1 (ii v24) :: .row x8.2.2.2.2.A x8.2.2.2.2.c 3 1 (ii v25) :: .box x6 29 [(.slice x5.1.A x5.1.n x5.1.c), (.slice x5.2.1.A x5.2.1.n x5.2.1.c), (.slice x5.2.2.1.A x5.2.2.1.n x5.2.2.1.c), (.slice x5.2.2.2.1.A x5.2.2.2.1.n x5.2.2.2.1.c), (.slice x5.2.2.2.2.A x5.2.2.2.2.n x5.2.2.2.2.c)] :: .row x5.1.A x5.1.c 3 1 (ii v14) :: .row x5.2.1.A x5.2.1.c 3 1 (ii v15) :: .row x5.2.2.1.A x5.2.2.1.c 3 1 (ii v16) :: .row x5.2.2.2.1.A x5.2.2.2.1.c 3 1 (ii v17) :: .row x5.2.2.2.2.A x5.2.2.2.2.c 3 1 (ii v18) :: .box x4 29 [(.slice x3.1.A x3.1.n x3.1.c), (.slice x3.2.1.A x3.2.1.n x3.2.1.c), (.slice x3.2.2.1.A x3.2.2.1.n x3.2.2.1.c), (.slice x3.2.2.2.1.A x3.2.2.2.1.n x3.2.2.2.1.c), (.slice x3.2.2.2.2.A x3.2.2.2.2.n x3.2.2.2.2.c)] :: .row x3.1.A x3.1.c 3 1 (ii v8) :: .row x3.2.1.A x3.2.1.c 3 1 (ii v9) :: .row x3.2.2.1.A x3.2.2.1.c 3 1 (ii v10) :: .row x3.2.2.2.1.A x3.2.2.2.1.c 3 1 (ii v11) :: .row x3.2.2.2.2.A x3.2.2.2.2.c 3 1 (ii v12) :: .box x2 29 [(.slice x1.1.A x1.1.n x1.1.c), (.slice x1.2.1.A x1.2.1.n x1.2.1.c), (.slice x1.2.2.1.A x1.2.2.1.n x1.2.2.1.c), (.slice x1.2.2.2.1.A x1.2.2.2.1.n x1.2.2.2.1.c), (.slice x1.2.2.2.2.A x1.2.2.2.2.n x1.2.2.2.2.c)] :: .row x1.1.A x1.1.c 3 1 (ii v1) :: .row x1.2.1.A x1.2.1.c 3 1 (ii v2) :: .row x1.2.2.1.A x1.2.2.1.c 3 1 (ii v3) :: .row x1.2.2.2.1.A x1.2.2.2.1.c 3 1 (ii v4) :: .row x1.2.2.2.2.A x1.2.2.2.2.c 3 1 (ii v5) :: F) 34 follows_any rfl ?_
            refine d_take 0 rfl (q_loadb_agg 12 rfl ag29 sz29 rfl rfl rfl rfl) rfl rfl (by kernel_rfl) (by kernel_rfl) (by kernel_rfl) (fun w h => h) ?_
            refine d_one 1 (by kernel_rfl) ?_
            refine o_do rfl (a_call ok22 rfl rfl rfl rfl (fun w hm => impl_CountedValid.calls K v8 x3.1.A x3.1.n x3.1.c v9 x3.2.1.A x3.2.1.n x3.2.1.c v10 x3.2.2.1.A x3.2.2.1.n x3.2.2.1.c v11 x3.2.2.2.1.A x3.2.2.2.1.n x3.2.2.2.1.c v12 x3.2.2.2.2.A x3.2.2.2.2.n x3.2.2.2.2.c hm x3.1.h (Rd.row 13 rfl) x3.2.1.h (Rd.row 14 rfl) x3.2.2.1.h (Rd.row 15 rfl) x3.2.2.2.1.h (Rd.row 16 rfl) (hm.roomI 16 rfl) x3.2.2.2.2.h (Rd.row 17 rfl) hb6)) rfl rfl (fun x10 w h => h) (fun x10 => ?_)
            refine d_take 2 rfl (q_move rfl rfl) rfl rfl (by kernel_rfl) (by kernel_rfl) (by kernel_rfl) (fun w h => h) ?_
            refine d_take_off 3 rfl rfl rfl rfl rfl (var_f c5) rfl (by kernel_rfl) (by kernel_rfl) (by kernel_rfl) (fun w h => h) ?_
            refine d_take_off 4 rfl rfl rfl rfl rfl (var_f c5) rfl (by kernel_rfl) (by kernel_rfl) (by kernel_rfl) (fun w h => h) ?_
            refine d_take_off 5 rfl rfl rfl rfl rfl (var_f c5) rfl (by kernel_rfl) (by kernel_rfl) (by kernel_rfl) (fun w h => h) ?_
            refine d_take_off 6 rfl rfl rfl rfl rfl (var_f c5) rfl (by kernel_rfl) (by kernel_rfl) (by kernel_rfl) (fun w h => h) ?_
            refine d_take_off 7 rfl rfl rfl rfl rfl (var_f c5) rfl (by kernel_rfl) (by kernel_rfl) (by kernel_rfl) (fun w h => h) ?_
            refine d_take_off 8 rfl rfl rfl rfl rfl (var_f c5) rfl (by kernel_rfl) (by kernel_rfl) (by kernel_rfl) (fun w h => h) ?_
            refine d_take_off 9 rfl rfl rfl rfl rfl (var_f c5) rfl (by kernel_rfl) (by kernel_rfl) (by kernel_rfl) (fun w h => h) ?_
            refine d_take_off 10 rfl rfl rfl rfl rfl (var_f c5) rfl (by kernel_rfl) (by kernel_rfl) (by kernel_rfl) (fun w h => h) ?_
            refine d_take_off 11 rfl rfl rfl rfl rfl (var_f c5) rfl (by kernel_rfl) (by kernel_rfl) (by kernel_rfl) (fun w h => h) ?_
            refine d_take_off 12 rfl rfl rfl rfl rfl (var_f c5) rfl (by kernel_rfl) (by kernel_rfl) (by kernel_rfl) (fun w h => h) ?_
            refine d_take_off 13 rfl rfl rfl rfl rfl (var_f c5) rfl (by kernel_rfl) (by kernel_rfl) (by kernel_rfl) (fun w h => h) ?_
            refine d_take_off 14 rfl rfl rfl rfl rfl (var_f c5) rfl (by kernel_rfl) (by kernel_rfl) (by kernel_rfl) (fun w h => h) ?_
            refine d_take_off 15 rfl rfl rfl rfl rfl (var_f c5) rfl (by kernel_rfl) (by kernel_rfl) (by kernel_rfl) (fun w h => h) ?_
            refine d_take_off 16 rfl rfl rfl rfl rfl (var_f c5) rfl (by kernel_rfl) (by kernel_rfl) (by kernel_rfl) (fun w h => h) ?_
            refine d_take_off 17 rfl rfl rfl rfl rfl (var_f c5) rfl (by kernel_rfl) (by kernel_rfl) (by kernel_rfl) (fun w h => h) ?_
            refine d_take_off 18 rfl rfl rfl rfl rfl (var_f c5) rfl (by kernel_rfl) (by kernel_rfl) (by kernel_rfl) (fun w h => h) ?_
            refine d_take_off 19 rfl rfl rfl rfl rfl (var_f c5) rfl (by kernel_rfl) (by kernel_rfl) (by kernel_rfl) (fun w h => h) ?_
            refine d_take_off 20 rfl rfl rfl rfl rfl (var_f c5) rfl (by kernel_rfl) (by kernel_rfl) (by kernel_rfl) (fun w h => h) ?_
            refine d_take_off 21 rfl rfl rfl rfl rfl (var_f c5) rfl (by kernel_rfl) (by kernel_rfl) (by kernel_rfl) (fun w h => h) ?_
            refine d_take_off 22 rfl rfl rfl rfl rfl (var_f c5) rfl (by kernel_rfl) (by kernel_rfl) (by kernel_rfl) (fun w h => h) ?_
            refine d_take_off 23 rfl rfl rfl rfl rfl (var_f c5) rfl (by kernel_rfl) (by kernel_rfl) (by kernel_rfl) (fun w h => h) ?_
            refine d_take 24 rfl (q_pick_f rfl rfl (var_f c5) rfl) rfl rfl (by kernel_rfl) (by kernel_rfl) (by kernel_rfl) (fun w h => h) ?_
            refine d_take 25 rfl (q_move rfl rfl) rfl rfl (by kernel_rfl) (by kernel_rfl) (by kernel_rfl) (fun w h => h) ?_
            refine d_take_off 26 rfl rfl rfl rfl rfl rfl rfl (by kernel_rfl) (by kernel_rfl) (by kernel_rfl) (fun w h => h) ?_
            refine d_take 27 rfl (q_pick_f rfl rfl rfl rfl) rfl rfl (by kernel_rfl) (by kernel_rfl) (by kernel_rfl) (fun w h => h) ?_
            refine d_take 28 rfl (q_move rfl rfl) rfl rfl (by kernel_rfl) (by kernel_rfl) (by kernel_rfl) (fun w h => h) ?_
            refine d_take_off 29 rfl rfl rfl rfl rfl rfl rfl (by kernel_rfl) (by kernel_rfl) (by kernel_rfl) (fun w h => h) ?_
            refine d_take_off 30 rfl rfl rfl rfl rfl rfl rfl (by kernel_rfl) (by kernel_rfl) (by kernel_rfl) (fun w h => h) ?_
            refine d_take_off 31 rfl rfl rfl rfl rfl rfl rfl (by kernel_rfl) (by kernel_rfl) (by kernel_rfl) (fun w h => h) ?_
            refine d_take 32 rfl (q_pick_f rfl rfl rfl rfl) rfl rfl (by kernel_rfl) (by kernel_rfl) (by kernel_rfl) (fun w h => h) ?_
            refine d_take 33 rfl (q_assign rfl rfl) rfl rfl (by kernel_rfl) (by kernel_rfl) (by kernel_rfl) (fun w h => h) ?_
            refine d_done (by kernel_rfl) ?_
            refine j_then ?_
            refine j_ret ?_
            cases h
            exact j_return rfl (ResOf.tmp rfl ResOf.nil) rfl (fun w h => ⟨(), rfl, (h.drop 24)⟩)
        · refine j_true rfl (not_t (var_f c4)) ?_
          refine j_seq ?_
          refine j_region ?_
          refine r_q (q_loadb_agg 6 rfl ag29 sz29 rfl rfl rfl rfl) rfl rfl ?_
          refine r_q (q_loadb_agg 0 rfl ag29 sz29 rfl rfl rfl rfl) rfl rfl ?_
          obtain ⟨v29, hb8, h⟩ := of_b1 h
          refine r_do (a_call ok18 rfl rfl rfl rfl (fun w hm => impl_CountedSame.calls K v8 x3.1.A x3.1.n x3.1.c v9 x3.2.1.A x3.2.1.n x3.2.1.c v10 x3.2.2.1.A x3.2.2.1.n x3.2.2.1.c v11 x3.2.2.2.1.A x3.2.2.2.1.n x3.2.2.2.1.c v12 x3.2.2.2.2.A x3.2.2.2.2.n x3.2.2.2.2.c v14 x5.1.A x5.1.n x5.1.c v15 x5.2.1.A x5.2.1.n x5.2.1.c v16 x5.2.2.1.A x5.2.2.1.n x5.2.2.1.c v17 x5.2.2.2.1.A x5.2.2.2.1.n x5.2.2.2.1.c v18 x5.2.2.2.2.A x5.2.2.2.2.n x5.2.2.2.2.c hm x3.1.h (Rd.row 7 rfl) x3.2.1.h (Rd.row 8 rfl) x3.2.2.1.h (Rd.row 9 rfl) x3.2.2.2.1.h (Rd.row 10 rfl) x3.2.2.2.2.h (Rd.row 11 rfl) x5.1.h (Rd.row 1 rfl) x5.2.1.h (Rd.row 2 rfl) x5.2.2.1.h (Rd.row 3 rfl) x5.2.2.2.1.h (Rd.row 4 rfl) x5.2.2.2.2.h (Rd.row 5 rfl) hb8)) rfl rfl (fun x12 => ?_)
          refine r_q (q_move rfl rfl) rfl rfl ?_
          rcases of_if h with ⟨c11, h⟩ | ⟨c11, h⟩
          · refine r_qon (q_move rfl rfl) rfl rfl rfl rfl c11 rfl ?_
            refine r_qon (q_move rfl rfl) rfl rfl rfl rfl c11 rfl ?_
            refine r_qon (q_beql un4 rfl rfl rfl) rfl rfl rfl rfl c11 rfl ?_
            refine r_q (q_pick_t rfl rfl c11 rfl) rfl rfl ?_
            refine r_q (q_assign rfl rfl) rfl rfl ?_
            refine r_nil ?_
            refine j_then ?_
            refine j_ret ?_
            refine j_then_ret ?_
            cases h
            exact j_return rfl (ResOf.tmp rfl ResOf.nil) rfl (fun w h => ⟨(), rfl, (h.drop 18)⟩)
          · refine r_off rfl rfl rfl rfl (var_f c11) rfl ?_
            refine r_off rfl rfl rfl rfl (var_f c11) rfl ?_
            refine r_off rfl rfl rfl rfl (var_f c11) rfl ?_
            refine r_q (q_pick_f rfl rfl (var_f c11) rfl) rfl rfl ?_
            refine r_q (q_assign rfl rfl) rfl rfl ?_
            refine r_nil ?_
            refine j_then ?_
            refine j_ret ?_
            refine j_then_ret ?_
            cases h
            exact j_return rfl (ResOf.tmp rfl ResOf.nil) rfl (fun w h => ⟨(), rfl, (h.drop 18)⟩)
      · refine r_off rfl rfl rfl rfl (bne_t c3) rfl ?_
        refine r_off rfl rfl rfl rfl (bne_t c3) rfl ?_
        refine r_q (q_pick_t rfl rfl (bne_t c3) rfl) rfl rfl ?_
        refine r_nil ?_
        refine j_then ?_
        refine j_true rfl rfl ?_
        refine j_seq ?_
        refine j_region ?_
        refine r_q (q_loadb_agg 6 rfl ag29 sz29 rfl rfl rfl rfl) rfl rfl ?_
        refine r_q (q_loadb_agg 0 rfl ag29 sz29 rfl rfl rfl rfl) rfl rfl ?_
        obtain ⟨v30, hb9, h⟩ := of_b1 h
        refine r_do (a_call ok18 rfl rfl rfl rfl (fun w hm => impl_CountedSame.calls K v8 x3.1.A x3.1.n x3.1.c v9 x3.2.1.A x3.2.1.n x3.2.1.c v10 x3.2.2.1.A x3.2.2.1.n x3.2.2.1.c v11 x3.2.2.2.1.A x3.2.2.2.1.n x3.2.2.2.1.c v12 x3.2.2.2.2.A x3.2.2.2.2.n x3.2.2.2.2.c v14 x5.1.A x5.1.n x5.1.c v15 x5.2.1.A x5.2.1.n x5.2.1.c v16 x5.2.2.1.A x5.2.2.1.n x5.2.2.1.c v17 x5.2.2.2.1.A x5.2.2.2.1.n x5.2.2.2.1.c v18 x5.2.2.2.2.A x5.2.2.2.2.n x5.2.2.2.2.c hm x3.1.h (Rd.row 7 rfl) x3.2.1.h (Rd.row 8 rfl) x3.2.2.1.h (Rd.row 9 rfl) x3.2.2.2.1.h (Rd.row 10 rfl) x3.2.2.2.2.h (Rd.row 11 rfl) x5.1.h (Rd.row 1 rfl) x5.2.1.h (Rd.row 2 rfl) x5.2.2.1.h (Rd.row 3 rfl) x5.2.2.2.1.h (Rd.row 4 rfl) x5.2.2.2.2.h (Rd.row 5 rfl) hb9)) rfl rfl (fun x12 => ?_)
        refine r_q (q_move rfl rfl) rfl rfl ?_
        rcases of_if h with ⟨c12, h⟩ | ⟨c12, h⟩
        · refine r_qon (q_move rfl rfl) rfl rfl rfl rfl c12 rfl ?_
          refine r_qon (q_move rfl rfl) rfl rfl rfl rfl c12 rfl ?_
          refine r_qon (q_beql un4 rfl rfl rfl) rfl rfl rfl rfl c12 rfl ?_
          refine r_q (q_pick_t rfl rfl c12 rfl) rfl rfl ?_
          refine r_q (q_assign rfl rfl) rfl rfl ?_
          refine r_nil ?_
          refine j_then ?_
          refine j_ret ?_
          refine j_then_ret ?_
          cases h
          exact j_return rfl (ResOf.tmp rfl ResOf.nil) rfl (fun w h => ⟨(), rfl, (h.drop 18)⟩)
        · refine r_off rfl rfl rfl rfl (var_f c12) rfl ?_
          refine r_off rfl rfl rfl rfl (var_f c12) rfl ?_
          refine r_off rfl rfl rfl rfl (var_f c12) rfl ?_
          refine r_q (q_pick_f rfl rfl (var_f c12) rfl) rfl rfl ?_
          refine r_q (q_assign rfl rfl) rfl rfl ?_
          refine r_nil ?_
          refine j_then ?_
          refine j_ret ?_
          refine j_then_ret ?_
          cases h
          exact j_return rfl (ResOf.tmp rfl ResOf.nil) rfl (fun w h => ⟨(), rfl, (h.drop 18)⟩)
    · refine r_off rfl rfl rfl rfl (not_t (var_f c2)) rfl ?_
      refine r_off rfl rfl rfl rfl (not_t (var_f c2)) rfl ?_
      refine r_off rfl rfl rfl rfl (not_t (var_f c2)) rfl ?_
      refine r_q (q_pick_t rfl rfl (not_t (var_f c2)) rfl) rfl rfl ?_
      refine r_q (q_move rfl rfl) rfl rfl ?_
      refine r_off rfl rfl rfl rfl rfl rfl ?_
      refine r_off rfl rfl rfl rfl rfl rfl ?_
      refine r_q (q_pick_t rfl rfl rfl rfl) rfl rfl ?_
      refine r_nil ?_
      refine j_then ?_
      refine j_true rfl rfl ?_
      refine j_seq ?_
      refine j_region ?_
      refine r_q (q_loadb_agg 6 rfl ag29 sz29 rfl rfl rfl rfl) rfl rfl ?_
      refine r_q (q_loadb_agg 0 rfl ag29 sz29 rfl rfl rfl rfl) rfl rfl ?_
      obtain ⟨v31, hb10, h⟩ := of_b1 h
      refine r_do (a_call ok18 rfl rfl rfl rfl (fun w hm => impl_CountedSame.calls K v8 x3.1.A x3.1.n x3.1.c v9 x3.2.1.A x3.2.1.n x3.2.1.c v10 x3.2.2.1.A x3.2.2.1.n x3.2.2.1.c v11 x3.2.2.2.1.A x3.2.2.2.1.n x3.2.2.2.1.c v12 x3.2.2.2.2.A x3.2.2.2.2.n x3.2.2.2.2.c v14 x5.1.A x5.1.n x5.1.c v15 x5.2.1.A x5.2.1.n x5.2.1.c v16 x5.2.2.1.A x5.2.2.1.n x5.2.2.1.c v17 x5.2.2.2.1.A x5.2.2.2.1.n x5.2.2.2.1.c v18 x5.2.2.2.2.A x5.2.2.2.2.n x5.2.2.2.2.c hm x3.1.h (Rd.row 7 rfl) x3.2.1.h (Rd.row 8 rfl) x3.2.2.1.h (Rd.row 9 rfl) x3.2.2.2.1.h (Rd.row 10 rfl) x3.2.2.2.2.h (Rd.row 11 rfl) x5.1.h (Rd.row 1 rfl) x5.2.1.h (Rd.row 2 rfl) x5.2.2.1.h (Rd.row 3 rfl) x5.2.2.2.1.h (Rd.row 4 rfl) x5.2.2.2.2.h (Rd.row 5 rfl) hb10)) rfl rfl (fun x12 => ?_)
      refine r_q (q_move rfl rfl) rfl rfl ?_
      rcases of_if h with ⟨c13, h⟩ | ⟨c13, h⟩
      · refine r_qon (q_move rfl rfl) rfl rfl rfl rfl c13 rfl ?_
        refine r_qon (q_move rfl rfl) rfl rfl rfl rfl c13 rfl ?_
        refine r_qon (q_beql un4 rfl rfl rfl) rfl rfl rfl rfl c13 rfl ?_
        refine r_q (q_pick_t rfl rfl c13 rfl) rfl rfl ?_
        refine r_q (q_assign rfl rfl) rfl rfl ?_
        refine r_nil ?_
        refine j_then ?_
        refine j_ret ?_
        refine j_then_ret ?_
        cases h
        exact j_return rfl (ResOf.tmp rfl ResOf.nil) rfl (fun w h => ⟨(), rfl, (h.drop 18)⟩)
      · refine r_off rfl rfl rfl rfl (var_f c13) rfl ?_
        refine r_off rfl rfl rfl rfl (var_f c13) rfl ?_
        refine r_off rfl rfl rfl rfl (var_f c13) rfl ?_
        refine r_q (q_pick_f rfl rfl (var_f c13) rfl) rfl rfl ?_
        refine r_q (q_assign rfl rfl) rfl rfl ?_
        refine r_nil ?_
        refine j_then ?_
        refine j_ret ?_
        refine j_then_ret ?_
        cases h
        exact j_return rfl (ResOf.tmp rfl ResOf.nil) rfl (fun w h => ⟨(), rfl, (h.drop 18)⟩)

end Go.Proofs.Ytgganabcfloioaa.F
