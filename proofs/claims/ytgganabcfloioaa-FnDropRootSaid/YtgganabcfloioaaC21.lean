/- The program computes these pure functions, printed by the generator of wip/gen. -/
import Derived.Test.YtgganabcfloioaaFa
import Derived.Test.YtgganabcfloioaaFh
import Derived.Test.YtgganabcfloioaaFb
import Derived.Test.YtgganabcfloioaaC0
import Derived.Test.YtgganabcfloioaaC1
import Derived.Test.YtgganabcfloioaaC2
import Derived.Test.YtgganabcfloioaaC3
import Derived.Test.YtgganabcfloioaaC4
import Derived.Test.YtgganabcfloioaaC5
import Derived.Test.YtgganabcfloioaaC6
import Derived.Test.YtgganabcfloioaaC7
import Derived.Test.YtgganabcfloioaaC8
import Derived.Test.YtgganabcfloioaaC9
import Derived.Test.YtgganabcfloioaaC10
import Derived.Test.YtgganabcfloioaaC11
import Derived.Test.YtgganabcfloioaaC14
namespace Go.Proofs.Ytgganabcfloioaa.F
open Go Go.RowKit Go.Proofs.Ytgganabcfloioaa.S
set_option linter.unusedVariables false
set_option maxRecDepth 100000
theorem laws_FnDropRoot.calls (K : Nat) (a0 : List Int) (a0_A : Option Addr) (a0_n a0_c : Nat) {w0 w : World} {F : List Res} {r1 : Bool} (hm : Mem w0 (F) w) (a0_h : a0.length = a0_n) (a0_R : Rd w0 F a0_A (ints .u8 a0)) (a0_k : a0.length ≤ a0_c) (h : laws_FnDropRoot.f K a0 = some r1) :
    Calls Try.prog 5 (List.toArray [.slice a0_A a0_n a0_c]) w fun e w' => ∃ x : Unit, e = .returned (.bool r1) ∧ Mem w0 (F) w' := by
  unfold laws_FnDropRoot.f at h
  refine calls_of_J (n := 105) Try.func5 rfl rfl rfl hm ?_
  refine j_seq ?_
  refine j_region ?_
  refine r_q (q_assign rfl rfl) rfl rfl ?_
  refine r_nil ?_
  refine j_then ?_
  refine j_seq ?_
  refine j_seq ?_
  refine j_region ?_
  refine r_q (q_move rfl rfl) rfl rfl ?_
  refine r_q (q_lenX a0 a0_h un22 rfl rfl rfl rfl rfl) rfl rfl ?_
  refine r_q (q_gtr rfl rfl rfl) rfl rfl ?_
  refine r_nil ?_
  refine j_then ?_
  rcases of_if h with ⟨c1, h⟩ | ⟨c1, h⟩
  · refine j_true rfl (decide_eq_true c1) ?_
    refine j_seq ?_
    refine j_region ?_
    refine r_q (q_assign rfl rfl) rfl rfl ?_
    refine r_nil ?_
    refine j_then ?_
    refine j_ret ?_
    refine j_then_ret ?_
    cases h
    exact j_return rfl (ResOf.tmp rfl ResOf.nil) rfl (fun w h => ⟨(), rfl, h⟩)
  · refine j_false rfl (decide_eq_false c1) ?_
    refine j_skip ?_
    refine j_then ?_
    refine j_seq ?_
    refine j_region ?_
    refine r_q (q_move rfl rfl) rfl rfl ?_
    obtain ⟨v1, v2, v3, v4, v5, v6, hb1, h⟩ := of_b6 h
    refine r_do (a_call ok15 rfl rfl rfl rfl (fun w hm => spec_DrawDropRoot.calls K a0 a0_A a0_n a0_c hm a0_h a0_R a0_k hb1)) rfl rfl (fun x1 => ?_)
    refine r_q (q_move rfl rfl) rfl rfl ?_
    refine r_q (q_extract rfl rfl rfl) rfl rfl ?_
    refine r_q (q_extract rfl rfl rfl) rfl rfl ?_
    refine r_do (a_alloc zr29 rfl) rfl rfl (fun x2 => ?_)
    refine r_do (a_storeb 0 rfl sz29 rfl rfl rfl rfl (Nat.le_of_ble_eq_true rfl) rfl) rfl rfl (fun _ => ?_)
    refine j_b0 [(.slice x1.1.A x1.1.n x1.1.c), (.slice x1.2.1.A x1.2.1.n x1.2.1.c), (.slice x1.2.2.1.A x1.2.2.1.n x1.2.2.1.c), (.slice x1.2.2.2.1.A x1.2.2.2.1.n x1.2.2.2.1.c), (.slice x1.2.2.2.2.A x1.2.2.2.2.n x1.2.2.2.2.c)] rfl ?_
    refine r_q (q_assign rfl rfl) rfl rfl ?_
    refine r_nil ?_
    refine j_then ?_
    refine j_seq ?_
    refine j_region ?_
    refine r_q (q_loadb_agg 0 rfl ag29 sz29 rfl rfl rfl rfl) rfl rfl ?_
    refine r_q (q_move rfl rfl) rfl rfl ?_
    obtain ⟨v7, v8, v9, v10, v11, v12, hb2, h⟩ := of_b6 h
    refine r_do (a_call ok16 rfl rfl rfl rfl (fun w hm => impl_DropRoot.calls K v1 x1.1.A x1.1.n x1.1.c v2 x1.2.1.A x1.2.1.n x1.2.1.c v3 x1.2.2.1.A x1.2.2.1.n x1.2.2.1.c v4 x1.2.2.2.1.A x1.2.2.2.1.n x1.2.2.2.1.c v5 x1.2.2.2.2.A x1.2.2.2.2.n x1.2.2.2.2.c v6 hm x1.1.h (Rd.row 1 rfl) x1.2.1.h (Rd.row 2 rfl) x1.2.2.1.h (Rd.row 3 rfl) x1.2.2.2.1.h (Rd.row 4 rfl) (hm.roomI 4 rfl) x1.2.2.2.2.h (Rd.row 5 rfl) hb2)) rfl rfl (fun x3 => ?_)
    refine r_q (q_move rfl rfl) rfl rfl ?_
    refine r_q (q_extract rfl rfl rfl) rfl rfl ?_
    refine r_q (q_extract rfl rfl rfl) rfl rfl ?_
    refine r_do (a_alloc zr29 rfl) rfl rfl (fun x4 => ?_)
    refine r_do (a_storeb 0 rfl sz29 rfl rfl rfl rfl (Nat.le_of_ble_eq_true rfl) rfl) rfl rfl (fun _ => ?_)
    refine j_b0 [(.slice x3.1.A x3.1.n x3.1.c), (.slice x3.2.1.A x3.2.1.n x3.2.1.c), (.slice x3.2.2.1.A x3.2.2.1.n x3.2.2.1.c), (.slice x3.2.2.2.1.A x3.2.2.2.1.n x3.2.2.2.1.c), (.slice x3.2.2.2.2.A x3.2.2.2.2.n x3.2.2.2.2.c)] rfl ?_
    refine r_q (q_assign rfl rfl) rfl rfl ?_
    refine r_nil ?_
    refine j_then ?_
    refine j_seq ?_
    refine j_region ?_
    refine r_q (q_loadb_agg 6 rfl ag29 sz29 rfl rfl rfl rfl) rfl rfl ?_
    refine r_q (q_move rfl rfl) rfl rfl ?_
    obtain ⟨v13, v14, v15, v16, v17, v18, hb3, h⟩ := of_b6 h
    refine r_do (a_call ok17 rfl rfl rfl rfl (fun w hm => spec_DropRoot.calls K v1 x1.1.A x1.1.n x1.1.c v2 x1.2.1.A x1.2.1.n x1.2.1.c v3 x1.2.2.1.A x1.2.2.1.n x1.2.2.1.c v4 x1.2.2.2.1.A x1.2.2.2.1.n x1.2.2.2.1.c v5 x1.2.2.2.2.A x1.2.2.2.2.n x1.2.2.2.2.c v6 hm x1.1.h (Rd.row 7 rfl) x1.2.1.h (Rd.row 8 rfl) x1.2.2.1.h (Rd.row 9 rfl) x1.2.2.2.1.h (Rd.row 10 rfl) (hm.roomI 10 rfl) x1.2.2.2.2.h (Rd.row 11 rfl) hb3)) rfl rfl (fun x5 => ?_)
    refine r_q (q_move rfl rfl) rfl rfl ?_
    refine r_q (q_extract rfl rfl rfl) rfl rfl ?_
    refine r_q (q_extract rfl rfl rfl) rfl rfl ?_
    refine r_do (a_alloc zr29 rfl) rfl rfl (fun x6 => ?_)
    refine r_do (a_storeb 0 rfl sz29 rfl rfl rfl rfl (Nat.le_of_ble_eq_true rfl) rfl) rfl rfl (fun _ => ?_)
    refine j_b0 [(.slice x5.1.A x5.1.n x5.1.c), (.slice x5.2.1.A x5.2.1.n x5.2.1.c), (.slice x5.2.2.1.A x5.2.2.1.n x5.2.2.1.c), (.slice x5.2.2.2.1.A x5.2.2.2.1.n x5.2.2.2.1.c), (.slice x5.2.2.2.2.A x5.2.2.2.2.n x5.2.2.2.2.c)] rfl ?_
    refine r_q (q_assign rfl rfl) rfl rfl ?_
    refine r_nil ?_
    refine j_then ?_
    refine j_seq ?_
    refine j_seq ?_
    refine j_region ?_
    refine r_q (q_loadb_agg 6 rfl ag29 sz29 rfl rfl rfl rfl) rfl rfl ?_
    refine r_q (q_loadb_agg 0 rfl ag29 sz29 rfl rfl rfl rfl) rfl rfl ?_
    obtain ⟨v19, hb4, h⟩ := of_b1 h
    refine r_do (a_call ok18 rfl rfl rfl rfl (fun w hm => impl_CountedSame.calls K v7 x3.1.A x3.1.n x3.1.c v8 x3.2.1.A x3.2.1.n x3.2.1.c v9 x3.2.2.1.A x3.2.2.1.n x3.2.2.1.c v10 x3.2.2.2.1.A x3.2.2.2.1.n x3.2.2.2.1.c v11 x3.2.2.2.2.A x3.2.2.2.2.n x3.2.2.2.2.c v13 x5.1.A x5.1.n x5.1.c v14 x5.2.1.A x5.2.1.n x5.2.1.c v15 x5.2.2.1.A x5.2.2.1.n x5.2.2.1.c v16 x5.2.2.2.1.A x5.2.2.2.1.n x5.2.2.2.1.c v17 x5.2.2.2.2.A x5.2.2.2.2.n x5.2.2.2.2.c hm x3.1.h (Rd.row 7 rfl) x3.2.1.h (Rd.row 8 rfl) x3.2.2.1.h (Rd.row 9 rfl) x3.2.2.2.1.h (Rd.row 10 rfl) x3.2.2.2.2.h (Rd.row 11 rfl) x5.1.h (Rd.row 1 rfl) x5.2.1.h (Rd.row 2 rfl) x5.2.2.1.h (Rd.row 3 rfl) x5.2.2.2.1.h (Rd.row 4 rfl) x5.2.2.2.2.h (Rd.row 5 rfl) hb4)) rfl rfl (fun x7 => ?_)
    refine r_q (q_not rfl rfl) rfl rfl ?_
    refine r_q (q_move rfl rfl) rfl rfl ?_
    rcases of_if h with ⟨c2, h⟩ | ⟨c2, h⟩
    · refine r_qon (q_move rfl rfl) rfl rfl rfl rfl (not_f c2) rfl ?_
      refine r_qon (q_move rfl rfl) rfl rfl rfl rfl (not_f c2) rfl ?_
      refine r_qon (q_bneq un4 rfl rfl rfl) rfl rfl rfl rfl (not_f c2) rfl ?_
      refine r_q (q_pick_f rfl rfl (not_f c2) rfl) rfl rfl ?_
      refine r_q (q_move rfl rfl) rfl rfl ?_
      rcases of_if h with ⟨c3, h⟩ | ⟨c3, h⟩
      · refine r_qon (q_move rfl rfl) rfl rfl rfl rfl (bne_f c3) rfl ?_
        refine r_qon (q_not rfl rfl) rfl rfl rfl rfl (bne_f c3) rfl ?_
        refine r_q (q_pick_f rfl rfl (bne_f c3) rfl) rfl rfl ?_
        refine r_nil ?_
        refine j_then ?_
        rcases of_if h with ⟨c4, h⟩ | ⟨c4, h⟩
        · refine j_false rfl (not_f c4) ?_
          refine j_skip ?_
          refine j_then ?_
          refine j_seq ?_
          refine j_seq ?_
          refine j_region ?_
          refine r_q (q_assign rfl rfl) rfl rfl ?_
          refine r_nil ?_
          refine j_then ?_
          obtain ⟨κ0, h, hκ0⟩ := ex_k (g := fun κ => laws_FnDropRoot.loop0 K κ v1 v2 v3 v4 v5 v7 v8 v9 v10 v11 K (0:Int) = some r1) h
          refine j_cut (σ := Unit) (fun s => [(3, (pt x2)), (4, (i6 v6)), (5, (pt x4))]) (fun s => .box x2 29 [(.slice x1.1.A x1.1.n x1.1.c), (.slice x1.2.1.A x1.2.1.n x1.2.1.c), (.slice x1.2.2.1.A x1.2.2.1.n x1.2.2.1.c), (.slice x1.2.2.2.1.A x1.2.2.2.1.n x1.2.2.2.1.c), (.slice x1.2.2.2.2.A x1.2.2.2.2.n x1.2.2.2.2.c)] :: .box x4 29 [(.slice x3.1.A x3.1.n x3.1.c), (.slice x3.2.1.A x3.2.1.n x3.2.1.c), (.slice x3.2.2.1.A x3.2.2.1.n x3.2.2.1.c), (.slice x3.2.2.2.1.A x3.2.2.2.1.n x3.2.2.2.1.c), (.slice x3.2.2.2.2.A x3.2.2.2.2.n x3.2.2.2.2.c)] :: .row x1.1.A x1.1.c 3 1 (ii v1) :: .row x1.2.1.A x1.2.1.c 3 1 (ii v2) :: .row x1.2.2.1.A x1.2.2.1.c 3 1 (ii v3) :: .row x1.2.2.2.1.A x1.2.2.2.1.c 3 1 (ii v4) :: .row x1.2.2.2.2.A x1.2.2.2.2.c 3 1 (ii v5) :: .row x3.1.A x3.1.c 3 1 (ii v7) :: .row x3.2.1.A x3.2.1.c 3 1 (ii v8) :: .row x3.2.2.1.A x3.2.2.1.c 3 1 (ii v9) :: .row x3.2.2.2.1.A x3.2.2.2.1.c 3 1 (ii v10) :: .row x3.2.2.2.2.A x3.2.2.2.2.c 3 1 (ii v11) :: F) (fun s => κ0 () = some r1) ?_ ?_
          · refine j_block ?_
            refine j_loop (σ := Int) (fun s => [(3, (pt x2)), (4, (i6 v6)), (5, (pt x4)), (9, (i6 s))]) (fun s => .box x2 29 [(.slice x1.1.A x1.1.n x1.1.c), (.slice x1.2.1.A x1.2.1.n x1.2.1.c), (.slice x1.2.2.1.A x1.2.2.1.n x1.2.2.1.c), (.slice x1.2.2.2.1.A x1.2.2.2.1.n x1.2.2.2.1.c), (.slice x1.2.2.2.2.A x1.2.2.2.2.n x1.2.2.2.2.c)] :: .box x4 29 [(.slice x3.1.A x3.1.n x3.1.c), (.slice x3.2.1.A x3.2.1.n x3.2.1.c), (.slice x3.2.2.1.A x3.2.2.1.n x3.2.2.1.c), (.slice x3.2.2.2.1.A x3.2.2.2.1.n x3.2.2.2.1.c), (.slice x3.2.2.2.2.A x3.2.2.2.2.n x3.2.2.2.2.c)] :: .row x1.1.A x1.1.c 3 1 (ii v1) :: .row x1.2.1.A x1.2.1.c 3 1 (ii v2) :: .row x1.2.2.1.A x1.2.2.1.c 3 1 (ii v3) :: .row x1.2.2.2.1.A x1.2.2.2.1.c 3 1 (ii v4) :: .row x1.2.2.2.2.A x1.2.2.2.2.c 3 1 (ii v5) :: .row x3.1.A x3.1.c 3 1 (ii v7) :: .row x3.2.1.A x3.2.1.c 3 1 (ii v8) :: .row x3.2.2.1.A x3.2.2.1.c 3 1 (ii v9) :: .row x3.2.2.2.1.A x3.2.2.2.1.c 3 1 (ii v10) :: .row x3.2.2.2.2.A x3.2.2.2.2.c 3 1 (ii v11) :: F) (fun m s => laws_FnDropRoot.loop0 K κ0 v1 v2 v3 v4 v5 v7 v8 v9 v10 v11 m s = some r1) K (0:Int) h (fun a he => he.sub ⟨rfl, rfl, rfl, rfl, trivial⟩) (fun w h => h.pick 18 [12, 6, 13, 14, 15, 16, 17, 7, 8, 9, 10, 11] rfl) ?_
            rintro m p2 h
            cases m with
            | zero => exact absurd h (by rw [laws_FnDropRoot.loop0]; exact nofun)
            | succ m =>
              rw [laws_FnDropRoot.loop0] at h
              show J _ _ [(3, (pt x2)), (4, (i6 v6)), (5, (pt x4)), (9, (i6 p2))] _ (.box x2 29 [(.slice x1.1.A x1.1.n x1.1.c), (.slice x1.2.1.A x1.2.1.n x1.2.1.c), (.slice x1.2.2.1.A x1.2.2.1.n x1.2.2.1.c), (.slice x1.2.2.2.1.A x1.2.2.2.1.n x1.2.2.2.1.c), (.slice x1.2.2.2.2.A x1.2.2.2.2.n x1.2.2.2.2.c)] :: .box x4 29 [(.slice x3.1.A x3.1.n x3.1.c), (.slice x3.2.1.A x3.2.1.n x3.2.1.c), (.slice x3.2.2.1.A x3.2.2.1.n x3.2.2.1.c), (.slice x3.2.2.2.1.A x3.2.2.2.1.n x3.2.2.2.1.c), (.slice x3.2.2.2.2.A x3.2.2.2.2.n x3.2.2.2.2.c)] :: .row x1.1.A x1.1.c 3 1 (ii v1) :: .row x1.2.1.A x1.2.1.c 3 1 (ii v2) :: .row x1.2.2.1.A x1.2.2.1.c 3 1 (ii v3) :: .row x1.2.2.2.1.A x1.2.2.2.1.c 3 1 (ii v4) :: .row x1.2.2.2.2.A x1.2.2.2.2.c 3 1 (ii v5) :: .row x3.1.A x3.1.c 3 1 (ii v7) :: .row x3.2.1.A x3.2.1.c 3 1 (ii v8) :: .row x3.2.2.1.A x3.2.2.1.c 3 1 (ii v9) :: .row x3.2.2.2.1.A x3.2.2.2.1.c 3 1 (ii v10) :: .row x3.2.2.2.2.A x3.2.2.2.2.c 3 1 (ii v11) :: F)
              refine j_seq ?_
              refine j_seq ?_
              refine j_region ?_
              refine r_q (q_move rfl rfl) rfl rfl ?_
              refine r_q (q_fieldAddr fi29_1 sz23 rfl rfl rfl) rfl rfl ?_
              refine r_q (q_loadb 1 rfl ag23 rfl rfl rfl) rfl rfl ?_
              refine r_q (q_lenX v11 x3.2.2.2.2.h un23 rfl rfl rfl rfl rfl) rfl rfl ?_
              refine r_q (q_lss rfl rfl rfl) rfl rfl ?_
              refine r_nil ?_
              refine j_then ?_
              rcases of_if h with ⟨c20, h⟩ | ⟨c20, h⟩
              · refine j_true rfl (decide_eq_true c20) ?_
                refine j_skip ?_
                refine j_then ?_
                refine j_seq ?_
                refine j_block ?_
                refine j_seq ?_
                obtain ⟨c21, h⟩ := of_guard h
                obtain ⟨v26, hb11, h⟩ := of_b1 h
                rcases of_if h with ⟨c22, h⟩ | ⟨c22, h⟩
                · refine j_draw (.box x2 29 [(.slice x1.1.A x1.1.n x1.1.c), (.slice x1.2.1.A x1.2.1.n x1.2.1.c), (.slice x1.2.2.1.A x1.2.2.1.n x1.2.2.1.c), (.slice x1.2.2.2.1.A x1.2.2.2.1.n x1.2.2.2.1.c), (.slice x1.2.2.2.2.A x1.2.2.2.2.n x1.2.2.2.2.c)] :: .box x4 29 [(.slice x3.1.A x3.1.n x3.1.c), (.slice x3.2.1.A x3.2.1.n x3.2.1.c), (.slice x3.2.2.1.A x3.2.2.1.n x3.2.2.1.c), (.slice x3.2.2.2.1.A x3.2.2.2.1.n x3.2.2.2.1.c), (.slice x3.2.2.2.2.A x3.2.2.2.2.n x3.2.2.2.2.c)] :: .row x1.1.A x1.1.c 3 1 (ii v1) :: .row x1.2.1.A x1.2.1.c 3 1 (ii v2) :: .row x1.2.2.1.A x1.2.2.1.c 3 1 (ii v3) :: .row x1.2.2.2.1.A x1.2.2.2.1.c 3 1 (ii v4) :: .row x1.2.2.2.2.A x1.2.2.2.2.c 3 1 (ii v5) :: .row x3.1.A x3.1.c 3 1 (ii v7) :: .row x3.2.1.A x3.2.1.c 3 1 (ii v8) :: .row x3.2.2.1.A x3.2.2.1.c 3 1 (ii v9) :: .row x3.2.2.2.1.A x3.2.2.2.1.c 3 1 (ii v10) :: .row x3.2.2.2.2.A x3.2.2.2.2.c 3 1 (ii v11) :: F) 24 follows_any rfl ?_
                  refine d_take 0 rfl (q_fieldAddr fi29_1 sz23 rfl rfl rfl) rfl rfl (by kernel_rfl) (by kernel_rfl) (by kernel_rfl) (fun w h => h) ?_
                  refine d_take 1 rfl (q_loadb 1 rfl ag23 rfl rfl rfl) rfl rfl (by kernel_rfl) (by kernel_rfl) (by kernel_rfl) (fun w h => h) ?_
                  refine d_take 2 rfl (q_move rfl rfl) rfl rfl (by kernel_rfl) (by kernel_rfl) (by kernel_rfl) (fun w h => h) ?_
                  refine d_take 3 rfl (q_ix (Rd.row 11 rfl) (ints_len1 _ v11) (by decide) x3.2.2.2.2.h c21 un23 sz3 rfl rfl rfl) rfl rfl (by kernel_rfl) (by kernel_rfl) (by kernel_rfl) (fun w h => h) ?_
                  refine d_take 4 rfl (q_ldI (Rd.row 11 rfl) c21 ag3 rfl rfl) rfl rfl (by kernel_rfl) (by kernel_rfl) (by kernel_rfl) (fun w h => h) ?_
                  refine d_take 5 rfl (q_eql rfl rfl rfl) rfl rfl (by kernel_rfl) (by kernel_rfl) (by kernel_rfl) (fun w h => h) ?_
                  refine d_take 6 rfl (q_fieldAddr fi29_0 sz27 rfl rfl rfl) rfl rfl (by kernel_rfl) (by kernel_rfl) (by kernel_rfl) (fun w h => h) ?_
                  refine d_take 7 rfl (q_loadb_agg 1 rfl ag27 sz27 rfl rfl rfl rfl) rfl rfl (by kernel_rfl) (by kernel_rfl) (by kernel_rfl) (fun w h => h) ?_
                  refine d_take 8 rfl (q_move rfl rfl) rfl rfl (by kernel_rfl) (by kernel_rfl) (by kernel_rfl) (fun w h => h) ?_
                  refine d_one 9 (by kernel_rfl) ?_
                  refine o_do rfl (a_call ok23 rfl rfl rfl rfl (fun w hm => impl_IsFree.calls K v7 x3.1.A x3.1.n x3.1.c v8 x3.2.1.A x3.2.1.n x3.2.1.c v9 x3.2.2.1.A x3.2.2.1.n x3.2.2.1.c v10 x3.2.2.2.1.A x3.2.2.2.1.n x3.2.2.2.1.c p2 hm x3.1.h (Rd.row 7 rfl) x3.2.1.h (Rd.row 8 rfl) x3.2.2.1.h (Rd.row 9 rfl) x3.2.2.2.1.h (Rd.row 10 rfl) (hm.roomI 10 rfl) hb11)) rfl rfl (fun x8 w h => h) (fun x8 => ?_)
                  refine d_take 10 rfl (q_bneq un4 rfl rfl rfl) rfl rfl (by kernel_rfl) (by kernel_rfl) (by kernel_rfl) (fun w h => h) ?_
                  refine d_take 11 rfl (q_move rfl rfl) rfl rfl (by kernel_rfl) (by kernel_rfl) (by kernel_rfl) (fun w h => h) ?_
                  refine d_take_off 12 rfl rfl rfl rfl rfl (bne_f c22) rfl (by kernel_rfl) (by kernel_rfl) (by kernel_rfl) (fun w h => h) ?_
                  refine d_take_off 13 rfl rfl rfl rfl rfl (bne_f c22) rfl (by kernel_rfl) (by kernel_rfl) (by kernel_rfl) (fun w h => h) ?_
                  refine d_take_off 14 rfl rfl rfl rfl rfl (bne_f c22) rfl (by kernel_rfl) (by kernel_rfl) (by kernel_rfl) (fun w h => h) ?_
                  refine d_take_off 15 rfl rfl rfl rfl rfl (bne_f c22) rfl (by kernel_rfl) (by kernel_rfl) (by kernel_rfl) (fun w h => h) ?_
                  refine d_take_off 16 rfl rfl rfl rfl rfl (bne_f c22) rfl (by kernel_rfl) (by kernel_rfl) (by kernel_rfl) (fun w h => h) ?_
                  refine d_take_off 17 rfl rfl rfl rfl rfl (bne_f c22) rfl (by kernel_rfl) (by kernel_rfl) (by kernel_rfl) (fun w h => h) ?_
                  refine d_take_off 18 rfl rfl rfl rfl rfl (bne_f c22) rfl (by kernel_rfl) (by kernel_rfl) (by kernel_rfl) (fun w h => h) ?_
                  refine d_take_off 19 rfl rfl rfl rfl rfl (bne_f c22) rfl (by kernel_rfl) (by kernel_rfl) (by kernel_rfl) (fun w h => h) ?_
                  refine d_take_off 20 rfl rfl rfl rfl rfl (bne_f c22) rfl (by kernel_rfl) (by kernel_rfl) (by kernel_rfl) (fun w h => h) ?_
                  refine d_take_off 21 rfl rfl rfl rfl rfl (bne_f c22) rfl (by kernel_rfl) (by kernel_rfl) (by kernel_rfl) (fun w h => h) ?_
                  refine d_take_off 22 rfl rfl rfl rfl rfl (bne_f c22) rfl (by kernel_rfl) (by kernel_rfl) (by kernel_rfl) (fun w h => h) ?_
                  refine d_take 23 rfl (q_pick_f rfl rfl (bne_f c22) rfl) rfl rfl (by kernel_rfl) (by kernel_rfl) (by kernel_rfl) (fun w h => h) ?_
                  refine d_done (by kernel_rfl) ?_
                  refine j_then ?_
                  refine j_false rfl rfl ?_
                  refine j_skip ?_
                  refine j_in ?_
                  refine j_then ?_
                  refine j_region ?_
                  refine r_q (q_move rfl rfl) rfl rfl ?_
                  refine r_q (q_add rfl rfl rfl) rfl rfl ?_
                  refine r_q (q_assign rfl rfl) rfl rfl ?_
                  refine r_nil ?_
                  refine j_then ?_
                  exact j_again m (wrap64 (p2 + (1:Int))) (Nat.lt_succ_self m) h (fun a he => he.sub ⟨rfl, rfl, rfl, rfl, trivial⟩) (fun w h => h)
                · obtain ⟨v27, hb12, h⟩ := of_b1 h
                  obtain ⟨c23, h⟩ := of_guard h
                  refine j_draw (.box x2 29 [(.slice x1.1.A x1.1.n x1.1.c), (.slice x1.2.1.A x1.2.1.n x1.2.1.c), (.slice x1.2.2.1.A x1.2.2.1.n x1.2.2.1.c), (.slice x1.2.2.2.1.A x1.2.2.2.1.n x1.2.2.2.1.c), (.slice x1.2.2.2.2.A x1.2.2.2.2.n x1.2.2.2.2.c)] :: .box x4 29 [(.slice x3.1.A x3.1.n x3.1.c), (.slice x3.2.1.A x3.2.1.n x3.2.1.c), (.slice x3.2.2.1.A x3.2.2.1.n x3.2.2.1.c), (.slice x3.2.2.2.1.A x3.2.2.2.1.n x3.2.2.2.1.c), (.slice x3.2.2.2.2.A x3.2.2.2.2.n x3.2.2.2.2.c)] :: .row x1.1.A x1.1.c 3 1 (ii v1) :: .row x1.2.1.A x1.2.1.c 3 1 (ii v2) :: .row x1.2.2.1.A x1.2.2.1.c 3 1 (ii v3) :: .row x1.2.2.2.1.A x1.2.2.2.1.c 3 1 (ii v4) :: .row x1.2.2.2.2.A x1.2.2.2.2.c 3 1 (ii v5) :: .row x3.1.A x3.1.c 3 1 (ii v7) :: .row x3.2.1.A x3.2.1.c 3 1 (ii v8) :: .row x3.2.2.1.A x3.2.2.1.c 3 1 (ii v9) :: .row x3.2.2.2.1.A x3.2.2.2.1.c 3 1 (ii v10) :: .row x3.2.2.2.2.A x3.2.2.2.2.c 3 1 (ii v11) :: F) 24 follows_any rfl ?_
                  refine d_take 0 rfl (q_fieldAddr fi29_1 sz23 rfl rfl rfl) rfl rfl (by kernel_rfl) (by kernel_rfl) (by kernel_rfl) (fun w h => h) ?_
                  refine d_take 1 rfl (q_loadb 1 rfl ag23 rfl rfl rfl) rfl rfl (by kernel_rfl) (by kernel_rfl) (by kernel_rfl) (fun w h => h) ?_
                  refine d_take 2 rfl (q_move rfl rfl) rfl rfl (by kernel_rfl) (by kernel_rfl) (by kernel_rfl) (fun w h => h) ?_
                  refine d_take 3 rfl (q_ix (Rd.row 11 rfl) (ints_len1 _ v11) (by decide) x3.2.2.2.2.h c21 un23 sz3 rfl rfl rfl) rfl rfl (by kernel_rfl) (by kernel_rfl) (by kernel_rfl) (fun w h => h) ?_
                  refine d_take 4 rfl (q_ldI (Rd.row 11 rfl) c21 ag3 rfl rfl) rfl rfl (by kernel_rfl) (by kernel_rfl) (by kernel_rfl) (fun w h => h) ?_
                  refine d_take 5 rfl (q_eql rfl rfl rfl) rfl rfl (by kernel_rfl) (by kernel_rfl) (by kernel_rfl) (fun w h => h) ?_
                  refine d_take 6 rfl (q_fieldAddr fi29_0 sz27 rfl rfl rfl) rfl rfl (by kernel_rfl) (by kernel_rfl) (by kernel_rfl) (fun w h => h) ?_
                  refine d_take 7 rfl (q_loadb_agg 1 rfl ag27 sz27 rfl rfl rfl rfl) rfl rfl (by kernel_rfl) (by kernel_rfl) (by kernel_rfl) (fun w h => h) ?_
                  refine d_take 8 rfl (q_move rfl rfl) rfl rfl (by kernel_rfl) (by kernel_rfl) (by kernel_rfl) (fun w h => h) ?_
                  refine d_one 9 (by kernel_rfl) ?_
                  refine o_do rfl (a_call ok23 rfl rfl rfl rfl (fun w hm => impl_IsFree.calls K v7 x3.1.A x3.1.n x3.1.c v8 x3.2.1.A x3.2.1.n x3.2.1.c v9 x3.2.2.1.A x3.2.2.1.n x3.2.2.1.c v10 x3.2.2.2.1.A x3.2.2.2.1.n x3.2.2.2.1.c p2 hm x3.1.h (Rd.row 7 rfl) x3.2.1.h (Rd.row 8 rfl) x3.2.2.1.h (Rd.row 9 rfl) x3.2.2.2.1.h (Rd.row 10 rfl) (hm.roomI 10 rfl) hb11)) rfl rfl (fun x8 w h => h) (fun x8 => ?_)
                  refine d_take 10 rfl (q_bneq un4 rfl rfl rfl) rfl rfl (by kernel_rfl) (by kernel_rfl) (by kernel_rfl) (fun w h => h) ?_
                  refine d_take 11 rfl (q_move rfl rfl) rfl rfl (by kernel_rfl) (by kernel_rfl) (by kernel_rfl) (fun w h => h) ?_
                  refine d_take_on 12 rfl (q_fieldAddr fi29_0 sz27 rfl rfl rfl) rfl rfl rfl rfl (bne_t c22) rfl (by kernel_rfl) (by kernel_rfl) (by kernel_rfl) (fun w h => h) ?_
                  refine d_take_on 13 rfl (q_loadb_agg 0 rfl ag27 sz27 rfl rfl rfl rfl) rfl rfl rfl rfl (bne_t c22) rfl (by kernel_rfl) (by kernel_rfl) (by kernel_rfl) (fun w h => h) ?_
                  refine d_take_on 14 rfl (q_move rfl rfl) rfl rfl rfl rfl (bne_t c22) rfl (by kernel_rfl) (by kernel_rfl) (by kernel_rfl) (fun w h => h) ?_
                  refine d_take_on 16 rfl (q_fieldAddr fi29_1 sz23 rfl rfl rfl) rfl rfl rfl rfl (bne_t c22) rfl (by kernel_rfl) (by kernel_rfl) (by kernel_rfl) (fun w h => h) ?_
                  refine d_take_on 17 rfl (q_loadb 0 rfl ag23 rfl rfl rfl) rfl rfl rfl rfl (bne_t c22) rfl (by kernel_rfl) (by kernel_rfl) (by kernel_rfl) (fun w h => h) ?_
                  refine d_take_on 18 rfl (q_move rfl rfl) rfl rfl rfl rfl (bne_t c22) rfl (by kernel_rfl) (by kernel_rfl) (by kernel_rfl) (fun w h => h) ?_
                  refine d_take_on 19 rfl (q_ix (Rd.row 6 rfl) (ints_len1 _ v5) (by decide) x1.2.2.2.2.h c23 un23 sz3 rfl rfl rfl) rfl rfl rfl rfl (bne_t c22) rfl (by kernel_rfl) (by kernel_rfl) (by kernel_rfl) (fun w h => h) ?_
                  refine d_take_on 20 rfl (q_ldI (Rd.row 6 rfl) c23 ag3 rfl rfl) rfl rfl rfl rfl (bne_t c22) rfl (by kernel_rfl) (by kernel_rfl) (by kernel_rfl) (fun w h => h) ?_
                  refine d_take_on 21 rfl (q_eql rfl rfl rfl) rfl rfl rfl rfl (bne_t c22) rfl (by kernel_rfl) (by kernel_rfl) (by kernel_rfl) (fun w h => h) ?_
                  refine d_one 15 (by kernel_rfl) ?_
                  refine o_on rfl (a_call ok23 rfl rfl rfl rfl (fun w hm => impl_IsFree.calls K v1 x1.1.A x1.1.n x1.1.c v2 x1.2.1.A x1.2.1.n x1.2.1.c v3 x1.2.2.1.A x1.2.2.1.n x1.2.2.1.c v4 x1.2.2.2.1.A x1.2.2.2.1.n x1.2.2.2.1.c p2 hm x1.1.h (Rd.row 2 rfl) x1.2.1.h (Rd.row 3 rfl) x1.2.2.1.h (Rd.row 4 rfl) x1.2.2.2.1.h (Rd.row 5 rfl) (hm.roomI 5 rfl) hb12)) rfl rfl rfl rfl (bne_t c22) rfl (fun x9 w h => h) (fun x9 => ?_)
                  refine d_take_on 22 rfl (q_beql un4 rfl rfl rfl) rfl rfl rfl rfl (bne_t c22) rfl (by kernel_rfl) (by kernel_rfl) (by kernel_rfl) (fun w h => h) ?_
                  refine d_take 23 rfl (q_pick_t rfl rfl (bne_t c22) rfl) rfl rfl (by kernel_rfl) (by kernel_rfl) (by kernel_rfl) (fun w h => h) ?_
                  refine d_done (by kernel_rfl) ?_
                  refine j_then ?_
                  rcases of_if h with ⟨c24, h⟩ | ⟨c24, h⟩
                  · refine j_true rfl (beq_t c24) ?_
                    refine j_seq ?_
                    refine j_region ?_
                    refine r_q (q_assign rfl rfl) rfl rfl ?_
                    refine r_nil ?_
                    refine j_then ?_
                    refine j_ret ?_
                    refine j_in_ret ?_
                    refine j_then_ret ?_
                    refine j_then_ret ?_
                    refine j_in_ret ?_
                    refine j_then_ret ?_
                    refine j_then_ret ?_
                    cases h
                    exact j_return rfl (ResOf.tmp rfl ResOf.nil) rfl (fun w h => ⟨(), rfl, (h.drop 12)⟩)
                  · refine j_false rfl (beq_f c24) ?_
                    refine j_skip ?_
                    refine j_in ?_
                    refine j_then ?_
                    refine j_region ?_
                    refine r_q (q_move rfl rfl) rfl rfl ?_
                    refine r_q (q_add rfl rfl rfl) rfl rfl ?_
                    refine r_q (q_assign rfl rfl) rfl rfl ?_
                    refine r_nil ?_
                    refine j_then ?_
                    exact j_again m (wrap64 (p2 + (1:Int))) (Nat.lt_succ_self m) h (fun a he => he.sub ⟨rfl, rfl, rfl, rfl, trivial⟩) (fun w h => h)
              · refine j_false rfl (decide_eq_false c20) ?_
                refine j_exit ?_
                refine j_then_exit ?_
                refine j_then_exit ?_
                refine j_in_exit ?_
                refine j_then ?_
                exact j_meet () h (fun a he => he.sub ⟨rfl, rfl, rfl, trivial⟩) (fun w h => h)
          · rintro _ h
            subst hκ0
            show J _ _ [(3, (pt x2)), (4, (i6 v6)), (5, (pt x4))] _ (.box x2 29 [(.slice x1.1.A x1.1.n x1.1.c), (.slice x1.2.1.A x1.2.1.n x1.2.1.c), (.slice x1.2.2.1.A x1.2.2.1.n x1.2.2.1.c), (.slice x1.2.2.2.1.A x1.2.2.2.1.n x1.2.2.2.1.c), (.slice x1.2.2.2.2.A x1.2.2.2.2.n x1.2.2.2.2.c)] :: .box x4 29 [(.slice x3.1.A x3.1.n x3.1.c), (.slice x3.2.1.A x3.2.1.n x3.2.1.c), (.slice x3.2.2.1.A x3.2.2.1.n x3.2.2.1.c), (.slice x3.2.2.2.1.A x3.2.2.2.1.n x3.2.2.2.1.c), (.slice x3.2.2.2.2.A x3.2.2.2.2.n x3.2.2.2.2.c)] :: .row x1.1.A x1.1.c 3 1 (ii v1) :: .row x1.2.1.A x1.2.1.c 3 1 (ii v2) :: .row x1.2.2.1.A x1.2.2.1.c 3 1 (ii v3) :: .row x1.2.2.2.1.A x1.2.2.2.1.c 3 1 (ii v4) :: .row x1.2.2.2.2.A x1.2.2.2.2.c 3 1 (ii v5) :: .row x3.1.A x3.1.c 3 1 (ii v7) :: .row x3.2.1.A x3.2.1.c 3 1 (ii v8) :: .row x3.2.2.1.A x3.2.2.1.c 3 1 (ii v9) :: .row x3.2.2.2.1.A x3.2.2.2.1.c 3 1 (ii v10) :: .row x3.2.2.2.2.A x3.2.2.2.2.c 3 1 (ii v11) :: F)
            refine j_then ?_
            refine j_seq ?_
            refine j_region ?_
            refine r_q (q_loadb_agg 1 rfl ag29 sz29 rfl rfl rfl rfl) rfl rfl ?_
            obtain ⟨v28, hb13, h⟩ := of_b1 h
            refine r_do (a_call ok22 rfl rfl rfl rfl (fun w hm => impl_CountedValid.calls K v7 x3.1.A x3.1.n x3.1.c v8 x3.2.1.A x3.2.1.n x3.2.1.c v9 x3.2.2.1.A x3.2.2.1.n x3.2.2.1.c v10 x3.2.2.2.1.A x3.2.2.2.1.n x3.2.2.2.1.c v11 x3.2.2.2.2.A x3.2.2.2.2.n x3.2.2.2.2.c hm x3.1.h (Rd.row 7 rfl) x3.2.1.h (Rd.row 8 rfl) x3.2.2.1.h (Rd.row 9 rfl) x3.2.2.2.1.h (Rd.row 10 rfl) (hm.roomI 10 rfl) x3.2.2.2.2.h (Rd.row 11 rfl) hb13)) rfl rfl (fun x10 => ?_)
            refine r_q (q_move rfl rfl) rfl rfl ?_
            rcases of_if h with ⟨c25, h⟩ | ⟨c25, h⟩
            · refine r_qon (q_fieldAddr fi29_0 sz27 rfl rfl rfl) rfl rfl rfl rfl c25 rfl ?_
              refine r_qon (q_fieldAddr fi27_0 sz25 rfl rfl rfl) rfl rfl rfl rfl c25 rfl ?_
              refine r_qon (q_fieldAddr fi25_2 sz23 rfl rfl rfl) rfl rfl rfl rfl c25 rfl ?_
              refine r_qon (q_loadb 1 rfl ag23 rfl rfl rfl) rfl rfl rfl rfl c25 rfl ?_
              refine r_qon (q_move rfl rfl) rfl rfl rfl rfl c25 rfl ?_
              obtain ⟨c26, h⟩ := of_guard h
              refine r_qon (q_ix (Rd.row 9 rfl) (ints_len1 _ v9) (by decide) x3.2.2.1.h c26 un23 sz3 rfl rfl rfl) rfl rfl rfl rfl c25 rfl ?_
              refine r_qon (q_ldI (Rd.row 9 rfl) c26 ag3 rfl rfl) rfl rfl rfl rfl c25 rfl ?_
              refine r_qon (q_eql rfl rfl rfl) rfl rfl rfl rfl c25 rfl ?_
              refine r_q (q_pick_t rfl rfl c25 rfl) rfl rfl ?_
              refine r_q (q_move rfl rfl) rfl rfl ?_
              rcases of_if h with ⟨c27, h⟩ | ⟨c27, h⟩
              · refine r_qon (q_fieldAddr fi29_0 sz27 rfl rfl rfl) rfl rfl rfl rfl (beq_t c27) rfl ?_
                refine r_qon (q_fieldAddr fi27_1 sz23 rfl rfl rfl) rfl rfl rfl rfl (beq_t c27) rfl ?_
                refine r_qon (q_loadb 1 rfl ag23 rfl rfl rfl) rfl rfl rfl rfl (beq_t c27) rfl ?_
                refine r_qon (q_lenX v10 x3.2.2.2.1.h un23 rfl rfl rfl rfl rfl) rfl rfl rfl rfl (beq_t c27) rfl ?_
                refine r_qon (q_fieldAddr fi29_0 sz27 rfl rfl rfl) rfl rfl rfl rfl (beq_t c27) rfl ?_
                refine r_qon (q_fieldAddr fi27_1 sz23 rfl rfl rfl) rfl rfl rfl rfl (beq_t c27) rfl ?_
                refine r_qon (q_loadb 0 rfl ag23 rfl rfl rfl) rfl rfl rfl rfl (beq_t c27) rfl ?_
                refine r_qon (q_lenX v4 x1.2.2.2.1.h un23 rfl rfl rfl rfl rfl) rfl rfl rfl rfl (beq_t c27) rfl ?_
                refine r_qon (q_geq rfl rfl rfl) rfl rfl rfl rfl (beq_t c27) rfl ?_
                refine r_q (q_pick_t rfl rfl (beq_t c27) rfl) rfl rfl ?_
                refine r_q (q_assign rfl rfl) rfl rfl ?_
                refine r_nil ?_
                refine j_then ?_
                refine j_ret ?_
                cases h
                exact j_return rfl (ResOf.tmp rfl ResOf.nil) rfl (fun w h => ⟨(), rfl, (h.drop 12)⟩)
              · refine r_off rfl rfl rfl rfl (beq_f c27) rfl ?_
                refine r_off rfl rfl rfl rfl (beq_f c27) rfl ?_
                refine r_off rfl rfl rfl rfl (beq_f c27) rfl ?_
                refine r_off rfl rfl rfl rfl (beq_f c27) rfl ?_
                refine r_off rfl rfl rfl rfl (beq_f c27) rfl ?_
                refine r_off rfl rfl rfl rfl (beq_f c27) rfl ?_
                refine r_off rfl rfl rfl rfl (beq_f c27) rfl ?_
                refine r_off rfl rfl rfl rfl (beq_f c27) rfl ?_
                refine r_off rfl rfl rfl rfl (beq_f c27) rfl ?_
                refine r_q (q_pick_f rfl rfl (beq_f c27) rfl) rfl rfl ?_
                refine r_q (q_assign rfl rfl) rfl rfl ?_
                refine r_nil ?_
                refine j_then ?_
                refine j_ret ?_
                cases h
                exact j_return rfl (ResOf.tmp rfl ResOf.nil) rfl (fun w h => ⟨(), rfl, (h.drop 12)⟩)
            · refine r_off rfl rfl rfl rfl (var_f c25) rfl ?_
              refine r_off rfl rfl rfl rfl (var_f c25) rfl ?_
              refine r_off rfl rfl rfl rfl (var_f c25) rfl ?_
              refine r_off rfl rfl rfl rfl (var_f c25) rfl ?_
              refine r_off rfl rfl rfl rfl (var_f c25) rfl ?_
              refine r_off rfl rfl rfl rfl (var_f c25) rfl ?_
              refine r_off rfl rfl rfl rfl (var_f c25) rfl ?_
              refine r_off rfl rfl rfl rfl (var_f c25) rfl ?_
              refine r_q (q_pick_f rfl rfl (var_f c25) rfl) rfl rfl ?_
              refine r_q (q_move rfl rfl) rfl rfl ?_
              refine r_off rfl rfl rfl rfl rfl rfl ?_
              refine r_off rfl rfl rfl rfl rfl rfl ?_
              refine r_off rfl rfl rfl rfl rfl rfl ?_
              refine r_off rfl rfl rfl rfl rfl rfl ?_
              refine r_off rfl rfl rfl rfl rfl rfl ?_
              refine r_off rfl rfl rfl rfl rfl rfl ?_
              refine r_off rfl rfl rfl rfl rfl rfl ?_
              refine r_off rfl rfl rfl rfl rfl rfl ?_
              refine r_off rfl rfl rfl rfl rfl rfl ?_
              refine r_q (q_pick_f rfl rfl rfl rfl) rfl rfl ?_
              refine r_q (q_assign rfl rfl) rfl rfl ?_
              refine r_nil ?_
              refine j_then ?_
              refine j_ret ?_
              cases h
              exact j_return rfl (ResOf.tmp rfl ResOf.nil) rfl (fun w h => ⟨(), rfl, (h.drop 12)⟩)
        · refine j_true rfl (not_t (var_f c4)) ?_
          refine j_seq ?_
          refine j_region ?_
          refine r_q (q_loadb_agg 6 rfl ag29 sz29 rfl rfl rfl rfl) rfl rfl ?_
          refine r_q (q_loadb_agg 0 rfl ag29 sz29 rfl rfl rfl rfl) rfl rfl ?_
          obtain ⟨v29, hb14, h⟩ := of_b1 h
          refine r_do (a_call ok18 rfl rfl rfl rfl (fun w hm => impl_CountedSame.calls K v7 x3.1.A x3.1.n x3.1.c v8 x3.2.1.A x3.2.1.n x3.2.1.c v9 x3.2.2.1.A x3.2.2.1.n x3.2.2.1.c v10 x3.2.2.2.1.A x3.2.2.2.1.n x3.2.2.2.1.c v11 x3.2.2.2.2.A x3.2.2.2.2.n x3.2.2.2.2.c v13 x5.1.A x5.1.n x5.1.c v14 x5.2.1.A x5.2.1.n x5.2.1.c v15 x5.2.2.1.A x5.2.2.1.n x5.2.2.1.c v16 x5.2.2.2.1.A x5.2.2.2.1.n x5.2.2.2.1.c v17 x5.2.2.2.2.A x5.2.2.2.2.n x5.2.2.2.2.c hm x3.1.h (Rd.row 7 rfl) x3.2.1.h (Rd.row 8 rfl) x3.2.2.1.h (Rd.row 9 rfl) x3.2.2.2.1.h (Rd.row 10 rfl) x3.2.2.2.2.h (Rd.row 11 rfl) x5.1.h (Rd.row 1 rfl) x5.2.1.h (Rd.row 2 rfl) x5.2.2.1.h (Rd.row 3 rfl) x5.2.2.2.1.h (Rd.row 4 rfl) x5.2.2.2.2.h (Rd.row 5 rfl) hb14)) rfl rfl (fun x11 => ?_)
          refine r_q (q_move rfl rfl) rfl rfl ?_
          rcases of_if h with ⟨c28, h⟩ | ⟨c28, h⟩
          · refine r_qon (q_move rfl rfl) rfl rfl rfl rfl c28 rfl ?_
            refine r_qon (q_move rfl rfl) rfl rfl rfl rfl c28 rfl ?_
            refine r_qon (q_beql un4 rfl rfl rfl) rfl rfl rfl rfl c28 rfl ?_
            refine r_q (q_pick_t rfl rfl c28 rfl) rfl rfl ?_
            refine r_q (q_assign rfl rfl) rfl rfl ?_
            refine r_nil ?_
            refine j_then ?_
            refine j_ret ?_
            refine j_then_ret ?_
            cases h
            exact j_return rfl (ResOf.tmp rfl ResOf.nil) rfl (fun w h => ⟨(), rfl, (h.drop 18)⟩)
          · refine r_off rfl rfl rfl rfl (var_f c28) rfl ?_
            refine r_off rfl rfl rfl rfl (var_f c28) rfl ?_
            refine r_off rfl rfl rfl rfl (var_f c28) rfl ?_
            refine r_q (q_pick_f rfl rfl (var_f c28) rfl) rfl rfl ?_
            refine r_q (q_assign rfl rfl) rfl rfl ?_
            refine r_nil ?_
            refine j_then ?_
            refine j_ret ?_
            refine j_then_ret ?_
            cases h
            exact j_return rfl (ResOf.tmp rfl ResOf.nil) rfl (fun w h => ⟨(), rfl, (h.drop 18)⟩)
      · refine r_off rfl rfl rfl rfl (bne_t c3) rfl ?_
        refine r_off rfl rfl rfl rfl (bne_t c3) rfl ?_
        refine r_q (q_pick_t rfl rfl (bne_t c3) rfl) rfl rfl ?_
        refine r_nil ?_
        refine j_then ?_
        refine j_true rfl rfl ?_
        refine j_seq ?_
        refine j_region ?_
        refine r_q (q_loadb_agg 6 rfl ag29 sz29 rfl rfl rfl rfl) rfl rfl ?_
        refine r_q (q_loadb_agg 0 rfl ag29 sz29 rfl rfl rfl rfl) rfl rfl ?_
        obtain ⟨v30, hb15, h⟩ := of_b1 h
        refine r_do (a_call ok18 rfl rfl rfl rfl (fun w hm => impl_CountedSame.calls K v7 x3.1.A x3.1.n x3.1.c v8 x3.2.1.A x3.2.1.n x3.2.1.c v9 x3.2.2.1.A x3.2.2.1.n x3.2.2.1.c v10 x3.2.2.2.1.A x3.2.2.2.1.n x3.2.2.2.1.c v11 x3.2.2.2.2.A x3.2.2.2.2.n x3.2.2.2.2.c v13 x5.1.A x5.1.n x5.1.c v14 x5.2.1.A x5.2.1.n x5.2.1.c v15 x5.2.2.1.A x5.2.2.1.n x5.2.2.1.c v16 x5.2.2.2.1.A x5.2.2.2.1.n x5.2.2.2.1.c v17 x5.2.2.2.2.A x5.2.2.2.2.n x5.2.2.2.2.c hm x3.1.h (Rd.row 7 rfl) x3.2.1.h (Rd.row 8 rfl) x3.2.2.1.h (Rd.row 9 rfl) x3.2.2.2.1.h (Rd.row 10 rfl) x3.2.2.2.2.h (Rd.row 11 rfl) x5.1.h (Rd.row 1 rfl) x5.2.1.h (Rd.row 2 rfl) x5.2.2.1.h (Rd.row 3 rfl) x5.2.2.2.1.h (Rd.row 4 rfl) x5.2.2.2.2.h (Rd.row 5 rfl) hb15)) rfl rfl (fun x11 => ?_)
        refine r_q (q_move rfl rfl) rfl rfl ?_
        rcases of_if h with ⟨c29, h⟩ | ⟨c29, h⟩
        · refine r_qon (q_move rfl rfl) rfl rfl rfl rfl c29 rfl ?_
          refine r_qon (q_move rfl rfl) rfl rfl rfl rfl c29 rfl ?_
          refine r_qon (q_beql un4 rfl rfl rfl) rfl rfl rfl rfl c29 rfl ?_
          refine r_q (q_pick_t rfl rfl c29 rfl) rfl rfl ?_
          refine r_q (q_assign rfl rfl) rfl rfl ?_
          refine r_nil ?_
          refine j_then ?_
          refine j_ret ?_
          refine j_then_ret ?_
          cases h
          exact j_return rfl (ResOf.tmp rfl ResOf.nil) rfl (fun w h => ⟨(), rfl, (h.drop 18)⟩)
        · refine r_off rfl rfl rfl rfl (var_f c29) rfl ?_
          refine r_off rfl rfl rfl rfl (var_f c29) rfl ?_
          refine r_off rfl rfl rfl rfl (var_f c29) rfl ?_
          refine r_q (q_pick_f rfl rfl (var_f c29) rfl) rfl rfl ?_
          refine r_q (q_assign rfl rfl) rfl rfl ?_
          refine r_nil ?_
          refine j_then ?_
          refine j_ret ?_
          refine j_then_ret ?_
          cases h
          exact j_return rfl (ResOf.tmp rfl ResOf.nil) rfl (fun w h => ⟨(), rfl, (h.drop 18)⟩)
    · refine r_off rfl rfl rfl rfl (not_t (var_f c2)) rfl ?_
      refine r_off rfl rfl rfl rfl (not_t (var_f c2)) rfl ?_
      refine r_off rfl rfl rfl rfl (not_t (var_f c2)) rfl ?_
      refine r_q (q_pick_t rfl rfl (not_t (var_f c2)) rfl) rfl rfl ?_
      refine r_q (q_move rfl rfl) rfl rfl ?_
      refine r_off rfl rfl rfl rfl rfl rfl ?_
      refine r_off rfl rfl rfl rfl rfl rfl ?_
      refine r_q (q_pick_t rfl rfl rfl rfl) rfl rfl ?_
      refine r_nil ?_
      refine j_then ?_
      refine j_true rfl rfl ?_
      refine j_seq ?_
      refine j_region ?_
      refine r_q (q_loadb_agg 6 rfl ag29 sz29 rfl rfl rfl rfl) rfl rfl ?_
      refine r_q (q_loadb_agg 0 rfl ag29 sz29 rfl rfl rfl rfl) rfl rfl ?_
      obtain ⟨v31, hb16, h⟩ := of_b1 h
      refine r_do (a_call ok18 rfl rfl rfl rfl (fun w hm => impl_CountedSame.calls K v7 x3.1.A x3.1.n x3.1.c v8 x3.2.1.A x3.2.1.n x3.2.1.c v9 x3.2.2.1.A x3.2.2.1.n x3.2.2.1.c v10 x3.2.2.2.1.A x3.2.2.2.1.n x3.2.2.2.1.c v11 x3.2.2.2.2.A x3.2.2.2.2.n x3.2.2.2.2.c v13 x5.1.A x5.1.n x5.1.c v14 x5.2.1.A x5.2.1.n x5.2.1.c v15 x5.2.2.1.A x5.2.2.1.n x5.2.2.1.c v16 x5.2.2.2.1.A x5.2.2.2.1.n x5.2.2.2.1.c v17 x5.2.2.2.2.A x5.2.2.2.2.n x5.2.2.2.2.c hm x3.1.h (Rd.row 7 rfl) x3.2.1.h (Rd.row 8 rfl) x3.2.2.1.h (Rd.row 9 rfl) x3.2.2.2.1.h (Rd.row 10 rfl) x3.2.2.2.2.h (Rd.row 11 rfl) x5.1.h (Rd.row 1 rfl) x5.2.1.h (Rd.row 2 rfl) x5.2.2.1.h (Rd.row 3 rfl) x5.2.2.2.1.h (Rd.row 4 rfl) x5.2.2.2.2.h (Rd.row 5 rfl) hb16)) rfl rfl (fun x11 => ?_)
      refine r_q (q_move rfl rfl) rfl rfl ?_
      rcases of_if h with ⟨c30, h⟩ | ⟨c30, h⟩
      · refine r_qon (q_move rfl rfl) rfl rfl rfl rfl c30 rfl ?_
        refine r_qon (q_move rfl rfl) rfl rfl rfl rfl c30 rfl ?_
        refine r_qon (q_beql un4 rfl rfl rfl) rfl rfl rfl rfl c30 rfl ?_
        refine r_q (q_pick_t rfl rfl c30 rfl) rfl rfl ?_
        refine r_q (q_assign rfl rfl) rfl rfl ?_
        refine r_nil ?_
        refine j_then ?_
        refine j_ret ?_
        refine j_then_ret ?_
        cases h
        exact j_return rfl (ResOf.tmp rfl ResOf.nil) rfl (fun w h => ⟨(), rfl, (h.drop 18)⟩)
      · refine r_off rfl rfl rfl rfl (var_f c30) rfl ?_
        refine r_off rfl rfl rfl rfl (var_f c30) rfl ?_
        refine r_off rfl rfl rfl rfl (var_f c30) rfl ?_
        refine r_q (q_pick_f rfl rfl (var_f c30) rfl) rfl rfl ?_
        refine r_q (q_assign rfl rfl) rfl rfl ?_
        refine r_nil ?_
        refine j_then ?_
        refine j_ret ?_
        refine j_then_ret ?_
        cases h
        exact j_return rfl (ResOf.tmp rfl ResOf.nil) rfl (fun w h => ⟨(), rfl, (h.drop 18)⟩)

end Go.Proofs.Ytgganabcfloioaa.F
