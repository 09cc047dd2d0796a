/- The program computes these pure functions, printed by the generator of wip/gen. -/
import Derived.Test.YtnfaiojmabolmaaFa
import Derived.Test.YtnfaiojmabolmaaFg
import Derived.Test.YtnfaiojmabolmaaFk
import Derived.Test.YtnfaiojmabolmaaFb
import Derived.Test.YtnfaiojmabolmaaC0
import Derived.Test.YtnfaiojmabolmaaC1
import Derived.Test.YtnfaiojmabolmaaC2
namespace Go.Proofs.Ytnfaiojmabolmaa.F
open Go Go.RowKit Go.Proofs.Ytnfaiojmabolmaa.S
set_option linter.unusedVariables false
set_option maxRecDepth 100000
theorem laws_FnRunPointers.calls (K : Nat) (a0 : List Int) (a0_A : Option Addr) (a0_n a0_c : Nat) {w0 w : World} {F : List Res} {r1 : Bool} (hm : Mem w0 (F) w) (a0_h : a0.length = a0_n) (a0_R : Rd w0 F a0_A (ints .u8 a0)) (a0_k : a0.length ≤ a0_c) (h : laws_FnRunPointers.f K a0 = some r1) :
    Calls Try.prog 4 (List.toArray [.slice a0_A a0_n a0_c]) w fun e w' => ∃ x : Unit, e = .returned (.bool r1) ∧ Mem w0 (F) w' := by
  unfold laws_FnRunPointers.f at h
  refine calls_of_J (n := 130) Try.func4 rfl rfl rfl hm ?_
  refine j_seq ?_
  refine j_region ?_
  refine r_q (q_assign rfl rfl) rfl rfl ?_
  refine r_nil ?_
  refine j_then ?_
  refine j_seq ?_
  refine j_seq ?_
  refine j_region ?_
  refine r_q (q_move rfl rfl) rfl rfl ?_
  refine r_q (q_lenX a0 a0_h un22 rfl rfl rfl rfl rfl) rfl rfl ?_
  refine r_q (q_gtr rfl rfl rfl) rfl rfl ?_
  refine r_nil ?_
  refine j_then ?_
  rcases of_if h with ⟨c1, h⟩ | ⟨c1, h⟩
  · refine j_true rfl (decide_eq_true c1) ?_
    refine j_seq ?_
    refine j_region ?_
    refine r_q (q_assign rfl rfl) rfl rfl ?_
    refine r_nil ?_
    refine j_then ?_
    refine j_ret ?_
    refine j_then_ret ?_
    cases h
    exact j_return rfl (ResOf.tmp rfl ResOf.nil) rfl (fun w h => ⟨(), rfl, h⟩)
  · refine j_false rfl (decide_eq_false c1) ?_
    refine j_skip ?_
    refine j_then ?_
    refine j_seq ?_
    refine j_region ?_
    refine r_q (q_move rfl rfl) rfl rfl ?_
    obtain ⟨v1, v2, v3, v4, v5, v6, v7, hb1, h⟩ := of_b7 h
    refine r_do (a_call ok6 rfl rfl rfl rfl (fun w hm => spec_DrawRunOp.calls K a0 a0_A a0_n a0_c hm a0_h a0_R a0_k hb1)) rfl rfl (fun x1 => ?_)
    refine r_q (q_move rfl rfl) rfl rfl ?_
    refine r_q (q_extract rfl rfl rfl) rfl rfl ?_
    refine r_q (q_extract rfl rfl rfl) rfl rfl ?_
    refine r_do (a_alloc zr27 rfl) rfl rfl (fun x2 => ?_)
    refine r_do (a_alloc zr29 rfl) rfl rfl (fun x3 => ?_)
    refine r_do (a_storeb 1 rfl sz27 rfl rfl rfl rfl (Nat.le_of_ble_eq_true rfl) rfl) rfl rfl (fun _ => ?_)
    refine j_b1 [(.slice x1.1.A x1.1.n x1.1.c), (.slice x1.2.1.A x1.2.1.n x1.2.1.c), (.slice x1.2.2.1.A x1.2.2.1.n x1.2.2.1.c), (.slice x1.2.2.2.A x1.2.2.2.n x1.2.2.2.c)] rfl ?_
    refine r_do (a_storeb 0 rfl sz29 rfl rfl rfl rfl (Nat.le_of_ble_eq_true rfl) rfl) rfl rfl (fun _ => ?_)
    refine j_b0 [(i6 v5), (i6 v6), (i6 v7)] rfl ?_
    refine r_nil ?_
    refine j_then ?_
    refine j_seq ?_
    refine j_region ?_
    refine r_q (q_loadb_agg 1 rfl ag27 sz27 rfl rfl rfl rfl) rfl rfl ?_
    refine r_q (q_loadb_agg 0 rfl ag29 sz29 rfl rfl rfl rfl) rfl rfl ?_
    obtain ⟨v8, v9, v10, v11, v12, v13, hb2, h⟩ := of_b6 h
    refine r_do (a_call ok7 rfl rfl rfl rfl (fun w hm => impl_RunOp.calls K v1 x1.1.A x1.1.n x1.1.c v2 x1.2.1.A x1.2.1.n x1.2.1.c v3 x1.2.2.1.A x1.2.2.1.n x1.2.2.1.c v4 x1.2.2.2.A x1.2.2.2.n x1.2.2.2.c v5 v6 v7 hm x1.1.h (Rd.row 2 rfl) x1.2.1.h (Rd.row 3 rfl) x1.2.2.1.h (Rd.row 4 rfl) x1.2.2.2.h (Rd.row 5 rfl) (hm.roomI 5 rfl) hb2)) rfl rfl (fun x4 => ?_)
    refine r_q (q_move rfl rfl) rfl rfl ?_
    refine r_q (q_extract rfl rfl rfl) rfl rfl ?_
    refine r_q (q_extract rfl rfl rfl) rfl rfl ?_
    refine r_q (q_extract rfl rfl rfl) rfl rfl ?_
    refine r_do (a_alloc zr27 rfl) rfl rfl (fun x5 => ?_)
    refine r_do (a_storeb 0 rfl sz27 rfl rfl rfl rfl (Nat.le_of_ble_eq_true rfl) rfl) rfl rfl (fun _ => ?_)
    refine j_b0 [(.slice x4.1.A x4.1.n x4.1.c), (.slice x4.2.1.A x4.2.1.n x4.2.1.c), (.slice x4.2.2.1.A x4.2.2.1.n x4.2.2.1.c), (.slice x4.2.2.2.A x4.2.2.2.n x4.2.2.2.c)] rfl ?_
    refine r_q (q_assign rfl rfl) rfl rfl ?_
    refine r_q (q_assign rfl rfl) rfl rfl ?_
    refine r_nil ?_
    refine j_then ?_
    refine j_seq ?_
    refine j_region ?_
    refine r_q (q_loadb_agg 6 rfl ag27 sz27 rfl rfl rfl rfl) rfl rfl ?_
    refine r_q (q_loadb_agg 5 rfl ag29 sz29 rfl rfl rfl rfl) rfl rfl ?_
    obtain ⟨v14, v15, v16, v17, v18, v19, hb3, h⟩ := of_b6 h
    refine r_do (a_call ok8 rfl rfl rfl rfl (fun w hm => spec_RunOp.calls K v1 x1.1.A x1.1.n x1.1.c v2 x1.2.1.A x1.2.1.n x1.2.1.c v3 x1.2.2.1.A x1.2.2.1.n x1.2.2.1.c v4 x1.2.2.2.A x1.2.2.2.n x1.2.2.2.c v5 v6 v7 hm x1.1.h (Rd.row 7 rfl) x1.2.1.h (Rd.row 8 rfl) x1.2.2.1.h (Rd.row 9 rfl) x1.2.2.2.h (Rd.row 10 rfl) (hm.roomI 10 rfl) hb3)) rfl rfl (fun x6 => ?_)
    refine r_q (q_move rfl rfl) rfl rfl ?_
    refine r_q (q_extract rfl rfl rfl) rfl rfl ?_
    refine r_q (q_extract rfl rfl rfl) rfl rfl ?_
    refine r_q (q_extract rfl rfl rfl) rfl rfl ?_
    refine r_do (a_alloc zr27 rfl) rfl rfl (fun x7 => ?_)
    refine r_do (a_storeb 0 rfl sz27 rfl rfl rfl rfl (Nat.le_of_ble_eq_true rfl) rfl) rfl rfl (fun _ => ?_)
    refine j_b0 [(.slice x6.1.A x6.1.n x6.1.c), (.slice x6.2.1.A x6.2.1.n x6.2.1.c), (.slice x6.2.2.1.A x6.2.2.1.n x6.2.2.1.c), (.slice x6.2.2.2.A x6.2.2.2.n x6.2.2.2.c)] rfl ?_
    refine r_q (q_assign rfl rfl) rfl rfl ?_
    refine r_q (q_assign rfl rfl) rfl rfl ?_
    refine r_nil ?_
    refine j_then ?_
    refine j_seq ?_
    refine j_seq ?_
    refine j_region ?_
    refine r_q (q_loadb_agg 5 rfl ag27 sz27 rfl rfl rfl rfl) rfl rfl ?_
    refine r_q (q_loadb_agg 0 rfl ag27 sz27 rfl rfl rfl rfl) rfl rfl ?_
    obtain ⟨v20, hb4, h⟩ := of_b1 h
    refine r_do (a_call ok9 rfl rfl rfl rfl (fun w hm => impl_StoreSame.calls K v8 x4.1.A x4.1.n x4.1.c v9 x4.2.1.A x4.2.1.n x4.2.1.c v10 x4.2.2.1.A x4.2.2.1.n x4.2.2.1.c v11 x4.2.2.2.A x4.2.2.2.n x4.2.2.2.c v14 x6.1.A x6.1.n x6.1.c v15 x6.2.1.A x6.2.1.n x6.2.1.c v16 x6.2.2.1.A x6.2.2.1.n x6.2.2.1.c v17 x6.2.2.2.A x6.2.2.2.n x6.2.2.2.c hm x4.1.h (Rd.row 6 rfl) x4.2.1.h (Rd.row 7 rfl) x4.2.2.1.h (Rd.row 8 rfl) x4.2.2.2.h (Rd.row 9 rfl) x6.1.h (Rd.row 1 rfl) x6.2.1.h (Rd.row 2 rfl) x6.2.2.1.h (Rd.row 3 rfl) x6.2.2.2.h (Rd.row 4 rfl) hb4)) rfl rfl (fun x8 => ?_)
    refine r_q (q_not rfl rfl) rfl rfl ?_
    refine r_q (q_move rfl rfl) rfl rfl ?_
    rcases of_if h with ⟨c2, h⟩ | ⟨c2, h⟩
    · refine r_qon (q_move rfl rfl) rfl rfl rfl rfl (not_f c2) rfl ?_
      refine r_qon (q_move rfl rfl) rfl rfl rfl rfl (not_f c2) rfl ?_
      refine r_qon (q_neq rfl rfl rfl) rfl rfl rfl rfl (not_f c2) rfl ?_
      refine r_q (q_pick_f rfl rfl (not_f c2) rfl) rfl rfl ?_
      refine r_q (q_move rfl rfl) rfl rfl ?_
      rcases of_if h with ⟨c3, h⟩ | ⟨c3, h⟩
      · refine r_qon (q_move rfl rfl) rfl rfl rfl rfl (bne_f c3) rfl ?_
        refine r_qon (q_move rfl rfl) rfl rfl rfl rfl (bne_f c3) rfl ?_
        refine r_qon (q_bneq un4 rfl rfl rfl) rfl rfl rfl rfl (bne_f c3) rfl ?_
        refine r_q (q_pick_f rfl rfl (bne_f c3) rfl) rfl rfl ?_
        refine r_q (q_move rfl rfl) rfl rfl ?_
        rcases of_if h with ⟨c4, h⟩ | ⟨c4, h⟩
        · refine r_qon (q_move rfl rfl) rfl rfl rfl rfl (bne_f c4) rfl ?_
          refine r_qon (q_not rfl rfl) rfl rfl rfl rfl (bne_f c4) rfl ?_
          refine r_q (q_pick_f rfl rfl (bne_f c4) rfl) rfl rfl ?_
          refine r_nil ?_
          refine j_then ?_
          rcases of_if h with ⟨c5, h⟩ | ⟨c5, h⟩
          · refine j_false rfl (not_f c5) ?_
            refine j_skip ?_
            refine j_then ?_
            refine j_seq ?_
            refine j_region ?_
            refine r_q (q_assign rfl rfl) rfl rfl ?_
            refine r_nil ?_
            refine j_then ?_
            refine j_seq ?_
            refine j_seq ?_
            refine j_region ?_
            refine r_q (q_assign rfl rfl) rfl rfl ?_
            refine r_nil ?_
            refine j_then ?_
            obtain ⟨κ0, h, hκ0⟩ := ex_k (g := fun κ => laws_FnRunPointers.loop0 K κ v1 v2 v8 v9 K (0:Int) (0:Int) = some r1) h
            refine j_cut (σ := Int) (fun s => [(3, (pt x2)), (5, (pt x5)), (11, (i6 s))]) (fun s => .box x2 27 [(.slice x1.1.A x1.1.n x1.1.c), (.slice x1.2.1.A x1.2.1.n x1.2.1.c), (.slice x1.2.2.1.A x1.2.2.1.n x1.2.2.1.c), (.slice x1.2.2.2.A x1.2.2.2.n x1.2.2.2.c)] :: .box x5 27 [(.slice x4.1.A x4.1.n x4.1.c), (.slice x4.2.1.A x4.2.1.n x4.2.1.c), (.slice x4.2.2.1.A x4.2.2.1.n x4.2.2.1.c), (.slice x4.2.2.2.A x4.2.2.2.n x4.2.2.2.c)] :: .row x1.1.A x1.1.c 3 1 (ii v1) :: .row x1.2.1.A x1.2.1.c 3 1 (ii v2) :: .row x1.2.2.1.A x1.2.2.1.c 3 1 (ii v3) :: .row x1.2.2.2.A x1.2.2.2.c 3 1 (ii v4) :: .row x4.1.A x4.1.c 3 1 (ii v8) :: .row x4.2.1.A x4.2.1.c 3 1 (ii v9) :: .row x4.2.2.1.A x4.2.2.1.c 3 1 (ii v10) :: .row x4.2.2.2.A x4.2.2.2.c 3 1 (ii v11) :: F) (fun s => κ0 s = some r1) ?_ ?_
            · refine j_block ?_
              refine j_loop (σ := Int × Int) (fun s => [(3, (pt x2)), (5, (pt x5)), (11, (i6 s.1)), (12, (i6 s.2))]) (fun s => .box x2 27 [(.slice x1.1.A x1.1.n x1.1.c), (.slice x1.2.1.A x1.2.1.n x1.2.1.c), (.slice x1.2.2.1.A x1.2.2.1.n x1.2.2.1.c), (.slice x1.2.2.2.A x1.2.2.2.n x1.2.2.2.c)] :: .box x5 27 [(.slice x4.1.A x4.1.n x4.1.c), (.slice x4.2.1.A x4.2.1.n x4.2.1.c), (.slice x4.2.2.1.A x4.2.2.1.n x4.2.2.1.c), (.slice x4.2.2.2.A x4.2.2.2.n x4.2.2.2.c)] :: .row x1.1.A x1.1.c 3 1 (ii v1) :: .row x1.2.1.A x1.2.1.c 3 1 (ii v2) :: .row x1.2.2.1.A x1.2.2.1.c 3 1 (ii v3) :: .row x1.2.2.2.A x1.2.2.2.c 3 1 (ii v4) :: .row x4.1.A x4.1.c 3 1 (ii v8) :: .row x4.2.1.A x4.2.1.c 3 1 (ii v9) :: .row x4.2.2.1.A x4.2.2.1.c 3 1 (ii v10) :: .row x4.2.2.2.A x4.2.2.2.c 3 1 (ii v11) :: F) (fun m s => laws_FnRunPointers.loop0 K κ0 v1 v2 v8 v9 m s.1 s.2 = some r1) K ((0:Int), (0:Int)) h (fun a he => he.sub ⟨rfl, rfl, rfl, rfl, trivial⟩) (fun w h => h.pick 16 [11, 5, 12, 13, 14, 15, 6, 7, 8, 9] rfl) ?_
              rintro m ⟨p3, p4⟩ h
              cases m with
              | zero => exact absurd h (by rw [laws_FnRunPointers.loop0]; exact nofun)
              | succ m =>
                rw [laws_FnRunPointers.loop0] at h
                show J _ _ [(3, (pt x2)), (5, (pt x5)), (11, (i6 p3)), (12, (i6 p4))] _ (.box x2 27 [(.slice x1.1.A x1.1.n x1.1.c), (.slice x1.2.1.A x1.2.1.n x1.2.1.c), (.slice x1.2.2.1.A x1.2.2.1.n x1.2.2.1.c), (.slice x1.2.2.2.A x1.2.2.2.n x1.2.2.2.c)] :: .box x5 27 [(.slice x4.1.A x4.1.n x4.1.c), (.slice x4.2.1.A x4.2.1.n x4.2.1.c), (.slice x4.2.2.1.A x4.2.2.1.n x4.2.2.1.c), (.slice x4.2.2.2.A x4.2.2.2.n x4.2.2.2.c)] :: .row x1.1.A x1.1.c 3 1 (ii v1) :: .row x1.2.1.A x1.2.1.c 3 1 (ii v2) :: .row x1.2.2.1.A x1.2.2.1.c 3 1 (ii v3) :: .row x1.2.2.2.A x1.2.2.2.c 3 1 (ii v4) :: .row x4.1.A x4.1.c 3 1 (ii v8) :: .row x4.2.1.A x4.2.1.c 3 1 (ii v9) :: .row x4.2.2.1.A x4.2.2.1.c 3 1 (ii v10) :: .row x4.2.2.2.A x4.2.2.2.c 3 1 (ii v11) :: F)
                refine j_seq ?_
                refine j_seq ?_
                refine j_region ?_
                refine r_q (q_move rfl rfl) rfl rfl ?_
                refine r_q (q_fieldAddr fi27_0 sz25 rfl rfl rfl) rfl rfl ?_
                refine r_q (q_fieldAddr fi25_0 sz23 rfl rfl rfl) rfl rfl ?_
                refine r_q (q_loadb 1 rfl ag23 rfl rfl rfl) rfl rfl ?_
                refine r_q (q_lenX v8 x4.1.h un23 rfl rfl rfl rfl rfl) rfl rfl ?_
                refine r_q (q_lss rfl rfl rfl) rfl rfl ?_
                refine r_nil ?_
                refine j_then ?_
                rcases of_if h with ⟨c36, h⟩ | ⟨c36, h⟩
                · refine j_true rfl (decide_eq_true c36) ?_
                  refine j_skip ?_
                  refine j_then ?_
                  refine j_seq ?_
                  refine j_block ?_
                  refine j_seq ?_
                  refine j_seq ?_
                  obtain ⟨c37, h⟩ := of_guard h
                  obtain ⟨c38, h⟩ := of_guard h
                  refine j_draw (.box x2 27 [(.slice x1.1.A x1.1.n x1.1.c), (.slice x1.2.1.A x1.2.1.n x1.2.1.c), (.slice x1.2.2.1.A x1.2.2.1.n x1.2.2.1.c), (.slice x1.2.2.2.A x1.2.2.2.n x1.2.2.2.c)] :: .box x5 27 [(.slice x4.1.A x4.1.n x4.1.c), (.slice x4.2.1.A x4.2.1.n x4.2.1.c), (.slice x4.2.2.1.A x4.2.2.1.n x4.2.2.1.c), (.slice x4.2.2.2.A x4.2.2.2.n x4.2.2.2.c)] :: .row x1.1.A x1.1.c 3 1 (ii v1) :: .row x1.2.1.A x1.2.1.c 3 1 (ii v2) :: .row x1.2.2.1.A x1.2.2.1.c 3 1 (ii v3) :: .row x1.2.2.2.A x1.2.2.2.c 3 1 (ii v4) :: .row x4.1.A x4.1.c 3 1 (ii v8) :: .row x4.2.1.A x4.2.1.c 3 1 (ii v9) :: .row x4.2.2.1.A x4.2.2.1.c 3 1 (ii v10) :: .row x4.2.2.2.A x4.2.2.2.c 3 1 (ii v11) :: F) 13 follows_any rfl ?_
                  refine d_take 0 rfl (q_fieldAddr fi27_0 sz25 rfl rfl rfl) rfl rfl (by kernel_rfl) (by kernel_rfl) (by kernel_rfl) (fun w h => h) ?_
                  refine d_take 1 rfl (q_fieldAddr fi25_0 sz23 rfl rfl rfl) rfl rfl (by kernel_rfl) (by kernel_rfl) (by kernel_rfl) (fun w h => h) ?_
                  refine d_take 2 rfl (q_loadb 1 rfl ag23 rfl rfl rfl) rfl rfl (by kernel_rfl) (by kernel_rfl) (by kernel_rfl) (fun w h => h) ?_
                  refine d_take 3 rfl (q_move rfl rfl) rfl rfl (by kernel_rfl) (by kernel_rfl) (by kernel_rfl) (fun w h => h) ?_
                  refine d_take 4 rfl (q_ix (Rd.row 6 rfl) (ints_len1 _ v8) (by decide) x4.1.h c37 un23 sz3 rfl rfl rfl) rfl rfl (by kernel_rfl) (by kernel_rfl) (by kernel_rfl) (fun w h => h) ?_
                  refine d_take 5 rfl (q_ldI (Rd.row 6 rfl) c37 ag3 rfl rfl) rfl rfl (by kernel_rfl) (by kernel_rfl) (by kernel_rfl) (fun w h => h) ?_
                  refine d_take 6 rfl (q_fieldAddr fi27_0 sz25 rfl rfl rfl) rfl rfl (by kernel_rfl) (by kernel_rfl) (by kernel_rfl) (fun w h => h) ?_
                  refine d_take 7 rfl (q_fieldAddr fi25_0 sz23 rfl rfl rfl) rfl rfl (by kernel_rfl) (by kernel_rfl) (by kernel_rfl) (fun w h => h) ?_
                  refine d_take 8 rfl (q_loadb 0 rfl ag23 rfl rfl rfl) rfl rfl (by kernel_rfl) (by kernel_rfl) (by kernel_rfl) (fun w h => h) ?_
                  refine d_take 9 rfl (q_move rfl rfl) rfl rfl (by kernel_rfl) (by kernel_rfl) (by kernel_rfl) (fun w h => h) ?_
                  refine d_take 10 rfl (q_ix (Rd.row 2 rfl) (ints_len1 _ v1) (by decide) x1.1.h c38 un23 sz3 rfl rfl rfl) rfl rfl (by kernel_rfl) (by kernel_rfl) (by kernel_rfl) (fun w h => h) ?_
                  refine d_take 11 rfl (q_ldI (Rd.row 2 rfl) c38 ag3 rfl rfl) rfl rfl (by kernel_rfl) (by kernel_rfl) (by kernel_rfl) (fun w h => h) ?_
                  refine d_take 12 rfl (q_neq rfl rfl rfl) rfl rfl (by kernel_rfl) (by kernel_rfl) (by kernel_rfl) (fun w h => h) ?_
                  refine d_done (by kernel_rfl) ?_
                  refine j_then ?_
                  rcases of_if h with ⟨c39, h⟩ | ⟨c39, h⟩
                  · refine j_false rfl (bne_f c39) ?_
                    refine j_skip ?_
                    refine j_then ?_
                    refine j_seq ?_
                    obtain ⟨c40, h⟩ := of_guard h
                    obtain ⟨c41, h⟩ := of_guard h
                    refine j_draw (.box x2 27 [(.slice x1.1.A x1.1.n x1.1.c), (.slice x1.2.1.A x1.2.1.n x1.2.1.c), (.slice x1.2.2.1.A x1.2.2.1.n x1.2.2.1.c), (.slice x1.2.2.2.A x1.2.2.2.n x1.2.2.2.c)] :: .box x5 27 [(.slice x4.1.A x4.1.n x4.1.c), (.slice x4.2.1.A x4.2.1.n x4.2.1.c), (.slice x4.2.2.1.A x4.2.2.1.n x4.2.2.1.c), (.slice x4.2.2.2.A x4.2.2.2.n x4.2.2.2.c)] :: .row x1.1.A x1.1.c 3 1 (ii v1) :: .row x1.2.1.A x1.2.1.c 3 1 (ii v2) :: .row x1.2.2.1.A x1.2.2.1.c 3 1 (ii v3) :: .row x1.2.2.2.A x1.2.2.2.c 3 1 (ii v4) :: .row x4.1.A x4.1.c 3 1 (ii v8) :: .row x4.2.1.A x4.2.1.c 3 1 (ii v9) :: .row x4.2.2.1.A x4.2.2.1.c 3 1 (ii v10) :: .row x4.2.2.2.A x4.2.2.2.c 3 1 (ii v11) :: F) 13 follows_any rfl ?_
                    refine d_take 0 rfl (q_fieldAddr fi27_0 sz25 rfl rfl rfl) rfl rfl (by kernel_rfl) (by kernel_rfl) (by kernel_rfl) (fun w h => h) ?_
                    refine d_take 1 rfl (q_fieldAddr fi25_1 sz23 rfl rfl rfl) rfl rfl (by kernel_rfl) (by kernel_rfl) (by kernel_rfl) (fun w h => h) ?_
                    refine d_take 2 rfl (q_loadb 1 rfl ag23 rfl rfl rfl) rfl rfl (by kernel_rfl) (by kernel_rfl) (by kernel_rfl) (fun w h => h) ?_
                    refine d_take 3 rfl (q_move rfl rfl) rfl rfl (by kernel_rfl) (by kernel_rfl) (by kernel_rfl) (fun w h => h) ?_
                    refine d_take 4 rfl (q_ix (Rd.row 7 rfl) (ints_len1 _ v9) (by decide) x4.2.1.h c40 un23 sz3 rfl rfl rfl) rfl rfl (by kernel_rfl) (by kernel_rfl) (by kernel_rfl) (fun w h => h) ?_
                    refine d_take 5 rfl (q_ldI (Rd.row 7 rfl) c40 ag3 rfl rfl) rfl rfl (by kernel_rfl) (by kernel_rfl) (by kernel_rfl) (fun w h => h) ?_
                    refine d_take 6 rfl (q_fieldAddr fi27_0 sz25 rfl rfl rfl) rfl rfl (by kernel_rfl) (by kernel_rfl) (by kernel_rfl) (fun w h => h) ?_
                    refine d_take 7 rfl (q_fieldAddr fi25_1 sz23 rfl rfl rfl) rfl rfl (by kernel_rfl) (by kernel_rfl) (by kernel_rfl) (fun w h => h) ?_
                    refine d_take 8 rfl (q_loadb 0 rfl ag23 rfl rfl rfl) rfl rfl (by kernel_rfl) (by kernel_rfl) (by kernel_rfl) (fun w h => h) ?_
                    refine d_take 9 rfl (q_move rfl rfl) rfl rfl (by kernel_rfl) (by kernel_rfl) (by kernel_rfl) (fun w h => h) ?_
                    refine d_take 10 rfl (q_ix (Rd.row 3 rfl) (ints_len1 _ v2) (by decide) x1.2.1.h c41 un23 sz3 rfl rfl rfl) rfl rfl (by kernel_rfl) (by kernel_rfl) (by kernel_rfl) (fun w h => h) ?_
                    refine d_take 11 rfl (q_ldI (Rd.row 3 rfl) c41 ag3 rfl rfl) rfl rfl (by kernel_rfl) (by kernel_rfl) (by kernel_rfl) (fun w h => h) ?_
                    refine d_take 12 rfl (q_neq rfl rfl rfl) rfl rfl (by kernel_rfl) (by kernel_rfl) (by kernel_rfl) (fun w h => h) ?_
                    refine d_done (by kernel_rfl) ?_
                    refine j_then ?_
                    rcases of_if h with ⟨c42, h⟩ | ⟨c42, h⟩
                    · refine j_false rfl (bne_f c42) ?_
                      refine j_skip ?_
                      refine j_in ?_
                      refine j_then ?_
                      refine j_region ?_
                      refine r_q (q_move rfl rfl) rfl rfl ?_
                      refine r_q (q_add rfl rfl rfl) rfl rfl ?_
                      refine r_q (q_assign rfl rfl) rfl rfl ?_
                      refine r_nil ?_
                      refine j_then ?_
                      exact j_again m (p3, (wrap64 (p4 + (1:Int)))) (Nat.lt_succ_self m) h (fun a he => he.sub ⟨rfl, rfl, rfl, rfl, trivial⟩) (fun w h => h)
                    · refine j_true rfl (bne_t c42) ?_
                      refine j_region ?_
                      refine r_q (q_move rfl rfl) rfl rfl ?_
                      refine r_q (q_add rfl rfl rfl) rfl rfl ?_
                      refine r_q (q_assign rfl rfl) rfl rfl ?_
                      refine r_nil ?_
                      refine j_in ?_
                      refine j_then ?_
                      refine j_region ?_
                      refine r_q (q_move rfl rfl) rfl rfl ?_
                      refine r_q (q_add rfl rfl rfl) rfl rfl ?_
                      refine r_q (q_assign rfl rfl) rfl rfl ?_
                      refine r_nil ?_
                      refine j_then ?_
                      exact j_again m ((wrap64 (p3 + (1:Int))), (wrap64 (p4 + (1:Int)))) (Nat.lt_succ_self m) h (fun a he => he.sub ⟨rfl, rfl, rfl, rfl, trivial⟩) (fun w h => h)
                  · refine j_true rfl (bne_t c39) ?_
                    refine j_region ?_
                    refine r_q (q_move rfl rfl) rfl rfl ?_
                    refine r_q (q_add rfl rfl rfl) rfl rfl ?_
                    refine r_q (q_assign rfl rfl) rfl rfl ?_
                    refine r_nil ?_
                    refine j_then ?_
                    refine j_seq ?_
                    obtain ⟨c43, h⟩ := of_guard h
                    obtain ⟨c44, h⟩ := of_guard h
                    refine j_draw (.box x2 27 [(.slice x1.1.A x1.1.n x1.1.c), (.slice x1.2.1.A x1.2.1.n x1.2.1.c), (.slice x1.2.2.1.A x1.2.2.1.n x1.2.2.1.c), (.slice x1.2.2.2.A x1.2.2.2.n x1.2.2.2.c)] :: .box x5 27 [(.slice x4.1.A x4.1.n x4.1.c), (.slice x4.2.1.A x4.2.1.n x4.2.1.c), (.slice x4.2.2.1.A x4.2.2.1.n x4.2.2.1.c), (.slice x4.2.2.2.A x4.2.2.2.n x4.2.2.2.c)] :: .row x1.1.A x1.1.c 3 1 (ii v1) :: .row x1.2.1.A x1.2.1.c 3 1 (ii v2) :: .row x1.2.2.1.A x1.2.2.1.c 3 1 (ii v3) :: .row x1.2.2.2.A x1.2.2.2.c 3 1 (ii v4) :: .row x4.1.A x4.1.c 3 1 (ii v8) :: .row x4.2.1.A x4.2.1.c 3 1 (ii v9) :: .row x4.2.2.1.A x4.2.2.1.c 3 1 (ii v10) :: .row x4.2.2.2.A x4.2.2.2.c 3 1 (ii v11) :: F) 13 follows_any rfl ?_
                    refine d_take 0 rfl (q_fieldAddr fi27_0 sz25 rfl rfl rfl) rfl rfl (by kernel_rfl) (by kernel_rfl) (by kernel_rfl) (fun w h => h) ?_
                    refine d_take 1 rfl (q_fieldAddr fi25_1 sz23 rfl rfl rfl) rfl rfl (by kernel_rfl) (by kernel_rfl) (by kernel_rfl) (fun w h => h) ?_
                    refine d_take 2 rfl (q_loadb 1 rfl ag23 rfl rfl rfl) rfl rfl (by kernel_rfl) (by kernel_rfl) (by kernel_rfl) (fun w h => h) ?_
                    refine d_take 3 rfl (q_move rfl rfl) rfl rfl (by kernel_rfl) (by kernel_rfl) (by kernel_rfl) (fun w h => h) ?_
                    refine d_take 4 rfl (q_ix (Rd.row 7 rfl) (ints_len1 _ v9) (by decide) x4.2.1.h c43 un23 sz3 rfl rfl rfl) rfl rfl (by kernel_rfl) (by kernel_rfl) (by kernel_rfl) (fun w h => h) ?_
                    refine d_take 5 rfl (q_ldI (Rd.row 7 rfl) c43 ag3 rfl rfl) rfl rfl (by kernel_rfl) (by kernel_rfl) (by kernel_rfl) (fun w h => h) ?_
                    refine d_take 6 rfl (q_fieldAddr fi27_0 sz25 rfl rfl rfl) rfl rfl (by kernel_rfl) (by kernel_rfl) (by kernel_rfl) (fun w h => h) ?_
                    refine d_take 7 rfl (q_fieldAddr fi25_1 sz23 rfl rfl rfl) rfl rfl (by kernel_rfl) (by kernel_rfl) (by kernel_rfl) (fun w h => h) ?_
                    refine d_take 8 rfl (q_loadb 0 rfl ag23 rfl rfl rfl) rfl rfl (by kernel_rfl) (by kernel_rfl) (by kernel_rfl) (fun w h => h) ?_
                    refine d_take 9 rfl (q_move rfl rfl) rfl rfl (by kernel_rfl) (by kernel_rfl) (by kernel_rfl) (fun w h => h) ?_
                    refine d_take 10 rfl (q_ix (Rd.row 3 rfl) (ints_len1 _ v2) (by decide) x1.2.1.h c44 un23 sz3 rfl rfl rfl) rfl rfl (by kernel_rfl) (by kernel_rfl) (by kernel_rfl) (fun w h => h) ?_
                    refine d_take 11 rfl (q_ldI (Rd.row 3 rfl) c44 ag3 rfl rfl) rfl rfl (by kernel_rfl) (by kernel_rfl) (by kernel_rfl) (fun w h => h) ?_
                    refine d_take 12 rfl (q_neq rfl rfl rfl) rfl rfl (by kernel_rfl) (by kernel_rfl) (by kernel_rfl) (fun w h => h) ?_
                    refine d_done (by kernel_rfl) ?_
                    refine j_then ?_
                    rcases of_if h with ⟨c45, h⟩ | ⟨c45, h⟩
                    · refine j_false rfl (bne_f c45) ?_
                      refine j_skip ?_
                      refine j_in ?_
                      refine j_then ?_
                      refine j_region ?_
                      refine r_q (q_move rfl rfl) rfl rfl ?_
                      refine r_q (q_add rfl rfl rfl) rfl rfl ?_
                      refine r_q (q_assign rfl rfl) rfl rfl ?_
                      refine r_nil ?_
                      refine j_then ?_
                      exact j_again m ((wrap64 (p3 + (1:Int))), (wrap64 (p4 + (1:Int)))) (Nat.lt_succ_self m) h (fun a he => he.sub ⟨rfl, rfl, rfl, rfl, trivial⟩) (fun w h => h)
                    · refine j_true rfl (bne_t c45) ?_
                      refine j_region ?_
                      refine r_q (q_move rfl rfl) rfl rfl ?_
                      refine r_q (q_add rfl rfl rfl) rfl rfl ?_
                      refine r_q (q_assign rfl rfl) rfl rfl ?_
                      refine r_nil ?_
                      refine j_in ?_
                      refine j_then ?_
                      refine j_region ?_
                      refine r_q (q_move rfl rfl) rfl rfl ?_
                      refine r_q (q_add rfl rfl rfl) rfl rfl ?_
                      refine r_q (q_assign rfl rfl) rfl rfl ?_
                      refine r_nil ?_
                      refine j_then ?_
                      exact j_again m ((wrap64 ((wrap64 (p3 + (1:Int))) + (1:Int))), (wrap64 (p4 + (1:Int)))) (Nat.lt_succ_self m) h (fun a he => he.sub ⟨rfl, rfl, rfl, rfl, trivial⟩) (fun w h => h)
                · refine j_false rfl (decide_eq_false c36) ?_
                  refine j_exit ?_
                  refine j_then_exit ?_
                  refine j_then_exit ?_
                  refine j_in_exit ?_
                  refine j_then ?_
                  exact j_meet p3 h (fun a he => he.sub ⟨rfl, rfl, rfl, trivial⟩) (fun w h => h)
            · rintro p5 h
              subst hκ0
              show J _ _ [(3, (pt x2)), (5, (pt x5)), (11, (i6 p5))] _ (.box x2 27 [(.slice x1.1.A x1.1.n x1.1.c), (.slice x1.2.1.A x1.2.1.n x1.2.1.c), (.slice x1.2.2.1.A x1.2.2.1.n x1.2.2.1.c), (.slice x1.2.2.2.A x1.2.2.2.n x1.2.2.2.c)] :: .box x5 27 [(.slice x4.1.A x4.1.n x4.1.c), (.slice x4.2.1.A x4.2.1.n x4.2.1.c), (.slice x4.2.2.1.A x4.2.2.1.n x4.2.2.1.c), (.slice x4.2.2.2.A x4.2.2.2.n x4.2.2.2.c)] :: .row x1.1.A x1.1.c 3 1 (ii v1) :: .row x1.2.1.A x1.2.1.c 3 1 (ii v2) :: .row x1.2.2.1.A x1.2.2.1.c 3 1 (ii v3) :: .row x1.2.2.2.A x1.2.2.2.c 3 1 (ii v4) :: .row x4.1.A x4.1.c 3 1 (ii v8) :: .row x4.2.1.A x4.2.1.c 3 1 (ii v9) :: .row x4.2.2.1.A x4.2.2.1.c 3 1 (ii v10) :: .row x4.2.2.2.A x4.2.2.2.c 3 1 (ii v11) :: F)
              refine j_then ?_
              refine j_seq ?_
              refine j_seq ?_
              refine j_region ?_
              refine r_q (q_assign rfl rfl) rfl rfl ?_
              refine r_nil ?_
              refine j_then ?_
              obtain ⟨κ1, h, hκ1⟩ := ex_k (g := fun κ => laws_FnRunPointers.loop1 K κ v3 v10 K p5 (0:Int) = some r1) h
              refine j_cut (σ := Int) (fun s => [(11, (i6 s))]) (fun s => F) (fun s => κ1 s = some r1) ?_ ?_
              · refine j_block ?_
                refine j_loop (σ := Int × Int) (fun s => [(3, (pt x2)), (5, (pt x5)), (11, (i6 s.1)), (13, (i6 s.2))]) (fun s => .box x2 27 [(.slice x1.1.A x1.1.n x1.1.c), (.slice x1.2.1.A x1.2.1.n x1.2.1.c), (.slice x1.2.2.1.A x1.2.2.1.n x1.2.2.1.c), (.slice x1.2.2.2.A x1.2.2.2.n x1.2.2.2.c)] :: .box x5 27 [(.slice x4.1.A x4.1.n x4.1.c), (.slice x4.2.1.A x4.2.1.n x4.2.1.c), (.slice x4.2.2.1.A x4.2.2.1.n x4.2.2.1.c), (.slice x4.2.2.2.A x4.2.2.2.n x4.2.2.2.c)] :: .row x1.1.A x1.1.c 3 1 (ii v1) :: .row x1.2.1.A x1.2.1.c 3 1 (ii v2) :: .row x1.2.2.1.A x1.2.2.1.c 3 1 (ii v3) :: .row x1.2.2.2.A x1.2.2.2.c 3 1 (ii v4) :: .row x4.1.A x4.1.c 3 1 (ii v8) :: .row x4.2.1.A x4.2.1.c 3 1 (ii v9) :: .row x4.2.2.1.A x4.2.2.1.c 3 1 (ii v10) :: .row x4.2.2.2.A x4.2.2.2.c 3 1 (ii v11) :: F) (fun m s => laws_FnRunPointers.loop1 K κ1 v3 v10 m s.1 s.2 = some r1) K (p5, (0:Int)) h (fun a he => he.sub ⟨rfl, rfl, rfl, rfl, trivial⟩) (fun w h => h) ?_
                rintro m ⟨p8, p9⟩ h
                cases m with
                | zero => exact absurd h (by rw [laws_FnRunPointers.loop1]; exact nofun)
                | succ m =>
                  rw [laws_FnRunPointers.loop1] at h
                  show J _ _ [(3, (pt x2)), (5, (pt x5)), (11, (i6 p8)), (13, (i6 p9))] _ (.box x2 27 [(.slice x1.1.A x1.1.n x1.1.c), (.slice x1.2.1.A x1.2.1.n x1.2.1.c), (.slice x1.2.2.1.A x1.2.2.1.n x1.2.2.1.c), (.slice x1.2.2.2.A x1.2.2.2.n x1.2.2.2.c)] :: .box x5 27 [(.slice x4.1.A x4.1.n x4.1.c), (.slice x4.2.1.A x4.2.1.n x4.2.1.c), (.slice x4.2.2.1.A x4.2.2.1.n x4.2.2.1.c), (.slice x4.2.2.2.A x4.2.2.2.n x4.2.2.2.c)] :: .row x1.1.A x1.1.c 3 1 (ii v1) :: .row x1.2.1.A x1.2.1.c 3 1 (ii v2) :: .row x1.2.2.1.A x1.2.2.1.c 3 1 (ii v3) :: .row x1.2.2.2.A x1.2.2.2.c 3 1 (ii v4) :: .row x4.1.A x4.1.c 3 1 (ii v8) :: .row x4.2.1.A x4.2.1.c 3 1 (ii v9) :: .row x4.2.2.1.A x4.2.2.1.c 3 1 (ii v10) :: .row x4.2.2.2.A x4.2.2.2.c 3 1 (ii v11) :: F)
                  refine j_seq ?_
                  refine j_seq ?_
                  refine j_region ?_
                  refine r_q (q_move rfl rfl) rfl rfl ?_
                  refine r_q (q_fieldAddr fi27_0 sz25 rfl rfl rfl) rfl rfl ?_
                  refine r_q (q_fieldAddr fi25_2 sz23 rfl rfl rfl) rfl rfl ?_
                  refine r_q (q_loadb 1 rfl ag23 rfl rfl rfl) rfl rfl ?_
                  refine r_q (q_lenX v10 x4.2.2.1.h un23 rfl rfl rfl rfl rfl) rfl rfl ?_
                  refine r_q (q_lss rfl rfl rfl) rfl rfl ?_
                  refine r_nil ?_
                  refine j_then ?_
                  rcases of_if h with ⟨c58, h⟩ | ⟨c58, h⟩
                  · refine j_true rfl (decide_eq_true c58) ?_
                    refine j_skip ?_
                    refine j_then ?_
                    refine j_seq ?_
                    refine j_block ?_
                    refine j_seq ?_
                    obtain ⟨c59, h⟩ := of_guard h
                    obtain ⟨c60, h⟩ := of_guard h
                    refine j_draw (.box x2 27 [(.slice x1.1.A x1.1.n x1.1.c), (.slice x1.2.1.A x1.2.1.n x1.2.1.c), (.slice x1.2.2.1.A x1.2.2.1.n x1.2.2.1.c), (.slice x1.2.2.2.A x1.2.2.2.n x1.2.2.2.c)] :: .box x5 27 [(.slice x4.1.A x4.1.n x4.1.c), (.slice x4.2.1.A x4.2.1.n x4.2.1.c), (.slice x4.2.2.1.A x4.2.2.1.n x4.2.2.1.c), (.slice x4.2.2.2.A x4.2.2.2.n x4.2.2.2.c)] :: .row x1.1.A x1.1.c 3 1 (ii v1) :: .row x1.2.1.A x1.2.1.c 3 1 (ii v2) :: .row x1.2.2.1.A x1.2.2.1.c 3 1 (ii v3) :: .row x1.2.2.2.A x1.2.2.2.c 3 1 (ii v4) :: .row x4.1.A x4.1.c 3 1 (ii v8) :: .row x4.2.1.A x4.2.1.c 3 1 (ii v9) :: .row x4.2.2.1.A x4.2.2.1.c 3 1 (ii v10) :: .row x4.2.2.2.A x4.2.2.2.c 3 1 (ii v11) :: F) 13 follows_any rfl ?_
                    refine d_take 0 rfl (q_fieldAddr fi27_0 sz25 rfl rfl rfl) rfl rfl (by kernel_rfl) (by kernel_rfl) (by kernel_rfl) (fun w h => h) ?_
                    refine d_take 1 rfl (q_fieldAddr fi25_2 sz23 rfl rfl rfl) rfl rfl (by kernel_rfl) (by kernel_rfl) (by kernel_rfl) (fun w h => h) ?_
                    refine d_take 2 rfl (q_loadb 1 rfl ag23 rfl rfl rfl) rfl rfl (by kernel_rfl) (by kernel_rfl) (by kernel_rfl) (fun w h => h) ?_
                    refine d_take 3 rfl (q_move rfl rfl) rfl rfl (by kernel_rfl) (by kernel_rfl) (by kernel_rfl) (fun w h => h) ?_
                    refine d_take 4 rfl (q_ix (Rd.row 8 rfl) (ints_len1 _ v10) (by decide) x4.2.2.1.h c59 un23 sz3 rfl rfl rfl) rfl rfl (by kernel_rfl) (by kernel_rfl) (by kernel_rfl) (fun w h => h) ?_
                    refine d_take 5 rfl (q_ldI (Rd.row 8 rfl) c59 ag3 rfl rfl) rfl rfl (by kernel_rfl) (by kernel_rfl) (by kernel_rfl) (fun w h => h) ?_
                    refine d_take 6 rfl (q_fieldAddr fi27_0 sz25 rfl rfl rfl) rfl rfl (by kernel_rfl) (by kernel_rfl) (by kernel_rfl) (fun w h => h) ?_
                    refine d_take 7 rfl (q_fieldAddr fi25_2 sz23 rfl rfl rfl) rfl rfl (by kernel_rfl) (by kernel_rfl) (by kernel_rfl) (fun w h => h) ?_
                    refine d_take 8 rfl (q_loadb 0 rfl ag23 rfl rfl rfl) rfl rfl (by kernel_rfl) (by kernel_rfl) (by kernel_rfl) (fun w h => h) ?_
                    refine d_take 9 rfl (q_move rfl rfl) rfl rfl (by kernel_rfl) (by kernel_rfl) (by kernel_rfl) (fun w h => h) ?_
                    refine d_take 10 rfl (q_ix (Rd.row 4 rfl) (ints_len1 _ v3) (by decide) x1.2.2.1.h c60 un23 sz3 rfl rfl rfl) rfl rfl (by kernel_rfl) (by kernel_rfl) (by kernel_rfl) (fun w h => h) ?_
                    refine d_take 11 rfl (q_ldI (Rd.row 4 rfl) c60 ag3 rfl rfl) rfl rfl (by kernel_rfl) (by kernel_rfl) (by kernel_rfl) (fun w h => h) ?_
                    refine d_take 12 rfl (q_neq rfl rfl rfl) rfl rfl (by kernel_rfl) (by kernel_rfl) (by kernel_rfl) (fun w h => h) ?_
                    refine d_done (by kernel_rfl) ?_
                    refine j_then ?_
                    rcases of_if h with ⟨c61, h⟩ | ⟨c61, h⟩
                    · refine j_false rfl (bne_f c61) ?_
                      refine j_skip ?_
                      refine j_in ?_
                      refine j_then ?_
                      refine j_region ?_
                      refine r_q (q_move rfl rfl) rfl rfl ?_
                      refine r_q (q_add rfl rfl rfl) rfl rfl ?_
                      refine r_q (q_assign rfl rfl) rfl rfl ?_
                      refine r_nil ?_
                      refine j_then ?_
                      exact j_again m (p8, (wrap64 (p9 + (1:Int)))) (Nat.lt_succ_self m) h (fun a he => he.sub ⟨rfl, rfl, rfl, rfl, trivial⟩) (fun w h => h)
                    · refine j_true rfl (bne_t c61) ?_
                      refine j_region ?_
                      refine r_q (q_move rfl rfl) rfl rfl ?_
                      refine r_q (q_add rfl rfl rfl) rfl rfl ?_
                      refine r_q (q_assign rfl rfl) rfl rfl ?_
                      refine r_nil ?_
                      refine j_in ?_
                      refine j_then ?_
                      refine j_region ?_
                      refine r_q (q_move rfl rfl) rfl rfl ?_
                      refine r_q (q_add rfl rfl rfl) rfl rfl ?_
                      refine r_q (q_assign rfl rfl) rfl rfl ?_
                      refine r_nil ?_
                      refine j_then ?_
                      exact j_again m ((wrap64 (p8 + (1:Int))), (wrap64 (p9 + (1:Int)))) (Nat.lt_succ_self m) h (fun a he => he.sub ⟨rfl, rfl, rfl, rfl, trivial⟩) (fun w h => h)
                  · refine j_false rfl (decide_eq_false c58) ?_
                    refine j_exit ?_
                    refine j_then_exit ?_
                    refine j_then_exit ?_
                    refine j_in_exit ?_
                    refine j_then ?_
                    exact j_meet p8 h (fun a he => he.sub ⟨rfl, trivial⟩) (fun w h => (h.drop 10))
              · rintro p10 h
                subst hκ1
                show J _ _ [(11, (i6 p10))] _ (F)
                refine j_then ?_
                refine j_seq ?_
                refine j_region ?_
                refine r_q (q_move rfl rfl) rfl rfl ?_
                refine r_q (q_leq rfl rfl rfl) rfl rfl ?_
                refine r_q (q_assign rfl rfl) rfl rfl ?_
                refine r_nil ?_
                refine j_then ?_
                refine j_ret ?_
                cases h
                exact j_return rfl (ResOf.tmp rfl ResOf.nil) rfl (fun w h => ⟨(), rfl, h⟩)
          · refine j_true rfl (not_t (var_f c5)) ?_
            refine j_seq ?_
            refine j_region ?_
            refine r_q (q_loadb_agg 5 rfl ag27 sz27 rfl rfl rfl rfl) rfl rfl ?_
            refine r_q (q_loadb_agg 0 rfl ag27 sz27 rfl rfl rfl rfl) rfl rfl ?_
            obtain ⟨v21, hb5, h⟩ := of_b1 h
            refine r_do (a_call ok9 rfl rfl rfl rfl (fun w hm => impl_StoreSame.calls K v8 x4.1.A x4.1.n x4.1.c v9 x4.2.1.A x4.2.1.n x4.2.1.c v10 x4.2.2.1.A x4.2.2.1.n x4.2.2.1.c v11 x4.2.2.2.A x4.2.2.2.n x4.2.2.2.c v14 x6.1.A x6.1.n x6.1.c v15 x6.2.1.A x6.2.1.n x6.2.1.c v16 x6.2.2.1.A x6.2.2.1.n x6.2.2.1.c v17 x6.2.2.2.A x6.2.2.2.n x6.2.2.2.c hm x4.1.h (Rd.row 6 rfl) x4.2.1.h (Rd.row 7 rfl) x4.2.2.1.h (Rd.row 8 rfl) x4.2.2.2.h (Rd.row 9 rfl) x6.1.h (Rd.row 1 rfl) x6.2.1.h (Rd.row 2 rfl) x6.2.2.1.h (Rd.row 3 rfl) x6.2.2.2.h (Rd.row 4 rfl) hb5)) rfl rfl (fun x9 => ?_)
            refine r_q (q_move rfl rfl) rfl rfl ?_
            rcases of_if h with ⟨c62, h⟩ | ⟨c62, h⟩
            · refine r_qon (q_move rfl rfl) rfl rfl rfl rfl c62 rfl ?_
              refine r_qon (q_move rfl rfl) rfl rfl rfl rfl c62 rfl ?_
              refine r_qon (q_eql rfl rfl rfl) rfl rfl rfl rfl c62 rfl ?_
              refine r_q (q_pick_t rfl rfl c62 rfl) rfl rfl ?_
              refine r_q (q_move rfl rfl) rfl rfl ?_
              refine r_qon (q_move rfl rfl) rfl rfl rfl rfl (beq_t c3) rfl ?_
              refine r_qon (q_move rfl rfl) rfl rfl rfl rfl (beq_t c3) rfl ?_
              refine r_qon (q_beql un4 rfl rfl rfl) rfl rfl rfl rfl (beq_t c3) rfl ?_
              refine r_q (q_pick_t rfl rfl (beq_t c3) rfl) rfl rfl ?_
              refine r_q (q_assign rfl rfl) rfl rfl ?_
              refine r_nil ?_
              refine j_then ?_
              refine j_ret ?_
              refine j_then_ret ?_
              cases h
              exact j_return rfl (ResOf.tmp rfl ResOf.nil) rfl (fun w h => ⟨(), rfl, (h.drop 16)⟩)
            · refine r_off rfl rfl rfl rfl (var_f c62) rfl ?_
              refine r_off rfl rfl rfl rfl (var_f c62) rfl ?_
              refine r_off rfl rfl rfl rfl (var_f c62) rfl ?_
              refine r_q (q_pick_f rfl rfl (var_f c62) rfl) rfl rfl ?_
              refine r_q (q_move rfl rfl) rfl rfl ?_
              refine r_off rfl rfl rfl rfl rfl rfl ?_
              refine r_off rfl rfl rfl rfl rfl rfl ?_
              refine r_off rfl rfl rfl rfl rfl rfl ?_
              refine r_q (q_pick_f rfl rfl rfl rfl) rfl rfl ?_
              refine r_q (q_assign rfl rfl) rfl rfl ?_
              refine r_nil ?_
              refine j_then ?_
              refine j_ret ?_
              refine j_then_ret ?_
              cases h
              exact j_return rfl (ResOf.tmp rfl ResOf.nil) rfl (fun w h => ⟨(), rfl, (h.drop 16)⟩)
        · refine r_off rfl rfl rfl rfl (bne_t c4) rfl ?_
          refine r_off rfl rfl rfl rfl (bne_t c4) rfl ?_
          refine r_q (q_pick_t rfl rfl (bne_t c4) rfl) rfl rfl ?_
          refine r_nil ?_
          refine j_then ?_
          refine j_true rfl rfl ?_
          refine j_seq ?_
          refine j_region ?_
          refine r_q (q_loadb_agg 5 rfl ag27 sz27 rfl rfl rfl rfl) rfl rfl ?_
          refine r_q (q_loadb_agg 0 rfl ag27 sz27 rfl rfl rfl rfl) rfl rfl ?_
          obtain ⟨v22, hb6, h⟩ := of_b1 h
          refine r_do (a_call ok9 rfl rfl rfl rfl (fun w hm => impl_StoreSame.calls K v8 x4.1.A x4.1.n x4.1.c v9 x4.2.1.A x4.2.1.n x4.2.1.c v10 x4.2.2.1.A x4.2.2.1.n x4.2.2.1.c v11 x4.2.2.2.A x4.2.2.2.n x4.2.2.2.c v14 x6.1.A x6.1.n x6.1.c v15 x6.2.1.A x6.2.1.n x6.2.1.c v16 x6.2.2.1.A x6.2.2.1.n x6.2.2.1.c v17 x6.2.2.2.A x6.2.2.2.n x6.2.2.2.c hm x4.1.h (Rd.row 6 rfl) x4.2.1.h (Rd.row 7 rfl) x4.2.2.1.h (Rd.row 8 rfl) x4.2.2.2.h (Rd.row 9 rfl) x6.1.h (Rd.row 1 rfl) x6.2.1.h (Rd.row 2 rfl) x6.2.2.1.h (Rd.row 3 rfl) x6.2.2.2.h (Rd.row 4 rfl) hb6)) rfl rfl (fun x9 => ?_)
          refine r_q (q_move rfl rfl) rfl rfl ?_
          rcases of_if h with ⟨c63, h⟩ | ⟨c63, h⟩
          · refine r_qon (q_move rfl rfl) rfl rfl rfl rfl c63 rfl ?_
            refine r_qon (q_move rfl rfl) rfl rfl rfl rfl c63 rfl ?_
            refine r_qon (q_eql rfl rfl rfl) rfl rfl rfl rfl c63 rfl ?_
            refine r_q (q_pick_t rfl rfl c63 rfl) rfl rfl ?_
            refine r_q (q_move rfl rfl) rfl rfl ?_
            refine r_qon (q_move rfl rfl) rfl rfl rfl rfl (beq_t c3) rfl ?_
            refine r_qon (q_move rfl rfl) rfl rfl rfl rfl (beq_t c3) rfl ?_
            refine r_qon (q_beql un4 rfl rfl rfl) rfl rfl rfl rfl (beq_t c3) rfl ?_
            refine r_q (q_pick_t rfl rfl (beq_t c3) rfl) rfl rfl ?_
            refine r_q (q_assign rfl rfl) rfl rfl ?_
            refine r_nil ?_
            refine j_then ?_
            refine j_ret ?_
            refine j_then_ret ?_
            cases h
            exact j_return rfl (ResOf.tmp rfl ResOf.nil) rfl (fun w h => ⟨(), rfl, (h.drop 16)⟩)
          · refine r_off rfl rfl rfl rfl (var_f c63) rfl ?_
            refine r_off rfl rfl rfl rfl (var_f c63) rfl ?_
            refine r_off rfl rfl rfl rfl (var_f c63) rfl ?_
            refine r_q (q_pick_f rfl rfl (var_f c63) rfl) rfl rfl ?_
            refine r_q (q_move rfl rfl) rfl rfl ?_
            refine r_off rfl rfl rfl rfl rfl rfl ?_
            refine r_off rfl rfl rfl rfl rfl rfl ?_
            refine r_off rfl rfl rfl rfl rfl rfl ?_
            refine r_q (q_pick_f rfl rfl rfl rfl) rfl rfl ?_
            refine r_q (q_assign rfl rfl) rfl rfl ?_
            refine r_nil ?_
            refine j_then ?_
            refine j_ret ?_
            refine j_then_ret ?_
            cases h
            exact j_return rfl (ResOf.tmp rfl ResOf.nil) rfl (fun w h => ⟨(), rfl, (h.drop 16)⟩)
      · refine r_off rfl rfl rfl rfl (bne_t c3) rfl ?_
        refine r_off rfl rfl rfl rfl (bne_t c3) rfl ?_
        refine r_off rfl rfl rfl rfl (bne_t c3) rfl ?_
        refine r_q (q_pick_t rfl rfl (bne_t c3) rfl) rfl rfl ?_
        refine r_q (q_move rfl rfl) rfl rfl ?_
        refine r_off rfl rfl rfl rfl rfl rfl ?_
        refine r_off rfl rfl rfl rfl rfl rfl ?_
        refine r_q (q_pick_t rfl rfl rfl rfl) rfl rfl ?_
        refine r_nil ?_
        refine j_then ?_
        refine j_true rfl rfl ?_
        refine j_seq ?_
        refine j_region ?_
        refine r_q (q_loadb_agg 5 rfl ag27 sz27 rfl rfl rfl rfl) rfl rfl ?_
        refine r_q (q_loadb_agg 0 rfl ag27 sz27 rfl rfl rfl rfl) rfl rfl ?_
        obtain ⟨v23, hb7, h⟩ := of_b1 h
        refine r_do (a_call ok9 rfl rfl rfl rfl (fun w hm => impl_StoreSame.calls K v8 x4.1.A x4.1.n x4.1.c v9 x4.2.1.A x4.2.1.n x4.2.1.c v10 x4.2.2.1.A x4.2.2.1.n x4.2.2.1.c v11 x4.2.2.2.A x4.2.2.2.n x4.2.2.2.c v14 x6.1.A x6.1.n x6.1.c v15 x6.2.1.A x6.2.1.n x6.2.1.c v16 x6.2.2.1.A x6.2.2.1.n x6.2.2.1.c v17 x6.2.2.2.A x6.2.2.2.n x6.2.2.2.c hm x4.1.h (Rd.row 6 rfl) x4.2.1.h (Rd.row 7 rfl) x4.2.2.1.h (Rd.row 8 rfl) x4.2.2.2.h (Rd.row 9 rfl) x6.1.h (Rd.row 1 rfl) x6.2.1.h (Rd.row 2 rfl) x6.2.2.1.h (Rd.row 3 rfl) x6.2.2.2.h (Rd.row 4 rfl) hb7)) rfl rfl (fun x9 => ?_)
        refine r_q (q_move rfl rfl) rfl rfl ?_
        rcases of_if h with ⟨c64, h⟩ | ⟨c64, h⟩
        · refine r_qon (q_move rfl rfl) rfl rfl rfl rfl c64 rfl ?_
          refine r_qon (q_move rfl rfl) rfl rfl rfl rfl c64 rfl ?_
          refine r_qon (q_eql rfl rfl rfl) rfl rfl rfl rfl c64 rfl ?_
          refine r_q (q_pick_t rfl rfl c64 rfl) rfl rfl ?_
          refine r_q (q_move rfl rfl) rfl rfl ?_
          refine r_off rfl rfl rfl rfl (beq_f c3) rfl ?_
          refine r_off rfl rfl rfl rfl (beq_f c3) rfl ?_
          refine r_off rfl rfl rfl rfl (beq_f c3) rfl ?_
          refine r_q (q_pick_f rfl rfl (beq_f c3) rfl) rfl rfl ?_
          refine r_q (q_assign rfl rfl) rfl rfl ?_
          refine r_nil ?_
          refine j_then ?_
          refine j_ret ?_
          refine j_then_ret ?_
          cases h
          exact j_return rfl (ResOf.tmp rfl ResOf.nil) rfl (fun w h => ⟨(), rfl, (h.drop 16)⟩)
        · refine r_off rfl rfl rfl rfl (var_f c64) rfl ?_
          refine r_off rfl rfl rfl rfl (var_f c64) rfl ?_
          refine r_off rfl rfl rfl rfl (var_f c64) rfl ?_
          refine r_q (q_pick_f rfl rfl (var_f c64) rfl) rfl rfl ?_
          refine r_q (q_move rfl rfl) rfl rfl ?_
          refine r_off rfl rfl rfl rfl rfl rfl ?_
          refine r_off rfl rfl rfl rfl rfl rfl ?_
          refine r_off rfl rfl rfl rfl rfl rfl ?_
          refine r_q (q_pick_f rfl rfl rfl rfl) rfl rfl ?_
          refine r_q (q_assign rfl rfl) rfl rfl ?_
          refine r_nil ?_
          refine j_then ?_
          refine j_ret ?_
          refine j_then_ret ?_
          cases h
          exact j_return rfl (ResOf.tmp rfl ResOf.nil) rfl (fun w h => ⟨(), rfl, (h.drop 16)⟩)
    · refine r_off rfl rfl rfl rfl (not_t (var_f c2)) rfl ?_
      refine r_off rfl rfl rfl rfl (not_t (var_f c2)) rfl ?_
      refine r_off rfl rfl rfl rfl (not_t (var_f c2)) rfl ?_
      refine r_q (q_pick_t rfl rfl (not_t (var_f c2)) rfl) rfl rfl ?_
      refine r_q (q_move rfl rfl) rfl rfl ?_
      refine r_off rfl rfl rfl rfl rfl rfl ?_
      refine r_off rfl rfl rfl rfl rfl rfl ?_
      refine r_off rfl rfl rfl rfl rfl rfl ?_
      refine r_q (q_pick_t rfl rfl rfl rfl) rfl rfl ?_
      refine r_q (q_move rfl rfl) rfl rfl ?_
      refine r_off rfl rfl rfl rfl rfl rfl ?_
      refine r_off rfl rfl rfl rfl rfl rfl ?_
      refine r_q (q_pick_t rfl rfl rfl rfl) rfl rfl ?_
      refine r_nil ?_
      refine j_then ?_
      refine j_true rfl rfl ?_
      refine j_seq ?_
      refine j_region ?_
      refine r_q (q_loadb_agg 5 rfl ag27 sz27 rfl rfl rfl rfl) rfl rfl ?_
      refine r_q (q_loadb_agg 0 rfl ag27 sz27 rfl rfl rfl rfl) rfl rfl ?_
      obtain ⟨v24, hb8, h⟩ := of_b1 h
      refine r_do (a_call ok9 rfl rfl rfl rfl (fun w hm => impl_StoreSame.calls K v8 x4.1.A x4.1.n x4.1.c v9 x4.2.1.A x4.2.1.n x4.2.1.c v10 x4.2.2.1.A x4.2.2.1.n x4.2.2.1.c v11 x4.2.2.2.A x4.2.2.2.n x4.2.2.2.c v14 x6.1.A x6.1.n x6.1.c v15 x6.2.1.A x6.2.1.n x6.2.1.c v16 x6.2.2.1.A x6.2.2.1.n x6.2.2.1.c v17 x6.2.2.2.A x6.2.2.2.n x6.2.2.2.c hm x4.1.h (Rd.row 6 rfl) x4.2.1.h (Rd.row 7 rfl) x4.2.2.1.h (Rd.row 8 rfl) x4.2.2.2.h (Rd.row 9 rfl) x6.1.h (Rd.row 1 rfl) x6.2.1.h (Rd.row 2 rfl) x6.2.2.1.h (Rd.row 3 rfl) x6.2.2.2.h (Rd.row 4 rfl) hb8)) rfl rfl (fun x9 => ?_)
      refine r_q (q_move rfl rfl) rfl rfl ?_
      rcases of_if h with ⟨c65, h⟩ | ⟨c65, h⟩
      · refine r_qon (q_move rfl rfl) rfl rfl rfl rfl c65 rfl ?_
        refine r_qon (q_move rfl rfl) rfl rfl rfl rfl c65 rfl ?_
        refine r_qon (q_eql rfl rfl rfl) rfl rfl rfl rfl c65 rfl ?_
        refine r_q (q_pick_t rfl rfl c65 rfl) rfl rfl ?_
        refine r_q (q_move rfl rfl) rfl rfl ?_
        rcases of_if h with ⟨c66, h⟩ | ⟨c66, h⟩
        · refine r_qon (q_move rfl rfl) rfl rfl rfl rfl (beq_t c66) rfl ?_
          refine r_qon (q_move rfl rfl) rfl rfl rfl rfl (beq_t c66) rfl ?_
          refine r_qon (q_beql un4 rfl rfl rfl) rfl rfl rfl rfl (beq_t c66) rfl ?_
          refine r_q (q_pick_t rfl rfl (beq_t c66) rfl) rfl rfl ?_
          refine r_q (q_assign rfl rfl) rfl rfl ?_
          refine r_nil ?_
          refine j_then ?_
          refine j_ret ?_
          refine j_then_ret ?_
          cases h
          exact j_return rfl (ResOf.tmp rfl ResOf.nil) rfl (fun w h => ⟨(), rfl, (h.drop 16)⟩)
        · refine r_off rfl rfl rfl rfl (beq_f c66) rfl ?_
          refine r_off rfl rfl rfl rfl (beq_f c66) rfl ?_
          refine r_off rfl rfl rfl rfl (beq_f c66) rfl ?_
          refine r_q (q_pick_f rfl rfl (beq_f c66) rfl) rfl rfl ?_
          refine r_q (q_assign rfl rfl) rfl rfl ?_
          refine r_nil ?_
          refine j_then ?_
          refine j_ret ?_
          refine j_then_ret ?_
          cases h
          exact j_return rfl (ResOf.tmp rfl ResOf.nil) rfl (fun w h => ⟨(), rfl, (h.drop 16)⟩)
      · refine r_off rfl rfl rfl rfl (var_f c65) rfl ?_
        refine r_off rfl rfl rfl rfl (var_f c65) rfl ?_
        refine r_off rfl rfl rfl rfl (var_f c65) rfl ?_
        refine r_q (q_pick_f rfl rfl (var_f c65) rfl) rfl rfl ?_
        refine r_q (q_move rfl rfl) rfl rfl ?_
        refine r_off rfl rfl rfl rfl rfl rfl ?_
        refine r_off rfl rfl rfl rfl rfl rfl ?_
        refine r_off rfl rfl rfl rfl rfl rfl ?_
        refine r_q (q_pick_f rfl rfl rfl rfl) rfl rfl ?_
        refine r_q (q_assign rfl rfl) rfl rfl ?_
        refine r_nil ?_
        refine j_then ?_
        refine j_ret ?_
        refine j_then_ret ?_
        cases h
        exact j_return rfl (ResOf.tmp rfl ResOf.nil) rfl (fun w h => ⟨(), rfl, (h.drop 16)⟩)

end Go.Proofs.Ytnfaiojmabolmaa.F
