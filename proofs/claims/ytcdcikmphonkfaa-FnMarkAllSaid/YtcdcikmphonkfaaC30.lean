/- The program computes these pure functions, printed by the generator of wip/gen. -/
import Derived.Test.YtcdcikmphonkfaaFa
import Derived.Test.YtcdcikmphonkfaaFi
import Derived.Test.YtcdcikmphonkfaaFb
import Derived.Test.YtcdcikmphonkfaaC0
import Derived.Test.YtcdcikmphonkfaaC1
import Derived.Test.YtcdcikmphonkfaaC2
import Derived.Test.YtcdcikmphonkfaaC3
import Derived.Test.YtcdcikmphonkfaaC4
import Derived.Test.YtcdcikmphonkfaaC6
import Derived.Test.YtcdcikmphonkfaaC7
import Derived.Test.YtcdcikmphonkfaaC8
import Derived.Test.YtcdcikmphonkfaaC11
import Derived.Test.YtcdcikmphonkfaaC14
import Derived.Test.YtcdcikmphonkfaaC15
import Derived.Test.YtcdcikmphonkfaaC19
import Derived.Test.YtcdcikmphonkfaaC20
namespace Go.Proofs.Ytcdcikmphonkfaa.F
open Go Go.RowKit Go.Proofs.Ytcdcikmphonkfaa.S
set_option linter.unusedVariables false
set_option maxRecDepth 100000
theorem laws_FnMarkAll.calls (K : Nat) (a0 : List Int) (a0_A : Option Addr) (a0_n a0_c : Nat) {w0 w : World} {F : List Res} {r1 : Bool} (hm : Mem w0 (F) w) (a0_h : a0.length = a0_n) (a0_R : Rd w0 F a0_A (ints .u8 a0)) (a0_k : a0.length ≤ a0_c) (h : laws_FnMarkAll.f K a0 = some r1) :
    Calls Try.prog 8 (List.toArray [.slice a0_A a0_n a0_c]) w fun e w' => ∃ x : Unit, e = .returned (.bool r1) ∧ Mem w0 (F) w' := by
  unfold laws_FnMarkAll.f at h
  refine calls_of_J (n := 93) Try.func8 rfl rfl rfl hm ?_
  refine j_seq ?_
  refine j_region ?_
  refine r_q (q_assign rfl rfl) rfl rfl ?_
  refine r_nil ?_
  refine j_then ?_
  refine j_seq ?_
  refine j_seq ?_
  refine j_region ?_
  refine r_q (q_move rfl rfl) rfl rfl ?_
  refine r_q (q_lenX a0 a0_h un22 rfl rfl rfl rfl rfl) rfl rfl ?_
  refine r_q (q_gtr rfl rfl rfl) rfl rfl ?_
  refine r_nil ?_
  refine j_then ?_
  rcases of_if h with ⟨c1, h⟩ | ⟨c1, h⟩
  · refine j_true rfl (decide_eq_true c1) ?_
    refine j_seq ?_
    refine j_region ?_
    refine r_q (q_assign rfl rfl) rfl rfl ?_
    refine r_nil ?_
    refine j_then ?_
    refine j_ret ?_
    refine j_then_ret ?_
    cases h
    exact j_return rfl (ResOf.tmp rfl ResOf.nil) rfl (fun w h => ⟨(), rfl, h⟩)
  · refine j_false rfl (decide_eq_false c1) ?_
    refine j_skip ?_
    refine j_then ?_
    refine j_seq ?_
    refine j_region ?_
    refine r_q (q_move rfl rfl) rfl rfl ?_
    obtain ⟨v1, v2, v3, v4, hb1, h⟩ := of_b4 h
    refine r_do (a_call ok32 rfl rfl rfl rfl (fun w hm => spec_DrawMarkAll.calls K a0 a0_A a0_n a0_c hm a0_h a0_R a0_k hb1)) rfl rfl (fun x1 => ?_)
    refine r_do (a_alloc zr27 rfl) rfl rfl (fun x2 => ?_)
    refine r_do (a_storeb 0 rfl sz27 rfl rfl rfl rfl (Nat.le_of_ble_eq_true rfl) rfl) rfl rfl (fun _ => ?_)
    refine j_b0 [(.slice x1.1.A x1.1.n x1.1.c), (.slice x1.2.1.A x1.2.1.n x1.2.1.c), (.slice x1.2.2.1.A x1.2.2.1.n x1.2.2.1.c), (.slice x1.2.2.2.A x1.2.2.2.n x1.2.2.2.c)] rfl ?_
    refine r_nil ?_
    refine j_then ?_
    refine j_seq ?_
    refine j_region ?_
    refine r_q (q_loadb_agg 0 rfl ag27 sz27 rfl rfl rfl rfl) rfl rfl ?_
    obtain ⟨v5, v6, v7, v8, v9, hb2, h⟩ := of_b5 h
    refine r_do (a_call ok28 rfl rfl rfl rfl (fun w hm => impl_MarkAll.calls K v1 x1.1.A x1.1.n x1.1.c v2 x1.2.1.A x1.2.1.n x1.2.1.c v3 x1.2.2.1.A x1.2.2.1.n x1.2.2.1.c v4 x1.2.2.2.A x1.2.2.2.n x1.2.2.2.c hm x1.1.h (Rd.row 1 rfl) x1.2.1.h (Rd.row 2 rfl) x1.2.2.1.h (Rd.row 3 rfl) x1.2.2.2.h (Rd.row 4 rfl) hb2)) rfl rfl (fun x3 => ?_)
    refine r_q (q_move rfl rfl) rfl rfl ?_
    refine r_q (q_extract rfl rfl rfl) rfl rfl ?_
    refine r_q (q_extract rfl rfl rfl) rfl rfl ?_
    refine r_do (a_alloc zr27 rfl) rfl rfl (fun x4 => ?_)
    refine r_do (a_storeb 0 rfl sz27 rfl rfl rfl rfl (Nat.le_of_ble_eq_true rfl) rfl) rfl rfl (fun _ => ?_)
    refine j_b0 [(.slice x3.1.A x3.1.n x3.1.c), (.slice x3.2.1.A x3.2.1.n x3.2.1.c), (.slice x3.2.2.1.A x3.2.2.1.n x3.2.2.1.c), (.slice x3.2.2.2.A x3.2.2.2.n x3.2.2.2.c)] rfl ?_
    refine r_q (q_assign rfl rfl) rfl rfl ?_
    refine r_nil ?_
    refine j_then ?_
    refine j_seq ?_
    refine j_region ?_
    refine r_q (q_loadb_agg 5 rfl ag27 sz27 rfl rfl rfl rfl) rfl rfl ?_
    obtain ⟨v10, v11, v12, v13, v14, hb3, h⟩ := of_b5 h
    refine r_do (a_call ok27 rfl rfl rfl rfl (fun w hm => spec_MarkAll.calls K v1 x1.1.A x1.1.n x1.1.c v2 x1.2.1.A x1.2.1.n x1.2.1.c v3 x1.2.2.1.A x1.2.2.1.n x1.2.2.1.c v4 x1.2.2.2.A x1.2.2.2.n x1.2.2.2.c hm x1.1.h (Rd.row 6 rfl) x1.2.1.h (Rd.row 7 rfl) x1.2.2.1.h (Rd.row 8 rfl) x1.2.2.2.h (Rd.row 9 rfl) hb3)) rfl rfl (fun x5 => ?_)
    refine r_q (q_move rfl rfl) rfl rfl ?_
    refine r_q (q_extract rfl rfl rfl) rfl rfl ?_
    refine r_q (q_extract rfl rfl rfl) rfl rfl ?_
    refine r_do (a_alloc zr27 rfl) rfl rfl (fun x6 => ?_)
    refine r_do (a_storeb 0 rfl sz27 rfl rfl rfl rfl (Nat.le_of_ble_eq_true rfl) rfl) rfl rfl (fun _ => ?_)
    refine j_b0 [(.slice x5.1.A x5.1.n x5.1.c), (.slice x5.2.1.A x5.2.1.n x5.2.1.c), (.slice x5.2.2.1.A x5.2.2.1.n x5.2.2.1.c), (.slice x5.2.2.2.A x5.2.2.2.n x5.2.2.2.c)] rfl ?_
    refine r_q (q_assign rfl rfl) rfl rfl ?_
    refine r_nil ?_
    refine j_then ?_
    refine j_seq ?_
    refine j_seq ?_
    refine j_region ?_
    refine r_q (q_loadb_agg 5 rfl ag27 sz27 rfl rfl rfl rfl) rfl rfl ?_
    refine r_q (q_loadb_agg 0 rfl ag27 sz27 rfl rfl rfl rfl) rfl rfl ?_
    obtain ⟨v15, hb4, h⟩ := of_b1 h
    refine r_do (a_call ok18 rfl rfl rfl rfl (fun w hm => impl_ColoredSame.calls K v5 x3.1.A x3.1.n x3.1.c v6 x3.2.1.A x3.2.1.n x3.2.1.c v7 x3.2.2.1.A x3.2.2.1.n x3.2.2.1.c v8 x3.2.2.2.A x3.2.2.2.n x3.2.2.2.c v10 x5.1.A x5.1.n x5.1.c v11 x5.2.1.A x5.2.1.n x5.2.1.c v12 x5.2.2.1.A x5.2.2.1.n x5.2.2.1.c v13 x5.2.2.2.A x5.2.2.2.n x5.2.2.2.c hm x3.1.h (Rd.row 6 rfl) x3.2.1.h (Rd.row 7 rfl) x3.2.2.1.h (Rd.row 8 rfl) x3.2.2.2.h (Rd.row 9 rfl) x5.1.h (Rd.row 1 rfl) x5.2.1.h (Rd.row 2 rfl) x5.2.2.1.h (Rd.row 3 rfl) x5.2.2.2.h (Rd.row 4 rfl) hb4)) rfl rfl (fun x7 => ?_)
    refine r_q (q_not rfl rfl) rfl rfl ?_
    refine r_q (q_move rfl rfl) rfl rfl ?_
    rcases of_if h with ⟨c2, h⟩ | ⟨c2, h⟩
    · refine r_qon (q_move rfl rfl) rfl rfl rfl rfl (not_f c2) rfl ?_
      refine r_qon (q_move rfl rfl) rfl rfl rfl rfl (not_f c2) rfl ?_
      refine r_qon (q_bneq un4 rfl rfl rfl) rfl rfl rfl rfl (not_f c2) rfl ?_
      refine r_q (q_pick_f rfl rfl (not_f c2) rfl) rfl rfl ?_
      refine r_q (q_move rfl rfl) rfl rfl ?_
      rcases of_if h with ⟨c3, h⟩ | ⟨c3, h⟩
      · refine r_qon (q_move rfl rfl) rfl rfl rfl rfl (bne_f c3) rfl ?_
        refine r_qon (q_not rfl rfl) rfl rfl rfl rfl (bne_f c3) rfl ?_
        refine r_q (q_pick_f rfl rfl (bne_f c3) rfl) rfl rfl ?_
        refine r_nil ?_
        refine j_then ?_
        rcases of_if h with ⟨c4, h⟩ | ⟨c4, h⟩
        · refine j_false rfl (not_f c4) ?_
          refine j_skip ?_
          refine j_then ?_
          refine j_seq ?_
          refine j_seq ?_
          refine j_region ?_
          refine r_q (q_assign rfl rfl) rfl rfl ?_
          refine r_nil ?_
          refine j_then ?_
          obtain ⟨κ0, h, hκ0⟩ := ex_k (g := fun κ => laws_FnMarkAll.loop0 K κ v4 v8 K (0:Int) = some r1) h
          refine j_cut (σ := Unit) (fun s => [(3, (pt x2)), (4, (pt x4))]) (fun s => .box x2 27 [(.slice x1.1.A x1.1.n x1.1.c), (.slice x1.2.1.A x1.2.1.n x1.2.1.c), (.slice x1.2.2.1.A x1.2.2.1.n x1.2.2.1.c), (.slice x1.2.2.2.A x1.2.2.2.n x1.2.2.2.c)] :: .box x4 27 [(.slice x3.1.A x3.1.n x3.1.c), (.slice x3.2.1.A x3.2.1.n x3.2.1.c), (.slice x3.2.2.1.A x3.2.2.1.n x3.2.2.1.c), (.slice x3.2.2.2.A x3.2.2.2.n x3.2.2.2.c)] :: .row x1.1.A x1.1.c 3 1 (ii v1) :: .row x1.2.1.A x1.2.1.c 3 1 (ii v2) :: .row x1.2.2.1.A x1.2.2.1.c 3 1 (ii v3) :: .row x1.2.2.2.A x1.2.2.2.c 3 1 (ii v4) :: .row x3.1.A x3.1.c 3 1 (ii v5) :: .row x3.2.1.A x3.2.1.c 3 1 (ii v6) :: .row x3.2.2.1.A x3.2.2.1.c 3 1 (ii v7) :: .row x3.2.2.2.A x3.2.2.2.c 3 1 (ii v8) :: F) (fun s => κ0 () = some r1) ?_ ?_
          · refine j_block ?_
            refine j_loop (σ := Int) (fun s => [(3, (pt x2)), (4, (pt x4)), (8, (i6 s))]) (fun s => .box x2 27 [(.slice x1.1.A x1.1.n x1.1.c), (.slice x1.2.1.A x1.2.1.n x1.2.1.c), (.slice x1.2.2.1.A x1.2.2.1.n x1.2.2.1.c), (.slice x1.2.2.2.A x1.2.2.2.n x1.2.2.2.c)] :: .box x4 27 [(.slice x3.1.A x3.1.n x3.1.c), (.slice x3.2.1.A x3.2.1.n x3.2.1.c), (.slice x3.2.2.1.A x3.2.2.1.n x3.2.2.1.c), (.slice x3.2.2.2.A x3.2.2.2.n x3.2.2.2.c)] :: .row x1.1.A x1.1.c 3 1 (ii v1) :: .row x1.2.1.A x1.2.1.c 3 1 (ii v2) :: .row x1.2.2.1.A x1.2.2.1.c 3 1 (ii v3) :: .row x1.2.2.2.A x1.2.2.2.c 3 1 (ii v4) :: .row x3.1.A x3.1.c 3 1 (ii v5) :: .row x3.2.1.A x3.2.1.c 3 1 (ii v6) :: .row x3.2.2.1.A x3.2.2.1.c 3 1 (ii v7) :: .row x3.2.2.2.A x3.2.2.2.c 3 1 (ii v8) :: F) (fun m s => laws_FnMarkAll.loop0 K κ0 v4 v8 m s = some r1) K (0:Int) h (fun a he => he.sub ⟨rfl, rfl, rfl, trivial⟩) (fun w h => h.pick 15 [10, 5, 11, 12, 13, 14, 6, 7, 8, 9] rfl) ?_
            rintro m p2 h
            cases m with
            | zero => exact absurd h (by rw [laws_FnMarkAll.loop0]; exact nofun)
            | succ m =>
              rw [laws_FnMarkAll.loop0] at h
              show J _ _ [(3, (pt x2)), (4, (pt x4)), (8, (i6 p2))] _ (.box x2 27 [(.slice x1.1.A x1.1.n x1.1.c), (.slice x1.2.1.A x1.2.1.n x1.2.1.c), (.slice x1.2.2.1.A x1.2.2.1.n x1.2.2.1.c), (.slice x1.2.2.2.A x1.2.2.2.n x1.2.2.2.c)] :: .box x4 27 [(.slice x3.1.A x3.1.n x3.1.c), (.slice x3.2.1.A x3.2.1.n x3.2.1.c), (.slice x3.2.2.1.A x3.2.2.1.n x3.2.2.1.c), (.slice x3.2.2.2.A x3.2.2.2.n x3.2.2.2.c)] :: .row x1.1.A x1.1.c 3 1 (ii v1) :: .row x1.2.1.A x1.2.1.c 3 1 (ii v2) :: .row x1.2.2.1.A x1.2.2.1.c 3 1 (ii v3) :: .row x1.2.2.2.A x1.2.2.2.c 3 1 (ii v4) :: .row x3.1.A x3.1.c 3 1 (ii v5) :: .row x3.2.1.A x3.2.1.c 3 1 (ii v6) :: .row x3.2.2.1.A x3.2.2.1.c 3 1 (ii v7) :: .row x3.2.2.2.A x3.2.2.2.c 3 1 (ii v8) :: F)
              refine j_seq ?_
              refine j_seq ?_
              refine j_region ?_
              refine r_q (q_move rfl rfl) rfl rfl ?_
              refine r_q (q_fieldAddr fi27_1 sz23 rfl rfl rfl) rfl rfl ?_
              refine r_q (q_loadb 0 rfl ag23 rfl rfl rfl) rfl rfl ?_
              refine r_q (q_lenX v4 x1.2.2.2.h un23 rfl rfl rfl rfl rfl) rfl rfl ?_
              refine r_q (q_lss rfl rfl rfl) rfl rfl ?_
              refine r_nil ?_
              refine j_then ?_
              rcases of_if h with ⟨c20, h⟩ | ⟨c20, h⟩
              · refine j_true rfl (decide_eq_true c20) ?_
                refine j_skip ?_
                refine j_then ?_
                refine j_seq ?_
                refine j_block ?_
                refine j_seq ?_
                refine j_region ?_
                refine r_q (q_fieldAddr fi27_1 sz23 rfl rfl rfl) rfl rfl ?_
                refine r_q (q_loadb 0 rfl ag23 rfl rfl rfl) rfl rfl ?_
                refine r_q (q_move rfl rfl) rfl rfl ?_
                obtain ⟨c21, h⟩ := of_guard h
                refine r_q (q_ix (Rd.row 5 rfl) (ints_len1 _ v4) (by decide) x1.2.2.2.h c21 un23 sz3 rfl rfl rfl) rfl rfl ?_
                refine r_q (q_ldI (Rd.row 5 rfl) c21 ag3 rfl rfl) rfl rfl ?_
                refine r_q (q_neq rfl rfl rfl) rfl rfl ?_
                refine r_q (q_move rfl rfl) rfl rfl ?_
                rcases of_if h with ⟨c22, h⟩ | ⟨c22, h⟩
                · refine r_off rfl rfl rfl rfl (bne_f c22) rfl ?_
                  refine r_off rfl rfl rfl rfl (bne_f c22) rfl ?_
                  refine r_off rfl rfl rfl rfl (bne_f c22) rfl ?_
                  refine r_off rfl rfl rfl rfl (bne_f c22) rfl ?_
                  refine r_off rfl rfl rfl rfl (bne_f c22) rfl ?_
                  refine r_off rfl rfl rfl rfl (bne_f c22) rfl ?_
                  refine r_q (q_pick_f rfl rfl (bne_f c22) rfl) rfl rfl ?_
                  refine r_nil ?_
                  refine j_then ?_
                  refine j_false rfl rfl ?_
                  refine j_skip ?_
                  refine j_in ?_
                  refine j_then ?_
                  refine j_region ?_
                  refine r_q (q_move rfl rfl) rfl rfl ?_
                  refine r_q (q_add rfl rfl rfl) rfl rfl ?_
                  refine r_q (q_assign rfl rfl) rfl rfl ?_
                  refine r_nil ?_
                  refine j_then ?_
                  exact j_again m (wrap64 (p2 + (1:Int))) (Nat.lt_succ_self m) h (fun a he => he.sub ⟨rfl, rfl, rfl, trivial⟩) (fun w h => h)
                · refine r_qon (q_fieldAddr fi27_1 sz23 rfl rfl rfl) rfl rfl rfl rfl (bne_t c22) rfl ?_
                  refine r_qon (q_loadb 1 rfl ag23 rfl rfl rfl) rfl rfl rfl rfl (bne_t c22) rfl ?_
                  refine r_qon (q_move rfl rfl) rfl rfl rfl rfl (bne_t c22) rfl ?_
                  obtain ⟨c23, h⟩ := of_guard h
                  refine r_qon (q_ix (Rd.row 9 rfl) (ints_len1 _ v8) (by decide) x3.2.2.2.h c23 un23 sz3 rfl rfl rfl) rfl rfl rfl rfl (bne_t c22) rfl ?_
                  refine r_qon (q_ldI (Rd.row 9 rfl) c23 ag3 rfl rfl) rfl rfl rfl rfl (bne_t c22) rfl ?_
                  refine r_qon (q_neq rfl rfl rfl) rfl rfl rfl rfl (bne_t c22) rfl ?_
                  refine r_q (q_pick_t rfl rfl (bne_t c22) rfl) rfl rfl ?_
                  refine r_nil ?_
                  refine j_then ?_
                  rcases of_if h with ⟨c24, h⟩ | ⟨c24, h⟩
                  · refine j_false rfl (bne_f c24) ?_
                    refine j_skip ?_
                    refine j_in ?_
                    refine j_then ?_
                    refine j_region ?_
                    refine r_q (q_move rfl rfl) rfl rfl ?_
                    refine r_q (q_add rfl rfl rfl) rfl rfl ?_
                    refine r_q (q_assign rfl rfl) rfl rfl ?_
                    refine r_nil ?_
                    refine j_then ?_
                    exact j_again m (wrap64 (p2 + (1:Int))) (Nat.lt_succ_self m) h (fun a he => he.sub ⟨rfl, rfl, rfl, trivial⟩) (fun w h => h)
                  · refine j_true rfl (bne_t c24) ?_
                    refine j_seq ?_
                    refine j_region ?_
                    refine r_q (q_assign rfl rfl) rfl rfl ?_
                    refine r_nil ?_
                    refine j_then ?_
                    refine j_ret ?_
                    refine j_in_ret ?_
                    refine j_then_ret ?_
                    refine j_then_ret ?_
                    refine j_in_ret ?_
                    refine j_then_ret ?_
                    refine j_then_ret ?_
                    cases h
                    exact j_return rfl (ResOf.tmp rfl ResOf.nil) rfl (fun w h => ⟨(), rfl, (h.drop 10)⟩)
              · refine j_false rfl (decide_eq_false c20) ?_
                refine j_exit ?_
                refine j_then_exit ?_
                refine j_then_exit ?_
                refine j_in_exit ?_
                refine j_then ?_
                exact j_meet () h (fun a he => he.sub ⟨rfl, rfl, trivial⟩) (fun w h => h)
          · rintro _ h
            subst hκ0
            show J _ _ [(3, (pt x2)), (4, (pt x4))] _ (.box x2 27 [(.slice x1.1.A x1.1.n x1.1.c), (.slice x1.2.1.A x1.2.1.n x1.2.1.c), (.slice x1.2.2.1.A x1.2.2.1.n x1.2.2.1.c), (.slice x1.2.2.2.A x1.2.2.2.n x1.2.2.2.c)] :: .box x4 27 [(.slice x3.1.A x3.1.n x3.1.c), (.slice x3.2.1.A x3.2.1.n x3.2.1.c), (.slice x3.2.2.1.A x3.2.2.1.n x3.2.2.1.c), (.slice x3.2.2.2.A x3.2.2.2.n x3.2.2.2.c)] :: .row x1.1.A x1.1.c 3 1 (ii v1) :: .row x1.2.1.A x1.2.1.c 3 1 (ii v2) :: .row x1.2.2.1.A x1.2.2.1.c 3 1 (ii v3) :: .row x1.2.2.2.A x1.2.2.2.c 3 1 (ii v4) :: .row x3.1.A x3.1.c 3 1 (ii v5) :: .row x3.2.1.A x3.2.1.c 3 1 (ii v6) :: .row x3.2.2.1.A x3.2.2.1.c 3 1 (ii v7) :: .row x3.2.2.2.A x3.2.2.2.c 3 1 (ii v8) :: F)
            refine j_then ?_
            refine j_seq ?_
            refine j_region ?_
            refine r_q (q_loadb_agg 1 rfl ag27 sz27 rfl rfl rfl rfl) rfl rfl ?_
            obtain ⟨v16, v17, v18, v19, v20, hb5, h⟩ := of_b5 h
            refine r_do (a_call ok28 rfl rfl rfl rfl (fun w hm => impl_MarkAll.calls K v5 x3.1.A x3.1.n x3.1.c v6 x3.2.1.A x3.2.1.n x3.2.1.c v7 x3.2.2.1.A x3.2.2.1.n x3.2.2.1.c v8 x3.2.2.2.A x3.2.2.2.n x3.2.2.2.c hm x3.1.h (Rd.row 6 rfl) x3.2.1.h (Rd.row 7 rfl) x3.2.2.1.h (Rd.row 8 rfl) x3.2.2.2.h (Rd.row 9 rfl) hb5)) rfl rfl (fun x8 => ?_)
            refine r_q (q_move rfl rfl) rfl rfl ?_
            refine r_q (q_extract rfl rfl rfl) rfl rfl ?_
            refine r_q (q_extract rfl rfl rfl) rfl rfl ?_
            refine r_do (a_alloc zr27 rfl) rfl rfl (fun x9 => ?_)
            refine r_do (a_storeb 0 rfl sz27 rfl rfl rfl rfl (Nat.le_of_ble_eq_true rfl) rfl) rfl rfl (fun _ => ?_)
            refine j_b0 [(.slice x8.1.A x8.1.n x8.1.c), (.slice x8.2.1.A x8.2.1.n x8.2.1.c), (.slice x8.2.2.1.A x8.2.2.1.n x8.2.2.1.c), (.slice x8.2.2.2.A x8.2.2.2.n x8.2.2.2.c)] rfl ?_
            refine r_q (q_assign rfl rfl) rfl rfl ?_
            refine r_nil ?_
            refine j_then ?_
            refine j_seq ?_
            refine j_region ?_
            refine r_q (q_loadb_agg 6 rfl ag27 sz27 rfl rfl rfl rfl) rfl rfl ?_
            obtain ⟨v21, hb6, h⟩ := of_b1 h
            refine r_do (a_call ok19 rfl rfl rfl rfl (fun w hm => impl_CountColor.calls K v5 x3.1.A x3.1.n x3.1.c v6 x3.2.1.A x3.2.1.n x3.2.1.c v7 x3.2.2.1.A x3.2.2.1.n x3.2.2.1.c v8 x3.2.2.2.A x3.2.2.2.n x3.2.2.2.c (1:Int) hm x3.1.h (Rd.row 11 rfl) x3.2.1.h (Rd.row 12 rfl) x3.2.2.1.h (Rd.row 13 rfl) x3.2.2.2.h (Rd.row 14 rfl) hb6)) rfl rfl (fun x10 => ?_)
            refine r_q (q_eql rfl rfl rfl) rfl rfl ?_
            refine r_q (q_move rfl rfl) rfl rfl ?_
            rcases of_if h with ⟨c25, h⟩ | ⟨c25, h⟩
            · refine r_qon (q_move rfl rfl) rfl rfl rfl rfl (beq_t c25) rfl ?_
              refine r_q (q_pick_t rfl rfl (beq_t c25) rfl) rfl rfl ?_
              refine r_q (q_move rfl rfl) rfl rfl ?_
              rcases of_if h with ⟨c26, h⟩ | ⟨c26, h⟩
              · refine r_qon (q_loadb_agg 0 rfl ag27 sz27 rfl rfl rfl rfl) rfl rfl rfl rfl c26 rfl ?_
                refine r_qon (q_loadb_agg 6 rfl ag27 sz27 rfl rfl rfl rfl) rfl rfl rfl rfl c26 rfl ?_
                obtain ⟨v22, hb7, h⟩ := of_b1 h
                refine r_on (a_call ok18 rfl rfl rfl rfl (fun w hm => impl_ColoredSame.calls K v16 x8.1.A x8.1.n x8.1.c v17 x8.2.1.A x8.2.1.n x8.2.1.c v18 x8.2.2.1.A x8.2.2.1.n x8.2.2.1.c v19 x8.2.2.2.A x8.2.2.2.n x8.2.2.2.c v5 x3.1.A x3.1.n x3.1.c v6 x3.2.1.A x3.2.1.n x3.2.1.c v7 x3.2.2.1.A x3.2.2.1.n x3.2.2.1.c v8 x3.2.2.2.A x3.2.2.2.n x3.2.2.2.c hm x8.1.h (Rd.row 1 rfl) x8.2.1.h (Rd.row 2 rfl) x8.2.2.1.h (Rd.row 3 rfl) x8.2.2.2.h (Rd.row 4 rfl) x3.1.h (Rd.row 11 rfl) x3.2.1.h (Rd.row 12 rfl) x3.2.2.1.h (Rd.row 13 rfl) x3.2.2.2.h (Rd.row 14 rfl) hb7)) rfl rfl rfl rfl c26 rfl (fun x11 => ?_)
                refine r_q (q_pick_t rfl rfl c26 rfl) rfl rfl ?_
                refine r_q (q_move rfl rfl) rfl rfl ?_
                rcases of_if h with ⟨c27, h⟩ | ⟨c27, h⟩
                · refine r_qon (q_loadb_agg 5 rfl ag27 sz27 rfl rfl rfl rfl) rfl rfl rfl rfl c27 rfl ?_
                  obtain ⟨v23, hb8, h⟩ := of_b1 h
                  refine r_on (a_call ok31 rfl rfl rfl rfl (fun w hm => impl_ColorHolds.calls K v1 x1.1.A x1.1.n x1.1.c v2 x1.2.1.A x1.2.1.n x1.2.1.c v3 x1.2.2.1.A x1.2.2.1.n x1.2.2.1.c v4 x1.2.2.2.A x1.2.2.2.n x1.2.2.2.c hm x1.1.h (Rd.row 7 rfl) x1.2.1.h (Rd.row 8 rfl) x1.2.2.1.h (Rd.row 9 rfl) x1.2.2.2.h (Rd.row 10 rfl) hb8)) rfl rfl rfl rfl c27 rfl (fun x12 => ?_)
                  refine r_qon (q_not rfl rfl) rfl rfl rfl rfl c27 rfl ?_
                  refine r_qon (q_move rfl rfl) rfl rfl rfl rfl c27 rfl ?_
                  rcases of_if h with ⟨c28, h⟩ | ⟨c28, h⟩
                  · refine r_qon (q_loadb_agg 6 rfl ag27 sz27 rfl rfl rfl rfl) rfl rfl rfl rfl (not_f c28) rfl ?_
                    obtain ⟨v24, hb9, h⟩ := of_b1 h
                    refine r_on (a_call ok31 rfl rfl rfl rfl (fun w hm => impl_ColorHolds.calls K v5 x3.1.A x3.1.n x3.1.c v6 x3.2.1.A x3.2.1.n x3.2.1.c v7 x3.2.2.1.A x3.2.2.1.n x3.2.2.1.c v8 x3.2.2.2.A x3.2.2.2.n x3.2.2.2.c hm x3.1.h (Rd.row 11 rfl) x3.2.1.h (Rd.row 12 rfl) x3.2.2.1.h (Rd.row 13 rfl) x3.2.2.2.h (Rd.row 14 rfl) hb9)) rfl rfl rfl rfl (not_f c28) rfl (fun x13 => ?_)
                    refine r_qon (q_pick_f rfl rfl (not_f c28) rfl) rfl rfl rfl rfl c27 rfl ?_
                    refine r_q (q_pick_t rfl rfl c27 rfl) rfl rfl ?_
                    refine r_q (q_assign rfl rfl) rfl rfl ?_
                    refine r_nil ?_
                    refine j_then ?_
                    refine j_ret ?_
                    cases h
                    exact j_return rfl (ResOf.tmp rfl ResOf.nil) rfl (fun w h => ⟨(), rfl, (h.drop 15)⟩)
                  · refine r_off rfl rfl rfl rfl (not_t (var_f c28)) rfl ?_
                    refine r_off rfl rfl rfl rfl (not_t (var_f c28)) rfl ?_
                    refine r_qon (q_pick_t rfl rfl (not_t (var_f c28)) rfl) rfl rfl rfl rfl c27 rfl ?_
                    refine r_q (q_pick_t rfl rfl c27 rfl) rfl rfl ?_
                    refine r_q (q_assign rfl rfl) rfl rfl ?_
                    refine r_nil ?_
                    refine j_then ?_
                    refine j_ret ?_
                    cases h
                    exact j_return rfl (ResOf.tmp rfl ResOf.nil) rfl (fun w h => ⟨(), rfl, (h.drop 15)⟩)
                · refine r_off rfl rfl rfl rfl (var_f c27) rfl ?_
                  refine r_off rfl rfl rfl rfl (var_f c27) rfl ?_
                  refine r_off rfl rfl rfl rfl (var_f c27) rfl ?_
                  refine r_off rfl rfl rfl rfl (var_f c27) rfl ?_
                  refine r_offu rfl rfl rfl rfl rfl ?_
                  refine r_offu rfl rfl rfl rfl rfl ?_
                  refine r_off rfl rfl rfl rfl (var_f c27) rfl ?_
                  refine r_q (q_pick_f rfl rfl (var_f c27) rfl) rfl rfl ?_
                  refine r_q (q_assign rfl rfl) rfl rfl ?_
                  refine r_nil ?_
                  refine j_then ?_
                  refine j_ret ?_
                  cases h
                  exact j_return rfl (ResOf.tmp rfl ResOf.nil) rfl (fun w h => ⟨(), rfl, (h.drop 15)⟩)
              · refine r_off rfl rfl rfl rfl (var_f c26) rfl ?_
                refine r_off rfl rfl rfl rfl (var_f c26) rfl ?_
                refine r_off rfl rfl rfl rfl (var_f c26) rfl ?_
                refine r_q (q_pick_f rfl rfl (var_f c26) rfl) rfl rfl ?_
                refine r_q (q_move rfl rfl) rfl rfl ?_
                refine r_off rfl rfl rfl rfl rfl rfl ?_
                refine r_off rfl rfl rfl rfl rfl rfl ?_
                refine r_off rfl rfl rfl rfl rfl rfl ?_
                refine r_off rfl rfl rfl rfl rfl rfl ?_
                refine r_offu rfl rfl rfl rfl rfl ?_
                refine r_offu rfl rfl rfl rfl rfl ?_
                refine r_off rfl rfl rfl rfl rfl rfl ?_
                refine r_q (q_pick_f rfl rfl rfl rfl) rfl rfl ?_
                refine r_q (q_assign rfl rfl) rfl rfl ?_
                refine r_nil ?_
                refine j_then ?_
                refine j_ret ?_
                cases h
                exact j_return rfl (ResOf.tmp rfl ResOf.nil) rfl (fun w h => ⟨(), rfl, (h.drop 15)⟩)
            · refine r_off rfl rfl rfl rfl (beq_f c25) rfl ?_
              refine r_q (q_pick_f rfl rfl (beq_f c25) rfl) rfl rfl ?_
              refine r_q (q_move rfl rfl) rfl rfl ?_
              refine r_off rfl rfl rfl rfl rfl rfl ?_
              refine r_off rfl rfl rfl rfl rfl rfl ?_
              refine r_off rfl rfl rfl rfl rfl rfl ?_
              refine r_q (q_pick_f rfl rfl rfl rfl) rfl rfl ?_
              refine r_q (q_move rfl rfl) rfl rfl ?_
              refine r_off rfl rfl rfl rfl rfl rfl ?_
              refine r_off rfl rfl rfl rfl rfl rfl ?_
              refine r_off rfl rfl rfl rfl rfl rfl ?_
              refine r_off rfl rfl rfl rfl rfl rfl ?_
              refine r_offu rfl rfl rfl rfl rfl ?_
              refine r_offu rfl rfl rfl rfl rfl ?_
              refine r_off rfl rfl rfl rfl rfl rfl ?_
              refine r_q (q_pick_f rfl rfl rfl rfl) rfl rfl ?_
              refine r_q (q_assign rfl rfl) rfl rfl ?_
              refine r_nil ?_
              refine j_then ?_
              refine j_ret ?_
              cases h
              exact j_return rfl (ResOf.tmp rfl ResOf.nil) rfl (fun w h => ⟨(), rfl, (h.drop 15)⟩)
        · refine j_true rfl (not_t (var_f c4)) ?_
          refine j_seq ?_
          refine j_region ?_
          refine r_q (q_loadb_agg 5 rfl ag27 sz27 rfl rfl rfl rfl) rfl rfl ?_
          refine r_q (q_loadb_agg 0 rfl ag27 sz27 rfl rfl rfl rfl) rfl rfl ?_
          obtain ⟨v25, hb10, h⟩ := of_b1 h
          refine r_do (a_call ok18 rfl rfl rfl rfl (fun w hm => impl_ColoredSame.calls K v5 x3.1.A x3.1.n x3.1.c v6 x3.2.1.A x3.2.1.n x3.2.1.c v7 x3.2.2.1.A x3.2.2.1.n x3.2.2.1.c v8 x3.2.2.2.A x3.2.2.2.n x3.2.2.2.c v10 x5.1.A x5.1.n x5.1.c v11 x5.2.1.A x5.2.1.n x5.2.1.c v12 x5.2.2.1.A x5.2.2.1.n x5.2.2.1.c v13 x5.2.2.2.A x5.2.2.2.n x5.2.2.2.c hm x3.1.h (Rd.row 6 rfl) x3.2.1.h (Rd.row 7 rfl) x3.2.2.1.h (Rd.row 8 rfl) x3.2.2.2.h (Rd.row 9 rfl) x5.1.h (Rd.row 1 rfl) x5.2.1.h (Rd.row 2 rfl) x5.2.2.1.h (Rd.row 3 rfl) x5.2.2.2.h (Rd.row 4 rfl) hb10)) rfl rfl (fun x14 => ?_)
          refine r_q (q_move rfl rfl) rfl rfl ?_
          rcases of_if h with ⟨c29, h⟩ | ⟨c29, h⟩
          · refine r_qon (q_move rfl rfl) rfl rfl rfl rfl c29 rfl ?_
            refine r_qon (q_move rfl rfl) rfl rfl rfl rfl c29 rfl ?_
            refine r_qon (q_beql un4 rfl rfl rfl) rfl rfl rfl rfl c29 rfl ?_
            refine r_q (q_pick_t rfl rfl c29 rfl) rfl rfl ?_
            refine r_q (q_assign rfl rfl) rfl rfl ?_
            refine r_nil ?_
            refine j_then ?_
            refine j_ret ?_
            refine j_then_ret ?_
            cases h
            exact j_return rfl (ResOf.tmp rfl ResOf.nil) rfl (fun w h => ⟨(), rfl, (h.drop 15)⟩)
          · refine r_off rfl rfl rfl rfl (var_f c29) rfl ?_
            refine r_off rfl rfl rfl rfl (var_f c29) rfl ?_
            refine r_off rfl rfl rfl rfl (var_f c29) rfl ?_
            refine r_q (q_pick_f rfl rfl (var_f c29) rfl) rfl rfl ?_
            refine r_q (q_assign rfl rfl) rfl rfl ?_
            refine r_nil ?_
            refine j_then ?_
            refine j_ret ?_
            refine j_then_ret ?_
            cases h
            exact j_return rfl (ResOf.tmp rfl ResOf.nil) rfl (fun w h => ⟨(), rfl, (h.drop 15)⟩)
      · refine r_off rfl rfl rfl rfl (bne_t c3) rfl ?_
        refine r_off rfl rfl rfl rfl (bne_t c3) rfl ?_
        refine r_q (q_pick_t rfl rfl (bne_t c3) rfl) rfl rfl ?_
        refine r_nil ?_
        refine j_then ?_
        refine j_true rfl rfl ?_
        refine j_seq ?_
        refine j_region ?_
        refine r_q (q_loadb_agg 5 rfl ag27 sz27 rfl rfl rfl rfl) rfl rfl ?_
        refine r_q (q_loadb_agg 0 rfl ag27 sz27 rfl rfl rfl rfl) rfl rfl ?_
        obtain ⟨v26, hb11, h⟩ := of_b1 h
        refine r_do (a_call ok18 rfl rfl rfl rfl (fun w hm => impl_ColoredSame.calls K v5 x3.1.A x3.1.n x3.1.c v6 x3.2.1.A x3.2.1.n x3.2.1.c v7 x3.2.2.1.A x3.2.2.1.n x3.2.2.1.c v8 x3.2.2.2.A x3.2.2.2.n x3.2.2.2.c v10 x5.1.A x5.1.n x5.1.c v11 x5.2.1.A x5.2.1.n x5.2.1.c v12 x5.2.2.1.A x5.2.2.1.n x5.2.2.1.c v13 x5.2.2.2.A x5.2.2.2.n x5.2.2.2.c hm x3.1.h (Rd.row 6 rfl) x3.2.1.h (Rd.row 7 rfl) x3.2.2.1.h (Rd.row 8 rfl) x3.2.2.2.h (Rd.row 9 rfl) x5.1.h (Rd.row 1 rfl) x5.2.1.h (Rd.row 2 rfl) x5.2.2.1.h (Rd.row 3 rfl) x5.2.2.2.h (Rd.row 4 rfl) hb11)) rfl rfl (fun x14 => ?_)
        refine r_q (q_move rfl rfl) rfl rfl ?_
        rcases of_if h with ⟨c30, h⟩ | ⟨c30, h⟩
        · refine r_qon (q_move rfl rfl) rfl rfl rfl rfl c30 rfl ?_
          refine r_qon (q_move rfl rfl) rfl rfl rfl rfl c30 rfl ?_
          refine r_qon (q_beql un4 rfl rfl rfl) rfl rfl rfl rfl c30 rfl ?_
          refine r_q (q_pick_t rfl rfl c30 rfl) rfl rfl ?_
          refine r_q (q_assign rfl rfl) rfl rfl ?_
          refine r_nil ?_
          refine j_then ?_
          refine j_ret ?_
          refine j_then_ret ?_
          cases h
          exact j_return rfl (ResOf.tmp rfl ResOf.nil) rfl (fun w h => ⟨(), rfl, (h.drop 15)⟩)
        · refine r_off rfl rfl rfl rfl (var_f c30) rfl ?_
          refine r_off rfl rfl rfl rfl (var_f c30) rfl ?_
          refine r_off rfl rfl rfl rfl (var_f c30) rfl ?_
          refine r_q (q_pick_f rfl rfl (var_f c30) rfl) rfl rfl ?_
          refine r_q (q_assign rfl rfl) rfl rfl ?_
          refine r_nil ?_
          refine j_then ?_
          refine j_ret ?_
          refine j_then_ret ?_
          cases h
          exact j_return rfl (ResOf.tmp rfl ResOf.nil) rfl (fun w h => ⟨(), rfl, (h.drop 15)⟩)
    · refine r_off rfl rfl rfl rfl (not_t (var_f c2)) rfl ?_
      refine r_off rfl rfl rfl rfl (not_t (var_f c2)) rfl ?_
      refine r_off rfl rfl rfl rfl (not_t (var_f c2)) rfl ?_
      refine r_q (q_pick_t rfl rfl (not_t (var_f c2)) rfl) rfl rfl ?_
      refine r_q (q_move rfl rfl) rfl rfl ?_
      refine r_off rfl rfl rfl rfl rfl rfl ?_
      refine r_off rfl rfl rfl rfl rfl rfl ?_
      refine r_q (q_pick_t rfl rfl rfl rfl) rfl rfl ?_
      refine r_nil ?_
      refine j_then ?_
      refine j_true rfl rfl ?_
      refine j_seq ?_
      refine j_region ?_
      refine r_q (q_loadb_agg 5 rfl ag27 sz27 rfl rfl rfl rfl) rfl rfl ?_
      refine r_q (q_loadb_agg 0 rfl ag27 sz27 rfl rfl rfl rfl) rfl rfl ?_
      obtain ⟨v27, hb12, h⟩ := of_b1 h
      refine r_do (a_call ok18 rfl rfl rfl rfl (fun w hm => impl_ColoredSame.calls K v5 x3.1.A x3.1.n x3.1.c v6 x3.2.1.A x3.2.1.n x3.2.1.c v7 x3.2.2.1.A x3.2.2.1.n x3.2.2.1.c v8 x3.2.2.2.A x3.2.2.2.n x3.2.2.2.c v10 x5.1.A x5.1.n x5.1.c v11 x5.2.1.A x5.2.1.n x5.2.1.c v12 x5.2.2.1.A x5.2.2.1.n x5.2.2.1.c v13 x5.2.2.2.A x5.2.2.2.n x5.2.2.2.c hm x3.1.h (Rd.row 6 rfl) x3.2.1.h (Rd.row 7 rfl) x3.2.2.1.h (Rd.row 8 rfl) x3.2.2.2.h (Rd.row 9 rfl) x5.1.h (Rd.row 1 rfl) x5.2.1.h (Rd.row 2 rfl) x5.2.2.1.h (Rd.row 3 rfl) x5.2.2.2.h (Rd.row 4 rfl) hb12)) rfl rfl (fun x14 => ?_)
      refine r_q (q_move rfl rfl) rfl rfl ?_
      rcases of_if h with ⟨c31, h⟩ | ⟨c31, h⟩
      · refine r_qon (q_move rfl rfl) rfl rfl rfl rfl c31 rfl ?_
        refine r_qon (q_move rfl rfl) rfl rfl rfl rfl c31 rfl ?_
        refine r_qon (q_beql un4 rfl rfl rfl) rfl rfl rfl rfl c31 rfl ?_
        refine r_q (q_pick_t rfl rfl c31 rfl) rfl rfl ?_
        refine r_q (q_assign rfl rfl) rfl rfl ?_
        refine r_nil ?_
        refine j_then ?_
        refine j_ret ?_
        refine j_then_ret ?_
        cases h
        exact j_return rfl (ResOf.tmp rfl ResOf.nil) rfl (fun w h => ⟨(), rfl, (h.drop 15)⟩)
      · refine r_off rfl rfl rfl rfl (var_f c31) rfl ?_
        refine r_off rfl rfl rfl rfl (var_f c31) rfl ?_
        refine r_off rfl rfl rfl rfl (var_f c31) rfl ?_
        refine r_q (q_pick_f rfl rfl (var_f c31) rfl) rfl rfl ?_
        refine r_q (q_assign rfl rfl) rfl rfl ?_
        refine r_nil ?_
        refine j_then ?_
        refine j_ret ?_
        refine j_then_ret ?_
        cases h
        exact j_return rfl (ResOf.tmp rfl ResOf.nil) rfl (fun w h => ⟨(), rfl, (h.drop 15)⟩)

end Go.Proofs.Ytcdcikmphonkfaa.F
