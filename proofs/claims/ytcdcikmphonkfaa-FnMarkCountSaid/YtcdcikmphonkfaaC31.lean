/- The program computes these pure functions, printed by the generator of wip/gen. -/
import Derived.Test.YtcdcikmphonkfaaFa
import Derived.Test.YtcdcikmphonkfaaFi
import Derived.Test.YtcdcikmphonkfaaFb
import Derived.Test.YtcdcikmphonkfaaC0
import Derived.Test.YtcdcikmphonkfaaC1
import Derived.Test.YtcdcikmphonkfaaC2
import Derived.Test.YtcdcikmphonkfaaC3
import Derived.Test.YtcdcikmphonkfaaC4
import Derived.Test.YtcdcikmphonkfaaC6
import Derived.Test.YtcdcikmphonkfaaC7
import Derived.Test.YtcdcikmphonkfaaC8
import Derived.Test.YtcdcikmphonkfaaC11
import Derived.Test.YtcdcikmphonkfaaC14
import Derived.Test.YtcdcikmphonkfaaC15
import Derived.Test.YtcdcikmphonkfaaC18
import Derived.Test.YtcdcikmphonkfaaC19
namespace Go.Proofs.Ytcdcikmphonkfaa.F
open Go Go.RowKit Go.Proofs.Ytcdcikmphonkfaa.S
set_option linter.unusedVariables false
set_option maxRecDepth 100000
theorem laws_FnMarkCount.calls (K : Nat) (a0 : List Int) (a0_A : Option Addr) (a0_n a0_c : Nat) {w0 w : World} {F : List Res} {r1 : Bool} (hm : Mem w0 (F) w) (a0_h : a0.length = a0_n) (a0_R : Rd w0 F a0_A (ints .u8 a0)) (a0_k : a0.length ≤ a0_c) (h : laws_FnMarkCount.f K a0 = some r1) :
    Calls Try.prog 7 (List.toArray [.slice a0_A a0_n a0_c]) w fun e w' => ∃ x : Unit, e = .returned (.bool r1) ∧ Mem w0 (F) w' := by
  unfold laws_FnMarkCount.f at h
  refine calls_of_J (n := 75) Try.func7 rfl rfl rfl hm ?_
  refine j_seq ?_
  refine j_region ?_
  refine r_q (q_assign rfl rfl) rfl rfl ?_
  refine r_nil ?_
  refine j_then ?_
  refine j_seq ?_
  refine j_seq ?_
  refine j_region ?_
  refine r_q (q_move rfl rfl) rfl rfl ?_
  refine r_q (q_lenX a0 a0_h un22 rfl rfl rfl rfl rfl) rfl rfl ?_
  refine r_q (q_gtr rfl rfl rfl) rfl rfl ?_
  refine r_nil ?_
  refine j_then ?_
  rcases of_if h with ⟨c1, h⟩ | ⟨c1, h⟩
  · refine j_true rfl (decide_eq_true c1) ?_
    refine j_seq ?_
    refine j_region ?_
    refine r_q (q_assign rfl rfl) rfl rfl ?_
    refine r_nil ?_
    refine j_then ?_
    refine j_ret ?_
    refine j_then_ret ?_
    cases h
    exact j_return rfl (ResOf.tmp rfl ResOf.nil) rfl (fun w h => ⟨(), rfl, h⟩)
  · refine j_false rfl (decide_eq_false c1) ?_
    refine j_skip ?_
    refine j_then ?_
    refine j_seq ?_
    refine j_region ?_
    refine r_q (q_move rfl rfl) rfl rfl ?_
    obtain ⟨v1, v2, v3, v4, hb1, h⟩ := of_b4 h
    refine r_do (a_call ok32 rfl rfl rfl rfl (fun w hm => spec_DrawMarkAll.calls K a0 a0_A a0_n a0_c hm a0_h a0_R a0_k hb1)) rfl rfl (fun x1 => ?_)
    refine r_do (a_alloc zr27 rfl) rfl rfl (fun x2 => ?_)
    refine r_do (a_storeb 0 rfl sz27 rfl rfl rfl rfl (Nat.le_of_ble_eq_true rfl) rfl) rfl rfl (fun _ => ?_)
    refine j_b0 [(.slice x1.1.A x1.1.n x1.1.c), (.slice x1.2.1.A x1.2.1.n x1.2.1.c), (.slice x1.2.2.1.A x1.2.2.1.n x1.2.2.1.c), (.slice x1.2.2.2.A x1.2.2.2.n x1.2.2.2.c)] rfl ?_
    refine r_nil ?_
    refine j_then ?_
    refine j_seq ?_
    refine j_region ?_
    refine r_q (q_loadb_agg 0 rfl ag27 sz27 rfl rfl rfl rfl) rfl rfl ?_
    obtain ⟨v5, v6, v7, v8, v9, hb2, h⟩ := of_b5 h
    refine r_do (a_call ok28 rfl rfl rfl rfl (fun w hm => impl_MarkAll.calls K v1 x1.1.A x1.1.n x1.1.c v2 x1.2.1.A x1.2.1.n x1.2.1.c v3 x1.2.2.1.A x1.2.2.1.n x1.2.2.1.c v4 x1.2.2.2.A x1.2.2.2.n x1.2.2.2.c hm x1.1.h (Rd.row 1 rfl) x1.2.1.h (Rd.row 2 rfl) x1.2.2.1.h (Rd.row 3 rfl) x1.2.2.2.h (Rd.row 4 rfl) hb2)) rfl rfl (fun x3 => ?_)
    refine r_q (q_move rfl rfl) rfl rfl ?_
    refine r_q (q_extract rfl rfl rfl) rfl rfl ?_
    refine r_q (q_extract rfl rfl rfl) rfl rfl ?_
    refine r_do (a_alloc zr27 rfl) rfl rfl (fun x4 => ?_)
    refine r_do (a_storeb 0 rfl sz27 rfl rfl rfl rfl (Nat.le_of_ble_eq_true rfl) rfl) rfl rfl (fun _ => ?_)
    refine j_b0 [(.slice x3.1.A x3.1.n x3.1.c), (.slice x3.2.1.A x3.2.1.n x3.2.1.c), (.slice x3.2.2.1.A x3.2.2.1.n x3.2.2.1.c), (.slice x3.2.2.2.A x3.2.2.2.n x3.2.2.2.c)] rfl ?_
    refine r_q (q_assign rfl rfl) rfl rfl ?_
    refine r_nil ?_
    refine j_then ?_
    refine j_seq ?_
    refine j_region ?_
    refine r_q (q_loadb_agg 5 rfl ag27 sz27 rfl rfl rfl rfl) rfl rfl ?_
    obtain ⟨v10, v11, v12, v13, v14, hb3, h⟩ := of_b5 h
    refine r_do (a_call ok27 rfl rfl rfl rfl (fun w hm => spec_MarkAll.calls K v1 x1.1.A x1.1.n x1.1.c v2 x1.2.1.A x1.2.1.n x1.2.1.c v3 x1.2.2.1.A x1.2.2.1.n x1.2.2.1.c v4 x1.2.2.2.A x1.2.2.2.n x1.2.2.2.c hm x1.1.h (Rd.row 6 rfl) x1.2.1.h (Rd.row 7 rfl) x1.2.2.1.h (Rd.row 8 rfl) x1.2.2.2.h (Rd.row 9 rfl) hb3)) rfl rfl (fun x5 => ?_)
    refine r_q (q_move rfl rfl) rfl rfl ?_
    refine r_q (q_extract rfl rfl rfl) rfl rfl ?_
    refine r_q (q_extract rfl rfl rfl) rfl rfl ?_
    refine r_do (a_alloc zr27 rfl) rfl rfl (fun x6 => ?_)
    refine r_do (a_storeb 0 rfl sz27 rfl rfl rfl rfl (Nat.le_of_ble_eq_true rfl) rfl) rfl rfl (fun _ => ?_)
    refine j_b0 [(.slice x5.1.A x5.1.n x5.1.c), (.slice x5.2.1.A x5.2.1.n x5.2.1.c), (.slice x5.2.2.1.A x5.2.2.1.n x5.2.2.1.c), (.slice x5.2.2.2.A x5.2.2.2.n x5.2.2.2.c)] rfl ?_
    refine r_q (q_assign rfl rfl) rfl rfl ?_
    refine r_nil ?_
    refine j_then ?_
    refine j_seq ?_
    refine j_seq ?_
    refine j_region ?_
    refine r_q (q_loadb_agg 5 rfl ag27 sz27 rfl rfl rfl rfl) rfl rfl ?_
    refine r_q (q_loadb_agg 0 rfl ag27 sz27 rfl rfl rfl rfl) rfl rfl ?_
    obtain ⟨v15, hb4, h⟩ := of_b1 h
    refine r_do (a_call ok18 rfl rfl rfl rfl (fun w hm => impl_ColoredSame.calls K v5 x3.1.A x3.1.n x3.1.c v6 x3.2.1.A x3.2.1.n x3.2.1.c v7 x3.2.2.1.A x3.2.2.1.n x3.2.2.1.c v8 x3.2.2.2.A x3.2.2.2.n x3.2.2.2.c v10 x5.1.A x5.1.n x5.1.c v11 x5.2.1.A x5.2.1.n x5.2.1.c v12 x5.2.2.1.A x5.2.2.1.n x5.2.2.1.c v13 x5.2.2.2.A x5.2.2.2.n x5.2.2.2.c hm x3.1.h (Rd.row 6 rfl) x3.2.1.h (Rd.row 7 rfl) x3.2.2.1.h (Rd.row 8 rfl) x3.2.2.2.h (Rd.row 9 rfl) x5.1.h (Rd.row 1 rfl) x5.2.1.h (Rd.row 2 rfl) x5.2.2.1.h (Rd.row 3 rfl) x5.2.2.2.h (Rd.row 4 rfl) hb4)) rfl rfl (fun x7 => ?_)
    refine r_q (q_not rfl rfl) rfl rfl ?_
    refine r_q (q_move rfl rfl) rfl rfl ?_
    rcases of_if h with ⟨c2, h⟩ | ⟨c2, h⟩
    · refine r_qon (q_move rfl rfl) rfl rfl rfl rfl (not_f c2) rfl ?_
      refine r_qon (q_move rfl rfl) rfl rfl rfl rfl (not_f c2) rfl ?_
      refine r_qon (q_bneq un4 rfl rfl rfl) rfl rfl rfl rfl (not_f c2) rfl ?_
      refine r_q (q_pick_f rfl rfl (not_f c2) rfl) rfl rfl ?_
      refine r_q (q_move rfl rfl) rfl rfl ?_
      rcases of_if h with ⟨c3, h⟩ | ⟨c3, h⟩
      · refine r_qon (q_move rfl rfl) rfl rfl rfl rfl (bne_f c3) rfl ?_
        refine r_qon (q_not rfl rfl) rfl rfl rfl rfl (bne_f c3) rfl ?_
        refine r_q (q_pick_f rfl rfl (bne_f c3) rfl) rfl rfl ?_
        refine r_nil ?_
        refine j_then ?_
        rcases of_if h with ⟨c4, h⟩ | ⟨c4, h⟩
        · refine j_false rfl (not_f c4) ?_
          refine j_skip ?_
          refine j_then ?_
          refine j_seq ?_
          refine j_region ?_
          refine r_q (q_loadb_agg 10 rfl ag27 sz27 rfl rfl rfl rfl) rfl rfl ?_
          refine r_do (a_alloc zr27 rfl) rfl rfl (fun x8 => ?_)
          refine r_do (a_storeb 0 rfl sz27 rfl rfl rfl rfl (Nat.le_of_ble_eq_true rfl) rfl) rfl rfl (fun _ => ?_)
          refine j_b0 [(.slice x1.1.A x1.1.n x1.1.c), (.slice x1.2.1.A x1.2.1.n x1.2.1.c), (.slice x1.2.2.1.A x1.2.2.1.n x1.2.2.1.c), (.slice x1.2.2.2.A x1.2.2.2.n x1.2.2.2.c)] rfl ?_
          refine r_nil ?_
          refine j_then ?_
          refine j_seq ?_
          refine j_region ?_
          refine r_q (q_assign rfl rfl) rfl rfl ?_
          refine r_nil ?_
          refine j_then ?_
          refine j_seq ?_
          refine j_block ?_
          refine j_unroll ?_
          refine j_round ?_
          refine j_block ?_
          refine j_seq ?_
          refine j_region ?_
          refine r_q (q_loadb_agg 0 rfl ag27 sz27 rfl rfl rfl rfl) rfl rfl ?_
          obtain ⟨v16, v17, v18, v19, v20, v21, hb5, h⟩ := of_b6 h
          refine r_do (a_call ok23 rfl rfl rfl rfl (fun w hm => impl_MarkStep.calls K v1 x1.1.A x1.1.n x1.1.c v2 x1.2.1.A x1.2.1.n x1.2.1.c v3 x1.2.2.1.A x1.2.2.1.n x1.2.2.1.c v4 x1.2.2.2.A x1.2.2.2.n x1.2.2.2.c hm x1.1.h (Rd.row 12 rfl) x1.2.1.h (Rd.row 13 rfl) x1.2.2.1.h (Rd.row 14 rfl) x1.2.2.2.h (Rd.row 15 rfl) hb5)) rfl rfl (fun x9 => ?_)
          refine r_q (q_move rfl rfl) rfl rfl ?_
          refine r_q (q_extract rfl rfl rfl) rfl rfl ?_
          refine r_q (q_extract rfl rfl rfl) rfl rfl ?_
          refine r_q (q_extract rfl rfl rfl) rfl rfl ?_
          refine r_do (a_alloc zr27 rfl) rfl rfl (fun x10 => ?_)
          refine r_do (a_storeb 0 rfl sz27 rfl rfl rfl rfl (Nat.le_of_ble_eq_true rfl) rfl) rfl rfl (fun _ => ?_)
          refine j_b0 [(.slice x9.1.A x9.1.n x9.1.c), (.slice x9.2.1.A x9.2.1.n x9.2.1.c), (.slice x9.2.2.1.A x9.2.2.1.n x9.2.2.1.c), (.slice x9.2.2.2.A x9.2.2.2.n x9.2.2.2.c)] rfl ?_
          refine r_q (q_assign rfl rfl) rfl rfl ?_
          refine r_q (q_assign rfl rfl) rfl rfl ?_
          refine r_nil ?_
          refine j_then ?_
          refine j_seq ?_
          refine j_seq ?_
          refine j_region ?_
          refine r_q (q_move rfl rfl) rfl rfl ?_
          refine r_q (q_not rfl rfl) rfl rfl ?_
          refine r_nil ?_
          refine j_then ?_
          rcases of_if h with ⟨c5, h⟩ | ⟨c5, h⟩
          · refine j_false rfl (not_f c5) ?_
            refine j_skip ?_
            refine j_then ?_
            refine j_seq ?_
            refine j_seq ?_
            refine j_region ?_
            refine r_q (q_move rfl rfl) rfl rfl ?_
            refine r_q (q_not rfl rfl) rfl rfl ?_
            refine r_nil ?_
            refine j_then ?_
            rcases of_if h with ⟨c6, h⟩ | ⟨c6, h⟩
            · refine j_false rfl (not_f c6) ?_
              refine j_skip ?_
              refine j_then ?_
              refine j_seq ?_
              refine j_region ?_
              refine r_q (q_loadb_agg 0 rfl ag27 sz27 rfl rfl rfl rfl) rfl rfl ?_
              refine r_do (a_storeb 5 rfl sz27 rfl rfl rfl rfl (Nat.le_of_ble_eq_true rfl) rfl) rfl rfl (fun _ => ?_)
              refine j_b5 [(.slice x9.1.A x9.1.n x9.1.c), (.slice x9.2.1.A x9.2.1.n x9.2.1.c), (.slice x9.2.2.1.A x9.2.2.1.n x9.2.2.1.c), (.slice x9.2.2.2.A x9.2.2.2.n x9.2.2.2.c)] rfl ?_
              refine r_nil ?_
              refine j_then ?_
              refine j_region ?_
              refine r_q (q_move rfl rfl) rfl rfl ?_
              refine r_q (q_addc (v := (1:Int)) rfl rfl rfl (by decide) (by decide)) rfl rfl ?_
              refine r_q (q_assign rfl rfl) rfl rfl ?_
              refine r_nil ?_
              refine j_in ?_
              refine j_then ?_
              refine j_lp (σ := Int × (Option Addr) × Nat × Nat × (List Int) × (Option Addr) × Nat × Nat × (List Int) × (Option Addr) × Nat × Nat × (List Int) × (Option Addr) × Nat × Nat × (List Int)) (fun s => [(3, (pt x2)), (4, (pt x4)), (8, (pt x8)), (9, (i6 s.1))]) (fun s => .box x2 27 [(.slice x1.1.A x1.1.n x1.1.c), (.slice x1.2.1.A x1.2.1.n x1.2.1.c), (.slice x1.2.2.1.A x1.2.2.1.n x1.2.2.1.c), (.slice x1.2.2.2.A x1.2.2.2.n x1.2.2.2.c)] :: .box x4 27 [(.slice x3.1.A x3.1.n x3.1.c), (.slice x3.2.1.A x3.2.1.n x3.2.1.c), (.slice x3.2.2.1.A x3.2.2.1.n x3.2.2.1.c), (.slice x3.2.2.2.A x3.2.2.2.n x3.2.2.2.c)] :: .box x8 27 [(.slice s.2.1 s.2.2.1 s.2.2.2.1), (.slice s.2.2.2.2.2.1 s.2.2.2.2.2.2.1 s.2.2.2.2.2.2.2.1), (.slice s.2.2.2.2.2.2.2.2.2.1 s.2.2.2.2.2.2.2.2.2.2.1 s.2.2.2.2.2.2.2.2.2.2.2.1), (.slice s.2.2.2.2.2.2.2.2.2.2.2.2.2.1 s.2.2.2.2.2.2.2.2.2.2.2.2.2.2.1 s.2.2.2.2.2.2.2.2.2.2.2.2.2.2.2.1)] :: .row x1.1.A x1.1.c 3 1 (ii v1) :: .row x1.2.1.A x1.2.1.c 3 1 (ii v2) :: .row x1.2.2.1.A x1.2.2.1.c 3 1 (ii v3) :: .row x1.2.2.2.A x1.2.2.2.c 3 1 (ii v4) :: .row x3.1.A x3.1.c 3 1 (ii v5) :: .row x3.2.1.A x3.2.1.c 3 1 (ii v6) :: .row x3.2.2.1.A x3.2.2.1.c 3 1 (ii v7) :: .row x3.2.2.2.A x3.2.2.2.c 3 1 (ii v8) :: .row s.2.1 s.2.2.2.1 3 1 (ii s.2.2.2.2.1) :: .row s.2.2.2.2.2.1 s.2.2.2.2.2.2.2.1 3 1 (ii s.2.2.2.2.2.2.2.2.1) :: .row s.2.2.2.2.2.2.2.2.2.1 s.2.2.2.2.2.2.2.2.2.2.2.1 3 1 (ii s.2.2.2.2.2.2.2.2.2.2.2.2.1) :: .row s.2.2.2.2.2.2.2.2.2.2.2.2.2.1 s.2.2.2.2.2.2.2.2.2.2.2.2.2.2.2.1 3 1 (ii s.2.2.2.2.2.2.2.2.2.2.2.2.2.2.2.2) :: F) (fun m s => laws_FnMarkCount.loop0 K () v1 v2 v3 v4 v5 v6 v7 v8 m s.1 s.2.2.2.2.1 s.2.2.2.2.2.2.2.2.1 s.2.2.2.2.2.2.2.2.2.2.2.2.1 s.2.2.2.2.2.2.2.2.2.2.2.2.2.2.2.2 = some r1 ∧ (s.2.2.2.2.1.length = s.2.2.1) ∧ (s.2.2.2.2.2.2.2.2.1.length = s.2.2.2.2.2.2.1) ∧ (s.2.2.2.2.2.2.2.2.2.2.2.2.1.length = s.2.2.2.2.2.2.2.2.2.2.1) ∧ (s.2.2.2.2.2.2.2.2.2.2.2.2.2.2.2.2.length = s.2.2.2.2.2.2.2.2.2.2.2.2.2.2.1)) K ((1:Int), x9.1.A, x9.1.n, x9.1.c, v16, x9.2.1.A, x9.2.1.n, x9.2.1.c, v17, x9.2.2.1.A, x9.2.2.1.n, x9.2.2.1.c, v18, x9.2.2.2.A, x9.2.2.2.n, x9.2.2.2.c, v19) ⟨h, x9.1.h, x9.2.1.h, x9.2.2.1.h, x9.2.2.2.h⟩ (fun a he => he.sub ⟨rfl, rfl, rfl, rfl, trivial⟩) (fun w h => h.pick 21 [16, 11, 5, 17, 18, 19, 20, 12, 13, 14, 15, 1, 2, 3, 4] rfl) ?_
              rintro m ⟨p2, A5, n5, d5, l5, A6, n6, d6, l6, A7, n7, d7, l7, A8, n8, d8, l8⟩ ⟨h, q5, q6, q7, q8⟩
              cases m with
              | zero => exact absurd h (by rw [laws_FnMarkCount.loop0]; exact nofun)
              | succ m =>
                rw [laws_FnMarkCount.loop0] at h
                show J _ _ [(3, (pt x2)), (4, (pt x4)), (8, (pt x8)), (9, (i6 p2))] _ (.box x2 27 [(.slice x1.1.A x1.1.n x1.1.c), (.slice x1.2.1.A x1.2.1.n x1.2.1.c), (.slice x1.2.2.1.A x1.2.2.1.n x1.2.2.1.c), (.slice x1.2.2.2.A x1.2.2.2.n x1.2.2.2.c)] :: .box x4 27 [(.slice x3.1.A x3.1.n x3.1.c), (.slice x3.2.1.A x3.2.1.n x3.2.1.c), (.slice x3.2.2.1.A x3.2.2.1.n x3.2.2.1.c), (.slice x3.2.2.2.A x3.2.2.2.n x3.2.2.2.c)] :: .box x8 27 [(.slice A5 n5 d5), (.slice A6 n6 d6), (.slice A7 n7 d7), (.slice A8 n8 d8)] :: .row x1.1.A x1.1.c 3 1 (ii v1) :: .row x1.2.1.A x1.2.1.c 3 1 (ii v2) :: .row x1.2.2.1.A x1.2.2.1.c 3 1 (ii v3) :: .row x1.2.2.2.A x1.2.2.2.c 3 1 (ii v4) :: .row x3.1.A x3.1.c 3 1 (ii v5) :: .row x3.2.1.A x3.2.1.c 3 1 (ii v6) :: .row x3.2.2.1.A x3.2.2.1.c 3 1 (ii v7) :: .row x3.2.2.2.A x3.2.2.2.c 3 1 (ii v8) :: .row A5 d5 3 1 (ii l5) :: .row A6 d6 3 1 (ii l6) :: .row A7 d7 3 1 (ii l7) :: .row A8 d8 3 1 (ii l8) :: F)
                refine j_block ?_
                refine j_seq ?_
                refine j_region ?_
                refine r_q (q_loadb_agg 2 rfl ag27 sz27 rfl rfl rfl rfl) rfl rfl ?_
                obtain ⟨v34, v35, v36, v37, v38, v39, hb8, h⟩ := of_b6 h
                refine r_do (a_call ok23 rfl rfl rfl rfl (fun w hm => impl_MarkStep.calls K l5 A5 n5 d5 l6 A6 n6 d6 l7 A7 n7 d7 l8 A8 n8 d8 hm q5 (Rd.row 11 rfl) q6 (Rd.row 12 rfl) q7 (Rd.row 13 rfl) q8 (Rd.row 14 rfl) hb8)) rfl rfl (fun x11 => ?_)
                refine r_q (q_move rfl rfl) rfl rfl ?_
                refine r_q (q_extract rfl rfl rfl) rfl rfl ?_
                refine r_q (q_extract rfl rfl rfl) rfl rfl ?_
                refine r_q (q_extract rfl rfl rfl) rfl rfl ?_
                refine r_do (a_alloc zr27 rfl) rfl rfl (fun x12 => ?_)
                refine r_do (a_storeb 0 rfl sz27 rfl rfl rfl rfl (Nat.le_of_ble_eq_true rfl) rfl) rfl rfl (fun _ => ?_)
                refine j_b0 [(.slice x11.1.A x11.1.n x11.1.c), (.slice x11.2.1.A x11.2.1.n x11.2.1.c), (.slice x11.2.2.1.A x11.2.2.1.n x11.2.2.1.c), (.slice x11.2.2.2.A x11.2.2.2.n x11.2.2.2.c)] rfl ?_
                refine r_q (q_assign rfl rfl) rfl rfl ?_
                refine r_q (q_assign rfl rfl) rfl rfl ?_
                refine r_nil ?_
                refine j_then ?_
                refine j_seq ?_
                refine j_seq ?_
                refine j_region ?_
                refine r_q (q_move rfl rfl) rfl rfl ?_
                refine r_q (q_not rfl rfl) rfl rfl ?_
                refine r_nil ?_
                refine j_then ?_
                rcases of_if h with ⟨c11, h⟩ | ⟨c11, h⟩
                · refine j_false rfl (not_f c11) ?_
                  refine j_skip ?_
                  refine j_then ?_
                  refine j_seq ?_
                  refine j_seq ?_
                  refine j_region ?_
                  refine r_q (q_move rfl rfl) rfl rfl ?_
                  refine r_q (q_not rfl rfl) rfl rfl ?_
                  refine r_nil ?_
                  refine j_then ?_
                  rcases of_if h with ⟨c12, h⟩ | ⟨c12, h⟩
                  · refine j_false rfl (not_f c12) ?_
                    refine j_skip ?_
                    refine j_then ?_
                    refine j_seq ?_
                    refine j_region ?_
                    refine r_q (q_loadb_agg 0 rfl ag27 sz27 rfl rfl rfl rfl) rfl rfl ?_
                    refine r_do (a_storeb 7 rfl sz27 rfl rfl rfl rfl (Nat.le_of_ble_eq_true rfl) rfl) rfl rfl (fun _ => ?_)
                    refine j_b7 [(.slice x11.1.A x11.1.n x11.1.c), (.slice x11.2.1.A x11.2.1.n x11.2.1.c), (.slice x11.2.2.1.A x11.2.2.1.n x11.2.2.1.c), (.slice x11.2.2.2.A x11.2.2.2.n x11.2.2.2.c)] rfl ?_
                    refine r_nil ?_
                    refine j_then ?_
                    refine j_region ?_
                    refine r_q (q_move rfl rfl) rfl rfl ?_
                    refine r_q (q_add rfl rfl rfl) rfl rfl ?_
                    refine r_q (q_assign rfl rfl) rfl rfl ?_
                    refine r_nil ?_
                    refine j_in ?_
                    refine j_then ?_
                    exact j_again m ((wrap64 (p2 + (1:Int))), x11.1.A, x11.1.n, x11.1.c, v34, x11.2.1.A, x11.2.1.n, x11.2.1.c, v35, x11.2.2.1.A, x11.2.2.1.n, x11.2.2.1.c, v36, x11.2.2.2.A, x11.2.2.2.n, x11.2.2.2.c, v37) (Nat.lt_succ_self m) ⟨h, x11.1.h, x11.2.1.h, x11.2.2.1.h, x11.2.2.2.h⟩ (fun a he => he.sub ⟨rfl, rfl, rfl, rfl, trivial⟩) (fun w h => h.pick 20 [5, 6, 7, 8, 9, 10, 11, 12, 13, 14, 15, 1, 2, 3, 4] rfl)
                  · refine j_true rfl (not_t (var_f c12)) ?_
                    refine j_exit ?_
                    refine j_then_exit ?_
                    refine j_in_far (by decide) ?_
                    refine j_then_exit ?_
                    refine j_in_exit ?_
                    refine j_then ?_
                    refine j_seq ?_
                    obtain ⟨v40, hb9, h⟩ := of_b1 h
                    rcases of_if h with ⟨c13, h⟩ | ⟨c13, h⟩
                    · obtain ⟨v41, hb10, h⟩ := of_b1 h
                      obtain ⟨v42, hb11, h⟩ := of_b1 h
                      refine j_draw (.box x12 27 [(.slice x11.1.A x11.1.n x11.1.c), (.slice x11.2.1.A x11.2.1.n x11.2.1.c), (.slice x11.2.2.1.A x11.2.2.1.n x11.2.2.1.c), (.slice x11.2.2.2.A x11.2.2.2.n x11.2.2.2.c)] :: .row x11.1.A x11.1.c 3 1 (ii v34) :: .row x11.2.1.A x11.2.1.c 3 1 (ii v35) :: .row x11.2.2.1.A x11.2.2.1.c 3 1 (ii v36) :: .row x11.2.2.2.A x11.2.2.2.c 3 1 (ii v37) :: .box x2 27 [(.slice x1.1.A x1.1.n x1.1.c), (.slice x1.2.1.A x1.2.1.n x1.2.1.c), (.slice x1.2.2.1.A x1.2.2.1.n x1.2.2.1.c), (.slice x1.2.2.2.A x1.2.2.2.n x1.2.2.2.c)] :: .box x4 27 [(.slice x3.1.A x3.1.n x3.1.c), (.slice x3.2.1.A x3.2.1.n x3.2.1.c), (.slice x3.2.2.1.A x3.2.2.1.n x3.2.2.1.c), (.slice x3.2.2.2.A x3.2.2.2.n x3.2.2.2.c)] :: .box x8 27 [(.slice A5 n5 d5), (.slice A6 n6 d6), (.slice A7 n7 d7), (.slice A8 n8 d8)] :: .row x1.1.A x1.1.c 3 1 (ii v1) :: .row x1.2.1.A x1.2.1.c 3 1 (ii v2) :: .row x1.2.2.1.A x1.2.2.1.c 3 1 (ii v3) :: .row x1.2.2.2.A x1.2.2.2.c 3 1 (ii v4) :: .row x3.1.A x3.1.c 3 1 (ii v5) :: .row x3.2.1.A x3.2.1.c 3 1 (ii v6) :: .row x3.2.2.1.A x3.2.2.1.c 3 1 (ii v7) :: .row x3.2.2.2.A x3.2.2.2.c 3 1 (ii v8) :: .row A5 d5 3 1 (ii l5) :: .row A6 d6 3 1 (ii l6) :: .row A7 d7 3 1 (ii l7) :: .row A8 d8 3 1 (ii l8) :: F) 13 follows_any rfl ?_
                      refine d_take 0 rfl (q_loadb_agg 7 rfl ag27 sz27 rfl rfl rfl rfl) rfl rfl (by kernel_rfl) (by kernel_rfl) (by kernel_rfl) (fun w h => h) ?_
                      refine d_take 1 rfl (q_loadb_agg 6 rfl ag27 sz27 rfl rfl rfl rfl) rfl rfl (by kernel_rfl) (by kernel_rfl) (by kernel_rfl) (fun w h => h) ?_
                      refine d_one 2 (by kernel_rfl) ?_
                      refine o_do rfl (a_call ok18 rfl rfl rfl rfl (fun w hm => impl_ColoredSame.calls K l5 A5 n5 d5 l6 A6 n6 d6 l7 A7 n7 d7 l8 A8 n8 d8 v5 x3.1.A x3.1.n x3.1.c v6 x3.2.1.A x3.2.1.n x3.2.1.c v7 x3.2.2.1.A x3.2.2.1.n x3.2.2.1.c v8 x3.2.2.2.A x3.2.2.2.n x3.2.2.2.c hm q5 (Rd.row 16 rfl) q6 (Rd.row 17 rfl) q7 (Rd.row 18 rfl) q8 (Rd.row 19 rfl) x3.1.h (Rd.row 12 rfl) x3.2.1.h (Rd.row 13 rfl) x3.2.2.1.h (Rd.row 14 rfl) x3.2.2.2.h (Rd.row 15 rfl) hb9)) rfl rfl (fun x13 w h => h) (fun x13 => ?_)
                      refine d_take 3 rfl (q_move rfl rfl) rfl rfl (by kernel_rfl) (by kernel_rfl) (by kernel_rfl) (fun w h => h) ?_
                      refine d_take_on 4 rfl (q_move rfl rfl) rfl rfl rfl rfl c13 rfl (by kernel_rfl) (by kernel_rfl) (by kernel_rfl) (fun w h => h) ?_
                      refine d_take_on 5 rfl (q_loadb_agg 6 rfl ag27 sz27 rfl rfl rfl rfl) rfl rfl rfl rfl c13 rfl (by kernel_rfl) (by kernel_rfl) (by kernel_rfl) (fun w h => h) ?_
                      refine d_take_on 7 rfl (q_loadb_agg 5 rfl ag27 sz27 rfl rfl rfl rfl) rfl rfl rfl rfl c13 rfl (by kernel_rfl) (by kernel_rfl) (by kernel_rfl) (fun w h => h) ?_
                      refine d_one 6 (by kernel_rfl) ?_
                      refine o_on rfl (a_call ok19 rfl rfl rfl rfl (fun w hm => impl_CountColor.calls K v5 x3.1.A x3.1.n x3.1.c v6 x3.2.1.A x3.2.1.n x3.2.1.c v7 x3.2.2.1.A x3.2.2.1.n x3.2.2.1.c v8 x3.2.2.2.A x3.2.2.2.n x3.2.2.2.c (2:Int) hm x3.1.h (Rd.row 12 rfl) x3.2.1.h (Rd.row 13 rfl) x3.2.2.1.h (Rd.row 14 rfl) x3.2.2.2.h (Rd.row 15 rfl) hb10)) rfl rfl rfl rfl c13 rfl (fun x14 w h => h) (fun x14 => ?_)
                      refine d_one 8 (by kernel_rfl) ?_
                      refine o_on rfl (a_call ok19 rfl rfl rfl rfl (fun w hm => impl_CountColor.calls K v1 x1.1.A x1.1.n x1.1.c v2 x1.2.1.A x1.2.1.n x1.2.1.c v3 x1.2.2.1.A x1.2.2.1.n x1.2.2.1.c v4 x1.2.2.2.A x1.2.2.2.n x1.2.2.2.c (2:Int) hm x1.1.h (Rd.row 8 rfl) x1.2.1.h (Rd.row 9 rfl) x1.2.2.1.h (Rd.row 10 rfl) x1.2.2.2.h (Rd.row 11 rfl) hb11)) rfl rfl rfl rfl c13 rfl (fun x15 w h => h) (fun x15 => ?_)
                      refine d_take_on 9 rfl (q_sub rfl rfl rfl) rfl rfl rfl rfl c13 rfl (by kernel_rfl) (by kernel_rfl) (by kernel_rfl) (fun w h => h) ?_
                      refine d_take_on 10 rfl (q_eql rfl rfl rfl) rfl rfl rfl rfl c13 rfl (by kernel_rfl) (by kernel_rfl) (by kernel_rfl) (fun w h => h) ?_
                      refine d_take 11 rfl (q_pick_t rfl rfl c13 rfl) rfl rfl (by kernel_rfl) (by kernel_rfl) (by kernel_rfl) (fun w h => h) ?_
                      refine d_take 12 rfl (q_assign rfl rfl) rfl rfl (by kernel_rfl) (by kernel_rfl) (by kernel_rfl) (fun w h => h) ?_
                      refine d_done (by kernel_rfl) ?_
                      refine j_then ?_
                      refine j_ret ?_
                      cases h
                      exact j_return rfl (ResOf.tmp rfl ResOf.nil) rfl (fun w h => ⟨(), rfl, (h.drop 20)⟩)
                    · refine j_draw (.box x12 27 [(.slice x11.1.A x11.1.n x11.1.c), (.slice x11.2.1.A x11.2.1.n x11.2.1.c), (.slice x11.2.2.1.A x11.2.2.1.n x11.2.2.1.c), (.slice x11.2.2.2.A x11.2.2.2.n x11.2.2.2.c)] :: .row x11.1.A x11.1.c 3 1 (ii v34) :: .row x11.2.1.A x11.2.1.c 3 1 (ii v35) :: .row x11.2.2.1.A x11.2.2.1.c 3 1 (ii v36) :: .row x11.2.2.2.A x11.2.2.2.c 3 1 (ii v37) :: .box x2 27 [(.slice x1.1.A x1.1.n x1.1.c), (.slice x1.2.1.A x1.2.1.n x1.2.1.c), (.slice x1.2.2.1.A x1.2.2.1.n x1.2.2.1.c), (.slice x1.2.2.2.A x1.2.2.2.n x1.2.2.2.c)] :: .box x4 27 [(.slice x3.1.A x3.1.n x3.1.c), (.slice x3.2.1.A x3.2.1.n x3.2.1.c), (.slice x3.2.2.1.A x3.2.2.1.n x3.2.2.1.c), (.slice x3.2.2.2.A x3.2.2.2.n x3.2.2.2.c)] :: .box x8 27 [(.slice A5 n5 d5), (.slice A6 n6 d6), (.slice A7 n7 d7), (.slice A8 n8 d8)] :: .row x1.1.A x1.1.c 3 1 (ii v1) :: .row x1.2.1.A x1.2.1.c 3 1 (ii v2) :: .row x1.2.2.1.A x1.2.2.1.c 3 1 (ii v3) :: .row x1.2.2.2.A x1.2.2.2.c 3 1 (ii v4) :: .row x3.1.A x3.1.c 3 1 (ii v5) :: .row x3.2.1.A x3.2.1.c 3 1 (ii v6) :: .row x3.2.2.1.A x3.2.2.1.c 3 1 (ii v7) :: .row x3.2.2.2.A x3.2.2.2.c 3 1 (ii v8) :: .row A5 d5 3 1 (ii l5) :: .row A6 d6 3 1 (ii l6) :: .row A7 d7 3 1 (ii l7) :: .row A8 d8 3 1 (ii l8) :: F) 13 follows_any rfl ?_
                      refine d_take 0 rfl (q_loadb_agg 7 rfl ag27 sz27 rfl rfl rfl rfl) rfl rfl (by kernel_rfl) (by kernel_rfl) (by kernel_rfl) (fun w h => h) ?_
                      refine d_take 1 rfl (q_loadb_agg 6 rfl ag27 sz27 rfl rfl rfl rfl) rfl rfl (by kernel_rfl) (by kernel_rfl) (by kernel_rfl) (fun w h => h) ?_
                      refine d_one 2 (by kernel_rfl) ?_
                      refine o_do rfl (a_call ok18 rfl rfl rfl rfl (fun w hm => impl_ColoredSame.calls K l5 A5 n5 d5 l6 A6 n6 d6 l7 A7 n7 d7 l8 A8 n8 d8 v5 x3.1.A x3.1.n x3.1.c v6 x3.2.1.A x3.2.1.n x3.2.1.c v7 x3.2.2.1.A x3.2.2.1.n x3.2.2.1.c v8 x3.2.2.2.A x3.2.2.2.n x3.2.2.2.c hm q5 (Rd.row 16 rfl) q6 (Rd.row 17 rfl) q7 (Rd.row 18 rfl) q8 (Rd.row 19 rfl) x3.1.h (Rd.row 12 rfl) x3.2.1.h (Rd.row 13 rfl) x3.2.2.1.h (Rd.row 14 rfl) x3.2.2.2.h (Rd.row 15 rfl) hb9)) rfl rfl (fun x13 w h => h) (fun x13 => ?_)
                      refine d_take 3 rfl (q_move rfl rfl) rfl rfl (by kernel_rfl) (by kernel_rfl) (by kernel_rfl) (fun w h => h) ?_
                      refine d_take_off 4 rfl rfl rfl rfl rfl (var_f c13) rfl (by kernel_rfl) (by kernel_rfl) (by kernel_rfl) (fun w h => h) ?_
                      refine d_take_off 5 rfl rfl rfl rfl rfl (var_f c13) rfl (by kernel_rfl) (by kernel_rfl) (by kernel_rfl) (fun w h => h) ?_
                      refine d_take_off 6 rfl rfl rfl rfl rfl (var_f c13) rfl (by kernel_rfl) (by kernel_rfl) (by kernel_rfl) (fun w h => h) ?_
                      refine d_take_off 7 rfl rfl rfl rfl rfl (var_f c13) rfl (by kernel_rfl) (by kernel_rfl) (by kernel_rfl) (fun w h => h) ?_
                      refine d_take_off 8 rfl rfl rfl rfl rfl (var_f c13) rfl (by kernel_rfl) (by kernel_rfl) (by kernel_rfl) (fun w h => h) ?_
                      refine d_take_off 9 rfl rfl rfl rfl rfl (var_f c13) rfl (by kernel_rfl) (by kernel_rfl) (by kernel_rfl) (fun w h => h) ?_
                      refine d_take_off 10 rfl rfl rfl rfl rfl (var_f c13) rfl (by kernel_rfl) (by kernel_rfl) (by kernel_rfl) (fun w h => h) ?_
                      refine d_take 11 rfl (q_pick_f rfl rfl (var_f c13) rfl) rfl rfl (by kernel_rfl) (by kernel_rfl) (by kernel_rfl) (fun w h => h) ?_
                      refine d_take 12 rfl (q_assign rfl rfl) rfl rfl (by kernel_rfl) (by kernel_rfl) (by kernel_rfl) (fun w h => h) ?_
                      refine d_done (by kernel_rfl) ?_
                      refine j_then ?_
                      refine j_ret ?_
                      cases h
                      exact j_return rfl (ResOf.tmp rfl ResOf.nil) rfl (fun w h => ⟨(), rfl, (h.drop 20)⟩)
                · refine j_true rfl (not_t (var_f c11)) ?_
                  refine j_seq ?_
                  refine j_region ?_
                  refine r_q (q_assign rfl rfl) rfl rfl ?_
                  refine r_nil ?_
                  refine j_then ?_
                  refine j_ret ?_
                  refine j_then_ret ?_
                  refine j_in_ret ?_
                  refine j_then_ret ?_
                  refine j_in_ret ?_
                  refine j_then_ret ?_
                  cases h
                  exact j_return rfl (ResOf.tmp rfl ResOf.nil) rfl (fun w h => ⟨(), rfl, (h.drop 20)⟩)
            · refine j_true rfl (not_t (var_f c6)) ?_
              refine j_exit ?_
              refine j_then_exit ?_
              refine j_in_far (by decide) ?_
              refine j_then_exit ?_
              refine j_in_exit ?_
              refine j_then ?_
              refine j_seq ?_
              obtain ⟨v43, hb12, h⟩ := of_b1 h
              rcases of_if h with ⟨c14, h⟩ | ⟨c14, h⟩
              · obtain ⟨v44, hb13, h⟩ := of_b1 h
                obtain ⟨v45, hb14, h⟩ := of_b1 h
                refine j_draw (.box x10 27 [(.slice x9.1.A x9.1.n x9.1.c), (.slice x9.2.1.A x9.2.1.n x9.2.1.c), (.slice x9.2.2.1.A x9.2.2.1.n x9.2.2.1.c), (.slice x9.2.2.2.A x9.2.2.2.n x9.2.2.2.c)] :: .row x9.1.A x9.1.c 3 1 (ii v16) :: .row x9.2.1.A x9.2.1.c 3 1 (ii v17) :: .row x9.2.2.1.A x9.2.2.1.c 3 1 (ii v18) :: .row x9.2.2.2.A x9.2.2.2.c 3 1 (ii v19) :: .box x8 27 [(.slice x1.1.A x1.1.n x1.1.c), (.slice x1.2.1.A x1.2.1.n x1.2.1.c), (.slice x1.2.2.1.A x1.2.2.1.n x1.2.2.1.c), (.slice x1.2.2.2.A x1.2.2.2.n x1.2.2.2.c)] :: .box x6 27 [(.slice x5.1.A x5.1.n x5.1.c), (.slice x5.2.1.A x5.2.1.n x5.2.1.c), (.slice x5.2.2.1.A x5.2.2.1.n x5.2.2.1.c), (.slice x5.2.2.2.A x5.2.2.2.n x5.2.2.2.c)] :: .row x5.1.A x5.1.c 3 1 (ii v10) :: .row x5.2.1.A x5.2.1.c 3 1 (ii v11) :: .row x5.2.2.1.A x5.2.2.1.c 3 1 (ii v12) :: .row x5.2.2.2.A x5.2.2.2.c 3 1 (ii v13) :: .box x4 27 [(.slice x3.1.A x3.1.n x3.1.c), (.slice x3.2.1.A x3.2.1.n x3.2.1.c), (.slice x3.2.2.1.A x3.2.2.1.n x3.2.2.1.c), (.slice x3.2.2.2.A x3.2.2.2.n x3.2.2.2.c)] :: .row x3.1.A x3.1.c 3 1 (ii v5) :: .row x3.2.1.A x3.2.1.c 3 1 (ii v6) :: .row x3.2.2.1.A x3.2.2.1.c 3 1 (ii v7) :: .row x3.2.2.2.A x3.2.2.2.c 3 1 (ii v8) :: .box x2 27 [(.slice x1.1.A x1.1.n x1.1.c), (.slice x1.2.1.A x1.2.1.n x1.2.1.c), (.slice x1.2.2.1.A x1.2.2.1.n x1.2.2.1.c), (.slice x1.2.2.2.A x1.2.2.2.n x1.2.2.2.c)] :: .row x1.1.A x1.1.c 3 1 (ii v1) :: .row x1.2.1.A x1.2.1.c 3 1 (ii v2) :: .row x1.2.2.1.A x1.2.2.1.c 3 1 (ii v3) :: .row x1.2.2.2.A x1.2.2.2.c 3 1 (ii v4) :: F) 13 follows_any rfl ?_
                refine d_take 0 rfl (q_loadb_agg 5 rfl ag27 sz27 rfl rfl rfl rfl) rfl rfl (by kernel_rfl) (by kernel_rfl) (by kernel_rfl) (fun w h => h) ?_
                refine d_take 1 rfl (q_loadb_agg 11 rfl ag27 sz27 rfl rfl rfl rfl) rfl rfl (by kernel_rfl) (by kernel_rfl) (by kernel_rfl) (fun w h => h) ?_
                refine d_one 2 (by kernel_rfl) ?_
                refine o_do rfl (a_call ok18 rfl rfl rfl rfl (fun w hm => impl_ColoredSame.calls K v1 x1.1.A x1.1.n x1.1.c v2 x1.2.1.A x1.2.1.n x1.2.1.c v3 x1.2.2.1.A x1.2.2.1.n x1.2.2.1.c v4 x1.2.2.2.A x1.2.2.2.n x1.2.2.2.c v5 x3.1.A x3.1.n x3.1.c v6 x3.2.1.A x3.2.1.n x3.2.1.c v7 x3.2.2.1.A x3.2.2.1.n x3.2.2.1.c v8 x3.2.2.2.A x3.2.2.2.n x3.2.2.2.c hm x1.1.h (Rd.row 17 rfl) x1.2.1.h (Rd.row 18 rfl) x1.2.2.1.h (Rd.row 19 rfl) x1.2.2.2.h (Rd.row 20 rfl) x3.1.h (Rd.row 12 rfl) x3.2.1.h (Rd.row 13 rfl) x3.2.2.1.h (Rd.row 14 rfl) x3.2.2.2.h (Rd.row 15 rfl) hb12)) rfl rfl (fun x13 w h => h) (fun x13 => ?_)
                refine d_take 3 rfl (q_move rfl rfl) rfl rfl (by kernel_rfl) (by kernel_rfl) (by kernel_rfl) (fun w h => h) ?_
                refine d_take_on 4 rfl (q_move rfl rfl) rfl rfl rfl rfl c14 rfl (by kernel_rfl) (by kernel_rfl) (by kernel_rfl) (fun w h => h) ?_
                refine d_take_on 5 rfl (q_loadb_agg 11 rfl ag27 sz27 rfl rfl rfl rfl) rfl rfl rfl rfl c14 rfl (by kernel_rfl) (by kernel_rfl) (by kernel_rfl) (fun w h => h) ?_
                refine d_take_on 7 rfl (q_loadb_agg 16 rfl ag27 sz27 rfl rfl rfl rfl) rfl rfl rfl rfl c14 rfl (by kernel_rfl) (by kernel_rfl) (by kernel_rfl) (fun w h => h) ?_
                refine d_one 6 (by kernel_rfl) ?_
                refine o_on rfl (a_call ok19 rfl rfl rfl rfl (fun w hm => impl_CountColor.calls K v5 x3.1.A x3.1.n x3.1.c v6 x3.2.1.A x3.2.1.n x3.2.1.c v7 x3.2.2.1.A x3.2.2.1.n x3.2.2.1.c v8 x3.2.2.2.A x3.2.2.2.n x3.2.2.2.c (2:Int) hm x3.1.h (Rd.row 12 rfl) x3.2.1.h (Rd.row 13 rfl) x3.2.2.1.h (Rd.row 14 rfl) x3.2.2.2.h (Rd.row 15 rfl) hb13)) rfl rfl rfl rfl c14 rfl (fun x14 w h => h) (fun x14 => ?_)
                refine d_one 8 (by kernel_rfl) ?_
                refine o_on rfl (a_call ok19 rfl rfl rfl rfl (fun w hm => impl_CountColor.calls K v1 x1.1.A x1.1.n x1.1.c v2 x1.2.1.A x1.2.1.n x1.2.1.c v3 x1.2.2.1.A x1.2.2.1.n x1.2.2.1.c v4 x1.2.2.2.A x1.2.2.2.n x1.2.2.2.c (2:Int) hm x1.1.h (Rd.row 17 rfl) x1.2.1.h (Rd.row 18 rfl) x1.2.2.1.h (Rd.row 19 rfl) x1.2.2.2.h (Rd.row 20 rfl) hb14)) rfl rfl rfl rfl c14 rfl (fun x15 w h => h) (fun x15 => ?_)
                refine d_take_on 9 rfl (q_sub rfl rfl rfl) rfl rfl rfl rfl c14 rfl (by kernel_rfl) (by kernel_rfl) (by kernel_rfl) (fun w h => h) ?_
                refine d_take_on 10 rfl (q_eql rfl rfl rfl) rfl rfl rfl rfl c14 rfl (by kernel_rfl) (by kernel_rfl) (by kernel_rfl) (fun w h => h) ?_
                refine d_take 11 rfl (q_pick_t rfl rfl c14 rfl) rfl rfl (by kernel_rfl) (by kernel_rfl) (by kernel_rfl) (fun w h => h) ?_
                refine d_take 12 rfl (q_assign rfl rfl) rfl rfl (by kernel_rfl) (by kernel_rfl) (by kernel_rfl) (fun w h => h) ?_
                refine d_done (by kernel_rfl) ?_
                refine j_then ?_
                refine j_ret ?_
                cases h
                exact j_return rfl (ResOf.tmp rfl ResOf.nil) rfl (fun w h => ⟨(), rfl, (h.drop 21)⟩)
              · refine j_draw (.box x10 27 [(.slice x9.1.A x9.1.n x9.1.c), (.slice x9.2.1.A x9.2.1.n x9.2.1.c), (.slice x9.2.2.1.A x9.2.2.1.n x9.2.2.1.c), (.slice x9.2.2.2.A x9.2.2.2.n x9.2.2.2.c)] :: .row x9.1.A x9.1.c 3 1 (ii v16) :: .row x9.2.1.A x9.2.1.c 3 1 (ii v17) :: .row x9.2.2.1.A x9.2.2.1.c 3 1 (ii v18) :: .row x9.2.2.2.A x9.2.2.2.c 3 1 (ii v19) :: .box x8 27 [(.slice x1.1.A x1.1.n x1.1.c), (.slice x1.2.1.A x1.2.1.n x1.2.1.c), (.slice x1.2.2.1.A x1.2.2.1.n x1.2.2.1.c), (.slice x1.2.2.2.A x1.2.2.2.n x1.2.2.2.c)] :: .box x6 27 [(.slice x5.1.A x5.1.n x5.1.c), (.slice x5.2.1.A x5.2.1.n x5.2.1.c), (.slice x5.2.2.1.A x5.2.2.1.n x5.2.2.1.c), (.slice x5.2.2.2.A x5.2.2.2.n x5.2.2.2.c)] :: .row x5.1.A x5.1.c 3 1 (ii v10) :: .row x5.2.1.A x5.2.1.c 3 1 (ii v11) :: .row x5.2.2.1.A x5.2.2.1.c 3 1 (ii v12) :: .row x5.2.2.2.A x5.2.2.2.c 3 1 (ii v13) :: .box x4 27 [(.slice x3.1.A x3.1.n x3.1.c), (.slice x3.2.1.A x3.2.1.n x3.2.1.c), (.slice x3.2.2.1.A x3.2.2.1.n x3.2.2.1.c), (.slice x3.2.2.2.A x3.2.2.2.n x3.2.2.2.c)] :: .row x3.1.A x3.1.c 3 1 (ii v5) :: .row x3.2.1.A x3.2.1.c 3 1 (ii v6) :: .row x3.2.2.1.A x3.2.2.1.c 3 1 (ii v7) :: .row x3.2.2.2.A x3.2.2.2.c 3 1 (ii v8) :: .box x2 27 [(.slice x1.1.A x1.1.n x1.1.c), (.slice x1.2.1.A x1.2.1.n x1.2.1.c), (.slice x1.2.2.1.A x1.2.2.1.n x1.2.2.1.c), (.slice x1.2.2.2.A x1.2.2.2.n x1.2.2.2.c)] :: .row x1.1.A x1.1.c 3 1 (ii v1) :: .row x1.2.1.A x1.2.1.c 3 1 (ii v2) :: .row x1.2.2.1.A x1.2.2.1.c 3 1 (ii v3) :: .row x1.2.2.2.A x1.2.2.2.c 3 1 (ii v4) :: F) 13 follows_any rfl ?_
                refine d_take 0 rfl (q_loadb_agg 5 rfl ag27 sz27 rfl rfl rfl rfl) rfl rfl (by kernel_rfl) (by kernel_rfl) (by kernel_rfl) (fun w h => h) ?_
                refine d_take 1 rfl (q_loadb_agg 11 rfl ag27 sz27 rfl rfl rfl rfl) rfl rfl (by kernel_rfl) (by kernel_rfl) (by kernel_rfl) (fun w h => h) ?_
                refine d_one 2 (by kernel_rfl) ?_
                refine o_do rfl (a_call ok18 rfl rfl rfl rfl (fun w hm => impl_ColoredSame.calls K v1 x1.1.A x1.1.n x1.1.c v2 x1.2.1.A x1.2.1.n x1.2.1.c v3 x1.2.2.1.A x1.2.2.1.n x1.2.2.1.c v4 x1.2.2.2.A x1.2.2.2.n x1.2.2.2.c v5 x3.1.A x3.1.n x3.1.c v6 x3.2.1.A x3.2.1.n x3.2.1.c v7 x3.2.2.1.A x3.2.2.1.n x3.2.2.1.c v8 x3.2.2.2.A x3.2.2.2.n x3.2.2.2.c hm x1.1.h (Rd.row 17 rfl) x1.2.1.h (Rd.row 18 rfl) x1.2.2.1.h (Rd.row 19 rfl) x1.2.2.2.h (Rd.row 20 rfl) x3.1.h (Rd.row 12 rfl) x3.2.1.h (Rd.row 13 rfl) x3.2.2.1.h (Rd.row 14 rfl) x3.2.2.2.h (Rd.row 15 rfl) hb12)) rfl rfl (fun x13 w h => h) (fun x13 => ?_)
                refine d_take 3 rfl (q_move rfl rfl) rfl rfl (by kernel_rfl) (by kernel_rfl) (by kernel_rfl) (fun w h => h) ?_
                refine d_take_off 4 rfl rfl rfl rfl rfl (var_f c14) rfl (by kernel_rfl) (by kernel_rfl) (by kernel_rfl) (fun w h => h) ?_
                refine d_take_off 5 rfl rfl rfl rfl rfl (var_f c14) rfl (by kernel_rfl) (by kernel_rfl) (by kernel_rfl) (fun w h => h) ?_
                refine d_take_off 6 rfl rfl rfl rfl rfl (var_f c14) rfl (by kernel_rfl) (by kernel_rfl) (by kernel_rfl) (fun w h => h) ?_
                refine d_take_off 7 rfl rfl rfl rfl rfl (var_f c14) rfl (by kernel_rfl) (by kernel_rfl) (by kernel_rfl) (fun w h => h) ?_
                refine d_take_off 8 rfl rfl rfl rfl rfl (var_f c14) rfl (by kernel_rfl) (by kernel_rfl) (by kernel_rfl) (fun w h => h) ?_
                refine d_take_off 9 rfl rfl rfl rfl rfl (var_f c14) rfl (by kernel_rfl) (by kernel_rfl) (by kernel_rfl) (fun w h => h) ?_
                refine d_take_off 10 rfl rfl rfl rfl rfl (var_f c14) rfl (by kernel_rfl) (by kernel_rfl) (by kernel_rfl) (fun w h => h) ?_
                refine d_take 11 rfl (q_pick_f rfl rfl (var_f c14) rfl) rfl rfl (by kernel_rfl) (by kernel_rfl) (by kernel_rfl) (fun w h => h) ?_
                refine d_take 12 rfl (q_assign rfl rfl) rfl rfl (by kernel_rfl) (by kernel_rfl) (by kernel_rfl) (fun w h => h) ?_
                refine d_done (by kernel_rfl) ?_
                refine j_then ?_
                refine j_ret ?_
                cases h
                exact j_return rfl (ResOf.tmp rfl ResOf.nil) rfl (fun w h => ⟨(), rfl, (h.drop 21)⟩)
          · refine j_true rfl (not_t (var_f c5)) ?_
            refine j_seq ?_
            refine j_region ?_
            refine r_q (q_assign rfl rfl) rfl rfl ?_
            refine r_nil ?_
            refine j_then ?_
            refine j_ret ?_
            refine j_then_ret ?_
            refine j_in_ret ?_
            refine j_then_ret ?_
            refine j_in_ret ?_
            refine j_then_ret ?_
            cases h
            exact j_return rfl (ResOf.tmp rfl ResOf.nil) rfl (fun w h => ⟨(), rfl, (h.drop 21)⟩)
        · refine j_true rfl (not_t (var_f c4)) ?_
          refine j_seq ?_
          refine j_region ?_
          refine r_q (q_loadb_agg 5 rfl ag27 sz27 rfl rfl rfl rfl) rfl rfl ?_
          refine r_q (q_loadb_agg 0 rfl ag27 sz27 rfl rfl rfl rfl) rfl rfl ?_
          obtain ⟨v46, hb15, h⟩ := of_b1 h
          refine r_do (a_call ok18 rfl rfl rfl rfl (fun w hm => impl_ColoredSame.calls K v5 x3.1.A x3.1.n x3.1.c v6 x3.2.1.A x3.2.1.n x3.2.1.c v7 x3.2.2.1.A x3.2.2.1.n x3.2.2.1.c v8 x3.2.2.2.A x3.2.2.2.n x3.2.2.2.c v10 x5.1.A x5.1.n x5.1.c v11 x5.2.1.A x5.2.1.n x5.2.1.c v12 x5.2.2.1.A x5.2.2.1.n x5.2.2.1.c v13 x5.2.2.2.A x5.2.2.2.n x5.2.2.2.c hm x3.1.h (Rd.row 6 rfl) x3.2.1.h (Rd.row 7 rfl) x3.2.2.1.h (Rd.row 8 rfl) x3.2.2.2.h (Rd.row 9 rfl) x5.1.h (Rd.row 1 rfl) x5.2.1.h (Rd.row 2 rfl) x5.2.2.1.h (Rd.row 3 rfl) x5.2.2.2.h (Rd.row 4 rfl) hb15)) rfl rfl (fun x16 => ?_)
          refine r_q (q_move rfl rfl) rfl rfl ?_
          rcases of_if h with ⟨c15, h⟩ | ⟨c15, h⟩
          · refine r_qon (q_move rfl rfl) rfl rfl rfl rfl c15 rfl ?_
            refine r_qon (q_move rfl rfl) rfl rfl rfl rfl c15 rfl ?_
            refine r_qon (q_beql un4 rfl rfl rfl) rfl rfl rfl rfl c15 rfl ?_
            refine r_q (q_pick_t rfl rfl c15 rfl) rfl rfl ?_
            refine r_q (q_assign rfl rfl) rfl rfl ?_
            refine r_nil ?_
            refine j_then ?_
            refine j_ret ?_
            refine j_then_ret ?_
            cases h
            exact j_return rfl (ResOf.tmp rfl ResOf.nil) rfl (fun w h => ⟨(), rfl, (h.drop 15)⟩)
          · refine r_off rfl rfl rfl rfl (var_f c15) rfl ?_
            refine r_off rfl rfl rfl rfl (var_f c15) rfl ?_
            refine r_off rfl rfl rfl rfl (var_f c15) rfl ?_
            refine r_q (q_pick_f rfl rfl (var_f c15) rfl) rfl rfl ?_
            refine r_q (q_assign rfl rfl) rfl rfl ?_
            refine r_nil ?_
            refine j_then ?_
            refine j_ret ?_
            refine j_then_ret ?_
            cases h
            exact j_return rfl (ResOf.tmp rfl ResOf.nil) rfl (fun w h => ⟨(), rfl, (h.drop 15)⟩)
      · refine r_off rfl rfl rfl rfl (bne_t c3) rfl ?_
        refine r_off rfl rfl rfl rfl (bne_t c3) rfl ?_
        refine r_q (q_pick_t rfl rfl (bne_t c3) rfl) rfl rfl ?_
        refine r_nil ?_
        refine j_then ?_
        refine j_true rfl rfl ?_
        refine j_seq ?_
        refine j_region ?_
        refine r_q (q_loadb_agg 5 rfl ag27 sz27 rfl rfl rfl rfl) rfl rfl ?_
        refine r_q (q_loadb_agg 0 rfl ag27 sz27 rfl rfl rfl rfl) rfl rfl ?_
        obtain ⟨v47, hb16, h⟩ := of_b1 h
        refine r_do (a_call ok18 rfl rfl rfl rfl (fun w hm => impl_ColoredSame.calls K v5 x3.1.A x3.1.n x3.1.c v6 x3.2.1.A x3.2.1.n x3.2.1.c v7 x3.2.2.1.A x3.2.2.1.n x3.2.2.1.c v8 x3.2.2.2.A x3.2.2.2.n x3.2.2.2.c v10 x5.1.A x5.1.n x5.1.c v11 x5.2.1.A x5.2.1.n x5.2.1.c v12 x5.2.2.1.A x5.2.2.1.n x5.2.2.1.c v13 x5.2.2.2.A x5.2.2.2.n x5.2.2.2.c hm x3.1.h (Rd.row 6 rfl) x3.2.1.h (Rd.row 7 rfl) x3.2.2.1.h (Rd.row 8 rfl) x3.2.2.2.h (Rd.row 9 rfl) x5.1.h (Rd.row 1 rfl) x5.2.1.h (Rd.row 2 rfl) x5.2.2.1.h (Rd.row 3 rfl) x5.2.2.2.h (Rd.row 4 rfl) hb16)) rfl rfl (fun x16 => ?_)
        refine r_q (q_move rfl rfl) rfl rfl ?_
        rcases of_if h with ⟨c16, h⟩ | ⟨c16, h⟩
        · refine r_qon (q_move rfl rfl) rfl rfl rfl rfl c16 rfl ?_
          refine r_qon (q_move rfl rfl) rfl rfl rfl rfl c16 rfl ?_
          refine r_qon (q_beql un4 rfl rfl rfl) rfl rfl rfl rfl c16 rfl ?_
          refine r_q (q_pick_t rfl rfl c16 rfl) rfl rfl ?_
          refine r_q (q_assign rfl rfl) rfl rfl ?_
          refine r_nil ?_
          refine j_then ?_
          refine j_ret ?_
          refine j_then_ret ?_
          cases h
          exact j_return rfl (ResOf.tmp rfl ResOf.nil) rfl (fun w h => ⟨(), rfl, (h.drop 15)⟩)
        · refine r_off rfl rfl rfl rfl (var_f c16) rfl ?_
          refine r_off rfl rfl rfl rfl (var_f c16) rfl ?_
          refine r_off rfl rfl rfl rfl (var_f c16) rfl ?_
          refine r_q (q_pick_f rfl rfl (var_f c16) rfl) rfl rfl ?_
          refine r_q (q_assign rfl rfl) rfl rfl ?_
          refine r_nil ?_
          refine j_then ?_
          refine j_ret ?_
          refine j_then_ret ?_
          cases h
          exact j_return rfl (ResOf.tmp rfl ResOf.nil) rfl (fun w h => ⟨(), rfl, (h.drop 15)⟩)
    · refine r_off rfl rfl rfl rfl (not_t (var_f c2)) rfl ?_
      refine r_off rfl rfl rfl rfl (not_t (var_f c2)) rfl ?_
      refine r_off rfl rfl rfl rfl (not_t (var_f c2)) rfl ?_
      refine r_q (q_pick_t rfl rfl (not_t (var_f c2)) rfl) rfl rfl ?_
      refine r_q (q_move rfl rfl) rfl rfl ?_
      refine r_off rfl rfl rfl rfl rfl rfl ?_
      refine r_off rfl rfl rfl rfl rfl rfl ?_
      refine r_q (q_pick_t rfl rfl rfl rfl) rfl rfl ?_
      refine r_nil ?_
      refine j_then ?_
      refine j_true rfl rfl ?_
      refine j_seq ?_
      refine j_region ?_
      refine r_q (q_loadb_agg 5 rfl ag27 sz27 rfl rfl rfl rfl) rfl rfl ?_
      refine r_q (q_loadb_agg 0 rfl ag27 sz27 rfl rfl rfl rfl) rfl rfl ?_
      obtain ⟨v48, hb17, h⟩ := of_b1 h
      refine r_do (a_call ok18 rfl rfl rfl rfl (fun w hm => impl_ColoredSame.calls K v5 x3.1.A x3.1.n x3.1.c v6 x3.2.1.A x3.2.1.n x3.2.1.c v7 x3.2.2.1.A x3.2.2.1.n x3.2.2.1.c v8 x3.2.2.2.A x3.2.2.2.n x3.2.2.2.c v10 x5.1.A x5.1.n x5.1.c v11 x5.2.1.A x5.2.1.n x5.2.1.c v12 x5.2.2.1.A x5.2.2.1.n x5.2.2.1.c v13 x5.2.2.2.A x5.2.2.2.n x5.2.2.2.c hm x3.1.h (Rd.row 6 rfl) x3.2.1.h (Rd.row 7 rfl) x3.2.2.1.h (Rd.row 8 rfl) x3.2.2.2.h (Rd.row 9 rfl) x5.1.h (Rd.row 1 rfl) x5.2.1.h (Rd.row 2 rfl) x5.2.2.1.h (Rd.row 3 rfl) x5.2.2.2.h (Rd.row 4 rfl) hb17)) rfl rfl (fun x16 => ?_)
      refine r_q (q_move rfl rfl) rfl rfl ?_
      rcases of_if h with ⟨c17, h⟩ | ⟨c17, h⟩
      · refine r_qon (q_move rfl rfl) rfl rfl rfl rfl c17 rfl ?_
        refine r_qon (q_move rfl rfl) rfl rfl rfl rfl c17 rfl ?_
        refine r_qon (q_beql un4 rfl rfl rfl) rfl rfl rfl rfl c17 rfl ?_
        refine r_q (q_pick_t rfl rfl c17 rfl) rfl rfl ?_
        refine r_q (q_assign rfl rfl) rfl rfl ?_
        refine r_nil ?_
        refine j_then ?_
        refine j_ret ?_
        refine j_then_ret ?_
        cases h
        exact j_return rfl (ResOf.tmp rfl ResOf.nil) rfl (fun w h => ⟨(), rfl, (h.drop 15)⟩)
      · refine r_off rfl rfl rfl rfl (var_f c17) rfl ?_
        refine r_off rfl rfl rfl rfl (var_f c17) rfl ?_
        refine r_off rfl rfl rfl rfl (var_f c17) rfl ?_
        refine r_q (q_pick_f rfl rfl (var_f c17) rfl) rfl rfl ?_
        refine r_q (q_assign rfl rfl) rfl rfl ?_
        refine r_nil ?_
        refine j_then ?_
        refine j_ret ?_
        refine j_then_ret ?_
        cases h
        exact j_return rfl (ResOf.tmp rfl ResOf.nil) rfl (fun w h => ⟨(), rfl, (h.drop 15)⟩)

end Go.Proofs.Ytcdcikmphonkfaa.F
