/- The program computes these pure functions, printed by the generator of wip/gen. -/
import Derived.Test.YtcdcikmphonkfaaFa
import Derived.Test.YtcdcikmphonkfaaFi
import Derived.Test.YtcdcikmphonkfaaFb
import Derived.Test.YtcdcikmphonkfaaC0
import Derived.Test.YtcdcikmphonkfaaC1
import Derived.Test.YtcdcikmphonkfaaC2
import Derived.Test.YtcdcikmphonkfaaC3
import Derived.Test.YtcdcikmphonkfaaC4
import Derived.Test.YtcdcikmphonkfaaC5
import Derived.Test.YtcdcikmphonkfaaC6
import Derived.Test.YtcdcikmphonkfaaC7
import Derived.Test.YtcdcikmphonkfaaC8
import Derived.Test.YtcdcikmphonkfaaC10
import Derived.Test.YtcdcikmphonkfaaC18
import Derived.Test.YtcdcikmphonkfaaC22
namespace Go.Proofs.Ytcdcikmphonkfaa.F
open Go Go.RowKit Go.Proofs.Ytcdcikmphonkfaa.S
set_option linter.unusedVariables false
set_option maxRecDepth 100000
theorem laws_FnExactMarkStep.calls (K : Nat) (a0_0 : List Int) (a0_0_A : Option Addr) (a0_0_n a0_0_c : Nat) (a0_1 : List Int) (a0_1_A : Option Addr) (a0_1_n a0_1_c : Nat) (a0_2 : List Int) (a0_2_A : Option Addr) (a0_2_n a0_2_c : Nat) (a0_3 : List Int) (a0_3_A : Option Addr) (a0_3_n a0_3_c : Nat) {w0 w : World} {F : List Res} {r1 : Bool} (hm : Mem w0 (F) w) (a0_0_h : a0_0.length = a0_0_n) (a0_0_R : Rd w0 F a0_0_A (ii a0_0)) (a0_1_h : a0_1.length = a0_1_n) (a0_1_R : Rd w0 F a0_1_A (ii a0_1)) (a0_2_h : a0_2.length = a0_2_n) (a0_2_R : Rd w0 F a0_2_A (ii a0_2)) (a0_3_h : a0_3.length = a0_3_n) (a0_3_R : Rd w0 F a0_3_A (ii a0_3)) (h : laws_FnExactMarkStep.f K a0_0 a0_1 a0_2 a0_3 = some r1) :
    Calls Try.prog 4 (List.toArray [.agg (List.toArray [.slice a0_0_A a0_0_n a0_0_c, .slice a0_1_A a0_1_n a0_1_c, .slice a0_2_A a0_2_n a0_2_c, .slice a0_3_A a0_3_n a0_3_c])]) w fun e w' => ∃ x : Unit, e = .returned (.bool r1) ∧ Mem w0 (F) w' := by
  unfold laws_FnExactMarkStep.f at h
  refine calls_of_J (n := 117) Try.func4 rfl rfl rfl hm ?_
  refine j_seq ?_
  refine j_region ?_
  refine r_do (a_box rfl rfl) rfl rfl (fun x1 => ?_)
  refine r_q (q_assign rfl rfl) rfl rfl ?_
  refine r_nil ?_
  refine j_then ?_
  refine j_seq ?_
  refine j_region ?_
  refine r_q (q_assign rfl rfl) rfl rfl ?_
  refine r_nil ?_
  refine j_then ?_
  refine j_seq ?_
  refine j_region ?_
  refine r_q (q_loadb_agg 0 rfl ag37 sz37 rfl rfl rfl rfl) rfl rfl ?_
  refine r_q (q_move rfl rfl) rfl rfl ?_
  obtain ⟨v1, hb1, h⟩ := of_b1 h
  refine r_do (a_call ok20 rfl rfl rfl rfl (fun w hm => laws_szColored.calls K a0_0 a0_0_A a0_0_n a0_0_c a0_1 a0_1_A a0_1_n a0_1_c a0_2 a0_2_A a0_2_n a0_2_c a0_3 a0_3_A a0_3_n a0_3_c (1048576:Int) hm a0_0_h (Rd.drop 1 a0_0_R) a0_1_h (Rd.drop 1 a0_1_R) a0_2_h (Rd.drop 1 a0_2_R) a0_3_h (Rd.drop 1 a0_3_R) hb1)) rfl rfl (fun x2 => ?_)
  refine r_q (q_assign rfl rfl) rfl rfl ?_
  refine r_nil ?_
  refine j_then ?_
  refine j_seq ?_
  refine j_seq ?_
  refine j_region ?_
  refine r_q (q_move rfl rfl) rfl rfl ?_
  refine r_q (q_lss rfl rfl rfl) rfl rfl ?_
  refine r_nil ?_
  refine j_then ?_
  rcases of_if h with ⟨c1, h⟩ | ⟨c1, h⟩
  · refine j_true rfl (decide_eq_true c1) ?_
    refine j_seq ?_
    refine j_region ?_
    refine r_q (q_assign rfl rfl) rfl rfl ?_
    refine r_nil ?_
    refine j_then ?_
    refine j_ret ?_
    refine j_then_ret ?_
    cases h
    exact j_return rfl (ResOf.tmp rfl ResOf.nil) rfl (fun w h => ⟨(), rfl, h.tail⟩)
  · refine j_false rfl (decide_eq_false c1) ?_
    refine j_skip ?_
    refine j_then ?_
    refine j_seq ?_
    refine j_region ?_
    refine r_q (q_loadb_agg 0 rfl ag37 sz37 rfl rfl rfl rfl) rfl rfl ?_
    obtain ⟨v2, v3, v4, v5, hb2, h⟩ := of_b4 h
    refine r_do (a_call ok22 rfl rfl rfl rfl (fun w hm => laws_toColored.calls K a0_0 a0_0_A a0_0_n a0_0_c a0_1 a0_1_A a0_1_n a0_1_c a0_2 a0_2_A a0_2_n a0_2_c a0_3 a0_3_A a0_3_n a0_3_c hm a0_0_h (Rd.drop 1 a0_0_R) a0_1_h (Rd.drop 1 a0_1_R) a0_2_h (Rd.drop 1 a0_2_R) a0_3_h (Rd.drop 1 a0_3_R) hb2)) rfl rfl (fun x3 => ?_)
    obtain ⟨v6, v7, v8, v9, v10, v11, hb3, h⟩ := of_b6 h
    refine r_do (a_call ok21 rfl rfl rfl rfl (fun w hm => spec_MarkStep.calls K v2 x3.1.A x3.1.n x3.1.c v3 x3.2.1.A x3.2.1.n x3.2.1.c v4 x3.2.2.1.A x3.2.2.1.n x3.2.2.1.c v5 x3.2.2.2.A x3.2.2.2.n x3.2.2.2.c hm x3.1.h (Rd.row 0 rfl) x3.2.1.h (Rd.row 1 rfl) x3.2.2.1.h (Rd.row 2 rfl) x3.2.2.2.h (Rd.row 3 rfl) hb3)) rfl rfl (fun x4 => ?_)
    refine r_q (q_move rfl rfl) rfl rfl ?_
    refine r_q (q_extract rfl rfl rfl) rfl rfl ?_
    refine r_q (q_extract rfl rfl rfl) rfl rfl ?_
    refine r_q (q_extract rfl rfl rfl) rfl rfl ?_
    refine r_do (a_alloc zr27 rfl) rfl rfl (fun x5 => ?_)
    refine r_do (a_storeb 0 rfl sz27 rfl rfl rfl rfl (Nat.le_of_ble_eq_true rfl) rfl) rfl rfl (fun _ => ?_)
    refine j_b0 [(.slice x4.1.A x4.1.n x4.1.c), (.slice x4.2.1.A x4.2.1.n x4.2.1.c), (.slice x4.2.2.1.A x4.2.2.1.n x4.2.2.1.c), (.slice x4.2.2.2.A x4.2.2.2.n x4.2.2.2.c)] rfl ?_
    refine r_q (q_assign rfl rfl) rfl rfl ?_
    refine r_q (q_assign rfl rfl) rfl rfl ?_
    refine r_nil ?_
    refine j_then ?_
    refine j_seq ?_
    refine j_region ?_
    refine r_q (q_loadb_agg 9 rfl ag37 sz37 rfl rfl rfl rfl) rfl rfl ?_
    obtain ⟨v12, v13, v14, v15, hb4, h⟩ := of_b4 h
    refine r_do (a_call ok22 rfl rfl rfl rfl (fun w hm => laws_toColored.calls K a0_0 a0_0_A a0_0_n a0_0_c a0_1 a0_1_A a0_1_n a0_1_c a0_2 a0_2_A a0_2_n a0_2_c a0_3 a0_3_A a0_3_n a0_3_c hm a0_0_h (Rd.drop 10 a0_0_R) a0_1_h (Rd.drop 10 a0_1_R) a0_2_h (Rd.drop 10 a0_2_R) a0_3_h (Rd.drop 10 a0_3_R) hb4)) rfl rfl (fun x6 => ?_)
    refine r_do (a_alloc zr27 rfl) rfl rfl (fun x7 => ?_)
    refine r_do (a_storeb 0 rfl sz27 rfl rfl rfl rfl (Nat.le_of_ble_eq_true rfl) rfl) rfl rfl (fun _ => ?_)
    refine j_b0 [(.slice x6.1.A x6.1.n x6.1.c), (.slice x6.2.1.A x6.2.1.n x6.2.1.c), (.slice x6.2.2.1.A x6.2.2.1.n x6.2.2.1.c), (.slice x6.2.2.2.A x6.2.2.2.n x6.2.2.2.c)] rfl ?_
    refine r_nil ?_
    refine j_then ?_
    refine j_seq ?_
    refine j_region ?_
    refine r_q (q_loadb_agg 0 rfl ag27 sz27 rfl rfl rfl rfl) rfl rfl ?_
    obtain ⟨v16, v17, v18, v19, v20, v21, hb5, h⟩ := of_b6 h
    refine r_do (a_call ok23 rfl rfl rfl rfl (fun w hm => impl_MarkStep.calls K v12 x6.1.A x6.1.n x6.1.c v13 x6.2.1.A x6.2.1.n x6.2.1.c v14 x6.2.2.1.A x6.2.2.1.n x6.2.2.1.c v15 x6.2.2.2.A x6.2.2.2.n x6.2.2.2.c hm x6.1.h (Rd.row 1 rfl) x6.2.1.h (Rd.row 2 rfl) x6.2.2.1.h (Rd.row 3 rfl) x6.2.2.2.h (Rd.row 4 rfl) hb5)) rfl rfl (fun x8 => ?_)
    refine r_q (q_move rfl rfl) rfl rfl ?_
    refine r_q (q_extract rfl rfl rfl) rfl rfl ?_
    refine r_q (q_extract rfl rfl rfl) rfl rfl ?_
    refine r_q (q_extract rfl rfl rfl) rfl rfl ?_
    refine r_do (a_alloc zr27 rfl) rfl rfl (fun x9 => ?_)
    refine r_do (a_storeb 0 rfl sz27 rfl rfl rfl rfl (Nat.le_of_ble_eq_true rfl) rfl) rfl rfl (fun _ => ?_)
    refine j_b0 [(.slice x8.1.A x8.1.n x8.1.c), (.slice x8.2.1.A x8.2.1.n x8.2.1.c), (.slice x8.2.2.1.A x8.2.2.1.n x8.2.2.1.c), (.slice x8.2.2.2.A x8.2.2.2.n x8.2.2.2.c)] rfl ?_
    refine r_q (q_assign rfl rfl) rfl rfl ?_
    refine r_q (q_assign rfl rfl) rfl rfl ?_
    refine r_nil ?_
    refine j_then ?_
    refine j_seq ?_
    refine j_seq ?_
    refine j_region ?_
    refine r_q (q_loadb_agg 0 rfl ag27 sz27 rfl rfl rfl rfl) rfl rfl ?_
    refine r_q (q_loadb_agg 10 rfl ag27 sz27 rfl rfl rfl rfl) rfl rfl ?_
    obtain ⟨v22, hb6, h⟩ := of_b1 h
    refine r_do (a_call ok24 rfl rfl rfl rfl (fun w hm => laws_eqColored.calls K v16 x8.1.A x8.1.n x8.1.c v17 x8.2.1.A x8.2.1.n x8.2.1.c v18 x8.2.2.1.A x8.2.2.1.n x8.2.2.1.c v19 x8.2.2.2.A x8.2.2.2.n x8.2.2.2.c v6 x4.1.A x4.1.n x4.1.c v7 x4.2.1.A x4.2.1.n x4.2.1.c v8 x4.2.2.1.A x4.2.2.1.n x4.2.2.1.c v9 x4.2.2.2.A x4.2.2.2.n x4.2.2.2.c hm x8.1.h (Rd.row 1 rfl) x8.2.1.h (Rd.row 2 rfl) x8.2.2.1.h (Rd.row 3 rfl) x8.2.2.2.h (Rd.row 4 rfl) x4.1.h (Rd.row 11 rfl) x4.2.1.h (Rd.row 12 rfl) x4.2.2.1.h (Rd.row 13 rfl) x4.2.2.2.h (Rd.row 14 rfl) hb6)) rfl rfl (fun x10 => ?_)
    refine r_q (q_not rfl rfl) rfl rfl ?_
    refine r_q (q_move rfl rfl) rfl rfl ?_
    rcases of_if h with ⟨c2, h⟩ | ⟨c2, h⟩
    · refine r_qon (q_move rfl rfl) rfl rfl rfl rfl (not_f c2) rfl ?_
      refine r_qon (q_move rfl rfl) rfl rfl rfl rfl (not_f c2) rfl ?_
      refine r_qon (q_bneq un4 rfl rfl rfl) rfl rfl rfl rfl (not_f c2) rfl ?_
      refine r_q (q_pick_f rfl rfl (not_f c2) rfl) rfl rfl ?_
      refine r_q (q_move rfl rfl) rfl rfl ?_
      rcases of_if h with ⟨c3, h⟩ | ⟨c3, h⟩
      · refine r_qon (q_move rfl rfl) rfl rfl rfl rfl (bne_f c3) rfl ?_
        refine r_qon (q_move rfl rfl) rfl rfl rfl rfl (bne_f c3) rfl ?_
        refine r_qon (q_bneq un4 rfl rfl rfl) rfl rfl rfl rfl (bne_f c3) rfl ?_
        refine r_q (q_pick_f rfl rfl (bne_f c3) rfl) rfl rfl ?_
        refine r_nil ?_
        refine j_then ?_
        rcases of_if h with ⟨c4, h⟩ | ⟨c4, h⟩
        · refine j_false rfl (bne_f c4) ?_
          refine j_skip ?_
          refine j_then ?_
          refine j_seq ?_
          refine j_seq ?_
          obtain ⟨v23, v24, v25, v26, hb7, h⟩ := of_b4 h
          obtain ⟨v27, hb8, h⟩ := of_b1 h
          refine j_draw (.box x9 27 [(.slice x8.1.A x8.1.n x8.1.c), (.slice x8.2.1.A x8.2.1.n x8.2.1.c), (.slice x8.2.2.1.A x8.2.2.1.n x8.2.2.1.c), (.slice x8.2.2.2.A x8.2.2.2.n x8.2.2.2.c)] :: .row x8.1.A x8.1.c 3 1 (ii v16) :: .row x8.2.1.A x8.2.1.c 3 1 (ii v17) :: .row x8.2.2.1.A x8.2.2.1.c 3 1 (ii v18) :: .row x8.2.2.2.A x8.2.2.2.c 3 1 (ii v19) :: .box x7 27 [(.slice x6.1.A x6.1.n x6.1.c), (.slice x6.2.1.A x6.2.1.n x6.2.1.c), (.slice x6.2.2.1.A x6.2.2.1.n x6.2.2.1.c), (.slice x6.2.2.2.A x6.2.2.2.n x6.2.2.2.c)] :: .row x6.1.A x6.1.c 3 1 (ii v12) :: .row x6.2.1.A x6.2.1.c 3 1 (ii v13) :: .row x6.2.2.1.A x6.2.2.1.c 3 1 (ii v14) :: .row x6.2.2.2.A x6.2.2.2.c 3 1 (ii v15) :: .box x5 27 [(.slice x4.1.A x4.1.n x4.1.c), (.slice x4.2.1.A x4.2.1.n x4.2.1.c), (.slice x4.2.2.1.A x4.2.2.1.n x4.2.2.1.c), (.slice x4.2.2.2.A x4.2.2.2.n x4.2.2.2.c)] :: .row x4.1.A x4.1.c 3 1 (ii v6) :: .row x4.2.1.A x4.2.1.c 3 1 (ii v7) :: .row x4.2.2.1.A x4.2.2.1.c 3 1 (ii v8) :: .row x4.2.2.2.A x4.2.2.2.c 3 1 (ii v9) :: .row x3.1.A x3.1.c 3 1 (ii v2) :: .row x3.2.1.A x3.2.1.c 3 1 (ii v3) :: .row x3.2.2.1.A x3.2.2.1.c 3 1 (ii v4) :: .row x3.2.2.2.A x3.2.2.2.c 3 1 (ii v5) :: .box x1 37 [(.slice a0_0_A a0_0_n a0_0_c), (.slice a0_1_A a0_1_n a0_1_c), (.slice a0_2_A a0_2_n a0_2_c), (.slice a0_3_A a0_3_n a0_3_c)] :: F) 5 follows_any rfl ?_
          refine d_take 0 rfl (q_loadb_agg 5 rfl ag27 sz27 rfl rfl rfl rfl) rfl rfl (by kernel_rfl) (by kernel_rfl) (by kernel_rfl) (fun w h => h) ?_
          refine d_take 1 rfl (q_loadb_agg 19 rfl ag37 sz37 rfl rfl rfl rfl) rfl rfl (by kernel_rfl) (by kernel_rfl) (by kernel_rfl) (fun w h => h) ?_
          refine d_one 2 (by kernel_rfl) ?_
          refine o_do rfl (a_call ok22 rfl rfl rfl rfl (fun w hm => laws_toColored.calls K a0_0 a0_0_A a0_0_n a0_0_c a0_1 a0_1_A a0_1_n a0_1_c a0_2 a0_2_A a0_2_n a0_2_c a0_3 a0_3_A a0_3_n a0_3_c hm a0_0_h (Rd.drop 20 a0_0_R) a0_1_h (Rd.drop 20 a0_1_R) a0_2_h (Rd.drop 20 a0_2_R) a0_3_h (Rd.drop 20 a0_3_R) hb7)) rfl rfl (fun x11 w h => (h.drop 4)) (fun x11 => ?_)
          refine d_one 3 (by kernel_rfl) ?_
          refine o_do rfl (a_call ok24 rfl rfl rfl rfl (fun w hm => laws_eqColored.calls K v12 x6.1.A x6.1.n x6.1.c v13 x6.2.1.A x6.2.1.n x6.2.1.c v14 x6.2.2.1.A x6.2.2.1.n x6.2.2.1.c v15 x6.2.2.2.A x6.2.2.2.n x6.2.2.2.c v23 x11.1.A x11.1.n x11.1.c v24 x11.2.1.A x11.2.1.n x11.2.1.c v25 x11.2.2.1.A x11.2.2.1.n x11.2.2.1.c v26 x11.2.2.2.A x11.2.2.2.n x11.2.2.2.c hm x6.1.h (Rd.row 10 rfl) x6.2.1.h (Rd.row 11 rfl) x6.2.2.1.h (Rd.row 12 rfl) x6.2.2.2.h (Rd.row 13 rfl) x11.1.h (Rd.row 0 rfl) x11.2.1.h (Rd.row 1 rfl) x11.2.2.1.h (Rd.row 2 rfl) x11.2.2.2.h (Rd.row 3 rfl) hb8)) rfl rfl (fun x12 w h => (h.drop 4)) (fun x12 => ?_)
          refine d_take 4 rfl (q_not rfl rfl) rfl rfl (by kernel_rfl) (by kernel_rfl) (by kernel_rfl) (fun w h => (h.drop 4)) ?_
          refine d_done (by kernel_rfl) ?_
          refine j_then ?_
          rcases of_if h with ⟨c5, h⟩ | ⟨c5, h⟩
          · refine j_false rfl (not_f c5) ?_
            refine j_skip ?_
            refine j_then ?_
            refine j_seq ?_
            refine j_region ?_
            refine r_q (q_assign rfl rfl) rfl rfl ?_
            refine r_nil ?_
            refine j_then ?_
            refine j_seq ?_
            refine j_region ?_
            refine r_q (q_loadb_agg 9 rfl ag27 sz27 rfl rfl rfl rfl) rfl rfl ?_
            refine r_q (q_move rfl rfl) rfl rfl ?_
            obtain ⟨v28, v29, v30, v31, v32, hb9, h⟩ := of_b5 h
            refine j_rs (.row x6.1.A x6.1.c 3 1 (ii v12) :: .row x6.2.1.A x6.2.1.c 3 1 (ii v13) :: .row x6.2.2.1.A x6.2.2.1.c 3 1 (ii v14) :: .row x6.2.2.2.A x6.2.2.2.c 3 1 (ii v15) :: .row x11.1.A x11.1.c 3 1 (ii v23) :: .row x11.2.1.A x11.2.1.c 3 1 (ii v24) :: .row x11.2.2.1.A x11.2.2.1.c 3 1 (ii v25) :: .row x11.2.2.2.A x11.2.2.2.c 3 1 (ii v26) :: .box x9 27 [(.slice x8.1.A x8.1.n x8.1.c), (.slice x8.2.1.A x8.2.1.n x8.2.1.c), (.slice x8.2.2.1.A x8.2.2.1.n x8.2.2.1.c), (.slice x8.2.2.2.A x8.2.2.2.n x8.2.2.2.c)] :: .row x8.1.A x8.1.c 3 1 (ii v16) :: .row x8.2.1.A x8.2.1.c 3 1 (ii v17) :: .row x8.2.2.1.A x8.2.2.1.c 3 1 (ii v18) :: .row x8.2.2.2.A x8.2.2.2.c 3 1 (ii v19) :: .box x7 27 [(.slice x6.1.A x6.1.n x6.1.c), (.slice x6.2.1.A x6.2.1.n x6.2.1.c), (.slice x6.2.2.1.A x6.2.2.1.n x6.2.2.1.c), (.slice x6.2.2.2.A x6.2.2.2.n x6.2.2.2.c)] :: .box x5 27 [(.slice x4.1.A x4.1.n x4.1.c), (.slice x4.2.1.A x4.2.1.n x4.2.1.c), (.slice x4.2.2.1.A x4.2.2.1.n x4.2.2.1.c), (.slice x4.2.2.2.A x4.2.2.2.n x4.2.2.2.c)] :: .row x4.1.A x4.1.c 3 1 (ii v6) :: .row x4.2.1.A x4.2.1.c 3 1 (ii v7) :: .row x4.2.2.1.A x4.2.2.1.c 3 1 (ii v8) :: .row x4.2.2.2.A x4.2.2.2.c 3 1 (ii v9) :: .row x3.1.A x3.1.c 3 1 (ii v2) :: .row x3.2.1.A x3.2.1.c 3 1 (ii v3) :: .row x3.2.2.1.A x3.2.2.1.c 3 1 (ii v4) :: .row x3.2.2.2.A x3.2.2.2.c 3 1 (ii v5) :: .box x1 37 [(.slice a0_0_A a0_0_n a0_0_c), (.slice a0_1_A a0_1_n a0_1_c), (.slice a0_2_A a0_2_n a0_2_c), (.slice a0_3_A a0_3_n a0_3_c)] :: F) (fun _ h => h.pick 24 [10, 11, 12, 13, 0, 1, 2, 3, 4, 5, 6, 7, 8, 9, 14, 15, 16, 17, 18, 19, 20, 21, 22, 23] rfl) ?_
            refine r_do (a_call ok25 rfl rfl rfl rfl (fun w hm => laws_markColored.calls K v12 x6.1.A x6.1.n x6.1.c v13 x6.2.1.A x6.2.1.n x6.2.1.c v14 x6.2.2.1.A x6.2.2.1.n x6.2.2.1.c v15 x6.2.2.2.A x6.2.2.2.n x6.2.2.2.c (1:Int) hm x6.1.h x6.2.1.h x6.2.2.1.h x6.2.2.2.h hb9)) rfl rfl (fun x13 => ?_)
            refine r_q (q_assign rfl rfl) rfl rfl ?_
            refine r_nil ?_
            refine j_then ?_
            refine j_seq ?_
            refine j_seq ?_
            refine j_region ?_
            refine r_q (q_move rfl rfl) rfl rfl ?_
            refine r_q (q_lss rfl rfl rfl) rfl rfl ?_
            refine r_q (q_move rfl rfl) rfl rfl ?_
            rcases of_if h with ⟨c6, h⟩ | ⟨c6, h⟩
            · refine r_off rfl rfl rfl rfl (decide_eq_true c6) rfl ?_
              refine r_off rfl rfl rfl rfl (decide_eq_true c6) rfl ?_
              refine r_off rfl rfl rfl rfl (decide_eq_true c6) rfl ?_
              refine r_off rfl rfl rfl rfl (decide_eq_true c6) rfl ?_
              refine r_q (q_pick_t rfl rfl (decide_eq_true c6) rfl) rfl rfl ?_
              refine r_q (q_move rfl rfl) rfl rfl ?_
              refine r_off rfl rfl rfl rfl rfl rfl ?_
              refine r_off rfl rfl rfl rfl rfl rfl ?_
              refine r_off rfl rfl rfl rfl rfl rfl ?_
              refine r_q (q_pick_t rfl rfl rfl rfl) rfl rfl ?_
              refine r_q (q_move rfl rfl) rfl rfl ?_
              refine r_off rfl rfl rfl rfl rfl rfl ?_
              refine r_off rfl rfl rfl rfl rfl rfl ?_
              refine r_off rfl rfl rfl rfl rfl rfl ?_
              refine r_q (q_pick_t rfl rfl rfl rfl) rfl rfl ?_
              refine r_nil ?_
              refine j_then ?_
              refine j_true rfl rfl ?_
              refine j_seq ?_
              refine j_region ?_
              refine r_q (q_assign rfl rfl) rfl rfl ?_
              refine r_nil ?_
              refine j_then ?_
              refine j_ret ?_
              refine j_then_ret ?_
              cases h
              exact j_return rfl (ResOf.tmp rfl ResOf.nil) rfl (fun w h => ⟨(), rfl, (h.drop 24)⟩)
            · refine r_qon (q_loadb_agg 8 rfl ag27 sz27 rfl rfl rfl rfl) rfl rfl rfl rfl (decide_eq_false c6) rfl ?_
              refine r_qon (q_loadb_agg 14 rfl ag27 sz27 rfl rfl rfl rfl) rfl rfl rfl rfl (decide_eq_false c6) rfl ?_
              obtain ⟨v33, hb10, h⟩ := of_b1 h
              refine r_on (a_call ok24 rfl rfl rfl rfl (fun w hm => laws_eqColored.calls K v16 x8.1.A x8.1.n x8.1.c v17 x8.2.1.A x8.2.1.n x8.2.1.c v18 x8.2.2.1.A x8.2.2.1.n x8.2.2.1.c v19 x8.2.2.2.A x8.2.2.2.n x8.2.2.2.c v6 x4.1.A x4.1.n x4.1.c v7 x4.2.1.A x4.2.1.n x4.2.1.c v8 x4.2.2.1.A x4.2.2.1.n x4.2.2.1.c v9 x4.2.2.2.A x4.2.2.2.n x4.2.2.2.c hm x8.1.h (Rd.row 9 rfl) x8.2.1.h (Rd.row 10 rfl) x8.2.2.1.h (Rd.row 11 rfl) x8.2.2.2.h (Rd.row 12 rfl) x4.1.h (Rd.row 15 rfl) x4.2.1.h (Rd.row 16 rfl) x4.2.2.1.h (Rd.row 17 rfl) x4.2.2.2.h (Rd.row 18 rfl) hb10)) rfl rfl rfl rfl (decide_eq_false c6) rfl (fun x14 => ?_)
              refine r_qon (q_not rfl rfl) rfl rfl rfl rfl (decide_eq_false c6) rfl ?_
              refine r_q (q_pick_f rfl rfl (decide_eq_false c6) rfl) rfl rfl ?_
              refine r_q (q_move rfl rfl) rfl rfl ?_
              rcases of_if h with ⟨c7, h⟩ | ⟨c7, h⟩
              · refine r_qon (q_move rfl rfl) rfl rfl rfl rfl (not_f c7) rfl ?_
                refine r_qon (q_move rfl rfl) rfl rfl rfl rfl (not_f c7) rfl ?_
                refine r_qon (q_bneq un4 rfl rfl rfl) rfl rfl rfl rfl (not_f c7) rfl ?_
                refine r_q (q_pick_f rfl rfl (not_f c7) rfl) rfl rfl ?_
                refine r_q (q_move rfl rfl) rfl rfl ?_
                refine r_qon (q_move rfl rfl) rfl rfl rfl rfl (bne_f c3) rfl ?_
                refine r_qon (q_move rfl rfl) rfl rfl rfl rfl (bne_f c3) rfl ?_
                refine r_qon (q_bneq un4 rfl rfl rfl) rfl rfl rfl rfl (bne_f c3) rfl ?_
                refine r_q (q_pick_f rfl rfl (bne_f c3) rfl) rfl rfl ?_
                refine r_nil ?_
                refine j_then ?_
                refine j_false rfl (bne_f c4) ?_
                refine j_skip ?_
                refine j_then ?_
                refine j_seq ?_
                refine j_region ?_
                refine r_q (q_assign rfl rfl) rfl rfl ?_
                refine r_nil ?_
                refine j_then ?_
                refine j_seq ?_
                refine j_region ?_
                refine r_q (q_loadb_agg 8 rfl ag27 sz27 rfl rfl rfl rfl) rfl rfl ?_
                refine r_q (q_move rfl rfl) rfl rfl ?_
                obtain ⟨v34, v35, v36, v37, v38, hb11, h⟩ := of_b5 h
                refine j_rs (.row x8.1.A x8.1.c 3 1 (ii v16) :: .row x8.2.1.A x8.2.1.c 3 1 (ii v17) :: .row x8.2.2.1.A x8.2.2.1.c 3 1 (ii v18) :: .row x8.2.2.2.A x8.2.2.2.c 3 1 (ii v19) :: .row x6.1.A x6.1.c 3 1 (ii v29) :: .row x6.2.1.A x6.2.1.c 3 1 (ii v30) :: .row x6.2.2.1.A x6.2.2.1.c 3 1 (ii v31) :: .row x6.2.2.2.A x6.2.2.2.c 3 1 (ii v32) :: .row x11.1.A x11.1.c 3 1 (ii v23) :: .row x11.2.1.A x11.2.1.c 3 1 (ii v24) :: .row x11.2.2.1.A x11.2.2.1.c 3 1 (ii v25) :: .row x11.2.2.2.A x11.2.2.2.c 3 1 (ii v26) :: .box x9 27 [(.slice x8.1.A x8.1.n x8.1.c), (.slice x8.2.1.A x8.2.1.n x8.2.1.c), (.slice x8.2.2.1.A x8.2.2.1.n x8.2.2.1.c), (.slice x8.2.2.2.A x8.2.2.2.n x8.2.2.2.c)] :: .box x7 27 [(.slice x6.1.A x6.1.n x6.1.c), (.slice x6.2.1.A x6.2.1.n x6.2.1.c), (.slice x6.2.2.1.A x6.2.2.1.n x6.2.2.1.c), (.slice x6.2.2.2.A x6.2.2.2.n x6.2.2.2.c)] :: .box x5 27 [(.slice x4.1.A x4.1.n x4.1.c), (.slice x4.2.1.A x4.2.1.n x4.2.1.c), (.slice x4.2.2.1.A x4.2.2.1.n x4.2.2.1.c), (.slice x4.2.2.2.A x4.2.2.2.n x4.2.2.2.c)] :: .row x4.1.A x4.1.c 3 1 (ii v6) :: .row x4.2.1.A x4.2.1.c 3 1 (ii v7) :: .row x4.2.2.1.A x4.2.2.1.c 3 1 (ii v8) :: .row x4.2.2.2.A x4.2.2.2.c 3 1 (ii v9) :: .row x3.1.A x3.1.c 3 1 (ii v2) :: .row x3.2.1.A x3.2.1.c 3 1 (ii v3) :: .row x3.2.2.1.A x3.2.2.1.c 3 1 (ii v4) :: .row x3.2.2.2.A x3.2.2.2.c 3 1 (ii v5) :: .box x1 37 [(.slice a0_0_A a0_0_n a0_0_c), (.slice a0_1_A a0_1_n a0_1_c), (.slice a0_2_A a0_2_n a0_2_c), (.slice a0_3_A a0_3_n a0_3_c)] :: F) (fun _ h => h.pick 24 [9, 10, 11, 12, 0, 1, 2, 3, 4, 5, 6, 7, 8, 13, 14, 15, 16, 17, 18, 19, 20, 21, 22, 23] rfl) ?_
                refine r_do (a_call ok25 rfl rfl rfl rfl (fun w hm => laws_markColored.calls K v16 x8.1.A x8.1.n x8.1.c v17 x8.2.1.A x8.2.1.n x8.2.1.c v18 x8.2.2.1.A x8.2.2.1.n x8.2.2.1.c v19 x8.2.2.2.A x8.2.2.2.n x8.2.2.2.c (1:Int) hm x8.1.h x8.2.1.h x8.2.2.1.h x8.2.2.2.h hb11)) rfl rfl (fun x15 => ?_)
                refine r_q (q_assign rfl rfl) rfl rfl ?_
                refine r_nil ?_
                refine j_then ?_
                refine j_seq ?_
                refine j_region ?_
                refine r_q (q_assign rfl rfl) rfl rfl ?_
                refine r_nil ?_
                refine j_then ?_
                refine j_seq ?_
                refine j_region ?_
                refine r_q (q_loadb_agg 12 rfl ag27 sz27 rfl rfl rfl rfl) rfl rfl ?_
                refine r_q (q_move rfl rfl) rfl rfl ?_
                obtain ⟨v39, hb12, h⟩ := of_b1 h
                refine r_do (a_call ok26 rfl rfl rfl rfl (fun w hm => laws_heldColored.calls K v35 x8.1.A x8.1.n x8.1.c v36 x8.2.1.A x8.2.1.n x8.2.1.c v37 x8.2.2.1.A x8.2.2.1.n x8.2.2.1.c v38 x8.2.2.2.A x8.2.2.2.n x8.2.2.2.c (1:Int) hm (x15.1.h.trans x8.1.h) (Rd.row 0 rfl) (x15.2.1.h.trans x8.2.1.h) (Rd.row 1 rfl) (x15.2.2.1.h.trans x8.2.2.1.h) (Rd.row 2 rfl) (x15.2.2.2.h.trans x8.2.2.2.h) (Rd.row 3 rfl) hb12)) rfl rfl (fun x16 => ?_)
                refine r_q (q_assign rfl rfl) rfl rfl ?_
                refine r_nil ?_
                refine j_then ?_
                refine j_seq ?_
                refine j_seq ?_
                refine j_region ?_
                refine r_q (q_move rfl rfl) rfl rfl ?_
                refine r_q (q_lss rfl rfl rfl) rfl rfl ?_
                refine r_nil ?_
                refine j_then ?_
                rcases of_if h with ⟨c8, h⟩ | ⟨c8, h⟩
                · refine j_true rfl (decide_eq_true c8) ?_
                  refine j_seq ?_
                  refine j_region ?_
                  refine r_q (q_assign rfl rfl) rfl rfl ?_
                  refine r_nil ?_
                  refine j_then ?_
                  refine j_ret ?_
                  refine j_then_ret ?_
                  cases h
                  exact j_return rfl (ResOf.tmp rfl ResOf.nil) rfl (fun w h => ⟨(), rfl, (h.drop 24)⟩)
                · refine j_false rfl (decide_eq_false c8) ?_
                  refine j_skip ?_
                  refine j_then ?_
                  refine j_seq ?_
                  refine j_seq ?_
                  refine j_region ?_
                  refine r_q (q_move rfl rfl) rfl rfl ?_
                  refine r_q (q_move rfl rfl) rfl rfl ?_
                  refine r_q (q_neq rfl rfl rfl) rfl rfl ?_
                  refine r_nil ?_
                  refine j_then ?_
                  rcases of_if h with ⟨c9, h⟩ | ⟨c9, h⟩
                  · refine j_false rfl (bne_f c9) ?_
                    refine j_skip ?_
                    refine j_then ?_
                    refine j_seq ?_
                    refine j_region ?_
                    refine r_q (q_loadb_agg 23 rfl ag37 sz37 rfl rfl rfl rfl) rfl rfl ?_
                    obtain ⟨v40, v41, v42, v43, hb13, h⟩ := of_b4 h
                    refine r_do (a_call ok22 rfl rfl rfl rfl (fun w hm => laws_toColored.calls K a0_0 a0_0_A a0_0_n a0_0_c a0_1 a0_1_A a0_1_n a0_1_c a0_2 a0_2_A a0_2_n a0_2_c a0_3 a0_3_A a0_3_n a0_3_c hm a0_0_h (Rd.drop 24 a0_0_R) a0_1_h (Rd.drop 24 a0_1_R) a0_2_h (Rd.drop 24 a0_2_R) a0_3_h (Rd.drop 24 a0_3_R) hb13)) rfl rfl (fun x17 => ?_)
                    obtain ⟨v44, v45, v46, v47, v48, v49, hb14, h⟩ := of_b6 h
                    refine r_do (a_call ok23 rfl rfl rfl rfl (fun w hm => impl_MarkStep.calls K v40 x17.1.A x17.1.n x17.1.c v41 x17.2.1.A x17.2.1.n x17.2.1.c v42 x17.2.2.1.A x17.2.2.1.n x17.2.2.1.c v43 x17.2.2.2.A x17.2.2.2.n x17.2.2.2.c hm x17.1.h (Rd.row 0 rfl) x17.2.1.h (Rd.row 1 rfl) x17.2.2.1.h (Rd.row 2 rfl) x17.2.2.2.h (Rd.row 3 rfl) hb14)) rfl rfl (fun x18 => ?_)
                    refine r_q (q_move rfl rfl) rfl rfl ?_
                    refine r_q (q_extract rfl rfl rfl) rfl rfl ?_
                    refine r_q (q_extract rfl rfl rfl) rfl rfl ?_
                    refine r_q (q_extract rfl rfl rfl) rfl rfl ?_
                    refine r_do (a_alloc zr27 rfl) rfl rfl (fun x19 => ?_)
                    refine r_do (a_storeb 0 rfl sz27 rfl rfl rfl rfl (Nat.le_of_ble_eq_true rfl) rfl) rfl rfl (fun _ => ?_)
                    refine j_b0 [(.slice x18.1.A x18.1.n x18.1.c), (.slice x18.2.1.A x18.2.1.n x18.2.1.c), (.slice x18.2.2.1.A x18.2.2.1.n x18.2.2.1.c), (.slice x18.2.2.2.A x18.2.2.2.n x18.2.2.2.c)] rfl ?_
                    refine r_q (q_assign rfl rfl) rfl rfl ?_
                    refine r_q (q_assign rfl rfl) rfl rfl ?_
                    refine r_nil ?_
                    refine j_then ?_
                    refine j_seq ?_
                    refine j_seq ?_
                    refine j_region ?_
                    refine r_q (q_loadb_agg 0 rfl ag27 sz27 rfl rfl rfl rfl) rfl rfl ?_
                    refine r_q (q_loadb_agg 23 rfl ag27 sz27 rfl rfl rfl rfl) rfl rfl ?_
                    obtain ⟨v50, hb15, h⟩ := of_b1 h
                    refine r_do (a_call ok24 rfl rfl rfl rfl (fun w hm => laws_eqColored.calls K v44 x18.1.A x18.1.n x18.1.c v45 x18.2.1.A x18.2.1.n x18.2.1.c v46 x18.2.2.1.A x18.2.2.1.n x18.2.2.1.c v47 x18.2.2.2.A x18.2.2.2.n x18.2.2.2.c v6 x4.1.A x4.1.n x4.1.c v7 x4.2.1.A x4.2.1.n x4.2.1.c v8 x4.2.2.1.A x4.2.2.1.n x4.2.2.1.c v9 x4.2.2.2.A x4.2.2.2.n x4.2.2.2.c hm x18.1.h (Rd.row 1 rfl) x18.2.1.h (Rd.row 2 rfl) x18.2.2.1.h (Rd.row 3 rfl) x18.2.2.2.h (Rd.row 4 rfl) x4.1.h (Rd.row 24 rfl) x4.2.1.h (Rd.row 25 rfl) x4.2.2.1.h (Rd.row 26 rfl) x4.2.2.2.h (Rd.row 27 rfl) hb15)) rfl rfl (fun x20 => ?_)
                    refine r_q (q_not rfl rfl) rfl rfl ?_
                    refine r_q (q_move rfl rfl) rfl rfl ?_
                    rcases of_if h with ⟨c10, h⟩ | ⟨c10, h⟩
                    · refine r_qon (q_move rfl rfl) rfl rfl rfl rfl (not_f c10) rfl ?_
                      refine r_qon (q_move rfl rfl) rfl rfl rfl rfl (not_f c10) rfl ?_
                      refine r_qon (q_bneq un4 rfl rfl rfl) rfl rfl rfl rfl (not_f c10) rfl ?_
                      refine r_q (q_pick_f rfl rfl (not_f c10) rfl) rfl rfl ?_
                      refine r_q (q_move rfl rfl) rfl rfl ?_
                      rcases of_if h with ⟨c11, h⟩ | ⟨c11, h⟩
                      · refine r_qon (q_move rfl rfl) rfl rfl rfl rfl (bne_f c11) rfl ?_
                        refine r_qon (q_move rfl rfl) rfl rfl rfl rfl (bne_f c11) rfl ?_
                        refine r_qon (q_bneq un4 rfl rfl rfl) rfl rfl rfl rfl (bne_f c11) rfl ?_
                        refine r_q (q_pick_f rfl rfl (bne_f c11) rfl) rfl rfl ?_
                        refine r_nil ?_
                        refine j_then ?_
                        rcases of_if h with ⟨c12, h⟩ | ⟨c12, h⟩
                        · refine j_false rfl (bne_f c12) ?_
                          refine j_skip ?_
                          refine j_then ?_
                          refine j_seq ?_
                          refine j_region ?_
                          refine r_q (q_assign rfl rfl) rfl rfl ?_
                          refine r_nil ?_
                          refine j_then ?_
                          refine j_seq ?_
                          refine j_region ?_
                          refine r_q (q_loadb_agg 21 rfl ag27 sz27 rfl rfl rfl rfl) rfl rfl ?_
                          refine r_q (q_move rfl rfl) rfl rfl ?_
                          obtain ⟨v51, hb16, h⟩ := of_b1 h
                          refine r_do (a_call ok26 rfl rfl rfl rfl (fun w hm => laws_heldColored.calls K v35 x8.1.A x8.1.n x8.1.c v36 x8.2.1.A x8.2.1.n x8.2.1.c v37 x8.2.2.1.A x8.2.2.1.n x8.2.2.1.c v38 x8.2.2.2.A x8.2.2.2.n x8.2.2.2.c (1:Int) hm (x15.1.h.trans x8.1.h) (Rd.row 9 rfl) (x15.2.1.h.trans x8.2.1.h) (Rd.row 10 rfl) (x15.2.2.1.h.trans x8.2.2.1.h) (Rd.row 11 rfl) (x15.2.2.2.h.trans x8.2.2.2.h) (Rd.row 12 rfl) hb16)) rfl rfl (fun x21 => ?_)
                          refine r_q (q_assign rfl rfl) rfl rfl ?_
                          refine r_nil ?_
                          refine j_then ?_
                          refine j_seq ?_
                          refine j_seq ?_
                          refine j_region ?_
                          refine r_q (q_move rfl rfl) rfl rfl ?_
                          refine r_q (q_lss rfl rfl rfl) rfl rfl ?_
                          refine r_nil ?_
                          refine j_then ?_
                          rcases of_if h with ⟨c13, h⟩ | ⟨c13, h⟩
                          · refine j_true rfl (decide_eq_true c13) ?_
                            refine j_seq ?_
                            refine j_region ?_
                            refine r_q (q_assign rfl rfl) rfl rfl ?_
                            refine r_nil ?_
                            refine j_then ?_
                            refine j_ret ?_
                            refine j_then_ret ?_
                            cases h
                            exact j_return rfl (ResOf.tmp rfl ResOf.nil) rfl (fun w h => ⟨(), rfl, (h.drop 33)⟩)
                          · refine j_false rfl (decide_eq_false c13) ?_
                            refine j_skip ?_
                            refine j_then ?_
                            refine j_seq ?_
                            refine j_seq ?_
                            refine j_region ?_
                            refine r_q (q_move rfl rfl) rfl rfl ?_
                            refine r_q (q_move rfl rfl) rfl rfl ?_
                            refine r_q (q_neq rfl rfl rfl) rfl rfl ?_
                            refine r_nil ?_
                            refine j_then ?_
                            rcases of_if h with ⟨c14, h⟩ | ⟨c14, h⟩
                            · refine j_false rfl (bne_f c14) ?_
                              refine j_skip ?_
                              refine j_then ?_
                              refine j_seq ?_
                              refine j_region ?_
                              refine r_q (q_assign rfl rfl) rfl rfl ?_
                              refine r_nil ?_
                              refine j_then ?_
                              refine j_ret ?_
                              cases h
                              exact j_return rfl (ResOf.tmp rfl ResOf.nil) rfl (fun w h => ⟨(), rfl, (h.drop 33)⟩)
                            · refine j_true rfl (bne_t c14) ?_
                              refine j_seq ?_
                              refine j_region ?_
                              refine r_q (q_assign rfl rfl) rfl rfl ?_
                              refine r_nil ?_
                              refine j_then ?_
                              refine j_ret ?_
                              refine j_then_ret ?_
                              cases h
                              exact j_return rfl (ResOf.tmp rfl ResOf.nil) rfl (fun w h => ⟨(), rfl, (h.drop 33)⟩)
                        · refine j_true rfl (bne_t c12) ?_
                          refine j_seq ?_
                          refine j_region ?_
                          refine r_q (q_assign rfl rfl) rfl rfl ?_
                          refine r_nil ?_
                          refine j_then ?_
                          refine j_ret ?_
                          refine j_then_ret ?_
                          cases h
                          exact j_return rfl (ResOf.tmp rfl ResOf.nil) rfl (fun w h => ⟨(), rfl, (h.drop 33)⟩)
                      · refine r_off rfl rfl rfl rfl (bne_t c11) rfl ?_
                        refine r_off rfl rfl rfl rfl (bne_t c11) rfl ?_
                        refine r_off rfl rfl rfl rfl (bne_t c11) rfl ?_
                        refine r_q (q_pick_t rfl rfl (bne_t c11) rfl) rfl rfl ?_
                        refine r_nil ?_
                        refine j_then ?_
                        refine j_true rfl rfl ?_
                        refine j_seq ?_
                        refine j_region ?_
                        refine r_q (q_assign rfl rfl) rfl rfl ?_
                        refine r_nil ?_
                        refine j_then ?_
                        refine j_ret ?_
                        refine j_then_ret ?_
                        cases h
                        exact j_return rfl (ResOf.tmp rfl ResOf.nil) rfl (fun w h => ⟨(), rfl, (h.drop 33)⟩)
                    · refine r_off rfl rfl rfl rfl (not_t (var_f c10)) rfl ?_
                      refine r_off rfl rfl rfl rfl (not_t (var_f c10)) rfl ?_
                      refine r_off rfl rfl rfl rfl (not_t (var_f c10)) rfl ?_
                      refine r_q (q_pick_t rfl rfl (not_t (var_f c10)) rfl) rfl rfl ?_
                      refine r_q (q_move rfl rfl) rfl rfl ?_
                      refine r_off rfl rfl rfl rfl rfl rfl ?_
                      refine r_off rfl rfl rfl rfl rfl rfl ?_
                      refine r_off rfl rfl rfl rfl rfl rfl ?_
                      refine r_q (q_pick_t rfl rfl rfl rfl) rfl rfl ?_
                      refine r_nil ?_
                      refine j_then ?_
                      refine j_true rfl rfl ?_
                      refine j_seq ?_
                      refine j_region ?_
                      refine r_q (q_assign rfl rfl) rfl rfl ?_
                      refine r_nil ?_
                      refine j_then ?_
                      refine j_ret ?_
                      refine j_then_ret ?_
                      cases h
                      exact j_return rfl (ResOf.tmp rfl ResOf.nil) rfl (fun w h => ⟨(), rfl, (h.drop 33)⟩)
                  · refine j_true rfl (bne_t c9) ?_
                    refine j_seq ?_
                    refine j_region ?_
                    refine r_q (q_assign rfl rfl) rfl rfl ?_
                    refine r_nil ?_
                    refine j_then ?_
                    refine j_ret ?_
                    refine j_then_ret ?_
                    cases h
                    exact j_return rfl (ResOf.tmp rfl ResOf.nil) rfl (fun w h => ⟨(), rfl, (h.drop 24)⟩)
              · refine r_off rfl rfl rfl rfl (not_t (var_f c7)) rfl ?_
                refine r_off rfl rfl rfl rfl (not_t (var_f c7)) rfl ?_
                refine r_off rfl rfl rfl rfl (not_t (var_f c7)) rfl ?_
                refine r_q (q_pick_t rfl rfl (not_t (var_f c7)) rfl) rfl rfl ?_
                refine r_q (q_move rfl rfl) rfl rfl ?_
                refine r_off rfl rfl rfl rfl rfl rfl ?_
                refine r_off rfl rfl rfl rfl rfl rfl ?_
                refine r_off rfl rfl rfl rfl rfl rfl ?_
                refine r_q (q_pick_t rfl rfl rfl rfl) rfl rfl ?_
                refine r_nil ?_
                refine j_then ?_
                refine j_true rfl rfl ?_
                refine j_seq ?_
                refine j_region ?_
                refine r_q (q_assign rfl rfl) rfl rfl ?_
                refine r_nil ?_
                refine j_then ?_
                refine j_ret ?_
                refine j_then_ret ?_
                cases h
                exact j_return rfl (ResOf.tmp rfl ResOf.nil) rfl (fun w h => ⟨(), rfl, (h.drop 24)⟩)
          · refine j_true rfl (not_t (var_f c5)) ?_
            refine j_seq ?_
            refine j_region ?_
            refine r_q (q_assign rfl rfl) rfl rfl ?_
            refine r_nil ?_
            refine j_then ?_
            refine j_ret ?_
            refine j_then_ret ?_
            cases h
            exact j_return rfl (ResOf.tmp rfl ResOf.nil) rfl (fun w h => ⟨(), rfl, (h.drop 24)⟩)
        · refine j_true rfl (bne_t c4) ?_
          refine j_seq ?_
          refine j_region ?_
          refine r_q (q_assign rfl rfl) rfl rfl ?_
          refine r_nil ?_
          refine j_then ?_
          refine j_ret ?_
          refine j_then_ret ?_
          cases h
          exact j_return rfl (ResOf.tmp rfl ResOf.nil) rfl (fun w h => ⟨(), rfl, (h.drop 20)⟩)
      · refine r_off rfl rfl rfl rfl (bne_t c3) rfl ?_
        refine r_off rfl rfl rfl rfl (bne_t c3) rfl ?_
        refine r_off rfl rfl rfl rfl (bne_t c3) rfl ?_
        refine r_q (q_pick_t rfl rfl (bne_t c3) rfl) rfl rfl ?_
        refine r_nil ?_
        refine j_then ?_
        refine j_true rfl rfl ?_
        refine j_seq ?_
        refine j_region ?_
        refine r_q (q_assign rfl rfl) rfl rfl ?_
        refine r_nil ?_
        refine j_then ?_
        refine j_ret ?_
        refine j_then_ret ?_
        cases h
        exact j_return rfl (ResOf.tmp rfl ResOf.nil) rfl (fun w h => ⟨(), rfl, (h.drop 20)⟩)
    · refine r_off rfl rfl rfl rfl (not_t (var_f c2)) rfl ?_
      refine r_off rfl rfl rfl rfl (not_t (var_f c2)) rfl ?_
      refine r_off rfl rfl rfl rfl (not_t (var_f c2)) rfl ?_
      refine r_q (q_pick_t rfl rfl (not_t (var_f c2)) rfl) rfl rfl ?_
      refine r_q (q_move rfl rfl) rfl rfl ?_
      refine r_off rfl rfl rfl rfl rfl rfl ?_
      refine r_off rfl rfl rfl rfl rfl rfl ?_
      refine r_off rfl rfl rfl rfl rfl rfl ?_
      refine r_q (q_pick_t rfl rfl rfl rfl) rfl rfl ?_
      refine r_nil ?_
      refine j_then ?_
      refine j_true rfl rfl ?_
      refine j_seq ?_
      refine j_region ?_
      refine r_q (q_assign rfl rfl) rfl rfl ?_
      refine r_nil ?_
      refine j_then ?_
      refine j_ret ?_
      refine j_then_ret ?_
      cases h
      exact j_return rfl (ResOf.tmp rfl ResOf.nil) rfl (fun w h => ⟨(), rfl, (h.drop 20)⟩)

end Go.Proofs.Ytcdcikmphonkfaa.F
