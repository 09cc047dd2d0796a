/- The program computes these pure functions, printed by the generator of wip/gen. -/
import Derived.Test.YtcdcikmphonkfaaFa
import Derived.Test.YtcdcikmphonkfaaFi
import Derived.Test.YtcdcikmphonkfaaFb
import Derived.Test.YtcdcikmphonkfaaC0
import Derived.Test.YtcdcikmphonkfaaC1
import Derived.Test.YtcdcikmphonkfaaC2
import Derived.Test.YtcdcikmphonkfaaC5
import Derived.Test.YtcdcikmphonkfaaC9
import Derived.Test.YtcdcikmphonkfaaC12
namespace Go.Proofs.Ytcdcikmphonkfaa.F
open Go Go.RowKit Go.Proofs.Ytcdcikmphonkfaa.S
set_option linter.unusedVariables false
set_option maxRecDepth 100000
theorem laws_FnExactGcValid.calls (K : Nat) (a0_0 : List Int) (a0_0_A : Option Addr) (a0_0_n a0_0_c : Nat) (a0_1 : List Int) (a0_1_A : Option Addr) (a0_1_n a0_1_c : Nat) (a0_2 : List Int) (a0_2_A : Option Addr) (a0_2_n a0_2_c : Nat) (a0_3 : List Int) (a0_3_A : Option Addr) (a0_3_n a0_3_c : Nat) (a1_0 : Int) (a1_1 : List Int) (a1_1_A : Option Addr) (a1_1_n a1_1_c : Nat) (a1_2 : Int) {w0 w : World} {F : List Res} {r1 : Bool} (hm : Mem w0 (F) w) (a0_0_h : a0_0.length = a0_0_n) (a0_0_R : Rd w0 F a0_0_A (ii a0_0)) (a0_1_h : a0_1.length = a0_1_n) (a0_1_R : Rd w0 F a0_1_A (ii a0_1)) (a0_2_h : a0_2.length = a0_2_n) (a0_2_R : Rd w0 F a0_2_A (ii a0_2)) (a0_3_h : a0_3.length = a0_3_n) (a0_3_R : Rd w0 F a0_3_A (ii a0_3)) (a1_1_h : a1_1.length = a1_1_n) (a1_1_R : Rd w0 F a1_1_A (ii a1_1)) (h : laws_FnExactGcValid.f K a0_0 a0_1 a0_2 a0_3 a1_0 a1_1 a1_2 = some r1) :
    Calls Try.prog 13 (List.toArray [.agg (List.toArray [.slice a0_0_A a0_0_n a0_0_c, .slice a0_1_A a0_1_n a0_1_c, .slice a0_2_A a0_2_n a0_2_c, .slice a0_3_A a0_3_n a0_3_c]), .agg (List.toArray [i6 a1_0, .slice a1_1_A a1_1_n a1_1_c, i6 a1_2])]) w fun e w' => ∃ x : Unit, e = .returned (.bool r1) ∧ Mem w0 (F) w' := by
  unfold laws_FnExactGcValid.f at h
  refine calls_of_J (n := 45) Try.func13 rfl rfl rfl hm ?_
  refine j_seq ?_
  refine j_region ?_
  refine r_do (a_box rfl rfl) rfl rfl (fun x1 => ?_)
  refine r_do (a_box rfl rfl) rfl rfl (fun x2 => ?_)
  refine r_q (q_assign rfl rfl) rfl rfl ?_
  refine r_nil ?_
  refine j_then ?_
  refine j_seq ?_
  refine j_region ?_
  refine r_q (q_assign rfl rfl) rfl rfl ?_
  refine r_nil ?_
  refine j_then ?_
  refine j_seq ?_
  refine j_region ?_
  refine r_q (q_loadb_agg 1 rfl ag48 sz48 rfl rfl rfl rfl) rfl rfl ?_
  refine r_q (q_move rfl rfl) rfl rfl ?_
  obtain ⟨v1, hb1, h⟩ := of_b1 h
  refine r_do (a_call ok34 rfl rfl rfl rfl (fun w hm => laws_szStore.calls K a0_0 a0_0_A a0_0_n a0_0_c a0_1 a0_1_A a0_1_n a0_1_c a0_2 a0_2_A a0_2_n a0_2_c a0_3 a0_3_A a0_3_n a0_3_c (1048576:Int) hm a0_0_h (Rd.drop 2 a0_0_R) a0_1_h (Rd.drop 2 a0_1_R) a0_2_h (Rd.drop 2 a0_2_R) a0_3_h (Rd.drop 2 a0_3_R) hb1)) rfl rfl (fun x3 => ?_)
  refine r_q (q_assign rfl rfl) rfl rfl ?_
  refine r_nil ?_
  refine j_then ?_
  refine j_seq ?_
  refine j_seq ?_
  refine j_region ?_
  refine r_q (q_move rfl rfl) rfl rfl ?_
  refine r_q (q_lss rfl rfl rfl) rfl rfl ?_
  refine r_nil ?_
  refine j_then ?_
  rcases of_if h with ⟨c1, h⟩ | ⟨c1, h⟩
  · refine j_true rfl (decide_eq_true c1) ?_
    refine j_seq ?_
    refine j_region ?_
    refine r_q (q_assign rfl rfl) rfl rfl ?_
    refine r_nil ?_
    refine j_then ?_
    refine j_ret ?_
    refine j_then_ret ?_
    cases h
    exact j_return rfl (ResOf.tmp rfl ResOf.nil) rfl (fun w h => ⟨(), rfl, (h.drop 2)⟩)
  · refine j_false rfl (decide_eq_false c1) ?_
    refine j_skip ?_
    refine j_then ?_
    refine j_seq ?_
    refine j_region ?_
    refine r_q (q_loadb_agg 0 rfl ag50 sz50 rfl rfl rfl rfl) rfl rfl ?_
    refine r_q (q_move rfl rfl) rfl rfl ?_
    obtain ⟨v2, hb2, h⟩ := of_b1 h
    refine r_do (a_call ok35 rfl rfl rfl rfl (fun w hm => laws_szGc.calls K a1_0 a1_1 a1_1_A a1_1_n a1_1_c a1_2 v1 hm a1_1_h (Rd.drop 2 a1_1_R) hb2)) rfl rfl (fun x4 => ?_)
    refine r_q (q_assign rfl rfl) rfl rfl ?_
    refine r_nil ?_
    refine j_then ?_
    refine j_seq ?_
    refine j_seq ?_
    refine j_region ?_
    refine r_q (q_move rfl rfl) rfl rfl ?_
    refine r_q (q_lss rfl rfl rfl) rfl rfl ?_
    refine r_nil ?_
    refine j_then ?_
    rcases of_if h with ⟨c2, h⟩ | ⟨c2, h⟩
    · refine j_true rfl (decide_eq_true c2) ?_
      refine j_seq ?_
      refine j_region ?_
      refine r_q (q_assign rfl rfl) rfl rfl ?_
      refine r_nil ?_
      refine j_then ?_
      refine j_ret ?_
      refine j_then_ret ?_
      cases h
      exact j_return rfl (ResOf.tmp rfl ResOf.nil) rfl (fun w h => ⟨(), rfl, (h.drop 2)⟩)
    · refine j_false rfl (decide_eq_false c2) ?_
      refine j_skip ?_
      refine j_then ?_
      refine j_seq ?_
      obtain ⟨v3, v4, v5, v6, hb3, h⟩ := of_b4 h
      obtain ⟨v7, v8, v9, hb4, h⟩ := of_b3 h
      obtain ⟨v10, hb5, h⟩ := of_b1 h
      refine j_draw (.box x2 50 [(i6 a1_0), (.slice a1_1_A a1_1_n a1_1_c), (i6 a1_2)] :: .box x1 48 [(.slice a0_0_A a0_0_n a0_0_c), (.slice a0_1_A a0_1_n a0_1_c), (.slice a0_2_A a0_2_n a0_2_c), (.slice a0_3_A a0_3_n a0_3_c)] :: F) 6 follows_any rfl ?_
      refine d_take 0 rfl (q_loadb_agg 1 rfl ag48 sz48 rfl rfl rfl rfl) rfl rfl (by kernel_rfl) (by kernel_rfl) (by kernel_rfl) (fun w h => h) ?_
      refine d_take 2 rfl (q_loadb_agg 0 rfl ag50 sz50 rfl rfl rfl rfl) rfl rfl (by kernel_rfl) (by kernel_rfl) (by kernel_rfl) (fun w h => h) ?_
      refine d_one 1 (by kernel_rfl) ?_
      refine o_do rfl (a_call ok37 rfl rfl rfl rfl (fun w hm => laws_toStore.calls K a0_0 a0_0_A a0_0_n a0_0_c a0_1 a0_1_A a0_1_n a0_1_c a0_2 a0_2_A a0_2_n a0_2_c a0_3 a0_3_A a0_3_n a0_3_c hm a0_0_h (Rd.drop 2 a0_0_R) a0_1_h (Rd.drop 2 a0_1_R) a0_2_h (Rd.drop 2 a0_2_R) a0_3_h (Rd.drop 2 a0_3_R) hb3)) rfl rfl (fun x5 w h => (h.drop 4)) (fun x5 => ?_)
      refine d_one 3 (by kernel_rfl) ?_
      refine o_do rfl (a_call ok38 rfl rfl rfl rfl (fun w hm => laws_toGc.calls K a1_0 a1_1 a1_1_A a1_1_n a1_1_c a1_2 hm a1_1_h (Rd.drop 6 a1_1_R) hb4)) rfl rfl (fun x6 w h => (h.drop 5)) (fun x6 => ?_)
      refine d_one 4 (by kernel_rfl) ?_
      refine o_do rfl (a_call ok49 rfl rfl rfl rfl (fun w hm => spec_GcValid.calls K v3 x5.1.A x5.1.n x5.1.c v4 x5.2.1.A x5.2.1.n x5.2.1.c v5 x5.2.2.1.A x5.2.2.1.n x5.2.2.1.c v6 x5.2.2.2.A x5.2.2.2.n x5.2.2.2.c v7 v8 x6.A x6.n x6.c v9 hm x5.1.h (Rd.row 1 rfl) x5.2.1.h (Rd.row 2 rfl) x5.2.2.1.h (Rd.row 3 rfl) x5.2.2.2.h (Rd.row 4 rfl) (hm.roomI 4 rfl) x6.h (Rd.row 0 rfl) hb5)) rfl rfl (fun x7 w h => (h.drop 5)) (fun x7 => ?_)
      refine d_take 5 rfl (q_assign rfl rfl) rfl rfl (by kernel_rfl) (by kernel_rfl) (by kernel_rfl) (fun w h => (h.drop 5)) ?_
      refine d_done (by kernel_rfl) ?_
      refine j_then ?_
      refine j_seq ?_
      refine j_region ?_
      refine r_q (q_loadb_agg 6 rfl ag48 sz48 rfl rfl rfl rfl) rfl rfl ?_
      obtain ⟨v11, v12, v13, v14, hb6, h⟩ := of_b4 h
      refine r_do (a_call ok37 rfl rfl rfl rfl (fun w hm => laws_toStore.calls K a0_0 a0_0_A a0_0_n a0_0_c a0_1 a0_1_A a0_1_n a0_1_c a0_2 a0_2_A a0_2_n a0_2_c a0_3 a0_3_A a0_3_n a0_3_c hm a0_0_h (Rd.drop 7 a0_0_R) a0_1_h (Rd.drop 7 a0_1_R) a0_2_h (Rd.drop 7 a0_2_R) a0_3_h (Rd.drop 7 a0_3_R) hb6)) rfl rfl (fun x8 => ?_)
      refine r_do (a_alloc zr57 rfl) rfl rfl (fun x9 => ?_)
      refine r_do (a_storeb 0 rfl sz57 rfl rfl rfl rfl (Nat.le_of_ble_eq_true rfl) rfl) rfl rfl (fun _ => ?_)
      refine j_b0 [(.slice x8.1.A x8.1.n x8.1.c), (.slice x8.2.1.A x8.2.1.n x8.2.1.c), (.slice x8.2.2.1.A x8.2.2.1.n x8.2.2.1.c), (.slice x8.2.2.2.A x8.2.2.2.n x8.2.2.2.c)] rfl ?_
      refine r_nil ?_
      refine j_then ?_
      refine j_seq ?_
      refine j_region ?_
      refine r_q (q_loadb_agg 10 rfl ag50 sz50 rfl rfl rfl rfl) rfl rfl ?_
      obtain ⟨v15, v16, v17, hb7, h⟩ := of_b3 h
      refine r_do (a_call ok38 rfl rfl rfl rfl (fun w hm => laws_toGc.calls K a1_0 a1_1 a1_1_A a1_1_n a1_1_c a1_2 hm a1_1_h (Rd.drop 12 a1_1_R) hb7)) rfl rfl (fun x10 => ?_)
      refine r_do (a_alloc zr53 rfl) rfl rfl (fun x11 => ?_)
      refine r_do (a_storeb 0 rfl sz53 rfl rfl rfl rfl (Nat.le_of_ble_eq_true rfl) rfl) rfl rfl (fun _ => ?_)
      refine j_b0 [(i6 v15), (.slice x10.A x10.n x10.c), (i6 v17)] rfl ?_
      refine r_nil ?_
      refine j_then ?_
      refine j_seq ?_
      refine j_region ?_
      refine r_q (q_loadb_agg 2 rfl ag57 sz57 rfl rfl rfl rfl) rfl rfl ?_
      refine r_q (q_loadb_agg 0 rfl ag53 sz53 rfl rfl rfl rfl) rfl rfl ?_
      obtain ⟨v18, hb8, h⟩ := of_b1 h
      refine r_do (a_call ok50 rfl rfl rfl rfl (fun w hm => impl_GcValid.calls K v11 x8.1.A x8.1.n x8.1.c v12 x8.2.1.A x8.2.1.n x8.2.1.c v13 x8.2.2.1.A x8.2.2.1.n x8.2.2.1.c v14 x8.2.2.2.A x8.2.2.2.n x8.2.2.2.c v15 v16 x10.A x10.n x10.c v17 hm x8.1.h (Rd.row 3 rfl) x8.2.1.h (Rd.row 4 rfl) x8.2.2.1.h (Rd.row 5 rfl) x8.2.2.2.h (Rd.row 6 rfl) (hm.roomI 6 rfl) x10.h (Rd.row 1 rfl) hb8)) rfl rfl (fun x12 => ?_)
      refine r_q (q_assign rfl rfl) rfl rfl ?_
      refine r_nil ?_
      refine j_then ?_
      refine j_seq ?_
      refine j_seq ?_
      refine j_region ?_
      refine r_q (q_move rfl rfl) rfl rfl ?_
      refine r_q (q_move rfl rfl) rfl rfl ?_
      refine r_q (q_bneq un4 rfl rfl rfl) rfl rfl ?_
      refine r_nil ?_
      refine j_then ?_
      rcases of_if h with ⟨c3, h⟩ | ⟨c3, h⟩
      · refine j_false rfl (bne_f c3) ?_
        refine j_skip ?_
        refine j_then ?_
        refine j_seq ?_
        refine j_seq ?_
        obtain ⟨v19, v20, v21, v22, hb9, h⟩ := of_b4 h
        obtain ⟨v23, hb10, h⟩ := of_b1 h
        refine j_draw (.box x11 53 [(i6 v15), (.slice x10.A x10.n x10.c), (i6 v17)] :: .row x10.A x10.c 3 1 (ii v16) :: .box x9 57 [(.slice x8.1.A x8.1.n x8.1.c), (.slice x8.2.1.A x8.2.1.n x8.2.1.c), (.slice x8.2.2.1.A x8.2.2.1.n x8.2.2.1.c), (.slice x8.2.2.2.A x8.2.2.2.n x8.2.2.2.c)] :: .row x8.1.A x8.1.c 3 1 (ii v11) :: .row x8.2.1.A x8.2.1.c 3 1 (ii v12) :: .row x8.2.2.1.A x8.2.2.1.c 3 1 (ii v13) :: .row x8.2.2.2.A x8.2.2.2.c 3 1 (ii v14) :: .row x6.A x6.c 3 1 (ii v8) :: .row x5.1.A x5.1.c 3 1 (ii v3) :: .row x5.2.1.A x5.2.1.c 3 1 (ii v4) :: .row x5.2.2.1.A x5.2.2.1.c 3 1 (ii v5) :: .row x5.2.2.2.A x5.2.2.2.c 3 1 (ii v6) :: .box x2 50 [(i6 a1_0), (.slice a1_1_A a1_1_n a1_1_c), (i6 a1_2)] :: .box x1 48 [(.slice a0_0_A a0_0_n a0_0_c), (.slice a0_1_A a0_1_n a0_1_c), (.slice a0_2_A a0_2_n a0_2_c), (.slice a0_3_A a0_3_n a0_3_c)] :: F) 5 follows_any rfl ?_
        refine d_take 0 rfl (q_loadb_agg 2 rfl ag57 sz57 rfl rfl rfl rfl) rfl rfl (by kernel_rfl) (by kernel_rfl) (by kernel_rfl) (fun w h => h) ?_
        refine d_take 1 rfl (q_loadb_agg 13 rfl ag48 sz48 rfl rfl rfl rfl) rfl rfl (by kernel_rfl) (by kernel_rfl) (by kernel_rfl) (fun w h => h) ?_
        refine d_one 2 (by kernel_rfl) ?_
        refine o_do rfl (a_call ok37 rfl rfl rfl rfl (fun w hm => laws_toStore.calls K a0_0 a0_0_A a0_0_n a0_0_c a0_1 a0_1_A a0_1_n a0_1_c a0_2 a0_2_A a0_2_n a0_2_c a0_3 a0_3_A a0_3_n a0_3_c hm a0_0_h (Rd.drop 14 a0_0_R) a0_1_h (Rd.drop 14 a0_1_R) a0_2_h (Rd.drop 14 a0_2_R) a0_3_h (Rd.drop 14 a0_3_R) hb9)) rfl rfl (fun x13 w h => (h.drop 4)) (fun x13 => ?_)
        refine d_one 3 (by kernel_rfl) ?_
        refine o_do rfl (a_call ok41 rfl rfl rfl rfl (fun w hm => laws_eqStore.calls K v11 x8.1.A x8.1.n x8.1.c v12 x8.2.1.A x8.2.1.n x8.2.1.c v13 x8.2.2.1.A x8.2.2.1.n x8.2.2.1.c v14 x8.2.2.2.A x8.2.2.2.n x8.2.2.2.c v19 x13.1.A x13.1.n x13.1.c v20 x13.2.1.A x13.2.1.n x13.2.1.c v21 x13.2.2.1.A x13.2.2.1.n x13.2.2.1.c v22 x13.2.2.2.A x13.2.2.2.n x13.2.2.2.c hm x8.1.h (Rd.row 7 rfl) x8.2.1.h (Rd.row 8 rfl) x8.2.2.1.h (Rd.row 9 rfl) x8.2.2.2.h (Rd.row 10 rfl) x13.1.h (Rd.row 0 rfl) x13.2.1.h (Rd.row 1 rfl) x13.2.2.1.h (Rd.row 2 rfl) x13.2.2.2.h (Rd.row 3 rfl) hb10)) rfl rfl (fun x14 w h => (h.drop 4)) (fun x14 => ?_)
        refine d_take 4 rfl (q_not rfl rfl) rfl rfl (by kernel_rfl) (by kernel_rfl) (by kernel_rfl) (fun w h => (h.drop 4)) ?_
        refine d_done (by kernel_rfl) ?_
        refine j_then ?_
        rcases of_if h with ⟨c4, h⟩ | ⟨c4, h⟩
        · refine j_false rfl (not_f c4) ?_
          refine j_skip ?_
          refine j_then ?_
          refine j_seq ?_
          refine j_seq ?_
          obtain ⟨v24, v25, v26, hb11, h⟩ := of_b3 h
          obtain ⟨v27, hb12, h⟩ := of_b1 h
          refine j_draw (.row x13.1.A x13.1.c 3 1 (ii v19) :: .row x13.2.1.A x13.2.1.c 3 1 (ii v20) :: .row x13.2.2.1.A x13.2.2.1.c 3 1 (ii v21) :: .row x13.2.2.2.A x13.2.2.2.c 3 1 (ii v22) :: .box x11 53 [(i6 v15), (.slice x10.A x10.n x10.c), (i6 v17)] :: .row x10.A x10.c 3 1 (ii v16) :: .box x9 57 [(.slice x8.1.A x8.1.n x8.1.c), (.slice x8.2.1.A x8.2.1.n x8.2.1.c), (.slice x8.2.2.1.A x8.2.2.1.n x8.2.2.1.c), (.slice x8.2.2.2.A x8.2.2.2.n x8.2.2.2.c)] :: .row x8.1.A x8.1.c 3 1 (ii v11) :: .row x8.2.1.A x8.2.1.c 3 1 (ii v12) :: .row x8.2.2.1.A x8.2.2.1.c 3 1 (ii v13) :: .row x8.2.2.2.A x8.2.2.2.c 3 1 (ii v14) :: .row x6.A x6.c 3 1 (ii v8) :: .row x5.1.A x5.1.c 3 1 (ii v3) :: .row x5.2.1.A x5.2.1.c 3 1 (ii v4) :: .row x5.2.2.1.A x5.2.2.1.c 3 1 (ii v5) :: .row x5.2.2.2.A x5.2.2.2.c 3 1 (ii v6) :: .box x2 50 [(i6 a1_0), (.slice a1_1_A a1_1_n a1_1_c), (i6 a1_2)] :: .box x1 48 [(.slice a0_0_A a0_0_n a0_0_c), (.slice a0_1_A a0_1_n a0_1_c), (.slice a0_2_A a0_2_n a0_2_c), (.slice a0_3_A a0_3_n a0_3_c)] :: F) 5 follows_any rfl ?_
          refine d_take 0 rfl (q_loadb_agg 4 rfl ag53 sz53 rfl rfl rfl rfl) rfl rfl (by kernel_rfl) (by kernel_rfl) (by kernel_rfl) (fun w h => h) ?_
          refine d_take 1 rfl (q_loadb_agg 16 rfl ag50 sz50 rfl rfl rfl rfl) rfl rfl (by kernel_rfl) (by kernel_rfl) (by kernel_rfl) (fun w h => h) ?_
          refine d_one 2 (by kernel_rfl) ?_
          refine o_do rfl (a_call ok38 rfl rfl rfl rfl (fun w hm => laws_toGc.calls K a1_0 a1_1 a1_1_A a1_1_n a1_1_c a1_2 hm a1_1_h (Rd.drop 18 a1_1_R) hb11)) rfl rfl (fun x15 w h => h.tail) (fun x15 => ?_)
          refine d_one 3 (by kernel_rfl) ?_
          refine o_do rfl (a_call ok40 rfl rfl rfl rfl (fun w hm => laws_eqGc.calls K v15 v16 x10.A x10.n x10.c v17 v24 v25 x15.A x15.n x15.c v26 hm x10.h (Rd.row 6 rfl) x15.h (Rd.row 0 rfl) hb12)) rfl rfl (fun x16 w h => h.tail) (fun x16 => ?_)
          refine d_take 4 rfl (q_not rfl rfl) rfl rfl (by kernel_rfl) (by kernel_rfl) (by kernel_rfl) (fun w h => h.tail) ?_
          refine d_done (by kernel_rfl) ?_
          refine j_then ?_
          rcases of_if h with ⟨c5, h⟩ | ⟨c5, h⟩
          · refine j_false rfl (not_f c5) ?_
            refine j_skip ?_
            refine j_then ?_
            refine j_seq ?_
            refine j_region ?_
            refine r_q (q_assign rfl rfl) rfl rfl ?_
            refine r_nil ?_
            refine j_then ?_
            refine j_ret ?_
            cases h
            exact j_return rfl (ResOf.tmp rfl ResOf.nil) rfl (fun w h => ⟨(), rfl, (h.drop 19)⟩)
          · refine j_true rfl (not_t (var_f c5)) ?_
            refine j_seq ?_
            refine j_region ?_
            refine r_q (q_assign rfl rfl) rfl rfl ?_
            refine r_nil ?_
            refine j_then ?_
            refine j_ret ?_
            refine j_then_ret ?_
            cases h
            exact j_return rfl (ResOf.tmp rfl ResOf.nil) rfl (fun w h => ⟨(), rfl, (h.drop 19)⟩)
        · refine j_true rfl (not_t (var_f c4)) ?_
          refine j_seq ?_
          refine j_region ?_
          refine r_q (q_assign rfl rfl) rfl rfl ?_
          refine r_nil ?_
          refine j_then ?_
          refine j_ret ?_
          refine j_then_ret ?_
          cases h
          exact j_return rfl (ResOf.tmp rfl ResOf.nil) rfl (fun w h => ⟨(), rfl, (h.drop 18)⟩)
      · refine j_true rfl (bne_t c3) ?_
        refine j_seq ?_
        refine j_region ?_
        refine r_q (q_assign rfl rfl) rfl rfl ?_
        refine r_nil ?_
        refine j_then ?_
        refine j_ret ?_
        refine j_then_ret ?_
        cases h
        exact j_return rfl (ResOf.tmp rfl ResOf.nil) rfl (fun w h => ⟨(), rfl, (h.drop 14)⟩)

end Go.Proofs.Ytcdcikmphonkfaa.F
