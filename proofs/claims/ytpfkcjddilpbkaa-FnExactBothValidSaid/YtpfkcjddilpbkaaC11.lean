/- The program computes these pure functions, printed by the generator of wip/gen. -/
import Derived.Test.YtpfkcjddilpbkaaFa
import Derived.Test.YtpfkcjddilpbkaaFi
import Derived.Test.YtpfkcjddilpbkaaFj
import Derived.Test.YtpfkcjddilpbkaaFb
import Derived.Test.YtpfkcjddilpbkaaC0
import Derived.Test.YtpfkcjddilpbkaaC2
import Derived.Test.YtpfkcjddilpbkaaC4
import Derived.Test.YtpfkcjddilpbkaaC7
import Derived.Test.YtpfkcjddilpbkaaC8
namespace Go.Proofs.Ytpfkcjddilpbkaa.F
open Go Go.RowKit Go.Proofs.Ytpfkcjddilpbkaa.S
set_option linter.unusedVariables false
set_option maxRecDepth 100000
theorem spec_BothValid.calls (K : Nat) (a0_0 : List Int) (a0_0_A : Option Addr) (a0_0_n a0_0_c : Nat) (a0_1 : List Int) (a0_1_A : Option Addr) (a0_1_n a0_1_c : Nat) (a0_2 : List Int) (a0_2_A : Option Addr) (a0_2_n a0_2_c : Nat) (a0_3 : List Int) (a0_3_A : Option Addr) (a0_3_n a0_3_c : Nat) (a0_4 : Int) (a0_5 : List Int) (a0_5_A : Option Addr) (a0_5_n a0_5_c : Nat) (a0_6 : Int) (a0_7 : List (Int × Int × Int)) (a0_7_A : Option Addr) (a0_7_n a0_7_c : Nat) (a0_8 : Int) (a0_9 : Bool) {w0 w : World} {F : List Res} {r1 : Bool} (hm : Mem w0 (F) w) (a0_0_h : a0_0.length = a0_0_n) (a0_0_R : Rd w0 F a0_0_A (ii a0_0)) (a0_1_h : a0_1.length = a0_1_n) (a0_1_R : Rd w0 F a0_1_A (ii a0_1)) (a0_2_h : a0_2.length = a0_2_n) (a0_2_R : Rd w0 F a0_2_A (ii a0_2)) (a0_3_h : a0_3.length = a0_3_n) (a0_3_R : Rd w0 F a0_3_A (ii a0_3)) (a0_3_k : a0_3.length ≤ a0_3_c) (a0_5_h : a0_5.length = a0_5_n) (a0_5_R : Rd w0 F a0_5_A (ii a0_5)) (a0_7_h : a0_7.length = a0_7_n) (a0_7_R : Rd w0 F a0_7_A (trips a0_7)) (h : spec_BothValid.f K a0_0 a0_1 a0_2 a0_3 a0_4 a0_5 a0_6 a0_7 a0_8 a0_9 = some r1) :
    Calls Try.prog 27 (List.toArray [.agg (List.toArray [.slice a0_0_A a0_0_n a0_0_c, .slice a0_1_A a0_1_n a0_1_c, .slice a0_2_A a0_2_n a0_2_c, .slice a0_3_A a0_3_n a0_3_c, i6 a0_4, .slice a0_5_A a0_5_n a0_5_c, i6 a0_6, .slice a0_7_A a0_7_n a0_7_c, i6 a0_8, .bool a0_9])]) w fun e w' => ∃ x : Unit, e = .returned (.bool r1) ∧ Mem w0 (F) w' := by
  unfold spec_BothValid.f at h
  refine calls_of_J (n := 31) Try.func27 rfl rfl rfl hm ?_
  refine j_seq ?_
  refine j_region ?_
  refine r_do (a_box rfl rfl) rfl rfl (fun x1 => ?_)
  refine r_q (q_assign rfl rfl) rfl rfl ?_
  refine r_nil ?_
  refine j_then ?_
  refine j_seq ?_
  refine j_region ?_
  refine r_q (q_fieldAddr fi40_0 sz36 rfl rfl rfl) rfl rfl ?_
  refine r_q (q_loadb_agg 0 rfl ag36 sz36 rfl rfl rfl rfl) rfl rfl ?_
  refine r_q (q_fieldAddr fi40_1 sz37 rfl rfl rfl) rfl rfl ?_
  refine r_q (q_loadb_agg 0 rfl ag37 sz37 rfl rfl rfl rfl) rfl rfl ?_
  obtain ⟨v1, hb1, h⟩ := of_b1 h
  refine r_do (a_call ok56 rfl rfl rfl rfl (fun w hm => spec_GcValid.calls K a0_0 a0_0_A a0_0_n a0_0_c a0_1 a0_1_A a0_1_n a0_1_c a0_2 a0_2_A a0_2_n a0_2_c a0_3 a0_3_A a0_3_n a0_3_c a0_4 a0_5 a0_5_A a0_5_n a0_5_c a0_6 hm a0_0_h (Rd.drop 1 a0_0_R) a0_1_h (Rd.drop 1 a0_1_R) a0_2_h (Rd.drop 1 a0_2_R) a0_3_h (Rd.drop 1 a0_3_R) a0_3_k a0_5_h (Rd.drop 1 a0_5_R) hb1)) rfl rfl (fun x2 => ?_)
  refine r_q (q_move rfl rfl) rfl rfl ?_
  rcases of_if h with ⟨c1, h⟩ | ⟨c1, h⟩
  · refine r_qon (q_fieldAddr fi40_2 sz38 rfl rfl rfl) rfl rfl rfl rfl c1 rfl ?_
    refine r_qon (q_loadb 0 rfl ag38 rfl rfl rfl) rfl rfl rfl rfl c1 rfl ?_
    refine r_qon (q_fieldAddr fi40_0 sz36 rfl rfl rfl) rfl rfl rfl rfl c1 rfl ?_
    refine r_qon (q_fieldAddr fi36_0 sz34 rfl rfl rfl) rfl rfl rfl rfl c1 rfl ?_
    refine r_qon (q_fieldAddr fi34_2 sz22 rfl rfl rfl) rfl rfl rfl rfl c1 rfl ?_
    refine r_qon (q_loadb 0 rfl ag22 rfl rfl rfl) rfl rfl rfl rfl c1 rfl ?_
    refine r_qon (q_lenX a0_2 a0_2_h un22 rfl rfl rfl rfl rfl) rfl rfl rfl rfl c1 rfl ?_
    obtain ⟨v2, hb2, h⟩ := of_b1 h
    refine r_on (a_call ok51 rfl rfl rfl rfl (fun w hm => spec_l7Ops.calls K a0_7 a0_7_A a0_7_n a0_7_c (a0_2.length : Int) hm a0_7_h (Rd.drop 1 a0_7_R) hb2)) rfl rfl rfl rfl c1 rfl (fun x3 => ?_)
    refine r_q (q_pick_t rfl rfl c1 rfl) rfl rfl ?_
    refine r_q (q_move rfl rfl) rfl rfl ?_
    rcases of_if h with ⟨c2, h⟩ | ⟨c2, h⟩
    · refine r_qon (q_fieldAddr fi40_3 sz3 rfl rfl rfl) rfl rfl rfl rfl c2 rfl ?_
      refine r_qon (q_loadb 0 rfl ag3 rfl rfl rfl) rfl rfl rfl rfl c2 rfl ?_
      refine r_qon (q_geq rfl rfl rfl) rfl rfl rfl rfl c2 rfl ?_
      refine r_q (q_pick_t rfl rfl c2 rfl) rfl rfl ?_
      refine r_q (q_move rfl rfl) rfl rfl ?_
      rcases of_if h with ⟨c3, h⟩ | ⟨c3, h⟩
      · refine r_qon (q_fieldAddr fi40_3 sz3 rfl rfl rfl) rfl rfl rfl rfl (decide_eq_true c3) rfl ?_
        refine r_qon (q_loadb 0 rfl ag3 rfl rfl rfl) rfl rfl rfl rfl (decide_eq_true c3) rfl ?_
        refine r_qon (q_fieldAddr fi40_2 sz38 rfl rfl rfl) rfl rfl rfl rfl (decide_eq_true c3) rfl ?_
        refine r_qon (q_loadb 0 rfl ag38 rfl rfl rfl) rfl rfl rfl rfl (decide_eq_true c3) rfl ?_
        refine r_qon (q_lenX a0_7 a0_7_h un38 rfl rfl rfl rfl rfl) rfl rfl rfl rfl (decide_eq_true c3) rfl ?_
        refine r_qon (q_leq rfl rfl rfl) rfl rfl rfl rfl (decide_eq_true c3) rfl ?_
        refine r_q (q_pick_t rfl rfl (decide_eq_true c3) rfl) rfl rfl ?_
        refine r_q (q_assign rfl rfl) rfl rfl ?_
        refine r_nil ?_
        refine j_then ?_
        refine j_ret ?_
        cases h
        exact j_return rfl (ResOf.tmp rfl ResOf.nil) rfl (fun w h => ⟨(), rfl, h.tail⟩)
      · refine r_off rfl rfl rfl rfl (decide_eq_false c3) rfl ?_
        refine r_off rfl rfl rfl rfl (decide_eq_false c3) rfl ?_
        refine r_off rfl rfl rfl rfl (decide_eq_false c3) rfl ?_
        refine r_off rfl rfl rfl rfl (decide_eq_false c3) rfl ?_
        refine r_off rfl rfl rfl rfl (decide_eq_false c3) rfl ?_
        refine r_off rfl rfl rfl rfl (decide_eq_false c3) rfl ?_
        refine r_q (q_pick_f rfl rfl (decide_eq_false c3) rfl) rfl rfl ?_
        refine r_q (q_assign rfl rfl) rfl rfl ?_
        refine r_nil ?_
        refine j_then ?_
        refine j_ret ?_
        cases h
        exact j_return rfl (ResOf.tmp rfl ResOf.nil) rfl (fun w h => ⟨(), rfl, h.tail⟩)
    · refine r_off rfl rfl rfl rfl (var_f c2) rfl ?_
      refine r_off rfl rfl rfl rfl (var_f c2) rfl ?_
      refine r_off rfl rfl rfl rfl (var_f c2) rfl ?_
      refine r_q (q_pick_f rfl rfl (var_f c2) rfl) rfl rfl ?_
      refine r_q (q_move rfl rfl) rfl rfl ?_
      refine r_off rfl rfl rfl rfl rfl rfl ?_
      refine r_off rfl rfl rfl rfl rfl rfl ?_
      refine r_off rfl rfl rfl rfl rfl rfl ?_
      refine r_off rfl rfl rfl rfl rfl rfl ?_
      refine r_off rfl rfl rfl rfl rfl rfl ?_
      refine r_off rfl rfl rfl rfl rfl rfl ?_
      refine r_q (q_pick_f rfl rfl rfl rfl) rfl rfl ?_
      refine r_q (q_assign rfl rfl) rfl rfl ?_
      refine r_nil ?_
      refine j_then ?_
      refine j_ret ?_
      cases h
      exact j_return rfl (ResOf.tmp rfl ResOf.nil) rfl (fun w h => ⟨(), rfl, h.tail⟩)
  · refine r_off rfl rfl rfl rfl (var_f c1) rfl ?_
    refine r_off rfl rfl rfl rfl (var_f c1) rfl ?_
    refine r_off rfl rfl rfl rfl (var_f c1) rfl ?_
    refine r_off rfl rfl rfl rfl (var_f c1) rfl ?_
    refine r_off rfl rfl rfl rfl (var_f c1) rfl ?_
    refine r_off rfl rfl rfl rfl (var_f c1) rfl ?_
    refine r_off rfl rfl rfl rfl (var_f c1) rfl ?_
    refine r_off rfl rfl rfl rfl (var_f c1) rfl ?_
    refine r_q (q_pick_f rfl rfl (var_f c1) rfl) rfl rfl ?_
    refine r_q (q_move rfl rfl) rfl rfl ?_
    refine r_off rfl rfl rfl rfl rfl rfl ?_
    refine r_off rfl rfl rfl rfl rfl rfl ?_
    refine r_off rfl rfl rfl rfl rfl rfl ?_
    refine r_q (q_pick_f rfl rfl rfl rfl) rfl rfl ?_
    refine r_q (q_move rfl rfl) rfl rfl ?_
    refine r_off rfl rfl rfl rfl rfl rfl ?_
    refine r_off rfl rfl rfl rfl rfl rfl ?_
    refine r_off rfl rfl rfl rfl rfl rfl ?_
    refine r_off rfl rfl rfl rfl rfl rfl ?_
    refine r_off rfl rfl rfl rfl rfl rfl ?_
    refine r_off rfl rfl rfl rfl rfl rfl ?_
    refine r_q (q_pick_f rfl rfl rfl rfl) rfl rfl ?_
    refine r_q (q_assign rfl rfl) rfl rfl ?_
    refine r_nil ?_
    refine j_then ?_
    refine j_ret ?_
    cases h
    exact j_return rfl (ResOf.tmp rfl ResOf.nil) rfl (fun w h => ⟨(), rfl, h.tail⟩)

theorem laws_FnExactBothValid.calls (K : Nat) (a0_0 : List Int) (a0_0_A : Option Addr) (a0_0_n a0_0_c : Nat) (a0_1 : List Int) (a0_1_A : Option Addr) (a0_1_n a0_1_c : Nat) (a0_2 : List Int) (a0_2_A : Option Addr) (a0_2_n a0_2_c : Nat) (a0_3 : List Int) (a0_3_A : Option Addr) (a0_3_n a0_3_c : Nat) (a0_4 : Int) (a0_5 : List Int) (a0_5_A : Option Addr) (a0_5_n a0_5_c : Nat) (a0_6 : Int) (a0_7 : List (Int × Int × Int)) (a0_7_A : Option Addr) (a0_7_n a0_7_c : Nat) (a0_8 : Int) (a0_9 : Bool) {w0 w : World} {F : List Res} {r1 : Bool} (hm : Mem w0 (F) w) (a0_0_h : a0_0.length = a0_0_n) (a0_0_R : Rd w0 F a0_0_A (ii a0_0)) (a0_1_h : a0_1.length = a0_1_n) (a0_1_R : Rd w0 F a0_1_A (ii a0_1)) (a0_2_h : a0_2.length = a0_2_n) (a0_2_R : Rd w0 F a0_2_A (ii a0_2)) (a0_3_h : a0_3.length = a0_3_n) (a0_3_R : Rd w0 F a0_3_A (ii a0_3)) (a0_5_h : a0_5.length = a0_5_n) (a0_5_R : Rd w0 F a0_5_A (ii a0_5)) (a0_7_h : a0_7.length = a0_7_n) (a0_7_R : Rd w0 F a0_7_A (trips a0_7)) (h : laws_FnExactBothValid.f K a0_0 a0_1 a0_2 a0_3 a0_4 a0_5 a0_6 a0_7 a0_8 a0_9 = some r1) :
    Calls Try.prog 7 (List.toArray [.agg (List.toArray [.slice a0_0_A a0_0_n a0_0_c, .slice a0_1_A a0_1_n a0_1_c, .slice a0_2_A a0_2_n a0_2_c, .slice a0_3_A a0_3_n a0_3_c, i6 a0_4, .slice a0_5_A a0_5_n a0_5_c, i6 a0_6, .slice a0_7_A a0_7_n a0_7_c, i6 a0_8, .bool a0_9])]) w fun e w' => ∃ x : Unit, e = .returned (.bool r1) ∧ Mem w0 (F) w' := by
  unfold laws_FnExactBothValid.f at h
  refine calls_of_J (n := 27) Try.func7 rfl rfl rfl hm ?_
  refine j_seq ?_
  refine j_region ?_
  refine r_do (a_box rfl rfl) rfl rfl (fun x1 => ?_)
  refine r_q (q_assign rfl rfl) rfl rfl ?_
  refine r_nil ?_
  refine j_then ?_
  refine j_seq ?_
  refine j_region ?_
  refine r_q (q_assign rfl rfl) rfl rfl ?_
  refine r_nil ?_
  refine j_then ?_
  refine j_seq ?_
  refine j_region ?_
  refine r_q (q_loadb_agg 0 rfl ag31 sz31 rfl rfl rfl rfl) rfl rfl ?_
  refine r_q (q_move rfl rfl) rfl rfl ?_
  obtain ⟨v1, hb1, h⟩ := of_b1 h
  refine r_do (a_call ok8 rfl rfl rfl rfl (fun w hm => laws_szBoth.calls K a0_0 a0_0_A a0_0_n a0_0_c a0_1 a0_1_A a0_1_n a0_1_c a0_2 a0_2_A a0_2_n a0_2_c a0_3 a0_3_A a0_3_n a0_3_c a0_4 a0_5 a0_5_A a0_5_n a0_5_c a0_6 a0_7 a0_7_A a0_7_n a0_7_c a0_8 a0_9 (1048576:Int) hm a0_0_h (Rd.drop 1 a0_0_R) a0_1_h (Rd.drop 1 a0_1_R) a0_2_h (Rd.drop 1 a0_2_R) a0_3_h (Rd.drop 1 a0_3_R) a0_5_h (Rd.drop 1 a0_5_R) a0_7_h (Rd.drop 1 a0_7_R) hb1)) rfl rfl (fun x2 => ?_)
  refine r_q (q_assign rfl rfl) rfl rfl ?_
  refine r_nil ?_
  refine j_then ?_
  refine j_seq ?_
  refine j_seq ?_
  refine j_region ?_
  refine r_q (q_move rfl rfl) rfl rfl ?_
  refine r_q (q_lss rfl rfl rfl) rfl rfl ?_
  refine r_nil ?_
  refine j_then ?_
  rcases of_if h with ⟨c1, h⟩ | ⟨c1, h⟩
  · refine j_true rfl (decide_eq_true c1) ?_
    refine j_seq ?_
    refine j_region ?_
    refine r_q (q_assign rfl rfl) rfl rfl ?_
    refine r_nil ?_
    refine j_then ?_
    refine j_ret ?_
    refine j_then_ret ?_
    cases h
    exact j_return rfl (ResOf.tmp rfl ResOf.nil) rfl (fun w h => ⟨(), rfl, h.tail⟩)
  · refine j_false rfl (decide_eq_false c1) ?_
    refine j_skip ?_
    refine j_then ?_
    refine j_seq ?_
    refine j_region ?_
    refine r_q (q_loadb_agg 0 rfl ag31 sz31 rfl rfl rfl rfl) rfl rfl ?_
    obtain ⟨v2, v3, v4, v5, v6, v7, v8, v9, v10, v11, hb2, h⟩ := of_b10 h
    refine r_do (a_call ok10 rfl rfl rfl rfl (fun w hm => laws_toBoth.calls K a0_0 a0_0_A a0_0_n a0_0_c a0_1 a0_1_A a0_1_n a0_1_c a0_2 a0_2_A a0_2_n a0_2_c a0_3 a0_3_A a0_3_n a0_3_c a0_4 a0_5 a0_5_A a0_5_n a0_5_c a0_6 a0_7 a0_7_A a0_7_n a0_7_c a0_8 a0_9 hm a0_0_h (Rd.drop 1 a0_0_R) a0_1_h (Rd.drop 1 a0_1_R) a0_2_h (Rd.drop 1 a0_2_R) a0_3_h (Rd.drop 1 a0_3_R) a0_5_h (Rd.drop 1 a0_5_R) a0_7_h (Rd.drop 1 a0_7_R) hb2)) rfl rfl (fun x3 => ?_)
    obtain ⟨v12, hb3, h⟩ := of_b1 h
    refine r_do (a_call ok27 rfl rfl rfl rfl (fun w hm => spec_BothValid.calls K v2 x3.1.A x3.1.n x3.1.c v3 x3.2.1.A x3.2.1.n x3.2.1.c v4 x3.2.2.1.A x3.2.2.1.n x3.2.2.1.c v5 x3.2.2.2.1.A x3.2.2.2.1.n x3.2.2.2.1.c v6 v7 x3.2.2.2.2.1.A x3.2.2.2.2.1.n x3.2.2.2.2.1.c v8 v9 x3.2.2.2.2.2.A x3.2.2.2.2.2.n x3.2.2.2.2.2.c v10 v11 hm x3.1.h (Rd.row 0 rfl) x3.2.1.h (Rd.row 1 rfl) x3.2.2.1.h (Rd.row 2 rfl) x3.2.2.2.1.h (Rd.row 3 rfl) (hm.roomI 3 rfl) x3.2.2.2.2.1.h (Rd.row 4 rfl) x3.2.2.2.2.2.h (Rd.row 5 rfl) hb3)) rfl rfl (fun x4 => ?_)
    refine r_q (q_assign rfl rfl) rfl rfl ?_
    refine r_nil ?_
    refine j_then ?_
    refine j_seq ?_
    refine j_region ?_
    refine r_q (q_loadb_agg 6 rfl ag31 sz31 rfl rfl rfl rfl) rfl rfl ?_
    obtain ⟨v13, v14, v15, v16, v17, v18, v19, v20, v21, v22, hb4, h⟩ := of_b10 h
    refine r_do (a_call ok10 rfl rfl rfl rfl (fun w hm => laws_toBoth.calls K a0_0 a0_0_A a0_0_n a0_0_c a0_1 a0_1_A a0_1_n a0_1_c a0_2 a0_2_A a0_2_n a0_2_c a0_3 a0_3_A a0_3_n a0_3_c a0_4 a0_5 a0_5_A a0_5_n a0_5_c a0_6 a0_7 a0_7_A a0_7_n a0_7_c a0_8 a0_9 hm a0_0_h (Rd.drop 7 a0_0_R) a0_1_h (Rd.drop 7 a0_1_R) a0_2_h (Rd.drop 7 a0_2_R) a0_3_h (Rd.drop 7 a0_3_R) a0_5_h (Rd.drop 7 a0_5_R) a0_7_h (Rd.drop 7 a0_7_R) hb4)) rfl rfl (fun x5 => ?_)
    refine r_do (a_alloc zr40 rfl) rfl rfl (fun x6 => ?_)
    refine r_do (a_storeb 0 rfl sz40 rfl rfl rfl rfl (Nat.le_of_ble_eq_true rfl) rfl) rfl rfl (fun _ => ?_)
    refine j_b0 [(.slice x5.1.A x5.1.n x5.1.c), (.slice x5.2.1.A x5.2.1.n x5.2.1.c), (.slice x5.2.2.1.A x5.2.2.1.n x5.2.2.1.c), (.slice x5.2.2.2.1.A x5.2.2.2.1.n x5.2.2.2.1.c), (i6 v17), (.slice x5.2.2.2.2.1.A x5.2.2.2.2.1.n x5.2.2.2.2.1.c), (i6 v19), (.slice x5.2.2.2.2.2.A x5.2.2.2.2.2.n x5.2.2.2.2.2.c), (i6 v21), (.bool v22)] rfl ?_
    refine r_nil ?_
    refine j_then ?_
    refine j_seq ?_
    refine j_region ?_
    refine r_q (q_loadb_agg 0 rfl ag40 sz40 rfl rfl rfl rfl) rfl rfl ?_
    obtain ⟨v23, hb5, h⟩ := of_b1 h
    refine r_do (a_call ok19 rfl rfl rfl rfl (fun w hm => impl_BothValid.calls K v13 x5.1.A x5.1.n x5.1.c v14 x5.2.1.A x5.2.1.n x5.2.1.c v15 x5.2.2.1.A x5.2.2.1.n x5.2.2.1.c v16 x5.2.2.2.1.A x5.2.2.2.1.n x5.2.2.2.1.c v17 v18 x5.2.2.2.2.1.A x5.2.2.2.2.1.n x5.2.2.2.2.1.c v19 v20 x5.2.2.2.2.2.A x5.2.2.2.2.2.n x5.2.2.2.2.2.c v21 v22 hm x5.1.h (Rd.row 1 rfl) x5.2.1.h (Rd.row 2 rfl) x5.2.2.1.h (Rd.row 3 rfl) x5.2.2.2.1.h (Rd.row 4 rfl) (hm.roomI 4 rfl) x5.2.2.2.2.1.h (Rd.row 5 rfl) x5.2.2.2.2.2.h (Rd.row 6 rfl) hb5)) rfl rfl (fun x7 => ?_)
    refine r_q (q_assign rfl rfl) rfl rfl ?_
    refine r_nil ?_
    refine j_then ?_
    refine j_seq ?_
    refine j_seq ?_
    refine j_region ?_
    refine r_q (q_move rfl rfl) rfl rfl ?_
    refine r_q (q_move rfl rfl) rfl rfl ?_
    refine r_q (q_bneq un4 rfl rfl rfl) rfl rfl ?_
    refine r_nil ?_
    refine j_then ?_
    rcases of_if h with ⟨c2, h⟩ | ⟨c2, h⟩
    · refine j_false rfl (bne_f c2) ?_
      refine j_skip ?_
      refine j_then ?_
      refine j_seq ?_
      refine j_seq ?_
      obtain ⟨v24, v25, v26, v27, v28, v29, v30, v31, v32, v33, hb6, h⟩ := of_b10 h
      obtain ⟨v34, hb7, h⟩ := of_b1 h
      refine j_draw (.box x6 40 [(.slice x5.1.A x5.1.n x5.1.c), (.slice x5.2.1.A x5.2.1.n x5.2.1.c), (.slice x5.2.2.1.A x5.2.2.1.n x5.2.2.1.c), (.slice x5.2.2.2.1.A x5.2.2.2.1.n x5.2.2.2.1.c), (i6 v17), (.slice x5.2.2.2.2.1.A x5.2.2.2.2.1.n x5.2.2.2.2.1.c), (i6 v19), (.slice x5.2.2.2.2.2.A x5.2.2.2.2.2.n x5.2.2.2.2.2.c), (i6 v21), (.bool v22)] :: .row x5.1.A x5.1.c 3 1 (ii v13) :: .row x5.2.1.A x5.2.1.c 3 1 (ii v14) :: .row x5.2.2.1.A x5.2.2.1.c 3 1 (ii v15) :: .row x5.2.2.2.1.A x5.2.2.2.1.c 3 1 (ii v16) :: .row x5.2.2.2.2.1.A x5.2.2.2.2.1.c 3 1 (ii v18) :: .row x5.2.2.2.2.2.A x5.2.2.2.2.2.c 68 3 (trips v20) :: .row x3.1.A x3.1.c 3 1 (ii v2) :: .row x3.2.1.A x3.2.1.c 3 1 (ii v3) :: .row x3.2.2.1.A x3.2.2.1.c 3 1 (ii v4) :: .row x3.2.2.2.1.A x3.2.2.2.1.c 3 1 (ii v5) :: .row x3.2.2.2.2.1.A x3.2.2.2.2.1.c 3 1 (ii v7) :: .row x3.2.2.2.2.2.A x3.2.2.2.2.2.c 68 3 (trips v9) :: .box x1 31 [(.slice a0_0_A a0_0_n a0_0_c), (.slice a0_1_A a0_1_n a0_1_c), (.slice a0_2_A a0_2_n a0_2_c), (.slice a0_3_A a0_3_n a0_3_c), (i6 a0_4), (.slice a0_5_A a0_5_n a0_5_c), (i6 a0_6), (.slice a0_7_A a0_7_n a0_7_c), (i6 a0_8), (.bool a0_9)] :: F) 5 follows_any rfl ?_
      refine d_take 0 rfl (q_loadb_agg 0 rfl ag40 sz40 rfl rfl rfl rfl) rfl rfl (by kernel_rfl) (by kernel_rfl) (by kernel_rfl) (fun w h => h) ?_
      refine d_take 1 rfl (q_loadb_agg 13 rfl ag31 sz31 rfl rfl rfl rfl) rfl rfl (by kernel_rfl) (by kernel_rfl) (by kernel_rfl) (fun w h => h) ?_
      refine d_one 2 (by kernel_rfl) ?_
      refine o_do rfl (a_call ok10 rfl rfl rfl rfl (fun w hm => laws_toBoth.calls K a0_0 a0_0_A a0_0_n a0_0_c a0_1 a0_1_A a0_1_n a0_1_c a0_2 a0_2_A a0_2_n a0_2_c a0_3 a0_3_A a0_3_n a0_3_c a0_4 a0_5 a0_5_A a0_5_n a0_5_c a0_6 a0_7 a0_7_A a0_7_n a0_7_c a0_8 a0_9 hm a0_0_h (Rd.drop 14 a0_0_R) a0_1_h (Rd.drop 14 a0_1_R) a0_2_h (Rd.drop 14 a0_2_R) a0_3_h (Rd.drop 14 a0_3_R) a0_5_h (Rd.drop 14 a0_5_R) a0_7_h (Rd.drop 14 a0_7_R) hb6)) rfl rfl (fun x8 w h => (h.drop 6)) (fun x8 => ?_)
      refine d_one 3 (by kernel_rfl) ?_
      refine o_do rfl (a_call ok12 rfl rfl rfl rfl (fun w hm => laws_eqBoth.calls K v13 x5.1.A x5.1.n x5.1.c v14 x5.2.1.A x5.2.1.n x5.2.1.c v15 x5.2.2.1.A x5.2.2.1.n x5.2.2.1.c v16 x5.2.2.2.1.A x5.2.2.2.1.n x5.2.2.2.1.c v17 v18 x5.2.2.2.2.1.A x5.2.2.2.2.1.n x5.2.2.2.2.1.c v19 v20 x5.2.2.2.2.2.A x5.2.2.2.2.2.n x5.2.2.2.2.2.c v21 v22 v24 x8.1.A x8.1.n x8.1.c v25 x8.2.1.A x8.2.1.n x8.2.1.c v26 x8.2.2.1.A x8.2.2.1.n x8.2.2.1.c v27 x8.2.2.2.1.A x8.2.2.2.1.n x8.2.2.2.1.c v28 v29 x8.2.2.2.2.1.A x8.2.2.2.2.1.n x8.2.2.2.2.1.c v30 v31 x8.2.2.2.2.2.A x8.2.2.2.2.2.n x8.2.2.2.2.2.c v32 v33 hm x5.1.h (Rd.row 7 rfl) x5.2.1.h (Rd.row 8 rfl) x5.2.2.1.h (Rd.row 9 rfl) x5.2.2.2.1.h (Rd.row 10 rfl) x5.2.2.2.2.1.h (Rd.row 11 rfl) x5.2.2.2.2.2.h (Rd.row 12 rfl) x8.1.h (Rd.row 0 rfl) x8.2.1.h (Rd.row 1 rfl) x8.2.2.1.h (Rd.row 2 rfl) x8.2.2.2.1.h (Rd.row 3 rfl) x8.2.2.2.2.1.h (Rd.row 4 rfl) x8.2.2.2.2.2.h (Rd.row 5 rfl) hb7)) rfl rfl (fun x9 w h => (h.drop 6)) (fun x9 => ?_)
      refine d_take 4 rfl (q_not rfl rfl) rfl rfl (by kernel_rfl) (by kernel_rfl) (by kernel_rfl) (fun w h => (h.drop 6)) ?_
      refine d_done (by kernel_rfl) ?_
      refine j_then ?_
      rcases of_if h with ⟨c3, h⟩ | ⟨c3, h⟩
      · refine j_false rfl (not_f c3) ?_
        refine j_skip ?_
        refine j_then ?_
        refine j_seq ?_
        refine j_region ?_
        refine r_q (q_assign rfl rfl) rfl rfl ?_
        refine r_nil ?_
        refine j_then ?_
        refine j_ret ?_
        cases h
        exact j_return rfl (ResOf.tmp rfl ResOf.nil) rfl (fun w h => ⟨(), rfl, (h.drop 20)⟩)
      · refine j_true rfl (not_t (var_f c3)) ?_
        refine j_seq ?_
        refine j_region ?_
        refine r_q (q_assign rfl rfl) rfl rfl ?_
        refine r_nil ?_
        refine j_then ?_
        refine j_ret ?_
        refine j_then_ret ?_
        cases h
        exact j_return rfl (ResOf.tmp rfl ResOf.nil) rfl (fun w h => ⟨(), rfl, (h.drop 20)⟩)
    · refine j_true rfl (bne_t c2) ?_
      refine j_seq ?_
      refine j_region ?_
      refine r_q (q_assign rfl rfl) rfl rfl ?_
      refine r_nil ?_
      refine j_then ?_
      refine j_ret ?_
      refine j_then_ret ?_
      cases h
      exact j_return rfl (ResOf.tmp rfl ResOf.nil) rfl (fun w h => ⟨(), rfl, (h.drop 14)⟩)

end Go.Proofs.Ytpfkcjddilpbkaa.F
