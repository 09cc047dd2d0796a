/- The program computes these pure functions, printed by the generator of wip/gen. -/
import Derived.Test.YtpfkcjddilpbkaaFa
import Derived.Test.YtpfkcjddilpbkaaFj
import Derived.Test.YtpfkcjddilpbkaaFb
namespace Go.Proofs.Ytpfkcjddilpbkaa.F
open Go Go.RowKit Go.Proofs.Ytpfkcjddilpbkaa.S
set_option linter.unusedVariables false
set_option maxRecDepth 100000
theorem laws_szIntS.calls (K : Nat) (a0 : List Int) (a0_A : Option Addr) (a0_n a0_c : Nat) (a1 : Int) {w0 w : World} {F : List Res} {r1 : Int} (hm : Mem w0 (F) w) (a0_h : a0.length = a0_n) (a0_R : Rd w0 F a0_A (ii a0)) (h : laws_szIntS.f K a0 a1 = some r1) :
    Calls Try.prog 61 (List.toArray [.slice a0_A a0_n a0_c, i6 a1]) w fun e w' => ∃ x : Unit, e = .returned (i6 r1) ∧ Mem w0 (F) w' := by
  unfold laws_szIntS.f at h
  refine calls_of_J (n := 12) Try.func61 rfl rfl rfl hm ?_
  refine j_seq ?_
  refine j_region ?_
  refine r_q (q_assign rfl rfl) rfl rfl ?_
  refine r_nil ?_
  refine j_then ?_
  refine j_seq ?_
  refine j_region ?_
  refine r_q (q_move rfl rfl) rfl rfl ?_
  refine r_q (q_move rfl rfl) rfl rfl ?_
  refine r_q (q_lenX a0 a0_h un22 rfl rfl rfl rfl rfl) rfl rfl ?_
  refine r_q (q_sub rfl rfl rfl) rfl rfl ?_
  refine r_q (q_assign rfl rfl) rfl rfl ?_
  refine r_nil ?_
  refine j_then ?_
  refine j_seq ?_
  refine j_seq ?_
  refine j_region ?_
  refine r_q (q_move rfl rfl) rfl rfl ?_
  refine r_q (q_lss rfl rfl rfl) rfl rfl ?_
  refine r_nil ?_
  refine j_then ?_
  rcases of_if h with ⟨c1, h⟩ | ⟨c1, h⟩
  · refine j_true rfl (decide_eq_true c1) ?_
    refine j_seq ?_
    refine j_region ?_
    refine r_q (q_assign rfl rfl) rfl rfl ?_
    refine r_nil ?_
    refine j_then ?_
    refine j_ret ?_
    refine j_then_ret ?_
    cases h
    exact j_return rfl (ResOf.tmp rfl ResOf.nil) rfl (fun w h => ⟨(), rfl, h⟩)
  · refine j_false rfl (decide_eq_false c1) ?_
    refine j_skip ?_
    refine j_then ?_
    refine j_seq ?_
    refine j_region ?_
    refine r_q (q_move rfl rfl) rfl rfl ?_
    refine r_q (q_assign rfl rfl) rfl rfl ?_
    refine r_nil ?_
    refine j_then ?_
    refine j_ret ?_
    cases h
    exact j_return rfl (ResOf.tmp rfl ResOf.nil) rfl (fun w h => ⟨(), rfl, h⟩)

theorem laws_szHeap.calls (K : Nat) (a0_0 : List Int) (a0_0_A : Option Addr) (a0_0_n a0_0_c : Nat) (a0_1 : List Int) (a0_1_A : Option Addr) (a0_1_n a0_1_c : Nat) (a0_2 : List Int) (a0_2_A : Option Addr) (a0_2_n a0_2_c : Nat) (a1 : Int) {w0 w : World} {F : List Res} {r1 : Int} (hm : Mem w0 (F) w) (a0_0_h : a0_0.length = a0_0_n) (a0_0_R : Rd w0 F a0_0_A (ii a0_0)) (a0_1_h : a0_1.length = a0_1_n) (a0_1_R : Rd w0 F a0_1_A (ii a0_1)) (a0_2_h : a0_2.length = a0_2_n) (a0_2_R : Rd w0 F a0_2_A (ii a0_2)) (h : laws_szHeap.f K a0_0 a0_1 a0_2 a1 = some r1) :
    Calls Try.prog 60 (List.toArray [.agg (List.toArray [.slice a0_0_A a0_0_n a0_0_c, .slice a0_1_A a0_1_n a0_1_c, .slice a0_2_A a0_2_n a0_2_c]), i6 a1]) w fun e w' => ∃ x : Unit, e = .returned (i6 r1) ∧ Mem w0 (F) w' := by
  unfold laws_szHeap.f at h
  refine calls_of_J (n := 24) Try.func60 rfl rfl rfl hm ?_
  refine j_seq ?_
  refine j_region ?_
  refine r_do (a_box rfl rfl) rfl rfl (fun x1 => ?_)
  refine r_q (q_assign rfl rfl) rfl rfl ?_
  refine r_nil ?_
  refine j_then ?_
  refine j_seq ?_
  refine j_region ?_
  refine r_q (q_fieldAddr fi24_0 sz22 rfl rfl rfl) rfl rfl ?_
  refine r_q (q_loadb 0 rfl ag22 rfl rfl rfl) rfl rfl ?_
  refine r_q (q_move rfl rfl) rfl rfl ?_
  obtain ⟨v1, hb1, h⟩ := of_b1 h
  refine r_do (a_call ok61 rfl rfl rfl rfl (fun w hm => laws_szIntS.calls K a0_0 a0_0_A a0_0_n a0_0_c a1 hm a0_0_h (Rd.drop 1 a0_0_R) hb1)) rfl rfl (fun x2 => ?_)
  refine r_q (q_assign rfl rfl) rfl rfl ?_
  refine r_nil ?_
  refine j_then ?_
  refine j_seq ?_
  refine j_seq ?_
  refine j_region ?_
  refine r_q (q_move rfl rfl) rfl rfl ?_
  refine r_q (q_lss rfl rfl rfl) rfl rfl ?_
  refine r_nil ?_
  refine j_then ?_
  rcases of_if h with ⟨c1, h⟩ | ⟨c1, h⟩
  · refine j_true rfl (decide_eq_true c1) ?_
    refine j_seq ?_
    refine j_region ?_
    refine r_q (q_assign rfl rfl) rfl rfl ?_
    refine r_nil ?_
    refine j_then ?_
    refine j_ret ?_
    refine j_then_ret ?_
    cases h
    exact j_return rfl (ResOf.tmp rfl ResOf.nil) rfl (fun w h => ⟨(), rfl, h.tail⟩)
  · refine j_false rfl (decide_eq_false c1) ?_
    refine j_skip ?_
    refine j_then ?_
    refine j_seq ?_
    refine j_region ?_
    refine r_q (q_fieldAddr fi24_1 sz22 rfl rfl rfl) rfl rfl ?_
    refine r_q (q_loadb 0 rfl ag22 rfl rfl rfl) rfl rfl ?_
    refine r_q (q_move rfl rfl) rfl rfl ?_
    obtain ⟨v2, hb2, h⟩ := of_b1 h
    refine r_do (a_call ok61 rfl rfl rfl rfl (fun w hm => laws_szIntS.calls K a0_1 a0_1_A a0_1_n a0_1_c v1 hm a0_1_h (Rd.drop 1 a0_1_R) hb2)) rfl rfl (fun x3 => ?_)
    refine r_q (q_assign rfl rfl) rfl rfl ?_
    refine r_nil ?_
    refine j_then ?_
    refine j_seq ?_
    refine j_seq ?_
    refine j_region ?_
    refine r_q (q_move rfl rfl) rfl rfl ?_
    refine r_q (q_lss rfl rfl rfl) rfl rfl ?_
    refine r_nil ?_
    refine j_then ?_
    rcases of_if h with ⟨c2, h⟩ | ⟨c2, h⟩
    · refine j_true rfl (decide_eq_true c2) ?_
      refine j_seq ?_
      refine j_region ?_
      refine r_q (q_assign rfl rfl) rfl rfl ?_
      refine r_nil ?_
      refine j_then ?_
      refine j_ret ?_
      refine j_then_ret ?_
      cases h
      exact j_return rfl (ResOf.tmp rfl ResOf.nil) rfl (fun w h => ⟨(), rfl, h.tail⟩)
    · refine j_false rfl (decide_eq_false c2) ?_
      refine j_skip ?_
      refine j_then ?_
      refine j_seq ?_
      refine j_region ?_
      refine r_q (q_fieldAddr fi24_2 sz22 rfl rfl rfl) rfl rfl ?_
      refine r_q (q_loadb 0 rfl ag22 rfl rfl rfl) rfl rfl ?_
      refine r_q (q_move rfl rfl) rfl rfl ?_
      obtain ⟨v3, hb3, h⟩ := of_b1 h
      refine r_do (a_call ok61 rfl rfl rfl rfl (fun w hm => laws_szIntS.calls K a0_2 a0_2_A a0_2_n a0_2_c v2 hm a0_2_h (Rd.drop 1 a0_2_R) hb3)) rfl rfl (fun x4 => ?_)
      refine r_q (q_assign rfl rfl) rfl rfl ?_
      refine r_nil ?_
      refine j_then ?_
      refine j_seq ?_
      refine j_seq ?_
      refine j_region ?_
      refine r_q (q_move rfl rfl) rfl rfl ?_
      refine r_q (q_lss rfl rfl rfl) rfl rfl ?_
      refine r_nil ?_
      refine j_then ?_
      rcases of_if h with ⟨c3, h⟩ | ⟨c3, h⟩
      · refine j_true rfl (decide_eq_true c3) ?_
        refine j_seq ?_
        refine j_region ?_
        refine r_q (q_assign rfl rfl) rfl rfl ?_
        refine r_nil ?_
        refine j_then ?_
        refine j_ret ?_
        refine j_then_ret ?_
        cases h
        exact j_return rfl (ResOf.tmp rfl ResOf.nil) rfl (fun w h => ⟨(), rfl, h.tail⟩)
      · refine j_false rfl (decide_eq_false c3) ?_
        refine j_skip ?_
        refine j_then ?_
        refine j_seq ?_
        refine j_region ?_
        refine r_q (q_move rfl rfl) rfl rfl ?_
        refine r_q (q_assign rfl rfl) rfl rfl ?_
        refine r_nil ?_
        refine j_then ?_
        refine j_ret ?_
        cases h
        exact j_return rfl (ResOf.tmp rfl ResOf.nil) rfl (fun w h => ⟨(), rfl, h.tail⟩)

theorem laws_szStore.calls (K : Nat) (a0_0 : List Int) (a0_0_A : Option Addr) (a0_0_n a0_0_c : Nat) (a0_1 : List Int) (a0_1_A : Option Addr) (a0_1_n a0_1_c : Nat) (a0_2 : List Int) (a0_2_A : Option Addr) (a0_2_n a0_2_c : Nat) (a0_3 : List Int) (a0_3_A : Option Addr) (a0_3_n a0_3_c : Nat) (a1 : Int) {w0 w : World} {F : List Res} {r1 : Int} (hm : Mem w0 (F) w) (a0_0_h : a0_0.length = a0_0_n) (a0_0_R : Rd w0 F a0_0_A (ii a0_0)) (a0_1_h : a0_1.length = a0_1_n) (a0_1_R : Rd w0 F a0_1_A (ii a0_1)) (a0_2_h : a0_2.length = a0_2_n) (a0_2_R : Rd w0 F a0_2_A (ii a0_2)) (a0_3_h : a0_3.length = a0_3_n) (a0_3_R : Rd w0 F a0_3_A (ii a0_3)) (h : laws_szStore.f K a0_0 a0_1 a0_2 a0_3 a1 = some r1) :
    Calls Try.prog 28 (List.toArray [.agg (List.toArray [.slice a0_0_A a0_0_n a0_0_c, .slice a0_1_A a0_1_n a0_1_c, .slice a0_2_A a0_2_n a0_2_c, .slice a0_3_A a0_3_n a0_3_c]), i6 a1]) w fun e w' => ∃ x : Unit, e = .returned (i6 r1) ∧ Mem w0 (F) w' := by
  unfold laws_szStore.f at h
  refine calls_of_J (n := 18) Try.func28 rfl rfl rfl hm ?_
  refine j_seq ?_
  refine j_region ?_
  refine r_do (a_box rfl rfl) rfl rfl (fun x1 => ?_)
  refine r_q (q_assign rfl rfl) rfl rfl ?_
  refine r_nil ?_
  refine j_then ?_
  refine j_seq ?_
  refine j_region ?_
  refine r_q (q_fieldAddr fi26_0 sz24 rfl rfl rfl) rfl rfl ?_
  refine r_q (q_loadb_agg 0 rfl ag24 sz24 rfl rfl rfl rfl) rfl rfl ?_
  refine r_q (q_move rfl rfl) rfl rfl ?_
  obtain ⟨v1, hb1, h⟩ := of_b1 h
  refine r_do (a_call ok60 rfl rfl rfl rfl (fun w hm => laws_szHeap.calls K a0_0 a0_0_A a0_0_n a0_0_c a0_1 a0_1_A a0_1_n a0_1_c a0_2 a0_2_A a0_2_n a0_2_c a1 hm a0_0_h (Rd.drop 1 a0_0_R) a0_1_h (Rd.drop 1 a0_1_R) a0_2_h (Rd.drop 1 a0_2_R) hb1)) rfl rfl (fun x2 => ?_)
  refine r_q (q_assign rfl rfl) rfl rfl ?_
  refine r_nil ?_
  refine j_then ?_
  refine j_seq ?_
  refine j_seq ?_
  refine j_region ?_
  refine r_q (q_move rfl rfl) rfl rfl ?_
  refine r_q (q_lss rfl rfl rfl) rfl rfl ?_
  refine r_nil ?_
  refine j_then ?_
  rcases of_if h with ⟨c1, h⟩ | ⟨c1, h⟩
  · refine j_true rfl (decide_eq_true c1) ?_
    refine j_seq ?_
    refine j_region ?_
    refine r_q (q_assign rfl rfl) rfl rfl ?_
    refine r_nil ?_
    refine j_then ?_
    refine j_ret ?_
    refine j_then_ret ?_
    cases h
    exact j_return rfl (ResOf.tmp rfl ResOf.nil) rfl (fun w h => ⟨(), rfl, h.tail⟩)
  · refine j_false rfl (decide_eq_false c1) ?_
    refine j_skip ?_
    refine j_then ?_
    refine j_seq ?_
    refine j_region ?_
    refine r_q (q_fieldAddr fi26_1 sz22 rfl rfl rfl) rfl rfl ?_
    refine r_q (q_loadb 0 rfl ag22 rfl rfl rfl) rfl rfl ?_
    refine r_q (q_move rfl rfl) rfl rfl ?_
    obtain ⟨v2, hb2, h⟩ := of_b1 h
    refine r_do (a_call ok61 rfl rfl rfl rfl (fun w hm => laws_szIntS.calls K a0_3 a0_3_A a0_3_n a0_3_c v1 hm a0_3_h (Rd.drop 1 a0_3_R) hb2)) rfl rfl (fun x3 => ?_)
    refine r_q (q_assign rfl rfl) rfl rfl ?_
    refine r_nil ?_
    refine j_then ?_
    refine j_seq ?_
    refine j_seq ?_
    refine j_region ?_
    refine r_q (q_move rfl rfl) rfl rfl ?_
    refine r_q (q_lss rfl rfl rfl) rfl rfl ?_
    refine r_nil ?_
    refine j_then ?_
    rcases of_if h with ⟨c2, h⟩ | ⟨c2, h⟩
    · refine j_true rfl (decide_eq_true c2) ?_
      refine j_seq ?_
      refine j_region ?_
      refine r_q (q_assign rfl rfl) rfl rfl ?_
      refine r_nil ?_
      refine j_then ?_
      refine j_ret ?_
      refine j_then_ret ?_
      cases h
      exact j_return rfl (ResOf.tmp rfl ResOf.nil) rfl (fun w h => ⟨(), rfl, h.tail⟩)
    · refine j_false rfl (decide_eq_false c2) ?_
      refine j_skip ?_
      refine j_then ?_
      refine j_seq ?_
      refine j_region ?_
      refine r_q (q_move rfl rfl) rfl rfl ?_
      refine r_q (q_assign rfl rfl) rfl rfl ?_
      refine r_nil ?_
      refine j_then ?_
      refine j_ret ?_
      cases h
      exact j_return rfl (ResOf.tmp rfl ResOf.nil) rfl (fun w h => ⟨(), rfl, h.tail⟩)

theorem laws_szGc.calls (K : Nat) (a0_0 : Int) (a0_1 : List Int) (a0_1_A : Option Addr) (a0_1_n a0_1_c : Nat) (a0_2 : Int) (a1 : Int) {w0 w : World} {F : List Res} {r1 : Int} (hm : Mem w0 (F) w) (a0_1_h : a0_1.length = a0_1_n) (a0_1_R : Rd w0 F a0_1_A (ii a0_1)) (h : laws_szGc.f K a0_0 a0_1 a0_2 a1 = some r1) :
    Calls Try.prog 29 (List.toArray [.agg (List.toArray [i6 a0_0, .slice a0_1_A a0_1_n a0_1_c, i6 a0_2]), i6 a1]) w fun e w' => ∃ x : Unit, e = .returned (i6 r1) ∧ Mem w0 (F) w' := by
  unfold laws_szGc.f at h
  refine calls_of_J (n := 12) Try.func29 rfl rfl rfl hm ?_
  refine j_seq ?_
  refine j_region ?_
  refine r_do (a_box rfl rfl) rfl rfl (fun x1 => ?_)
  refine r_q (q_assign rfl rfl) rfl rfl ?_
  refine r_nil ?_
  refine j_then ?_
  refine j_seq ?_
  refine j_region ?_
  refine r_q (q_fieldAddr fi28_1 sz22 rfl rfl rfl) rfl rfl ?_
  refine r_q (q_loadb 0 rfl ag22 rfl rfl rfl) rfl rfl ?_
  refine r_q (q_move rfl rfl) rfl rfl ?_
  obtain ⟨v1, hb1, h⟩ := of_b1 h
  refine r_do (a_call ok61 rfl rfl rfl rfl (fun w hm => laws_szIntS.calls K a0_1 a0_1_A a0_1_n a0_1_c a1 hm a0_1_h (Rd.drop 1 a0_1_R) hb1)) rfl rfl (fun x2 => ?_)
  refine r_q (q_assign rfl rfl) rfl rfl ?_
  refine r_nil ?_
  refine j_then ?_
  refine j_seq ?_
  refine j_seq ?_
  refine j_region ?_
  refine r_q (q_move rfl rfl) rfl rfl ?_
  refine r_q (q_lss rfl rfl rfl) rfl rfl ?_
  refine r_nil ?_
  refine j_then ?_
  rcases of_if h with ⟨c1, h⟩ | ⟨c1, h⟩
  · refine j_true rfl (decide_eq_true c1) ?_
    refine j_seq ?_
    refine j_region ?_
    refine r_q (q_assign rfl rfl) rfl rfl ?_
    refine r_nil ?_
    refine j_then ?_
    refine j_ret ?_
    refine j_then_ret ?_
    cases h
    exact j_return rfl (ResOf.tmp rfl ResOf.nil) rfl (fun w h => ⟨(), rfl, h.tail⟩)
  · refine j_false rfl (decide_eq_false c1) ?_
    refine j_skip ?_
    refine j_then ?_
    refine j_seq ?_
    refine j_region ?_
    refine r_q (q_move rfl rfl) rfl rfl ?_
    refine r_q (q_assign rfl rfl) rfl rfl ?_
    refine r_nil ?_
    refine j_then ?_
    refine j_ret ?_
    cases h
    exact j_return rfl (ResOf.tmp rfl ResOf.nil) rfl (fun w h => ⟨(), rfl, h.tail⟩)

theorem laws_szOpS.calls (K : Nat) (a0 : List (Int × Int × Int)) (a0_A : Option Addr) (a0_n a0_c : Nat) (a1 : Int) {w0 w : World} {F : List Res} {r1 : Int} (hm : Mem w0 (F) w) (a0_h : a0.length = a0_n) (a0_R : Rd w0 F a0_A (trips a0)) (h : laws_szOpS.f K a0 a1 = some r1) :
    Calls Try.prog 30 (List.toArray [.slice a0_A a0_n a0_c, i6 a1]) w fun e w' => ∃ x : Unit, e = .returned (i6 r1) ∧ Mem w0 (F) w' := by
  unfold laws_szOpS.f at h
  refine calls_of_J (n := 12) Try.func30 rfl rfl rfl hm ?_
  refine j_seq ?_
  refine j_region ?_
  refine r_q (q_assign rfl rfl) rfl rfl ?_
  refine r_nil ?_
  refine j_then ?_
  refine j_seq ?_
  refine j_region ?_
  refine r_q (q_move rfl rfl) rfl rfl ?_
  refine r_q (q_move rfl rfl) rfl rfl ?_
  refine r_q (q_lenX a0 a0_h un29 rfl rfl rfl rfl rfl) rfl rfl ?_
  refine r_q (q_sub rfl rfl rfl) rfl rfl ?_
  refine r_q (q_assign rfl rfl) rfl rfl ?_
  refine r_nil ?_
  refine j_then ?_
  refine j_seq ?_
  refine j_seq ?_
  refine j_region ?_
  refine r_q (q_move rfl rfl) rfl rfl ?_
  refine r_q (q_lss rfl rfl rfl) rfl rfl ?_
  refine r_nil ?_
  refine j_then ?_
  rcases of_if h with ⟨c1, h⟩ | ⟨c1, h⟩
  · refine j_true rfl (decide_eq_true c1) ?_
    refine j_seq ?_
    refine j_region ?_
    refine r_q (q_assign rfl rfl) rfl rfl ?_
    refine r_nil ?_
    refine j_then ?_
    refine j_ret ?_
    refine j_then_ret ?_
    cases h
    exact j_return rfl (ResOf.tmp rfl ResOf.nil) rfl (fun w h => ⟨(), rfl, h⟩)
  · refine j_false rfl (decide_eq_false c1) ?_
    refine j_skip ?_
    refine j_then ?_
    refine j_seq ?_
    refine j_region ?_
    refine r_q (q_move rfl rfl) rfl rfl ?_
    refine r_q (q_assign rfl rfl) rfl rfl ?_
    refine r_nil ?_
    refine j_then ?_
    refine j_ret ?_
    cases h
    exact j_return rfl (ResOf.tmp rfl ResOf.nil) rfl (fun w h => ⟨(), rfl, h⟩)

theorem laws_szBoth.calls (K : Nat) (a0_0 : List Int) (a0_0_A : Option Addr) (a0_0_n a0_0_c : Nat) (a0_1 : List Int) (a0_1_A : Option Addr) (a0_1_n a0_1_c : Nat) (a0_2 : List Int) (a0_2_A : Option Addr) (a0_2_n a0_2_c : Nat) (a0_3 : List Int) (a0_3_A : Option Addr) (a0_3_n a0_3_c : Nat) (a0_4 : Int) (a0_5 : List Int) (a0_5_A : Option Addr) (a0_5_n a0_5_c : Nat) (a0_6 : Int) (a0_7 : List (Int × Int × Int)) (a0_7_A : Option Addr) (a0_7_n a0_7_c : Nat) (a0_8 : Int) (a0_9 : Bool) (a1 : Int) {w0 w : World} {F : List Res} {r1 : Int} (hm : Mem w0 (F) w) (a0_0_h : a0_0.length = a0_0_n) (a0_0_R : Rd w0 F a0_0_A (ii a0_0)) (a0_1_h : a0_1.length = a0_1_n) (a0_1_R : Rd w0 F a0_1_A (ii a0_1)) (a0_2_h : a0_2.length = a0_2_n) (a0_2_R : Rd w0 F a0_2_A (ii a0_2)) (a0_3_h : a0_3.length = a0_3_n) (a0_3_R : Rd w0 F a0_3_A (ii a0_3)) (a0_5_h : a0_5.length = a0_5_n) (a0_5_R : Rd w0 F a0_5_A (ii a0_5)) (a0_7_h : a0_7.length = a0_7_n) (a0_7_R : Rd w0 F a0_7_A (trips a0_7)) (h : laws_szBoth.f K a0_0 a0_1 a0_2 a0_3 a0_4 a0_5 a0_6 a0_7 a0_8 a0_9 a1 = some r1) :
    Calls Try.prog 8 (List.toArray [.agg (List.toArray [.slice a0_0_A a0_0_n a0_0_c, .slice a0_1_A a0_1_n a0_1_c, .slice a0_2_A a0_2_n a0_2_c, .slice a0_3_A a0_3_n a0_3_c, i6 a0_4, .slice a0_5_A a0_5_n a0_5_c, i6 a0_6, .slice a0_7_A a0_7_n a0_7_c, i6 a0_8, .bool a0_9]), i6 a1]) w fun e w' => ∃ x : Unit, e = .returned (i6 r1) ∧ Mem w0 (F) w' := by
  unfold laws_szBoth.f at h
  refine calls_of_J (n := 24) Try.func8 rfl rfl rfl hm ?_
  refine j_seq ?_
  refine j_region ?_
  refine r_do (a_box rfl rfl) rfl rfl (fun x1 => ?_)
  refine r_q (q_assign rfl rfl) rfl rfl ?_
  refine r_nil ?_
  refine j_then ?_
  refine j_seq ?_
  refine j_region ?_
  refine r_q (q_fieldAddr fi31_0 sz26 rfl rfl rfl) rfl rfl ?_
  refine r_q (q_loadb_agg 0 rfl ag26 sz26 rfl rfl rfl rfl) rfl rfl ?_
  refine r_q (q_move rfl rfl) rfl rfl ?_
  obtain ⟨v1, hb1, h⟩ := of_b1 h
  refine r_do (a_call ok28 rfl rfl rfl rfl (fun w hm => laws_szStore.calls K a0_0 a0_0_A a0_0_n a0_0_c a0_1 a0_1_A a0_1_n a0_1_c a0_2 a0_2_A a0_2_n a0_2_c a0_3 a0_3_A a0_3_n a0_3_c a1 hm a0_0_h (Rd.drop 1 a0_0_R) a0_1_h (Rd.drop 1 a0_1_R) a0_2_h (Rd.drop 1 a0_2_R) a0_3_h (Rd.drop 1 a0_3_R) hb1)) rfl rfl (fun x2 => ?_)
  refine r_q (q_assign rfl rfl) rfl rfl ?_
  refine r_nil ?_
  refine j_then ?_
  refine j_seq ?_
  refine j_seq ?_
  refine j_region ?_
  refine r_q (q_move rfl rfl) rfl rfl ?_
  refine r_q (q_lss rfl rfl rfl) rfl rfl ?_
  refine r_nil ?_
  refine j_then ?_
  rcases of_if h with ⟨c1, h⟩ | ⟨c1, h⟩
  · refine j_true rfl (decide_eq_true c1) ?_
    refine j_seq ?_
    refine j_region ?_
    refine r_q (q_assign rfl rfl) rfl rfl ?_
    refine r_nil ?_
    refine j_then ?_
    refine j_ret ?_
    refine j_then_ret ?_
    cases h
    exact j_return rfl (ResOf.tmp rfl ResOf.nil) rfl (fun w h => ⟨(), rfl, h.tail⟩)
  · refine j_false rfl (decide_eq_false c1) ?_
    refine j_skip ?_
    refine j_then ?_
    refine j_seq ?_
    refine j_region ?_
    refine r_q (q_fieldAddr fi31_1 sz28 rfl rfl rfl) rfl rfl ?_
    refine r_q (q_loadb_agg 0 rfl ag28 sz28 rfl rfl rfl rfl) rfl rfl ?_
    refine r_q (q_move rfl rfl) rfl rfl ?_
    obtain ⟨v2, hb2, h⟩ := of_b1 h
    refine r_do (a_call ok29 rfl rfl rfl rfl (fun w hm => laws_szGc.calls K a0_4 a0_5 a0_5_A a0_5_n a0_5_c a0_6 v1 hm a0_5_h (Rd.drop 1 a0_5_R) hb2)) rfl rfl (fun x3 => ?_)
    refine r_q (q_assign rfl rfl) rfl rfl ?_
    refine r_nil ?_
    refine j_then ?_
    refine j_seq ?_
    refine j_seq ?_
    refine j_region ?_
    refine r_q (q_move rfl rfl) rfl rfl ?_
    refine r_q (q_lss rfl rfl rfl) rfl rfl ?_
    refine r_nil ?_
    refine j_then ?_
    rcases of_if h with ⟨c2, h⟩ | ⟨c2, h⟩
    · refine j_true rfl (decide_eq_true c2) ?_
      refine j_seq ?_
      refine j_region ?_
      refine r_q (q_assign rfl rfl) rfl rfl ?_
      refine r_nil ?_
      refine j_then ?_
      refine j_ret ?_
      refine j_then_ret ?_
      cases h
      exact j_return rfl (ResOf.tmp rfl ResOf.nil) rfl (fun w h => ⟨(), rfl, h.tail⟩)
    · refine j_false rfl (decide_eq_false c2) ?_
      refine j_skip ?_
      refine j_then ?_
      refine j_seq ?_
      refine j_region ?_
      refine r_q (q_fieldAddr fi31_2 sz29 rfl rfl rfl) rfl rfl ?_
      refine r_q (q_loadb 0 rfl ag29 rfl rfl rfl) rfl rfl ?_
      refine r_q (q_move rfl rfl) rfl rfl ?_
      obtain ⟨v3, hb3, h⟩ := of_b1 h
      refine r_do (a_call ok30 rfl rfl rfl rfl (fun w hm => laws_szOpS.calls K a0_7 a0_7_A a0_7_n a0_7_c v2 hm a0_7_h (Rd.drop 1 a0_7_R) hb3)) rfl rfl (fun x4 => ?_)
      refine r_q (q_assign rfl rfl) rfl rfl ?_
      refine r_nil ?_
      refine j_then ?_
      refine j_seq ?_
      refine j_seq ?_
      refine j_region ?_
      refine r_q (q_move rfl rfl) rfl rfl ?_
      refine r_q (q_lss rfl rfl rfl) rfl rfl ?_
      refine r_nil ?_
      refine j_then ?_
      rcases of_if h with ⟨c3, h⟩ | ⟨c3, h⟩
      · refine j_true rfl (decide_eq_true c3) ?_
        refine j_seq ?_
        refine j_region ?_
        refine r_q (q_assign rfl rfl) rfl rfl ?_
        refine r_nil ?_
        refine j_then ?_
        refine j_ret ?_
        refine j_then_ret ?_
        cases h
        exact j_return rfl (ResOf.tmp rfl ResOf.nil) rfl (fun w h => ⟨(), rfl, h.tail⟩)
      · refine j_false rfl (decide_eq_false c3) ?_
        refine j_skip ?_
        refine j_then ?_
        refine j_seq ?_
        refine j_region ?_
        refine r_q (q_move rfl rfl) rfl rfl ?_
        refine r_q (q_assign rfl rfl) rfl rfl ?_
        refine r_nil ?_
        refine j_then ?_
        refine j_ret ?_
        cases h
        exact j_return rfl (ResOf.tmp rfl ResOf.nil) rfl (fun w h => ⟨(), rfl, h.tail⟩)

theorem laws_toIntS.calls (K : Nat) (a0 : List Int) (a0_A : Option Addr) (a0_n a0_c : Nat) {w0 w : World} {F : List Res} {r1 : List Int} (hm : Mem w0 (F) w) (a0_h : a0.length = a0_n) (a0_R : Rd w0 F a0_A (ii a0)) (h : laws_toIntS.f K a0 = some r1) :
    Calls Try.prog 64 (List.toArray [.slice a0_A a0_n a0_c]) w fun e w' => ∃ x : (Sl r1.length), e = .returned (.slice x.A x.n x.c) ∧ Mem w0 (.row x.A x.c 3 1 (ii r1) :: F) w' := by
  unfold laws_toIntS.f at h
  refine calls_of_J (n := 22) Try.func64 rfl rfl rfl hm ?_
  refine j_seq ?_
  refine j_region ?_
  refine r_q (q_assign rfl rfl) rfl rfl ?_
  refine r_nil ?_
  refine j_then ?_
  refine j_seq ?_
  refine j_region ?_
  refine r_q (q_move rfl rfl) rfl rfl ?_
  refine r_q (q_lenX a0 a0_h un22 rfl rfl rfl rfl rfl) rfl rfl ?_
  obtain ⟨c1, h⟩ := of_guard h
  refine r_do (a_mkI un22 sz3 by3 zr3 rfl c1 rfl rfl rfl) rfl rfl (fun x1 => ?_)
  refine r_q (q_assign rfl rfl) rfl rfl ?_
  refine r_nil ?_
  refine j_then ?_
  refine j_seq ?_
  refine j_seq ?_
  refine j_region ?_
  refine r_q (q_assign rfl rfl) rfl rfl ?_
  refine r_nil ?_
  refine j_then ?_
  obtain ⟨κ0, h, hκ0⟩ := ex_k (g := fun κ => laws_toIntS.loop0 K κ a0 K (0:Int) (List.replicate (a0.length : Int).toNat (0:Int)) = some r1) h
  refine j_cut (σ := (List Int)) (fun s => [(3, (.slice x1 ((a0.length : Int).toNat) ((a0.length : Int).toNat)))]) (fun s => .row x1 ((a0.length : Int).toNat) 3 1 (ii s) :: F) (fun s => κ0 s = some r1 ∧ (s.length = ((a0.length : Int).toNat))) ?_ ?_
  · refine j_block ?_
    refine j_loop (σ := Int × (List Int)) (fun s => [(0, (.slice a0_A a0_n a0_c)), (3, (.slice x1 ((a0.length : Int).toNat) ((a0.length : Int).toNat))), (4, (i6 s.1))]) (fun s => .row x1 ((a0.length : Int).toNat) 3 1 (ii s.2) :: F) (fun m s => laws_toIntS.loop0 K κ0 a0 m s.1 s.2 = some r1 ∧ (s.2.length = ((a0.length : Int).toNat))) K ((0:Int), (List.replicate (a0.length : Int).toNat (0:Int))) ⟨h, List.length_replicate⟩ (fun a he => he.sub ⟨rfl, rfl, rfl, trivial⟩) (fun w h => h) ?_
    rintro m ⟨p2, l2⟩ ⟨h, q2⟩
    cases m with
    | zero => exact absurd h (by rw [laws_toIntS.loop0]; exact nofun)
    | succ m =>
      rw [laws_toIntS.loop0] at h
      show J _ _ [(0, (.slice a0_A a0_n a0_c)), (3, (.slice x1 ((a0.length : Int).toNat) ((a0.length : Int).toNat))), (4, (i6 p2))] _ (.row x1 ((a0.length : Int).toNat) 3 1 (ii l2) :: F)
      refine j_seq ?_
      refine j_seq ?_
      refine j_region ?_
      refine r_q (q_move rfl rfl) rfl rfl ?_
      refine r_q (q_move rfl rfl) rfl rfl ?_
      refine r_q (q_lenX a0 a0_h un22 rfl rfl rfl rfl rfl) rfl rfl ?_
      refine r_q (q_lss rfl rfl rfl) rfl rfl ?_
      refine r_nil ?_
      refine j_then ?_
      rcases of_if h with ⟨c11, h⟩ | ⟨c11, h⟩
      · refine j_true rfl (decide_eq_true c11) ?_
        refine j_skip ?_
        refine j_then ?_
        refine j_seq ?_
        refine j_block ?_
        refine j_region ?_
        refine r_q (q_move rfl rfl) rfl rfl ?_
        refine r_q (q_move rfl rfl) rfl rfl ?_
        refine r_q (q_move rfl rfl) rfl rfl ?_
        refine r_q (q_move rfl rfl) rfl rfl ?_
        obtain ⟨c12, h⟩ := of_guard h
        refine r_q (q_ix (Rd.drop 1 a0_R) (ints_len1 _ a0) (by decide) a0_h c12 un22 sz3 rfl rfl rfl) rfl rfl ?_
        refine r_q (q_ldI (Rd.drop 1 a0_R) c12 ag3 rfl rfl) rfl rfl ?_
        obtain ⟨c13, h⟩ := of_guard h
        refine r_q (q_ix (Rd.row 0 rfl) (ints_len1 _ l2) (by decide) q2 c13 un22 sz3 rfl rfl rfl) rfl rfl ?_
        refine r_do (a_stI 0 rfl c13 sz3 rfl rfl rfl) rfl rfl (fun _ => ?_)
        refine j_s0 ?_
        refine r_nil ?_
        refine j_in ?_
        refine j_then ?_
        refine j_region ?_
        refine r_q (q_move rfl rfl) rfl rfl ?_
        refine r_q (q_add rfl rfl rfl) rfl rfl ?_
        refine r_q (q_assign rfl rfl) rfl rfl ?_
        refine r_nil ?_
        refine j_then ?_
        exact j_again m ((wrap64 (p2 + (1:Int))), (l2.set p2.toNat (rd a0 p2))) (Nat.lt_succ_self m) ⟨h, (set_len q2 _ _)⟩ (fun a he => he.sub ⟨rfl, rfl, rfl, trivial⟩) (fun w h => h)
      · refine j_false rfl (decide_eq_false c11) ?_
        refine j_exit ?_
        refine j_then_exit ?_
        refine j_then_exit ?_
        refine j_in_exit ?_
        refine j_then ?_
        exact j_meet l2 ⟨h, q2⟩ (fun a he => he.sub ⟨rfl, trivial⟩) (fun w h => h)
  · rintro l3 ⟨h, q3⟩
    subst hκ0
    show J _ _ [(3, (.slice x1 ((a0.length : Int).toNat) ((a0.length : Int).toNat)))] _ (.row x1 ((a0.length : Int).toNat) 3 1 (ii l3) :: F)
    refine j_then ?_
    refine j_seq ?_
    refine j_region ?_
    refine r_q (q_move rfl rfl) rfl rfl ?_
    refine r_q (q_assign rfl rfl) rfl rfl ?_
    refine r_nil ?_
    refine j_then ?_
    refine j_ret ?_
    cases h
    exact j_return rfl (ResOf.tmp rfl ResOf.nil) rfl (fun w h => ⟨⟨x1, ((a0.length : Int).toNat), ((a0.length : Int).toNat), q3⟩, rfl, h⟩)

theorem laws_toHeap.calls (K : Nat) (a0_0 : List Int) (a0_0_A : Option Addr) (a0_0_n a0_0_c : Nat) (a0_1 : List Int) (a0_1_A : Option Addr) (a0_1_n a0_1_c : Nat) (a0_2 : List Int) (a0_2_A : Option Addr) (a0_2_n a0_2_c : Nat) {w0 w : World} {F : List Res} {r1 : List Int} {r2 : List Int} {r3 : List Int} (hm : Mem w0 (F) w) (a0_0_h : a0_0.length = a0_0_n) (a0_0_R : Rd w0 F a0_0_A (ii a0_0)) (a0_1_h : a0_1.length = a0_1_n) (a0_1_R : Rd w0 F a0_1_A (ii a0_1)) (a0_2_h : a0_2.length = a0_2_n) (a0_2_R : Rd w0 F a0_2_A (ii a0_2)) (h : laws_toHeap.f K a0_0 a0_1 a0_2 = some (r1, r2, r3)) :
    Calls Try.prog 63 (List.toArray [.agg (List.toArray [.slice a0_0_A a0_0_n a0_0_c, .slice a0_1_A a0_1_n a0_1_c, .slice a0_2_A a0_2_n a0_2_c])]) w fun e w' => ∃ x : (Sl r1.length) × (Sl r2.length) × (Sl r3.length), e = .returned (.agg (List.toArray [.slice x.1.A x.1.n x.1.c, .slice x.2.1.A x.2.1.n x.2.1.c, .slice x.2.2.A x.2.2.n x.2.2.c])) ∧ Mem w0 (.row x.1.A x.1.c 3 1 (ii r1) :: .row x.2.1.A x.2.1.c 3 1 (ii r2) :: .row x.2.2.A x.2.2.c 3 1 (ii r3) :: F) w' := by
  unfold laws_toHeap.f at h
  refine calls_of_J (n := 17) Try.func63 rfl rfl rfl hm ?_
  refine j_seq ?_
  refine j_region ?_
  refine r_do (a_box rfl rfl) rfl rfl (fun x1 => ?_)
  refine r_do (a_alloc zr34 rfl) rfl rfl (fun x2 => ?_)
  refine r_nil ?_
  refine j_then ?_
  refine j_seq ?_
  refine j_region ?_
  refine r_do (a_alloc zr34 rfl) rfl rfl (fun x3 => ?_)
  refine r_nil ?_
  refine j_then ?_
  refine j_seq ?_
  refine j_region ?_
  refine r_q (q_fieldAddr fi24_0 sz22 rfl rfl rfl) rfl rfl ?_
  refine r_q (q_loadb 2 rfl ag22 rfl rfl rfl) rfl rfl ?_
  obtain ⟨v1, hb1, h⟩ := of_b1 h
  refine r_do (a_call ok64 rfl rfl rfl rfl (fun w hm => laws_toIntS.calls K a0_0 a0_0_A a0_0_n a0_0_c hm a0_0_h (Rd.drop 3 a0_0_R) hb1)) rfl rfl (fun x4 => ?_)
  refine r_q (q_fieldAddr fi34_0 sz22 rfl rfl rfl) rfl rfl ?_
  refine r_do (a_storeb 1 rfl sz22 rfl rfl rfl rfl (Nat.le_of_ble_eq_true rfl) rfl) rfl rfl (fun _ => ?_)
  refine j_b1 [(.slice x4.A x4.n x4.c), (.slice none 0 0), (.slice none 0 0)] rfl ?_
  refine r_nil ?_
  refine j_then ?_
  refine j_seq ?_
  refine j_region ?_
  refine r_q (q_fieldAddr fi24_1 sz22 rfl rfl rfl) rfl rfl ?_
  refine r_q (q_loadb 3 rfl ag22 rfl rfl rfl) rfl rfl ?_
  obtain ⟨v2, hb2, h⟩ := of_b1 h
  refine r_do (a_call ok64 rfl rfl rfl rfl (fun w hm => laws_toIntS.calls K a0_1 a0_1_A a0_1_n a0_1_c hm a0_1_h (Rd.drop 4 a0_1_R) hb2)) rfl rfl (fun x5 => ?_)
  refine r_q (q_fieldAddr fi34_1 sz22 rfl rfl rfl) rfl rfl ?_
  refine r_do (a_storeb 2 rfl sz22 rfl rfl rfl rfl (Nat.le_of_ble_eq_true rfl) rfl) rfl rfl (fun _ => ?_)
  refine j_b2 [(.slice x4.A x4.n x4.c), (.slice x5.A x5.n x5.c), (.slice none 0 0)] rfl ?_
  refine r_nil ?_
  refine j_then ?_
  refine j_seq ?_
  refine j_region ?_
  refine r_q (q_fieldAddr fi24_2 sz22 rfl rfl rfl) rfl rfl ?_
  refine r_q (q_loadb 4 rfl ag22 rfl rfl rfl) rfl rfl ?_
  obtain ⟨v3, hb3, h⟩ := of_b1 h
  refine r_do (a_call ok64 rfl rfl rfl rfl (fun w hm => laws_toIntS.calls K a0_2 a0_2_A a0_2_n a0_2_c hm a0_2_h (Rd.drop 5 a0_2_R) hb3)) rfl rfl (fun x6 => ?_)
  refine r_q (q_fieldAddr fi34_2 sz22 rfl rfl rfl) rfl rfl ?_
  refine r_do (a_storeb 3 rfl sz22 rfl rfl rfl rfl (Nat.le_of_ble_eq_true rfl) rfl) rfl rfl (fun _ => ?_)
  refine j_b3 [(.slice x4.A x4.n x4.c), (.slice x5.A x5.n x5.c), (.slice x6.A x6.n x6.c)] rfl ?_
  refine r_nil ?_
  refine j_then ?_
  refine j_seq ?_
  refine j_region ?_
  refine r_q (q_loadb_agg 3 rfl ag34 sz34 rfl rfl rfl rfl) rfl rfl ?_
  refine r_do (a_storeb 4 rfl sz34 rfl rfl rfl rfl (Nat.le_of_ble_eq_true rfl) rfl) rfl rfl (fun _ => ?_)
  refine j_b4 [(.slice x4.A x4.n x4.c), (.slice x5.A x5.n x5.c), (.slice x6.A x6.n x6.c)] rfl ?_
  refine r_nil ?_
  refine j_then ?_
  refine j_ret ?_
  cases h
  exact j_return rfl (ResOf.cell 4 rfl rfl ag34 sz34 ResOf.nil) rfl (fun w h => ⟨(⟨x4.A, x4.n, x4.c, x4.h⟩, ⟨x5.A, x5.n, x5.c, x5.h⟩, ⟨x6.A, x6.n, x6.c, x6.h⟩), rfl, h.pick 6 [2, 1, 0] rfl⟩)

theorem laws_toStore.calls (K : Nat) (a0_0 : List Int) (a0_0_A : Option Addr) (a0_0_n a0_0_c : Nat) (a0_1 : List Int) (a0_1_A : Option Addr) (a0_1_n a0_1_c : Nat) (a0_2 : List Int) (a0_2_A : Option Addr) (a0_2_n a0_2_c : Nat) (a0_3 : List Int) (a0_3_A : Option Addr) (a0_3_n a0_3_c : Nat) {w0 w : World} {F : List Res} {r1 : List Int} {r2 : List Int} {r3 : List Int} {r4 : List Int} (hm : Mem w0 (F) w) (a0_0_h : a0_0.length = a0_0_n) (a0_0_R : Rd w0 F a0_0_A (ii a0_0)) (a0_1_h : a0_1.length = a0_1_n) (a0_1_R : Rd w0 F a0_1_A (ii a0_1)) (a0_2_h : a0_2.length = a0_2_n) (a0_2_R : Rd w0 F a0_2_A (ii a0_2)) (a0_3_h : a0_3.length = a0_3_n) (a0_3_R : Rd w0 F a0_3_A (ii a0_3)) (h : laws_toStore.f K a0_0 a0_1 a0_2 a0_3 = some (r1, r2, r3, r4)) :
    Calls Try.prog 33 (List.toArray [.agg (List.toArray [.slice a0_0_A a0_0_n a0_0_c, .slice a0_1_A a0_1_n a0_1_c, .slice a0_2_A a0_2_n a0_2_c, .slice a0_3_A a0_3_n a0_3_c])]) w fun e w' => ∃ x : (Sl r1.length) × (Sl r2.length) × (Sl r3.length) × (Sl r4.length), e = .returned (.agg (List.toArray [.slice x.1.A x.1.n x.1.c, .slice x.2.1.A x.2.1.n x.2.1.c, .slice x.2.2.1.A x.2.2.1.n x.2.2.1.c, .slice x.2.2.2.A x.2.2.2.n x.2.2.2.c])) ∧ Mem w0 (.row x.1.A x.1.c 3 1 (ii r1) :: .row x.2.1.A x.2.1.c 3 1 (ii r2) :: .row x.2.2.1.A x.2.2.1.c 3 1 (ii r3) :: .row x.2.2.2.A x.2.2.2.c 3 1 (ii r4) :: F) w' := by
  unfold laws_toStore.f at h
  refine calls_of_J (n := 13) Try.func33 rfl rfl rfl hm ?_
  refine j_seq ?_
  refine j_region ?_
  refine r_do (a_box rfl rfl) rfl rfl (fun x1 => ?_)
  refine r_do (a_alloc zr36 rfl) rfl rfl (fun x2 => ?_)
  refine r_nil ?_
  refine j_then ?_
  refine j_seq ?_
  refine j_region ?_
  refine r_do (a_alloc zr36 rfl) rfl rfl (fun x3 => ?_)
  refine r_nil ?_
  refine j_then ?_
  refine j_seq ?_
  refine j_region ?_
  refine r_q (q_fieldAddr fi26_0 sz24 rfl rfl rfl) rfl rfl ?_
  refine r_q (q_loadb_agg 2 rfl ag24 sz24 rfl rfl rfl rfl) rfl rfl ?_
  obtain ⟨v1, v2, v3, hb1, h⟩ := of_b3 h
  refine r_do (a_call ok63 rfl rfl rfl rfl (fun w hm => laws_toHeap.calls K a0_0 a0_0_A a0_0_n a0_0_c a0_1 a0_1_A a0_1_n a0_1_c a0_2 a0_2_A a0_2_n a0_2_c hm a0_0_h (Rd.drop 3 a0_0_R) a0_1_h (Rd.drop 3 a0_1_R) a0_2_h (Rd.drop 3 a0_2_R) hb1)) rfl rfl (fun x4 => ?_)
  refine r_q (q_fieldAddr fi36_0 sz34 rfl rfl rfl) rfl rfl ?_
  refine r_do (a_storeb 3 rfl sz34 rfl rfl rfl rfl (Nat.le_of_ble_eq_true rfl) rfl) rfl rfl (fun _ => ?_)
  refine j_b3 [(.slice x4.1.A x4.1.n x4.1.c), (.slice x4.2.1.A x4.2.1.n x4.2.1.c), (.slice x4.2.2.A x4.2.2.n x4.2.2.c), (.slice none 0 0)] rfl ?_
  refine r_nil ?_
  refine j_then ?_
  refine j_seq ?_
  refine j_region ?_
  refine r_q (q_fieldAddr fi26_1 sz22 rfl rfl rfl) rfl rfl ?_
  refine r_q (q_loadb 5 rfl ag22 rfl rfl rfl) rfl rfl ?_
  obtain ⟨v4, hb2, h⟩ := of_b1 h
  refine r_do (a_call ok64 rfl rfl rfl rfl (fun w hm => laws_toIntS.calls K a0_3 a0_3_A a0_3_n a0_3_c hm a0_3_h (Rd.drop 6 a0_3_R) hb2)) rfl rfl (fun x5 => ?_)
  refine r_q (q_fieldAddr fi36_1 sz22 rfl rfl rfl) rfl rfl ?_
  refine r_do (a_storeb 4 rfl sz22 rfl rfl rfl rfl (Nat.le_of_ble_eq_true rfl) rfl) rfl rfl (fun _ => ?_)
  refine j_b4 [(.slice x4.1.A x4.1.n x4.1.c), (.slice x4.2.1.A x4.2.1.n x4.2.1.c), (.slice x4.2.2.A x4.2.2.n x4.2.2.c), (.slice x5.A x5.n x5.c)] rfl ?_
  refine r_nil ?_
  refine j_then ?_
  refine j_seq ?_
  refine j_region ?_
  refine r_q (q_loadb_agg 4 rfl ag36 sz36 rfl rfl rfl rfl) rfl rfl ?_
  refine r_do (a_storeb 5 rfl sz36 rfl rfl rfl rfl (Nat.le_of_ble_eq_true rfl) rfl) rfl rfl (fun _ => ?_)
  refine j_b5 [(.slice x4.1.A x4.1.n x4.1.c), (.slice x4.2.1.A x4.2.1.n x4.2.1.c), (.slice x4.2.2.A x4.2.2.n x4.2.2.c), (.slice x5.A x5.n x5.c)] rfl ?_
  refine r_nil ?_
  refine j_then ?_
  refine j_ret ?_
  cases h
  exact j_return rfl (ResOf.cell 5 rfl rfl ag36 sz36 ResOf.nil) rfl (fun w h => ⟨(⟨x4.1.A, x4.1.n, x4.1.c, x4.1.h⟩, ⟨x4.2.1.A, x4.2.1.n, x4.2.1.c, x4.2.1.h⟩, ⟨x4.2.2.A, x4.2.2.n, x4.2.2.c, x4.2.2.h⟩, ⟨x5.A, x5.n, x5.c, x5.h⟩), rfl, h.pick 7 [1, 2, 3, 0] rfl⟩)

theorem laws_toGc.calls (K : Nat) (a0_0 : Int) (a0_1 : List Int) (a0_1_A : Option Addr) (a0_1_n a0_1_c : Nat) (a0_2 : Int) {w0 w : World} {F : List Res} {r1 : Int} {r2 : List Int} {r3 : Int} (hm : Mem w0 (F) w) (a0_1_h : a0_1.length = a0_1_n) (a0_1_R : Rd w0 F a0_1_A (ii a0_1)) (h : laws_toGc.f K a0_0 a0_1 a0_2 = some (r1, r2, r3)) :
    Calls Try.prog 34 (List.toArray [.agg (List.toArray [i6 a0_0, .slice a0_1_A a0_1_n a0_1_c, i6 a0_2])]) w fun e w' => ∃ x : (Sl r2.length), e = .returned (.agg (List.toArray [i6 r1, .slice x.A x.n x.c, i6 r3])) ∧ Mem w0 (.row x.A x.c 3 1 (ii r2) :: F) w' := by
  unfold laws_toGc.f at h
  refine calls_of_J (n := 15) Try.func34 rfl rfl rfl hm ?_
  refine j_seq ?_
  refine j_region ?_
  refine r_do (a_box rfl rfl) rfl rfl (fun x1 => ?_)
  refine r_do (a_alloc zr37 rfl) rfl rfl (fun x2 => ?_)
  refine r_nil ?_
  refine j_then ?_
  refine j_seq ?_
  refine j_region ?_
  refine r_do (a_alloc zr37 rfl) rfl rfl (fun x3 => ?_)
  refine r_nil ?_
  refine j_then ?_
  refine j_seq ?_
  refine j_region ?_
  refine r_q (q_fieldAddr fi28_0 sz3 rfl rfl rfl) rfl rfl ?_
  refine r_q (q_loadb 2 rfl ag3 rfl rfl rfl) rfl rfl ?_
  refine r_q (q_fieldAddr fi37_0 sz3 rfl rfl rfl) rfl rfl ?_
  refine r_do (a_storeb 0 rfl sz3 rfl rfl rfl rfl (Nat.le_of_ble_eq_true rfl) rfl) rfl rfl (fun _ => ?_)
  refine j_b0 [(i6 a0_0), (.slice none 0 0), (i6 (0:Int))] rfl ?_
  refine r_nil ?_
  refine j_then ?_
  refine j_seq ?_
  refine j_region ?_
  refine r_q (q_fieldAddr fi28_1 sz22 rfl rfl rfl) rfl rfl ?_
  refine r_q (q_loadb 2 rfl ag22 rfl rfl rfl) rfl rfl ?_
  obtain ⟨v1, hb1, h⟩ := of_b1 h
  refine r_do (a_call ok64 rfl rfl rfl rfl (fun w hm => laws_toIntS.calls K a0_1 a0_1_A a0_1_n a0_1_c hm a0_1_h (Rd.drop 3 a0_1_R) hb1)) rfl rfl (fun x4 => ?_)
  refine r_q (q_fieldAddr fi37_1 sz22 rfl rfl rfl) rfl rfl ?_
  refine r_do (a_storeb 1 rfl sz22 rfl rfl rfl rfl (Nat.le_of_ble_eq_true rfl) rfl) rfl rfl (fun _ => ?_)
  refine j_b1 [(i6 a0_0), (.slice x4.A x4.n x4.c), (i6 (0:Int))] rfl ?_
  refine r_nil ?_
  refine j_then ?_
  refine j_seq ?_
  refine j_region ?_
  refine r_q (q_fieldAddr fi28_2 sz3 rfl rfl rfl) rfl rfl ?_
  refine r_q (q_loadb 3 rfl ag3 rfl rfl rfl) rfl rfl ?_
  refine r_q (q_fieldAddr fi37_2 sz3 rfl rfl rfl) rfl rfl ?_
  refine r_do (a_storeb 1 rfl sz3 rfl rfl rfl rfl (Nat.le_of_ble_eq_true rfl) rfl) rfl rfl (fun _ => ?_)
  refine j_b1 [(i6 a0_0), (.slice x4.A x4.n x4.c), (i6 a0_2)] rfl ?_
  refine r_nil ?_
  refine j_then ?_
  refine j_seq ?_
  refine j_region ?_
  refine r_q (q_loadb_agg 1 rfl ag37 sz37 rfl rfl rfl rfl) rfl rfl ?_
  refine r_do (a_storeb 2 rfl sz37 rfl rfl rfl rfl (Nat.le_of_ble_eq_true rfl) rfl) rfl rfl (fun _ => ?_)
  refine j_b2 [(i6 a0_0), (.slice x4.A x4.n x4.c), (i6 a0_2)] rfl ?_
  refine r_nil ?_
  refine j_then ?_
  refine j_ret ?_
  cases h
  exact j_return rfl (ResOf.cell 2 rfl rfl ag37 sz37 ResOf.nil) rfl (fun w h => ⟨⟨x4.A, x4.n, x4.c, x4.h⟩, rfl, h.pick 4 [0] rfl⟩)

theorem laws_toOp.calls (K : Nat) (a0_0 : Int) (a0_1 : Int) (a0_2 : Int) {w0 w : World} {F : List Res} {r1 : Int} {r2 : Int} {r3 : Int} (hm : Mem w0 (F) w)  (h : laws_toOp.f K a0_0 a0_1 a0_2 = some (r1, r2, r3)) :
    Calls Try.prog 65 (List.toArray [.agg (List.toArray [i6 a0_0, i6 a0_1, i6 a0_2])]) w fun e w' => ∃ x : Unit, e = .returned (.agg (List.toArray [i6 r1, i6 r2, i6 r3])) ∧ Mem w0 (F) w' := by
  unfold laws_toOp.f at h
  refine calls_of_J (n := 14) Try.func65 rfl rfl rfl hm ?_
  refine j_seq ?_
  refine j_region ?_
  refine r_do (a_box rfl rfl) rfl rfl (fun x1 => ?_)
  refine r_do (a_alloc zr68 rfl) rfl rfl (fun x2 => ?_)
  refine r_nil ?_
  refine j_then ?_
  refine j_seq ?_
  refine j_region ?_
  refine r_do (a_alloc zr68 rfl) rfl rfl (fun x3 => ?_)
  refine r_nil ?_
  refine j_then ?_
  refine j_seq ?_
  refine j_region ?_
  refine r_q (q_fieldAddr fi89_0 sz3 rfl rfl rfl) rfl rfl ?_
  refine r_q (q_loadb 2 rfl ag3 rfl rfl rfl) rfl rfl ?_
  refine r_q (q_fieldAddr fi68_0 sz3 rfl rfl rfl) rfl rfl ?_
  refine r_do (a_storeb 0 rfl sz3 rfl rfl rfl rfl (Nat.le_of_ble_eq_true rfl) rfl) rfl rfl (fun _ => ?_)
  refine j_b0 [(i6 a0_0), (i6 (0:Int)), (i6 (0:Int))] rfl ?_
  refine r_nil ?_
  refine j_then ?_
  refine j_seq ?_
  refine j_region ?_
  refine r_q (q_fieldAddr fi89_1 sz3 rfl rfl rfl) rfl rfl ?_
  refine r_q (q_loadb 2 rfl ag3 rfl rfl rfl) rfl rfl ?_
  refine r_q (q_fieldAddr fi68_1 sz3 rfl rfl rfl) rfl rfl ?_
  refine r_do (a_storeb 0 rfl sz3 rfl rfl rfl rfl (Nat.le_of_ble_eq_true rfl) rfl) rfl rfl (fun _ => ?_)
  refine j_b0 [(i6 a0_0), (i6 a0_1), (i6 (0:Int))] rfl ?_
  refine r_nil ?_
  refine j_then ?_
  refine j_seq ?_
  refine j_region ?_
  refine r_q (q_fieldAddr fi89_2 sz3 rfl rfl rfl) rfl rfl ?_
  refine r_q (q_loadb 2 rfl ag3 rfl rfl rfl) rfl rfl ?_
  refine r_q (q_fieldAddr fi68_2 sz3 rfl rfl rfl) rfl rfl ?_
  refine r_do (a_storeb 0 rfl sz3 rfl rfl rfl rfl (Nat.le_of_ble_eq_true rfl) rfl) rfl rfl (fun _ => ?_)
  refine j_b0 [(i6 a0_0), (i6 a0_1), (i6 a0_2)] rfl ?_
  refine r_nil ?_
  refine j_then ?_
  refine j_seq ?_
  refine j_region ?_
  refine r_q (q_loadb_agg 0 rfl ag68 sz68 rfl rfl rfl rfl) rfl rfl ?_
  refine r_do (a_storeb 1 rfl sz68 rfl rfl rfl rfl (Nat.le_of_ble_eq_true rfl) rfl) rfl rfl (fun _ => ?_)
  refine j_b1 [(i6 a0_0), (i6 a0_1), (i6 a0_2)] rfl ?_
  refine r_nil ?_
  refine j_then ?_
  refine j_ret ?_
  cases h
  exact j_return rfl (ResOf.cell 1 rfl rfl ag68 sz68 ResOf.nil) rfl (fun w h => ⟨(), rfl, (h.drop 3)⟩)

theorem laws_toOpS.calls (K : Nat) (a0 : List (Int × Int × Int)) (a0_A : Option Addr) (a0_n a0_c : Nat) {w0 w : World} {F : List Res} {r1 : List (Int × Int × Int)} (hm : Mem w0 (F) w) (a0_h : a0.length = a0_n) (a0_R : Rd w0 F a0_A (trips a0)) (h : laws_toOpS.f K a0 = some r1) :
    Calls Try.prog 35 (List.toArray [.slice a0_A a0_n a0_c]) w fun e w' => ∃ x : (Sl r1.length), e = .returned (.slice x.A x.n x.c) ∧ Mem w0 (.row x.A x.c 68 3 (trips r1) :: F) w' := by
  unfold laws_toOpS.f at h
  refine calls_of_J (n := 23) Try.func35 rfl rfl rfl hm ?_
  refine j_seq ?_
  refine j_region ?_
  refine r_q (q_assign rfl rfl) rfl rfl ?_
  refine r_nil ?_
  refine j_then ?_
  refine j_seq ?_
  refine j_region ?_
  refine r_q (q_move rfl rfl) rfl rfl ?_
  refine r_q (q_lenX a0 a0_h un29 rfl rfl rfl rfl rfl) rfl rfl ?_
  obtain ⟨c1, h⟩ := of_guard h
  refine r_do (a_mkT un38 sz68 by68 zr68 rfl c1 rfl rfl rfl) rfl rfl (fun x1 => ?_)
  refine r_q (q_assign rfl rfl) rfl rfl ?_
  refine r_nil ?_
  refine j_then ?_
  refine j_seq ?_
  refine j_seq ?_
  refine j_region ?_
  refine r_q (q_assign rfl rfl) rfl rfl ?_
  refine r_nil ?_
  refine j_then ?_
  obtain ⟨κ0, h, hκ0⟩ := ex_k (g := fun κ => laws_toOpS.loop0 K κ a0 K (0:Int) (List.replicate (a0.length : Int).toNat ((0:Int), (0:Int), (0:Int))) = some r1) h
  refine j_cut (σ := (List (Int × Int × Int))) (fun s => [(3, (.slice x1 ((a0.length : Int).toNat) ((a0.length : Int).toNat)))]) (fun s => .row x1 ((a0.length : Int).toNat) 68 3 (trips s) :: F) (fun s => κ0 s = some r1 ∧ (s.length = ((a0.length : Int).toNat))) ?_ ?_
  · refine j_block ?_
    refine j_loop (σ := Int × (List (Int × Int × Int))) (fun s => [(0, (.slice a0_A a0_n a0_c)), (3, (.slice x1 ((a0.length : Int).toNat) ((a0.length : Int).toNat))), (4, (i6 s.1))]) (fun s => .row x1 ((a0.length : Int).toNat) 68 3 (trips s.2) :: F) (fun m s => laws_toOpS.loop0 K κ0 a0 m s.1 s.2 = some r1 ∧ (s.2.length = ((a0.length : Int).toNat))) K ((0:Int), (List.replicate (a0.length : Int).toNat ((0:Int), (0:Int), (0:Int)))) ⟨h, List.length_replicate⟩ (fun a he => he.sub ⟨rfl, rfl, rfl, trivial⟩) (fun w h => h) ?_
    rintro m ⟨p2, l2⟩ ⟨h, q2⟩
    cases m with
    | zero => exact absurd h (by rw [laws_toOpS.loop0]; exact nofun)
    | succ m =>
      rw [laws_toOpS.loop0] at h
      show J _ _ [(0, (.slice a0_A a0_n a0_c)), (3, (.slice x1 ((a0.length : Int).toNat) ((a0.length : Int).toNat))), (4, (i6 p2))] _ (.row x1 ((a0.length : Int).toNat) 68 3 (trips l2) :: F)
      refine j_seq ?_
      refine j_seq ?_
      refine j_region ?_
      refine r_q (q_move rfl rfl) rfl rfl ?_
      refine r_q (q_move rfl rfl) rfl rfl ?_
      refine r_q (q_lenX a0 a0_h un29 rfl rfl rfl rfl rfl) rfl rfl ?_
      refine r_q (q_lss rfl rfl rfl) rfl rfl ?_
      refine r_nil ?_
      refine j_then ?_
      rcases of_if h with ⟨c11, h⟩ | ⟨c11, h⟩
      · refine j_true rfl (decide_eq_true c11) ?_
        refine j_skip ?_
        refine j_then ?_
        refine j_seq ?_
        refine j_block ?_
        refine j_region ?_
        refine r_q (q_move rfl rfl) rfl rfl ?_
        refine r_q (q_move rfl rfl) rfl rfl ?_
        refine r_q (q_move rfl rfl) rfl rfl ?_
        refine r_q (q_move rfl rfl) rfl rfl ?_
        obtain ⟨c12, h⟩ := of_guard h
        refine r_q (q_ix (Rd.drop 1 a0_R) (trips_len a0) (by decide) a0_h c12 un29 sz89 rfl rfl rfl) rfl rfl ?_
        refine r_q (q_ldT (Rd.drop 1 a0_R) c12 ag89 sz89 rfl rfl) rfl rfl ?_
        obtain ⟨v10, v11, v12, hb4, h⟩ := of_b3 h
        refine r_do (a_call ok65 rfl rfl rfl rfl (fun w hm => laws_toOp.calls K (rdt a0 p2).1 (rdt a0 p2).2.1 (rdt a0 p2).2.2 hm hb4)) rfl rfl (fun x2 => ?_)
        obtain ⟨c13, h⟩ := of_guard h
        refine r_q (q_ix (Rd.row 0 rfl) (trips_len l2) (by decide) q2 c13 un38 sz68 rfl rfl rfl) rfl rfl ?_
        refine r_do (a_stT (p := (v10, v11, v12)) 0 rfl c13 sz68 rfl rfl rfl) rfl rfl (fun _ => ?_)
        refine j_s0 ?_
        refine r_nil ?_
        refine j_in ?_
        refine j_then ?_
        refine j_region ?_
        refine r_q (q_move rfl rfl) rfl rfl ?_
        refine r_q (q_add rfl rfl rfl) rfl rfl ?_
        refine r_q (q_assign rfl rfl) rfl rfl ?_
        refine r_nil ?_
        refine j_then ?_
        exact j_again m ((wrap64 (p2 + (1:Int))), (l2.set p2.toNat (v10, v11, v12))) (Nat.lt_succ_self m) ⟨h, (set_len q2 _ _)⟩ (fun a he => he.sub ⟨rfl, rfl, rfl, trivial⟩) (fun w h => h)
      · refine j_false rfl (decide_eq_false c11) ?_
        refine j_exit ?_
        refine j_then_exit ?_
        refine j_then_exit ?_
        refine j_in_exit ?_
        refine j_then ?_
        exact j_meet l2 ⟨h, q2⟩ (fun a he => he.sub ⟨rfl, trivial⟩) (fun w h => h)
  · rintro l3 ⟨h, q3⟩
    subst hκ0
    show J _ _ [(3, (.slice x1 ((a0.length : Int).toNat) ((a0.length : Int).toNat)))] _ (.row x1 ((a0.length : Int).toNat) 68 3 (trips l3) :: F)
    refine j_then ?_
    refine j_seq ?_
    refine j_region ?_
    refine r_q (q_move rfl rfl) rfl rfl ?_
    refine r_q (q_assign rfl rfl) rfl rfl ?_
    refine r_nil ?_
    refine j_then ?_
    refine j_ret ?_
    cases h
    exact j_return rfl (ResOf.tmp rfl ResOf.nil) rfl (fun w h => ⟨⟨x1, ((a0.length : Int).toNat), ((a0.length : Int).toNat), q3⟩, rfl, h⟩)

theorem laws_toBoth.calls (K : Nat) (a0_0 : List Int) (a0_0_A : Option Addr) (a0_0_n a0_0_c : Nat) (a0_1 : List Int) (a0_1_A : Option Addr) (a0_1_n a0_1_c : Nat) (a0_2 : List Int) (a0_2_A : Option Addr) (a0_2_n a0_2_c : Nat) (a0_3 : List Int) (a0_3_A : Option Addr) (a0_3_n a0_3_c : Nat) (a0_4 : Int) (a0_5 : List Int) (a0_5_A : Option Addr) (a0_5_n a0_5_c : Nat) (a0_6 : Int) (a0_7 : List (Int × Int × Int)) (a0_7_A : Option Addr) (a0_7_n a0_7_c : Nat) (a0_8 : Int) (a0_9 : Bool) {w0 w : World} {F : List Res} {r1 : List Int} {r2 : List Int} {r3 : List Int} {r4 : List Int} {r5 : Int} {r6 : List Int} {r7 : Int} {r8 : List (Int × Int × Int)} {r9 : Int} {r10 : Bool} (hm : Mem w0 (F) w) (a0_0_h : a0_0.length = a0_0_n) (a0_0_R : Rd w0 F a0_0_A (ii a0_0)) (a0_1_h : a0_1.length = a0_1_n) (a0_1_R : Rd w0 F a0_1_A (ii a0_1)) (a0_2_h : a0_2.length = a0_2_n) (a0_2_R : Rd w0 F a0_2_A (ii a0_2)) (a0_3_h : a0_3.length = a0_3_n) (a0_3_R : Rd w0 F a0_3_A (ii a0_3)) (a0_5_h : a0_5.length = a0_5_n) (a0_5_R : Rd w0 F a0_5_A (ii a0_5)) (a0_7_h : a0_7.length = a0_7_n) (a0_7_R : Rd w0 F a0_7_A (trips a0_7)) (h : laws_toBoth.f K a0_0 a0_1 a0_2 a0_3 a0_4 a0_5 a0_6 a0_7 a0_8 a0_9 = some (r1, r2, r3, r4, r5, r6, r7, r8, r9, r10)) :
    Calls Try.prog 10 (List.toArray [.agg (List.toArray [.slice a0_0_A a0_0_n a0_0_c, .slice a0_1_A a0_1_n a0_1_c, .slice a0_2_A a0_2_n a0_2_c, .slice a0_3_A a0_3_n a0_3_c, i6 a0_4, .slice a0_5_A a0_5_n a0_5_c, i6 a0_6, .slice a0_7_A a0_7_n a0_7_c, i6 a0_8, .bool a0_9])]) w fun e w' => ∃ x : (Sl r1.length) × (Sl r2.length) × (Sl r3.length) × (Sl r4.length) × (Sl r6.length) × (Sl r8.length), e = .returned (.agg (List.toArray [.slice x.1.A x.1.n x.1.c, .slice x.2.1.A x.2.1.n x.2.1.c, .slice x.2.2.1.A x.2.2.1.n x.2.2.1.c, .slice x.2.2.2.1.A x.2.2.2.1.n x.2.2.2.1.c, i6 r5, .slice x.2.2.2.2.1.A x.2.2.2.2.1.n x.2.2.2.2.1.c, i6 r7, .slice x.2.2.2.2.2.A x.2.2.2.2.2.n x.2.2.2.2.2.c, i6 r9, .bool r10])) ∧ Mem w0 (.row x.1.A x.1.c 3 1 (ii r1) :: .row x.2.1.A x.2.1.c 3 1 (ii r2) :: .row x.2.2.1.A x.2.2.1.c 3 1 (ii r3) :: .row x.2.2.2.1.A x.2.2.2.1.c 3 1 (ii r4) :: .row x.2.2.2.2.1.A x.2.2.2.2.1.c 3 1 (ii r6) :: .row x.2.2.2.2.2.A x.2.2.2.2.2.c 68 3 (trips r8) :: F) w' := by
  unfold laws_toBoth.f at h
  refine calls_of_J (n := 23) Try.func10 rfl rfl rfl hm ?_
  refine j_seq ?_
  refine j_region ?_
  refine r_do (a_box rfl rfl) rfl rfl (fun x1 => ?_)
  refine r_do (a_alloc zr40 rfl) rfl rfl (fun x2 => ?_)
  refine r_nil ?_
  refine j_then ?_
  refine j_seq ?_
  refine j_region ?_
  refine r_do (a_alloc zr40 rfl) rfl rfl (fun x3 => ?_)
  refine r_nil ?_
  refine j_then ?_
  refine j_seq ?_
  refine j_region ?_
  refine r_q (q_fieldAddr fi31_0 sz26 rfl rfl rfl) rfl rfl ?_
  refine r_q (q_loadb_agg 2 rfl ag26 sz26 rfl rfl rfl rfl) rfl rfl ?_
  obtain ⟨v1, v2, v3, v4, hb1, h⟩ := of_b4 h
  refine r_do (a_call ok33 rfl rfl rfl rfl (fun w hm => laws_toStore.calls K a0_0 a0_0_A a0_0_n a0_0_c a0_1 a0_1_A a0_1_n a0_1_c a0_2 a0_2_A a0_2_n a0_2_c a0_3 a0_3_A a0_3_n a0_3_c hm a0_0_h (Rd.drop 3 a0_0_R) a0_1_h (Rd.drop 3 a0_1_R) a0_2_h (Rd.drop 3 a0_2_R) a0_3_h (Rd.drop 3 a0_3_R) hb1)) rfl rfl (fun x4 => ?_)
  refine r_q (q_fieldAddr fi40_0 sz36 rfl rfl rfl) rfl rfl ?_
  refine r_do (a_storeb 4 rfl sz36 rfl rfl rfl rfl (Nat.le_of_ble_eq_true rfl) rfl) rfl rfl (fun _ => ?_)
  refine j_b4 [(.slice x4.1.A x4.1.n x4.1.c), (.slice x4.2.1.A x4.2.1.n x4.2.1.c), (.slice x4.2.2.1.A x4.2.2.1.n x4.2.2.1.c), (.slice x4.2.2.2.A x4.2.2.2.n x4.2.2.2.c), (i6 (0:Int)), (.slice none 0 0), (i6 (0:Int)), (.slice none 0 0), (i6 (0:Int)), (.bool false)] rfl ?_
  refine r_nil ?_
  refine j_then ?_
  refine j_seq ?_
  refine j_region ?_
  refine r_q (q_fieldAddr fi31_1 sz28 rfl rfl rfl) rfl rfl ?_
  refine r_q (q_loadb_agg 6 rfl ag28 sz28 rfl rfl rfl rfl) rfl rfl ?_
  obtain ⟨v5, v6, v7, hb2, h⟩ := of_b3 h
  refine r_do (a_call ok34 rfl rfl rfl rfl (fun w hm => laws_toGc.calls K a0_4 a0_5 a0_5_A a0_5_n a0_5_c a0_6 hm a0_5_h (Rd.drop 7 a0_5_R) hb2)) rfl rfl (fun x5 => ?_)
  refine r_q (q_fieldAddr fi40_1 sz37 rfl rfl rfl) rfl rfl ?_
  refine r_do (a_storeb 5 rfl sz37 rfl rfl rfl rfl (Nat.le_of_ble_eq_true rfl) rfl) rfl rfl (fun _ => ?_)
  refine j_b5 [(.slice x4.1.A x4.1.n x4.1.c), (.slice x4.2.1.A x4.2.1.n x4.2.1.c), (.slice x4.2.2.1.A x4.2.2.1.n x4.2.2.1.c), (.slice x4.2.2.2.A x4.2.2.2.n x4.2.2.2.c), (i6 v5), (.slice x5.A x5.n x5.c), (i6 v7), (.slice none 0 0), (i6 (0:Int)), (.bool false)] rfl ?_
  refine r_nil ?_
  refine j_then ?_
  refine j_seq ?_
  refine j_region ?_
  refine r_q (q_fieldAddr fi31_2 sz29 rfl rfl rfl) rfl rfl ?_
  refine r_q (q_loadb 7 rfl ag29 rfl rfl rfl) rfl rfl ?_
  obtain ⟨v8, hb3, h⟩ := of_b1 h
  refine r_do (a_call ok35 rfl rfl rfl rfl (fun w hm => laws_toOpS.calls K a0_7 a0_7_A a0_7_n a0_7_c hm a0_7_h (Rd.drop 8 a0_7_R) hb3)) rfl rfl (fun x6 => ?_)
  refine r_q (q_fieldAddr fi40_2 sz38 rfl rfl rfl) rfl rfl ?_
  refine r_do (a_storeb 6 rfl sz38 rfl rfl rfl rfl (Nat.le_of_ble_eq_true rfl) rfl) rfl rfl (fun _ => ?_)
  refine j_b6 [(.slice x4.1.A x4.1.n x4.1.c), (.slice x4.2.1.A x4.2.1.n x4.2.1.c), (.slice x4.2.2.1.A x4.2.2.1.n x4.2.2.1.c), (.slice x4.2.2.2.A x4.2.2.2.n x4.2.2.2.c), (i6 v5), (.slice x5.A x5.n x5.c), (i6 v7), (.slice x6.A x6.n x6.c), (i6 (0:Int)), (.bool false)] rfl ?_
  refine r_nil ?_
  refine j_then ?_
  refine j_seq ?_
  refine j_region ?_
  refine r_q (q_fieldAddr fi31_3 sz3 rfl rfl rfl) rfl rfl ?_
  refine r_q (q_loadb 8 rfl ag3 rfl rfl rfl) rfl rfl ?_
  refine r_q (q_fieldAddr fi40_3 sz3 rfl rfl rfl) rfl rfl ?_
  refine r_do (a_storeb 6 rfl sz3 rfl rfl rfl rfl (Nat.le_of_ble_eq_true rfl) rfl) rfl rfl (fun _ => ?_)
  refine j_b6 [(.slice x4.1.A x4.1.n x4.1.c), (.slice x4.2.1.A x4.2.1.n x4.2.1.c), (.slice x4.2.2.1.A x4.2.2.1.n x4.2.2.1.c), (.slice x4.2.2.2.A x4.2.2.2.n x4.2.2.2.c), (i6 v5), (.slice x5.A x5.n x5.c), (i6 v7), (.slice x6.A x6.n x6.c), (i6 a0_8), (.bool false)] rfl ?_
  refine r_nil ?_
  refine j_then ?_
  refine j_seq ?_
  refine j_region ?_
  refine r_q (q_fieldAddr fi31_4 sz4 rfl rfl rfl) rfl rfl ?_
  refine r_q (q_loadb 8 rfl ag4 rfl rfl rfl) rfl rfl ?_
  refine r_q (q_fieldAddr fi40_4 sz4 rfl rfl rfl) rfl rfl ?_
  refine r_do (a_storeb 6 rfl sz4 rfl rfl rfl rfl (Nat.le_of_ble_eq_true rfl) rfl) rfl rfl (fun _ => ?_)
  refine j_b6 [(.slice x4.1.A x4.1.n x4.1.c), (.slice x4.2.1.A x4.2.1.n x4.2.1.c), (.slice x4.2.2.1.A x4.2.2.1.n x4.2.2.1.c), (.slice x4.2.2.2.A x4.2.2.2.n x4.2.2.2.c), (i6 v5), (.slice x5.A x5.n x5.c), (i6 v7), (.slice x6.A x6.n x6.c), (i6 a0_8), (.bool a0_9)] rfl ?_
  refine r_nil ?_
  refine j_then ?_
  refine j_seq ?_
  refine j_region ?_
  refine r_q (q_loadb_agg 6 rfl ag40 sz40 rfl rfl rfl rfl) rfl rfl ?_
  refine r_do (a_storeb 7 rfl sz40 rfl rfl rfl rfl (Nat.le_of_ble_eq_true rfl) rfl) rfl rfl (fun _ => ?_)
  refine j_b7 [(.slice x4.1.A x4.1.n x4.1.c), (.slice x4.2.1.A x4.2.1.n x4.2.1.c), (.slice x4.2.2.1.A x4.2.2.1.n x4.2.2.1.c), (.slice x4.2.2.2.A x4.2.2.2.n x4.2.2.2.c), (i6 v5), (.slice x5.A x5.n x5.c), (i6 v7), (.slice x6.A x6.n x6.c), (i6 a0_8), (.bool a0_9)] rfl ?_
  refine r_nil ?_
  refine j_then ?_
  refine j_ret ?_
  cases h
  exact j_return rfl (ResOf.cell 7 rfl rfl ag40 sz40 ResOf.nil) rfl (fun w h => ⟨(⟨x4.1.A, x4.1.n, x4.1.c, x4.1.h⟩, ⟨x4.2.1.A, x4.2.1.n, x4.2.1.c, x4.2.1.h⟩, ⟨x4.2.2.1.A, x4.2.2.1.n, x4.2.2.1.c, x4.2.2.1.h⟩, ⟨x4.2.2.2.A, x4.2.2.2.n, x4.2.2.2.c, x4.2.2.2.h⟩, ⟨x5.A, x5.n, x5.c, x5.h⟩, ⟨x6.A, x6.n, x6.c, x6.h⟩), rfl, h.pick 9 [2, 3, 4, 5, 1, 0] rfl⟩)

theorem laws_eqIntS.calls (K : Nat) (a0 : List Int) (a0_A : Option Addr) (a0_n a0_c : Nat) (a1 : List Int) (a1_A : Option Addr) (a1_n a1_c : Nat) {w0 w : World} {F : List Res} {r1 : Bool} (hm : Mem w0 (F) w) (a0_h : a0.length = a0_n) (a0_R : Rd w0 F a0_A (ii a0)) (a1_h : a1.length = a1_n) (a1_R : Rd w0 F a1_A (ii a1)) (h : laws_eqIntS.f K a0 a1 = some r1) :
    Calls Try.prog 67 (List.toArray [.slice a0_A a0_n a0_c, .slice a1_A a1_n a1_c]) w fun e w' => ∃ x : Unit, e = .returned (.bool r1) ∧ Mem w0 (F) w' := by
  unfold laws_eqIntS.f at h
  refine calls_of_J (n := 26) Try.func67 rfl rfl rfl hm ?_
  refine j_seq ?_
  refine j_region ?_
  refine r_q (q_assign rfl rfl) rfl rfl ?_
  refine r_nil ?_
  refine j_then ?_
  refine j_seq ?_
  refine j_seq ?_
  refine j_region ?_
  refine r_q (q_move rfl rfl) rfl rfl ?_
  refine r_q (q_lenX a0 a0_h un22 rfl rfl rfl rfl rfl) rfl rfl ?_
  refine r_q (q_move rfl rfl) rfl rfl ?_
  refine r_q (q_lenX a1 a1_h un22 rfl rfl rfl rfl rfl) rfl rfl ?_
  refine r_q (q_neq rfl rfl rfl) rfl rfl ?_
  refine r_nil ?_
  refine j_then ?_
  rcases of_if h with ⟨c1, h⟩ | ⟨c1, h⟩
  · refine j_false rfl (bne_f c1) ?_
    refine j_skip ?_
    refine j_then ?_
    refine j_seq ?_
    refine j_seq ?_
    refine j_region ?_
    refine r_q (q_assign rfl rfl) rfl rfl ?_
    refine r_nil ?_
    refine j_then ?_
    obtain ⟨κ0, h, hκ0⟩ := ex_k (g := fun κ => laws_eqIntS.loop0 K κ a0 a1 K (0:Int) = some r1) h
    refine j_cut (σ := Unit) (fun s => []) (fun s => F) (fun s => κ0 () = some r1) ?_ ?_
    · refine j_block ?_
      refine j_loop (σ := Int) (fun s => [(0, (.slice a0_A a0_n a0_c)), (1, (.slice a1_A a1_n a1_c)), (5, (i6 s))]) (fun s => F) (fun m s => laws_eqIntS.loop0 K κ0 a0 a1 m s = some r1) K (0:Int) h (fun a he => he.sub ⟨rfl, rfl, rfl, trivial⟩) (fun w h => h) ?_
      rintro m p2 h
      cases m with
      | zero => exact absurd h (by rw [laws_eqIntS.loop0]; exact nofun)
      | succ m =>
        rw [laws_eqIntS.loop0] at h
        show J _ _ [(0, (.slice a0_A a0_n a0_c)), (1, (.slice a1_A a1_n a1_c)), (5, (i6 p2))] _ (F)
        refine j_seq ?_
        refine j_seq ?_
        refine j_region ?_
        refine r_q (q_move rfl rfl) rfl rfl ?_
        refine r_q (q_move rfl rfl) rfl rfl ?_
        refine r_q (q_lenX a0 a0_h un22 rfl rfl rfl rfl rfl) rfl rfl ?_
        refine r_q (q_lss rfl rfl rfl) rfl rfl ?_
        refine r_nil ?_
        refine j_then ?_
        rcases of_if h with ⟨c14, h⟩ | ⟨c14, h⟩
        · refine j_true rfl (decide_eq_true c14) ?_
          refine j_skip ?_
          refine j_then ?_
          refine j_seq ?_
          refine j_block ?_
          refine j_seq ?_
          obtain ⟨c15, h⟩ := of_guard h
          obtain ⟨c16, h⟩ := of_guard h
          refine j_draw (F) 9 follows_any rfl ?_
          refine d_take 0 rfl (q_move rfl rfl) rfl rfl (by kernel_rfl) (by kernel_rfl) (by kernel_rfl) (fun w h => h) ?_
          refine d_take 1 rfl (q_move rfl rfl) rfl rfl (by kernel_rfl) (by kernel_rfl) (by kernel_rfl) (fun w h => h) ?_
          refine d_take 2 rfl (q_ix a0_R (ints_len1 _ a0) (by decide) a0_h c15 un22 sz3 rfl rfl rfl) rfl rfl (by kernel_rfl) (by kernel_rfl) (by kernel_rfl) (fun w h => h) ?_
          refine d_take 3 rfl (q_ldI a0_R c15 ag3 rfl rfl) rfl rfl (by kernel_rfl) (by kernel_rfl) (by kernel_rfl) (fun w h => h) ?_
          refine d_take 4 rfl (q_move rfl rfl) rfl rfl (by kernel_rfl) (by kernel_rfl) (by kernel_rfl) (fun w h => h) ?_
          refine d_take 5 rfl (q_move rfl rfl) rfl rfl (by kernel_rfl) (by kernel_rfl) (by kernel_rfl) (fun w h => h) ?_
          refine d_take 6 rfl (q_ix a1_R (ints_len1 _ a1) (by decide) a1_h c16 un22 sz3 rfl rfl rfl) rfl rfl (by kernel_rfl) (by kernel_rfl) (by kernel_rfl) (fun w h => h) ?_
          refine d_take 7 rfl (q_ldI a1_R c16 ag3 rfl rfl) rfl rfl (by kernel_rfl) (by kernel_rfl) (by kernel_rfl) (fun w h => h) ?_
          refine d_take 8 rfl (q_neq rfl rfl rfl) rfl rfl (by kernel_rfl) (by kernel_rfl) (by kernel_rfl) (fun w h => h) ?_
          refine d_done (by kernel_rfl) ?_
          refine j_then ?_
          rcases of_if h with ⟨c17, h⟩ | ⟨c17, h⟩
          · refine j_false rfl (bne_f c17) ?_
            refine j_skip ?_
            refine j_in ?_
            refine j_then ?_
            refine j_region ?_
            refine r_q (q_move rfl rfl) rfl rfl ?_
            refine r_q (q_add rfl rfl rfl) rfl rfl ?_
            refine r_q (q_assign rfl rfl) rfl rfl ?_
            refine r_nil ?_
            refine j_then ?_
            exact j_again m (wrap64 (p2 + (1:Int))) (Nat.lt_succ_self m) h (fun a he => he.sub ⟨rfl, rfl, rfl, trivial⟩) (fun w h => h)
          · refine j_true rfl (bne_t c17) ?_
            refine j_seq ?_
            refine j_region ?_
            refine r_q (q_assign rfl rfl) rfl rfl ?_
            refine r_nil ?_
            refine j_then ?_
            refine j_ret ?_
            refine j_in_ret ?_
            refine j_then_ret ?_
            refine j_then_ret ?_
            refine j_in_ret ?_
            refine j_then_ret ?_
            refine j_then_ret ?_
            cases h
            exact j_return rfl (ResOf.tmp rfl ResOf.nil) rfl (fun w h => ⟨(), rfl, h⟩)
        · refine j_false rfl (decide_eq_false c14) ?_
          refine j_exit ?_
          refine j_then_exit ?_
          refine j_then_exit ?_
          refine j_in_exit ?_
          refine j_then ?_
          exact j_meet () h (fun a he => he.sub trivial) (fun w h => h)
    · rintro _ h
      subst hκ0
      show J _ _ [] _ (F)
      refine j_then ?_
      refine j_seq ?_
      refine j_region ?_
      refine r_q (q_assign rfl rfl) rfl rfl ?_
      refine r_nil ?_
      refine j_then ?_
      refine j_ret ?_
      cases h
      exact j_return rfl (ResOf.tmp rfl ResOf.nil) rfl (fun w h => ⟨(), rfl, h⟩)
  · refine j_true rfl (bne_t c1) ?_
    refine j_seq ?_
    refine j_region ?_
    refine r_q (q_assign rfl rfl) rfl rfl ?_
    refine r_nil ?_
    refine j_then ?_
    refine j_ret ?_
    refine j_then_ret ?_
    cases h
    exact j_return rfl (ResOf.tmp rfl ResOf.nil) rfl (fun w h => ⟨(), rfl, h⟩)

theorem laws_eqHeap.calls (K : Nat) (a0_0 : List Int) (a0_0_A : Option Addr) (a0_0_n a0_0_c : Nat) (a0_1 : List Int) (a0_1_A : Option Addr) (a0_1_n a0_1_c : Nat) (a0_2 : List Int) (a0_2_A : Option Addr) (a0_2_n a0_2_c : Nat) (a1_0 : List Int) (a1_0_A : Option Addr) (a1_0_n a1_0_c : Nat) (a1_1 : List Int) (a1_1_A : Option Addr) (a1_1_n a1_1_c : Nat) (a1_2 : List Int) (a1_2_A : Option Addr) (a1_2_n a1_2_c : Nat) {w0 w : World} {F : List Res} {r1 : Bool} (hm : Mem w0 (F) w) (a0_0_h : a0_0.length = a0_0_n) (a0_0_R : Rd w0 F a0_0_A (ii a0_0)) (a0_1_h : a0_1.length = a0_1_n) (a0_1_R : Rd w0 F a0_1_A (ii a0_1)) (a0_2_h : a0_2.length = a0_2_n) (a0_2_R : Rd w0 F a0_2_A (ii a0_2)) (a1_0_h : a1_0.length = a1_0_n) (a1_0_R : Rd w0 F a1_0_A (ii a1_0)) (a1_1_h : a1_1.length = a1_1_n) (a1_1_R : Rd w0 F a1_1_A (ii a1_1)) (a1_2_h : a1_2.length = a1_2_n) (a1_2_R : Rd w0 F a1_2_A (ii a1_2)) (h : laws_eqHeap.f K a0_0 a0_1 a0_2 a1_0 a1_1 a1_2 = some r1) :
    Calls Try.prog 66 (List.toArray [.agg (List.toArray [.slice a0_0_A a0_0_n a0_0_c, .slice a0_1_A a0_1_n a0_1_c, .slice a0_2_A a0_2_n a0_2_c]), .agg (List.toArray [.slice a1_0_A a1_0_n a1_0_c, .slice a1_1_A a1_1_n a1_1_c, .slice a1_2_A a1_2_n a1_2_c])]) w fun e w' => ∃ x : Unit, e = .returned (.bool r1) ∧ Mem w0 (F) w' := by
  unfold laws_eqHeap.f at h
  refine calls_of_J (n := 23) Try.func66 rfl rfl rfl hm ?_
  refine j_seq ?_
  refine j_region ?_
  refine r_do (a_box rfl rfl) rfl rfl (fun x1 => ?_)
  refine r_do (a_box rfl rfl) rfl rfl (fun x2 => ?_)
  refine r_q (q_assign rfl rfl) rfl rfl ?_
  refine r_nil ?_
  refine j_then ?_
  refine j_seq ?_
  refine j_seq ?_
  refine j_region ?_
  refine r_q (q_fieldAddr fi34_0 sz22 rfl rfl rfl) rfl rfl ?_
  refine r_q (q_loadb 1 rfl ag22 rfl rfl rfl) rfl rfl ?_
  refine r_q (q_fieldAddr fi34_0 sz22 rfl rfl rfl) rfl rfl ?_
  refine r_q (q_loadb 0 rfl ag22 rfl rfl rfl) rfl rfl ?_
  obtain ⟨v1, hb1, h⟩ := of_b1 h
  refine r_do (a_call ok67 rfl rfl rfl rfl (fun w hm => laws_eqIntS.calls K a0_0 a0_0_A a0_0_n a0_0_c a1_0 a1_0_A a1_0_n a1_0_c hm a0_0_h (Rd.drop 2 a0_0_R) a1_0_h (Rd.drop 2 a1_0_R) hb1)) rfl rfl (fun x3 => ?_)
  refine r_q (q_not rfl rfl) rfl rfl ?_
  refine r_nil ?_
  refine j_then ?_
  rcases of_if h with ⟨c1, h⟩ | ⟨c1, h⟩
  · refine j_false rfl (not_f c1) ?_
    refine j_skip ?_
    refine j_then ?_
    refine j_seq ?_
    refine j_seq ?_
    refine j_region ?_
    refine r_q (q_fieldAddr fi34_1 sz22 rfl rfl rfl) rfl rfl ?_
    refine r_q (q_loadb 1 rfl ag22 rfl rfl rfl) rfl rfl ?_
    refine r_q (q_fieldAddr fi34_1 sz22 rfl rfl rfl) rfl rfl ?_
    refine r_q (q_loadb 0 rfl ag22 rfl rfl rfl) rfl rfl ?_
    obtain ⟨v2, hb2, h⟩ := of_b1 h
    refine r_do (a_call ok67 rfl rfl rfl rfl (fun w hm => laws_eqIntS.calls K a0_1 a0_1_A a0_1_n a0_1_c a1_1 a1_1_A a1_1_n a1_1_c hm a0_1_h (Rd.drop 2 a0_1_R) a1_1_h (Rd.drop 2 a1_1_R) hb2)) rfl rfl (fun x4 => ?_)
    refine r_q (q_not rfl rfl) rfl rfl ?_
    refine r_nil ?_
    refine j_then ?_
    rcases of_if h with ⟨c2, h⟩ | ⟨c2, h⟩
    · refine j_false rfl (not_f c2) ?_
      refine j_skip ?_
      refine j_then ?_
      refine j_seq ?_
      refine j_seq ?_
      refine j_region ?_
      refine r_q (q_fieldAddr fi34_2 sz22 rfl rfl rfl) rfl rfl ?_
      refine r_q (q_loadb 1 rfl ag22 rfl rfl rfl) rfl rfl ?_
      refine r_q (q_fieldAddr fi34_2 sz22 rfl rfl rfl) rfl rfl ?_
      refine r_q (q_loadb 0 rfl ag22 rfl rfl rfl) rfl rfl ?_
      obtain ⟨v3, hb3, h⟩ := of_b1 h
      refine r_do (a_call ok67 rfl rfl rfl rfl (fun w hm => laws_eqIntS.calls K a0_2 a0_2_A a0_2_n a0_2_c a1_2 a1_2_A a1_2_n a1_2_c hm a0_2_h (Rd.drop 2 a0_2_R) a1_2_h (Rd.drop 2 a1_2_R) hb3)) rfl rfl (fun x5 => ?_)
      refine r_q (q_not rfl rfl) rfl rfl ?_
      refine r_nil ?_
      refine j_then ?_
      rcases of_if h with ⟨c3, h⟩ | ⟨c3, h⟩
      · refine j_false rfl (not_f c3) ?_
        refine j_skip ?_
        refine j_then ?_
        refine j_seq ?_
        refine j_region ?_
        refine r_q (q_assign rfl rfl) rfl rfl ?_
        refine r_nil ?_
        refine j_then ?_
        refine j_ret ?_
        cases h
        exact j_return rfl (ResOf.tmp rfl ResOf.nil) rfl (fun w h => ⟨(), rfl, (h.drop 2)⟩)
      · refine j_true rfl (not_t (var_f c3)) ?_
        refine j_seq ?_
        refine j_region ?_
        refine r_q (q_assign rfl rfl) rfl rfl ?_
        refine r_nil ?_
        refine j_then ?_
        refine j_ret ?_
        refine j_then_ret ?_
        cases h
        exact j_return rfl (ResOf.tmp rfl ResOf.nil) rfl (fun w h => ⟨(), rfl, (h.drop 2)⟩)
    · refine j_true rfl (not_t (var_f c2)) ?_
      refine j_seq ?_
      refine j_region ?_
      refine r_q (q_assign rfl rfl) rfl rfl ?_
      refine r_nil ?_
      refine j_then ?_
      refine j_ret ?_
      refine j_then_ret ?_
      cases h
      exact j_return rfl (ResOf.tmp rfl ResOf.nil) rfl (fun w h => ⟨(), rfl, (h.drop 2)⟩)
  · refine j_true rfl (not_t (var_f c1)) ?_
    refine j_seq ?_
    refine j_region ?_
    refine r_q (q_assign rfl rfl) rfl rfl ?_
    refine r_nil ?_
    refine j_then ?_
    refine j_ret ?_
    refine j_then_ret ?_
    cases h
    exact j_return rfl (ResOf.tmp rfl ResOf.nil) rfl (fun w h => ⟨(), rfl, (h.drop 2)⟩)

theorem laws_eqStore.calls (K : Nat) (a0_0 : List Int) (a0_0_A : Option Addr) (a0_0_n a0_0_c : Nat) (a0_1 : List Int) (a0_1_A : Option Addr) (a0_1_n a0_1_c : Nat) (a0_2 : List Int) (a0_2_A : Option Addr) (a0_2_n a0_2_c : Nat) (a0_3 : List Int) (a0_3_A : Option Addr) (a0_3_n a0_3_c : Nat) (a1_0 : List Int) (a1_0_A : Option Addr) (a1_0_n a1_0_c : Nat) (a1_1 : List Int) (a1_1_A : Option Addr) (a1_1_n a1_1_c : Nat) (a1_2 : List Int) (a1_2_A : Option Addr) (a1_2_n a1_2_c : Nat) (a1_3 : List Int) (a1_3_A : Option Addr) (a1_3_n a1_3_c : Nat) {w0 w : World} {F : List Res} {r1 : Bool} (hm : Mem w0 (F) w) (a0_0_h : a0_0.length = a0_0_n) (a0_0_R : Rd w0 F a0_0_A (ii a0_0)) (a0_1_h : a0_1.length = a0_1_n) (a0_1_R : Rd w0 F a0_1_A (ii a0_1)) (a0_2_h : a0_2.length = a0_2_n) (a0_2_R : Rd w0 F a0_2_A (ii a0_2)) (a0_3_h : a0_3.length = a0_3_n) (a0_3_R : Rd w0 F a0_3_A (ii a0_3)) (a1_0_h : a1_0.length = a1_0_n) (a1_0_R : Rd w0 F a1_0_A (ii a1_0)) (a1_1_h : a1_1.length = a1_1_n) (a1_1_R : Rd w0 F a1_1_A (ii a1_1)) (a1_2_h : a1_2.length = a1_2_n) (a1_2_R : Rd w0 F a1_2_A (ii a1_2)) (a1_3_h : a1_3.length = a1_3_n) (a1_3_R : Rd w0 F a1_3_A (ii a1_3)) (h : laws_eqStore.f K a0_0 a0_1 a0_2 a0_3 a1_0 a1_1 a1_2 a1_3 = some r1) :
    Calls Try.prog 37 (List.toArray [.agg (List.toArray [.slice a0_0_A a0_0_n a0_0_c, .slice a0_1_A a0_1_n a0_1_c, .slice a0_2_A a0_2_n a0_2_c, .slice a0_3_A a0_3_n a0_3_c]), .agg (List.toArray [.slice a1_0_A a1_0_n a1_0_c, .slice a1_1_A a1_1_n a1_1_c, .slice a1_2_A a1_2_n a1_2_c, .slice a1_3_A a1_3_n a1_3_c])]) w fun e w' => ∃ x : Unit, e = .returned (.bool r1) ∧ Mem w0 (F) w' := by
  unfold laws_eqStore.f at h
  refine calls_of_J (n := 17) Try.func37 rfl rfl rfl hm ?_
  refine j_seq ?_
  refine j_region ?_
  refine r_do (a_box rfl rfl) rfl rfl (fun x1 => ?_)
  refine r_do (a_box rfl rfl) rfl rfl (fun x2 => ?_)
  refine r_q (q_assign rfl rfl) rfl rfl ?_
  refine r_nil ?_
  refine j_then ?_
  refine j_seq ?_
  refine j_seq ?_
  refine j_region ?_
  refine r_q (q_fieldAddr fi36_0 sz34 rfl rfl rfl) rfl rfl ?_
  refine r_q (q_loadb_agg 1 rfl ag34 sz34 rfl rfl rfl rfl) rfl rfl ?_
  refine r_q (q_fieldAddr fi36_0 sz34 rfl rfl rfl) rfl rfl ?_
  refine r_q (q_loadb_agg 0 rfl ag34 sz34 rfl rfl rfl rfl) rfl rfl ?_
  obtain ⟨v1, hb1, h⟩ := of_b1 h
  refine r_do (a_call ok66 rfl rfl rfl rfl (fun w hm => laws_eqHeap.calls K a0_0 a0_0_A a0_0_n a0_0_c a0_1 a0_1_A a0_1_n a0_1_c a0_2 a0_2_A a0_2_n a0_2_c a1_0 a1_0_A a1_0_n a1_0_c a1_1 a1_1_A a1_1_n a1_1_c a1_2 a1_2_A a1_2_n a1_2_c hm a0_0_h (Rd.drop 2 a0_0_R) a0_1_h (Rd.drop 2 a0_1_R) a0_2_h (Rd.drop 2 a0_2_R) a1_0_h (Rd.drop 2 a1_0_R) a1_1_h (Rd.drop 2 a1_1_R) a1_2_h (Rd.drop 2 a1_2_R) hb1)) rfl rfl (fun x3 => ?_)
  refine r_q (q_not rfl rfl) rfl rfl ?_
  refine r_nil ?_
  refine j_then ?_
  rcases of_if h with ⟨c1, h⟩ | ⟨c1, h⟩
  · refine j_false rfl (not_f c1) ?_
    refine j_skip ?_
    refine j_then ?_
    refine j_seq ?_
    refine j_seq ?_
    refine j_region ?_
    refine r_q (q_fieldAddr fi36_1 sz22 rfl rfl rfl) rfl rfl ?_
    refine r_q (q_loadb 1 rfl ag22 rfl rfl rfl) rfl rfl ?_
    refine r_q (q_fieldAddr fi36_1 sz22 rfl rfl rfl) rfl rfl ?_
    refine r_q (q_loadb 0 rfl ag22 rfl rfl rfl) rfl rfl ?_
    obtain ⟨v2, hb2, h⟩ := of_b1 h
    refine r_do (a_call ok67 rfl rfl rfl rfl (fun w hm => laws_eqIntS.calls K a0_3 a0_3_A a0_3_n a0_3_c a1_3 a1_3_A a1_3_n a1_3_c hm a0_3_h (Rd.drop 2 a0_3_R) a1_3_h (Rd.drop 2 a1_3_R) hb2)) rfl rfl (fun x4 => ?_)
    refine r_q (q_not rfl rfl) rfl rfl ?_
    refine r_nil ?_
    refine j_then ?_
    rcases of_if h with ⟨c2, h⟩ | ⟨c2, h⟩
    · refine j_false rfl (not_f c2) ?_
      refine j_skip ?_
      refine j_then ?_
      refine j_seq ?_
      refine j_region ?_
      refine r_q (q_assign rfl rfl) rfl rfl ?_
      refine r_nil ?_
      refine j_then ?_
      refine j_ret ?_
      cases h
      exact j_return rfl (ResOf.tmp rfl ResOf.nil) rfl (fun w h => ⟨(), rfl, (h.drop 2)⟩)
    · refine j_true rfl (not_t (var_f c2)) ?_
      refine j_seq ?_
      refine j_region ?_
      refine r_q (q_assign rfl rfl) rfl rfl ?_
      refine r_nil ?_
      refine j_then ?_
      refine j_ret ?_
      refine j_then_ret ?_
      cases h
      exact j_return rfl (ResOf.tmp rfl ResOf.nil) rfl (fun w h => ⟨(), rfl, (h.drop 2)⟩)
  · refine j_true rfl (not_t (var_f c1)) ?_
    refine j_seq ?_
    refine j_region ?_
    refine r_q (q_assign rfl rfl) rfl rfl ?_
    refine r_nil ?_
    refine j_then ?_
    refine j_ret ?_
    refine j_then_ret ?_
    cases h
    exact j_return rfl (ResOf.tmp rfl ResOf.nil) rfl (fun w h => ⟨(), rfl, (h.drop 2)⟩)

theorem laws_eqGc.calls (K : Nat) (a0_0 : Int) (a0_1 : List Int) (a0_1_A : Option Addr) (a0_1_n a0_1_c : Nat) (a0_2 : Int) (a1_0 : Int) (a1_1 : List Int) (a1_1_A : Option Addr) (a1_1_n a1_1_c : Nat) (a1_2 : Int) {w0 w : World} {F : List Res} {r1 : Bool} (hm : Mem w0 (F) w) (a0_1_h : a0_1.length = a0_1_n) (a0_1_R : Rd w0 F a0_1_A (ii a0_1)) (a1_1_h : a1_1.length = a1_1_n) (a1_1_R : Rd w0 F a1_1_A (ii a1_1)) (h : laws_eqGc.f K a0_0 a0_1 a0_2 a1_0 a1_1 a1_2 = some r1) :
    Calls Try.prog 38 (List.toArray [.agg (List.toArray [i6 a0_0, .slice a0_1_A a0_1_n a0_1_c, i6 a0_2]), .agg (List.toArray [i6 a1_0, .slice a1_1_A a1_1_n a1_1_c, i6 a1_2])]) w fun e w' => ∃ x : Unit, e = .returned (.bool r1) ∧ Mem w0 (F) w' := by
  unfold laws_eqGc.f at h
  refine calls_of_J (n := 21) Try.func38 rfl rfl rfl hm ?_
  refine j_seq ?_
  refine j_region ?_
  refine r_do (a_box rfl rfl) rfl rfl (fun x1 => ?_)
  refine r_do (a_box rfl rfl) rfl rfl (fun x2 => ?_)
  refine r_q (q_assign rfl rfl) rfl rfl ?_
  refine r_nil ?_
  refine j_then ?_
  refine j_seq ?_
  refine j_seq ?_
  refine j_region ?_
  refine r_q (q_fieldAddr fi37_0 sz3 rfl rfl rfl) rfl rfl ?_
  refine r_q (q_loadb 1 rfl ag3 rfl rfl rfl) rfl rfl ?_
  refine r_q (q_fieldAddr fi37_0 sz3 rfl rfl rfl) rfl rfl ?_
  refine r_q (q_loadb 0 rfl ag3 rfl rfl rfl) rfl rfl ?_
  refine r_q (q_neq rfl rfl rfl) rfl rfl ?_
  refine r_nil ?_
  refine j_then ?_
  rcases of_if h with ⟨c1, h⟩ | ⟨c1, h⟩
  · refine j_false rfl (bne_f c1) ?_
    refine j_skip ?_
    refine j_then ?_
    refine j_seq ?_
    refine j_seq ?_
    refine j_region ?_
    refine r_q (q_fieldAddr fi37_1 sz22 rfl rfl rfl) rfl rfl ?_
    refine r_q (q_loadb 1 rfl ag22 rfl rfl rfl) rfl rfl ?_
    refine r_q (q_fieldAddr fi37_1 sz22 rfl rfl rfl) rfl rfl ?_
    refine r_q (q_loadb 0 rfl ag22 rfl rfl rfl) rfl rfl ?_
    obtain ⟨v1, hb1, h⟩ := of_b1 h
    refine r_do (a_call ok67 rfl rfl rfl rfl (fun w hm => laws_eqIntS.calls K a0_1 a0_1_A a0_1_n a0_1_c a1_1 a1_1_A a1_1_n a1_1_c hm a0_1_h (Rd.drop 2 a0_1_R) a1_1_h (Rd.drop 2 a1_1_R) hb1)) rfl rfl (fun x3 => ?_)
    refine r_q (q_not rfl rfl) rfl rfl ?_
    refine r_nil ?_
    refine j_then ?_
    rcases of_if h with ⟨c2, h⟩ | ⟨c2, h⟩
    · refine j_false rfl (not_f c2) ?_
      refine j_skip ?_
      refine j_then ?_
      refine j_seq ?_
      refine j_seq ?_
      refine j_region ?_
      refine r_q (q_fieldAddr fi37_2 sz3 rfl rfl rfl) rfl rfl ?_
      refine r_q (q_loadb 1 rfl ag3 rfl rfl rfl) rfl rfl ?_
      refine r_q (q_fieldAddr fi37_2 sz3 rfl rfl rfl) rfl rfl ?_
      refine r_q (q_loadb 0 rfl ag3 rfl rfl rfl) rfl rfl ?_
      refine r_q (q_neq rfl rfl rfl) rfl rfl ?_
      refine r_nil ?_
      refine j_then ?_
      rcases of_if h with ⟨c3, h⟩ | ⟨c3, h⟩
      · refine j_false rfl (bne_f c3) ?_
        refine j_skip ?_
        refine j_then ?_
        refine j_seq ?_
        refine j_region ?_
        refine r_q (q_assign rfl rfl) rfl rfl ?_
        refine r_nil ?_
        refine j_then ?_
        refine j_ret ?_
        cases h
        exact j_return rfl (ResOf.tmp rfl ResOf.nil) rfl (fun w h => ⟨(), rfl, (h.drop 2)⟩)
      · refine j_true rfl (bne_t c3) ?_
        refine j_seq ?_
        refine j_region ?_
        refine r_q (q_assign rfl rfl) rfl rfl ?_
        refine r_nil ?_
        refine j_then ?_
        refine j_ret ?_
        refine j_then_ret ?_
        cases h
        exact j_return rfl (ResOf.tmp rfl ResOf.nil) rfl (fun w h => ⟨(), rfl, (h.drop 2)⟩)
    · refine j_true rfl (not_t (var_f c2)) ?_
      refine j_seq ?_
      refine j_region ?_
      refine r_q (q_assign rfl rfl) rfl rfl ?_
      refine r_nil ?_
      refine j_then ?_
      refine j_ret ?_
      refine j_then_ret ?_
      cases h
      exact j_return rfl (ResOf.tmp rfl ResOf.nil) rfl (fun w h => ⟨(), rfl, (h.drop 2)⟩)
  · refine j_true rfl (bne_t c1) ?_
    refine j_seq ?_
    refine j_region ?_
    refine r_q (q_assign rfl rfl) rfl rfl ?_
    refine r_nil ?_
    refine j_then ?_
    refine j_ret ?_
    refine j_then_ret ?_
    cases h
    exact j_return rfl (ResOf.tmp rfl ResOf.nil) rfl (fun w h => ⟨(), rfl, (h.drop 2)⟩)

theorem laws_eqOp.calls (K : Nat) (a0_0 : Int) (a0_1 : Int) (a0_2 : Int) (a1_0 : Int) (a1_1 : Int) (a1_2 : Int) {w0 w : World} {F : List Res} {r1 : Bool} (hm : Mem w0 (F) w)  (h : laws_eqOp.f K a0_0 a0_1 a0_2 a1_0 a1_1 a1_2 = some r1) :
    Calls Try.prog 68 (List.toArray [.agg (List.toArray [i6 a0_0, i6 a0_1, i6 a0_2]), .agg (List.toArray [i6 a1_0, i6 a1_1, i6 a1_2])]) w fun e w' => ∃ x : Unit, e = .returned (.bool r1) ∧ Mem w0 (F) w' := by
  unfold laws_eqOp.f at h
  refine calls_of_J (n := 20) Try.func68 rfl rfl rfl hm ?_
  refine j_seq ?_
  refine j_region ?_
  refine r_do (a_box rfl rfl) rfl rfl (fun x1 => ?_)
  refine r_do (a_box rfl rfl) rfl rfl (fun x2 => ?_)
  refine r_q (q_assign rfl rfl) rfl rfl ?_
  refine r_nil ?_
  refine j_then ?_
  refine j_seq ?_
  refine j_seq ?_
  refine j_region ?_
  refine r_q (q_fieldAddr fi68_0 sz3 rfl rfl rfl) rfl rfl ?_
  refine r_q (q_loadb 1 rfl ag3 rfl rfl rfl) rfl rfl ?_
  refine r_q (q_fieldAddr fi68_0 sz3 rfl rfl rfl) rfl rfl ?_
  refine r_q (q_loadb 0 rfl ag3 rfl rfl rfl) rfl rfl ?_
  refine r_q (q_neq rfl rfl rfl) rfl rfl ?_
  refine r_nil ?_
  refine j_then ?_
  rcases of_if h with ⟨c1, h⟩ | ⟨c1, h⟩
  · refine j_false rfl (bne_f c1) ?_
    refine j_skip ?_
    refine j_then ?_
    refine j_seq ?_
    refine j_seq ?_
    refine j_region ?_
    refine r_q (q_fieldAddr fi68_1 sz3 rfl rfl rfl) rfl rfl ?_
    refine r_q (q_loadb 1 rfl ag3 rfl rfl rfl) rfl rfl ?_
    refine r_q (q_fieldAddr fi68_1 sz3 rfl rfl rfl) rfl rfl ?_
    refine r_q (q_loadb 0 rfl ag3 rfl rfl rfl) rfl rfl ?_
    refine r_q (q_neq rfl rfl rfl) rfl rfl ?_
    refine r_nil ?_
    refine j_then ?_
    rcases of_if h with ⟨c2, h⟩ | ⟨c2, h⟩
    · refine j_false rfl (bne_f c2) ?_
      refine j_skip ?_
      refine j_then ?_
      refine j_seq ?_
      refine j_seq ?_
      refine j_region ?_
      refine r_q (q_fieldAddr fi68_2 sz3 rfl rfl rfl) rfl rfl ?_
      refine r_q (q_loadb 1 rfl ag3 rfl rfl rfl) rfl rfl ?_
      refine r_q (q_fieldAddr fi68_2 sz3 rfl rfl rfl) rfl rfl ?_
      refine r_q (q_loadb 0 rfl ag3 rfl rfl rfl) rfl rfl ?_
      refine r_q (q_neq rfl rfl rfl) rfl rfl ?_
      refine r_nil ?_
      refine j_then ?_
      rcases of_if h with ⟨c3, h⟩ | ⟨c3, h⟩
      · refine j_false rfl (bne_f c3) ?_
        refine j_skip ?_
        refine j_then ?_
        refine j_seq ?_
        refine j_region ?_
        refine r_q (q_assign rfl rfl) rfl rfl ?_
        refine r_nil ?_
        refine j_then ?_
        refine j_ret ?_
        cases h
        exact j_return rfl (ResOf.tmp rfl ResOf.nil) rfl (fun w h => ⟨(), rfl, (h.drop 2)⟩)
      · refine j_true rfl (bne_t c3) ?_
        refine j_seq ?_
        refine j_region ?_
        refine r_q (q_assign rfl rfl) rfl rfl ?_
        refine r_nil ?_
        refine j_then ?_
        refine j_ret ?_
        refine j_then_ret ?_
        cases h
        exact j_return rfl (ResOf.tmp rfl ResOf.nil) rfl (fun w h => ⟨(), rfl, (h.drop 2)⟩)
    · refine j_true rfl (bne_t c2) ?_
      refine j_seq ?_
      refine j_region ?_
      refine r_q (q_assign rfl rfl) rfl rfl ?_
      refine r_nil ?_
      refine j_then ?_
      refine j_ret ?_
      refine j_then_ret ?_
      cases h
      exact j_return rfl (ResOf.tmp rfl ResOf.nil) rfl (fun w h => ⟨(), rfl, (h.drop 2)⟩)
  · refine j_true rfl (bne_t c1) ?_
    refine j_seq ?_
    refine j_region ?_
    refine r_q (q_assign rfl rfl) rfl rfl ?_
    refine r_nil ?_
    refine j_then ?_
    refine j_ret ?_
    refine j_then_ret ?_
    cases h
    exact j_return rfl (ResOf.tmp rfl ResOf.nil) rfl (fun w h => ⟨(), rfl, (h.drop 2)⟩)

theorem laws_eqOpS.calls (K : Nat) (a0 : List (Int × Int × Int)) (a0_A : Option Addr) (a0_n a0_c : Nat) (a1 : List (Int × Int × Int)) (a1_A : Option Addr) (a1_n a1_c : Nat) {w0 w : World} {F : List Res} {r1 : Bool} (hm : Mem w0 (F) w) (a0_h : a0.length = a0_n) (a0_R : Rd w0 F a0_A (trips a0)) (a1_h : a1.length = a1_n) (a1_R : Rd w0 F a1_A (trips a1)) (h : laws_eqOpS.f K a0 a1 = some r1) :
    Calls Try.prog 39 (List.toArray [.slice a0_A a0_n a0_c, .slice a1_A a1_n a1_c]) w fun e w' => ∃ x : Unit, e = .returned (.bool r1) ∧ Mem w0 (F) w' := by
  unfold laws_eqOpS.f at h
  refine calls_of_J (n := 27) Try.func39 rfl rfl rfl hm ?_
  refine j_seq ?_
  refine j_region ?_
  refine r_q (q_assign rfl rfl) rfl rfl ?_
  refine r_nil ?_
  refine j_then ?_
  refine j_seq ?_
  refine j_seq ?_
  refine j_region ?_
  refine r_q (q_move rfl rfl) rfl rfl ?_
  refine r_q (q_lenX a0 a0_h un38 rfl rfl rfl rfl rfl) rfl rfl ?_
  refine r_q (q_move rfl rfl) rfl rfl ?_
  refine r_q (q_lenX a1 a1_h un38 rfl rfl rfl rfl rfl) rfl rfl ?_
  refine r_q (q_neq rfl rfl rfl) rfl rfl ?_
  refine r_nil ?_
  refine j_then ?_
  rcases of_if h with ⟨c1, h⟩ | ⟨c1, h⟩
  · refine j_false rfl (bne_f c1) ?_
    refine j_skip ?_
    refine j_then ?_
    refine j_seq ?_
    refine j_seq ?_
    refine j_region ?_
    refine r_q (q_assign rfl rfl) rfl rfl ?_
    refine r_nil ?_
    refine j_then ?_
    obtain ⟨κ0, h, hκ0⟩ := ex_k (g := fun κ => laws_eqOpS.loop0 K κ a0 a1 K (0:Int) = some r1) h
    refine j_cut (σ := Unit) (fun s => []) (fun s => F) (fun s => κ0 () = some r1) ?_ ?_
    · refine j_block ?_
      refine j_loop (σ := Int) (fun s => [(0, (.slice a0_A a0_n a0_c)), (1, (.slice a1_A a1_n a1_c)), (5, (i6 s))]) (fun s => F) (fun m s => laws_eqOpS.loop0 K κ0 a0 a1 m s = some r1) K (0:Int) h (fun a he => he.sub ⟨rfl, rfl, rfl, trivial⟩) (fun w h => h) ?_
      rintro m p2 h
      cases m with
      | zero => exact absurd h (by rw [laws_eqOpS.loop0]; exact nofun)
      | succ m =>
        rw [laws_eqOpS.loop0] at h
        show J _ _ [(0, (.slice a0_A a0_n a0_c)), (1, (.slice a1_A a1_n a1_c)), (5, (i6 p2))] _ (F)
        refine j_seq ?_
        refine j_seq ?_
        refine j_region ?_
        refine r_q (q_move rfl rfl) rfl rfl ?_
        refine r_q (q_move rfl rfl) rfl rfl ?_
        refine r_q (q_lenX a0 a0_h un38 rfl rfl rfl rfl rfl) rfl rfl ?_
        refine r_q (q_lss rfl rfl rfl) rfl rfl ?_
        refine r_nil ?_
        refine j_then ?_
        rcases of_if h with ⟨c14, h⟩ | ⟨c14, h⟩
        · refine j_true rfl (decide_eq_true c14) ?_
          refine j_skip ?_
          refine j_then ?_
          refine j_seq ?_
          refine j_block ?_
          refine j_seq ?_
          obtain ⟨c15, h⟩ := of_guard h
          obtain ⟨c16, h⟩ := of_guard h
          obtain ⟨v4, hb4, h⟩ := of_b1 h
          refine j_draw (F) 10 follows_any rfl ?_
          refine d_take 0 rfl (q_move rfl rfl) rfl rfl (by kernel_rfl) (by kernel_rfl) (by kernel_rfl) (fun w h => h) ?_
          refine d_take 1 rfl (q_move rfl rfl) rfl rfl (by kernel_rfl) (by kernel_rfl) (by kernel_rfl) (fun w h => h) ?_
          refine d_take 2 rfl (q_ix a0_R (trips_len a0) (by decide) a0_h c15 un38 sz68 rfl rfl rfl) rfl rfl (by kernel_rfl) (by kernel_rfl) (by kernel_rfl) (fun w h => h) ?_
          refine d_take 3 rfl (q_ldT a0_R c15 ag68 sz68 rfl rfl) rfl rfl (by kernel_rfl) (by kernel_rfl) (by kernel_rfl) (fun w h => h) ?_
          refine d_take 4 rfl (q_move rfl rfl) rfl rfl (by kernel_rfl) (by kernel_rfl) (by kernel_rfl) (fun w h => h) ?_
          refine d_take 5 rfl (q_move rfl rfl) rfl rfl (by kernel_rfl) (by kernel_rfl) (by kernel_rfl) (fun w h => h) ?_
          refine d_take 6 rfl (q_ix a1_R (trips_len a1) (by decide) a1_h c16 un38 sz68 rfl rfl rfl) rfl rfl (by kernel_rfl) (by kernel_rfl) (by kernel_rfl) (fun w h => h) ?_
          refine d_take 7 rfl (q_ldT a1_R c16 ag68 sz68 rfl rfl) rfl rfl (by kernel_rfl) (by kernel_rfl) (by kernel_rfl) (fun w h => h) ?_
          refine d_one 8 (by kernel_rfl) ?_
          refine o_do rfl (a_call ok68 rfl rfl rfl rfl (fun w hm => laws_eqOp.calls K (rdt a0 p2).1 (rdt a0 p2).2.1 (rdt a0 p2).2.2 (rdt a1 p2).1 (rdt a1 p2).2.1 (rdt a1 p2).2.2 hm hb4)) rfl rfl (fun x1 w h => h) (fun x1 => ?_)
          refine d_take 9 rfl (q_not rfl rfl) rfl rfl (by kernel_rfl) (by kernel_rfl) (by kernel_rfl) (fun w h => h) ?_
          refine d_done (by kernel_rfl) ?_
          refine j_then ?_
          rcases of_if h with ⟨c17, h⟩ | ⟨c17, h⟩
          · refine j_false rfl (not_f c17) ?_
            refine j_skip ?_
            refine j_in ?_
            refine j_then ?_
            refine j_region ?_
            refine r_q (q_move rfl rfl) rfl rfl ?_
            refine r_q (q_add rfl rfl rfl) rfl rfl ?_
            refine r_q (q_assign rfl rfl) rfl rfl ?_
            refine r_nil ?_
            refine j_then ?_
            exact j_again m (wrap64 (p2 + (1:Int))) (Nat.lt_succ_self m) h (fun a he => he.sub ⟨rfl, rfl, rfl, trivial⟩) (fun w h => h)
          · refine j_true rfl (not_t (var_f c17)) ?_
            refine j_seq ?_
            refine j_region ?_
            refine r_q (q_assign rfl rfl) rfl rfl ?_
            refine r_nil ?_
            refine j_then ?_
            refine j_ret ?_
            refine j_in_ret ?_
            refine j_then_ret ?_
            refine j_then_ret ?_
            refine j_in_ret ?_
            refine j_then_ret ?_
            refine j_then_ret ?_
            cases h
            exact j_return rfl (ResOf.tmp rfl ResOf.nil) rfl (fun w h => ⟨(), rfl, h⟩)
        · refine j_false rfl (decide_eq_false c14) ?_
          refine j_exit ?_
          refine j_then_exit ?_
          refine j_then_exit ?_
          refine j_in_exit ?_
          refine j_then ?_
          exact j_meet () h (fun a he => he.sub trivial) (fun w h => h)
    · rintro _ h
      subst hκ0
      show J _ _ [] _ (F)
      refine j_then ?_
      refine j_seq ?_
      refine j_region ?_
      refine r_q (q_assign rfl rfl) rfl rfl ?_
      refine r_nil ?_
      refine j_then ?_
      refine j_ret ?_
      cases h
      exact j_return rfl (ResOf.tmp rfl ResOf.nil) rfl (fun w h => ⟨(), rfl, h⟩)
  · refine j_true rfl (bne_t c1) ?_
    refine j_seq ?_
    refine j_region ?_
    refine r_q (q_assign rfl rfl) rfl rfl ?_
    refine r_nil ?_
    refine j_then ?_
    refine j_ret ?_
    refine j_then_ret ?_
    cases h
    exact j_return rfl (ResOf.tmp rfl ResOf.nil) rfl (fun w h => ⟨(), rfl, h⟩)

theorem laws_eqBoth.calls (K : Nat) (a0_0 : List Int) (a0_0_A : Option Addr) (a0_0_n a0_0_c : Nat) (a0_1 : List Int) (a0_1_A : Option Addr) (a0_1_n a0_1_c : Nat) (a0_2 : List Int) (a0_2_A : Option Addr) (a0_2_n a0_2_c : Nat) (a0_3 : List Int) (a0_3_A : Option Addr) (a0_3_n a0_3_c : Nat) (a0_4 : Int) (a0_5 : List Int) (a0_5_A : Option Addr) (a0_5_n a0_5_c : Nat) (a0_6 : Int) (a0_7 : List (Int × Int × Int)) (a0_7_A : Option Addr) (a0_7_n a0_7_c : Nat) (a0_8 : Int) (a0_9 : Bool) (a1_0 : List Int) (a1_0_A : Option Addr) (a1_0_n a1_0_c : Nat) (a1_1 : List Int) (a1_1_A : Option Addr) (a1_1_n a1_1_c : Nat) (a1_2 : List Int) (a1_2_A : Option Addr) (a1_2_n a1_2_c : Nat) (a1_3 : List Int) (a1_3_A : Option Addr) (a1_3_n a1_3_c : Nat) (a1_4 : Int) (a1_5 : List Int) (a1_5_A : Option Addr) (a1_5_n a1_5_c : Nat) (a1_6 : Int) (a1_7 : List (Int × Int × Int)) (a1_7_A : Option Addr) (a1_7_n a1_7_c : Nat) (a1_8 : Int) (a1_9 : Bool) {w0 w : World} {F : List Res} {r1 : Bool} (hm : Mem w0 (F) w) (a0_0_h : a0_0.length = a0_0_n) (a0_0_R : Rd w0 F a0_0_A (ii a0_0)) (a0_1_h : a0_1.length = a0_1_n) (a0_1_R : Rd w0 F a0_1_A (ii a0_1)) (a0_2_h : a0_2.length = a0_2_n) (a0_2_R : Rd w0 F a0_2_A (ii a0_2)) (a0_3_h : a0_3.length = a0_3_n) (a0_3_R : Rd w0 F a0_3_A (ii a0_3)) (a0_5_h : a0_5.length = a0_5_n) (a0_5_R : Rd w0 F a0_5_A (ii a0_5)) (a0_7_h : a0_7.length = a0_7_n) (a0_7_R : Rd w0 F a0_7_A (trips a0_7)) (a1_0_h : a1_0.length = a1_0_n) (a1_0_R : Rd w0 F a1_0_A (ii a1_0)) (a1_1_h : a1_1.length = a1_1_n) (a1_1_R : Rd w0 F a1_1_A (ii a1_1)) (a1_2_h : a1_2.length = a1_2_n) (a1_2_R : Rd w0 F a1_2_A (ii a1_2)) (a1_3_h : a1_3.length = a1_3_n) (a1_3_R : Rd w0 F a1_3_A (ii a1_3)) (a1_5_h : a1_5.length = a1_5_n) (a1_5_R : Rd w0 F a1_5_A (ii a1_5)) (a1_7_h : a1_7.length = a1_7_n) (a1_7_R : Rd w0 F a1_7_A (trips a1_7)) (h : laws_eqBoth.f K a0_0 a0_1 a0_2 a0_3 a0_4 a0_5 a0_6 a0_7 a0_8 a0_9 a1_0 a1_1 a1_2 a1_3 a1_4 a1_5 a1_6 a1_7 a1_8 a1_9 = some r1) :
    Calls Try.prog 12 (List.toArray [.agg (List.toArray [.slice a0_0_A a0_0_n a0_0_c, .slice a0_1_A a0_1_n a0_1_c, .slice a0_2_A a0_2_n a0_2_c, .slice a0_3_A a0_3_n a0_3_c, i6 a0_4, .slice a0_5_A a0_5_n a0_5_c, i6 a0_6, .slice a0_7_A a0_7_n a0_7_c, i6 a0_8, .bool a0_9]), .agg (List.toArray [.slice a1_0_A a1_0_n a1_0_c, .slice a1_1_A a1_1_n a1_1_c, .slice a1_2_A a1_2_n a1_2_c, .slice a1_3_A a1_3_n a1_3_c, i6 a1_4, .slice a1_5_A a1_5_n a1_5_c, i6 a1_6, .slice a1_7_A a1_7_n a1_7_c, i6 a1_8, .bool a1_9])]) w fun e w' => ∃ x : Unit, e = .returned (.bool r1) ∧ Mem w0 (F) w' := by
  unfold laws_eqBoth.f at h
  refine calls_of_J (n := 33) Try.func12 rfl rfl rfl hm ?_
  refine j_seq ?_
  refine j_region ?_
  refine r_do (a_box rfl rfl) rfl rfl (fun x1 => ?_)
  refine r_do (a_box rfl rfl) rfl rfl (fun x2 => ?_)
  refine r_q (q_assign rfl rfl) rfl rfl ?_
  refine r_nil ?_
  refine j_then ?_
  refine j_seq ?_
  refine j_seq ?_
  refine j_region ?_
  refine r_q (q_fieldAddr fi40_0 sz36 rfl rfl rfl) rfl rfl ?_
  refine r_q (q_loadb_agg 1 rfl ag36 sz36 rfl rfl rfl rfl) rfl rfl ?_
  refine r_q (q_fieldAddr fi40_0 sz36 rfl rfl rfl) rfl rfl ?_
  refine r_q (q_loadb_agg 0 rfl ag36 sz36 rfl rfl rfl rfl) rfl rfl ?_
  obtain ⟨v1, hb1, h⟩ := of_b1 h
  refine r_do (a_call ok37 rfl rfl rfl rfl (fun w hm => laws_eqStore.calls K a0_0 a0_0_A a0_0_n a0_0_c a0_1 a0_1_A a0_1_n a0_1_c a0_2 a0_2_A a0_2_n a0_2_c a0_3 a0_3_A a0_3_n a0_3_c a1_0 a1_0_A a1_0_n a1_0_c a1_1 a1_1_A a1_1_n a1_1_c a1_2 a1_2_A a1_2_n a1_2_c a1_3 a1_3_A a1_3_n a1_3_c hm a0_0_h (Rd.drop 2 a0_0_R) a0_1_h (Rd.drop 2 a0_1_R) a0_2_h (Rd.drop 2 a0_2_R) a0_3_h (Rd.drop 2 a0_3_R) a1_0_h (Rd.drop 2 a1_0_R) a1_1_h (Rd.drop 2 a1_1_R) a1_2_h (Rd.drop 2 a1_2_R) a1_3_h (Rd.drop 2 a1_3_R) hb1)) rfl rfl (fun x3 => ?_)
  refine r_q (q_not rfl rfl) rfl rfl ?_
  refine r_nil ?_
  refine j_then ?_
  rcases of_if h with ⟨c1, h⟩ | ⟨c1, h⟩
  · refine j_false rfl (not_f c1) ?_
    refine j_skip ?_
    refine j_then ?_
    refine j_seq ?_
    refine j_seq ?_
    refine j_region ?_
    refine r_q (q_fieldAddr fi40_1 sz37 rfl rfl rfl) rfl rfl ?_
    refine r_q (q_loadb_agg 1 rfl ag37 sz37 rfl rfl rfl rfl) rfl rfl ?_
    refine r_q (q_fieldAddr fi40_1 sz37 rfl rfl rfl) rfl rfl ?_
    refine r_q (q_loadb_agg 0 rfl ag37 sz37 rfl rfl rfl rfl) rfl rfl ?_
    obtain ⟨v2, hb2, h⟩ := of_b1 h
    refine r_do (a_call ok38 rfl rfl rfl rfl (fun w hm => laws_eqGc.calls K a0_4 a0_5 a0_5_A a0_5_n a0_5_c a0_6 a1_4 a1_5 a1_5_A a1_5_n a1_5_c a1_6 hm a0_5_h (Rd.drop 2 a0_5_R) a1_5_h (Rd.drop 2 a1_5_R) hb2)) rfl rfl (fun x4 => ?_)
    refine r_q (q_not rfl rfl) rfl rfl ?_
    refine r_nil ?_
    refine j_then ?_
    rcases of_if h with ⟨c2, h⟩ | ⟨c2, h⟩
    · refine j_false rfl (not_f c2) ?_
      refine j_skip ?_
      refine j_then ?_
      refine j_seq ?_
      refine j_seq ?_
      refine j_region ?_
      refine r_q (q_fieldAddr fi40_2 sz38 rfl rfl rfl) rfl rfl ?_
      refine r_q (q_loadb 1 rfl ag38 rfl rfl rfl) rfl rfl ?_
      refine r_q (q_fieldAddr fi40_2 sz38 rfl rfl rfl) rfl rfl ?_
      refine r_q (q_loadb 0 rfl ag38 rfl rfl rfl) rfl rfl ?_
      obtain ⟨v3, hb3, h⟩ := of_b1 h
      refine r_do (a_call ok39 rfl rfl rfl rfl (fun w hm => laws_eqOpS.calls K a0_7 a0_7_A a0_7_n a0_7_c a1_7 a1_7_A a1_7_n a1_7_c hm a0_7_h (Rd.drop 2 a0_7_R) a1_7_h (Rd.drop 2 a1_7_R) hb3)) rfl rfl (fun x5 => ?_)
      refine r_q (q_not rfl rfl) rfl rfl ?_
      refine r_nil ?_
      refine j_then ?_
      rcases of_if h with ⟨c3, h⟩ | ⟨c3, h⟩
      · refine j_false rfl (not_f c3) ?_
        refine j_skip ?_
        refine j_then ?_
        refine j_seq ?_
        refine j_seq ?_
        refine j_region ?_
        refine r_q (q_fieldAddr fi40_3 sz3 rfl rfl rfl) rfl rfl ?_
        refine r_q (q_loadb 1 rfl ag3 rfl rfl rfl) rfl rfl ?_
        refine r_q (q_fieldAddr fi40_3 sz3 rfl rfl rfl) rfl rfl ?_
        refine r_q (q_loadb 0 rfl ag3 rfl rfl rfl) rfl rfl ?_
        refine r_q (q_neq rfl rfl rfl) rfl rfl ?_
        refine r_nil ?_
        refine j_then ?_
        rcases of_if h with ⟨c4, h⟩ | ⟨c4, h⟩
        · refine j_false rfl (bne_f c4) ?_
          refine j_skip ?_
          refine j_then ?_
          refine j_seq ?_
          refine j_seq ?_
          refine j_region ?_
          refine r_q (q_fieldAddr fi40_4 sz4 rfl rfl rfl) rfl rfl ?_
          refine r_q (q_loadb 1 rfl ag4 rfl rfl rfl) rfl rfl ?_
          refine r_q (q_fieldAddr fi40_4 sz4 rfl rfl rfl) rfl rfl ?_
          refine r_q (q_loadb 0 rfl ag4 rfl rfl rfl) rfl rfl ?_
          refine r_q (q_bneq un4 rfl rfl rfl) rfl rfl ?_
          refine r_nil ?_
          refine j_then ?_
          rcases of_if h with ⟨c5, h⟩ | ⟨c5, h⟩
          · refine j_false rfl (bne_f c5) ?_
            refine j_skip ?_
            refine j_then ?_
            refine j_seq ?_
            refine j_region ?_
            refine r_q (q_assign rfl rfl) rfl rfl ?_
            refine r_nil ?_
            refine j_then ?_
            refine j_ret ?_
            cases h
            exact j_return rfl (ResOf.tmp rfl ResOf.nil) rfl (fun w h => ⟨(), rfl, (h.drop 2)⟩)
          · refine j_true rfl (bne_t c5) ?_
            refine j_seq ?_
            refine j_region ?_
            refine r_q (q_assign rfl rfl) rfl rfl ?_
            refine r_nil ?_
            refine j_then ?_
            refine j_ret ?_
            refine j_then_ret ?_
            cases h
            exact j_return rfl (ResOf.tmp rfl ResOf.nil) rfl (fun w h => ⟨(), rfl, (h.drop 2)⟩)
        · refine j_true rfl (bne_t c4) ?_
          refine j_seq ?_
          refine j_region ?_
          refine r_q (q_assign rfl rfl) rfl rfl ?_
          refine r_nil ?_
          refine j_then ?_
          refine j_ret ?_
          refine j_then_ret ?_
          cases h
          exact j_return rfl (ResOf.tmp rfl ResOf.nil) rfl (fun w h => ⟨(), rfl, (h.drop 2)⟩)
      · refine j_true rfl (not_t (var_f c3)) ?_
        refine j_seq ?_
        refine j_region ?_
        refine r_q (q_assign rfl rfl) rfl rfl ?_
        refine r_nil ?_
        refine j_then ?_
        refine j_ret ?_
        refine j_then_ret ?_
        cases h
        exact j_return rfl (ResOf.tmp rfl ResOf.nil) rfl (fun w h => ⟨(), rfl, (h.drop 2)⟩)
    · refine j_true rfl (not_t (var_f c2)) ?_
      refine j_seq ?_
      refine j_region ?_
      refine r_q (q_assign rfl rfl) rfl rfl ?_
      refine r_nil ?_
      refine j_then ?_
      refine j_ret ?_
      refine j_then_ret ?_
      cases h
      exact j_return rfl (ResOf.tmp rfl ResOf.nil) rfl (fun w h => ⟨(), rfl, (h.drop 2)⟩)
  · refine j_true rfl (not_t (var_f c1)) ?_
    refine j_seq ?_
    refine j_region ?_
    refine r_q (q_assign rfl rfl) rfl rfl ?_
    refine r_nil ?_
    refine j_then ?_
    refine j_ret ?_
    refine j_then_ret ?_
    cases h
    exact j_return rfl (ResOf.tmp rfl ResOf.nil) rfl (fun w h => ⟨(), rfl, (h.drop 2)⟩)

end Go.Proofs.Ytpfkcjddilpbkaa.F
