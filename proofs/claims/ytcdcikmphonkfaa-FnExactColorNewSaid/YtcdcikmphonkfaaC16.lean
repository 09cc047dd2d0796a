/- The program computes these pure functions, printed by the generator of wip/gen. -/
import Derived.Test.YtcdcikmphonkfaaFa
import Derived.Test.YtcdcikmphonkfaaFi
import Derived.Test.YtcdcikmphonkfaaFb
import Derived.Test.YtcdcikmphonkfaaC10
namespace Go.Proofs.Ytcdcikmphonkfaa.F
open Go Go.RowKit Go.Proofs.Ytcdcikmphonkfaa.S
set_option linter.unusedVariables false
set_option maxRecDepth 100000
theorem laws_markStore.calls (K : Nat) (a0_0 : List Int) (a0_0_A : Option Addr) (a0_0_n a0_0_c : Nat) (a0_1 : List Int) (a0_1_A : Option Addr) (a0_1_n a0_1_c : Nat) (a0_2 : List Int) (a0_2_A : Option Addr) (a0_2_n a0_2_c : Nat) (a0_3 : List Int) (a0_3_A : Option Addr) (a0_3_n a0_3_c : Nat) (a1 : Int) {w0 w : World} {F : List Res} {r1 : Int} {r2 : List Int} {r3 : List Int} {r4 : List Int} {r5 : List Int} (hm : Mem w0 (.row a0_0_A a0_0_c 3 1 (ii a0_0) :: .row a0_1_A a0_1_c 3 1 (ii a0_1) :: .row a0_2_A a0_2_c 3 1 (ii a0_2) :: .row a0_3_A a0_3_c 3 1 (ii a0_3) :: F) w) (a0_0_h : a0_0.length = a0_0_n) (a0_1_h : a0_1.length = a0_1_n) (a0_2_h : a0_2.length = a0_2_n) (a0_3_h : a0_3.length = a0_3_n) (h : laws_markStore.f K a0_0 a0_1 a0_2 a0_3 a1 = some (r1, r2, r3, r4, r5)) :
    Calls Try.prog 42 (List.toArray [.agg (List.toArray [.slice a0_0_A a0_0_n a0_0_c, .slice a0_1_A a0_1_n a0_1_c, .slice a0_2_A a0_2_n a0_2_c, .slice a0_3_A a0_3_n a0_3_c]), i6 a1]) w fun e w' => ∃ x : (Ln r2.length a0_0.length) × (Ln r3.length a0_1.length) × (Ln r4.length a0_2.length) × (Ln r5.length a0_3.length), e = .returned (i6 r1) ∧ Mem w0 (.row a0_0_A a0_0_c 3 1 (ii r2) :: .row a0_1_A a0_1_c 3 1 (ii r3) :: .row a0_2_A a0_2_c 3 1 (ii r4) :: .row a0_3_A a0_3_c 3 1 (ii r5) :: F) w' := by
  unfold laws_markStore.f at h
  refine calls_of_J (n := 14) Try.func42 rfl rfl rfl hm ?_
  refine j_seq ?_
  refine j_region ?_
  refine r_do (a_box rfl rfl) rfl rfl (fun x1 => ?_)
  refine r_q (q_assign rfl rfl) rfl rfl ?_
  refine r_nil ?_
  refine j_then ?_
  refine j_seq ?_
  refine j_region ?_
  refine r_q (q_fieldAddr fi57_0 sz25 rfl rfl rfl) rfl rfl ?_
  refine r_q (q_loadb_agg 0 rfl ag25 sz25 rfl rfl rfl rfl) rfl rfl ?_
  refine r_q (q_move rfl rfl) rfl rfl ?_
  obtain ⟨v1, v2, v3, v4, hb1, h⟩ := of_b4 h
  refine j_rs (.row a0_0_A a0_0_c 3 1 (ii a0_0) :: .row a0_1_A a0_1_c 3 1 (ii a0_1) :: .row a0_2_A a0_2_c 3 1 (ii a0_2) :: .box x1 57 [(.slice a0_0_A a0_0_n a0_0_c), (.slice a0_1_A a0_1_n a0_1_c), (.slice a0_2_A a0_2_n a0_2_c), (.slice a0_3_A a0_3_n a0_3_c)] :: .row a0_3_A a0_3_c 3 1 (ii a0_3) :: F) (fun _ h => h.pick 5 [1, 2, 3, 0, 4] rfl) ?_
  refine r_do (a_call ok74 rfl rfl rfl rfl (fun w hm => laws_markHeap.calls K a0_0 a0_0_A a0_0_n a0_0_c a0_1 a0_1_A a0_1_n a0_1_c a0_2 a0_2_A a0_2_n a0_2_c a1 hm a0_0_h a0_1_h a0_2_h hb1)) rfl rfl (fun x2 => ?_)
  refine r_q (q_assign rfl rfl) rfl rfl ?_
  refine r_nil ?_
  refine j_then ?_
  refine j_seq ?_
  refine j_region ?_
  refine r_q (q_fieldAddr fi57_1 sz23 rfl rfl rfl) rfl rfl ?_
  refine r_q (q_loadb 3 rfl ag23 rfl rfl rfl) rfl rfl ?_
  refine r_q (q_move rfl rfl) rfl rfl ?_
  obtain ⟨v5, v6, hb2, h⟩ := of_b2 h
  refine j_rs (.row a0_3_A a0_3_c 3 1 (ii a0_3) :: .row a0_0_A a0_0_c 3 1 (ii v2) :: .row a0_1_A a0_1_c 3 1 (ii v3) :: .row a0_2_A a0_2_c 3 1 (ii v4) :: .box x1 57 [(.slice a0_0_A a0_0_n a0_0_c), (.slice a0_1_A a0_1_n a0_1_c), (.slice a0_2_A a0_2_n a0_2_c), (.slice a0_3_A a0_3_n a0_3_c)] :: F) (fun _ h => h.pick 5 [4, 0, 1, 2, 3] rfl) ?_
  refine r_do (a_call ok75 rfl rfl rfl rfl (fun w hm => laws_markIntS.calls K a0_3 a0_3_A a0_3_n a0_3_c v1 hm a0_3_h hb2)) rfl rfl (fun x3 => ?_)
  refine r_q (q_assign rfl rfl) rfl rfl ?_
  refine r_nil ?_
  refine j_then ?_
  refine j_seq ?_
  refine j_region ?_
  refine r_q (q_move rfl rfl) rfl rfl ?_
  refine r_q (q_assign rfl rfl) rfl rfl ?_
  refine r_nil ?_
  refine j_then ?_
  refine j_ret ?_
  cases h
  exact j_return rfl (ResOf.tmp rfl ResOf.nil) rfl (fun w h => ⟨(⟨Eq.trans (x2.1.h.trans a0_0_h) a0_0_h.symm⟩, ⟨Eq.trans (x2.2.1.h.trans a0_1_h) a0_1_h.symm⟩, ⟨Eq.trans (x2.2.2.h.trans a0_2_h) a0_2_h.symm⟩, ⟨Eq.trans (x3.h.trans a0_3_h) a0_3_h.symm⟩), rfl, h.pick 5 [1, 2, 3, 0] rfl⟩)

theorem laws_markGc.calls (K : Nat) (a0_0 : Int) (a0_1 : List Int) (a0_1_A : Option Addr) (a0_1_n a0_1_c : Nat) (a0_2 : Int) (a1 : Int) {w0 w : World} {F : List Res} {r1 : Int} {r2 : List Int} (hm : Mem w0 (.row a0_1_A a0_1_c 3 1 (ii a0_1) :: F) w) (a0_1_h : a0_1.length = a0_1_n) (h : laws_markGc.f K a0_0 a0_1 a0_2 a1 = some (r1, r2)) :
    Calls Try.prog 43 (List.toArray [.agg (List.toArray [i6 a0_0, .slice a0_1_A a0_1_n a0_1_c, i6 a0_2]), i6 a1]) w fun e w' => ∃ x : (Ln r2.length a0_1.length), e = .returned (i6 r1) ∧ Mem w0 (.row a0_1_A a0_1_c 3 1 (ii r2) :: F) w' := by
  unfold laws_markGc.f at h
  refine calls_of_J (n := 10) Try.func43 rfl rfl rfl hm ?_
  refine j_seq ?_
  refine j_region ?_
  refine r_do (a_box rfl rfl) rfl rfl (fun x1 => ?_)
  refine r_q (q_assign rfl rfl) rfl rfl ?_
  refine r_nil ?_
  refine j_then ?_
  refine j_seq ?_
  refine j_region ?_
  refine r_q (q_fieldAddr fi53_1 sz23 rfl rfl rfl) rfl rfl ?_
  refine r_q (q_loadb 0 rfl ag23 rfl rfl rfl) rfl rfl ?_
  refine r_q (q_move rfl rfl) rfl rfl ?_
  obtain ⟨v1, v2, hb1, h⟩ := of_b2 h
  refine j_rs (.row a0_1_A a0_1_c 3 1 (ii a0_1) :: .box x1 53 [(i6 a0_0), (.slice a0_1_A a0_1_n a0_1_c), (i6 a0_2)] :: F) (fun _ h => h.pick 2 [1, 0] rfl) ?_
  refine r_do (a_call ok75 rfl rfl rfl rfl (fun w hm => laws_markIntS.calls K a0_1 a0_1_A a0_1_n a0_1_c a1 hm a0_1_h hb1)) rfl rfl (fun x2 => ?_)
  refine r_q (q_assign rfl rfl) rfl rfl ?_
  refine r_nil ?_
  refine j_then ?_
  refine j_seq ?_
  refine j_region ?_
  refine r_q (q_move rfl rfl) rfl rfl ?_
  refine r_q (q_assign rfl rfl) rfl rfl ?_
  refine r_nil ?_
  refine j_then ?_
  refine j_ret ?_
  cases h
  exact j_return rfl (ResOf.tmp rfl ResOf.nil) rfl (fun w h => ⟨⟨Eq.trans (x2.h.trans a0_1_h) a0_1_h.symm⟩, rfl, h.pick 2 [0] rfl⟩)

theorem laws_heldGc.calls (K : Nat) (a0_0 : Int) (a0_1 : List Int) (a0_1_A : Option Addr) (a0_1_n a0_1_c : Nat) (a0_2 : Int) (a1 : Int) {w0 w : World} {F : List Res} {r1 : Int} (hm : Mem w0 (F) w) (a0_1_h : a0_1.length = a0_1_n) (a0_1_R : Rd w0 F a0_1_A (ii a0_1)) (h : laws_heldGc.f K a0_0 a0_1 a0_2 a1 = some r1) :
    Calls Try.prog 44 (List.toArray [.agg (List.toArray [i6 a0_0, .slice a0_1_A a0_1_n a0_1_c, i6 a0_2]), i6 a1]) w fun e w' => ∃ x : Unit, e = .returned (i6 r1) ∧ Mem w0 (F) w' := by
  unfold laws_heldGc.f at h
  refine calls_of_J (n := 12) Try.func44 rfl rfl rfl hm ?_
  refine j_seq ?_
  refine j_region ?_
  refine r_do (a_box rfl rfl) rfl rfl (fun x1 => ?_)
  refine r_q (q_assign rfl rfl) rfl rfl ?_
  refine r_nil ?_
  refine j_then ?_
  refine j_seq ?_
  refine j_region ?_
  refine r_q (q_fieldAddr fi53_1 sz23 rfl rfl rfl) rfl rfl ?_
  refine r_q (q_loadb 0 rfl ag23 rfl rfl rfl) rfl rfl ?_
  refine r_q (q_move rfl rfl) rfl rfl ?_
  obtain ⟨v1, hb1, h⟩ := of_b1 h
  refine r_do (a_call ok77 rfl rfl rfl rfl (fun w hm => laws_heldIntS.calls K a0_1 a0_1_A a0_1_n a0_1_c a1 hm a0_1_h (Rd.drop 1 a0_1_R) hb1)) rfl rfl (fun x2 => ?_)
  refine r_q (q_assign rfl rfl) rfl rfl ?_
  refine r_nil ?_
  refine j_then ?_
  refine j_seq ?_
  refine j_seq ?_
  refine j_region ?_
  refine r_q (q_move rfl rfl) rfl rfl ?_
  refine r_q (q_lss rfl rfl rfl) rfl rfl ?_
  refine r_nil ?_
  refine j_then ?_
  rcases of_if h with ⟨c1, h⟩ | ⟨c1, h⟩
  · refine j_true rfl (decide_eq_true c1) ?_
    refine j_seq ?_
    refine j_region ?_
    refine r_q (q_assign rfl rfl) rfl rfl ?_
    refine r_nil ?_
    refine j_then ?_
    refine j_ret ?_
    refine j_then_ret ?_
    cases h
    exact j_return rfl (ResOf.tmp rfl ResOf.nil) rfl (fun w h => ⟨(), rfl, h.tail⟩)
  · refine j_false rfl (decide_eq_false c1) ?_
    refine j_skip ?_
    refine j_then ?_
    refine j_seq ?_
    refine j_region ?_
    refine r_q (q_move rfl rfl) rfl rfl ?_
    refine r_q (q_assign rfl rfl) rfl rfl ?_
    refine r_nil ?_
    refine j_then ?_
    refine j_ret ?_
    cases h
    exact j_return rfl (ResOf.tmp rfl ResOf.nil) rfl (fun w h => ⟨(), rfl, h.tail⟩)

end Go.Proofs.Ytcdcikmphonkfaa.F
