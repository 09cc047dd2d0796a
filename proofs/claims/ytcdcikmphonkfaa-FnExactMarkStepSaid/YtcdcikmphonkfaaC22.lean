/- The program computes these pure functions, printed by the generator of wip/gen. -/
import Derived.Test.YtcdcikmphonkfaaFa
import Derived.Test.YtcdcikmphonkfaaFi
import Derived.Test.YtcdcikmphonkfaaFb
import Derived.Test.YtcdcikmphonkfaaC5
import Derived.Test.YtcdcikmphonkfaaC10
namespace Go.Proofs.Ytcdcikmphonkfaa.F
open Go Go.RowKit Go.Proofs.Ytcdcikmphonkfaa.S
set_option linter.unusedVariables false
set_option maxRecDepth 100000
theorem laws_szColored.calls (K : Nat) (a0_0 : List Int) (a0_0_A : Option Addr) (a0_0_n a0_0_c : Nat) (a0_1 : List Int) (a0_1_A : Option Addr) (a0_1_n a0_1_c : Nat) (a0_2 : List Int) (a0_2_A : Option Addr) (a0_2_n a0_2_c : Nat) (a0_3 : List Int) (a0_3_A : Option Addr) (a0_3_n a0_3_c : Nat) (a1 : Int) {w0 w : World} {F : List Res} {r1 : Int} (hm : Mem w0 (F) w) (a0_0_h : a0_0.length = a0_0_n) (a0_0_R : Rd w0 F a0_0_A (ii a0_0)) (a0_1_h : a0_1.length = a0_1_n) (a0_1_R : Rd w0 F a0_1_A (ii a0_1)) (a0_2_h : a0_2.length = a0_2_n) (a0_2_R : Rd w0 F a0_2_A (ii a0_2)) (a0_3_h : a0_3.length = a0_3_n) (a0_3_R : Rd w0 F a0_3_A (ii a0_3)) (h : laws_szColored.f K a0_0 a0_1 a0_2 a0_3 a1 = some r1) :
    Calls Try.prog 20 (List.toArray [.agg (List.toArray [.slice a0_0_A a0_0_n a0_0_c, .slice a0_1_A a0_1_n a0_1_c, .slice a0_2_A a0_2_n a0_2_c, .slice a0_3_A a0_3_n a0_3_c]), i6 a1]) w fun e w' => ∃ x : Unit, e = .returned (i6 r1) ∧ Mem w0 (F) w' := by
  unfold laws_szColored.f at h
  refine calls_of_J (n := 18) Try.func20 rfl rfl rfl hm ?_
  refine j_seq ?_
  refine j_region ?_
  refine r_do (a_box rfl rfl) rfl rfl (fun x1 => ?_)
  refine r_q (q_assign rfl rfl) rfl rfl ?_
  refine r_nil ?_
  refine j_then ?_
  refine j_seq ?_
  refine j_region ?_
  refine r_q (q_fieldAddr fi37_0 sz35 rfl rfl rfl) rfl rfl ?_
  refine r_q (q_loadb_agg 0 rfl ag35 sz35 rfl rfl rfl rfl) rfl rfl ?_
  refine r_q (q_move rfl rfl) rfl rfl ?_
  obtain ⟨v1, hb1, h⟩ := of_b1 h
  refine r_do (a_call ok65 rfl rfl rfl rfl (fun w hm => laws_szHeap.calls K a0_0 a0_0_A a0_0_n a0_0_c a0_1 a0_1_A a0_1_n a0_1_c a0_2 a0_2_A a0_2_n a0_2_c a1 hm a0_0_h (Rd.drop 1 a0_0_R) a0_1_h (Rd.drop 1 a0_1_R) a0_2_h (Rd.drop 1 a0_2_R) hb1)) rfl rfl (fun x2 => ?_)
  refine r_q (q_assign rfl rfl) rfl rfl ?_
  refine r_nil ?_
  refine j_then ?_
  refine j_seq ?_
  refine j_seq ?_
  refine j_region ?_
  refine r_q (q_move rfl rfl) rfl rfl ?_
  refine r_q (q_lss rfl rfl rfl) rfl rfl ?_
  refine r_nil ?_
  refine j_then ?_
  rcases of_if h with ⟨c1, h⟩ | ⟨c1, h⟩
  · refine j_true rfl (decide_eq_true c1) ?_
    refine j_seq ?_
    refine j_region ?_
    refine r_q (q_assign rfl rfl) rfl rfl ?_
    refine r_nil ?_
    refine j_then ?_
    refine j_ret ?_
    refine j_then_ret ?_
    cases h
    exact j_return rfl (ResOf.tmp rfl ResOf.nil) rfl (fun w h => ⟨(), rfl, h.tail⟩)
  · refine j_false rfl (decide_eq_false c1) ?_
    refine j_skip ?_
    refine j_then ?_
    refine j_seq ?_
    refine j_region ?_
    refine r_q (q_fieldAddr fi37_1 sz23 rfl rfl rfl) rfl rfl ?_
    refine r_q (q_loadb 0 rfl ag23 rfl rfl rfl) rfl rfl ?_
    refine r_q (q_move rfl rfl) rfl rfl ?_
    obtain ⟨v2, hb2, h⟩ := of_b1 h
    refine r_do (a_call ok66 rfl rfl rfl rfl (fun w hm => laws_szIntS.calls K a0_3 a0_3_A a0_3_n a0_3_c v1 hm a0_3_h (Rd.drop 1 a0_3_R) hb2)) rfl rfl (fun x3 => ?_)
    refine r_q (q_assign rfl rfl) rfl rfl ?_
    refine r_nil ?_
    refine j_then ?_
    refine j_seq ?_
    refine j_seq ?_
    refine j_region ?_
    refine r_q (q_move rfl rfl) rfl rfl ?_
    refine r_q (q_lss rfl rfl rfl) rfl rfl ?_
    refine r_nil ?_
    refine j_then ?_
    rcases of_if h with ⟨c2, h⟩ | ⟨c2, h⟩
    · refine j_true rfl (decide_eq_true c2) ?_
      refine j_seq ?_
      refine j_region ?_
      refine r_q (q_assign rfl rfl) rfl rfl ?_
      refine r_nil ?_
      refine j_then ?_
      refine j_ret ?_
      refine j_then_ret ?_
      cases h
      exact j_return rfl (ResOf.tmp rfl ResOf.nil) rfl (fun w h => ⟨(), rfl, h.tail⟩)
    · refine j_false rfl (decide_eq_false c2) ?_
      refine j_skip ?_
      refine j_then ?_
      refine j_seq ?_
      refine j_region ?_
      refine r_q (q_move rfl rfl) rfl rfl ?_
      refine r_q (q_assign rfl rfl) rfl rfl ?_
      refine r_nil ?_
      refine j_then ?_
      refine j_ret ?_
      cases h
      exact j_return rfl (ResOf.tmp rfl ResOf.nil) rfl (fun w h => ⟨(), rfl, h.tail⟩)

theorem laws_toColored.calls (K : Nat) (a0_0 : List Int) (a0_0_A : Option Addr) (a0_0_n a0_0_c : Nat) (a0_1 : List Int) (a0_1_A : Option Addr) (a0_1_n a0_1_c : Nat) (a0_2 : List Int) (a0_2_A : Option Addr) (a0_2_n a0_2_c : Nat) (a0_3 : List Int) (a0_3_A : Option Addr) (a0_3_n a0_3_c : Nat) {w0 w : World} {F : List Res} {r1 : List Int} {r2 : List Int} {r3 : List Int} {r4 : List Int} (hm : Mem w0 (F) w) (a0_0_h : a0_0.length = a0_0_n) (a0_0_R : Rd w0 F a0_0_A (ii a0_0)) (a0_1_h : a0_1.length = a0_1_n) (a0_1_R : Rd w0 F a0_1_A (ii a0_1)) (a0_2_h : a0_2.length = a0_2_n) (a0_2_R : Rd w0 F a0_2_A (ii a0_2)) (a0_3_h : a0_3.length = a0_3_n) (a0_3_R : Rd w0 F a0_3_A (ii a0_3)) (h : laws_toColored.f K a0_0 a0_1 a0_2 a0_3 = some (r1, r2, r3, r4)) :
    Calls Try.prog 22 (List.toArray [.agg (List.toArray [.slice a0_0_A a0_0_n a0_0_c, .slice a0_1_A a0_1_n a0_1_c, .slice a0_2_A a0_2_n a0_2_c, .slice a0_3_A a0_3_n a0_3_c])]) w fun e w' => ∃ x : (Sl r1.length) × (Sl r2.length) × (Sl r3.length) × (Sl r4.length), e = .returned (.agg (List.toArray [.slice x.1.A x.1.n x.1.c, .slice x.2.1.A x.2.1.n x.2.1.c, .slice x.2.2.1.A x.2.2.1.n x.2.2.1.c, .slice x.2.2.2.A x.2.2.2.n x.2.2.2.c])) ∧ Mem w0 (.row x.1.A x.1.c 3 1 (ii r1) :: .row x.2.1.A x.2.1.c 3 1 (ii r2) :: .row x.2.2.1.A x.2.2.1.c 3 1 (ii r3) :: .row x.2.2.2.A x.2.2.2.c 3 1 (ii r4) :: F) w' := by
  unfold laws_toColored.f at h
  refine calls_of_J (n := 13) Try.func22 rfl rfl rfl hm ?_
  refine j_seq ?_
  refine j_region ?_
  refine r_do (a_box rfl rfl) rfl rfl (fun x1 => ?_)
  refine r_do (a_alloc zr27 rfl) rfl rfl (fun x2 => ?_)
  refine r_nil ?_
  refine j_then ?_
  refine j_seq ?_
  refine j_region ?_
  refine r_do (a_alloc zr27 rfl) rfl rfl (fun x3 => ?_)
  refine r_nil ?_
  refine j_then ?_
  refine j_seq ?_
  refine j_region ?_
  refine r_q (q_fieldAddr fi37_0 sz35 rfl rfl rfl) rfl rfl ?_
  refine r_q (q_loadb_agg 2 rfl ag35 sz35 rfl rfl rfl rfl) rfl rfl ?_
  obtain ⟨v1, v2, v3, hb1, h⟩ := of_b3 h
  refine r_do (a_call ok69 rfl rfl rfl rfl (fun w hm => laws_toHeap.calls K a0_0 a0_0_A a0_0_n a0_0_c a0_1 a0_1_A a0_1_n a0_1_c a0_2 a0_2_A a0_2_n a0_2_c hm a0_0_h (Rd.drop 3 a0_0_R) a0_1_h (Rd.drop 3 a0_1_R) a0_2_h (Rd.drop 3 a0_2_R) hb1)) rfl rfl (fun x4 => ?_)
  refine r_q (q_fieldAddr fi27_0 sz25 rfl rfl rfl) rfl rfl ?_
  refine r_do (a_storeb 3 rfl sz25 rfl rfl rfl rfl (Nat.le_of_ble_eq_true rfl) rfl) rfl rfl (fun _ => ?_)
  refine j_b3 [(.slice x4.1.A x4.1.n x4.1.c), (.slice x4.2.1.A x4.2.1.n x4.2.1.c), (.slice x4.2.2.A x4.2.2.n x4.2.2.c), (.slice none 0 0)] rfl ?_
  refine r_nil ?_
  refine j_then ?_
  refine j_seq ?_
  refine j_region ?_
  refine r_q (q_fieldAddr fi37_1 sz23 rfl rfl rfl) rfl rfl ?_
  refine r_q (q_loadb 5 rfl ag23 rfl rfl rfl) rfl rfl ?_
  obtain ⟨v4, hb2, h⟩ := of_b1 h
  refine r_do (a_call ok70 rfl rfl rfl rfl (fun w hm => laws_toIntS.calls K a0_3 a0_3_A a0_3_n a0_3_c hm a0_3_h (Rd.drop 6 a0_3_R) hb2)) rfl rfl (fun x5 => ?_)
  refine r_q (q_fieldAddr fi27_1 sz23 rfl rfl rfl) rfl rfl ?_
  refine r_do (a_storeb 4 rfl sz23 rfl rfl rfl rfl (Nat.le_of_ble_eq_true rfl) rfl) rfl rfl (fun _ => ?_)
  refine j_b4 [(.slice x4.1.A x4.1.n x4.1.c), (.slice x4.2.1.A x4.2.1.n x4.2.1.c), (.slice x4.2.2.A x4.2.2.n x4.2.2.c), (.slice x5.A x5.n x5.c)] rfl ?_
  refine r_nil ?_
  refine j_then ?_
  refine j_seq ?_
  refine j_region ?_
  refine r_q (q_loadb_agg 4 rfl ag27 sz27 rfl rfl rfl rfl) rfl rfl ?_
  refine r_do (a_storeb 5 rfl sz27 rfl rfl rfl rfl (Nat.le_of_ble_eq_true rfl) rfl) rfl rfl (fun _ => ?_)
  refine j_b5 [(.slice x4.1.A x4.1.n x4.1.c), (.slice x4.2.1.A x4.2.1.n x4.2.1.c), (.slice x4.2.2.A x4.2.2.n x4.2.2.c), (.slice x5.A x5.n x5.c)] rfl ?_
  refine r_nil ?_
  refine j_then ?_
  refine j_ret ?_
  cases h
  exact j_return rfl (ResOf.cell 5 rfl rfl ag27 sz27 ResOf.nil) rfl (fun w h => ⟨(⟨x4.1.A, x4.1.n, x4.1.c, x4.1.h⟩, ⟨x4.2.1.A, x4.2.1.n, x4.2.1.c, x4.2.1.h⟩, ⟨x4.2.2.A, x4.2.2.n, x4.2.2.c, x4.2.2.h⟩, ⟨x5.A, x5.n, x5.c, x5.h⟩), rfl, h.pick 7 [1, 2, 3, 0] rfl⟩)

theorem laws_eqColored.calls (K : Nat) (a0_0 : List Int) (a0_0_A : Option Addr) (a0_0_n a0_0_c : Nat) (a0_1 : List Int) (a0_1_A : Option Addr) (a0_1_n a0_1_c : Nat) (a0_2 : List Int) (a0_2_A : Option Addr) (a0_2_n a0_2_c : Nat) (a0_3 : List Int) (a0_3_A : Option Addr) (a0_3_n a0_3_c : Nat) (a1_0 : List Int) (a1_0_A : Option Addr) (a1_0_n a1_0_c : Nat) (a1_1 : List Int) (a1_1_A : Option Addr) (a1_1_n a1_1_c : Nat) (a1_2 : List Int) (a1_2_A : Option Addr) (a1_2_n a1_2_c : Nat) (a1_3 : List Int) (a1_3_A : Option Addr) (a1_3_n a1_3_c : Nat) {w0 w : World} {F : List Res} {r1 : Bool} (hm : Mem w0 (F) w) (a0_0_h : a0_0.length = a0_0_n) (a0_0_R : Rd w0 F a0_0_A (ii a0_0)) (a0_1_h : a0_1.length = a0_1_n) (a0_1_R : Rd w0 F a0_1_A (ii a0_1)) (a0_2_h : a0_2.length = a0_2_n) (a0_2_R : Rd w0 F a0_2_A (ii a0_2)) (a0_3_h : a0_3.length = a0_3_n) (a0_3_R : Rd w0 F a0_3_A (ii a0_3)) (a1_0_h : a1_0.length = a1_0_n) (a1_0_R : Rd w0 F a1_0_A (ii a1_0)) (a1_1_h : a1_1.length = a1_1_n) (a1_1_R : Rd w0 F a1_1_A (ii a1_1)) (a1_2_h : a1_2.length = a1_2_n) (a1_2_R : Rd w0 F a1_2_A (ii a1_2)) (a1_3_h : a1_3.length = a1_3_n) (a1_3_R : Rd w0 F a1_3_A (ii a1_3)) (h : laws_eqColored.f K a0_0 a0_1 a0_2 a0_3 a1_0 a1_1 a1_2 a1_3 = some r1) :
    Calls Try.prog 24 (List.toArray [.agg (List.toArray [.slice a0_0_A a0_0_n a0_0_c, .slice a0_1_A a0_1_n a0_1_c, .slice a0_2_A a0_2_n a0_2_c, .slice a0_3_A a0_3_n a0_3_c]), .agg (List.toArray [.slice a1_0_A a1_0_n a1_0_c, .slice a1_1_A a1_1_n a1_1_c, .slice a1_2_A a1_2_n a1_2_c, .slice a1_3_A a1_3_n a1_3_c])]) w fun e w' => ∃ x : Unit, e = .returned (.bool r1) ∧ Mem w0 (F) w' := by
  unfold laws_eqColored.f at h
  refine calls_of_J (n := 17) Try.func24 rfl rfl rfl hm ?_
  refine j_seq ?_
  refine j_region ?_
  refine r_do (a_box rfl rfl) rfl rfl (fun x1 => ?_)
  refine r_do (a_box rfl rfl) rfl rfl (fun x2 => ?_)
  refine r_q (q_assign rfl rfl) rfl rfl ?_
  refine r_nil ?_
  refine j_then ?_
  refine j_seq ?_
  refine j_seq ?_
  refine j_region ?_
  refine r_q (q_fieldAddr fi27_0 sz25 rfl rfl rfl) rfl rfl ?_
  refine r_q (q_loadb_agg 1 rfl ag25 sz25 rfl rfl rfl rfl) rfl rfl ?_
  refine r_q (q_fieldAddr fi27_0 sz25 rfl rfl rfl) rfl rfl ?_
  refine r_q (q_loadb_agg 0 rfl ag25 sz25 rfl rfl rfl rfl) rfl rfl ?_
  obtain ⟨v1, hb1, h⟩ := of_b1 h
  refine r_do (a_call ok72 rfl rfl rfl rfl (fun w hm => laws_eqHeap.calls K a0_0 a0_0_A a0_0_n a0_0_c a0_1 a0_1_A a0_1_n a0_1_c a0_2 a0_2_A a0_2_n a0_2_c a1_0 a1_0_A a1_0_n a1_0_c a1_1 a1_1_A a1_1_n a1_1_c a1_2 a1_2_A a1_2_n a1_2_c hm a0_0_h (Rd.drop 2 a0_0_R) a0_1_h (Rd.drop 2 a0_1_R) a0_2_h (Rd.drop 2 a0_2_R) a1_0_h (Rd.drop 2 a1_0_R) a1_1_h (Rd.drop 2 a1_1_R) a1_2_h (Rd.drop 2 a1_2_R) hb1)) rfl rfl (fun x3 => ?_)
  refine r_q (q_not rfl rfl) rfl rfl ?_
  refine r_nil ?_
  refine j_then ?_
  rcases of_if h with ⟨c1, h⟩ | ⟨c1, h⟩
  · refine j_false rfl (not_f c1) ?_
    refine j_skip ?_
    refine j_then ?_
    refine j_seq ?_
    refine j_seq ?_
    refine j_region ?_
    refine r_q (q_fieldAddr fi27_1 sz23 rfl rfl rfl) rfl rfl ?_
    refine r_q (q_loadb 1 rfl ag23 rfl rfl rfl) rfl rfl ?_
    refine r_q (q_fieldAddr fi27_1 sz23 rfl rfl rfl) rfl rfl ?_
    refine r_q (q_loadb 0 rfl ag23 rfl rfl rfl) rfl rfl ?_
    obtain ⟨v2, hb2, h⟩ := of_b1 h
    refine r_do (a_call ok73 rfl rfl rfl rfl (fun w hm => laws_eqIntS.calls K a0_3 a0_3_A a0_3_n a0_3_c a1_3 a1_3_A a1_3_n a1_3_c hm a0_3_h (Rd.drop 2 a0_3_R) a1_3_h (Rd.drop 2 a1_3_R) hb2)) rfl rfl (fun x4 => ?_)
    refine r_q (q_not rfl rfl) rfl rfl ?_
    refine r_nil ?_
    refine j_then ?_
    rcases of_if h with ⟨c2, h⟩ | ⟨c2, h⟩
    · refine j_false rfl (not_f c2) ?_
      refine j_skip ?_
      refine j_then ?_
      refine j_seq ?_
      refine j_region ?_
      refine r_q (q_assign rfl rfl) rfl rfl ?_
      refine r_nil ?_
      refine j_then ?_
      refine j_ret ?_
      cases h
      exact j_return rfl (ResOf.tmp rfl ResOf.nil) rfl (fun w h => ⟨(), rfl, (h.drop 2)⟩)
    · refine j_true rfl (not_t (var_f c2)) ?_
      refine j_seq ?_
      refine j_region ?_
      refine r_q (q_assign rfl rfl) rfl rfl ?_
      refine r_nil ?_
      refine j_then ?_
      refine j_ret ?_
      refine j_then_ret ?_
      cases h
      exact j_return rfl (ResOf.tmp rfl ResOf.nil) rfl (fun w h => ⟨(), rfl, (h.drop 2)⟩)
  · refine j_true rfl (not_t (var_f c1)) ?_
    refine j_seq ?_
    refine j_region ?_
    refine r_q (q_assign rfl rfl) rfl rfl ?_
    refine r_nil ?_
    refine j_then ?_
    refine j_ret ?_
    refine j_then_ret ?_
    cases h
    exact j_return rfl (ResOf.tmp rfl ResOf.nil) rfl (fun w h => ⟨(), rfl, (h.drop 2)⟩)

theorem laws_markColored.calls (K : Nat) (a0_0 : List Int) (a0_0_A : Option Addr) (a0_0_n a0_0_c : Nat) (a0_1 : List Int) (a0_1_A : Option Addr) (a0_1_n a0_1_c : Nat) (a0_2 : List Int) (a0_2_A : Option Addr) (a0_2_n a0_2_c : Nat) (a0_3 : List Int) (a0_3_A : Option Addr) (a0_3_n a0_3_c : Nat) (a1 : Int) {w0 w : World} {F : List Res} {r1 : Int} {r2 : List Int} {r3 : List Int} {r4 : List Int} {r5 : List Int} (hm : Mem w0 (.row a0_0_A a0_0_c 3 1 (ii a0_0) :: .row a0_1_A a0_1_c 3 1 (ii a0_1) :: .row a0_2_A a0_2_c 3 1 (ii a0_2) :: .row a0_3_A a0_3_c 3 1 (ii a0_3) :: F) w) (a0_0_h : a0_0.length = a0_0_n) (a0_1_h : a0_1.length = a0_1_n) (a0_2_h : a0_2.length = a0_2_n) (a0_3_h : a0_3.length = a0_3_n) (h : laws_markColored.f K a0_0 a0_1 a0_2 a0_3 a1 = some (r1, r2, r3, r4, r5)) :
    Calls Try.prog 25 (List.toArray [.agg (List.toArray [.slice a0_0_A a0_0_n a0_0_c, .slice a0_1_A a0_1_n a0_1_c, .slice a0_2_A a0_2_n a0_2_c, .slice a0_3_A a0_3_n a0_3_c]), i6 a1]) w fun e w' => ∃ x : (Ln r2.length a0_0.length) × (Ln r3.length a0_1.length) × (Ln r4.length a0_2.length) × (Ln r5.length a0_3.length), e = .returned (i6 r1) ∧ Mem w0 (.row a0_0_A a0_0_c 3 1 (ii r2) :: .row a0_1_A a0_1_c 3 1 (ii r3) :: .row a0_2_A a0_2_c 3 1 (ii r4) :: .row a0_3_A a0_3_c 3 1 (ii r5) :: F) w' := by
  unfold laws_markColored.f at h
  refine calls_of_J (n := 14) Try.func25 rfl rfl rfl hm ?_
  refine j_seq ?_
  refine j_region ?_
  refine r_do (a_box rfl rfl) rfl rfl (fun x1 => ?_)
  refine r_q (q_assign rfl rfl) rfl rfl ?_
  refine r_nil ?_
  refine j_then ?_
  refine j_seq ?_
  refine j_region ?_
  refine r_q (q_fieldAddr fi27_0 sz25 rfl rfl rfl) rfl rfl ?_
  refine r_q (q_loadb_agg 0 rfl ag25 sz25 rfl rfl rfl rfl) rfl rfl ?_
  refine r_q (q_move rfl rfl) rfl rfl ?_
  obtain ⟨v1, v2, v3, v4, hb1, h⟩ := of_b4 h
  refine j_rs (.row a0_0_A a0_0_c 3 1 (ii a0_0) :: .row a0_1_A a0_1_c 3 1 (ii a0_1) :: .row a0_2_A a0_2_c 3 1 (ii a0_2) :: .box x1 27 [(.slice a0_0_A a0_0_n a0_0_c), (.slice a0_1_A a0_1_n a0_1_c), (.slice a0_2_A a0_2_n a0_2_c), (.slice a0_3_A a0_3_n a0_3_c)] :: .row a0_3_A a0_3_c 3 1 (ii a0_3) :: F) (fun _ h => h.pick 5 [1, 2, 3, 0, 4] rfl) ?_
  refine r_do (a_call ok74 rfl rfl rfl rfl (fun w hm => laws_markHeap.calls K a0_0 a0_0_A a0_0_n a0_0_c a0_1 a0_1_A a0_1_n a0_1_c a0_2 a0_2_A a0_2_n a0_2_c a1 hm a0_0_h a0_1_h a0_2_h hb1)) rfl rfl (fun x2 => ?_)
  refine r_q (q_assign rfl rfl) rfl rfl ?_
  refine r_nil ?_
  refine j_then ?_
  refine j_seq ?_
  refine j_region ?_
  refine r_q (q_fieldAddr fi27_1 sz23 rfl rfl rfl) rfl rfl ?_
  refine r_q (q_loadb 3 rfl ag23 rfl rfl rfl) rfl rfl ?_
  refine r_q (q_move rfl rfl) rfl rfl ?_
  obtain ⟨v5, v6, hb2, h⟩ := of_b2 h
  refine j_rs (.row a0_3_A a0_3_c 3 1 (ii a0_3) :: .row a0_0_A a0_0_c 3 1 (ii v2) :: .row a0_1_A a0_1_c 3 1 (ii v3) :: .row a0_2_A a0_2_c 3 1 (ii v4) :: .box x1 27 [(.slice a0_0_A a0_0_n a0_0_c), (.slice a0_1_A a0_1_n a0_1_c), (.slice a0_2_A a0_2_n a0_2_c), (.slice a0_3_A a0_3_n a0_3_c)] :: F) (fun _ h => h.pick 5 [4, 0, 1, 2, 3] rfl) ?_
  refine r_do (a_call ok75 rfl rfl rfl rfl (fun w hm => laws_markIntS.calls K a0_3 a0_3_A a0_3_n a0_3_c v1 hm a0_3_h hb2)) rfl rfl (fun x3 => ?_)
  refine r_q (q_assign rfl rfl) rfl rfl ?_
  refine r_nil ?_
  refine j_then ?_
  refine j_seq ?_
  refine j_region ?_
  refine r_q (q_move rfl rfl) rfl rfl ?_
  refine r_q (q_assign rfl rfl) rfl rfl ?_
  refine r_nil ?_
  refine j_then ?_
  refine j_ret ?_
  cases h
  exact j_return rfl (ResOf.tmp rfl ResOf.nil) rfl (fun w h => ⟨(⟨Eq.trans (x2.1.h.trans a0_0_h) a0_0_h.symm⟩, ⟨Eq.trans (x2.2.1.h.trans a0_1_h) a0_1_h.symm⟩, ⟨Eq.trans (x2.2.2.h.trans a0_2_h) a0_2_h.symm⟩, ⟨Eq.trans (x3.h.trans a0_3_h) a0_3_h.symm⟩), rfl, h.pick 5 [1, 2, 3, 0] rfl⟩)

theorem laws_heldHeap.calls (K : Nat) (a0_0 : List Int) (a0_0_A : Option Addr) (a0_0_n a0_0_c : Nat) (a0_1 : List Int) (a0_1_A : Option Addr) (a0_1_n a0_1_c : Nat) (a0_2 : List Int) (a0_2_A : Option Addr) (a0_2_n a0_2_c : Nat) (a1 : Int) {w0 w : World} {F : List Res} {r1 : Int} (hm : Mem w0 (F) w) (a0_0_h : a0_0.length = a0_0_n) (a0_0_R : Rd w0 F a0_0_A (ii a0_0)) (a0_1_h : a0_1.length = a0_1_n) (a0_1_R : Rd w0 F a0_1_A (ii a0_1)) (a0_2_h : a0_2.length = a0_2_n) (a0_2_R : Rd w0 F a0_2_A (ii a0_2)) (h : laws_heldHeap.f K a0_0 a0_1 a0_2 a1 = some r1) :
    Calls Try.prog 76 (List.toArray [.agg (List.toArray [.slice a0_0_A a0_0_n a0_0_c, .slice a0_1_A a0_1_n a0_1_c, .slice a0_2_A a0_2_n a0_2_c]), i6 a1]) w fun e w' => ∃ x : Unit, e = .returned (i6 r1) ∧ Mem w0 (F) w' := by
  unfold laws_heldHeap.f at h
  refine calls_of_J (n := 24) Try.func76 rfl rfl rfl hm ?_
  refine j_seq ?_
  refine j_region ?_
  refine r_do (a_box rfl rfl) rfl rfl (fun x1 => ?_)
  refine r_q (q_assign rfl rfl) rfl rfl ?_
  refine r_nil ?_
  refine j_then ?_
  refine j_seq ?_
  refine j_region ?_
  refine r_q (q_fieldAddr fi25_0 sz23 rfl rfl rfl) rfl rfl ?_
  refine r_q (q_loadb 0 rfl ag23 rfl rfl rfl) rfl rfl ?_
  refine r_q (q_move rfl rfl) rfl rfl ?_
  obtain ⟨v1, hb1, h⟩ := of_b1 h
  refine r_do (a_call ok77 rfl rfl rfl rfl (fun w hm => laws_heldIntS.calls K a0_0 a0_0_A a0_0_n a0_0_c a1 hm a0_0_h (Rd.drop 1 a0_0_R) hb1)) rfl rfl (fun x2 => ?_)
  refine r_q (q_assign rfl rfl) rfl rfl ?_
  refine r_nil ?_
  refine j_then ?_
  refine j_seq ?_
  refine j_seq ?_
  refine j_region ?_
  refine r_q (q_move rfl rfl) rfl rfl ?_
  refine r_q (q_lss rfl rfl rfl) rfl rfl ?_
  refine r_nil ?_
  refine j_then ?_
  rcases of_if h with ⟨c1, h⟩ | ⟨c1, h⟩
  · refine j_true rfl (decide_eq_true c1) ?_
    refine j_seq ?_
    refine j_region ?_
    refine r_q (q_assign rfl rfl) rfl rfl ?_
    refine r_nil ?_
    refine j_then ?_
    refine j_ret ?_
    refine j_then_ret ?_
    cases h
    exact j_return rfl (ResOf.tmp rfl ResOf.nil) rfl (fun w h => ⟨(), rfl, h.tail⟩)
  · refine j_false rfl (decide_eq_false c1) ?_
    refine j_skip ?_
    refine j_then ?_
    refine j_seq ?_
    refine j_region ?_
    refine r_q (q_fieldAddr fi25_1 sz23 rfl rfl rfl) rfl rfl ?_
    refine r_q (q_loadb 0 rfl ag23 rfl rfl rfl) rfl rfl ?_
    refine r_q (q_move rfl rfl) rfl rfl ?_
    obtain ⟨v2, hb2, h⟩ := of_b1 h
    refine r_do (a_call ok77 rfl rfl rfl rfl (fun w hm => laws_heldIntS.calls K a0_1 a0_1_A a0_1_n a0_1_c v1 hm a0_1_h (Rd.drop 1 a0_1_R) hb2)) rfl rfl (fun x3 => ?_)
    refine r_q (q_assign rfl rfl) rfl rfl ?_
    refine r_nil ?_
    refine j_then ?_
    refine j_seq ?_
    refine j_seq ?_
    refine j_region ?_
    refine r_q (q_move rfl rfl) rfl rfl ?_
    refine r_q (q_lss rfl rfl rfl) rfl rfl ?_
    refine r_nil ?_
    refine j_then ?_
    rcases of_if h with ⟨c2, h⟩ | ⟨c2, h⟩
    · refine j_true rfl (decide_eq_true c2) ?_
      refine j_seq ?_
      refine j_region ?_
      refine r_q (q_assign rfl rfl) rfl rfl ?_
      refine r_nil ?_
      refine j_then ?_
      refine j_ret ?_
      refine j_then_ret ?_
      cases h
      exact j_return rfl (ResOf.tmp rfl ResOf.nil) rfl (fun w h => ⟨(), rfl, h.tail⟩)
    · refine j_false rfl (decide_eq_false c2) ?_
      refine j_skip ?_
      refine j_then ?_
      refine j_seq ?_
      refine j_region ?_
      refine r_q (q_fieldAddr fi25_2 sz23 rfl rfl rfl) rfl rfl ?_
      refine r_q (q_loadb 0 rfl ag23 rfl rfl rfl) rfl rfl ?_
      refine r_q (q_move rfl rfl) rfl rfl ?_
      obtain ⟨v3, hb3, h⟩ := of_b1 h
      refine r_do (a_call ok77 rfl rfl rfl rfl (fun w hm => laws_heldIntS.calls K a0_2 a0_2_A a0_2_n a0_2_c v2 hm a0_2_h (Rd.drop 1 a0_2_R) hb3)) rfl rfl (fun x4 => ?_)
      refine r_q (q_assign rfl rfl) rfl rfl ?_
      refine r_nil ?_
      refine j_then ?_
      refine j_seq ?_
      refine j_seq ?_
      refine j_region ?_
      refine r_q (q_move rfl rfl) rfl rfl ?_
      refine r_q (q_lss rfl rfl rfl) rfl rfl ?_
      refine r_nil ?_
      refine j_then ?_
      rcases of_if h with ⟨c3, h⟩ | ⟨c3, h⟩
      · refine j_true rfl (decide_eq_true c3) ?_
        refine j_seq ?_
        refine j_region ?_
        refine r_q (q_assign rfl rfl) rfl rfl ?_
        refine r_nil ?_
        refine j_then ?_
        refine j_ret ?_
        refine j_then_ret ?_
        cases h
        exact j_return rfl (ResOf.tmp rfl ResOf.nil) rfl (fun w h => ⟨(), rfl, h.tail⟩)
      · refine j_false rfl (decide_eq_false c3) ?_
        refine j_skip ?_
        refine j_then ?_
        refine j_seq ?_
        refine j_region ?_
        refine r_q (q_move rfl rfl) rfl rfl ?_
        refine r_q (q_assign rfl rfl) rfl rfl ?_
        refine r_nil ?_
        refine j_then ?_
        refine j_ret ?_
        cases h
        exact j_return rfl (ResOf.tmp rfl ResOf.nil) rfl (fun w h => ⟨(), rfl, h.tail⟩)

theorem laws_heldColored.calls (K : Nat) (a0_0 : List Int) (a0_0_A : Option Addr) (a0_0_n a0_0_c : Nat) (a0_1 : List Int) (a0_1_A : Option Addr) (a0_1_n a0_1_c : Nat) (a0_2 : List Int) (a0_2_A : Option Addr) (a0_2_n a0_2_c : Nat) (a0_3 : List Int) (a0_3_A : Option Addr) (a0_3_n a0_3_c : Nat) (a1 : Int) {w0 w : World} {F : List Res} {r1 : Int} (hm : Mem w0 (F) w) (a0_0_h : a0_0.length = a0_0_n) (a0_0_R : Rd w0 F a0_0_A (ii a0_0)) (a0_1_h : a0_1.length = a0_1_n) (a0_1_R : Rd w0 F a0_1_A (ii a0_1)) (a0_2_h : a0_2.length = a0_2_n) (a0_2_R : Rd w0 F a0_2_A (ii a0_2)) (a0_3_h : a0_3.length = a0_3_n) (a0_3_R : Rd w0 F a0_3_A (ii a0_3)) (h : laws_heldColored.f K a0_0 a0_1 a0_2 a0_3 a1 = some r1) :
    Calls Try.prog 26 (List.toArray [.agg (List.toArray [.slice a0_0_A a0_0_n a0_0_c, .slice a0_1_A a0_1_n a0_1_c, .slice a0_2_A a0_2_n a0_2_c, .slice a0_3_A a0_3_n a0_3_c]), i6 a1]) w fun e w' => ∃ x : Unit, e = .returned (i6 r1) ∧ Mem w0 (F) w' := by
  unfold laws_heldColored.f at h
  refine calls_of_J (n := 18) Try.func26 rfl rfl rfl hm ?_
  refine j_seq ?_
  refine j_region ?_
  refine r_do (a_box rfl rfl) rfl rfl (fun x1 => ?_)
  refine r_q (q_assign rfl rfl) rfl rfl ?_
  refine r_nil ?_
  refine j_then ?_
  refine j_seq ?_
  refine j_region ?_
  refine r_q (q_fieldAddr fi27_0 sz25 rfl rfl rfl) rfl rfl ?_
  refine r_q (q_loadb_agg 0 rfl ag25 sz25 rfl rfl rfl rfl) rfl rfl ?_
  refine r_q (q_move rfl rfl) rfl rfl ?_
  obtain ⟨v1, hb1, h⟩ := of_b1 h
  refine r_do (a_call ok76 rfl rfl rfl rfl (fun w hm => laws_heldHeap.calls K a0_0 a0_0_A a0_0_n a0_0_c a0_1 a0_1_A a0_1_n a0_1_c a0_2 a0_2_A a0_2_n a0_2_c a1 hm a0_0_h (Rd.drop 1 a0_0_R) a0_1_h (Rd.drop 1 a0_1_R) a0_2_h (Rd.drop 1 a0_2_R) hb1)) rfl rfl (fun x2 => ?_)
  refine r_q (q_assign rfl rfl) rfl rfl ?_
  refine r_nil ?_
  refine j_then ?_
  refine j_seq ?_
  refine j_seq ?_
  refine j_region ?_
  refine r_q (q_move rfl rfl) rfl rfl ?_
  refine r_q (q_lss rfl rfl rfl) rfl rfl ?_
  refine r_nil ?_
  refine j_then ?_
  rcases of_if h with ⟨c1, h⟩ | ⟨c1, h⟩
  · refine j_true rfl (decide_eq_true c1) ?_
    refine j_seq ?_
    refine j_region ?_
    refine r_q (q_assign rfl rfl) rfl rfl ?_
    refine r_nil ?_
    refine j_then ?_
    refine j_ret ?_
    refine j_then_ret ?_
    cases h
    exact j_return rfl (ResOf.tmp rfl ResOf.nil) rfl (fun w h => ⟨(), rfl, h.tail⟩)
  · refine j_false rfl (decide_eq_false c1) ?_
    refine j_skip ?_
    refine j_then ?_
    refine j_seq ?_
    refine j_region ?_
    refine r_q (q_fieldAddr fi27_1 sz23 rfl rfl rfl) rfl rfl ?_
    refine r_q (q_loadb 0 rfl ag23 rfl rfl rfl) rfl rfl ?_
    refine r_q (q_move rfl rfl) rfl rfl ?_
    obtain ⟨v2, hb2, h⟩ := of_b1 h
    refine r_do (a_call ok77 rfl rfl rfl rfl (fun w hm => laws_heldIntS.calls K a0_3 a0_3_A a0_3_n a0_3_c v1 hm a0_3_h (Rd.drop 1 a0_3_R) hb2)) rfl rfl (fun x3 => ?_)
    refine r_q (q_assign rfl rfl) rfl rfl ?_
    refine r_nil ?_
    refine j_then ?_
    refine j_seq ?_
    refine j_seq ?_
    refine j_region ?_
    refine r_q (q_move rfl rfl) rfl rfl ?_
    refine r_q (q_lss rfl rfl rfl) rfl rfl ?_
    refine r_nil ?_
    refine j_then ?_
    rcases of_if h with ⟨c2, h⟩ | ⟨c2, h⟩
    · refine j_true rfl (decide_eq_true c2) ?_
      refine j_seq ?_
      refine j_region ?_
      refine r_q (q_assign rfl rfl) rfl rfl ?_
      refine r_nil ?_
      refine j_then ?_
      refine j_ret ?_
      refine j_then_ret ?_
      cases h
      exact j_return rfl (ResOf.tmp rfl ResOf.nil) rfl (fun w h => ⟨(), rfl, h.tail⟩)
    · refine j_false rfl (decide_eq_false c2) ?_
      refine j_skip ?_
      refine j_then ?_
      refine j_seq ?_
      refine j_region ?_
      refine r_q (q_move rfl rfl) rfl rfl ?_
      refine r_q (q_assign rfl rfl) rfl rfl ?_
      refine r_nil ?_
      refine j_then ?_
      refine j_ret ?_
      cases h
      exact j_return rfl (ResOf.tmp rfl ResOf.nil) rfl (fun w h => ⟨(), rfl, h.tail⟩)

end Go.Proofs.Ytcdcikmphonkfaa.F
