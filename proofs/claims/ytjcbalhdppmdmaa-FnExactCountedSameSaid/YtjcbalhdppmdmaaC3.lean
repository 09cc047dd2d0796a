/- The program computes these pure functions, printed by the generator of wip/gen. -/
import Derived.Test.YtjcbalhdppmdmaaFa
import Derived.Test.YtjcbalhdppmdmaaFb
import Derived.Test.YtjcbalhdppmdmaaC2
namespace Go.Proofs.Ytjcbalhdppmdmaa.F
open Go Go.RowKit Go.Proofs.Ytjcbalhdppmdmaa.S
set_option linter.unusedVariables false
set_option maxRecDepth 100000
theorem laws_szHeap.calls (K : Nat) (a0_0 : List Int) (a0_0_A : Option Addr) (a0_0_n a0_0_c : Nat) (a0_1 : List Int) (a0_1_A : Option Addr) (a0_1_n a0_1_c : Nat) (a0_2 : List Int) (a0_2_A : Option Addr) (a0_2_n a0_2_c : Nat) (a1 : Int) {w0 w : World} {F : List Res} {r1 : Int} (hm : Mem w0 (F) w) (a0_0_h : a0_0.length = a0_0_n) (a0_0_R : Rd w0 F a0_0_A (ints .i64 a0_0)) (a0_1_h : a0_1.length = a0_1_n) (a0_1_R : Rd w0 F a0_1_A (ints .i64 a0_1)) (a0_2_h : a0_2.length = a0_2_n) (a0_2_R : Rd w0 F a0_2_A (ints .i64 a0_2)) (h : laws_szHeap.f K a0_0 a0_1 a0_2 a1 = some r1) :
    Calls Try.prog 34 (List.toArray [.agg (List.toArray [.slice a0_0_A a0_0_n a0_0_c, .slice a0_1_A a0_1_n a0_1_c, .slice a0_2_A a0_2_n a0_2_c]), .int .i64 a1]) w fun e w' => ∃ x : Unit, e = .returned (.int .i64 r1) ∧ Mem w0 (F) w' := by
  unfold laws_szHeap.f at h
  refine calls_of_J (n := 24) Try.func34 rfl rfl rfl hm ?_
  refine j_seq ?_
  refine j_region ?_
  refine r_do (a_box rfl rfl) rfl rfl (fun x1 => ?_)
  refine r_q (q_assign rfl rfl) rfl rfl ?_
  refine j_rs (.box x1 41 [(.slice a0_0_A a0_0_n a0_0_c), (.slice a0_1_A a0_1_n a0_1_c), (.slice a0_2_A a0_2_n a0_2_c)] :: F) (fun _ h => h) ?_
  refine r_nil ?_
  refine j_then ?_
  refine j_seq ?_
  refine j_region ?_
  refine r_q (q_fieldAddr fi41_0 sz32 rfl rfl rfl) rfl rfl ?_
  refine r_q (q_loadb 0 rfl ag32 rfl rfl rfl) rfl rfl ?_
  refine r_q (q_move rfl rfl) rfl rfl ?_
  obtain ⟨v1, hb1, h⟩ := of_b1 h
  refine r_do (a_call ok70 rfl rfl rfl rfl (fun w hm => laws_szIntS.calls K a0_0 a0_0_A a0_0_n a0_0_c a1 hm a0_0_h (Rd.drop 1 a0_0_R) hb1)) rfl rfl (fun x2 => ?_)
  refine r_q (q_assign rfl rfl) rfl rfl ?_
  refine j_rs (.box x1 41 [(.slice a0_0_A a0_0_n a0_0_c), (.slice a0_1_A a0_1_n a0_1_c), (.slice a0_2_A a0_2_n a0_2_c)] :: F) (fun _ h => h) ?_
  refine r_nil ?_
  refine j_then ?_
  refine j_seq ?_
  refine j_seq ?_
  refine j_region ?_
  refine r_q (q_move rfl rfl) rfl rfl ?_
  refine r_q (q_lss rfl rfl rfl) rfl rfl ?_
  refine r_nil ?_
  refine j_then ?_
  rcases of_if h with ⟨c1, h⟩ | ⟨c1, h⟩
  · refine j_true rfl (decide_eq_true c1) ?_
    refine j_seq ?_
    refine j_region ?_
    refine r_q (q_assign rfl rfl) rfl rfl ?_
    refine r_nil ?_
    refine j_then ?_
    refine j_ret ?_
    refine j_then_ret ?_
    cases h
    exact j_return rfl (ResOf.tmp rfl ResOf.nil) rfl (fun w h => ⟨(), rfl, h.tail⟩)
  · refine j_false rfl (decide_eq_false c1) ?_
    refine j_skip ?_
    refine j_then ?_
    refine j_seq ?_
    refine j_region ?_
    refine r_q (q_fieldAddr fi41_1 sz32 rfl rfl rfl) rfl rfl ?_
    refine r_q (q_loadb 0 rfl ag32 rfl rfl rfl) rfl rfl ?_
    refine r_q (q_move rfl rfl) rfl rfl ?_
    obtain ⟨v2, hb2, h⟩ := of_b1 h
    refine r_do (a_call ok70 rfl rfl rfl rfl (fun w hm => laws_szIntS.calls K a0_1 a0_1_A a0_1_n a0_1_c v1 hm a0_1_h (Rd.drop 1 a0_1_R) hb2)) rfl rfl (fun x3 => ?_)
    refine r_q (q_assign rfl rfl) rfl rfl ?_
    refine j_rs (.box x1 41 [(.slice a0_0_A a0_0_n a0_0_c), (.slice a0_1_A a0_1_n a0_1_c), (.slice a0_2_A a0_2_n a0_2_c)] :: F) (fun _ h => h) ?_
    refine r_nil ?_
    refine j_then ?_
    refine j_seq ?_
    refine j_seq ?_
    refine j_region ?_
    refine r_q (q_move rfl rfl) rfl rfl ?_
    refine r_q (q_lss rfl rfl rfl) rfl rfl ?_
    refine r_nil ?_
    refine j_then ?_
    rcases of_if h with ⟨c2, h⟩ | ⟨c2, h⟩
    · refine j_true rfl (decide_eq_true c2) ?_
      refine j_seq ?_
      refine j_region ?_
      refine r_q (q_assign rfl rfl) rfl rfl ?_
      refine r_nil ?_
      refine j_then ?_
      refine j_ret ?_
      refine j_then_ret ?_
      cases h
      exact j_return rfl (ResOf.tmp rfl ResOf.nil) rfl (fun w h => ⟨(), rfl, h.tail⟩)
    · refine j_false rfl (decide_eq_false c2) ?_
      refine j_skip ?_
      refine j_then ?_
      refine j_seq ?_
      refine j_region ?_
      refine r_q (q_fieldAddr fi41_2 sz32 rfl rfl rfl) rfl rfl ?_
      refine r_q (q_loadb 0 rfl ag32 rfl rfl rfl) rfl rfl ?_
      refine r_q (q_move rfl rfl) rfl rfl ?_
      obtain ⟨v3, hb3, h⟩ := of_b1 h
      refine r_do (a_call ok70 rfl rfl rfl rfl (fun w hm => laws_szIntS.calls K a0_2 a0_2_A a0_2_n a0_2_c v2 hm a0_2_h (Rd.drop 1 a0_2_R) hb3)) rfl rfl (fun x4 => ?_)
      refine r_q (q_assign rfl rfl) rfl rfl ?_
      refine j_rs (.box x1 41 [(.slice a0_0_A a0_0_n a0_0_c), (.slice a0_1_A a0_1_n a0_1_c), (.slice a0_2_A a0_2_n a0_2_c)] :: F) (fun _ h => h) ?_
      refine r_nil ?_
      refine j_then ?_
      refine j_seq ?_
      refine j_seq ?_
      refine j_region ?_
      refine r_q (q_move rfl rfl) rfl rfl ?_
      refine r_q (q_lss rfl rfl rfl) rfl rfl ?_
      refine r_nil ?_
      refine j_then ?_
      rcases of_if h with ⟨c3, h⟩ | ⟨c3, h⟩
      · refine j_true rfl (decide_eq_true c3) ?_
        refine j_seq ?_
        refine j_region ?_
        refine r_q (q_assign rfl rfl) rfl rfl ?_
        refine r_nil ?_
        refine j_then ?_
        refine j_ret ?_
        refine j_then_ret ?_
        cases h
        exact j_return rfl (ResOf.tmp rfl ResOf.nil) rfl (fun w h => ⟨(), rfl, h.tail⟩)
      · refine j_false rfl (decide_eq_false c3) ?_
        refine j_skip ?_
        refine j_then ?_
        refine j_seq ?_
        refine j_region ?_
        refine r_q (q_move rfl rfl) rfl rfl ?_
        refine r_q (q_assign rfl rfl) rfl rfl ?_
        refine r_nil ?_
        refine j_then ?_
        refine j_ret ?_
        cases h
        exact j_return rfl (ResOf.tmp rfl ResOf.nil) rfl (fun w h => ⟨(), rfl, h.tail⟩)

theorem laws_szStore.calls (K : Nat) (a0_0 : List Int) (a0_0_A : Option Addr) (a0_0_n a0_0_c : Nat) (a0_1 : List Int) (a0_1_A : Option Addr) (a0_1_n a0_1_c : Nat) (a0_2 : List Int) (a0_2_A : Option Addr) (a0_2_n a0_2_c : Nat) (a0_3 : List Int) (a0_3_A : Option Addr) (a0_3_n a0_3_c : Nat) (a1 : Int) {w0 w : World} {F : List Res} {r1 : Int} (hm : Mem w0 (F) w) (a0_0_h : a0_0.length = a0_0_n) (a0_0_R : Rd w0 F a0_0_A (ints .i64 a0_0)) (a0_1_h : a0_1.length = a0_1_n) (a0_1_R : Rd w0 F a0_1_A (ints .i64 a0_1)) (a0_2_h : a0_2.length = a0_2_n) (a0_2_R : Rd w0 F a0_2_A (ints .i64 a0_2)) (a0_3_h : a0_3.length = a0_3_n) (a0_3_R : Rd w0 F a0_3_A (ints .i64 a0_3)) (h : laws_szStore.f K a0_0 a0_1 a0_2 a0_3 a1 = some r1) :
    Calls Try.prog 24 (List.toArray [.agg (List.toArray [.slice a0_0_A a0_0_n a0_0_c, .slice a0_1_A a0_1_n a0_1_c, .slice a0_2_A a0_2_n a0_2_c, .slice a0_3_A a0_3_n a0_3_c]), .int .i64 a1]) w fun e w' => ∃ x : Unit, e = .returned (.int .i64 r1) ∧ Mem w0 (F) w' := by
  unfold laws_szStore.f at h
  refine calls_of_J (n := 18) Try.func24 rfl rfl rfl hm ?_
  refine j_seq ?_
  refine j_region ?_
  refine r_do (a_box rfl rfl) rfl rfl (fun x1 => ?_)
  refine r_q (q_assign rfl rfl) rfl rfl ?_
  refine j_rs (.box x1 43 [(.slice a0_0_A a0_0_n a0_0_c), (.slice a0_1_A a0_1_n a0_1_c), (.slice a0_2_A a0_2_n a0_2_c), (.slice a0_3_A a0_3_n a0_3_c)] :: F) (fun _ h => h) ?_
  refine r_nil ?_
  refine j_then ?_
  refine j_seq ?_
  refine j_region ?_
  refine r_q (q_fieldAddr fi43_0 sz41 rfl rfl rfl) rfl rfl ?_
  refine r_q (q_loadb_agg 0 rfl ag41 sz41 rfl rfl rfl rfl) rfl rfl ?_
  refine r_q (q_move rfl rfl) rfl rfl ?_
  obtain ⟨v1, hb1, h⟩ := of_b1 h
  refine r_do (a_call ok34 rfl rfl rfl rfl (fun w hm => laws_szHeap.calls K a0_0 a0_0_A a0_0_n a0_0_c a0_1 a0_1_A a0_1_n a0_1_c a0_2 a0_2_A a0_2_n a0_2_c a1 hm a0_0_h (Rd.drop 1 a0_0_R) a0_1_h (Rd.drop 1 a0_1_R) a0_2_h (Rd.drop 1 a0_2_R) hb1)) rfl rfl (fun x2 => ?_)
  refine r_q (q_assign rfl rfl) rfl rfl ?_
  refine j_rs (.box x1 43 [(.slice a0_0_A a0_0_n a0_0_c), (.slice a0_1_A a0_1_n a0_1_c), (.slice a0_2_A a0_2_n a0_2_c), (.slice a0_3_A a0_3_n a0_3_c)] :: F) (fun _ h => h) ?_
  refine r_nil ?_
  refine j_then ?_
  refine j_seq ?_
  refine j_seq ?_
  refine j_region ?_
  refine r_q (q_move rfl rfl) rfl rfl ?_
  refine r_q (q_lss rfl rfl rfl) rfl rfl ?_
  refine r_nil ?_
  refine j_then ?_
  rcases of_if h with ⟨c1, h⟩ | ⟨c1, h⟩
  · refine j_true rfl (decide_eq_true c1) ?_
    refine j_seq ?_
    refine j_region ?_
    refine r_q (q_assign rfl rfl) rfl rfl ?_
    refine r_nil ?_
    refine j_then ?_
    refine j_ret ?_
    refine j_then_ret ?_
    cases h
    exact j_return rfl (ResOf.tmp rfl ResOf.nil) rfl (fun w h => ⟨(), rfl, h.tail⟩)
  · refine j_false rfl (decide_eq_false c1) ?_
    refine j_skip ?_
    refine j_then ?_
    refine j_seq ?_
    refine j_region ?_
    refine r_q (q_fieldAddr fi43_1 sz32 rfl rfl rfl) rfl rfl ?_
    refine r_q (q_loadb 0 rfl ag32 rfl rfl rfl) rfl rfl ?_
    refine r_q (q_move rfl rfl) rfl rfl ?_
    obtain ⟨v2, hb2, h⟩ := of_b1 h
    refine r_do (a_call ok70 rfl rfl rfl rfl (fun w hm => laws_szIntS.calls K a0_3 a0_3_A a0_3_n a0_3_c v1 hm a0_3_h (Rd.drop 1 a0_3_R) hb2)) rfl rfl (fun x3 => ?_)
    refine r_q (q_assign rfl rfl) rfl rfl ?_
    refine j_rs (.box x1 43 [(.slice a0_0_A a0_0_n a0_0_c), (.slice a0_1_A a0_1_n a0_1_c), (.slice a0_2_A a0_2_n a0_2_c), (.slice a0_3_A a0_3_n a0_3_c)] :: F) (fun _ h => h) ?_
    refine r_nil ?_
    refine j_then ?_
    refine j_seq ?_
    refine j_seq ?_
    refine j_region ?_
    refine r_q (q_move rfl rfl) rfl rfl ?_
    refine r_q (q_lss rfl rfl rfl) rfl rfl ?_
    refine r_nil ?_
    refine j_then ?_
    rcases of_if h with ⟨c2, h⟩ | ⟨c2, h⟩
    · refine j_true rfl (decide_eq_true c2) ?_
      refine j_seq ?_
      refine j_region ?_
      refine r_q (q_assign rfl rfl) rfl rfl ?_
      refine r_nil ?_
      refine j_then ?_
      refine j_ret ?_
      refine j_then_ret ?_
      cases h
      exact j_return rfl (ResOf.tmp rfl ResOf.nil) rfl (fun w h => ⟨(), rfl, h.tail⟩)
    · refine j_false rfl (decide_eq_false c2) ?_
      refine j_skip ?_
      refine j_then ?_
      refine j_seq ?_
      refine j_region ?_
      refine r_q (q_move rfl rfl) rfl rfl ?_
      refine r_q (q_assign rfl rfl) rfl rfl ?_
      refine r_nil ?_
      refine j_then ?_
      refine j_ret ?_
      cases h
      exact j_return rfl (ResOf.tmp rfl ResOf.nil) rfl (fun w h => ⟨(), rfl, h.tail⟩)

theorem laws_toHeap.calls (K : Nat) (a0_0 : List Int) (a0_0_A : Option Addr) (a0_0_n a0_0_c : Nat) (a0_1 : List Int) (a0_1_A : Option Addr) (a0_1_n a0_1_c : Nat) (a0_2 : List Int) (a0_2_A : Option Addr) (a0_2_n a0_2_c : Nat) {w0 w : World} {F : List Res} {r1 : List Int} {r2 : List Int} {r3 : List Int} (hm : Mem w0 (F) w) (a0_0_h : a0_0.length = a0_0_n) (a0_0_R : Rd w0 F a0_0_A (ints .i64 a0_0)) (a0_1_h : a0_1.length = a0_1_n) (a0_1_R : Rd w0 F a0_1_A (ints .i64 a0_1)) (a0_2_h : a0_2.length = a0_2_n) (a0_2_R : Rd w0 F a0_2_A (ints .i64 a0_2)) (h : laws_toHeap.f K a0_0 a0_1 a0_2 = some (r1, r2, r3)) :
    Calls Try.prog 36 (List.toArray [.agg (List.toArray [.slice a0_0_A a0_0_n a0_0_c, .slice a0_1_A a0_1_n a0_1_c, .slice a0_2_A a0_2_n a0_2_c])]) w fun e w' => ∃ x : (Sl r1.length) × (Sl r2.length) × (Sl r3.length), e = .returned (.agg (List.toArray [.slice x.1.A x.1.n x.1.c, .slice x.2.1.A x.2.1.n x.2.1.c, .slice x.2.2.A x.2.2.n x.2.2.c])) ∧ Mem w0 (.row x.1.A x.1.c 3 1 (ints .i64 r1) :: .row x.2.1.A x.2.1.c 3 1 (ints .i64 r2) :: .row x.2.2.A x.2.2.c 3 1 (ints .i64 r3) :: F) w' := by
  unfold laws_toHeap.f at h
  refine calls_of_J (n := 17) Try.func36 rfl rfl rfl hm ?_
  refine j_seq ?_
  refine j_region ?_
  refine r_do (a_box rfl rfl) rfl rfl (fun x1 => ?_)
  refine r_do (a_alloc zr46 rfl) rfl rfl (fun x2 => ?_)
  refine j_rs (.box x2 46 [(.slice none 0 0), (.slice none 0 0), (.slice none 0 0)] :: .box x1 41 [(.slice a0_0_A a0_0_n a0_0_c), (.slice a0_1_A a0_1_n a0_1_c), (.slice a0_2_A a0_2_n a0_2_c)] :: F) (fun _ h => h) ?_
  refine r_nil ?_
  refine j_then ?_
  refine j_seq ?_
  refine j_region ?_
  refine r_do (a_alloc zr46 rfl) rfl rfl (fun x3 => ?_)
  refine j_rs (.box x3 46 [(.slice none 0 0), (.slice none 0 0), (.slice none 0 0)] :: .box x2 46 [(.slice none 0 0), (.slice none 0 0), (.slice none 0 0)] :: .box x1 41 [(.slice a0_0_A a0_0_n a0_0_c), (.slice a0_1_A a0_1_n a0_1_c), (.slice a0_2_A a0_2_n a0_2_c)] :: F) (fun _ h => h) ?_
  refine r_nil ?_
  refine j_then ?_
  refine j_seq ?_
  refine j_region ?_
  refine r_q (q_fieldAddr fi41_0 sz32 rfl rfl rfl) rfl rfl ?_
  refine r_q (q_loadb 2 rfl ag32 rfl rfl rfl) rfl rfl ?_
  obtain ⟨v1, hb1, h⟩ := of_b1 h
  refine r_do (a_call ok72 rfl rfl rfl rfl (fun w hm => laws_toIntS.calls K a0_0 a0_0_A a0_0_n a0_0_c hm a0_0_h (Rd.drop 3 a0_0_R) hb1)) rfl rfl (fun x4 => ?_)
  refine r_q (q_fieldAddr fi46_0 sz32 rfl rfl rfl) rfl rfl ?_
  refine r_do (a_storeb 1 rfl sz32 rfl rfl rfl rfl (Nat.le_of_ble_eq_true rfl) rfl) rfl rfl (fun _ => ?_)
  refine j_rs (.row x4.A x4.c 3 1 (ints .i64 v1) :: .box x3 46 [(.slice x4.A x4.n x4.c), (.slice none 0 0), (.slice none 0 0)] :: .box x2 46 [(.slice none 0 0), (.slice none 0 0), (.slice none 0 0)] :: .box x1 41 [(.slice a0_0_A a0_0_n a0_0_c), (.slice a0_1_A a0_1_n a0_1_c), (.slice a0_2_A a0_2_n a0_2_c)] :: F) (fun _ h => h) ?_
  refine r_nil ?_
  refine j_then ?_
  refine j_seq ?_
  refine j_region ?_
  refine r_q (q_fieldAddr fi41_1 sz32 rfl rfl rfl) rfl rfl ?_
  refine r_q (q_loadb 3 rfl ag32 rfl rfl rfl) rfl rfl ?_
  obtain ⟨v2, hb2, h⟩ := of_b1 h
  refine r_do (a_call ok72 rfl rfl rfl rfl (fun w hm => laws_toIntS.calls K a0_1 a0_1_A a0_1_n a0_1_c hm a0_1_h (Rd.drop 4 a0_1_R) hb2)) rfl rfl (fun x5 => ?_)
  refine r_q (q_fieldAddr fi46_1 sz32 rfl rfl rfl) rfl rfl ?_
  refine r_do (a_storeb 2 rfl sz32 rfl rfl rfl rfl (Nat.le_of_ble_eq_true rfl) rfl) rfl rfl (fun _ => ?_)
  refine j_rs (.row x5.A x5.c 3 1 (ints .i64 v2) :: .row x4.A x4.c 3 1 (ints .i64 v1) :: .box x3 46 [(.slice x4.A x4.n x4.c), (.slice x5.A x5.n x5.c), (.slice none 0 0)] :: .box x2 46 [(.slice none 0 0), (.slice none 0 0), (.slice none 0 0)] :: .box x1 41 [(.slice a0_0_A a0_0_n a0_0_c), (.slice a0_1_A a0_1_n a0_1_c), (.slice a0_2_A a0_2_n a0_2_c)] :: F) (fun _ h => h) ?_
  refine r_nil ?_
  refine j_then ?_
  refine j_seq ?_
  refine j_region ?_
  refine r_q (q_fieldAddr fi41_2 sz32 rfl rfl rfl) rfl rfl ?_
  refine r_q (q_loadb 4 rfl ag32 rfl rfl rfl) rfl rfl ?_
  obtain ⟨v3, hb3, h⟩ := of_b1 h
  refine r_do (a_call ok72 rfl rfl rfl rfl (fun w hm => laws_toIntS.calls K a0_2 a0_2_A a0_2_n a0_2_c hm a0_2_h (Rd.drop 5 a0_2_R) hb3)) rfl rfl (fun x6 => ?_)
  refine r_q (q_fieldAddr fi46_2 sz32 rfl rfl rfl) rfl rfl ?_
  refine r_do (a_storeb 3 rfl sz32 rfl rfl rfl rfl (Nat.le_of_ble_eq_true rfl) rfl) rfl rfl (fun _ => ?_)
  refine j_rs (.row x6.A x6.c 3 1 (ints .i64 v3) :: .row x5.A x5.c 3 1 (ints .i64 v2) :: .row x4.A x4.c 3 1 (ints .i64 v1) :: .box x3 46 [(.slice x4.A x4.n x4.c), (.slice x5.A x5.n x5.c), (.slice x6.A x6.n x6.c)] :: .box x2 46 [(.slice none 0 0), (.slice none 0 0), (.slice none 0 0)] :: .box x1 41 [(.slice a0_0_A a0_0_n a0_0_c), (.slice a0_1_A a0_1_n a0_1_c), (.slice a0_2_A a0_2_n a0_2_c)] :: F) (fun _ h => h) ?_
  refine r_nil ?_
  refine j_then ?_
  refine j_seq ?_
  refine j_region ?_
  refine r_q (q_loadb_agg 3 rfl ag46 sz46 rfl rfl rfl rfl) rfl rfl ?_
  refine r_do (a_storeb 4 rfl sz46 rfl rfl rfl rfl (Nat.le_of_ble_eq_true rfl) rfl) rfl rfl (fun _ => ?_)
  refine j_rs (.row x6.A x6.c 3 1 (ints .i64 v3) :: .row x5.A x5.c 3 1 (ints .i64 v2) :: .row x4.A x4.c 3 1 (ints .i64 v1) :: .box x3 46 [(.slice x4.A x4.n x4.c), (.slice x5.A x5.n x5.c), (.slice x6.A x6.n x6.c)] :: .box x2 46 [(.slice x4.A x4.n x4.c), (.slice x5.A x5.n x5.c), (.slice x6.A x6.n x6.c)] :: .box x1 41 [(.slice a0_0_A a0_0_n a0_0_c), (.slice a0_1_A a0_1_n a0_1_c), (.slice a0_2_A a0_2_n a0_2_c)] :: F) (fun _ h => h) ?_
  refine r_nil ?_
  refine j_then ?_
  refine j_ret ?_
  cases h
  exact j_return rfl (ResOf.cell 4 rfl rfl ag46 sz46 ResOf.nil) rfl (fun w h => ⟨(⟨x4.A, x4.n, x4.c, x4.h⟩, ⟨x5.A, x5.n, x5.c, x5.h⟩, ⟨x6.A, x6.n, x6.c, x6.h⟩), rfl, h.pick 6 [2, 1, 0] rfl⟩)

theorem laws_toStore.calls (K : Nat) (a0_0 : List Int) (a0_0_A : Option Addr) (a0_0_n a0_0_c : Nat) (a0_1 : List Int) (a0_1_A : Option Addr) (a0_1_n a0_1_c : Nat) (a0_2 : List Int) (a0_2_A : Option Addr) (a0_2_n a0_2_c : Nat) (a0_3 : List Int) (a0_3_A : Option Addr) (a0_3_n a0_3_c : Nat) {w0 w : World} {F : List Res} {r1 : List Int} {r2 : List Int} {r3 : List Int} {r4 : List Int} (hm : Mem w0 (F) w) (a0_0_h : a0_0.length = a0_0_n) (a0_0_R : Rd w0 F a0_0_A (ints .i64 a0_0)) (a0_1_h : a0_1.length = a0_1_n) (a0_1_R : Rd w0 F a0_1_A (ints .i64 a0_1)) (a0_2_h : a0_2.length = a0_2_n) (a0_2_R : Rd w0 F a0_2_A (ints .i64 a0_2)) (a0_3_h : a0_3.length = a0_3_n) (a0_3_R : Rd w0 F a0_3_A (ints .i64 a0_3)) (h : laws_toStore.f K a0_0 a0_1 a0_2 a0_3 = some (r1, r2, r3, r4)) :
    Calls Try.prog 26 (List.toArray [.agg (List.toArray [.slice a0_0_A a0_0_n a0_0_c, .slice a0_1_A a0_1_n a0_1_c, .slice a0_2_A a0_2_n a0_2_c, .slice a0_3_A a0_3_n a0_3_c])]) w fun e w' => ∃ x : (Sl r1.length) × (Sl r2.length) × (Sl r3.length) × (Sl r4.length), e = .returned (.agg (List.toArray [.slice x.1.A x.1.n x.1.c, .slice x.2.1.A x.2.1.n x.2.1.c, .slice x.2.2.1.A x.2.2.1.n x.2.2.1.c, .slice x.2.2.2.A x.2.2.2.n x.2.2.2.c])) ∧ Mem w0 (.row x.1.A x.1.c 3 1 (ints .i64 r1) :: .row x.2.1.A x.2.1.c 3 1 (ints .i64 r2) :: .row x.2.2.1.A x.2.2.1.c 3 1 (ints .i64 r3) :: .row x.2.2.2.A x.2.2.2.c 3 1 (ints .i64 r4) :: F) w' := by
  unfold laws_toStore.f at h
  refine calls_of_J (n := 13) Try.func26 rfl rfl rfl hm ?_
  refine j_seq ?_
  refine j_region ?_
  refine r_do (a_box rfl rfl) rfl rfl (fun x1 => ?_)
  refine r_do (a_alloc zr48 rfl) rfl rfl (fun x2 => ?_)
  refine j_rs (.box x2 48 [(.slice none 0 0), (.slice none 0 0), (.slice none 0 0), (.slice none 0 0)] :: .box x1 43 [(.slice a0_0_A a0_0_n a0_0_c), (.slice a0_1_A a0_1_n a0_1_c), (.slice a0_2_A a0_2_n a0_2_c), (.slice a0_3_A a0_3_n a0_3_c)] :: F) (fun _ h => h) ?_
  refine r_nil ?_
  refine j_then ?_
  refine j_seq ?_
  refine j_region ?_
  refine r_do (a_alloc zr48 rfl) rfl rfl (fun x3 => ?_)
  refine j_rs (.box x3 48 [(.slice none 0 0), (.slice none 0 0), (.slice none 0 0), (.slice none 0 0)] :: .box x2 48 [(.slice none 0 0), (.slice none 0 0), (.slice none 0 0), (.slice none 0 0)] :: .box x1 43 [(.slice a0_0_A a0_0_n a0_0_c), (.slice a0_1_A a0_1_n a0_1_c), (.slice a0_2_A a0_2_n a0_2_c), (.slice a0_3_A a0_3_n a0_3_c)] :: F) (fun _ h => h) ?_
  refine r_nil ?_
  refine j_then ?_
  refine j_seq ?_
  refine j_region ?_
  refine r_q (q_fieldAddr fi43_0 sz41 rfl rfl rfl) rfl rfl ?_
  refine r_q (q_loadb_agg 2 rfl ag41 sz41 rfl rfl rfl rfl) rfl rfl ?_
  obtain ⟨v1, v2, v3, hb1, h⟩ := of_b3 h
  refine r_do (a_call ok36 rfl rfl rfl rfl (fun w hm => laws_toHeap.calls K a0_0 a0_0_A a0_0_n a0_0_c a0_1 a0_1_A a0_1_n a0_1_c a0_2 a0_2_A a0_2_n a0_2_c hm a0_0_h (Rd.drop 3 a0_0_R) a0_1_h (Rd.drop 3 a0_1_R) a0_2_h (Rd.drop 3 a0_2_R) hb1)) rfl rfl (fun x4 => ?_)
  refine r_q (q_fieldAddr fi48_0 sz46 rfl rfl rfl) rfl rfl ?_
  refine r_do (a_storeb 3 rfl sz46 rfl rfl rfl rfl (Nat.le_of_ble_eq_true rfl) rfl) rfl rfl (fun _ => ?_)
  refine j_rs (.row x4.1.A x4.1.c 3 1 (ints .i64 v1) :: .row x4.2.1.A x4.2.1.c 3 1 (ints .i64 v2) :: .row x4.2.2.A x4.2.2.c 3 1 (ints .i64 v3) :: .box x3 48 [(.slice x4.1.A x4.1.n x4.1.c), (.slice x4.2.1.A x4.2.1.n x4.2.1.c), (.slice x4.2.2.A x4.2.2.n x4.2.2.c), (.slice none 0 0)] :: .box x2 48 [(.slice none 0 0), (.slice none 0 0), (.slice none 0 0), (.slice none 0 0)] :: .box x1 43 [(.slice a0_0_A a0_0_n a0_0_c), (.slice a0_1_A a0_1_n a0_1_c), (.slice a0_2_A a0_2_n a0_2_c), (.slice a0_3_A a0_3_n a0_3_c)] :: F) (fun _ h => h) ?_
  refine r_nil ?_
  refine j_then ?_
  refine j_seq ?_
  refine j_region ?_
  refine r_q (q_fieldAddr fi43_1 sz32 rfl rfl rfl) rfl rfl ?_
  refine r_q (q_loadb 5 rfl ag32 rfl rfl rfl) rfl rfl ?_
  obtain ⟨v4, hb2, h⟩ := of_b1 h
  refine r_do (a_call ok72 rfl rfl rfl rfl (fun w hm => laws_toIntS.calls K a0_3 a0_3_A a0_3_n a0_3_c hm a0_3_h (Rd.drop 6 a0_3_R) hb2)) rfl rfl (fun x5 => ?_)
  refine r_q (q_fieldAddr fi48_1 sz32 rfl rfl rfl) rfl rfl ?_
  refine r_do (a_storeb 4 rfl sz32 rfl rfl rfl rfl (Nat.le_of_ble_eq_true rfl) rfl) rfl rfl (fun _ => ?_)
  refine j_rs (.row x5.A x5.c 3 1 (ints .i64 v4) :: .row x4.1.A x4.1.c 3 1 (ints .i64 v1) :: .row x4.2.1.A x4.2.1.c 3 1 (ints .i64 v2) :: .row x4.2.2.A x4.2.2.c 3 1 (ints .i64 v3) :: .box x3 48 [(.slice x4.1.A x4.1.n x4.1.c), (.slice x4.2.1.A x4.2.1.n x4.2.1.c), (.slice x4.2.2.A x4.2.2.n x4.2.2.c), (.slice x5.A x5.n x5.c)] :: .box x2 48 [(.slice none 0 0), (.slice none 0 0), (.slice none 0 0), (.slice none 0 0)] :: .box x1 43 [(.slice a0_0_A a0_0_n a0_0_c), (.slice a0_1_A a0_1_n a0_1_c), (.slice a0_2_A a0_2_n a0_2_c), (.slice a0_3_A a0_3_n a0_3_c)] :: F) (fun _ h => h) ?_
  refine r_nil ?_
  refine j_then ?_
  refine j_seq ?_
  refine j_region ?_
  refine r_q (q_loadb_agg 4 rfl ag48 sz48 rfl rfl rfl rfl) rfl rfl ?_
  refine r_do (a_storeb 5 rfl sz48 rfl rfl rfl rfl (Nat.le_of_ble_eq_true rfl) rfl) rfl rfl (fun _ => ?_)
  refine j_rs (.row x5.A x5.c 3 1 (ints .i64 v4) :: .row x4.1.A x4.1.c 3 1 (ints .i64 v1) :: .row x4.2.1.A x4.2.1.c 3 1 (ints .i64 v2) :: .row x4.2.2.A x4.2.2.c 3 1 (ints .i64 v3) :: .box x3 48 [(.slice x4.1.A x4.1.n x4.1.c), (.slice x4.2.1.A x4.2.1.n x4.2.1.c), (.slice x4.2.2.A x4.2.2.n x4.2.2.c), (.slice x5.A x5.n x5.c)] :: .box x2 48 [(.slice x4.1.A x4.1.n x4.1.c), (.slice x4.2.1.A x4.2.1.n x4.2.1.c), (.slice x4.2.2.A x4.2.2.n x4.2.2.c), (.slice x5.A x5.n x5.c)] :: .box x1 43 [(.slice a0_0_A a0_0_n a0_0_c), (.slice a0_1_A a0_1_n a0_1_c), (.slice a0_2_A a0_2_n a0_2_c), (.slice a0_3_A a0_3_n a0_3_c)] :: F) (fun _ h => h) ?_
  refine r_nil ?_
  refine j_then ?_
  refine j_ret ?_
  cases h
  exact j_return rfl (ResOf.cell 5 rfl rfl ag48 sz48 ResOf.nil) rfl (fun w h => ⟨(⟨x4.1.A, x4.1.n, x4.1.c, x4.1.h⟩, ⟨x4.2.1.A, x4.2.1.n, x4.2.1.c, x4.2.1.h⟩, ⟨x4.2.2.A, x4.2.2.n, x4.2.2.c, x4.2.2.h⟩, ⟨x5.A, x5.n, x5.c, x5.h⟩), rfl, h.pick 7 [1, 2, 3, 0] rfl⟩)

theorem spec_HeapSame.calls (K : Nat) (a0_0 : List Int) (a0_0_A : Option Addr) (a0_0_n a0_0_c : Nat) (a0_1 : List Int) (a0_1_A : Option Addr) (a0_1_n a0_1_c : Nat) (a0_2 : List Int) (a0_2_A : Option Addr) (a0_2_n a0_2_c : Nat) (a1_0 : List Int) (a1_0_A : Option Addr) (a1_0_n a1_0_c : Nat) (a1_1 : List Int) (a1_1_A : Option Addr) (a1_1_n a1_1_c : Nat) (a1_2 : List Int) (a1_2_A : Option Addr) (a1_2_n a1_2_c : Nat) {w0 w : World} {F : List Res} {r1 : Bool} (hm : Mem w0 (F) w) (a0_0_h : a0_0.length = a0_0_n) (a0_0_R : Rd w0 F a0_0_A (ints .i64 a0_0)) (a0_1_h : a0_1.length = a0_1_n) (a0_1_R : Rd w0 F a0_1_A (ints .i64 a0_1)) (a0_2_h : a0_2.length = a0_2_n) (a0_2_R : Rd w0 F a0_2_A (ints .i64 a0_2)) (a1_0_h : a1_0.length = a1_0_n) (a1_0_R : Rd w0 F a1_0_A (ints .i64 a1_0)) (a1_1_h : a1_1.length = a1_1_n) (a1_1_R : Rd w0 F a1_1_A (ints .i64 a1_1)) (a1_2_h : a1_2.length = a1_2_n) (a1_2_R : Rd w0 F a1_2_A (ints .i64 a1_2)) (h : spec_HeapSame.f K a0_0 a0_1 a0_2 a1_0 a1_1 a1_2 = some r1) :
    Calls Try.prog 74 (List.toArray [.agg (List.toArray [.slice a0_0_A a0_0_n a0_0_c, .slice a0_1_A a0_1_n a0_1_c, .slice a0_2_A a0_2_n a0_2_c]), .agg (List.toArray [.slice a1_0_A a1_0_n a1_0_c, .slice a1_1_A a1_1_n a1_1_c, .slice a1_2_A a1_2_n a1_2_c])]) w fun e w' => ∃ x : Unit, e = .returned (.bool r1) ∧ Mem w0 (F) w' := by
  unfold spec_HeapSame.f at h
  refine calls_of_J (n := 24) Try.func74 rfl rfl rfl hm ?_
  refine j_seq ?_
  refine j_region ?_
  refine r_do (a_box rfl rfl) rfl rfl (fun x1 => ?_)
  refine r_do (a_box rfl rfl) rfl rfl (fun x2 => ?_)
  refine r_q (q_assign rfl rfl) rfl rfl ?_
  refine j_rs (.box x2 46 [(.slice a1_0_A a1_0_n a1_0_c), (.slice a1_1_A a1_1_n a1_1_c), (.slice a1_2_A a1_2_n a1_2_c)] :: .box x1 46 [(.slice a0_0_A a0_0_n a0_0_c), (.slice a0_1_A a0_1_n a0_1_c), (.slice a0_2_A a0_2_n a0_2_c)] :: F) (fun _ h => h) ?_
  refine r_nil ?_
  refine j_then ?_
  refine j_seq ?_
  refine j_region ?_
  refine r_q (q_fieldAddr fi46_0 sz32 rfl rfl rfl) rfl rfl ?_
  refine r_q (q_loadb 1 rfl ag32 rfl rfl rfl) rfl rfl ?_
  refine r_q (q_fieldAddr fi46_0 sz32 rfl rfl rfl) rfl rfl ?_
  refine r_q (q_loadb 0 rfl ag32 rfl rfl rfl) rfl rfl ?_
  obtain ⟨v1, hb1, h⟩ := of_b1 h
  refine r_do (a_call ok71 rfl rfl rfl rfl (fun w hm => spec_l1Ints.calls K a0_0 a0_0_A a0_0_n a0_0_c a1_0 a1_0_A a1_0_n a1_0_c hm a0_0_h (Rd.drop 2 a0_0_R) a1_0_h (Rd.drop 2 a1_0_R) hb1)) rfl rfl (fun x3 => ?_)
  refine r_q (q_move rfl rfl) rfl rfl ?_
  rcases of_if h with ⟨c1, h⟩ | ⟨c1, h⟩
  · refine r_qon (q_fieldAddr fi46_1 sz32 rfl rfl rfl) rfl rfl rfl rfl c1 rfl ?_
    refine r_qon (q_loadb 1 rfl ag32 rfl rfl rfl) rfl rfl rfl rfl c1 rfl ?_
    refine r_qon (q_fieldAddr fi46_1 sz32 rfl rfl rfl) rfl rfl rfl rfl c1 rfl ?_
    refine r_qon (q_loadb 0 rfl ag32 rfl rfl rfl) rfl rfl rfl rfl c1 rfl ?_
    obtain ⟨v2, hb2, h⟩ := of_b1 h
    refine r_on (a_call ok71 rfl rfl rfl rfl (fun w hm => spec_l1Ints.calls K a0_1 a0_1_A a0_1_n a0_1_c a1_1 a1_1_A a1_1_n a1_1_c hm a0_1_h (Rd.drop 2 a0_1_R) a1_1_h (Rd.drop 2 a1_1_R) hb2)) rfl rfl rfl rfl c1 rfl (fun x4 => ?_)
    refine r_q (q_pick_t rfl rfl c1 rfl) rfl rfl ?_
    refine r_q (q_move rfl rfl) rfl rfl ?_
    rcases of_if h with ⟨c2, h⟩ | ⟨c2, h⟩
    · refine r_qon (q_fieldAddr fi46_2 sz32 rfl rfl rfl) rfl rfl rfl rfl c2 rfl ?_
      refine r_qon (q_loadb 1 rfl ag32 rfl rfl rfl) rfl rfl rfl rfl c2 rfl ?_
      refine r_qon (q_fieldAddr fi46_2 sz32 rfl rfl rfl) rfl rfl rfl rfl c2 rfl ?_
      refine r_qon (q_loadb 0 rfl ag32 rfl rfl rfl) rfl rfl rfl rfl c2 rfl ?_
      obtain ⟨v3, hb3, h⟩ := of_b1 h
      refine r_on (a_call ok71 rfl rfl rfl rfl (fun w hm => spec_l1Ints.calls K a0_2 a0_2_A a0_2_n a0_2_c a1_2 a1_2_A a1_2_n a1_2_c hm a0_2_h (Rd.drop 2 a0_2_R) a1_2_h (Rd.drop 2 a1_2_R) hb3)) rfl rfl rfl rfl c2 rfl (fun x5 => ?_)
      refine r_q (q_pick_t rfl rfl c2 rfl) rfl rfl ?_
      refine r_q (q_assign rfl rfl) rfl rfl ?_
      refine j_rs (.box x2 46 [(.slice a1_0_A a1_0_n a1_0_c), (.slice a1_1_A a1_1_n a1_1_c), (.slice a1_2_A a1_2_n a1_2_c)] :: .box x1 46 [(.slice a0_0_A a0_0_n a0_0_c), (.slice a0_1_A a0_1_n a0_1_c), (.slice a0_2_A a0_2_n a0_2_c)] :: F) (fun _ h => h) ?_
      refine r_nil ?_
      refine j_then ?_
      refine j_ret ?_
      cases h
      exact j_return rfl (ResOf.tmp rfl ResOf.nil) rfl (fun w h => ⟨(), rfl, (h.drop 2)⟩)
    · refine r_off rfl rfl rfl rfl (var_f c2) rfl ?_
      refine r_off rfl rfl rfl rfl (var_f c2) rfl ?_
      refine r_off rfl rfl rfl rfl (var_f c2) rfl ?_
      refine r_off rfl rfl rfl rfl (var_f c2) rfl ?_
      refine r_off rfl rfl rfl rfl (var_f c2) rfl ?_
      refine r_q (q_pick_f rfl rfl (var_f c2) rfl) rfl rfl ?_
      refine r_q (q_assign rfl rfl) rfl rfl ?_
      refine j_rs (.box x2 46 [(.slice a1_0_A a1_0_n a1_0_c), (.slice a1_1_A a1_1_n a1_1_c), (.slice a1_2_A a1_2_n a1_2_c)] :: .box x1 46 [(.slice a0_0_A a0_0_n a0_0_c), (.slice a0_1_A a0_1_n a0_1_c), (.slice a0_2_A a0_2_n a0_2_c)] :: F) (fun _ h => h) ?_
      refine r_nil ?_
      refine j_then ?_
      refine j_ret ?_
      cases h
      exact j_return rfl (ResOf.tmp rfl ResOf.nil) rfl (fun w h => ⟨(), rfl, (h.drop 2)⟩)
  · refine r_off rfl rfl rfl rfl (var_f c1) rfl ?_
    refine r_off rfl rfl rfl rfl (var_f c1) rfl ?_
    refine r_off rfl rfl rfl rfl (var_f c1) rfl ?_
    refine r_off rfl rfl rfl rfl (var_f c1) rfl ?_
    refine r_off rfl rfl rfl rfl (var_f c1) rfl ?_
    refine r_q (q_pick_f rfl rfl (var_f c1) rfl) rfl rfl ?_
    refine r_q (q_move rfl rfl) rfl rfl ?_
    refine r_off rfl rfl rfl rfl rfl rfl ?_
    refine r_off rfl rfl rfl rfl rfl rfl ?_
    refine r_off rfl rfl rfl rfl rfl rfl ?_
    refine r_off rfl rfl rfl rfl rfl rfl ?_
    refine r_off rfl rfl rfl rfl rfl rfl ?_
    refine r_q (q_pick_f rfl rfl rfl rfl) rfl rfl ?_
    refine r_q (q_assign rfl rfl) rfl rfl ?_
    refine j_rs (.box x2 46 [(.slice a1_0_A a1_0_n a1_0_c), (.slice a1_1_A a1_1_n a1_1_c), (.slice a1_2_A a1_2_n a1_2_c)] :: .box x1 46 [(.slice a0_0_A a0_0_n a0_0_c), (.slice a0_1_A a0_1_n a0_1_c), (.slice a0_2_A a0_2_n a0_2_c)] :: F) (fun _ h => h) ?_
    refine r_nil ?_
    refine j_then ?_
    refine j_ret ?_
    cases h
    exact j_return rfl (ResOf.tmp rfl ResOf.nil) rfl (fun w h => ⟨(), rfl, (h.drop 2)⟩)

theorem spec_StoreSame.calls (K : Nat) (a0_0 : List Int) (a0_0_A : Option Addr) (a0_0_n a0_0_c : Nat) (a0_1 : List Int) (a0_1_A : Option Addr) (a0_1_n a0_1_c : Nat) (a0_2 : List Int) (a0_2_A : Option Addr) (a0_2_n a0_2_c : Nat) (a0_3 : List Int) (a0_3_A : Option Addr) (a0_3_n a0_3_c : Nat) (a1_0 : List Int) (a1_0_A : Option Addr) (a1_0_n a1_0_c : Nat) (a1_1 : List Int) (a1_1_A : Option Addr) (a1_1_n a1_1_c : Nat) (a1_2 : List Int) (a1_2_A : Option Addr) (a1_2_n a1_2_c : Nat) (a1_3 : List Int) (a1_3_A : Option Addr) (a1_3_n a1_3_c : Nat) {w0 w : World} {F : List Res} {r1 : Bool} (hm : Mem w0 (F) w) (a0_0_h : a0_0.length = a0_0_n) (a0_0_R : Rd w0 F a0_0_A (ints .i64 a0_0)) (a0_1_h : a0_1.length = a0_1_n) (a0_1_R : Rd w0 F a0_1_A (ints .i64 a0_1)) (a0_2_h : a0_2.length = a0_2_n) (a0_2_R : Rd w0 F a0_2_A (ints .i64 a0_2)) (a0_3_h : a0_3.length = a0_3_n) (a0_3_R : Rd w0 F a0_3_A (ints .i64 a0_3)) (a1_0_h : a1_0.length = a1_0_n) (a1_0_R : Rd w0 F a1_0_A (ints .i64 a1_0)) (a1_1_h : a1_1.length = a1_1_n) (a1_1_R : Rd w0 F a1_1_A (ints .i64 a1_1)) (a1_2_h : a1_2.length = a1_2_n) (a1_2_R : Rd w0 F a1_2_A (ints .i64 a1_2)) (a1_3_h : a1_3.length = a1_3_n) (a1_3_R : Rd w0 F a1_3_A (ints .i64 a1_3)) (h : spec_StoreSame.f K a0_0 a0_1 a0_2 a0_3 a1_0 a1_1 a1_2 a1_3 = some r1) :
    Calls Try.prog 25 (List.toArray [.agg (List.toArray [.slice a0_0_A a0_0_n a0_0_c, .slice a0_1_A a0_1_n a0_1_c, .slice a0_2_A a0_2_n a0_2_c, .slice a0_3_A a0_3_n a0_3_c]), .agg (List.toArray [.slice a1_0_A a1_0_n a1_0_c, .slice a1_1_A a1_1_n a1_1_c, .slice a1_2_A a1_2_n a1_2_c, .slice a1_3_A a1_3_n a1_3_c])]) w fun e w' => ∃ x : Unit, e = .returned (.bool r1) ∧ Mem w0 (F) w' := by
  unfold spec_StoreSame.f at h
  refine calls_of_J (n := 17) Try.func25 rfl rfl rfl hm ?_
  refine j_seq ?_
  refine j_region ?_
  refine r_do (a_box rfl rfl) rfl rfl (fun x1 => ?_)
  refine r_do (a_box rfl rfl) rfl rfl (fun x2 => ?_)
  refine r_q (q_assign rfl rfl) rfl rfl ?_
  refine j_rs (.box x2 48 [(.slice a1_0_A a1_0_n a1_0_c), (.slice a1_1_A a1_1_n a1_1_c), (.slice a1_2_A a1_2_n a1_2_c), (.slice a1_3_A a1_3_n a1_3_c)] :: .box x1 48 [(.slice a0_0_A a0_0_n a0_0_c), (.slice a0_1_A a0_1_n a0_1_c), (.slice a0_2_A a0_2_n a0_2_c), (.slice a0_3_A a0_3_n a0_3_c)] :: F) (fun _ h => h) ?_
  refine r_nil ?_
  refine j_then ?_
  refine j_seq ?_
  refine j_region ?_
  refine r_q (q_fieldAddr fi48_0 sz46 rfl rfl rfl) rfl rfl ?_
  refine r_q (q_loadb_agg 1 rfl ag46 sz46 rfl rfl rfl rfl) rfl rfl ?_
  refine r_q (q_fieldAddr fi48_0 sz46 rfl rfl rfl) rfl rfl ?_
  refine r_q (q_loadb_agg 0 rfl ag46 sz46 rfl rfl rfl rfl) rfl rfl ?_
  obtain ⟨v1, hb1, h⟩ := of_b1 h
  refine r_do (a_call ok74 rfl rfl rfl rfl (fun w hm => spec_HeapSame.calls K a0_0 a0_0_A a0_0_n a0_0_c a0_1 a0_1_A a0_1_n a0_1_c a0_2 a0_2_A a0_2_n a0_2_c a1_0 a1_0_A a1_0_n a1_0_c a1_1 a1_1_A a1_1_n a1_1_c a1_2 a1_2_A a1_2_n a1_2_c hm a0_0_h (Rd.drop 2 a0_0_R) a0_1_h (Rd.drop 2 a0_1_R) a0_2_h (Rd.drop 2 a0_2_R) a1_0_h (Rd.drop 2 a1_0_R) a1_1_h (Rd.drop 2 a1_1_R) a1_2_h (Rd.drop 2 a1_2_R) hb1)) rfl rfl (fun x3 => ?_)
  refine r_q (q_move rfl rfl) rfl rfl ?_
  rcases of_if h with ⟨c1, h⟩ | ⟨c1, h⟩
  · refine r_qon (q_fieldAddr fi48_1 sz32 rfl rfl rfl) rfl rfl rfl rfl c1 rfl ?_
    refine r_qon (q_loadb 1 rfl ag32 rfl rfl rfl) rfl rfl rfl rfl c1 rfl ?_
    refine r_qon (q_fieldAddr fi48_1 sz32 rfl rfl rfl) rfl rfl rfl rfl c1 rfl ?_
    refine r_qon (q_loadb 0 rfl ag32 rfl rfl rfl) rfl rfl rfl rfl c1 rfl ?_
    obtain ⟨v2, hb2, h⟩ := of_b1 h
    refine r_on (a_call ok71 rfl rfl rfl rfl (fun w hm => spec_l1Ints.calls K a0_3 a0_3_A a0_3_n a0_3_c a1_3 a1_3_A a1_3_n a1_3_c hm a0_3_h (Rd.drop 2 a0_3_R) a1_3_h (Rd.drop 2 a1_3_R) hb2)) rfl rfl rfl rfl c1 rfl (fun x4 => ?_)
    refine r_q (q_pick_t rfl rfl c1 rfl) rfl rfl ?_
    refine r_q (q_assign rfl rfl) rfl rfl ?_
    refine j_rs (.box x2 48 [(.slice a1_0_A a1_0_n a1_0_c), (.slice a1_1_A a1_1_n a1_1_c), (.slice a1_2_A a1_2_n a1_2_c), (.slice a1_3_A a1_3_n a1_3_c)] :: .box x1 48 [(.slice a0_0_A a0_0_n a0_0_c), (.slice a0_1_A a0_1_n a0_1_c), (.slice a0_2_A a0_2_n a0_2_c), (.slice a0_3_A a0_3_n a0_3_c)] :: F) (fun _ h => h) ?_
    refine r_nil ?_
    refine j_then ?_
    refine j_ret ?_
    cases h
    exact j_return rfl (ResOf.tmp rfl ResOf.nil) rfl (fun w h => ⟨(), rfl, (h.drop 2)⟩)
  · refine r_off rfl rfl rfl rfl (var_f c1) rfl ?_
    refine r_off rfl rfl rfl rfl (var_f c1) rfl ?_
    refine r_off rfl rfl rfl rfl (var_f c1) rfl ?_
    refine r_off rfl rfl rfl rfl (var_f c1) rfl ?_
    refine r_off rfl rfl rfl rfl (var_f c1) rfl ?_
    refine r_q (q_pick_f rfl rfl (var_f c1) rfl) rfl rfl ?_
    refine r_q (q_assign rfl rfl) rfl rfl ?_
    refine j_rs (.box x2 48 [(.slice a1_0_A a1_0_n a1_0_c), (.slice a1_1_A a1_1_n a1_1_c), (.slice a1_2_A a1_2_n a1_2_c), (.slice a1_3_A a1_3_n a1_3_c)] :: .box x1 48 [(.slice a0_0_A a0_0_n a0_0_c), (.slice a0_1_A a0_1_n a0_1_c), (.slice a0_2_A a0_2_n a0_2_c), (.slice a0_3_A a0_3_n a0_3_c)] :: F) (fun _ h => h) ?_
    refine r_nil ?_
    refine j_then ?_
    refine j_ret ?_
    cases h
    exact j_return rfl (ResOf.tmp rfl ResOf.nil) rfl (fun w h => ⟨(), rfl, (h.drop 2)⟩)

theorem impl_HeapSame.calls (K : Nat) (a0_0 : List Int) (a0_0_A : Option Addr) (a0_0_n a0_0_c : Nat) (a0_1 : List Int) (a0_1_A : Option Addr) (a0_1_n a0_1_c : Nat) (a0_2 : List Int) (a0_2_A : Option Addr) (a0_2_n a0_2_c : Nat) (a1_0 : List Int) (a1_0_A : Option Addr) (a1_0_n a1_0_c : Nat) (a1_1 : List Int) (a1_1_A : Option Addr) (a1_1_n a1_1_c : Nat) (a1_2 : List Int) (a1_2_A : Option Addr) (a1_2_n a1_2_c : Nat) {w0 w : World} {F : List Res} {r1 : Bool} (hm : Mem w0 (F) w) (a0_0_h : a0_0.length = a0_0_n) (a0_0_R : Rd w0 F a0_0_A (ints .i64 a0_0)) (a0_1_h : a0_1.length = a0_1_n) (a0_1_R : Rd w0 F a0_1_A (ints .i64 a0_1)) (a0_2_h : a0_2.length = a0_2_n) (a0_2_R : Rd w0 F a0_2_A (ints .i64 a0_2)) (a1_0_h : a1_0.length = a1_0_n) (a1_0_R : Rd w0 F a1_0_A (ints .i64 a1_0)) (a1_1_h : a1_1.length = a1_1_n) (a1_1_R : Rd w0 F a1_1_A (ints .i64 a1_1)) (a1_2_h : a1_2.length = a1_2_n) (a1_2_R : Rd w0 F a1_2_A (ints .i64 a1_2)) (h : impl_HeapSame.f K a0_0 a0_1 a0_2 a1_0 a1_1 a1_2 = some r1) :
    Calls Try.prog 54 (List.toArray [.agg (List.toArray [.slice a0_0_A a0_0_n a0_0_c, .slice a0_1_A a0_1_n a0_1_c, .slice a0_2_A a0_2_n a0_2_c]), .agg (List.toArray [.slice a1_0_A a1_0_n a1_0_c, .slice a1_1_A a1_1_n a1_1_c, .slice a1_2_A a1_2_n a1_2_c])]) w fun e w' => ∃ x : Unit, e = .returned (.bool r1) ∧ Mem w0 (F) w' := by
  unfold impl_HeapSame.f at h
  refine calls_of_J (n := 24) Try.func54 rfl rfl rfl hm ?_
  refine j_seq ?_
  refine j_region ?_
  refine r_do (a_box rfl rfl) rfl rfl (fun x1 => ?_)
  refine r_do (a_box rfl rfl) rfl rfl (fun x2 => ?_)
  refine r_q (q_assign rfl rfl) rfl rfl ?_
  refine j_rs (.box x2 46 [(.slice a1_0_A a1_0_n a1_0_c), (.slice a1_1_A a1_1_n a1_1_c), (.slice a1_2_A a1_2_n a1_2_c)] :: .box x1 46 [(.slice a0_0_A a0_0_n a0_0_c), (.slice a0_1_A a0_1_n a0_1_c), (.slice a0_2_A a0_2_n a0_2_c)] :: F) (fun _ h => h) ?_
  refine r_nil ?_
  refine j_then ?_
  refine j_seq ?_
  refine j_region ?_
  refine r_q (q_fieldAddr fi46_0 sz32 rfl rfl rfl) rfl rfl ?_
  refine r_q (q_loadb 1 rfl ag32 rfl rfl rfl) rfl rfl ?_
  refine r_q (q_fieldAddr fi46_0 sz32 rfl rfl rfl) rfl rfl ?_
  refine r_q (q_loadb 0 rfl ag32 rfl rfl rfl) rfl rfl ?_
  obtain ⟨v1, hb1, h⟩ := of_b1 h
  refine r_do (a_call ok73 rfl rfl rfl rfl (fun w hm => slices_Equal_int.calls K a0_0 a0_0_A a0_0_n a0_0_c a1_0 a1_0_A a1_0_n a1_0_c hm a0_0_h (Rd.drop 2 a0_0_R) a1_0_h (Rd.drop 2 a1_0_R) hb1)) rfl rfl (fun x3 => ?_)
  refine r_q (q_move rfl rfl) rfl rfl ?_
  rcases of_if h with ⟨c1, h⟩ | ⟨c1, h⟩
  · refine r_qon (q_fieldAddr fi46_1 sz32 rfl rfl rfl) rfl rfl rfl rfl c1 rfl ?_
    refine r_qon (q_loadb 1 rfl ag32 rfl rfl rfl) rfl rfl rfl rfl c1 rfl ?_
    refine r_qon (q_fieldAddr fi46_1 sz32 rfl rfl rfl) rfl rfl rfl rfl c1 rfl ?_
    refine r_qon (q_loadb 0 rfl ag32 rfl rfl rfl) rfl rfl rfl rfl c1 rfl ?_
    obtain ⟨v2, hb2, h⟩ := of_b1 h
    refine r_on (a_call ok73 rfl rfl rfl rfl (fun w hm => slices_Equal_int.calls K a0_1 a0_1_A a0_1_n a0_1_c a1_1 a1_1_A a1_1_n a1_1_c hm a0_1_h (Rd.drop 2 a0_1_R) a1_1_h (Rd.drop 2 a1_1_R) hb2)) rfl rfl rfl rfl c1 rfl (fun x4 => ?_)
    refine r_q (q_pick_t rfl rfl c1 rfl) rfl rfl ?_
    refine r_q (q_move rfl rfl) rfl rfl ?_
    rcases of_if h with ⟨c2, h⟩ | ⟨c2, h⟩
    · refine r_qon (q_fieldAddr fi46_2 sz32 rfl rfl rfl) rfl rfl rfl rfl c2 rfl ?_
      refine r_qon (q_loadb 1 rfl ag32 rfl rfl rfl) rfl rfl rfl rfl c2 rfl ?_
      refine r_qon (q_fieldAddr fi46_2 sz32 rfl rfl rfl) rfl rfl rfl rfl c2 rfl ?_
      refine r_qon (q_loadb 0 rfl ag32 rfl rfl rfl) rfl rfl rfl rfl c2 rfl ?_
      obtain ⟨v3, hb3, h⟩ := of_b1 h
      refine r_on (a_call ok73 rfl rfl rfl rfl (fun w hm => slices_Equal_int.calls K a0_2 a0_2_A a0_2_n a0_2_c a1_2 a1_2_A a1_2_n a1_2_c hm a0_2_h (Rd.drop 2 a0_2_R) a1_2_h (Rd.drop 2 a1_2_R) hb3)) rfl rfl rfl rfl c2 rfl (fun x5 => ?_)
      refine r_q (q_pick_t rfl rfl c2 rfl) rfl rfl ?_
      refine r_q (q_assign rfl rfl) rfl rfl ?_
      refine j_rs (.box x2 46 [(.slice a1_0_A a1_0_n a1_0_c), (.slice a1_1_A a1_1_n a1_1_c), (.slice a1_2_A a1_2_n a1_2_c)] :: .box x1 46 [(.slice a0_0_A a0_0_n a0_0_c), (.slice a0_1_A a0_1_n a0_1_c), (.slice a0_2_A a0_2_n a0_2_c)] :: F) (fun _ h => h) ?_
      refine r_nil ?_
      refine j_then ?_
      refine j_ret ?_
      cases h
      exact j_return rfl (ResOf.tmp rfl ResOf.nil) rfl (fun w h => ⟨(), rfl, (h.drop 2)⟩)
    · refine r_off rfl rfl rfl rfl (var_f c2) rfl ?_
      refine r_off rfl rfl rfl rfl (var_f c2) rfl ?_
      refine r_off rfl rfl rfl rfl (var_f c2) rfl ?_
      refine r_off rfl rfl rfl rfl (var_f c2) rfl ?_
      refine r_off rfl rfl rfl rfl (var_f c2) rfl ?_
      refine r_q (q_pick_f rfl rfl (var_f c2) rfl) rfl rfl ?_
      refine r_q (q_assign rfl rfl) rfl rfl ?_
      refine j_rs (.box x2 46 [(.slice a1_0_A a1_0_n a1_0_c), (.slice a1_1_A a1_1_n a1_1_c), (.slice a1_2_A a1_2_n a1_2_c)] :: .box x1 46 [(.slice a0_0_A a0_0_n a0_0_c), (.slice a0_1_A a0_1_n a0_1_c), (.slice a0_2_A a0_2_n a0_2_c)] :: F) (fun _ h => h) ?_
      refine r_nil ?_
      refine j_then ?_
      refine j_ret ?_
      cases h
      exact j_return rfl (ResOf.tmp rfl ResOf.nil) rfl (fun w h => ⟨(), rfl, (h.drop 2)⟩)
  · refine r_off rfl rfl rfl rfl (var_f c1) rfl ?_
    refine r_off rfl rfl rfl rfl (var_f c1) rfl ?_
    refine r_off rfl rfl rfl rfl (var_f c1) rfl ?_
    refine r_off rfl rfl rfl rfl (var_f c1) rfl ?_
    refine r_off rfl rfl rfl rfl (var_f c1) rfl ?_
    refine r_q (q_pick_f rfl rfl (var_f c1) rfl) rfl rfl ?_
    refine r_q (q_move rfl rfl) rfl rfl ?_
    refine r_off rfl rfl rfl rfl rfl rfl ?_
    refine r_off rfl rfl rfl rfl rfl rfl ?_
    refine r_off rfl rfl rfl rfl rfl rfl ?_
    refine r_off rfl rfl rfl rfl rfl rfl ?_
    refine r_off rfl rfl rfl rfl rfl rfl ?_
    refine r_q (q_pick_f rfl rfl rfl rfl) rfl rfl ?_
    refine r_q (q_assign rfl rfl) rfl rfl ?_
    refine j_rs (.box x2 46 [(.slice a1_0_A a1_0_n a1_0_c), (.slice a1_1_A a1_1_n a1_1_c), (.slice a1_2_A a1_2_n a1_2_c)] :: .box x1 46 [(.slice a0_0_A a0_0_n a0_0_c), (.slice a0_1_A a0_1_n a0_1_c), (.slice a0_2_A a0_2_n a0_2_c)] :: F) (fun _ h => h) ?_
    refine r_nil ?_
    refine j_then ?_
    refine j_ret ?_
    cases h
    exact j_return rfl (ResOf.tmp rfl ResOf.nil) rfl (fun w h => ⟨(), rfl, (h.drop 2)⟩)

theorem impl_StoreSame.calls (K : Nat) (a0_0 : List Int) (a0_0_A : Option Addr) (a0_0_n a0_0_c : Nat) (a0_1 : List Int) (a0_1_A : Option Addr) (a0_1_n a0_1_c : Nat) (a0_2 : List Int) (a0_2_A : Option Addr) (a0_2_n a0_2_c : Nat) (a0_3 : List Int) (a0_3_A : Option Addr) (a0_3_n a0_3_c : Nat) (a1_0 : List Int) (a1_0_A : Option Addr) (a1_0_n a1_0_c : Nat) (a1_1 : List Int) (a1_1_A : Option Addr) (a1_1_n a1_1_c : Nat) (a1_2 : List Int) (a1_2_A : Option Addr) (a1_2_n a1_2_c : Nat) (a1_3 : List Int) (a1_3_A : Option Addr) (a1_3_n a1_3_c : Nat) {w0 w : World} {F : List Res} {r1 : Bool} (hm : Mem w0 (F) w) (a0_0_h : a0_0.length = a0_0_n) (a0_0_R : Rd w0 F a0_0_A (ints .i64 a0_0)) (a0_1_h : a0_1.length = a0_1_n) (a0_1_R : Rd w0 F a0_1_A (ints .i64 a0_1)) (a0_2_h : a0_2.length = a0_2_n) (a0_2_R : Rd w0 F a0_2_A (ints .i64 a0_2)) (a0_3_h : a0_3.length = a0_3_n) (a0_3_R : Rd w0 F a0_3_A (ints .i64 a0_3)) (a1_0_h : a1_0.length = a1_0_n) (a1_0_R : Rd w0 F a1_0_A (ints .i64 a1_0)) (a1_1_h : a1_1.length = a1_1_n) (a1_1_R : Rd w0 F a1_1_A (ints .i64 a1_1)) (a1_2_h : a1_2.length = a1_2_n) (a1_2_R : Rd w0 F a1_2_A (ints .i64 a1_2)) (a1_3_h : a1_3.length = a1_3_n) (a1_3_R : Rd w0 F a1_3_A (ints .i64 a1_3)) (h : impl_StoreSame.f K a0_0 a0_1 a0_2 a0_3 a1_0 a1_1 a1_2 a1_3 = some r1) :
    Calls Try.prog 27 (List.toArray [.agg (List.toArray [.slice a0_0_A a0_0_n a0_0_c, .slice a0_1_A a0_1_n a0_1_c, .slice a0_2_A a0_2_n a0_2_c, .slice a0_3_A a0_3_n a0_3_c]), .agg (List.toArray [.slice a1_0_A a1_0_n a1_0_c, .slice a1_1_A a1_1_n a1_1_c, .slice a1_2_A a1_2_n a1_2_c, .slice a1_3_A a1_3_n a1_3_c])]) w fun e w' => ∃ x : Unit, e = .returned (.bool r1) ∧ Mem w0 (F) w' := by
  unfold impl_StoreSame.f at h
  refine calls_of_J (n := 17) Try.func27 rfl rfl rfl hm ?_
  refine j_seq ?_
  refine j_region ?_
  refine r_do (a_box rfl rfl) rfl rfl (fun x1 => ?_)
  refine r_do (a_box rfl rfl) rfl rfl (fun x2 => ?_)
  refine r_q (q_assign rfl rfl) rfl rfl ?_
  refine j_rs (.box x2 48 [(.slice a1_0_A a1_0_n a1_0_c), (.slice a1_1_A a1_1_n a1_1_c), (.slice a1_2_A a1_2_n a1_2_c), (.slice a1_3_A a1_3_n a1_3_c)] :: .box x1 48 [(.slice a0_0_A a0_0_n a0_0_c), (.slice a0_1_A a0_1_n a0_1_c), (.slice a0_2_A a0_2_n a0_2_c), (.slice a0_3_A a0_3_n a0_3_c)] :: F) (fun _ h => h) ?_
  refine r_nil ?_
  refine j_then ?_
  refine j_seq ?_
  refine j_region ?_
  refine r_q (q_fieldAddr fi48_0 sz46 rfl rfl rfl) rfl rfl ?_
  refine r_q (q_loadb_agg 1 rfl ag46 sz46 rfl rfl rfl rfl) rfl rfl ?_
  refine r_q (q_fieldAddr fi48_0 sz46 rfl rfl rfl) rfl rfl ?_
  refine r_q (q_loadb_agg 0 rfl ag46 sz46 rfl rfl rfl rfl) rfl rfl ?_
  obtain ⟨v1, hb1, h⟩ := of_b1 h
  refine r_do (a_call ok54 rfl rfl rfl rfl (fun w hm => impl_HeapSame.calls K a0_0 a0_0_A a0_0_n a0_0_c a0_1 a0_1_A a0_1_n a0_1_c a0_2 a0_2_A a0_2_n a0_2_c a1_0 a1_0_A a1_0_n a1_0_c a1_1 a1_1_A a1_1_n a1_1_c a1_2 a1_2_A a1_2_n a1_2_c hm a0_0_h (Rd.drop 2 a0_0_R) a0_1_h (Rd.drop 2 a0_1_R) a0_2_h (Rd.drop 2 a0_2_R) a1_0_h (Rd.drop 2 a1_0_R) a1_1_h (Rd.drop 2 a1_1_R) a1_2_h (Rd.drop 2 a1_2_R) hb1)) rfl rfl (fun x3 => ?_)
  refine r_q (q_move rfl rfl) rfl rfl ?_
  rcases of_if h with ⟨c1, h⟩ | ⟨c1, h⟩
  · refine r_qon (q_fieldAddr fi48_1 sz32 rfl rfl rfl) rfl rfl rfl rfl c1 rfl ?_
    refine r_qon (q_loadb 1 rfl ag32 rfl rfl rfl) rfl rfl rfl rfl c1 rfl ?_
    refine r_qon (q_fieldAddr fi48_1 sz32 rfl rfl rfl) rfl rfl rfl rfl c1 rfl ?_
    refine r_qon (q_loadb 0 rfl ag32 rfl rfl rfl) rfl rfl rfl rfl c1 rfl ?_
    obtain ⟨v2, hb2, h⟩ := of_b1 h
    refine r_on (a_call ok73 rfl rfl rfl rfl (fun w hm => slices_Equal_int.calls K a0_3 a0_3_A a0_3_n a0_3_c a1_3 a1_3_A a1_3_n a1_3_c hm a0_3_h (Rd.drop 2 a0_3_R) a1_3_h (Rd.drop 2 a1_3_R) hb2)) rfl rfl rfl rfl c1 rfl (fun x4 => ?_)
    refine r_q (q_pick_t rfl rfl c1 rfl) rfl rfl ?_
    refine r_q (q_assign rfl rfl) rfl rfl ?_
    refine j_rs (.box x2 48 [(.slice a1_0_A a1_0_n a1_0_c), (.slice a1_1_A a1_1_n a1_1_c), (.slice a1_2_A a1_2_n a1_2_c), (.slice a1_3_A a1_3_n a1_3_c)] :: .box x1 48 [(.slice a0_0_A a0_0_n a0_0_c), (.slice a0_1_A a0_1_n a0_1_c), (.slice a0_2_A a0_2_n a0_2_c), (.slice a0_3_A a0_3_n a0_3_c)] :: F) (fun _ h => h) ?_
    refine r_nil ?_
    refine j_then ?_
    refine j_ret ?_
    cases h
    exact j_return rfl (ResOf.tmp rfl ResOf.nil) rfl (fun w h => ⟨(), rfl, (h.drop 2)⟩)
  · refine r_off rfl rfl rfl rfl (var_f c1) rfl ?_
    refine r_off rfl rfl rfl rfl (var_f c1) rfl ?_
    refine r_off rfl rfl rfl rfl (var_f c1) rfl ?_
    refine r_off rfl rfl rfl rfl (var_f c1) rfl ?_
    refine r_off rfl rfl rfl rfl (var_f c1) rfl ?_
    refine r_q (q_pick_f rfl rfl (var_f c1) rfl) rfl rfl ?_
    refine r_q (q_assign rfl rfl) rfl rfl ?_
    refine j_rs (.box x2 48 [(.slice a1_0_A a1_0_n a1_0_c), (.slice a1_1_A a1_1_n a1_1_c), (.slice a1_2_A a1_2_n a1_2_c), (.slice a1_3_A a1_3_n a1_3_c)] :: .box x1 48 [(.slice a0_0_A a0_0_n a0_0_c), (.slice a0_1_A a0_1_n a0_1_c), (.slice a0_2_A a0_2_n a0_2_c), (.slice a0_3_A a0_3_n a0_3_c)] :: F) (fun _ h => h) ?_
    refine r_nil ?_
    refine j_then ?_
    refine j_ret ?_
    cases h
    exact j_return rfl (ResOf.tmp rfl ResOf.nil) rfl (fun w h => ⟨(), rfl, (h.drop 2)⟩)

theorem laws_eqHeap.calls (K : Nat) (a0_0 : List Int) (a0_0_A : Option Addr) (a0_0_n a0_0_c : Nat) (a0_1 : List Int) (a0_1_A : Option Addr) (a0_1_n a0_1_c : Nat) (a0_2 : List Int) (a0_2_A : Option Addr) (a0_2_n a0_2_c : Nat) (a1_0 : List Int) (a1_0_A : Option Addr) (a1_0_n a1_0_c : Nat) (a1_1 : List Int) (a1_1_A : Option Addr) (a1_1_n a1_1_c : Nat) (a1_2 : List Int) (a1_2_A : Option Addr) (a1_2_n a1_2_c : Nat) {w0 w : World} {F : List Res} {r1 : Bool} (hm : Mem w0 (F) w) (a0_0_h : a0_0.length = a0_0_n) (a0_0_R : Rd w0 F a0_0_A (ints .i64 a0_0)) (a0_1_h : a0_1.length = a0_1_n) (a0_1_R : Rd w0 F a0_1_A (ints .i64 a0_1)) (a0_2_h : a0_2.length = a0_2_n) (a0_2_R : Rd w0 F a0_2_A (ints .i64 a0_2)) (a1_0_h : a1_0.length = a1_0_n) (a1_0_R : Rd w0 F a1_0_A (ints .i64 a1_0)) (a1_1_h : a1_1.length = a1_1_n) (a1_1_R : Rd w0 F a1_1_A (ints .i64 a1_1)) (a1_2_h : a1_2.length = a1_2_n) (a1_2_R : Rd w0 F a1_2_A (ints .i64 a1_2)) (h : laws_eqHeap.f K a0_0 a0_1 a0_2 a1_0 a1_1 a1_2 = some r1) :
    Calls Try.prog 39 (List.toArray [.agg (List.toArray [.slice a0_0_A a0_0_n a0_0_c, .slice a0_1_A a0_1_n a0_1_c, .slice a0_2_A a0_2_n a0_2_c]), .agg (List.toArray [.slice a1_0_A a1_0_n a1_0_c, .slice a1_1_A a1_1_n a1_1_c, .slice a1_2_A a1_2_n a1_2_c])]) w fun e w' => ∃ x : Unit, e = .returned (.bool r1) ∧ Mem w0 (F) w' := by
  unfold laws_eqHeap.f at h
  refine calls_of_J (n := 23) Try.func39 rfl rfl rfl hm ?_
  refine j_seq ?_
  refine j_region ?_
  refine r_do (a_box rfl rfl) rfl rfl (fun x1 => ?_)
  refine r_do (a_box rfl rfl) rfl rfl (fun x2 => ?_)
  refine r_q (q_assign rfl rfl) rfl rfl ?_
  refine j_rs (.box x2 46 [(.slice a1_0_A a1_0_n a1_0_c), (.slice a1_1_A a1_1_n a1_1_c), (.slice a1_2_A a1_2_n a1_2_c)] :: .box x1 46 [(.slice a0_0_A a0_0_n a0_0_c), (.slice a0_1_A a0_1_n a0_1_c), (.slice a0_2_A a0_2_n a0_2_c)] :: F) (fun _ h => h) ?_
  refine r_nil ?_
  refine j_then ?_
  refine j_seq ?_
  refine j_seq ?_
  refine j_region ?_
  refine r_q (q_fieldAddr fi46_0 sz32 rfl rfl rfl) rfl rfl ?_
  refine r_q (q_loadb 1 rfl ag32 rfl rfl rfl) rfl rfl ?_
  refine r_q (q_fieldAddr fi46_0 sz32 rfl rfl rfl) rfl rfl ?_
  refine r_q (q_loadb 0 rfl ag32 rfl rfl rfl) rfl rfl ?_
  obtain ⟨v1, hb1, h⟩ := of_b1 h
  refine r_do (a_call ok38 rfl rfl rfl rfl (fun w hm => laws_eqIntS.calls K a0_0 a0_0_A a0_0_n a0_0_c a1_0 a1_0_A a1_0_n a1_0_c hm a0_0_h (Rd.drop 2 a0_0_R) a1_0_h (Rd.drop 2 a1_0_R) hb1)) rfl rfl (fun x3 => ?_)
  refine r_q (q_not rfl rfl) rfl rfl ?_
  refine j_rs (.box x2 46 [(.slice a1_0_A a1_0_n a1_0_c), (.slice a1_1_A a1_1_n a1_1_c), (.slice a1_2_A a1_2_n a1_2_c)] :: .box x1 46 [(.slice a0_0_A a0_0_n a0_0_c), (.slice a0_1_A a0_1_n a0_1_c), (.slice a0_2_A a0_2_n a0_2_c)] :: F) (fun _ h => h) ?_
  refine r_nil ?_
  refine j_then ?_
  rcases of_if h with ⟨c1, h⟩ | ⟨c1, h⟩
  · refine j_false rfl (not_f c1) ?_
    refine j_skip ?_
    refine j_then ?_
    refine j_seq ?_
    refine j_seq ?_
    refine j_region ?_
    refine r_q (q_fieldAddr fi46_1 sz32 rfl rfl rfl) rfl rfl ?_
    refine r_q (q_loadb 1 rfl ag32 rfl rfl rfl) rfl rfl ?_
    refine r_q (q_fieldAddr fi46_1 sz32 rfl rfl rfl) rfl rfl ?_
    refine r_q (q_loadb 0 rfl ag32 rfl rfl rfl) rfl rfl ?_
    obtain ⟨v2, hb2, h⟩ := of_b1 h
    refine r_do (a_call ok38 rfl rfl rfl rfl (fun w hm => laws_eqIntS.calls K a0_1 a0_1_A a0_1_n a0_1_c a1_1 a1_1_A a1_1_n a1_1_c hm a0_1_h (Rd.drop 2 a0_1_R) a1_1_h (Rd.drop 2 a1_1_R) hb2)) rfl rfl (fun x4 => ?_)
    refine r_q (q_not rfl rfl) rfl rfl ?_
    refine j_rs (.box x2 46 [(.slice a1_0_A a1_0_n a1_0_c), (.slice a1_1_A a1_1_n a1_1_c), (.slice a1_2_A a1_2_n a1_2_c)] :: .box x1 46 [(.slice a0_0_A a0_0_n a0_0_c), (.slice a0_1_A a0_1_n a0_1_c), (.slice a0_2_A a0_2_n a0_2_c)] :: F) (fun _ h => h) ?_
    refine r_nil ?_
    refine j_then ?_
    rcases of_if h with ⟨c2, h⟩ | ⟨c2, h⟩
    · refine j_false rfl (not_f c2) ?_
      refine j_skip ?_
      refine j_then ?_
      refine j_seq ?_
      refine j_seq ?_
      refine j_region ?_
      refine r_q (q_fieldAddr fi46_2 sz32 rfl rfl rfl) rfl rfl ?_
      refine r_q (q_loadb 1 rfl ag32 rfl rfl rfl) rfl rfl ?_
      refine r_q (q_fieldAddr fi46_2 sz32 rfl rfl rfl) rfl rfl ?_
      refine r_q (q_loadb 0 rfl ag32 rfl rfl rfl) rfl rfl ?_
      obtain ⟨v3, hb3, h⟩ := of_b1 h
      refine r_do (a_call ok38 rfl rfl rfl rfl (fun w hm => laws_eqIntS.calls K a0_2 a0_2_A a0_2_n a0_2_c a1_2 a1_2_A a1_2_n a1_2_c hm a0_2_h (Rd.drop 2 a0_2_R) a1_2_h (Rd.drop 2 a1_2_R) hb3)) rfl rfl (fun x5 => ?_)
      refine r_q (q_not rfl rfl) rfl rfl ?_
      refine j_rs (.box x2 46 [(.slice a1_0_A a1_0_n a1_0_c), (.slice a1_1_A a1_1_n a1_1_c), (.slice a1_2_A a1_2_n a1_2_c)] :: .box x1 46 [(.slice a0_0_A a0_0_n a0_0_c), (.slice a0_1_A a0_1_n a0_1_c), (.slice a0_2_A a0_2_n a0_2_c)] :: F) (fun _ h => h) ?_
      refine r_nil ?_
      refine j_then ?_
      rcases of_if h with ⟨c3, h⟩ | ⟨c3, h⟩
      · refine j_false rfl (not_f c3) ?_
        refine j_skip ?_
        refine j_then ?_
        refine j_seq ?_
        refine j_region ?_
        refine r_q (q_assign rfl rfl) rfl rfl ?_
        refine r_nil ?_
        refine j_then ?_
        refine j_ret ?_
        cases h
        exact j_return rfl (ResOf.tmp rfl ResOf.nil) rfl (fun w h => ⟨(), rfl, (h.drop 2)⟩)
      · refine j_true rfl (not_t (var_f c3)) ?_
        refine j_seq ?_
        refine j_region ?_
        refine r_q (q_assign rfl rfl) rfl rfl ?_
        refine r_nil ?_
        refine j_then ?_
        refine j_ret ?_
        refine j_then_ret ?_
        cases h
        exact j_return rfl (ResOf.tmp rfl ResOf.nil) rfl (fun w h => ⟨(), rfl, (h.drop 2)⟩)
    · refine j_true rfl (not_t (var_f c2)) ?_
      refine j_seq ?_
      refine j_region ?_
      refine r_q (q_assign rfl rfl) rfl rfl ?_
      refine r_nil ?_
      refine j_then ?_
      refine j_ret ?_
      refine j_then_ret ?_
      cases h
      exact j_return rfl (ResOf.tmp rfl ResOf.nil) rfl (fun w h => ⟨(), rfl, (h.drop 2)⟩)
  · refine j_true rfl (not_t (var_f c1)) ?_
    refine j_seq ?_
    refine j_region ?_
    refine r_q (q_assign rfl rfl) rfl rfl ?_
    refine r_nil ?_
    refine j_then ?_
    refine j_ret ?_
    refine j_then_ret ?_
    cases h
    exact j_return rfl (ResOf.tmp rfl ResOf.nil) rfl (fun w h => ⟨(), rfl, (h.drop 2)⟩)

theorem laws_eqStore.calls (K : Nat) (a0_0 : List Int) (a0_0_A : Option Addr) (a0_0_n a0_0_c : Nat) (a0_1 : List Int) (a0_1_A : Option Addr) (a0_1_n a0_1_c : Nat) (a0_2 : List Int) (a0_2_A : Option Addr) (a0_2_n a0_2_c : Nat) (a0_3 : List Int) (a0_3_A : Option Addr) (a0_3_n a0_3_c : Nat) (a1_0 : List Int) (a1_0_A : Option Addr) (a1_0_n a1_0_c : Nat) (a1_1 : List Int) (a1_1_A : Option Addr) (a1_1_n a1_1_c : Nat) (a1_2 : List Int) (a1_2_A : Option Addr) (a1_2_n a1_2_c : Nat) (a1_3 : List Int) (a1_3_A : Option Addr) (a1_3_n a1_3_c : Nat) {w0 w : World} {F : List Res} {r1 : Bool} (hm : Mem w0 (F) w) (a0_0_h : a0_0.length = a0_0_n) (a0_0_R : Rd w0 F a0_0_A (ints .i64 a0_0)) (a0_1_h : a0_1.length = a0_1_n) (a0_1_R : Rd w0 F a0_1_A (ints .i64 a0_1)) (a0_2_h : a0_2.length = a0_2_n) (a0_2_R : Rd w0 F a0_2_A (ints .i64 a0_2)) (a0_3_h : a0_3.length = a0_3_n) (a0_3_R : Rd w0 F a0_3_A (ints .i64 a0_3)) (a1_0_h : a1_0.length = a1_0_n) (a1_0_R : Rd w0 F a1_0_A (ints .i64 a1_0)) (a1_1_h : a1_1.length = a1_1_n) (a1_1_R : Rd w0 F a1_1_A (ints .i64 a1_1)) (a1_2_h : a1_2.length = a1_2_n) (a1_2_R : Rd w0 F a1_2_A (ints .i64 a1_2)) (a1_3_h : a1_3.length = a1_3_n) (a1_3_R : Rd w0 F a1_3_A (ints .i64 a1_3)) (h : laws_eqStore.f K a0_0 a0_1 a0_2 a0_3 a1_0 a1_1 a1_2 a1_3 = some r1) :
    Calls Try.prog 28 (List.toArray [.agg (List.toArray [.slice a0_0_A a0_0_n a0_0_c, .slice a0_1_A a0_1_n a0_1_c, .slice a0_2_A a0_2_n a0_2_c, .slice a0_3_A a0_3_n a0_3_c]), .agg (List.toArray [.slice a1_0_A a1_0_n a1_0_c, .slice a1_1_A a1_1_n a1_1_c, .slice a1_2_A a1_2_n a1_2_c, .slice a1_3_A a1_3_n a1_3_c])]) w fun e w' => ∃ x : Unit, e = .returned (.bool r1) ∧ Mem w0 (F) w' := by
  unfold laws_eqStore.f at h
  refine calls_of_J (n := 17) Try.func28 rfl rfl rfl hm ?_
  refine j_seq ?_
  refine j_region ?_
  refine r_do (a_box rfl rfl) rfl rfl (fun x1 => ?_)
  refine r_do (a_box rfl rfl) rfl rfl (fun x2 => ?_)
  refine r_q (q_assign rfl rfl) rfl rfl ?_
  refine j_rs (.box x2 48 [(.slice a1_0_A a1_0_n a1_0_c), (.slice a1_1_A a1_1_n a1_1_c), (.slice a1_2_A a1_2_n a1_2_c), (.slice a1_3_A a1_3_n a1_3_c)] :: .box x1 48 [(.slice a0_0_A a0_0_n a0_0_c), (.slice a0_1_A a0_1_n a0_1_c), (.slice a0_2_A a0_2_n a0_2_c), (.slice a0_3_A a0_3_n a0_3_c)] :: F) (fun _ h => h) ?_
  refine r_nil ?_
  refine j_then ?_
  refine j_seq ?_
  refine j_seq ?_
  refine j_region ?_
  refine r_q (q_fieldAddr fi48_0 sz46 rfl rfl rfl) rfl rfl ?_
  refine r_q (q_loadb_agg 1 rfl ag46 sz46 rfl rfl rfl rfl) rfl rfl ?_
  refine r_q (q_fieldAddr fi48_0 sz46 rfl rfl rfl) rfl rfl ?_
  refine r_q (q_loadb_agg 0 rfl ag46 sz46 rfl rfl rfl rfl) rfl rfl ?_
  obtain ⟨v1, hb1, h⟩ := of_b1 h
  refine r_do (a_call ok39 rfl rfl rfl rfl (fun w hm => laws_eqHeap.calls K a0_0 a0_0_A a0_0_n a0_0_c a0_1 a0_1_A a0_1_n a0_1_c a0_2 a0_2_A a0_2_n a0_2_c a1_0 a1_0_A a1_0_n a1_0_c a1_1 a1_1_A a1_1_n a1_1_c a1_2 a1_2_A a1_2_n a1_2_c hm a0_0_h (Rd.drop 2 a0_0_R) a0_1_h (Rd.drop 2 a0_1_R) a0_2_h (Rd.drop 2 a0_2_R) a1_0_h (Rd.drop 2 a1_0_R) a1_1_h (Rd.drop 2 a1_1_R) a1_2_h (Rd.drop 2 a1_2_R) hb1)) rfl rfl (fun x3 => ?_)
  refine r_q (q_not rfl rfl) rfl rfl ?_
  refine j_rs (.box x2 48 [(.slice a1_0_A a1_0_n a1_0_c), (.slice a1_1_A a1_1_n a1_1_c), (.slice a1_2_A a1_2_n a1_2_c), (.slice a1_3_A a1_3_n a1_3_c)] :: .box x1 48 [(.slice a0_0_A a0_0_n a0_0_c), (.slice a0_1_A a0_1_n a0_1_c), (.slice a0_2_A a0_2_n a0_2_c), (.slice a0_3_A a0_3_n a0_3_c)] :: F) (fun _ h => h) ?_
  refine r_nil ?_
  refine j_then ?_
  rcases of_if h with ⟨c1, h⟩ | ⟨c1, h⟩
  · refine j_false rfl (not_f c1) ?_
    refine j_skip ?_
    refine j_then ?_
    refine j_seq ?_
    refine j_seq ?_
    refine j_region ?_
    refine r_q (q_fieldAddr fi48_1 sz32 rfl rfl rfl) rfl rfl ?_
    refine r_q (q_loadb 1 rfl ag32 rfl rfl rfl) rfl rfl ?_
    refine r_q (q_fieldAddr fi48_1 sz32 rfl rfl rfl) rfl rfl ?_
    refine r_q (q_loadb 0 rfl ag32 rfl rfl rfl) rfl rfl ?_
    obtain ⟨v2, hb2, h⟩ := of_b1 h
    refine r_do (a_call ok38 rfl rfl rfl rfl (fun w hm => laws_eqIntS.calls K a0_3 a0_3_A a0_3_n a0_3_c a1_3 a1_3_A a1_3_n a1_3_c hm a0_3_h (Rd.drop 2 a0_3_R) a1_3_h (Rd.drop 2 a1_3_R) hb2)) rfl rfl (fun x4 => ?_)
    refine r_q (q_not rfl rfl) rfl rfl ?_
    refine j_rs (.box x2 48 [(.slice a1_0_A a1_0_n a1_0_c), (.slice a1_1_A a1_1_n a1_1_c), (.slice a1_2_A a1_2_n a1_2_c), (.slice a1_3_A a1_3_n a1_3_c)] :: .box x1 48 [(.slice a0_0_A a0_0_n a0_0_c), (.slice a0_1_A a0_1_n a0_1_c), (.slice a0_2_A a0_2_n a0_2_c), (.slice a0_3_A a0_3_n a0_3_c)] :: F) (fun _ h => h) ?_
    refine r_nil ?_
    refine j_then ?_
    rcases of_if h with ⟨c2, h⟩ | ⟨c2, h⟩
    · refine j_false rfl (not_f c2) ?_
      refine j_skip ?_
      refine j_then ?_
      refine j_seq ?_
      refine j_region ?_
      refine r_q (q_assign rfl rfl) rfl rfl ?_
      refine r_nil ?_
      refine j_then ?_
      refine j_ret ?_
      cases h
      exact j_return rfl (ResOf.tmp rfl ResOf.nil) rfl (fun w h => ⟨(), rfl, (h.drop 2)⟩)
    · refine j_true rfl (not_t (var_f c2)) ?_
      refine j_seq ?_
      refine j_region ?_
      refine r_q (q_assign rfl rfl) rfl rfl ?_
      refine r_nil ?_
      refine j_then ?_
      refine j_ret ?_
      refine j_then_ret ?_
      cases h
      exact j_return rfl (ResOf.tmp rfl ResOf.nil) rfl (fun w h => ⟨(), rfl, (h.drop 2)⟩)
  · refine j_true rfl (not_t (var_f c1)) ?_
    refine j_seq ?_
    refine j_region ?_
    refine r_q (q_assign rfl rfl) rfl rfl ?_
    refine r_nil ?_
    refine j_then ?_
    refine j_ret ?_
    refine j_then_ret ?_
    cases h
    exact j_return rfl (ResOf.tmp rfl ResOf.nil) rfl (fun w h => ⟨(), rfl, (h.drop 2)⟩)

theorem laws_FnExactStoreSame.calls (K : Nat) (a0_0 : List Int) (a0_0_A : Option Addr) (a0_0_n a0_0_c : Nat) (a0_1 : List Int) (a0_1_A : Option Addr) (a0_1_n a0_1_c : Nat) (a0_2 : List Int) (a0_2_A : Option Addr) (a0_2_n a0_2_c : Nat) (a0_3 : List Int) (a0_3_A : Option Addr) (a0_3_n a0_3_c : Nat) (a1_0 : List Int) (a1_0_A : Option Addr) (a1_0_n a1_0_c : Nat) (a1_1 : List Int) (a1_1_A : Option Addr) (a1_1_n a1_1_c : Nat) (a1_2 : List Int) (a1_2_A : Option Addr) (a1_2_n a1_2_c : Nat) (a1_3 : List Int) (a1_3_A : Option Addr) (a1_3_n a1_3_c : Nat) {w0 w : World} {F : List Res} {r1 : Bool} (hm : Mem w0 (F) w) (a0_0_h : a0_0.length = a0_0_n) (a0_0_R : Rd w0 F a0_0_A (ints .i64 a0_0)) (a0_1_h : a0_1.length = a0_1_n) (a0_1_R : Rd w0 F a0_1_A (ints .i64 a0_1)) (a0_2_h : a0_2.length = a0_2_n) (a0_2_R : Rd w0 F a0_2_A (ints .i64 a0_2)) (a0_3_h : a0_3.length = a0_3_n) (a0_3_R : Rd w0 F a0_3_A (ints .i64 a0_3)) (a1_0_h : a1_0.length = a1_0_n) (a1_0_R : Rd w0 F a1_0_A (ints .i64 a1_0)) (a1_1_h : a1_1.length = a1_1_n) (a1_1_R : Rd w0 F a1_1_A (ints .i64 a1_1)) (a1_2_h : a1_2.length = a1_2_n) (a1_2_R : Rd w0 F a1_2_A (ints .i64 a1_2)) (a1_3_h : a1_3.length = a1_3_n) (a1_3_R : Rd w0 F a1_3_A (ints .i64 a1_3)) (h : laws_FnExactStoreSame.f K a0_0 a0_1 a0_2 a0_3 a1_0 a1_1 a1_2 a1_3 = some r1) :
    Calls Try.prog 6 (List.toArray [.agg (List.toArray [.slice a0_0_A a0_0_n a0_0_c, .slice a0_1_A a0_1_n a0_1_c, .slice a0_2_A a0_2_n a0_2_c, .slice a0_3_A a0_3_n a0_3_c]), .agg (List.toArray [.slice a1_0_A a1_0_n a1_0_c, .slice a1_1_A a1_1_n a1_1_c, .slice a1_2_A a1_2_n a1_2_c, .slice a1_3_A a1_3_n a1_3_c])]) w fun e w' => ∃ x : Unit, e = .returned (.bool r1) ∧ Mem w0 (F) w' := by
  unfold laws_FnExactStoreSame.f at h
  refine calls_of_J (n := 45) Try.func6 rfl rfl rfl hm ?_
  refine j_seq ?_
  refine j_region ?_
  refine r_do (a_box rfl rfl) rfl rfl (fun x1 => ?_)
  refine r_do (a_box rfl rfl) rfl rfl (fun x2 => ?_)
  refine r_q (q_assign rfl rfl) rfl rfl ?_
  refine j_rs (.box x2 43 [(.slice a1_0_A a1_0_n a1_0_c), (.slice a1_1_A a1_1_n a1_1_c), (.slice a1_2_A a1_2_n a1_2_c), (.slice a1_3_A a1_3_n a1_3_c)] :: .box x1 43 [(.slice a0_0_A a0_0_n a0_0_c), (.slice a0_1_A a0_1_n a0_1_c), (.slice a0_2_A a0_2_n a0_2_c), (.slice a0_3_A a0_3_n a0_3_c)] :: F) (fun _ h => h) ?_
  refine r_nil ?_
  refine j_then ?_
  refine j_seq ?_
  refine j_region ?_
  refine r_q (q_assign rfl rfl) rfl rfl ?_
  refine r_nil ?_
  refine j_then ?_
  refine j_seq ?_
  refine j_region ?_
  refine r_q (q_loadb_agg 1 rfl ag43 sz43 rfl rfl rfl rfl) rfl rfl ?_
  refine r_q (q_move rfl rfl) rfl rfl ?_
  obtain ⟨v1, hb1, h⟩ := of_b1 h
  refine r_do (a_call ok24 rfl rfl rfl rfl (fun w hm => laws_szStore.calls K a0_0 a0_0_A a0_0_n a0_0_c a0_1 a0_1_A a0_1_n a0_1_c a0_2 a0_2_A a0_2_n a0_2_c a0_3 a0_3_A a0_3_n a0_3_c (1048576:Int) hm a0_0_h (Rd.drop 2 a0_0_R) a0_1_h (Rd.drop 2 a0_1_R) a0_2_h (Rd.drop 2 a0_2_R) a0_3_h (Rd.drop 2 a0_3_R) hb1)) rfl rfl (fun x3 => ?_)
  refine r_q (q_assign rfl rfl) rfl rfl ?_
  refine j_rs (.box x2 43 [(.slice a1_0_A a1_0_n a1_0_c), (.slice a1_1_A a1_1_n a1_1_c), (.slice a1_2_A a1_2_n a1_2_c), (.slice a1_3_A a1_3_n a1_3_c)] :: .box x1 43 [(.slice a0_0_A a0_0_n a0_0_c), (.slice a0_1_A a0_1_n a0_1_c), (.slice a0_2_A a0_2_n a0_2_c), (.slice a0_3_A a0_3_n a0_3_c)] :: F) (fun _ h => h) ?_
  refine r_nil ?_
  refine j_then ?_
  refine j_seq ?_
  refine j_seq ?_
  refine j_region ?_
  refine r_q (q_move rfl rfl) rfl rfl ?_
  refine r_q (q_lss rfl rfl rfl) rfl rfl ?_
  refine r_nil ?_
  refine j_then ?_
  rcases of_if h with ⟨c1, h⟩ | ⟨c1, h⟩
  · refine j_true rfl (decide_eq_true c1) ?_
    refine j_seq ?_
    refine j_region ?_
    refine r_q (q_assign rfl rfl) rfl rfl ?_
    refine r_nil ?_
    refine j_then ?_
    refine j_ret ?_
    refine j_then_ret ?_
    cases h
    exact j_return rfl (ResOf.tmp rfl ResOf.nil) rfl (fun w h => ⟨(), rfl, (h.drop 2)⟩)
  · refine j_false rfl (decide_eq_false c1) ?_
    refine j_skip ?_
    refine j_then ?_
    refine j_seq ?_
    refine j_region ?_
    refine r_q (q_loadb_agg 0 rfl ag43 sz43 rfl rfl rfl rfl) rfl rfl ?_
    refine r_q (q_move rfl rfl) rfl rfl ?_
    obtain ⟨v2, hb2, h⟩ := of_b1 h
    refine r_do (a_call ok24 rfl rfl rfl rfl (fun w hm => laws_szStore.calls K a1_0 a1_0_A a1_0_n a1_0_c a1_1 a1_1_A a1_1_n a1_1_c a1_2 a1_2_A a1_2_n a1_2_c a1_3 a1_3_A a1_3_n a1_3_c v1 hm a1_0_h (Rd.drop 2 a1_0_R) a1_1_h (Rd.drop 2 a1_1_R) a1_2_h (Rd.drop 2 a1_2_R) a1_3_h (Rd.drop 2 a1_3_R) hb2)) rfl rfl (fun x4 => ?_)
    refine r_q (q_assign rfl rfl) rfl rfl ?_
    refine j_rs (.box x2 43 [(.slice a1_0_A a1_0_n a1_0_c), (.slice a1_1_A a1_1_n a1_1_c), (.slice a1_2_A a1_2_n a1_2_c), (.slice a1_3_A a1_3_n a1_3_c)] :: .box x1 43 [(.slice a0_0_A a0_0_n a0_0_c), (.slice a0_1_A a0_1_n a0_1_c), (.slice a0_2_A a0_2_n a0_2_c), (.slice a0_3_A a0_3_n a0_3_c)] :: F) (fun _ h => h) ?_
    refine r_nil ?_
    refine j_then ?_
    refine j_seq ?_
    refine j_seq ?_
    refine j_region ?_
    refine r_q (q_move rfl rfl) rfl rfl ?_
    refine r_q (q_lss rfl rfl rfl) rfl rfl ?_
    refine r_nil ?_
    refine j_then ?_
    rcases of_if h with ⟨c2, h⟩ | ⟨c2, h⟩
    · refine j_true rfl (decide_eq_true c2) ?_
      refine j_seq ?_
      refine j_region ?_
      refine r_q (q_assign rfl rfl) rfl rfl ?_
      refine r_nil ?_
      refine j_then ?_
      refine j_ret ?_
      refine j_then_ret ?_
      cases h
      exact j_return rfl (ResOf.tmp rfl ResOf.nil) rfl (fun w h => ⟨(), rfl, (h.drop 2)⟩)
    · refine j_false rfl (decide_eq_false c2) ?_
      refine j_skip ?_
      refine j_then ?_
      refine j_seq ?_
      obtain ⟨v3, v4, v5, v6, hb3, h⟩ := of_b4 h
      obtain ⟨v7, v8, v9, v10, hb4, h⟩ := of_b4 h
      obtain ⟨v11, hb5, h⟩ := of_b1 h
      refine j_draw (.box x2 43 [(.slice a1_0_A a1_0_n a1_0_c), (.slice a1_1_A a1_1_n a1_1_c), (.slice a1_2_A a1_2_n a1_2_c), (.slice a1_3_A a1_3_n a1_3_c)] :: .box x1 43 [(.slice a0_0_A a0_0_n a0_0_c), (.slice a0_1_A a0_1_n a0_1_c), (.slice a0_2_A a0_2_n a0_2_c), (.slice a0_3_A a0_3_n a0_3_c)] :: F) 6 follows_any rfl ?_
      refine d_take 0 rfl (q_loadb_agg 1 rfl ag43 sz43 rfl rfl rfl rfl) rfl rfl (by kernel_rfl) (by kernel_rfl) (by kernel_rfl) (fun w h => h) ?_
      refine d_take 2 rfl (q_loadb_agg 0 rfl ag43 sz43 rfl rfl rfl rfl) rfl rfl (by kernel_rfl) (by kernel_rfl) (by kernel_rfl) (fun w h => h) ?_
      refine d_one 1 (by kernel_rfl) ?_
      refine o_do rfl (a_call ok26 rfl rfl rfl rfl (fun w hm => laws_toStore.calls K a0_0 a0_0_A a0_0_n a0_0_c a0_1 a0_1_A a0_1_n a0_1_c a0_2 a0_2_A a0_2_n a0_2_c a0_3 a0_3_A a0_3_n a0_3_c hm a0_0_h (Rd.drop 2 a0_0_R) a0_1_h (Rd.drop 2 a0_1_R) a0_2_h (Rd.drop 2 a0_2_R) a0_3_h (Rd.drop 2 a0_3_R) hb3)) rfl rfl (fun x5 w h => (h.drop 4)) (fun x5 => ?_)
      refine j_rs (.row x5.1.A x5.1.c 3 1 (ints .i64 v3) :: .row x5.2.1.A x5.2.1.c 3 1 (ints .i64 v4) :: .row x5.2.2.1.A x5.2.2.1.c 3 1 (ints .i64 v5) :: .row x5.2.2.2.A x5.2.2.2.c 3 1 (ints .i64 v6) :: .box x2 43 [(.slice a1_0_A a1_0_n a1_0_c), (.slice a1_1_A a1_1_n a1_1_c), (.slice a1_2_A a1_2_n a1_2_c), (.slice a1_3_A a1_3_n a1_3_c)] :: .box x1 43 [(.slice a0_0_A a0_0_n a0_0_c), (.slice a0_1_A a0_1_n a0_1_c), (.slice a0_2_A a0_2_n a0_2_c), (.slice a0_3_A a0_3_n a0_3_c)] :: F) (fun _ h => h) ?_
      refine d_one 3 (by kernel_rfl) ?_
      refine o_do rfl (a_call ok26 rfl rfl rfl rfl (fun w hm => laws_toStore.calls K a1_0 a1_0_A a1_0_n a1_0_c a1_1 a1_1_A a1_1_n a1_1_c a1_2 a1_2_A a1_2_n a1_2_c a1_3 a1_3_A a1_3_n a1_3_c hm a1_0_h (Rd.drop 6 a1_0_R) a1_1_h (Rd.drop 6 a1_1_R) a1_2_h (Rd.drop 6 a1_2_R) a1_3_h (Rd.drop 6 a1_3_R) hb4)) rfl rfl (fun x6 w h => (h.drop 8)) (fun x6 => ?_)
      refine j_rs (.row x6.1.A x6.1.c 3 1 (ints .i64 v7) :: .row x6.2.1.A x6.2.1.c 3 1 (ints .i64 v8) :: .row x6.2.2.1.A x6.2.2.1.c 3 1 (ints .i64 v9) :: .row x6.2.2.2.A x6.2.2.2.c 3 1 (ints .i64 v10) :: .row x5.1.A x5.1.c 3 1 (ints .i64 v3) :: .row x5.2.1.A x5.2.1.c 3 1 (ints .i64 v4) :: .row x5.2.2.1.A x5.2.2.1.c 3 1 (ints .i64 v5) :: .row x5.2.2.2.A x5.2.2.2.c 3 1 (ints .i64 v6) :: .box x2 43 [(.slice a1_0_A a1_0_n a1_0_c), (.slice a1_1_A a1_1_n a1_1_c), (.slice a1_2_A a1_2_n a1_2_c), (.slice a1_3_A a1_3_n a1_3_c)] :: .box x1 43 [(.slice a0_0_A a0_0_n a0_0_c), (.slice a0_1_A a0_1_n a0_1_c), (.slice a0_2_A a0_2_n a0_2_c), (.slice a0_3_A a0_3_n a0_3_c)] :: F) (fun _ h => h) ?_
      refine d_one 4 (by kernel_rfl) ?_
      refine o_do rfl (a_call ok25 rfl rfl rfl rfl (fun w hm => spec_StoreSame.calls K v3 x5.1.A x5.1.n x5.1.c v4 x5.2.1.A x5.2.1.n x5.2.1.c v5 x5.2.2.1.A x5.2.2.1.n x5.2.2.1.c v6 x5.2.2.2.A x5.2.2.2.n x5.2.2.2.c v7 x6.1.A x6.1.n x6.1.c v8 x6.2.1.A x6.2.1.n x6.2.1.c v9 x6.2.2.1.A x6.2.2.1.n x6.2.2.1.c v10 x6.2.2.2.A x6.2.2.2.n x6.2.2.2.c hm x5.1.h (Rd.row 4 rfl) x5.2.1.h (Rd.row 5 rfl) x5.2.2.1.h (Rd.row 6 rfl) x5.2.2.2.h (Rd.row 7 rfl) x6.1.h (Rd.row 0 rfl) x6.2.1.h (Rd.row 1 rfl) x6.2.2.1.h (Rd.row 2 rfl) x6.2.2.2.h (Rd.row 3 rfl) hb5)) rfl rfl (fun x7 w h => (h.drop 8)) (fun x7 => ?_)
      refine j_rs (.row x6.1.A x6.1.c 3 1 (ints .i64 v7) :: .row x6.2.1.A x6.2.1.c 3 1 (ints .i64 v8) :: .row x6.2.2.1.A x6.2.2.1.c 3 1 (ints .i64 v9) :: .row x6.2.2.2.A x6.2.2.2.c 3 1 (ints .i64 v10) :: .row x5.1.A x5.1.c 3 1 (ints .i64 v3) :: .row x5.2.1.A x5.2.1.c 3 1 (ints .i64 v4) :: .row x5.2.2.1.A x5.2.2.1.c 3 1 (ints .i64 v5) :: .row x5.2.2.2.A x5.2.2.2.c 3 1 (ints .i64 v6) :: .box x2 43 [(.slice a1_0_A a1_0_n a1_0_c), (.slice a1_1_A a1_1_n a1_1_c), (.slice a1_2_A a1_2_n a1_2_c), (.slice a1_3_A a1_3_n a1_3_c)] :: .box x1 43 [(.slice a0_0_A a0_0_n a0_0_c), (.slice a0_1_A a0_1_n a0_1_c), (.slice a0_2_A a0_2_n a0_2_c), (.slice a0_3_A a0_3_n a0_3_c)] :: F) (fun _ h => h) ?_
      refine d_take 5 rfl (q_assign rfl rfl) rfl rfl (by kernel_rfl) (by kernel_rfl) (by kernel_rfl) (fun w h => (h.drop 8)) ?_
      refine d_done (by kernel_rfl) ?_
      refine j_then ?_
      refine j_seq ?_
      refine j_region ?_
      refine r_q (q_loadb_agg 9 rfl ag43 sz43 rfl rfl rfl rfl) rfl rfl ?_
      obtain ⟨v12, v13, v14, v15, hb6, h⟩ := of_b4 h
      refine r_do (a_call ok26 rfl rfl rfl rfl (fun w hm => laws_toStore.calls K a0_0 a0_0_A a0_0_n a0_0_c a0_1 a0_1_A a0_1_n a0_1_c a0_2 a0_2_A a0_2_n a0_2_c a0_3 a0_3_A a0_3_n a0_3_c hm a0_0_h (Rd.drop 10 a0_0_R) a0_1_h (Rd.drop 10 a0_1_R) a0_2_h (Rd.drop 10 a0_2_R) a0_3_h (Rd.drop 10 a0_3_R) hb6)) rfl rfl (fun x8 => ?_)
      refine r_do (a_alloc zr48 rfl) rfl rfl (fun x9 => ?_)
      refine r_do (a_storeb 0 rfl sz48 rfl rfl rfl rfl (Nat.le_of_ble_eq_true rfl) rfl) rfl rfl (fun _ => ?_)
      refine j_rs (.box x9 48 [(.slice x8.1.A x8.1.n x8.1.c), (.slice x8.2.1.A x8.2.1.n x8.2.1.c), (.slice x8.2.2.1.A x8.2.2.1.n x8.2.2.1.c), (.slice x8.2.2.2.A x8.2.2.2.n x8.2.2.2.c)] :: .row x8.1.A x8.1.c 3 1 (ints .i64 v12) :: .row x8.2.1.A x8.2.1.c 3 1 (ints .i64 v13) :: .row x8.2.2.1.A x8.2.2.1.c 3 1 (ints .i64 v14) :: .row x8.2.2.2.A x8.2.2.2.c 3 1 (ints .i64 v15) :: .row x6.1.A x6.1.c 3 1 (ints .i64 v7) :: .row x6.2.1.A x6.2.1.c 3 1 (ints .i64 v8) :: .row x6.2.2.1.A x6.2.2.1.c 3 1 (ints .i64 v9) :: .row x6.2.2.2.A x6.2.2.2.c 3 1 (ints .i64 v10) :: .row x5.1.A x5.1.c 3 1 (ints .i64 v3) :: .row x5.2.1.A x5.2.1.c 3 1 (ints .i64 v4) :: .row x5.2.2.1.A x5.2.2.1.c 3 1 (ints .i64 v5) :: .row x5.2.2.2.A x5.2.2.2.c 3 1 (ints .i64 v6) :: .box x2 43 [(.slice a1_0_A a1_0_n a1_0_c), (.slice a1_1_A a1_1_n a1_1_c), (.slice a1_2_A a1_2_n a1_2_c), (.slice a1_3_A a1_3_n a1_3_c)] :: .box x1 43 [(.slice a0_0_A a0_0_n a0_0_c), (.slice a0_1_A a0_1_n a0_1_c), (.slice a0_2_A a0_2_n a0_2_c), (.slice a0_3_A a0_3_n a0_3_c)] :: F) (fun _ h => h) ?_
      refine r_nil ?_
      refine j_then ?_
      refine j_seq ?_
      refine j_region ?_
      refine r_q (q_loadb_agg 13 rfl ag43 sz43 rfl rfl rfl rfl) rfl rfl ?_
      obtain ⟨v16, v17, v18, v19, hb7, h⟩ := of_b4 h
      refine r_do (a_call ok26 rfl rfl rfl rfl (fun w hm => laws_toStore.calls K a1_0 a1_0_A a1_0_n a1_0_c a1_1 a1_1_A a1_1_n a1_1_c a1_2 a1_2_A a1_2_n a1_2_c a1_3 a1_3_A a1_3_n a1_3_c hm a1_0_h (Rd.drop 15 a1_0_R) a1_1_h (Rd.drop 15 a1_1_R) a1_2_h (Rd.drop 15 a1_2_R) a1_3_h (Rd.drop 15 a1_3_R) hb7)) rfl rfl (fun x10 => ?_)
      refine r_do (a_alloc zr48 rfl) rfl rfl (fun x11 => ?_)
      refine r_do (a_storeb 0 rfl sz48 rfl rfl rfl rfl (Nat.le_of_ble_eq_true rfl) rfl) rfl rfl (fun _ => ?_)
      refine j_rs (.box x11 48 [(.slice x10.1.A x10.1.n x10.1.c), (.slice x10.2.1.A x10.2.1.n x10.2.1.c), (.slice x10.2.2.1.A x10.2.2.1.n x10.2.2.1.c), (.slice x10.2.2.2.A x10.2.2.2.n x10.2.2.2.c)] :: .row x10.1.A x10.1.c 3 1 (ints .i64 v16) :: .row x10.2.1.A x10.2.1.c 3 1 (ints .i64 v17) :: .row x10.2.2.1.A x10.2.2.1.c 3 1 (ints .i64 v18) :: .row x10.2.2.2.A x10.2.2.2.c 3 1 (ints .i64 v19) :: .box x9 48 [(.slice x8.1.A x8.1.n x8.1.c), (.slice x8.2.1.A x8.2.1.n x8.2.1.c), (.slice x8.2.2.1.A x8.2.2.1.n x8.2.2.1.c), (.slice x8.2.2.2.A x8.2.2.2.n x8.2.2.2.c)] :: .row x8.1.A x8.1.c 3 1 (ints .i64 v12) :: .row x8.2.1.A x8.2.1.c 3 1 (ints .i64 v13) :: .row x8.2.2.1.A x8.2.2.1.c 3 1 (ints .i64 v14) :: .row x8.2.2.2.A x8.2.2.2.c 3 1 (ints .i64 v15) :: .row x6.1.A x6.1.c 3 1 (ints .i64 v7) :: .row x6.2.1.A x6.2.1.c 3 1 (ints .i64 v8) :: .row x6.2.2.1.A x6.2.2.1.c 3 1 (ints .i64 v9) :: .row x6.2.2.2.A x6.2.2.2.c 3 1 (ints .i64 v10) :: .row x5.1.A x5.1.c 3 1 (ints .i64 v3) :: .row x5.2.1.A x5.2.1.c 3 1 (ints .i64 v4) :: .row x5.2.2.1.A x5.2.2.1.c 3 1 (ints .i64 v5) :: .row x5.2.2.2.A x5.2.2.2.c 3 1 (ints .i64 v6) :: .box x2 43 [(.slice a1_0_A a1_0_n a1_0_c), (.slice a1_1_A a1_1_n a1_1_c), (.slice a1_2_A a1_2_n a1_2_c), (.slice a1_3_A a1_3_n a1_3_c)] :: .box x1 43 [(.slice a0_0_A a0_0_n a0_0_c), (.slice a0_1_A a0_1_n a0_1_c), (.slice a0_2_A a0_2_n a0_2_c), (.slice a0_3_A a0_3_n a0_3_c)] :: F) (fun _ h => h) ?_
      refine r_nil ?_
      refine j_then ?_
      refine j_seq ?_
      refine j_region ?_
      refine r_q (q_loadb_agg 5 rfl ag48 sz48 rfl rfl rfl rfl) rfl rfl ?_
      refine r_q (q_loadb_agg 0 rfl ag48 sz48 rfl rfl rfl rfl) rfl rfl ?_
      obtain ⟨v20, hb8, h⟩ := of_b1 h
      refine r_do (a_call ok27 rfl rfl rfl rfl (fun w hm => impl_StoreSame.calls K v12 x8.1.A x8.1.n x8.1.c v13 x8.2.1.A x8.2.1.n x8.2.1.c v14 x8.2.2.1.A x8.2.2.1.n x8.2.2.1.c v15 x8.2.2.2.A x8.2.2.2.n x8.2.2.2.c v16 x10.1.A x10.1.n x10.1.c v17 x10.2.1.A x10.2.1.n x10.2.1.c v18 x10.2.2.1.A x10.2.2.1.n x10.2.2.1.c v19 x10.2.2.2.A x10.2.2.2.n x10.2.2.2.c hm x8.1.h (Rd.row 6 rfl) x8.2.1.h (Rd.row 7 rfl) x8.2.2.1.h (Rd.row 8 rfl) x8.2.2.2.h (Rd.row 9 rfl) x10.1.h (Rd.row 1 rfl) x10.2.1.h (Rd.row 2 rfl) x10.2.2.1.h (Rd.row 3 rfl) x10.2.2.2.h (Rd.row 4 rfl) hb8)) rfl rfl (fun x12 => ?_)
      refine r_q (q_assign rfl rfl) rfl rfl ?_
      refine j_rs (.box x11 48 [(.slice x10.1.A x10.1.n x10.1.c), (.slice x10.2.1.A x10.2.1.n x10.2.1.c), (.slice x10.2.2.1.A x10.2.2.1.n x10.2.2.1.c), (.slice x10.2.2.2.A x10.2.2.2.n x10.2.2.2.c)] :: .row x10.1.A x10.1.c 3 1 (ints .i64 v16) :: .row x10.2.1.A x10.2.1.c 3 1 (ints .i64 v17) :: .row x10.2.2.1.A x10.2.2.1.c 3 1 (ints .i64 v18) :: .row x10.2.2.2.A x10.2.2.2.c 3 1 (ints .i64 v19) :: .box x9 48 [(.slice x8.1.A x8.1.n x8.1.c), (.slice x8.2.1.A x8.2.1.n x8.2.1.c), (.slice x8.2.2.1.A x8.2.2.1.n x8.2.2.1.c), (.slice x8.2.2.2.A x8.2.2.2.n x8.2.2.2.c)] :: .row x8.1.A x8.1.c 3 1 (ints .i64 v12) :: .row x8.2.1.A x8.2.1.c 3 1 (ints .i64 v13) :: .row x8.2.2.1.A x8.2.2.1.c 3 1 (ints .i64 v14) :: .row x8.2.2.2.A x8.2.2.2.c 3 1 (ints .i64 v15) :: .row x6.1.A x6.1.c 3 1 (ints .i64 v7) :: .row x6.2.1.A x6.2.1.c 3 1 (ints .i64 v8) :: .row x6.2.2.1.A x6.2.2.1.c 3 1 (ints .i64 v9) :: .row x6.2.2.2.A x6.2.2.2.c 3 1 (ints .i64 v10) :: .row x5.1.A x5.1.c 3 1 (ints .i64 v3) :: .row x5.2.1.A x5.2.1.c 3 1 (ints .i64 v4) :: .row x5.2.2.1.A x5.2.2.1.c 3 1 (ints .i64 v5) :: .row x5.2.2.2.A x5.2.2.2.c 3 1 (ints .i64 v6) :: .box x2 43 [(.slice a1_0_A a1_0_n a1_0_c), (.slice a1_1_A a1_1_n a1_1_c), (.slice a1_2_A a1_2_n a1_2_c), (.slice a1_3_A a1_3_n a1_3_c)] :: .box x1 43 [(.slice a0_0_A a0_0_n a0_0_c), (.slice a0_1_A a0_1_n a0_1_c), (.slice a0_2_A a0_2_n a0_2_c), (.slice a0_3_A a0_3_n a0_3_c)] :: F) (fun _ h => h) ?_
      refine r_nil ?_
      refine j_then ?_
      refine j_seq ?_
      refine j_seq ?_
      refine j_region ?_
      refine r_q (q_move rfl rfl) rfl rfl ?_
      refine r_q (q_move rfl rfl) rfl rfl ?_
      refine r_q (q_bneq un4 rfl rfl rfl) rfl rfl ?_
      refine r_nil ?_
      refine j_then ?_
      rcases of_if h with ⟨c3, h⟩ | ⟨c3, h⟩
      · refine j_false rfl (bne_f c3) ?_
        refine j_skip ?_
        refine j_then ?_
        refine j_seq ?_
        refine j_seq ?_
        obtain ⟨v21, v22, v23, v24, hb9, h⟩ := of_b4 h
        obtain ⟨v25, hb10, h⟩ := of_b1 h
        refine j_draw (.box x11 48 [(.slice x10.1.A x10.1.n x10.1.c), (.slice x10.2.1.A x10.2.1.n x10.2.1.c), (.slice x10.2.2.1.A x10.2.2.1.n x10.2.2.1.c), (.slice x10.2.2.2.A x10.2.2.2.n x10.2.2.2.c)] :: .row x10.1.A x10.1.c 3 1 (ints .i64 v16) :: .row x10.2.1.A x10.2.1.c 3 1 (ints .i64 v17) :: .row x10.2.2.1.A x10.2.2.1.c 3 1 (ints .i64 v18) :: .row x10.2.2.2.A x10.2.2.2.c 3 1 (ints .i64 v19) :: .box x9 48 [(.slice x8.1.A x8.1.n x8.1.c), (.slice x8.2.1.A x8.2.1.n x8.2.1.c), (.slice x8.2.2.1.A x8.2.2.1.n x8.2.2.1.c), (.slice x8.2.2.2.A x8.2.2.2.n x8.2.2.2.c)] :: .row x8.1.A x8.1.c 3 1 (ints .i64 v12) :: .row x8.2.1.A x8.2.1.c 3 1 (ints .i64 v13) :: .row x8.2.2.1.A x8.2.2.1.c 3 1 (ints .i64 v14) :: .row x8.2.2.2.A x8.2.2.2.c 3 1 (ints .i64 v15) :: .row x6.1.A x6.1.c 3 1 (ints .i64 v7) :: .row x6.2.1.A x6.2.1.c 3 1 (ints .i64 v8) :: .row x6.2.2.1.A x6.2.2.1.c 3 1 (ints .i64 v9) :: .row x6.2.2.2.A x6.2.2.2.c 3 1 (ints .i64 v10) :: .row x5.1.A x5.1.c 3 1 (ints .i64 v3) :: .row x5.2.1.A x5.2.1.c 3 1 (ints .i64 v4) :: .row x5.2.2.1.A x5.2.2.1.c 3 1 (ints .i64 v5) :: .row x5.2.2.2.A x5.2.2.2.c 3 1 (ints .i64 v6) :: .box x2 43 [(.slice a1_0_A a1_0_n a1_0_c), (.slice a1_1_A a1_1_n a1_1_c), (.slice a1_2_A a1_2_n a1_2_c), (.slice a1_3_A a1_3_n a1_3_c)] :: .box x1 43 [(.slice a0_0_A a0_0_n a0_0_c), (.slice a0_1_A a0_1_n a0_1_c), (.slice a0_2_A a0_2_n a0_2_c), (.slice a0_3_A a0_3_n a0_3_c)] :: F) 5 follows_any rfl ?_
        refine d_take 0 rfl (q_loadb_agg 5 rfl ag48 sz48 rfl rfl rfl rfl) rfl rfl (by kernel_rfl) (by kernel_rfl) (by kernel_rfl) (fun w h => h) ?_
        refine d_take 1 rfl (q_loadb_agg 19 rfl ag43 sz43 rfl rfl rfl rfl) rfl rfl (by kernel_rfl) (by kernel_rfl) (by kernel_rfl) (fun w h => h) ?_
        refine d_one 2 (by kernel_rfl) ?_
        refine o_do rfl (a_call ok26 rfl rfl rfl rfl (fun w hm => laws_toStore.calls K a0_0 a0_0_A a0_0_n a0_0_c a0_1 a0_1_A a0_1_n a0_1_c a0_2 a0_2_A a0_2_n a0_2_c a0_3 a0_3_A a0_3_n a0_3_c hm a0_0_h (Rd.drop 20 a0_0_R) a0_1_h (Rd.drop 20 a0_1_R) a0_2_h (Rd.drop 20 a0_2_R) a0_3_h (Rd.drop 20 a0_3_R) hb9)) rfl rfl (fun x13 w h => (h.drop 4)) (fun x13 => ?_)
        refine j_rs (.row x13.1.A x13.1.c 3 1 (ints .i64 v21) :: .row x13.2.1.A x13.2.1.c 3 1 (ints .i64 v22) :: .row x13.2.2.1.A x13.2.2.1.c 3 1 (ints .i64 v23) :: .row x13.2.2.2.A x13.2.2.2.c 3 1 (ints .i64 v24) :: .box x11 48 [(.slice x10.1.A x10.1.n x10.1.c), (.slice x10.2.1.A x10.2.1.n x10.2.1.c), (.slice x10.2.2.1.A x10.2.2.1.n x10.2.2.1.c), (.slice x10.2.2.2.A x10.2.2.2.n x10.2.2.2.c)] :: .row x10.1.A x10.1.c 3 1 (ints .i64 v16) :: .row x10.2.1.A x10.2.1.c 3 1 (ints .i64 v17) :: .row x10.2.2.1.A x10.2.2.1.c 3 1 (ints .i64 v18) :: .row x10.2.2.2.A x10.2.2.2.c 3 1 (ints .i64 v19) :: .box x9 48 [(.slice x8.1.A x8.1.n x8.1.c), (.slice x8.2.1.A x8.2.1.n x8.2.1.c), (.slice x8.2.2.1.A x8.2.2.1.n x8.2.2.1.c), (.slice x8.2.2.2.A x8.2.2.2.n x8.2.2.2.c)] :: .row x8.1.A x8.1.c 3 1 (ints .i64 v12) :: .row x8.2.1.A x8.2.1.c 3 1 (ints .i64 v13) :: .row x8.2.2.1.A x8.2.2.1.c 3 1 (ints .i64 v14) :: .row x8.2.2.2.A x8.2.2.2.c 3 1 (ints .i64 v15) :: .row x6.1.A x6.1.c 3 1 (ints .i64 v7) :: .row x6.2.1.A x6.2.1.c 3 1 (ints .i64 v8) :: .row x6.2.2.1.A x6.2.2.1.c 3 1 (ints .i64 v9) :: .row x6.2.2.2.A x6.2.2.2.c 3 1 (ints .i64 v10) :: .row x5.1.A x5.1.c 3 1 (ints .i64 v3) :: .row x5.2.1.A x5.2.1.c 3 1 (ints .i64 v4) :: .row x5.2.2.1.A x5.2.2.1.c 3 1 (ints .i64 v5) :: .row x5.2.2.2.A x5.2.2.2.c 3 1 (ints .i64 v6) :: .box x2 43 [(.slice a1_0_A a1_0_n a1_0_c), (.slice a1_1_A a1_1_n a1_1_c), (.slice a1_2_A a1_2_n a1_2_c), (.slice a1_3_A a1_3_n a1_3_c)] :: .box x1 43 [(.slice a0_0_A a0_0_n a0_0_c), (.slice a0_1_A a0_1_n a0_1_c), (.slice a0_2_A a0_2_n a0_2_c), (.slice a0_3_A a0_3_n a0_3_c)] :: F) (fun _ h => h) ?_
        refine d_one 3 (by kernel_rfl) ?_
        refine o_do rfl (a_call ok28 rfl rfl rfl rfl (fun w hm => laws_eqStore.calls K v12 x8.1.A x8.1.n x8.1.c v13 x8.2.1.A x8.2.1.n x8.2.1.c v14 x8.2.2.1.A x8.2.2.1.n x8.2.2.1.c v15 x8.2.2.2.A x8.2.2.2.n x8.2.2.2.c v21 x13.1.A x13.1.n x13.1.c v22 x13.2.1.A x13.2.1.n x13.2.1.c v23 x13.2.2.1.A x13.2.2.1.n x13.2.2.1.c v24 x13.2.2.2.A x13.2.2.2.n x13.2.2.2.c hm x8.1.h (Rd.row 10 rfl) x8.2.1.h (Rd.row 11 rfl) x8.2.2.1.h (Rd.row 12 rfl) x8.2.2.2.h (Rd.row 13 rfl) x13.1.h (Rd.row 0 rfl) x13.2.1.h (Rd.row 1 rfl) x13.2.2.1.h (Rd.row 2 rfl) x13.2.2.2.h (Rd.row 3 rfl) hb10)) rfl rfl (fun x14 w h => (h.drop 4)) (fun x14 => ?_)
        refine j_rs (.row x13.1.A x13.1.c 3 1 (ints .i64 v21) :: .row x13.2.1.A x13.2.1.c 3 1 (ints .i64 v22) :: .row x13.2.2.1.A x13.2.2.1.c 3 1 (ints .i64 v23) :: .row x13.2.2.2.A x13.2.2.2.c 3 1 (ints .i64 v24) :: .box x11 48 [(.slice x10.1.A x10.1.n x10.1.c), (.slice x10.2.1.A x10.2.1.n x10.2.1.c), (.slice x10.2.2.1.A x10.2.2.1.n x10.2.2.1.c), (.slice x10.2.2.2.A x10.2.2.2.n x10.2.2.2.c)] :: .row x10.1.A x10.1.c 3 1 (ints .i64 v16) :: .row x10.2.1.A x10.2.1.c 3 1 (ints .i64 v17) :: .row x10.2.2.1.A x10.2.2.1.c 3 1 (ints .i64 v18) :: .row x10.2.2.2.A x10.2.2.2.c 3 1 (ints .i64 v19) :: .box x9 48 [(.slice x8.1.A x8.1.n x8.1.c), (.slice x8.2.1.A x8.2.1.n x8.2.1.c), (.slice x8.2.2.1.A x8.2.2.1.n x8.2.2.1.c), (.slice x8.2.2.2.A x8.2.2.2.n x8.2.2.2.c)] :: .row x8.1.A x8.1.c 3 1 (ints .i64 v12) :: .row x8.2.1.A x8.2.1.c 3 1 (ints .i64 v13) :: .row x8.2.2.1.A x8.2.2.1.c 3 1 (ints .i64 v14) :: .row x8.2.2.2.A x8.2.2.2.c 3 1 (ints .i64 v15) :: .row x6.1.A x6.1.c 3 1 (ints .i64 v7) :: .row x6.2.1.A x6.2.1.c 3 1 (ints .i64 v8) :: .row x6.2.2.1.A x6.2.2.1.c 3 1 (ints .i64 v9) :: .row x6.2.2.2.A x6.2.2.2.c 3 1 (ints .i64 v10) :: .row x5.1.A x5.1.c 3 1 (ints .i64 v3) :: .row x5.2.1.A x5.2.1.c 3 1 (ints .i64 v4) :: .row x5.2.2.1.A x5.2.2.1.c 3 1 (ints .i64 v5) :: .row x5.2.2.2.A x5.2.2.2.c 3 1 (ints .i64 v6) :: .box x2 43 [(.slice a1_0_A a1_0_n a1_0_c), (.slice a1_1_A a1_1_n a1_1_c), (.slice a1_2_A a1_2_n a1_2_c), (.slice a1_3_A a1_3_n a1_3_c)] :: .box x1 43 [(.slice a0_0_A a0_0_n a0_0_c), (.slice a0_1_A a0_1_n a0_1_c), (.slice a0_2_A a0_2_n a0_2_c), (.slice a0_3_A a0_3_n a0_3_c)] :: F) (fun _ h => h) ?_
        refine d_take 4 rfl (q_not rfl rfl) rfl rfl (by kernel_rfl) (by kernel_rfl) (by kernel_rfl) (fun w h => (h.drop 4)) ?_
        refine d_done (by kernel_rfl) ?_
        refine j_then ?_
        rcases of_if h with ⟨c4, h⟩ | ⟨c4, h⟩
        · refine j_false rfl (not_f c4) ?_
          refine j_skip ?_
          refine j_then ?_
          refine j_seq ?_
          refine j_seq ?_
          obtain ⟨v26, v27, v28, v29, hb11, h⟩ := of_b4 h
          obtain ⟨v30, hb12, h⟩ := of_b1 h
          refine j_draw (.row x13.1.A x13.1.c 3 1 (ints .i64 v21) :: .row x13.2.1.A x13.2.1.c 3 1 (ints .i64 v22) :: .row x13.2.2.1.A x13.2.2.1.c 3 1 (ints .i64 v23) :: .row x13.2.2.2.A x13.2.2.2.c 3 1 (ints .i64 v24) :: .box x11 48 [(.slice x10.1.A x10.1.n x10.1.c), (.slice x10.2.1.A x10.2.1.n x10.2.1.c), (.slice x10.2.2.1.A x10.2.2.1.n x10.2.2.1.c), (.slice x10.2.2.2.A x10.2.2.2.n x10.2.2.2.c)] :: .row x10.1.A x10.1.c 3 1 (ints .i64 v16) :: .row x10.2.1.A x10.2.1.c 3 1 (ints .i64 v17) :: .row x10.2.2.1.A x10.2.2.1.c 3 1 (ints .i64 v18) :: .row x10.2.2.2.A x10.2.2.2.c 3 1 (ints .i64 v19) :: .box x9 48 [(.slice x8.1.A x8.1.n x8.1.c), (.slice x8.2.1.A x8.2.1.n x8.2.1.c), (.slice x8.2.2.1.A x8.2.2.1.n x8.2.2.1.c), (.slice x8.2.2.2.A x8.2.2.2.n x8.2.2.2.c)] :: .row x8.1.A x8.1.c 3 1 (ints .i64 v12) :: .row x8.2.1.A x8.2.1.c 3 1 (ints .i64 v13) :: .row x8.2.2.1.A x8.2.2.1.c 3 1 (ints .i64 v14) :: .row x8.2.2.2.A x8.2.2.2.c 3 1 (ints .i64 v15) :: .row x6.1.A x6.1.c 3 1 (ints .i64 v7) :: .row x6.2.1.A x6.2.1.c 3 1 (ints .i64 v8) :: .row x6.2.2.1.A x6.2.2.1.c 3 1 (ints .i64 v9) :: .row x6.2.2.2.A x6.2.2.2.c 3 1 (ints .i64 v10) :: .row x5.1.A x5.1.c 3 1 (ints .i64 v3) :: .row x5.2.1.A x5.2.1.c 3 1 (ints .i64 v4) :: .row x5.2.2.1.A x5.2.2.1.c 3 1 (ints .i64 v5) :: .row x5.2.2.2.A x5.2.2.2.c 3 1 (ints .i64 v6) :: .box x2 43 [(.slice a1_0_A a1_0_n a1_0_c), (.slice a1_1_A a1_1_n a1_1_c), (.slice a1_2_A a1_2_n a1_2_c), (.slice a1_3_A a1_3_n a1_3_c)] :: .box x1 43 [(.slice a0_0_A a0_0_n a0_0_c), (.slice a0_1_A a0_1_n a0_1_c), (.slice a0_2_A a0_2_n a0_2_c), (.slice a0_3_A a0_3_n a0_3_c)] :: F) 5 follows_any rfl ?_
          refine d_take 0 rfl (q_loadb_agg 4 rfl ag48 sz48 rfl rfl rfl rfl) rfl rfl (by kernel_rfl) (by kernel_rfl) (by kernel_rfl) (fun w h => h) ?_
          refine d_take 1 rfl (q_loadb_agg 22 rfl ag43 sz43 rfl rfl rfl rfl) rfl rfl (by kernel_rfl) (by kernel_rfl) (by kernel_rfl) (fun w h => h) ?_
          refine d_one 2 (by kernel_rfl) ?_
          refine o_do rfl (a_call ok26 rfl rfl rfl rfl (fun w hm => laws_toStore.calls K a1_0 a1_0_A a1_0_n a1_0_c a1_1 a1_1_A a1_1_n a1_1_c a1_2 a1_2_A a1_2_n a1_2_c a1_3 a1_3_A a1_3_n a1_3_c hm a1_0_h (Rd.drop 24 a1_0_R) a1_1_h (Rd.drop 24 a1_1_R) a1_2_h (Rd.drop 24 a1_2_R) a1_3_h (Rd.drop 24 a1_3_R) hb11)) rfl rfl (fun x15 w h => (h.drop 4)) (fun x15 => ?_)
          refine j_rs (.row x15.1.A x15.1.c 3 1 (ints .i64 v26) :: .row x15.2.1.A x15.2.1.c 3 1 (ints .i64 v27) :: .row x15.2.2.1.A x15.2.2.1.c 3 1 (ints .i64 v28) :: .row x15.2.2.2.A x15.2.2.2.c 3 1 (ints .i64 v29) :: .row x13.1.A x13.1.c 3 1 (ints .i64 v21) :: .row x13.2.1.A x13.2.1.c 3 1 (ints .i64 v22) :: .row x13.2.2.1.A x13.2.2.1.c 3 1 (ints .i64 v23) :: .row x13.2.2.2.A x13.2.2.2.c 3 1 (ints .i64 v24) :: .box x11 48 [(.slice x10.1.A x10.1.n x10.1.c), (.slice x10.2.1.A x10.2.1.n x10.2.1.c), (.slice x10.2.2.1.A x10.2.2.1.n x10.2.2.1.c), (.slice x10.2.2.2.A x10.2.2.2.n x10.2.2.2.c)] :: .row x10.1.A x10.1.c 3 1 (ints .i64 v16) :: .row x10.2.1.A x10.2.1.c 3 1 (ints .i64 v17) :: .row x10.2.2.1.A x10.2.2.1.c 3 1 (ints .i64 v18) :: .row x10.2.2.2.A x10.2.2.2.c 3 1 (ints .i64 v19) :: .box x9 48 [(.slice x8.1.A x8.1.n x8.1.c), (.slice x8.2.1.A x8.2.1.n x8.2.1.c), (.slice x8.2.2.1.A x8.2.2.1.n x8.2.2.1.c), (.slice x8.2.2.2.A x8.2.2.2.n x8.2.2.2.c)] :: .row x8.1.A x8.1.c 3 1 (ints .i64 v12) :: .row x8.2.1.A x8.2.1.c 3 1 (ints .i64 v13) :: .row x8.2.2.1.A x8.2.2.1.c 3 1 (ints .i64 v14) :: .row x8.2.2.2.A x8.2.2.2.c 3 1 (ints .i64 v15) :: .row x6.1.A x6.1.c 3 1 (ints .i64 v7) :: .row x6.2.1.A x6.2.1.c 3 1 (ints .i64 v8) :: .row x6.2.2.1.A x6.2.2.1.c 3 1 (ints .i64 v9) :: .row x6.2.2.2.A x6.2.2.2.c 3 1 (ints .i64 v10) :: .row x5.1.A x5.1.c 3 1 (ints .i64 v3) :: .row x5.2.1.A x5.2.1.c 3 1 (ints .i64 v4) :: .row x5.2.2.1.A x5.2.2.1.c 3 1 (ints .i64 v5) :: .row x5.2.2.2.A x5.2.2.2.c 3 1 (ints .i64 v6) :: .box x2 43 [(.slice a1_0_A a1_0_n a1_0_c), (.slice a1_1_A a1_1_n a1_1_c), (.slice a1_2_A a1_2_n a1_2_c), (.slice a1_3_A a1_3_n a1_3_c)] :: .box x1 43 [(.slice a0_0_A a0_0_n a0_0_c), (.slice a0_1_A a0_1_n a0_1_c), (.slice a0_2_A a0_2_n a0_2_c), (.slice a0_3_A a0_3_n a0_3_c)] :: F) (fun _ h => h) ?_
          refine d_one 3 (by kernel_rfl) ?_
          refine o_do rfl (a_call ok28 rfl rfl rfl rfl (fun w hm => laws_eqStore.calls K v16 x10.1.A x10.1.n x10.1.c v17 x10.2.1.A x10.2.1.n x10.2.1.c v18 x10.2.2.1.A x10.2.2.1.n x10.2.2.1.c v19 x10.2.2.2.A x10.2.2.2.n x10.2.2.2.c v26 x15.1.A x15.1.n x15.1.c v27 x15.2.1.A x15.2.1.n x15.2.1.c v28 x15.2.2.1.A x15.2.2.1.n x15.2.2.1.c v29 x15.2.2.2.A x15.2.2.2.n x15.2.2.2.c hm x10.1.h (Rd.row 9 rfl) x10.2.1.h (Rd.row 10 rfl) x10.2.2.1.h (Rd.row 11 rfl) x10.2.2.2.h (Rd.row 12 rfl) x15.1.h (Rd.row 0 rfl) x15.2.1.h (Rd.row 1 rfl) x15.2.2.1.h (Rd.row 2 rfl) x15.2.2.2.h (Rd.row 3 rfl) hb12)) rfl rfl (fun x16 w h => (h.drop 4)) (fun x16 => ?_)
          refine j_rs (.row x15.1.A x15.1.c 3 1 (ints .i64 v26) :: .row x15.2.1.A x15.2.1.c 3 1 (ints .i64 v27) :: .row x15.2.2.1.A x15.2.2.1.c 3 1 (ints .i64 v28) :: .row x15.2.2.2.A x15.2.2.2.c 3 1 (ints .i64 v29) :: .row x13.1.A x13.1.c 3 1 (ints .i64 v21) :: .row x13.2.1.A x13.2.1.c 3 1 (ints .i64 v22) :: .row x13.2.2.1.A x13.2.2.1.c 3 1 (ints .i64 v23) :: .row x13.2.2.2.A x13.2.2.2.c 3 1 (ints .i64 v24) :: .box x11 48 [(.slice x10.1.A x10.1.n x10.1.c), (.slice x10.2.1.A x10.2.1.n x10.2.1.c), (.slice x10.2.2.1.A x10.2.2.1.n x10.2.2.1.c), (.slice x10.2.2.2.A x10.2.2.2.n x10.2.2.2.c)] :: .row x10.1.A x10.1.c 3 1 (ints .i64 v16) :: .row x10.2.1.A x10.2.1.c 3 1 (ints .i64 v17) :: .row x10.2.2.1.A x10.2.2.1.c 3 1 (ints .i64 v18) :: .row x10.2.2.2.A x10.2.2.2.c 3 1 (ints .i64 v19) :: .box x9 48 [(.slice x8.1.A x8.1.n x8.1.c), (.slice x8.2.1.A x8.2.1.n x8.2.1.c), (.slice x8.2.2.1.A x8.2.2.1.n x8.2.2.1.c), (.slice x8.2.2.2.A x8.2.2.2.n x8.2.2.2.c)] :: .row x8.1.A x8.1.c 3 1 (ints .i64 v12) :: .row x8.2.1.A x8.2.1.c 3 1 (ints .i64 v13) :: .row x8.2.2.1.A x8.2.2.1.c 3 1 (ints .i64 v14) :: .row x8.2.2.2.A x8.2.2.2.c 3 1 (ints .i64 v15) :: .row x6.1.A x6.1.c 3 1 (ints .i64 v7) :: .row x6.2.1.A x6.2.1.c 3 1 (ints .i64 v8) :: .row x6.2.2.1.A x6.2.2.1.c 3 1 (ints .i64 v9) :: .row x6.2.2.2.A x6.2.2.2.c 3 1 (ints .i64 v10) :: .row x5.1.A x5.1.c 3 1 (ints .i64 v3) :: .row x5.2.1.A x5.2.1.c 3 1 (ints .i64 v4) :: .row x5.2.2.1.A x5.2.2.1.c 3 1 (ints .i64 v5) :: .row x5.2.2.2.A x5.2.2.2.c 3 1 (ints .i64 v6) :: .box x2 43 [(.slice a1_0_A a1_0_n a1_0_c), (.slice a1_1_A a1_1_n a1_1_c), (.slice a1_2_A a1_2_n a1_2_c), (.slice a1_3_A a1_3_n a1_3_c)] :: .box x1 43 [(.slice a0_0_A a0_0_n a0_0_c), (.slice a0_1_A a0_1_n a0_1_c), (.slice a0_2_A a0_2_n a0_2_c), (.slice a0_3_A a0_3_n a0_3_c)] :: F) (fun _ h => h) ?_
          refine d_take 4 rfl (q_not rfl rfl) rfl rfl (by kernel_rfl) (by kernel_rfl) (by kernel_rfl) (fun w h => (h.drop 4)) ?_
          refine d_done (by kernel_rfl) ?_
          refine j_then ?_
          rcases of_if h with ⟨c5, h⟩ | ⟨c5, h⟩
          · refine j_false rfl (not_f c5) ?_
            refine j_skip ?_
            refine j_then ?_
            refine j_seq ?_
            refine j_region ?_
            refine r_q (q_assign rfl rfl) rfl rfl ?_
            refine r_nil ?_
            refine j_then ?_
            refine j_ret ?_
            cases h
            exact j_return rfl (ResOf.tmp rfl ResOf.nil) rfl (fun w h => ⟨(), rfl, (h.drop 28)⟩)
          · refine j_true rfl (not_t (var_f c5)) ?_
            refine j_seq ?_
            refine j_region ?_
            refine r_q (q_assign rfl rfl) rfl rfl ?_
            refine r_nil ?_
            refine j_then ?_
            refine j_ret ?_
            refine j_then_ret ?_
            cases h
            exact j_return rfl (ResOf.tmp rfl ResOf.nil) rfl (fun w h => ⟨(), rfl, (h.drop 28)⟩)
        · refine j_true rfl (not_t (var_f c4)) ?_
          refine j_seq ?_
          refine j_region ?_
          refine r_q (q_assign rfl rfl) rfl rfl ?_
          refine r_nil ?_
          refine j_then ?_
          refine j_ret ?_
          refine j_then_ret ?_
          cases h
          exact j_return rfl (ResOf.tmp rfl ResOf.nil) rfl (fun w h => ⟨(), rfl, (h.drop 24)⟩)
      · refine j_true rfl (bne_t c3) ?_
        refine j_seq ?_
        refine j_region ?_
        refine r_q (q_assign rfl rfl) rfl rfl ?_
        refine r_nil ?_
        refine j_then ?_
        refine j_ret ?_
        refine j_then_ret ?_
        cases h
        exact j_return rfl (ResOf.tmp rfl ResOf.nil) rfl (fun w h => ⟨(), rfl, (h.drop 20)⟩)

end Go.Proofs.Ytjcbalhdppmdmaa.F
