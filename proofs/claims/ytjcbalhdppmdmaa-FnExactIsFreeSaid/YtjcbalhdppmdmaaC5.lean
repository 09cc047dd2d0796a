/- The program computes these pure functions, printed by the generator of wip/gen. -/
import Derived.Test.YtjcbalhdppmdmaaFa
import Derived.Test.YtjcbalhdppmdmaaFb
import Derived.Test.YtjcbalhdppmdmaaC2
namespace Go.Proofs.Ytjcbalhdppmdmaa.F
open Go Go.RowKit Go.Proofs.Ytjcbalhdppmdmaa.S
set_option linter.unusedVariables false
set_option maxRecDepth 100000
theorem laws_szHeap.calls (K : Nat) (a0_0 : List Int) (a0_0_A : Option Addr) (a0_0_n a0_0_c : Nat) (a0_1 : List Int) (a0_1_A : Option Addr) (a0_1_n a0_1_c : Nat) (a0_2 : List Int) (a0_2_A : Option Addr) (a0_2_n a0_2_c : Nat) (a1 : Int) {w0 w : World} {F : List Res} {r1 : Int} (hm : Mem w0 (F) w) (a0_0_h : a0_0.length = a0_0_n) (a0_0_R : Rd w0 F a0_0_A (ii a0_0)) (a0_1_h : a0_1.length = a0_1_n) (a0_1_R : Rd w0 F a0_1_A (ii a0_1)) (a0_2_h : a0_2.length = a0_2_n) (a0_2_R : Rd w0 F a0_2_A (ii a0_2)) (h : laws_szHeap.f K a0_0 a0_1 a0_2 a1 = some r1) :
    Calls Try.prog 34 (List.toArray [.agg (List.toArray [.slice a0_0_A a0_0_n a0_0_c, .slice a0_1_A a0_1_n a0_1_c, .slice a0_2_A a0_2_n a0_2_c]), i6 a1]) w fun e w' => ∃ x : Unit, e = .returned (i6 r1) ∧ Mem w0 (F) w' := by
  unfold laws_szHeap.f at h
  refine calls_of_J (n := 24) Try.func34 rfl rfl rfl hm ?_
  refine j_seq ?_
  refine j_region ?_
  refine r_do (a_box rfl rfl) rfl rfl (fun x1 => ?_)
  refine r_q (q_assign rfl rfl) rfl rfl ?_
  refine j_rs (.box x1 41 [(.slice a0_0_A a0_0_n a0_0_c), (.slice a0_1_A a0_1_n a0_1_c), (.slice a0_2_A a0_2_n a0_2_c)] :: F) (fun _ h => h) ?_
  refine r_nil ?_
  refine j_then ?_
  refine j_seq ?_
  refine j_region ?_
  refine r_q (q_fieldAddr fi41_0 sz32 rfl rfl rfl) rfl rfl ?_
  refine r_q (q_loadb 0 rfl ag32 rfl rfl rfl) rfl rfl ?_
  refine r_q (q_move rfl rfl) rfl rfl ?_
  obtain ⟨v1, hb1, h⟩ := of_b1 h
  refine r_do (a_call ok70 rfl rfl rfl rfl (fun w hm => laws_szIntS.calls K a0_0 a0_0_A a0_0_n a0_0_c a1 hm a0_0_h (Rd.drop 1 a0_0_R) hb1)) rfl rfl (fun x2 => ?_)
  refine r_q (q_assign rfl rfl) rfl rfl ?_
  refine j_rs (.box x1 41 [(.slice a0_0_A a0_0_n a0_0_c), (.slice a0_1_A a0_1_n a0_1_c), (.slice a0_2_A a0_2_n a0_2_c)] :: F) (fun _ h => h) ?_
  refine r_nil ?_
  refine j_then ?_
  refine j_seq ?_
  refine j_seq ?_
  refine j_region ?_
  refine r_q (q_move rfl rfl) rfl rfl ?_
  refine r_q (q_lss rfl rfl rfl) rfl rfl ?_
  refine r_nil ?_
  refine j_then ?_
  rcases of_if h with ⟨c1, h⟩ | ⟨c1, h⟩
  · refine j_true rfl (decide_eq_true c1) ?_
    refine j_seq ?_
    refine j_region ?_
    refine r_q (q_assign rfl rfl) rfl rfl ?_
    refine r_nil ?_
    refine j_then ?_
    refine j_ret ?_
    refine j_then_ret ?_
    cases h
    exact j_return rfl (ResOf.tmp rfl ResOf.nil) rfl (fun w h => ⟨(), rfl, h.tail⟩)
  · refine j_false rfl (decide_eq_false c1) ?_
    refine j_skip ?_
    refine j_then ?_
    refine j_seq ?_
    refine j_region ?_
    refine r_q (q_fieldAddr fi41_1 sz32 rfl rfl rfl) rfl rfl ?_
    refine r_q (q_loadb 0 rfl ag32 rfl rfl rfl) rfl rfl ?_
    refine r_q (q_move rfl rfl) rfl rfl ?_
    obtain ⟨v2, hb2, h⟩ := of_b1 h
    refine r_do (a_call ok70 rfl rfl rfl rfl (fun w hm => laws_szIntS.calls K a0_1 a0_1_A a0_1_n a0_1_c v1 hm a0_1_h (Rd.drop 1 a0_1_R) hb2)) rfl rfl (fun x3 => ?_)
    refine r_q (q_assign rfl rfl) rfl rfl ?_
    refine j_rs (.box x1 41 [(.slice a0_0_A a0_0_n a0_0_c), (.slice a0_1_A a0_1_n a0_1_c), (.slice a0_2_A a0_2_n a0_2_c)] :: F) (fun _ h => h) ?_
    refine r_nil ?_
    refine j_then ?_
    refine j_seq ?_
    refine j_seq ?_
    refine j_region ?_
    refine r_q (q_move rfl rfl) rfl rfl ?_
    refine r_q (q_lss rfl rfl rfl) rfl rfl ?_
    refine r_nil ?_
    refine j_then ?_
    rcases of_if h with ⟨c2, h⟩ | ⟨c2, h⟩
    · refine j_true rfl (decide_eq_true c2) ?_
      refine j_seq ?_
      refine j_region ?_
      refine r_q (q_assign rfl rfl) rfl rfl ?_
      refine r_nil ?_
      refine j_then ?_
      refine j_ret ?_
      refine j_then_ret ?_
      cases h
      exact j_return rfl (ResOf.tmp rfl ResOf.nil) rfl (fun w h => ⟨(), rfl, h.tail⟩)
    · refine j_false rfl (decide_eq_false c2) ?_
      refine j_skip ?_
      refine j_then ?_
      refine j_seq ?_
      refine j_region ?_
      refine r_q (q_fieldAddr fi41_2 sz32 rfl rfl rfl) rfl rfl ?_
      refine r_q (q_loadb 0 rfl ag32 rfl rfl rfl) rfl rfl ?_
      refine r_q (q_move rfl rfl) rfl rfl ?_
      obtain ⟨v3, hb3, h⟩ := of_b1 h
      refine r_do (a_call ok70 rfl rfl rfl rfl (fun w hm => laws_szIntS.calls K a0_2 a0_2_A a0_2_n a0_2_c v2 hm a0_2_h (Rd.drop 1 a0_2_R) hb3)) rfl rfl (fun x4 => ?_)
      refine r_q (q_assign rfl rfl) rfl rfl ?_
      refine j_rs (.box x1 41 [(.slice a0_0_A a0_0_n a0_0_c), (.slice a0_1_A a0_1_n a0_1_c), (.slice a0_2_A a0_2_n a0_2_c)] :: F) (fun _ h => h) ?_
      refine r_nil ?_
      refine j_then ?_
      refine j_seq ?_
      refine j_seq ?_
      refine j_region ?_
      refine r_q (q_move rfl rfl) rfl rfl ?_
      refine r_q (q_lss rfl rfl rfl) rfl rfl ?_
      refine r_nil ?_
      refine j_then ?_
      rcases of_if h with ⟨c3, h⟩ | ⟨c3, h⟩
      · refine j_true rfl (decide_eq_true c3) ?_
        refine j_seq ?_
        refine j_region ?_
        refine r_q (q_assign rfl rfl) rfl rfl ?_
        refine r_nil ?_
        refine j_then ?_
        refine j_ret ?_
        refine j_then_ret ?_
        cases h
        exact j_return rfl (ResOf.tmp rfl ResOf.nil) rfl (fun w h => ⟨(), rfl, h.tail⟩)
      · refine j_false rfl (decide_eq_false c3) ?_
        refine j_skip ?_
        refine j_then ?_
        refine j_seq ?_
        refine j_region ?_
        refine r_q (q_move rfl rfl) rfl rfl ?_
        refine r_q (q_assign rfl rfl) rfl rfl ?_
        refine r_nil ?_
        refine j_then ?_
        refine j_ret ?_
        cases h
        exact j_return rfl (ResOf.tmp rfl ResOf.nil) rfl (fun w h => ⟨(), rfl, h.tail⟩)

theorem laws_toHeap.calls (K : Nat) (a0_0 : List Int) (a0_0_A : Option Addr) (a0_0_n a0_0_c : Nat) (a0_1 : List Int) (a0_1_A : Option Addr) (a0_1_n a0_1_c : Nat) (a0_2 : List Int) (a0_2_A : Option Addr) (a0_2_n a0_2_c : Nat) {w0 w : World} {F : List Res} {r1 : List Int} {r2 : List Int} {r3 : List Int} (hm : Mem w0 (F) w) (a0_0_h : a0_0.length = a0_0_n) (a0_0_R : Rd w0 F a0_0_A (ii a0_0)) (a0_1_h : a0_1.length = a0_1_n) (a0_1_R : Rd w0 F a0_1_A (ii a0_1)) (a0_2_h : a0_2.length = a0_2_n) (a0_2_R : Rd w0 F a0_2_A (ii a0_2)) (h : laws_toHeap.f K a0_0 a0_1 a0_2 = some (r1, r2, r3)) :
    Calls Try.prog 36 (List.toArray [.agg (List.toArray [.slice a0_0_A a0_0_n a0_0_c, .slice a0_1_A a0_1_n a0_1_c, .slice a0_2_A a0_2_n a0_2_c])]) w fun e w' => ∃ x : (Sl r1.length) × (Sl r2.length) × (Sl r3.length), e = .returned (.agg (List.toArray [.slice x.1.A x.1.n x.1.c, .slice x.2.1.A x.2.1.n x.2.1.c, .slice x.2.2.A x.2.2.n x.2.2.c])) ∧ Mem w0 (.row x.1.A x.1.c 3 1 (ii r1) :: .row x.2.1.A x.2.1.c 3 1 (ii r2) :: .row x.2.2.A x.2.2.c 3 1 (ii r3) :: F) w' := by
  unfold laws_toHeap.f at h
  refine calls_of_J (n := 17) Try.func36 rfl rfl rfl hm ?_
  refine j_seq ?_
  refine j_region ?_
  refine r_do (a_box rfl rfl) rfl rfl (fun x1 => ?_)
  refine r_do (a_alloc zr46 rfl) rfl rfl (fun x2 => ?_)
  refine j_rs (.box x2 46 [(.slice none 0 0), (.slice none 0 0), (.slice none 0 0)] :: .box x1 41 [(.slice a0_0_A a0_0_n a0_0_c), (.slice a0_1_A a0_1_n a0_1_c), (.slice a0_2_A a0_2_n a0_2_c)] :: F) (fun _ h => h) ?_
  refine r_nil ?_
  refine j_then ?_
  refine j_seq ?_
  refine j_region ?_
  refine r_do (a_alloc zr46 rfl) rfl rfl (fun x3 => ?_)
  refine j_rs (.box x3 46 [(.slice none 0 0), (.slice none 0 0), (.slice none 0 0)] :: .box x2 46 [(.slice none 0 0), (.slice none 0 0), (.slice none 0 0)] :: .box x1 41 [(.slice a0_0_A a0_0_n a0_0_c), (.slice a0_1_A a0_1_n a0_1_c), (.slice a0_2_A a0_2_n a0_2_c)] :: F) (fun _ h => h) ?_
  refine r_nil ?_
  refine j_then ?_
  refine j_seq ?_
  refine j_region ?_
  refine r_q (q_fieldAddr fi41_0 sz32 rfl rfl rfl) rfl rfl ?_
  refine r_q (q_loadb 2 rfl ag32 rfl rfl rfl) rfl rfl ?_
  obtain ⟨v1, hb1, h⟩ := of_b1 h
  refine r_do (a_call ok72 rfl rfl rfl rfl (fun w hm => laws_toIntS.calls K a0_0 a0_0_A a0_0_n a0_0_c hm a0_0_h (Rd.drop 3 a0_0_R) hb1)) rfl rfl (fun x4 => ?_)
  refine r_q (q_fieldAddr fi46_0 sz32 rfl rfl rfl) rfl rfl ?_
  refine r_do (a_storeb 1 rfl sz32 rfl rfl rfl rfl (Nat.le_of_ble_eq_true rfl) rfl) rfl rfl (fun _ => ?_)
  refine j_rs (.row x4.A x4.c 3 1 (ii v1) :: .box x3 46 [(.slice x4.A x4.n x4.c), (.slice none 0 0), (.slice none 0 0)] :: .box x2 46 [(.slice none 0 0), (.slice none 0 0), (.slice none 0 0)] :: .box x1 41 [(.slice a0_0_A a0_0_n a0_0_c), (.slice a0_1_A a0_1_n a0_1_c), (.slice a0_2_A a0_2_n a0_2_c)] :: F) (fun _ h => h) ?_
  refine r_nil ?_
  refine j_then ?_
  refine j_seq ?_
  refine j_region ?_
  refine r_q (q_fieldAddr fi41_1 sz32 rfl rfl rfl) rfl rfl ?_
  refine r_q (q_loadb 3 rfl ag32 rfl rfl rfl) rfl rfl ?_
  obtain ⟨v2, hb2, h⟩ := of_b1 h
  refine r_do (a_call ok72 rfl rfl rfl rfl (fun w hm => laws_toIntS.calls K a0_1 a0_1_A a0_1_n a0_1_c hm a0_1_h (Rd.drop 4 a0_1_R) hb2)) rfl rfl (fun x5 => ?_)
  refine r_q (q_fieldAddr fi46_1 sz32 rfl rfl rfl) rfl rfl ?_
  refine r_do (a_storeb 2 rfl sz32 rfl rfl rfl rfl (Nat.le_of_ble_eq_true rfl) rfl) rfl rfl (fun _ => ?_)
  refine j_rs (.row x5.A x5.c 3 1 (ii v2) :: .row x4.A x4.c 3 1 (ii v1) :: .box x3 46 [(.slice x4.A x4.n x4.c), (.slice x5.A x5.n x5.c), (.slice none 0 0)] :: .box x2 46 [(.slice none 0 0), (.slice none 0 0), (.slice none 0 0)] :: .box x1 41 [(.slice a0_0_A a0_0_n a0_0_c), (.slice a0_1_A a0_1_n a0_1_c), (.slice a0_2_A a0_2_n a0_2_c)] :: F) (fun _ h => h) ?_
  refine r_nil ?_
  refine j_then ?_
  refine j_seq ?_
  refine j_region ?_
  refine r_q (q_fieldAddr fi41_2 sz32 rfl rfl rfl) rfl rfl ?_
  refine r_q (q_loadb 4 rfl ag32 rfl rfl rfl) rfl rfl ?_
  obtain ⟨v3, hb3, h⟩ := of_b1 h
  refine r_do (a_call ok72 rfl rfl rfl rfl (fun w hm => laws_toIntS.calls K a0_2 a0_2_A a0_2_n a0_2_c hm a0_2_h (Rd.drop 5 a0_2_R) hb3)) rfl rfl (fun x6 => ?_)
  refine r_q (q_fieldAddr fi46_2 sz32 rfl rfl rfl) rfl rfl ?_
  refine r_do (a_storeb 3 rfl sz32 rfl rfl rfl rfl (Nat.le_of_ble_eq_true rfl) rfl) rfl rfl (fun _ => ?_)
  refine j_rs (.row x6.A x6.c 3 1 (ii v3) :: .row x5.A x5.c 3 1 (ii v2) :: .row x4.A x4.c 3 1 (ii v1) :: .box x3 46 [(.slice x4.A x4.n x4.c), (.slice x5.A x5.n x5.c), (.slice x6.A x6.n x6.c)] :: .box x2 46 [(.slice none 0 0), (.slice none 0 0), (.slice none 0 0)] :: .box x1 41 [(.slice a0_0_A a0_0_n a0_0_c), (.slice a0_1_A a0_1_n a0_1_c), (.slice a0_2_A a0_2_n a0_2_c)] :: F) (fun _ h => h) ?_
  refine r_nil ?_
  refine j_then ?_
  refine j_seq ?_
  refine j_region ?_
  refine r_q (q_loadb_agg 3 rfl ag46 sz46 rfl rfl rfl rfl) rfl rfl ?_
  refine r_do (a_storeb 4 rfl sz46 rfl rfl rfl rfl (Nat.le_of_ble_eq_true rfl) rfl) rfl rfl (fun _ => ?_)
  refine j_rs (.row x6.A x6.c 3 1 (ii v3) :: .row x5.A x5.c 3 1 (ii v2) :: .row x4.A x4.c 3 1 (ii v1) :: .box x3 46 [(.slice x4.A x4.n x4.c), (.slice x5.A x5.n x5.c), (.slice x6.A x6.n x6.c)] :: .box x2 46 [(.slice x4.A x4.n x4.c), (.slice x5.A x5.n x5.c), (.slice x6.A x6.n x6.c)] :: .box x1 41 [(.slice a0_0_A a0_0_n a0_0_c), (.slice a0_1_A a0_1_n a0_1_c), (.slice a0_2_A a0_2_n a0_2_c)] :: F) (fun _ h => h) ?_
  refine r_nil ?_
  refine j_then ?_
  refine j_ret ?_
  cases h
  exact j_return rfl (ResOf.cell 4 rfl rfl ag46 sz46 ResOf.nil) rfl (fun w h => ⟨(⟨x4.A, x4.n, x4.c, x4.h⟩, ⟨x5.A, x5.n, x5.c, x5.h⟩, ⟨x6.A, x6.n, x6.c, x6.h⟩), rfl, h.pick 6 [2, 1, 0] rfl⟩)

end Go.Proofs.Ytjcbalhdppmdmaa.F
