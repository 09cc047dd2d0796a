/- The program computes these pure functions, printed by the generator of wip/gen. -/
import Derived.Test.YtgganabcfloioaaFa
import Derived.Test.YtgganabcfloioaaFb
import Derived.Test.YtgganabcfloioaaC1
namespace Go.Proofs.Ytgganabcfloioaa.F
open Go Go.RowKit Go.Proofs.Ytgganabcfloioaa.S
set_option linter.unusedVariables false
set_option maxRecDepth 100000
theorem impl_HeapSame.calls (K : Nat) (a0_0 : List Int) (a0_0_A : Option Addr) (a0_0_n a0_0_c : Nat) (a0_1 : List Int) (a0_1_A : Option Addr) (a0_1_n a0_1_c : Nat) (a0_2 : List Int) (a0_2_A : Option Addr) (a0_2_n a0_2_c : Nat) (a1_0 : List Int) (a1_0_A : Option Addr) (a1_0_n a1_0_c : Nat) (a1_1 : List Int) (a1_1_A : Option Addr) (a1_1_n a1_1_c : Nat) (a1_2 : List Int) (a1_2_A : Option Addr) (a1_2_n a1_2_c : Nat) {w0 w : World} {F : List Res} {r1 : Bool} (hm : Mem w0 (F) w) (a0_0_h : a0_0.length = a0_0_n) (a0_0_R : Rd w0 F a0_0_A (ii a0_0)) (a0_1_h : a0_1.length = a0_1_n) (a0_1_R : Rd w0 F a0_1_A (ii a0_1)) (a0_2_h : a0_2.length = a0_2_n) (a0_2_R : Rd w0 F a0_2_A (ii a0_2)) (a1_0_h : a1_0.length = a1_0_n) (a1_0_R : Rd w0 F a1_0_A (ii a1_0)) (a1_1_h : a1_1.length = a1_1_n) (a1_1_R : Rd w0 F a1_1_A (ii a1_1)) (a1_2_h : a1_2.length = a1_2_n) (a1_2_R : Rd w0 F a1_2_A (ii a1_2)) (h : impl_HeapSame.f K a0_0 a0_1 a0_2 a1_0 a1_1 a1_2 = some r1) :
    Calls Try.prog 27 (List.toArray [.agg (List.toArray [.slice a0_0_A a0_0_n a0_0_c, .slice a0_1_A a0_1_n a0_1_c, .slice a0_2_A a0_2_n a0_2_c]), .agg (List.toArray [.slice a1_0_A a1_0_n a1_0_c, .slice a1_1_A a1_1_n a1_1_c, .slice a1_2_A a1_2_n a1_2_c])]) w fun e w' => ∃ x : Unit, e = .returned (.bool r1) ∧ Mem w0 (F) w' := by
  unfold impl_HeapSame.f at h
  refine calls_of_J (n := 24) Try.func27 rfl rfl rfl hm ?_
  refine j_seq ?_
  refine j_region ?_
  refine r_do (a_box rfl rfl) rfl rfl (fun x1 => ?_)
  refine r_do (a_box rfl rfl) rfl rfl (fun x2 => ?_)
  refine r_q (q_assign rfl rfl) rfl rfl ?_
  refine r_nil ?_
  refine j_then ?_
  refine j_seq ?_
  refine j_region ?_
  refine r_q (q_fieldAddr fi25_0 sz23 rfl rfl rfl) rfl rfl ?_
  refine r_q (q_loadb 1 rfl ag23 rfl rfl rfl) rfl rfl ?_
  refine r_q (q_fieldAddr fi25_0 sz23 rfl rfl rfl) rfl rfl ?_
  refine r_q (q_loadb 0 rfl ag23 rfl rfl rfl) rfl rfl ?_
  obtain ⟨v1, hb1, h⟩ := of_b1 h
  refine r_do (a_call ok54 rfl rfl rfl rfl (fun w hm => slices_Equal_int.calls K a0_0 a0_0_A a0_0_n a0_0_c a1_0 a1_0_A a1_0_n a1_0_c hm a0_0_h (Rd.drop 2 a0_0_R) a1_0_h (Rd.drop 2 a1_0_R) hb1)) rfl rfl (fun x3 => ?_)
  refine r_q (q_move rfl rfl) rfl rfl ?_
  rcases of_if h with ⟨c1, h⟩ | ⟨c1, h⟩
  · refine r_qon (q_fieldAddr fi25_1 sz23 rfl rfl rfl) rfl rfl rfl rfl c1 rfl ?_
    refine r_qon (q_loadb 1 rfl ag23 rfl rfl rfl) rfl rfl rfl rfl c1 rfl ?_
    refine r_qon (q_fieldAddr fi25_1 sz23 rfl rfl rfl) rfl rfl rfl rfl c1 rfl ?_
    refine r_qon (q_loadb 0 rfl ag23 rfl rfl rfl) rfl rfl rfl rfl c1 rfl ?_
    obtain ⟨v2, hb2, h⟩ := of_b1 h
    refine r_on (a_call ok54 rfl rfl rfl rfl (fun w hm => slices_Equal_int.calls K a0_1 a0_1_A a0_1_n a0_1_c a1_1 a1_1_A a1_1_n a1_1_c hm a0_1_h (Rd.drop 2 a0_1_R) a1_1_h (Rd.drop 2 a1_1_R) hb2)) rfl rfl rfl rfl c1 rfl (fun x4 => ?_)
    refine r_q (q_pick_t rfl rfl c1 rfl) rfl rfl ?_
    refine r_q (q_move rfl rfl) rfl rfl ?_
    rcases of_if h with ⟨c2, h⟩ | ⟨c2, h⟩
    · refine r_qon (q_fieldAddr fi25_2 sz23 rfl rfl rfl) rfl rfl rfl rfl c2 rfl ?_
      refine r_qon (q_loadb 1 rfl ag23 rfl rfl rfl) rfl rfl rfl rfl c2 rfl ?_
      refine r_qon (q_fieldAddr fi25_2 sz23 rfl rfl rfl) rfl rfl rfl rfl c2 rfl ?_
      refine r_qon (q_loadb 0 rfl ag23 rfl rfl rfl) rfl rfl rfl rfl c2 rfl ?_
      obtain ⟨v3, hb3, h⟩ := of_b1 h
      refine r_on (a_call ok54 rfl rfl rfl rfl (fun w hm => slices_Equal_int.calls K a0_2 a0_2_A a0_2_n a0_2_c a1_2 a1_2_A a1_2_n a1_2_c hm a0_2_h (Rd.drop 2 a0_2_R) a1_2_h (Rd.drop 2 a1_2_R) hb3)) rfl rfl rfl rfl c2 rfl (fun x5 => ?_)
      refine r_q (q_pick_t rfl rfl c2 rfl) rfl rfl ?_
      refine r_q (q_assign rfl rfl) rfl rfl ?_
      refine r_nil ?_
      refine j_then ?_
      refine j_ret ?_
      cases h
      exact j_return rfl (ResOf.tmp rfl ResOf.nil) rfl (fun w h => ⟨(), rfl, (h.drop 2)⟩)
    · refine r_off rfl rfl rfl rfl (var_f c2) rfl ?_
      refine r_off rfl rfl rfl rfl (var_f c2) rfl ?_
      refine r_off rfl rfl rfl rfl (var_f c2) rfl ?_
      refine r_off rfl rfl rfl rfl (var_f c2) rfl ?_
      refine r_off rfl rfl rfl rfl (var_f c2) rfl ?_
      refine r_q (q_pick_f rfl rfl (var_f c2) rfl) rfl rfl ?_
      refine r_q (q_assign rfl rfl) rfl rfl ?_
      refine r_nil ?_
      refine j_then ?_
      refine j_ret ?_
      cases h
      exact j_return rfl (ResOf.tmp rfl ResOf.nil) rfl (fun w h => ⟨(), rfl, (h.drop 2)⟩)
  · refine r_off rfl rfl rfl rfl (var_f c1) rfl ?_
    refine r_off rfl rfl rfl rfl (var_f c1) rfl ?_
    refine r_off rfl rfl rfl rfl (var_f c1) rfl ?_
    refine r_off rfl rfl rfl rfl (var_f c1) rfl ?_
    refine r_off rfl rfl rfl rfl (var_f c1) rfl ?_
    refine r_q (q_pick_f rfl rfl (var_f c1) rfl) rfl rfl ?_
    refine r_q (q_move rfl rfl) rfl rfl ?_
    refine r_off rfl rfl rfl rfl rfl rfl ?_
    refine r_off rfl rfl rfl rfl rfl rfl ?_
    refine r_off rfl rfl rfl rfl rfl rfl ?_
    refine r_off rfl rfl rfl rfl rfl rfl ?_
    refine r_off rfl rfl rfl rfl rfl rfl ?_
    refine r_q (q_pick_f rfl rfl rfl rfl) rfl rfl ?_
    refine r_q (q_assign rfl rfl) rfl rfl ?_
    refine r_nil ?_
    refine j_then ?_
    refine j_ret ?_
    cases h
    exact j_return rfl (ResOf.tmp rfl ResOf.nil) rfl (fun w h => ⟨(), rfl, (h.drop 2)⟩)

theorem impl_StoreSame.calls (K : Nat) (a0_0 : List Int) (a0_0_A : Option Addr) (a0_0_n a0_0_c : Nat) (a0_1 : List Int) (a0_1_A : Option Addr) (a0_1_n a0_1_c : Nat) (a0_2 : List Int) (a0_2_A : Option Addr) (a0_2_n a0_2_c : Nat) (a0_3 : List Int) (a0_3_A : Option Addr) (a0_3_n a0_3_c : Nat) (a1_0 : List Int) (a1_0_A : Option Addr) (a1_0_n a1_0_c : Nat) (a1_1 : List Int) (a1_1_A : Option Addr) (a1_1_n a1_1_c : Nat) (a1_2 : List Int) (a1_2_A : Option Addr) (a1_2_n a1_2_c : Nat) (a1_3 : List Int) (a1_3_A : Option Addr) (a1_3_n a1_3_c : Nat) {w0 w : World} {F : List Res} {r1 : Bool} (hm : Mem w0 (F) w) (a0_0_h : a0_0.length = a0_0_n) (a0_0_R : Rd w0 F a0_0_A (ii a0_0)) (a0_1_h : a0_1.length = a0_1_n) (a0_1_R : Rd w0 F a0_1_A (ii a0_1)) (a0_2_h : a0_2.length = a0_2_n) (a0_2_R : Rd w0 F a0_2_A (ii a0_2)) (a0_3_h : a0_3.length = a0_3_n) (a0_3_R : Rd w0 F a0_3_A (ii a0_3)) (a1_0_h : a1_0.length = a1_0_n) (a1_0_R : Rd w0 F a1_0_A (ii a1_0)) (a1_1_h : a1_1.length = a1_1_n) (a1_1_R : Rd w0 F a1_1_A (ii a1_1)) (a1_2_h : a1_2.length = a1_2_n) (a1_2_R : Rd w0 F a1_2_A (ii a1_2)) (a1_3_h : a1_3.length = a1_3_n) (a1_3_R : Rd w0 F a1_3_A (ii a1_3)) (h : impl_StoreSame.f K a0_0 a0_1 a0_2 a0_3 a1_0 a1_1 a1_2 a1_3 = some r1) :
    Calls Try.prog 36 (List.toArray [.agg (List.toArray [.slice a0_0_A a0_0_n a0_0_c, .slice a0_1_A a0_1_n a0_1_c, .slice a0_2_A a0_2_n a0_2_c, .slice a0_3_A a0_3_n a0_3_c]), .agg (List.toArray [.slice a1_0_A a1_0_n a1_0_c, .slice a1_1_A a1_1_n a1_1_c, .slice a1_2_A a1_2_n a1_2_c, .slice a1_3_A a1_3_n a1_3_c])]) w fun e w' => ∃ x : Unit, e = .returned (.bool r1) ∧ Mem w0 (F) w' := by
  unfold impl_StoreSame.f at h
  refine calls_of_J (n := 17) Try.func36 rfl rfl rfl hm ?_
  refine j_seq ?_
  refine j_region ?_
  refine r_do (a_box rfl rfl) rfl rfl (fun x1 => ?_)
  refine r_do (a_box rfl rfl) rfl rfl (fun x2 => ?_)
  refine r_q (q_assign rfl rfl) rfl rfl ?_
  refine r_nil ?_
  refine j_then ?_
  refine j_seq ?_
  refine j_region ?_
  refine r_q (q_fieldAddr fi27_0 sz25 rfl rfl rfl) rfl rfl ?_
  refine r_q (q_loadb_agg 1 rfl ag25 sz25 rfl rfl rfl rfl) rfl rfl ?_
  refine r_q (q_fieldAddr fi27_0 sz25 rfl rfl rfl) rfl rfl ?_
  refine r_q (q_loadb_agg 0 rfl ag25 sz25 rfl rfl rfl rfl) rfl rfl ?_
  obtain ⟨v1, hb1, h⟩ := of_b1 h
  refine r_do (a_call ok27 rfl rfl rfl rfl (fun w hm => impl_HeapSame.calls K a0_0 a0_0_A a0_0_n a0_0_c a0_1 a0_1_A a0_1_n a0_1_c a0_2 a0_2_A a0_2_n a0_2_c a1_0 a1_0_A a1_0_n a1_0_c a1_1 a1_1_A a1_1_n a1_1_c a1_2 a1_2_A a1_2_n a1_2_c hm a0_0_h (Rd.drop 2 a0_0_R) a0_1_h (Rd.drop 2 a0_1_R) a0_2_h (Rd.drop 2 a0_2_R) a1_0_h (Rd.drop 2 a1_0_R) a1_1_h (Rd.drop 2 a1_1_R) a1_2_h (Rd.drop 2 a1_2_R) hb1)) rfl rfl (fun x3 => ?_)
  refine r_q (q_move rfl rfl) rfl rfl ?_
  rcases of_if h with ⟨c1, h⟩ | ⟨c1, h⟩
  · refine r_qon (q_fieldAddr fi27_1 sz23 rfl rfl rfl) rfl rfl rfl rfl c1 rfl ?_
    refine r_qon (q_loadb 1 rfl ag23 rfl rfl rfl) rfl rfl rfl rfl c1 rfl ?_
    refine r_qon (q_fieldAddr fi27_1 sz23 rfl rfl rfl) rfl rfl rfl rfl c1 rfl ?_
    refine r_qon (q_loadb 0 rfl ag23 rfl rfl rfl) rfl rfl rfl rfl c1 rfl ?_
    obtain ⟨v2, hb2, h⟩ := of_b1 h
    refine r_on (a_call ok54 rfl rfl rfl rfl (fun w hm => slices_Equal_int.calls K a0_3 a0_3_A a0_3_n a0_3_c a1_3 a1_3_A a1_3_n a1_3_c hm a0_3_h (Rd.drop 2 a0_3_R) a1_3_h (Rd.drop 2 a1_3_R) hb2)) rfl rfl rfl rfl c1 rfl (fun x4 => ?_)
    refine r_q (q_pick_t rfl rfl c1 rfl) rfl rfl ?_
    refine r_q (q_assign rfl rfl) rfl rfl ?_
    refine r_nil ?_
    refine j_then ?_
    refine j_ret ?_
    cases h
    exact j_return rfl (ResOf.tmp rfl ResOf.nil) rfl (fun w h => ⟨(), rfl, (h.drop 2)⟩)
  · refine r_off rfl rfl rfl rfl (var_f c1) rfl ?_
    refine r_off rfl rfl rfl rfl (var_f c1) rfl ?_
    refine r_off rfl rfl rfl rfl (var_f c1) rfl ?_
    refine r_off rfl rfl rfl rfl (var_f c1) rfl ?_
    refine r_off rfl rfl rfl rfl (var_f c1) rfl ?_
    refine r_q (q_pick_f rfl rfl (var_f c1) rfl) rfl rfl ?_
    refine r_q (q_assign rfl rfl) rfl rfl ?_
    refine r_nil ?_
    refine j_then ?_
    refine j_ret ?_
    cases h
    exact j_return rfl (ResOf.tmp rfl ResOf.nil) rfl (fun w h => ⟨(), rfl, (h.drop 2)⟩)

theorem impl_CountedSame.calls (K : Nat) (a0_0 : List Int) (a0_0_A : Option Addr) (a0_0_n a0_0_c : Nat) (a0_1 : List Int) (a0_1_A : Option Addr) (a0_1_n a0_1_c : Nat) (a0_2 : List Int) (a0_2_A : Option Addr) (a0_2_n a0_2_c : Nat) (a0_3 : List Int) (a0_3_A : Option Addr) (a0_3_n a0_3_c : Nat) (a0_4 : List Int) (a0_4_A : Option Addr) (a0_4_n a0_4_c : Nat) (a1_0 : List Int) (a1_0_A : Option Addr) (a1_0_n a1_0_c : Nat) (a1_1 : List Int) (a1_1_A : Option Addr) (a1_1_n a1_1_c : Nat) (a1_2 : List Int) (a1_2_A : Option Addr) (a1_2_n a1_2_c : Nat) (a1_3 : List Int) (a1_3_A : Option Addr) (a1_3_n a1_3_c : Nat) (a1_4 : List Int) (a1_4_A : Option Addr) (a1_4_n a1_4_c : Nat) {w0 w : World} {F : List Res} {r1 : Bool} (hm : Mem w0 (F) w) (a0_0_h : a0_0.length = a0_0_n) (a0_0_R : Rd w0 F a0_0_A (ii a0_0)) (a0_1_h : a0_1.length = a0_1_n) (a0_1_R : Rd w0 F a0_1_A (ii a0_1)) (a0_2_h : a0_2.length = a0_2_n) (a0_2_R : Rd w0 F a0_2_A (ii a0_2)) (a0_3_h : a0_3.length = a0_3_n) (a0_3_R : Rd w0 F a0_3_A (ii a0_3)) (a0_4_h : a0_4.length = a0_4_n) (a0_4_R : Rd w0 F a0_4_A (ii a0_4)) (a1_0_h : a1_0.length = a1_0_n) (a1_0_R : Rd w0 F a1_0_A (ii a1_0)) (a1_1_h : a1_1.length = a1_1_n) (a1_1_R : Rd w0 F a1_1_A (ii a1_1)) (a1_2_h : a1_2.length = a1_2_n) (a1_2_R : Rd w0 F a1_2_A (ii a1_2)) (a1_3_h : a1_3.length = a1_3_n) (a1_3_R : Rd w0 F a1_3_A (ii a1_3)) (a1_4_h : a1_4.length = a1_4_n) (a1_4_R : Rd w0 F a1_4_A (ii a1_4)) (h : impl_CountedSame.f K a0_0 a0_1 a0_2 a0_3 a0_4 a1_0 a1_1 a1_2 a1_3 a1_4 = some r1) :
    Calls Try.prog 18 (List.toArray [.agg (List.toArray [.slice a0_0_A a0_0_n a0_0_c, .slice a0_1_A a0_1_n a0_1_c, .slice a0_2_A a0_2_n a0_2_c, .slice a0_3_A a0_3_n a0_3_c, .slice a0_4_A a0_4_n a0_4_c]), .agg (List.toArray [.slice a1_0_A a1_0_n a1_0_c, .slice a1_1_A a1_1_n a1_1_c, .slice a1_2_A a1_2_n a1_2_c, .slice a1_3_A a1_3_n a1_3_c, .slice a1_4_A a1_4_n a1_4_c])]) w fun e w' => ∃ x : Unit, e = .returned (.bool r1) ∧ Mem w0 (F) w' := by
  unfold impl_CountedSame.f at h
  refine calls_of_J (n := 17) Try.func18 rfl rfl rfl hm ?_
  refine j_seq ?_
  refine j_region ?_
  refine r_do (a_box rfl rfl) rfl rfl (fun x1 => ?_)
  refine r_do (a_box rfl rfl) rfl rfl (fun x2 => ?_)
  refine r_q (q_assign rfl rfl) rfl rfl ?_
  refine r_nil ?_
  refine j_then ?_
  refine j_seq ?_
  refine j_region ?_
  refine r_q (q_fieldAddr fi29_0 sz27 rfl rfl rfl) rfl rfl ?_
  refine r_q (q_loadb_agg 1 rfl ag27 sz27 rfl rfl rfl rfl) rfl rfl ?_
  refine r_q (q_fieldAddr fi29_0 sz27 rfl rfl rfl) rfl rfl ?_
  refine r_q (q_loadb_agg 0 rfl ag27 sz27 rfl rfl rfl rfl) rfl rfl ?_
  obtain ⟨v1, hb1, h⟩ := of_b1 h
  refine r_do (a_call ok36 rfl rfl rfl rfl (fun w hm => impl_StoreSame.calls K a0_0 a0_0_A a0_0_n a0_0_c a0_1 a0_1_A a0_1_n a0_1_c a0_2 a0_2_A a0_2_n a0_2_c a0_3 a0_3_A a0_3_n a0_3_c a1_0 a1_0_A a1_0_n a1_0_c a1_1 a1_1_A a1_1_n a1_1_c a1_2 a1_2_A a1_2_n a1_2_c a1_3 a1_3_A a1_3_n a1_3_c hm a0_0_h (Rd.drop 2 a0_0_R) a0_1_h (Rd.drop 2 a0_1_R) a0_2_h (Rd.drop 2 a0_2_R) a0_3_h (Rd.drop 2 a0_3_R) a1_0_h (Rd.drop 2 a1_0_R) a1_1_h (Rd.drop 2 a1_1_R) a1_2_h (Rd.drop 2 a1_2_R) a1_3_h (Rd.drop 2 a1_3_R) hb1)) rfl rfl (fun x3 => ?_)
  refine r_q (q_move rfl rfl) rfl rfl ?_
  rcases of_if h with ⟨c1, h⟩ | ⟨c1, h⟩
  · refine r_qon (q_fieldAddr fi29_1 sz23 rfl rfl rfl) rfl rfl rfl rfl c1 rfl ?_
    refine r_qon (q_loadb 1 rfl ag23 rfl rfl rfl) rfl rfl rfl rfl c1 rfl ?_
    refine r_qon (q_fieldAddr fi29_1 sz23 rfl rfl rfl) rfl rfl rfl rfl c1 rfl ?_
    refine r_qon (q_loadb 0 rfl ag23 rfl rfl rfl) rfl rfl rfl rfl c1 rfl ?_
    obtain ⟨v2, hb2, h⟩ := of_b1 h
    refine r_on (a_call ok54 rfl rfl rfl rfl (fun w hm => slices_Equal_int.calls K a0_4 a0_4_A a0_4_n a0_4_c a1_4 a1_4_A a1_4_n a1_4_c hm a0_4_h (Rd.drop 2 a0_4_R) a1_4_h (Rd.drop 2 a1_4_R) hb2)) rfl rfl rfl rfl c1 rfl (fun x4 => ?_)
    refine r_q (q_pick_t rfl rfl c1 rfl) rfl rfl ?_
    refine r_q (q_assign rfl rfl) rfl rfl ?_
    refine r_nil ?_
    refine j_then ?_
    refine j_ret ?_
    cases h
    exact j_return rfl (ResOf.tmp rfl ResOf.nil) rfl (fun w h => ⟨(), rfl, (h.drop 2)⟩)
  · refine r_off rfl rfl rfl rfl (var_f c1) rfl ?_
    refine r_off rfl rfl rfl rfl (var_f c1) rfl ?_
    refine r_off rfl rfl rfl rfl (var_f c1) rfl ?_
    refine r_off rfl rfl rfl rfl (var_f c1) rfl ?_
    refine r_off rfl rfl rfl rfl (var_f c1) rfl ?_
    refine r_q (q_pick_f rfl rfl (var_f c1) rfl) rfl rfl ?_
    refine r_q (q_assign rfl rfl) rfl rfl ?_
    refine r_nil ?_
    refine j_then ?_
    refine j_ret ?_
    cases h
    exact j_return rfl (ResOf.tmp rfl ResOf.nil) rfl (fun w h => ⟨(), rfl, (h.drop 2)⟩)

end Go.Proofs.Ytgganabcfloioaa.F
