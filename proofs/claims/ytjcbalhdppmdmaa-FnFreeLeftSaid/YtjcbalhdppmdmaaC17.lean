/- The program computes these pure functions, printed by the generator of wip/gen. -/
import Derived.Test.YtjcbalhdppmdmaaFa
import Derived.Test.YtjcbalhdppmdmaaFb
namespace Go.Proofs.Ytjcbalhdppmdmaa.F
open Go Go.RowKit Go.Proofs.Ytjcbalhdppmdmaa.S
set_option linter.unusedVariables false
set_option maxRecDepth 100000
theorem slices_Clone_int.calls (K : Nat) (a0 : List Int) (a0_A : Option Addr) (a0_n a0_c : Nat) {w0 w : World} {F : List Res} {r1 : List Int} (hm : Mem w0 (F) w) (a0_h : a0.length = a0_n) (a0_R : Rd w0 F a0_A (ii a0)) (h : slices_Clone_int.f K a0 = some r1) :
    Calls Try.prog 103 (List.toArray [.slice a0_A a0_n a0_c]) w fun e w' => ∃ x : (Sl r1.length), e = .returned (.slice x.A x.n x.c) ∧ Mem w0 (.row x.A x.c 3 1 (ii r1) :: F) w' := by
  unfold slices_Clone_int.f at h
  refine calls_of_J (n := 8) Try.func103 rfl rfl rfl hm ?_
  refine j_seq ?_
  refine j_region ?_
  refine r_q (q_assign rfl rfl) rfl rfl ?_
  refine r_nil ?_
  refine j_then ?_
  refine j_seq ?_
  refine j_seq ?_
  refine j_region ?_
  refine r_q (q_move rfl rfl) rfl rfl ?_
  refine r_q (q_isnil un32 rfl rfl rfl) rfl rfl ?_
  refine r_nil ?_
  refine j_then ?_
  rcases ghost_nil hm a0_R with ⟨c1, rfl⟩ | c1
  · obtain ⟨_, h⟩ := of_guard h
    refine j_true rfl c1 ?_
    refine j_seq ?_
    refine j_region ?_
    refine r_q (q_assign rfl rfl) rfl rfl ?_
    refine r_nil ?_
    refine j_then ?_
    refine j_ret ?_
    refine j_then_ret ?_
    refine j_nil 3 1 ?_
    cases h
    exact j_return rfl (ResOf.tmp rfl ResOf.nil) rfl (fun w h => ⟨⟨none, 0, 0, rfl⟩, rfl, h⟩)
  · refine j_false rfl c1 ?_
    refine j_skip ?_
    refine j_then ?_
    refine j_seq ?_
    refine j_region ?_
    refine r_do (a_litX (vs := []) (ii ([] : List Int)) un32 sz3 zr3 rfl rfl rfl rfl rfl rfl rfl rfl rfl) rfl rfl (fun x1 => ?_)
    refine r_q (q_move rfl rfl) rfl rfl ?_
    obtain ⟨c2, h⟩ := of_guard h
    refine r_do (a_appI (xs := ([] : List Int)) (ys := a0) 0 un32 un32 sz3 by3 zr3 rfl rfl rfl rfl rfl rfl rfl rfl rfl rfl a0_h (Rd.drop 1 a0_R) c2) rfl rfl (fun x2 => ?_)
    refine j_s0 ?_
    refine r_q (q_assign rfl rfl) rfl rfl ?_
    refine r_nil ?_
    refine j_then ?_
    refine j_ret ?_
    cases h
    exact j_return rfl (ResOf.tmp rfl ResOf.nil) rfl (fun w h => ⟨⟨x2.1, (0 + a0_n), x2.2, (app_len rfl a0_h)⟩, rfl, h⟩)

theorem impl_copied.calls (K : Nat) (a0_0 : List Int) (a0_0_A : Option Addr) (a0_0_n a0_0_c : Nat) (a0_1 : List Int) (a0_1_A : Option Addr) (a0_1_n a0_1_c : Nat) (a0_2 : List Int) (a0_2_A : Option Addr) (a0_2_n a0_2_c : Nat) {w0 w : World} {F : List Res} {r1 : List Int} {r2 : List Int} {r3 : List Int} (hm : Mem w0 (F) w) (a0_0_h : a0_0.length = a0_0_n) (a0_0_R : Rd w0 F a0_0_A (ii a0_0)) (a0_1_h : a0_1.length = a0_1_n) (a0_1_R : Rd w0 F a0_1_A (ii a0_1)) (a0_2_h : a0_2.length = a0_2_n) (a0_2_R : Rd w0 F a0_2_A (ii a0_2)) (h : impl_copied.f K a0_0 a0_1 a0_2 = some (r1, r2, r3)) :
    Calls Try.prog 91 (List.toArray [.agg (List.toArray [.slice a0_0_A a0_0_n a0_0_c, .slice a0_1_A a0_1_n a0_1_c, .slice a0_2_A a0_2_n a0_2_c])]) w fun e w' => ∃ x : (Sl r1.length) × (Sl r2.length) × (Sl r3.length), e = .returned (.agg (List.toArray [.slice x.1.A x.1.n x.1.c, .slice x.2.1.A x.2.1.n x.2.1.c, .slice x.2.2.A x.2.2.n x.2.2.c])) ∧ Mem w0 (.row x.1.A x.1.c 3 1 (ii r1) :: .row x.2.1.A x.2.1.c 3 1 (ii r2) :: .row x.2.2.A x.2.2.c 3 1 (ii r3) :: F) w' := by
  unfold impl_copied.f at h
  refine calls_of_J (n := 13) Try.func91 rfl rfl rfl hm ?_
  refine j_seq ?_
  refine j_region ?_
  refine r_do (a_box rfl rfl) rfl rfl (fun x1 => ?_)
  refine r_do (a_alloc zr46 rfl) rfl rfl (fun x2 => ?_)
  refine r_nil ?_
  refine j_then ?_
  refine j_seq ?_
  obtain ⟨v1, hb1, h⟩ := of_b1 h
  obtain ⟨v2, hb2, h⟩ := of_b1 h
  obtain ⟨v3, hb3, h⟩ := of_b1 h
  refine j_draw (.box x1 46 [(.slice a0_0_A a0_0_n a0_0_c), (.slice a0_1_A a0_1_n a0_1_c), (.slice a0_2_A a0_2_n a0_2_c)] :: F) 11 follows_any rfl ?_
  refine d_take 0 rfl (q_fieldAddr fi46_0 sz32 rfl rfl rfl) rfl rfl (by kernel_rfl) (by kernel_rfl) (by kernel_rfl) (fun w h => h.tail) ?_
  refine d_take 1 rfl (q_loadb 0 rfl ag32 rfl rfl rfl) rfl rfl (by kernel_rfl) (by kernel_rfl) (by kernel_rfl) (fun w h => h.tail) ?_
  refine d_take 3 rfl (q_fieldAddr fi46_1 sz32 rfl rfl rfl) rfl rfl (by kernel_rfl) (by kernel_rfl) (by kernel_rfl) (fun w h => h.tail) ?_
  refine d_take 4 rfl (q_loadb 0 rfl ag32 rfl rfl rfl) rfl rfl (by kernel_rfl) (by kernel_rfl) (by kernel_rfl) (fun w h => h.tail) ?_
  refine d_take 6 rfl (q_fieldAddr fi46_2 sz32 rfl rfl rfl) rfl rfl (by kernel_rfl) (by kernel_rfl) (by kernel_rfl) (fun w h => h.tail) ?_
  refine d_take 7 rfl (q_loadb 0 rfl ag32 rfl rfl rfl) rfl rfl (by kernel_rfl) (by kernel_rfl) (by kernel_rfl) (fun w h => h.tail) ?_
  refine d_one 2 (by kernel_rfl) ?_
  refine o_do rfl (a_call ok103 rfl rfl rfl rfl (fun w hm => slices_Clone_int.calls K a0_0 a0_0_A a0_0_n a0_0_c hm a0_0_h (Rd.drop 2 a0_0_R) hb1)) rfl rfl (fun x3 w h => (h.drop 2)) (fun x3 => ?_)
  refine d_one 5 (by kernel_rfl) ?_
  refine o_do rfl (a_call ok103 rfl rfl rfl rfl (fun w hm => slices_Clone_int.calls K a0_1 a0_1_A a0_1_n a0_1_c hm a0_1_h (Rd.drop 3 a0_1_R) hb2)) rfl rfl (fun x4 w h => (h.drop 3)) (fun x4 => ?_)
  refine d_one 8 (by kernel_rfl) ?_
  refine o_do rfl (a_call ok103 rfl rfl rfl rfl (fun w hm => slices_Clone_int.calls K a0_2 a0_2_A a0_2_n a0_2_c hm a0_2_h (Rd.drop 4 a0_2_R) hb3)) rfl rfl (fun x5 w h => (h.drop 4)) (fun x5 => ?_)
  refine d_take 9 rfl (q_build (cs := [(.slice x3.A x3.n x3.c), (.slice x4.A x4.n x4.c), (.slice x5.A x5.n x5.c)]) zr46 pl46 rfl rfl rfl rfl) rfl rfl (by kernel_rfl) (by kernel_rfl) (by kernel_rfl) (fun w h => (h.drop 4)) ?_
  refine d_one 10 (by kernel_rfl) ?_
  refine o_do rfl (a_storeb 3 rfl sz46 rfl rfl rfl rfl (Nat.le_of_ble_eq_true rfl) rfl) rfl rfl (fun _ w h => (h.drop 4)) (fun _ => ?_)
  refine j_b3 [(.slice x3.A x3.n x3.c), (.slice x4.A x4.n x4.c), (.slice x5.A x5.n x5.c)] rfl ?_
  refine d_done (by kernel_rfl) ?_
  refine j_then ?_
  refine j_ret ?_
  cases h
  exact j_return rfl (ResOf.cell 3 rfl rfl ag46 sz46 ResOf.nil) rfl (fun w h => ⟨(⟨x3.A, x3.n, x3.c, x3.h⟩, ⟨x4.A, x4.n, x4.c, x4.h⟩, ⟨x5.A, x5.n, x5.c, x5.h⟩), rfl, h.pick 5 [2, 1, 0] rfl⟩)

end Go.Proofs.Ytjcbalhdppmdmaa.F
