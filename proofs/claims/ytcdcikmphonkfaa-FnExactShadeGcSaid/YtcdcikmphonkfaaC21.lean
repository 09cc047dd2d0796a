/- The program computes these pure functions, printed by the generator of wip/gen. -/
import Derived.Test.YtcdcikmphonkfaaFi
import Derived.Test.YtcdcikmphonkfaaFb
namespace Go.Proofs.Ytcdcikmphonkfaa.F
open Go Go.RowKit Go.Proofs.Ytcdcikmphonkfaa.S
set_option linter.unusedVariables false
set_option maxRecDepth 100000
theorem spec_l6Copy.calls (K : Nat) (a0_0 : Int) (a0_1 : List Int) (a0_1_A : Option Addr) (a0_1_n a0_1_c : Nat) (a0_2 : Int) {w0 w : World} {F : List Res} {r1 : Int} {r2 : List Int} {r3 : Int} (hm : Mem w0 (F) w) (a0_1_h : a0_1.length = a0_1_n) (a0_1_R : Rd w0 F a0_1_A (ii a0_1)) (h : spec_l6Copy.f K a0_0 a0_1 a0_2 = some (r1, r2, r3)) :
    Calls Try.prog 81 (List.toArray [.agg (List.toArray [i6 a0_0, .slice a0_1_A a0_1_n a0_1_c, i6 a0_2])]) w fun e w' => ∃ x : (Sl r2.length), e = .returned (.agg (List.toArray [i6 r1, .slice x.A x.n x.c, i6 r3])) ∧ Mem w0 (.row x.A x.c 3 1 (ii r2) :: F) w' := by
  unfold spec_l6Copy.f at h
  refine calls_of_J (n := 12) Try.func81 rfl rfl rfl hm ?_
  refine j_seq ?_
  refine j_region ?_
  refine r_do (a_box rfl rfl) rfl rfl (fun x1 => ?_)
  refine r_do (a_alloc zr53 rfl) rfl rfl (fun x2 => ?_)
  refine r_nil ?_
  refine j_then ?_
  refine j_seq ?_
  obtain ⟨c1, h⟩ := of_guard h
  refine j_draw (.box x1 53 [(i6 a0_0), (.slice a0_1_A a0_1_n a0_1_c), (i6 a0_2)] :: F) 10 follows_any rfl ?_
  refine d_take 0 rfl (q_fieldAddr fi53_0 sz3 rfl rfl rfl) rfl rfl (by kernel_rfl) (by kernel_rfl) (by kernel_rfl) (fun w h => h.tail) ?_
  refine d_take 1 rfl (q_loadb 0 rfl ag3 rfl rfl rfl) rfl rfl (by kernel_rfl) (by kernel_rfl) (by kernel_rfl) (fun w h => h.tail) ?_
  refine d_take 3 rfl (q_fieldAddr fi53_1 sz23 rfl rfl rfl) rfl rfl (by kernel_rfl) (by kernel_rfl) (by kernel_rfl) (fun w h => h.tail) ?_
  refine d_take 4 rfl (q_loadb 0 rfl ag23 rfl rfl rfl) rfl rfl (by kernel_rfl) (by kernel_rfl) (by kernel_rfl) (fun w h => h.tail) ?_
  refine d_take 6 rfl (q_fieldAddr fi53_2 sz3 rfl rfl rfl) rfl rfl (by kernel_rfl) (by kernel_rfl) (by kernel_rfl) (fun w h => h.tail) ?_
  refine d_take 7 rfl (q_loadb 0 rfl ag3 rfl rfl rfl) rfl rfl (by kernel_rfl) (by kernel_rfl) (by kernel_rfl) (fun w h => h.tail) ?_
  refine d_one 2 (by kernel_rfl) ?_
  refine o_do rfl (a_litX (vs := []) (ii ([] : List Int)) un23 sz3 zr3 rfl rfl rfl rfl rfl rfl rfl rfl rfl) rfl rfl (fun x3 w h => (h.drop 2)) (fun x3 => ?_)
  refine d_one 5 (by kernel_rfl) ?_
  refine o_do rfl (a_appI (xs := ([] : List Int)) (ys := a0_1) 0 un23 un23 sz3 by3 zr3 rfl rfl rfl rfl rfl rfl rfl rfl rfl rfl a0_1_h (Rd.drop 3 a0_1_R) c1) rfl rfl (fun x4 w h => (h.drop 2)) (fun x4 => ?_)
  refine j_s0 ?_
  refine d_take 8 rfl (q_build (cs := [(i6 a0_0), (.slice x4.1 (0 + a0_1_n) x4.2), (i6 a0_2)]) zr53 pl53 rfl rfl rfl rfl) rfl rfl (by kernel_rfl) (by kernel_rfl) (by kernel_rfl) (fun w h => (h.drop 2)) ?_
  refine d_one 9 (by kernel_rfl) ?_
  refine o_do rfl (a_storeb 1 rfl sz53 rfl rfl rfl rfl (Nat.le_of_ble_eq_true rfl) rfl) rfl rfl (fun _ w h => (h.drop 2)) (fun _ => ?_)
  refine j_b1 [(i6 a0_0), (.slice x4.1 (0 + a0_1_n) x4.2), (i6 a0_2)] rfl ?_
  refine d_done (by kernel_rfl) ?_
  refine j_then ?_
  refine j_ret ?_
  cases h
  exact j_return rfl (ResOf.cell 1 rfl rfl ag53 sz53 ResOf.nil) rfl (fun w h => ⟨⟨x4.1, (0 + a0_1_n), x4.2, (app_len rfl a0_1_h)⟩, rfl, h.pick 3 [0] rfl⟩)

end Go.Proofs.Ytcdcikmphonkfaa.F
