/- The program computes these pure functions, printed by the generator of wip/gen. -/
import Derived.Test.YtigidjhdcplplaaFa
import Derived.Test.YtigidjhdcplplaaFb
namespace Go.Proofs.Ytigidjhdcplplaa.F
open Go Go.RowKit Go.Proofs.Ytigidjhdcplplaa.S
set_option linter.unusedVariables false
set_option maxRecDepth 100000
theorem laws_toOp.calls (K : Nat) (a0_0 : Int) (a0_1 : Int) (a0_2 : Int) {w0 w : World} {F : List Res} {r1 : Int} {r2 : Int} {r3 : Int} (hm : Mem w0 (F) w)  (h : laws_toOp.f K a0_0 a0_1 a0_2 = some (r1, r2, r3)) :
    Calls Try.prog 47 (List.toArray [.agg (List.toArray [i6 a0_0, i6 a0_1, i6 a0_2])]) w fun e w' => ∃ x : Unit, e = .returned (.agg (List.toArray [i6 r1, i6 r2, i6 r3])) ∧ Mem w0 (F) w' := by
  unfold laws_toOp.f at h
  refine calls_of_J (n := 14) Try.func47 rfl rfl rfl hm ?_
  refine j_seq ?_
  refine j_region ?_
  refine r_do (a_box rfl rfl) rfl rfl (fun x1 => ?_)
  refine r_do (a_alloc zr57 rfl) rfl rfl (fun x2 => ?_)
  refine r_nil ?_
  refine j_then ?_
  refine j_seq ?_
  refine j_region ?_
  refine r_do (a_alloc zr57 rfl) rfl rfl (fun x3 => ?_)
  refine r_nil ?_
  refine j_then ?_
  refine j_seq ?_
  refine j_region ?_
  refine r_q (q_fieldAddr fi62_0 sz3 rfl rfl rfl) rfl rfl ?_
  refine r_q (q_loadb 2 rfl ag3 rfl rfl rfl) rfl rfl ?_
  refine r_q (q_fieldAddr fi57_0 sz3 rfl rfl rfl) rfl rfl ?_
  refine r_do (a_storeb 0 rfl sz3 rfl rfl rfl rfl (Nat.le_of_ble_eq_true rfl) rfl) rfl rfl (fun _ => ?_)
  refine j_b0 [(i6 a0_0), (i6 (0:Int)), (i6 (0:Int))] rfl ?_
  refine r_nil ?_
  refine j_then ?_
  refine j_seq ?_
  refine j_region ?_
  refine r_q (q_fieldAddr fi62_1 sz3 rfl rfl rfl) rfl rfl ?_
  refine r_q (q_loadb 2 rfl ag3 rfl rfl rfl) rfl rfl ?_
  refine r_q (q_fieldAddr fi57_1 sz3 rfl rfl rfl) rfl rfl ?_
  refine r_do (a_storeb 0 rfl sz3 rfl rfl rfl rfl (Nat.le_of_ble_eq_true rfl) rfl) rfl rfl (fun _ => ?_)
  refine j_b0 [(i6 a0_0), (i6 a0_1), (i6 (0:Int))] rfl ?_
  refine r_nil ?_
  refine j_then ?_
  refine j_seq ?_
  refine j_region ?_
  refine r_q (q_fieldAddr fi62_2 sz3 rfl rfl rfl) rfl rfl ?_
  refine r_q (q_loadb 2 rfl ag3 rfl rfl rfl) rfl rfl ?_
  refine r_q (q_fieldAddr fi57_2 sz3 rfl rfl rfl) rfl rfl ?_
  refine r_do (a_storeb 0 rfl sz3 rfl rfl rfl rfl (Nat.le_of_ble_eq_true rfl) rfl) rfl rfl (fun _ => ?_)
  refine j_b0 [(i6 a0_0), (i6 a0_1), (i6 a0_2)] rfl ?_
  refine r_nil ?_
  refine j_then ?_
  refine j_seq ?_
  refine j_region ?_
  refine r_q (q_loadb_agg 0 rfl ag57 sz57 rfl rfl rfl rfl) rfl rfl ?_
  refine r_do (a_storeb 1 rfl sz57 rfl rfl rfl rfl (Nat.le_of_ble_eq_true rfl) rfl) rfl rfl (fun _ => ?_)
  refine j_b1 [(i6 a0_0), (i6 a0_1), (i6 a0_2)] rfl ?_
  refine r_nil ?_
  refine j_then ?_
  refine j_ret ?_
  cases h
  exact j_return rfl (ResOf.cell 1 rfl rfl ag57 sz57 ResOf.nil) rfl (fun w h => ⟨(), rfl, (h.drop 3)⟩)

end Go.Proofs.Ytigidjhdcplplaa.F
