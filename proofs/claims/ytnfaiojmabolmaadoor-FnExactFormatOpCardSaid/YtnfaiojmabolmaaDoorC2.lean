/- The program computes these pure functions, printed by the generator of wip/gen. -/
import Derived.Test.YtnfaiojmabolmaaDoorFa
import Derived.Test.YtnfaiojmabolmaaDoorFl
import Derived.Test.YtnfaiojmabolmaaDoorFb
import Derived.Test.YtnfaiojmabolmaaDoorC0
namespace Go.Proofs.YtnfaiojmabolmaaDoor.F
open Go Go.RowKit Go.Proofs.YtnfaiojmabolmaaDoor.S
set_option linter.unusedVariables false
set_option maxRecDepth 100000
theorem laws_toOp.calls (K : Nat) (a0_0 : Int) (a0_1 : Int) (a0_2 : Int) {w0 w : World} {F : List Res} {r1 : Int} {r2 : Int} {r3 : Int} (hm : Mem w0 (F) w)  (h : laws_toOp.f K a0_0 a0_1 a0_2 = some (r1, r2, r3)) :
    Calls Tryd.prog 11 (List.toArray [.agg (List.toArray [i6 a0_0, i6 a0_1, i6 a0_2])]) w fun e w' => ∃ x : Unit, e = .returned (.agg (List.toArray [i6 r1, i6 r2, i6 r3])) ∧ Mem w0 (F) w' := by
  unfold laws_toOp.f at h
  refine calls_of_J (n := 14) Tryd.func11 rfl rfl rfl hm ?_
  refine j_seq ?_
  refine j_region ?_
  refine r_do (a_box rfl rfl) rfl rfl (fun x1 => ?_)
  refine r_do (a_alloc zr25 rfl) rfl rfl (fun x2 => ?_)
  refine r_nil ?_
  refine j_then ?_
  refine j_seq ?_
  refine j_region ?_
  refine r_do (a_alloc zr25 rfl) rfl rfl (fun x3 => ?_)
  refine r_nil ?_
  refine j_then ?_
  refine j_seq ?_
  refine j_region ?_
  refine r_q (q_fieldAddr fi23_0 sz3 rfl rfl rfl) rfl rfl ?_
  refine r_q (q_loadb 2 rfl ag3 rfl rfl rfl) rfl rfl ?_
  refine r_q (q_fieldAddr fi25_0 sz3 rfl rfl rfl) rfl rfl ?_
  refine r_do (a_storeb 0 rfl sz3 rfl rfl rfl rfl (Nat.le_of_ble_eq_true rfl) rfl) rfl rfl (fun _ => ?_)
  refine j_b0 [(i6 a0_0), (i6 (0:Int)), (i6 (0:Int))] rfl ?_
  refine r_nil ?_
  refine j_then ?_
  refine j_seq ?_
  refine j_region ?_
  refine r_q (q_fieldAddr fi23_1 sz3 rfl rfl rfl) rfl rfl ?_
  refine r_q (q_loadb 2 rfl ag3 rfl rfl rfl) rfl rfl ?_
  refine r_q (q_fieldAddr fi25_1 sz3 rfl rfl rfl) rfl rfl ?_
  refine r_do (a_storeb 0 rfl sz3 rfl rfl rfl rfl (Nat.le_of_ble_eq_true rfl) rfl) rfl rfl (fun _ => ?_)
  refine j_b0 [(i6 a0_0), (i6 a0_1), (i6 (0:Int))] rfl ?_
  refine r_nil ?_
  refine j_then ?_
  refine j_seq ?_
  refine j_region ?_
  refine r_q (q_fieldAddr fi23_2 sz3 rfl rfl rfl) rfl rfl ?_
  refine r_q (q_loadb 2 rfl ag3 rfl rfl rfl) rfl rfl ?_
  refine r_q (q_fieldAddr fi25_2 sz3 rfl rfl rfl) rfl rfl ?_
  refine r_do (a_storeb 0 rfl sz3 rfl rfl rfl rfl (Nat.le_of_ble_eq_true rfl) rfl) rfl rfl (fun _ => ?_)
  refine j_b0 [(i6 a0_0), (i6 a0_1), (i6 a0_2)] rfl ?_
  refine r_nil ?_
  refine j_then ?_
  refine j_seq ?_
  refine j_region ?_
  refine r_q (q_loadb_agg 0 rfl ag25 sz25 rfl rfl rfl rfl) rfl rfl ?_
  refine r_do (a_storeb 1 rfl sz25 rfl rfl rfl rfl (Nat.le_of_ble_eq_true rfl) rfl) rfl rfl (fun _ => ?_)
  refine j_b1 [(i6 a0_0), (i6 a0_1), (i6 a0_2)] rfl ?_
  refine r_nil ?_
  refine j_then ?_
  refine j_ret ?_
  cases h
  exact j_return rfl (ResOf.cell 1 rfl rfl ag25 sz25 ResOf.nil) rfl (fun w h => ⟨(), rfl, (h.drop 3)⟩)

theorem laws_FnExactFormatOp.calls (K : Nat) (a0_0 : Int) (a0_1 : Int) (a0_2 : Int) {w0 w : World} {F : List Res} {r1 : Bool} (hm : Mem w0 (F) w) (gT : Rd w0 F (gA 0) (strs opTab)) (h : laws_FnExactFormatOp.f K a0_0 a0_1 a0_2 = some r1) :
    Calls Tryd.prog 3 (List.toArray [.agg (List.toArray [i6 a0_0, i6 a0_1, i6 a0_2])]) w fun e w' => ∃ x : Unit, e = .returned (.bool r1) ∧ Mem w0 (F) w' := by
  unfold laws_FnExactFormatOp.f at h
  refine calls_of_J (n := 14) Tryd.func3 rfl rfl rfl hm ?_
  refine j_seq ?_
  refine j_region ?_
  refine r_do (a_box rfl rfl) rfl rfl (fun x1 => ?_)
  refine r_q (q_assign rfl rfl) rfl rfl ?_
  refine r_nil ?_
  refine j_then ?_
  refine j_seq ?_
  refine j_region ?_
  refine r_q (q_loadb_agg 0 rfl ag23 sz23 rfl rfl rfl rfl) rfl rfl ?_
  obtain ⟨v1, v2, v3, hb1, h⟩ := of_b3 h
  refine r_do (a_call ok11 rfl rfl rfl rfl (fun w hm => laws_toOp.calls K a0_0 a0_1 a0_2 hm hb1)) rfl rfl (fun x2 => ?_)
  obtain ⟨v4, hb2, h⟩ := of_b1 h
  refine r_do (a_call ok10 rfl rfl rfl rfl (fun w hm => spec_FormatOp.calls K v1 v2 v3 hm hb2)) rfl rfl (fun x3 => ?_)
  refine r_q (q_assign rfl rfl) rfl rfl ?_
  refine r_nil ?_
  refine j_then ?_
  refine j_seq ?_
  refine j_region ?_
  refine r_q (q_loadb_agg 0 rfl ag23 sz23 rfl rfl rfl rfl) rfl rfl ?_
  obtain ⟨v5, v6, v7, hb3, h⟩ := of_b3 h
  refine r_do (a_call ok11 rfl rfl rfl rfl (fun w hm => laws_toOp.calls K a0_0 a0_1 a0_2 hm hb3)) rfl rfl (fun x4 => ?_)
  obtain ⟨v8, hb4, h⟩ := of_b1 h
  refine r_do (a_call ok12 rfl rfl rfl rfl (fun w hm => impl_FormatOp.calls K v5 v6 v7 hm (Rd.drop 1 gT) hb4)) rfl rfl (fun x5 => ?_)
  refine r_q (q_assign rfl rfl) rfl rfl ?_
  refine r_nil ?_
  refine j_then ?_
  refine j_seq ?_
  refine j_seq ?_
  refine j_region ?_
  refine r_q (q_move rfl rfl) rfl rfl ?_
  refine r_q (q_move rfl rfl) rfl rfl ?_
  refine r_q (q_sneq rfl rfl rfl) rfl rfl ?_
  refine r_nil ?_
  refine j_then ?_
  rcases of_if h with ⟨c1, h⟩ | ⟨c1, h⟩
  · refine j_false rfl (not_f (beq_t c1)) ?_
    refine j_skip ?_
    refine j_then ?_
    refine j_seq ?_
    refine j_region ?_
    refine r_q (q_assign rfl rfl) rfl rfl ?_
    refine r_nil ?_
    refine j_then ?_
    refine j_ret ?_
    cases h
    exact j_return rfl (ResOf.tmp rfl ResOf.nil) rfl (fun w h => ⟨(), rfl, h.tail⟩)
  · refine j_true rfl (not_t (beq_f c1)) ?_
    refine j_seq ?_
    refine j_region ?_
    refine r_q (q_assign rfl rfl) rfl rfl ?_
    refine r_nil ?_
    refine j_then ?_
    refine j_ret ?_
    refine j_then_ret ?_
    cases h
    exact j_return rfl (ResOf.tmp rfl ResOf.nil) rfl (fun w h => ⟨(), rfl, h.tail⟩)

end Go.Proofs.YtnfaiojmabolmaaDoor.F
