/- The program computes these pure functions, printed by the generator of wip/gen. -/
import Derived.Test.YtnfaiojmabolmaaDoorFa
import Derived.Test.YtnfaiojmabolmaaDoorFj
import Derived.Test.YtnfaiojmabolmaaDoorFl
import Derived.Test.YtnfaiojmabolmaaDoorFb
import Derived.Test.YtnfaiojmabolmaaDoorC0
import Derived.Test.YtnfaiojmabolmaaDoorC1
namespace Go.Proofs.YtnfaiojmabolmaaDoor.F
open Go Go.RowKit Go.Proofs.YtnfaiojmabolmaaDoor.S
set_option linter.unusedVariables false
set_option maxRecDepth 100000
theorem laws_eqOp.calls (K : Nat) (a0_0 : Int) (a0_1 : Int) (a0_2 : Int) (a1_0 : Int) (a1_1 : Int) (a1_2 : Int) {w0 w : World} {F : List Res} {r1 : Bool} (hm : Mem w0 (F) w)  (h : laws_eqOp.f K a0_0 a0_1 a0_2 a1_0 a1_1 a1_2 = some r1) :
    Calls Tryd.prog 25 (List.toArray [.agg (List.toArray [i6 a0_0, i6 a0_1, i6 a0_2]), .agg (List.toArray [i6 a1_0, i6 a1_1, i6 a1_2])]) w fun e w' => ∃ x : Unit, e = .returned (.bool r1) ∧ Mem w0 (F) w' := by
  unfold laws_eqOp.f at h
  refine calls_of_J (n := 20) Tryd.func25 rfl rfl rfl hm ?_
  refine j_seq ?_
  refine j_region ?_
  refine r_do (a_box rfl rfl) rfl rfl (fun x1 => ?_)
  refine r_do (a_box rfl rfl) rfl rfl (fun x2 => ?_)
  refine r_q (q_assign rfl rfl) rfl rfl ?_
  refine r_nil ?_
  refine j_then ?_
  refine j_seq ?_
  refine j_seq ?_
  refine j_region ?_
  refine r_q (q_fieldAddr fi25_0 sz3 rfl rfl rfl) rfl rfl ?_
  refine r_q (q_loadb 1 rfl ag3 rfl rfl rfl) rfl rfl ?_
  refine r_q (q_fieldAddr fi25_0 sz3 rfl rfl rfl) rfl rfl ?_
  refine r_q (q_loadb 0 rfl ag3 rfl rfl rfl) rfl rfl ?_
  refine r_q (q_neq rfl rfl rfl) rfl rfl ?_
  refine r_nil ?_
  refine j_then ?_
  rcases of_if h with ⟨c1, h⟩ | ⟨c1, h⟩
  · refine j_false rfl (bne_f c1) ?_
    refine j_skip ?_
    refine j_then ?_
    refine j_seq ?_
    refine j_seq ?_
    refine j_region ?_
    refine r_q (q_fieldAddr fi25_1 sz3 rfl rfl rfl) rfl rfl ?_
    refine r_q (q_loadb 1 rfl ag3 rfl rfl rfl) rfl rfl ?_
    refine r_q (q_fieldAddr fi25_1 sz3 rfl rfl rfl) rfl rfl ?_
    refine r_q (q_loadb 0 rfl ag3 rfl rfl rfl) rfl rfl ?_
    refine r_q (q_neq rfl rfl rfl) rfl rfl ?_
    refine r_nil ?_
    refine j_then ?_
    rcases of_if h with ⟨c2, h⟩ | ⟨c2, h⟩
    · refine j_false rfl (bne_f c2) ?_
      refine j_skip ?_
      refine j_then ?_
      refine j_seq ?_
      refine j_seq ?_
      refine j_region ?_
      refine r_q (q_fieldAddr fi25_2 sz3 rfl rfl rfl) rfl rfl ?_
      refine r_q (q_loadb 1 rfl ag3 rfl rfl rfl) rfl rfl ?_
      refine r_q (q_fieldAddr fi25_2 sz3 rfl rfl rfl) rfl rfl ?_
      refine r_q (q_loadb 0 rfl ag3 rfl rfl rfl) rfl rfl ?_
      refine r_q (q_neq rfl rfl rfl) rfl rfl ?_
      refine r_nil ?_
      refine j_then ?_
      rcases of_if h with ⟨c3, h⟩ | ⟨c3, h⟩
      · refine j_false rfl (bne_f c3) ?_
        refine j_skip ?_
        refine j_then ?_
        refine j_seq ?_
        refine j_region ?_
        refine r_q (q_assign rfl rfl) rfl rfl ?_
        refine r_nil ?_
        refine j_then ?_
        refine j_ret ?_
        cases h
        exact j_return rfl (ResOf.tmp rfl ResOf.nil) rfl (fun w h => ⟨(), rfl, (h.drop 2)⟩)
      · refine j_true rfl (bne_t c3) ?_
        refine j_seq ?_
        refine j_region ?_
        refine r_q (q_assign rfl rfl) rfl rfl ?_
        refine r_nil ?_
        refine j_then ?_
        refine j_ret ?_
        refine j_then_ret ?_
        cases h
        exact j_return rfl (ResOf.tmp rfl ResOf.nil) rfl (fun w h => ⟨(), rfl, (h.drop 2)⟩)
    · refine j_true rfl (bne_t c2) ?_
      refine j_seq ?_
      refine j_region ?_
      refine r_q (q_assign rfl rfl) rfl rfl ?_
      refine r_nil ?_
      refine j_then ?_
      refine j_ret ?_
      refine j_then_ret ?_
      cases h
      exact j_return rfl (ResOf.tmp rfl ResOf.nil) rfl (fun w h => ⟨(), rfl, (h.drop 2)⟩)
  · refine j_true rfl (bne_t c1) ?_
    refine j_seq ?_
    refine j_region ?_
    refine r_q (q_assign rfl rfl) rfl rfl ?_
    refine r_nil ?_
    refine j_then ?_
    refine j_ret ?_
    refine j_then_ret ?_
    cases h
    exact j_return rfl (ResOf.tmp rfl ResOf.nil) rfl (fun w h => ⟨(), rfl, (h.drop 2)⟩)

theorem laws_FnExactParseOp.calls (K : Nat) (a0 : ByteArray) {w0 w : World} {F : List Res} {r1 : Bool} (hm : Mem w0 (F) w) (gT : Rd w0 F (gA 0) (strs opTab)) (h : laws_FnExactParseOp.f K a0 = some r1) :
    Calls Tryd.prog 6 (List.toArray [.string a0]) w fun e w' => ∃ x : Unit, e = .returned (.bool r1) ∧ Mem w0 (F) w' := by
  unfold laws_FnExactParseOp.f at h
  refine calls_of_J (n := 29) Tryd.func6 rfl rfl rfl hm ?_
  refine j_seq ?_
  refine j_region ?_
  refine r_q (q_assign rfl rfl) rfl rfl ?_
  refine r_nil ?_
  refine j_then ?_
  refine j_seq ?_
  refine j_seq ?_
  refine j_region ?_
  refine r_q (q_move rfl rfl) rfl rfl ?_
  refine r_q (q_len_str rfl rfl rfl rfl un9 rfl) rfl rfl ?_
  refine r_q (q_gtr rfl rfl rfl) rfl rfl ?_
  refine r_nil ?_
  refine j_then ?_
  rcases of_if h with ⟨c1, h⟩ | ⟨c1, h⟩
  · refine j_true rfl (decide_eq_true c1) ?_
    refine j_seq ?_
    refine j_region ?_
    refine r_q (q_assign rfl rfl) rfl rfl ?_
    refine r_nil ?_
    refine j_then ?_
    refine j_ret ?_
    refine j_then_ret ?_
    cases h
    exact j_return rfl (ResOf.tmp rfl ResOf.nil) rfl (fun w h => ⟨(), rfl, h⟩)
  · refine j_false rfl (decide_eq_false c1) ?_
    refine j_skip ?_
    refine j_then ?_
    refine j_seq ?_
    refine j_region ?_
    refine r_q (q_move rfl rfl) rfl rfl ?_
    obtain ⟨v1, v2, v3, v4, hb1, h⟩ := of_b4 h
    refine r_do (a_call ok23 rfl rfl rfl rfl (fun w hm => spec_ParseOp.calls K a0 hm hb1)) rfl rfl (fun x1 => ?_)
    refine r_q (q_move rfl rfl) rfl rfl ?_
    refine r_q (q_extract rfl rfl rfl) rfl rfl ?_
    refine r_q (q_extract rfl rfl rfl) rfl rfl ?_
    refine r_do (a_alloc zr25 rfl) rfl rfl (fun x2 => ?_)
    refine r_do (a_storeb 0 rfl sz25 rfl rfl rfl rfl (Nat.le_of_ble_eq_true rfl) rfl) rfl rfl (fun _ => ?_)
    refine j_b0 [(i6 v1), (i6 v2), (i6 v3)] rfl ?_
    refine r_q (q_assign rfl rfl) rfl rfl ?_
    refine r_nil ?_
    refine j_then ?_
    refine j_seq ?_
    refine j_region ?_
    refine r_q (q_move rfl rfl) rfl rfl ?_
    obtain ⟨v5, v6, v7, v8, hb2, h⟩ := of_b4 h
    refine r_do (a_call ok24 rfl rfl rfl rfl (fun w hm => impl_ParseOp.calls K a0 hm (Rd.drop 1 gT) hb2)) rfl rfl (fun x3 => ?_)
    refine r_q (q_move rfl rfl) rfl rfl ?_
    refine r_q (q_extract rfl rfl rfl) rfl rfl ?_
    refine r_q (q_extract rfl rfl rfl) rfl rfl ?_
    refine r_do (a_alloc zr25 rfl) rfl rfl (fun x4 => ?_)
    refine r_do (a_storeb 0 rfl sz25 rfl rfl rfl rfl (Nat.le_of_ble_eq_true rfl) rfl) rfl rfl (fun _ => ?_)
    refine j_b0 [(i6 v5), (i6 v6), (i6 v7)] rfl ?_
    refine r_q (q_assign rfl rfl) rfl rfl ?_
    refine r_nil ?_
    refine j_then ?_
    refine j_seq ?_
    refine j_seq ?_
    refine j_region ?_
    refine r_q (q_loadb_agg 0 rfl ag25 sz25 rfl rfl rfl rfl) rfl rfl ?_
    refine r_q (q_loadb_agg 1 rfl ag25 sz25 rfl rfl rfl rfl) rfl rfl ?_
    obtain ⟨v9, hb3, h⟩ := of_b1 h
    refine r_do (a_call ok25 rfl rfl rfl rfl (fun w hm => laws_eqOp.calls K v5 v6 v7 v1 v2 v3 hm hb3)) rfl rfl (fun x5 => ?_)
    refine r_q (q_not rfl rfl) rfl rfl ?_
    refine r_q (q_move rfl rfl) rfl rfl ?_
    rcases of_if h with ⟨c2, h⟩ | ⟨c2, h⟩
    · refine r_qon (q_move rfl rfl) rfl rfl rfl rfl (not_f c2) rfl ?_
      refine r_qon (q_move rfl rfl) rfl rfl rfl rfl (not_f c2) rfl ?_
      refine r_qon (q_bneq un4 rfl rfl rfl) rfl rfl rfl rfl (not_f c2) rfl ?_
      refine r_q (q_pick_f rfl rfl (not_f c2) rfl) rfl rfl ?_
      refine r_nil ?_
      refine j_then ?_
      rcases of_if h with ⟨c3, h⟩ | ⟨c3, h⟩
      · refine j_false rfl (bne_f c3) ?_
        refine j_skip ?_
        refine j_then ?_
        refine j_seq ?_
        refine j_region ?_
        refine r_q (q_assign rfl rfl) rfl rfl ?_
        refine r_nil ?_
        refine j_then ?_
        refine j_ret ?_
        cases h
        exact j_return rfl (ResOf.tmp rfl ResOf.nil) rfl (fun w h => ⟨(), rfl, (h.drop 2)⟩)
      · refine j_true rfl (bne_t c3) ?_
        refine j_seq ?_
        refine j_region ?_
        refine r_q (q_assign rfl rfl) rfl rfl ?_
        refine r_nil ?_
        refine j_then ?_
        refine j_ret ?_
        refine j_then_ret ?_
        cases h
        exact j_return rfl (ResOf.tmp rfl ResOf.nil) rfl (fun w h => ⟨(), rfl, (h.drop 2)⟩)
    · refine r_off rfl rfl rfl rfl (not_t (var_f c2)) rfl ?_
      refine r_off rfl rfl rfl rfl (not_t (var_f c2)) rfl ?_
      refine r_off rfl rfl rfl rfl (not_t (var_f c2)) rfl ?_
      refine r_q (q_pick_t rfl rfl (not_t (var_f c2)) rfl) rfl rfl ?_
      refine r_nil ?_
      refine j_then ?_
      refine j_true rfl rfl ?_
      refine j_seq ?_
      refine j_region ?_
      refine r_q (q_assign rfl rfl) rfl rfl ?_
      refine r_nil ?_
      refine j_then ?_
      refine j_ret ?_
      refine j_then_ret ?_
      cases h
      exact j_return rfl (ResOf.tmp rfl ResOf.nil) rfl (fun w h => ⟨(), rfl, (h.drop 2)⟩)

end Go.Proofs.YtnfaiojmabolmaaDoor.F
