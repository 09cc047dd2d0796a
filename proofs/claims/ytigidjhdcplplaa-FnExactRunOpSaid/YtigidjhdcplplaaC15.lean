/- The program computes these pure functions, printed by the generator of wip/gen. -/
import Derived.Test.YtigidjhdcplplaaFa
import Derived.Test.YtigidjhdcplplaaFb
namespace Go.Proofs.Ytigidjhdcplplaa.F
open Go Go.RowKit Go.Proofs.Ytigidjhdcplplaa.S
set_option linter.unusedVariables false
set_option maxRecDepth 100000
theorem spec_l5One.calls (K : Nat) (a0 : Int) {w0 w : World} {F : List Res} {r1 : Bool} (hm : Mem w0 (F) w)  (h : spec_l5One.f K a0 = some r1) :
    Calls Try.prog 96 (List.toArray [i6 a0]) w fun e w' => ∃ x : Unit, e = .returned (.bool r1) ∧ Mem w0 (F) w' := by
  unfold spec_l5One.f at h
  refine calls_of_J (n := 9) Try.func96 rfl rfl rfl hm ?_
  refine j_seq ?_
  refine j_region ?_
  refine r_q (q_assign rfl rfl) rfl rfl ?_
  refine r_nil ?_
  refine j_then ?_
  refine j_seq ?_
  refine j_region ?_
  refine r_q (q_move rfl rfl) rfl rfl ?_
  refine r_q (q_eql rfl rfl rfl) rfl rfl ?_
  refine r_q (q_move rfl rfl) rfl rfl ?_
  rcases of_if h with ⟨c1, h⟩ | ⟨c1, h⟩
  · refine r_off rfl rfl rfl rfl (beq_t c1) rfl ?_
    refine r_off rfl rfl rfl rfl (beq_t c1) rfl ?_
    refine r_q (q_pick_t rfl rfl (beq_t c1) rfl) rfl rfl ?_
    refine r_q (q_assign rfl rfl) rfl rfl ?_
    refine r_nil ?_
    refine j_then ?_
    refine j_ret ?_
    cases h
    exact j_return rfl (ResOf.tmp rfl ResOf.nil) rfl (fun w h => ⟨(), rfl, h⟩)
  · refine r_qon (q_move rfl rfl) rfl rfl rfl rfl (beq_f c1) rfl ?_
    refine r_qon (q_eql rfl rfl rfl) rfl rfl rfl rfl (beq_f c1) rfl ?_
    refine r_q (q_pick_f rfl rfl (beq_f c1) rfl) rfl rfl ?_
    refine r_q (q_assign rfl rfl) rfl rfl ?_
    refine r_nil ?_
    refine j_then ?_
    refine j_ret ?_
    cases h
    exact j_return rfl (ResOf.tmp rfl ResOf.nil) rfl (fun w h => ⟨(), rfl, h⟩)

theorem impl_OpValid.calls (K : Nat) (a0_0 : Int) (a0_1 : Int) (a0_2 : Int) (a1 : Int) {w0 w : World} {F : List Res} {r1 : Bool} (hm : Mem w0 (F) w)  (h : impl_OpValid.f K a0_0 a0_1 a0_2 a1 = some r1) :
    Calls Try.prog 79 (List.toArray [.agg (List.toArray [i6 a0_0, i6 a0_1, i6 a0_2]), i6 a1]) w fun e w' => ∃ x : Unit, e = .returned (.bool r1) ∧ Mem w0 (F) w' := by
  unfold impl_OpValid.f at h
  refine calls_of_J (n := 54) Try.func79 rfl rfl rfl hm ?_
  refine j_seq ?_
  refine j_region ?_
  refine r_do (a_box rfl rfl) rfl rfl (fun x1 => ?_)
  refine r_q (q_assign rfl rfl) rfl rfl ?_
  refine r_nil ?_
  refine j_then ?_
  refine j_seq ?_
  refine j_seq ?_
  refine j_region ?_
  refine r_q (q_fieldAddr fi57_0 sz3 rfl rfl rfl) rfl rfl ?_
  refine r_q (q_loadb 0 rfl ag3 rfl rfl rfl) rfl rfl ?_
  refine r_q (q_lss rfl rfl rfl) rfl rfl ?_
  refine r_q (q_move rfl rfl) rfl rfl ?_
  rcases of_if h with ⟨c1, h⟩ | ⟨c1, h⟩
  · refine r_off rfl rfl rfl rfl (decide_eq_true c1) rfl ?_
    refine r_off rfl rfl rfl rfl (decide_eq_true c1) rfl ?_
    refine r_off rfl rfl rfl rfl (decide_eq_true c1) rfl ?_
    refine r_q (q_pick_t rfl rfl (decide_eq_true c1) rfl) rfl rfl ?_
    refine r_q (q_move rfl rfl) rfl rfl ?_
    refine r_off rfl rfl rfl rfl rfl rfl ?_
    refine r_off rfl rfl rfl rfl rfl rfl ?_
    refine r_off rfl rfl rfl rfl rfl rfl ?_
    refine r_q (q_pick_t rfl rfl rfl rfl) rfl rfl ?_
    refine r_q (q_move rfl rfl) rfl rfl ?_
    refine r_off rfl rfl rfl rfl rfl rfl ?_
    refine r_off rfl rfl rfl rfl rfl rfl ?_
    refine r_off rfl rfl rfl rfl rfl rfl ?_
    refine r_q (q_pick_t rfl rfl rfl rfl) rfl rfl ?_
    refine r_q (q_move rfl rfl) rfl rfl ?_
    refine r_off rfl rfl rfl rfl rfl rfl ?_
    refine r_off rfl rfl rfl rfl rfl rfl ?_
    refine r_off rfl rfl rfl rfl rfl rfl ?_
    refine r_off rfl rfl rfl rfl rfl rfl ?_
    refine r_q (q_pick_t rfl rfl rfl rfl) rfl rfl ?_
    refine r_q (q_move rfl rfl) rfl rfl ?_
    refine r_off rfl rfl rfl rfl rfl rfl ?_
    refine r_off rfl rfl rfl rfl rfl rfl ?_
    refine r_off rfl rfl rfl rfl rfl rfl ?_
    refine r_q (q_pick_t rfl rfl rfl rfl) rfl rfl ?_
    refine r_q (q_move rfl rfl) rfl rfl ?_
    refine r_off rfl rfl rfl rfl rfl rfl ?_
    refine r_off rfl rfl rfl rfl rfl rfl ?_
    refine r_off rfl rfl rfl rfl rfl rfl ?_
    refine r_q (q_pick_t rfl rfl rfl rfl) rfl rfl ?_
    refine r_nil ?_
    refine j_then ?_
    refine j_true rfl rfl ?_
    refine j_seq ?_
    refine j_region ?_
    refine r_q (q_assign rfl rfl) rfl rfl ?_
    refine r_nil ?_
    refine j_then ?_
    refine j_ret ?_
    refine j_then_ret ?_
    cases h
    exact j_return rfl (ResOf.tmp rfl ResOf.nil) rfl (fun w h => ⟨(), rfl, h.tail⟩)
  · refine r_qon (q_fieldAddr fi57_0 sz3 rfl rfl rfl) rfl rfl rfl rfl (decide_eq_false c1) rfl ?_
    refine r_qon (q_loadb 0 rfl ag3 rfl rfl rfl) rfl rfl rfl rfl (decide_eq_false c1) rfl ?_
    refine r_qon (q_gtr rfl rfl rfl) rfl rfl rfl rfl (decide_eq_false c1) rfl ?_
    refine r_q (q_pick_f rfl rfl (decide_eq_false c1) rfl) rfl rfl ?_
    refine r_q (q_move rfl rfl) rfl rfl ?_
    rcases of_if h with ⟨c2, h⟩ | ⟨c2, h⟩
    · refine r_off rfl rfl rfl rfl (decide_eq_true c2) rfl ?_
      refine r_off rfl rfl rfl rfl (decide_eq_true c2) rfl ?_
      refine r_off rfl rfl rfl rfl (decide_eq_true c2) rfl ?_
      refine r_q (q_pick_t rfl rfl (decide_eq_true c2) rfl) rfl rfl ?_
      refine r_q (q_move rfl rfl) rfl rfl ?_
      refine r_off rfl rfl rfl rfl rfl rfl ?_
      refine r_off rfl rfl rfl rfl rfl rfl ?_
      refine r_off rfl rfl rfl rfl rfl rfl ?_
      refine r_q (q_pick_t rfl rfl rfl rfl) rfl rfl ?_
      refine r_q (q_move rfl rfl) rfl rfl ?_
      refine r_off rfl rfl rfl rfl rfl rfl ?_
      refine r_off rfl rfl rfl rfl rfl rfl ?_
      refine r_off rfl rfl rfl rfl rfl rfl ?_
      refine r_off rfl rfl rfl rfl rfl rfl ?_
      refine r_q (q_pick_t rfl rfl rfl rfl) rfl rfl ?_
      refine r_q (q_move rfl rfl) rfl rfl ?_
      refine r_off rfl rfl rfl rfl rfl rfl ?_
      refine r_off rfl rfl rfl rfl rfl rfl ?_
      refine r_off rfl rfl rfl rfl rfl rfl ?_
      refine r_q (q_pick_t rfl rfl rfl rfl) rfl rfl ?_
      refine r_q (q_move rfl rfl) rfl rfl ?_
      refine r_off rfl rfl rfl rfl rfl rfl ?_
      refine r_off rfl rfl rfl rfl rfl rfl ?_
      refine r_off rfl rfl rfl rfl rfl rfl ?_
      refine r_q (q_pick_t rfl rfl rfl rfl) rfl rfl ?_
      refine r_nil ?_
      refine j_then ?_
      refine j_true rfl rfl ?_
      refine j_seq ?_
      refine j_region ?_
      refine r_q (q_assign rfl rfl) rfl rfl ?_
      refine r_nil ?_
      refine j_then ?_
      refine j_ret ?_
      refine j_then_ret ?_
      cases h
      exact j_return rfl (ResOf.tmp rfl ResOf.nil) rfl (fun w h => ⟨(), rfl, h.tail⟩)
    · refine r_qon (q_fieldAddr fi57_1 sz3 rfl rfl rfl) rfl rfl rfl rfl (decide_eq_false c2) rfl ?_
      refine r_qon (q_loadb 0 rfl ag3 rfl rfl rfl) rfl rfl rfl rfl (decide_eq_false c2) rfl ?_
      refine r_qon (q_lss rfl rfl rfl) rfl rfl rfl rfl (decide_eq_false c2) rfl ?_
      refine r_q (q_pick_f rfl rfl (decide_eq_false c2) rfl) rfl rfl ?_
      refine r_q (q_move rfl rfl) rfl rfl ?_
      rcases of_if h with ⟨c3, h⟩ | ⟨c3, h⟩
      · refine r_off rfl rfl rfl rfl (decide_eq_true c3) rfl ?_
        refine r_off rfl rfl rfl rfl (decide_eq_true c3) rfl ?_
        refine r_off rfl rfl rfl rfl (decide_eq_true c3) rfl ?_
        refine r_q (q_pick_t rfl rfl (decide_eq_true c3) rfl) rfl rfl ?_
        refine r_q (q_move rfl rfl) rfl rfl ?_
        refine r_off rfl rfl rfl rfl rfl rfl ?_
        refine r_off rfl rfl rfl rfl rfl rfl ?_
        refine r_off rfl rfl rfl rfl rfl rfl ?_
        refine r_off rfl rfl rfl rfl rfl rfl ?_
        refine r_q (q_pick_t rfl rfl rfl rfl) rfl rfl ?_
        refine r_q (q_move rfl rfl) rfl rfl ?_
        refine r_off rfl rfl rfl rfl rfl rfl ?_
        refine r_off rfl rfl rfl rfl rfl rfl ?_
        refine r_off rfl rfl rfl rfl rfl rfl ?_
        refine r_q (q_pick_t rfl rfl rfl rfl) rfl rfl ?_
        refine r_q (q_move rfl rfl) rfl rfl ?_
        refine r_off rfl rfl rfl rfl rfl rfl ?_
        refine r_off rfl rfl rfl rfl rfl rfl ?_
        refine r_off rfl rfl rfl rfl rfl rfl ?_
        refine r_q (q_pick_t rfl rfl rfl rfl) rfl rfl ?_
        refine r_nil ?_
        refine j_then ?_
        refine j_true rfl rfl ?_
        refine j_seq ?_
        refine j_region ?_
        refine r_q (q_assign rfl rfl) rfl rfl ?_
        refine r_nil ?_
        refine j_then ?_
        refine j_ret ?_
        refine j_then_ret ?_
        cases h
        exact j_return rfl (ResOf.tmp rfl ResOf.nil) rfl (fun w h => ⟨(), rfl, h.tail⟩)
      · refine r_qon (q_fieldAddr fi57_1 sz3 rfl rfl rfl) rfl rfl rfl rfl (decide_eq_false c3) rfl ?_
        refine r_qon (q_loadb 0 rfl ag3 rfl rfl rfl) rfl rfl rfl rfl (decide_eq_false c3) rfl ?_
        refine r_qon (q_geq rfl rfl rfl) rfl rfl rfl rfl (decide_eq_false c3) rfl ?_
        refine r_q (q_pick_f rfl rfl (decide_eq_false c3) rfl) rfl rfl ?_
        refine r_q (q_move rfl rfl) rfl rfl ?_
        rcases of_if h with ⟨c4, h⟩ | ⟨c4, h⟩
        · refine r_off rfl rfl rfl rfl (decide_eq_true c4) rfl ?_
          refine r_off rfl rfl rfl rfl (decide_eq_true c4) rfl ?_
          refine r_off rfl rfl rfl rfl (decide_eq_true c4) rfl ?_
          refine r_off rfl rfl rfl rfl (decide_eq_true c4) rfl ?_
          refine r_q (q_pick_t rfl rfl (decide_eq_true c4) rfl) rfl rfl ?_
          refine r_q (q_move rfl rfl) rfl rfl ?_
          refine r_off rfl rfl rfl rfl rfl rfl ?_
          refine r_off rfl rfl rfl rfl rfl rfl ?_
          refine r_off rfl rfl rfl rfl rfl rfl ?_
          refine r_q (q_pick_t rfl rfl rfl rfl) rfl rfl ?_
          refine r_q (q_move rfl rfl) rfl rfl ?_
          refine r_off rfl rfl rfl rfl rfl rfl ?_
          refine r_off rfl rfl rfl rfl rfl rfl ?_
          refine r_off rfl rfl rfl rfl rfl rfl ?_
          refine r_q (q_pick_t rfl rfl rfl rfl) rfl rfl ?_
          refine r_nil ?_
          refine j_then ?_
          refine j_true rfl rfl ?_
          refine j_seq ?_
          refine j_region ?_
          refine r_q (q_assign rfl rfl) rfl rfl ?_
          refine r_nil ?_
          refine j_then ?_
          refine j_ret ?_
          refine j_then_ret ?_
          cases h
          exact j_return rfl (ResOf.tmp rfl ResOf.nil) rfl (fun w h => ⟨(), rfl, h.tail⟩)
        · refine r_qon (q_fieldAddr fi57_1 sz3 rfl rfl rfl) rfl rfl rfl rfl (decide_eq_false c4) rfl ?_
          refine r_qon (q_loadb 0 rfl ag3 rfl rfl rfl) rfl rfl rfl rfl (decide_eq_false c4) rfl ?_
          refine r_qon (q_move rfl rfl) rfl rfl rfl rfl (decide_eq_false c4) rfl ?_
          refine r_qon (q_geq rfl rfl rfl) rfl rfl rfl rfl (decide_eq_false c4) rfl ?_
          refine r_q (q_pick_f rfl rfl (decide_eq_false c4) rfl) rfl rfl ?_
          refine r_q (q_move rfl rfl) rfl rfl ?_
          rcases of_if h with ⟨c5, h⟩ | ⟨c5, h⟩
          · refine r_off rfl rfl rfl rfl (decide_eq_true c5) rfl ?_
            refine r_off rfl rfl rfl rfl (decide_eq_true c5) rfl ?_
            refine r_off rfl rfl rfl rfl (decide_eq_true c5) rfl ?_
            refine r_q (q_pick_t rfl rfl (decide_eq_true c5) rfl) rfl rfl ?_
            refine r_q (q_move rfl rfl) rfl rfl ?_
            refine r_off rfl rfl rfl rfl rfl rfl ?_
            refine r_off rfl rfl rfl rfl rfl rfl ?_
            refine r_off rfl rfl rfl rfl rfl rfl ?_
            refine r_q (q_pick_t rfl rfl rfl rfl) rfl rfl ?_
            refine r_nil ?_
            refine j_then ?_
            refine j_true rfl rfl ?_
            refine j_seq ?_
            refine j_region ?_
            refine r_q (q_assign rfl rfl) rfl rfl ?_
            refine r_nil ?_
            refine j_then ?_
            refine j_ret ?_
            refine j_then_ret ?_
            cases h
            exact j_return rfl (ResOf.tmp rfl ResOf.nil) rfl (fun w h => ⟨(), rfl, h.tail⟩)
          · refine r_qon (q_fieldAddr fi57_2 sz3 rfl rfl rfl) rfl rfl rfl rfl (decide_eq_false c5) rfl ?_
            refine r_qon (q_loadb 0 rfl ag3 rfl rfl rfl) rfl rfl rfl rfl (decide_eq_false c5) rfl ?_
            refine r_qon (q_lss rfl rfl rfl) rfl rfl rfl rfl (decide_eq_false c5) rfl ?_
            refine r_q (q_pick_f rfl rfl (decide_eq_false c5) rfl) rfl rfl ?_
            refine r_q (q_move rfl rfl) rfl rfl ?_
            rcases of_if h with ⟨c6, h⟩ | ⟨c6, h⟩
            · refine r_off rfl rfl rfl rfl (decide_eq_true c6) rfl ?_
              refine r_off rfl rfl rfl rfl (decide_eq_true c6) rfl ?_
              refine r_off rfl rfl rfl rfl (decide_eq_true c6) rfl ?_
              refine r_q (q_pick_t rfl rfl (decide_eq_true c6) rfl) rfl rfl ?_
              refine r_nil ?_
              refine j_then ?_
              refine j_true rfl rfl ?_
              refine j_seq ?_
              refine j_region ?_
              refine r_q (q_assign rfl rfl) rfl rfl ?_
              refine r_nil ?_
              refine j_then ?_
              refine j_ret ?_
              refine j_then_ret ?_
              cases h
              exact j_return rfl (ResOf.tmp rfl ResOf.nil) rfl (fun w h => ⟨(), rfl, h.tail⟩)
            · refine r_qon (q_fieldAddr fi57_2 sz3 rfl rfl rfl) rfl rfl rfl rfl (decide_eq_false c6) rfl ?_
              refine r_qon (q_loadb 0 rfl ag3 rfl rfl rfl) rfl rfl rfl rfl (decide_eq_false c6) rfl ?_
              refine r_qon (q_geq rfl rfl rfl) rfl rfl rfl rfl (decide_eq_false c6) rfl ?_
              refine r_q (q_pick_f rfl rfl (decide_eq_false c6) rfl) rfl rfl ?_
              refine r_nil ?_
              refine j_then ?_
              rcases of_if h with ⟨c7, h⟩ | ⟨c7, h⟩
              · refine j_true rfl (decide_eq_true c7) ?_
                refine j_seq ?_
                refine j_region ?_
                refine r_q (q_assign rfl rfl) rfl rfl ?_
                refine r_nil ?_
                refine j_then ?_
                refine j_ret ?_
                refine j_then_ret ?_
                cases h
                exact j_return rfl (ResOf.tmp rfl ResOf.nil) rfl (fun w h => ⟨(), rfl, h.tail⟩)
              · refine j_false rfl (decide_eq_false c7) ?_
                refine j_skip ?_
                refine j_then ?_
                refine j_seq ?_
                refine j_seq ?_
                refine j_region ?_
                refine r_q (q_fieldAddr fi57_0 sz3 rfl rfl rfl) rfl rfl ?_
                refine r_q (q_loadb 0 rfl ag3 rfl rfl rfl) rfl rfl ?_
                refine r_q (q_eql rfl rfl rfl) rfl rfl ?_
                refine r_q (q_move rfl rfl) rfl rfl ?_
                rcases of_if h with ⟨c8, h⟩ | ⟨c8, h⟩
                · refine r_off rfl rfl rfl rfl (beq_t c8) rfl ?_
                  refine r_off rfl rfl rfl rfl (beq_t c8) rfl ?_
                  refine r_off rfl rfl rfl rfl (beq_t c8) rfl ?_
                  refine r_q (q_pick_t rfl rfl (beq_t c8) rfl) rfl rfl ?_
                  refine r_nil ?_
                  refine j_then ?_
                  refine j_true rfl rfl ?_
                  refine j_seq ?_
                  refine j_region ?_
                  refine r_q (q_fieldAddr fi57_2 sz3 rfl rfl rfl) rfl rfl ?_
                  refine r_q (q_loadb 0 rfl ag3 rfl rfl rfl) rfl rfl ?_
                  refine r_q (q_eql rfl rfl rfl) rfl rfl ?_
                  refine r_q (q_assign rfl rfl) rfl rfl ?_
                  refine r_nil ?_
                  refine j_then ?_
                  refine j_ret ?_
                  refine j_then_ret ?_
                  cases h
                  exact j_return rfl (ResOf.tmp rfl ResOf.nil) rfl (fun w h => ⟨(), rfl, h.tail⟩)
                · refine r_qon (q_fieldAddr fi57_0 sz3 rfl rfl rfl) rfl rfl rfl rfl (beq_f c8) rfl ?_
                  refine r_qon (q_loadb 0 rfl ag3 rfl rfl rfl) rfl rfl rfl rfl (beq_f c8) rfl ?_
                  refine r_qon (q_eql rfl rfl rfl) rfl rfl rfl rfl (beq_f c8) rfl ?_
                  refine r_q (q_pick_f rfl rfl (beq_f c8) rfl) rfl rfl ?_
                  refine r_nil ?_
                  refine j_then ?_
                  rcases of_if h with ⟨c9, h⟩ | ⟨c9, h⟩
                  · refine j_true rfl (beq_t c9) ?_
                    refine j_seq ?_
                    refine j_region ?_
                    refine r_q (q_fieldAddr fi57_2 sz3 rfl rfl rfl) rfl rfl ?_
                    refine r_q (q_loadb 0 rfl ag3 rfl rfl rfl) rfl rfl ?_
                    refine r_q (q_eql rfl rfl rfl) rfl rfl ?_
                    refine r_q (q_assign rfl rfl) rfl rfl ?_
                    refine r_nil ?_
                    refine j_then ?_
                    refine j_ret ?_
                    refine j_then_ret ?_
                    cases h
                    exact j_return rfl (ResOf.tmp rfl ResOf.nil) rfl (fun w h => ⟨(), rfl, h.tail⟩)
                  · refine j_false rfl (beq_f c9) ?_
                    refine j_skip ?_
                    refine j_then ?_
                    refine j_seq ?_
                    refine j_region ?_
                    refine r_q (q_fieldAddr fi57_2 sz3 rfl rfl rfl) rfl rfl ?_
                    refine r_q (q_loadb 0 rfl ag3 rfl rfl rfl) rfl rfl ?_
                    refine r_q (q_move rfl rfl) rfl rfl ?_
                    refine r_q (q_lss rfl rfl rfl) rfl rfl ?_
                    refine r_q (q_assign rfl rfl) rfl rfl ?_
                    refine r_nil ?_
                    refine j_then ?_
                    refine j_ret ?_
                    cases h
                    exact j_return rfl (ResOf.tmp rfl ResOf.nil) rfl (fun w h => ⟨(), rfl, h.tail⟩)

theorem spec_l5Word.calls (K : Nat) (a0 : Int) {w0 w : World} {F : List Res} {r1 : ByteArray} (hm : Mem w0 (F) w)  (h : spec_l5Word.f K a0 = some r1) :
    Calls Try.prog 95 (List.toArray [i6 a0]) w fun e w' => ∃ x : Unit, e = .returned (.string r1) ∧ Mem w0 (F) w' := by
  unfold spec_l5Word.f at h
  refine calls_of_J (n := 15) Try.func95 rfl rfl rfl hm ?_
  refine j_seq ?_
  refine j_region ?_
  refine r_q (q_assign rfl rfl) rfl rfl ?_
  refine r_nil ?_
  refine j_then ?_
  refine j_seq ?_
  refine j_region ?_
  refine r_do (a_litX (vs := [(.string (⟨#[]⟩ : ByteArray)), (.string (⟨#[110, 101, 119]⟩ : ByteArray)), (.string (⟨#[99, 111, 112, 121]⟩ : ByteArray)), (.string (⟨#[108, 101, 102, 116]⟩ : ByteArray)), (.string (⟨#[114, 105, 103, 104, 116]⟩ : ByteArray)), (.string (⟨#[112, 117, 116, 108, 101, 102, 116]⟩ : ByteArray)), (.string (⟨#[112, 117, 116, 114, 105, 103, 104, 116]⟩ : ByteArray)), (.string (⟨#[99, 108, 101, 97, 114]⟩ : ByteArray))]) (strs ([(⟨#[]⟩ : ByteArray), (⟨#[110, 101, 119]⟩ : ByteArray), (⟨#[99, 111, 112, 121]⟩ : ByteArray), (⟨#[108, 101, 102, 116]⟩ : ByteArray), (⟨#[114, 105, 103, 104, 116]⟩ : ByteArray), (⟨#[112, 117, 116, 108, 101, 102, 116]⟩ : ByteArray), (⟨#[112, 117, 116, 114, 105, 103, 104, 116]⟩ : ByteArray), (⟨#[99, 108, 101, 97, 114]⟩ : ByteArray)] : List ByteArray)) un102 sz9 zr9 rfl rfl rfl rfl rfl rfl rfl rfl rfl) rfl rfl (fun x1 => ?_)
  refine r_q (q_assign rfl rfl) rfl rfl ?_
  refine r_nil ?_
  refine j_then ?_
  refine j_seq ?_
  refine j_seq ?_
  refine j_region ?_
  refine r_q (q_move rfl rfl) rfl rfl ?_
  refine r_q (q_lss rfl rfl rfl) rfl rfl ?_
  refine r_q (q_move rfl rfl) rfl rfl ?_
  rcases of_if h with ⟨c1, h⟩ | ⟨c1, h⟩
  · refine r_off rfl rfl rfl rfl (decide_eq_true c1) rfl ?_
    refine r_off rfl rfl rfl rfl (decide_eq_true c1) rfl ?_
    refine r_q (q_pick_t rfl rfl (decide_eq_true c1) rfl) rfl rfl ?_
    refine r_nil ?_
    refine j_then ?_
    refine j_true rfl rfl ?_
    refine j_seq ?_
    refine j_region ?_
    refine r_q (q_assign rfl rfl) rfl rfl ?_
    refine r_nil ?_
    refine j_then ?_
    refine j_ret ?_
    refine j_then_ret ?_
    cases h
    exact j_return rfl (ResOf.tmp rfl ResOf.nil) rfl (fun w h => ⟨(), rfl, h.tail⟩)
  · refine r_qon (q_move rfl rfl) rfl rfl rfl rfl (decide_eq_false c1) rfl ?_
    refine r_qon (q_gtr rfl rfl rfl) rfl rfl rfl rfl (decide_eq_false c1) rfl ?_
    refine r_q (q_pick_f rfl rfl (decide_eq_false c1) rfl) rfl rfl ?_
    refine r_nil ?_
    refine j_then ?_
    rcases of_if h with ⟨c2, h⟩ | ⟨c2, h⟩
    · refine j_true rfl (decide_eq_true c2) ?_
      refine j_seq ?_
      refine j_region ?_
      refine r_q (q_assign rfl rfl) rfl rfl ?_
      refine r_nil ?_
      refine j_then ?_
      refine j_ret ?_
      refine j_then_ret ?_
      cases h
      exact j_return rfl (ResOf.tmp rfl ResOf.nil) rfl (fun w h => ⟨(), rfl, h.tail⟩)
    · refine j_false rfl (decide_eq_false c2) ?_
      refine j_skip ?_
      refine j_then ?_
      refine j_seq ?_
      refine j_region ?_
      refine r_q (q_move rfl rfl) rfl rfl ?_
      refine r_q (q_move rfl rfl) rfl rfl ?_
      obtain ⟨c3, h⟩ := of_guard h
      refine r_q (q_ix (Rd.row 0 rfl) (strs_len1 ([(⟨#[]⟩ : ByteArray), (⟨#[110, 101, 119]⟩ : ByteArray), (⟨#[99, 111, 112, 121]⟩ : ByteArray), (⟨#[108, 101, 102, 116]⟩ : ByteArray), (⟨#[114, 105, 103, 104, 116]⟩ : ByteArray), (⟨#[112, 117, 116, 108, 101, 102, 116]⟩ : ByteArray), (⟨#[112, 117, 116, 114, 105, 103, 104, 116]⟩ : ByteArray), (⟨#[99, 108, 101, 97, 114]⟩ : ByteArray)] : List ByteArray)) (by decide) rfl c3 un102 sz9 rfl rfl rfl) rfl rfl ?_
      refine r_q (q_ldS (Rd.row 0 rfl) c3 ag9 rfl rfl) rfl rfl ?_
      refine r_q (q_assign rfl rfl) rfl rfl ?_
      refine r_nil ?_
      refine j_then ?_
      refine j_ret ?_
      cases h
      exact j_return rfl (ResOf.tmp rfl ResOf.nil) rfl (fun w h => ⟨(), rfl, h.tail⟩)

theorem spec_OpValid.calls (K : Nat) (a0_0 : Int) (a0_1 : Int) (a0_2 : Int) (a1 : Int) {w0 w : World} {F : List Res} {r1 : Bool} (hm : Mem w0 (F) w)  (h : spec_OpValid.f K a0_0 a0_1 a0_2 a1 = some r1) :
    Calls Try.prog 80 (List.toArray [.agg (List.toArray [i6 a0_0, i6 a0_1, i6 a0_2]), i6 a1]) w fun e w' => ∃ x : Unit, e = .returned (.bool r1) ∧ Mem w0 (F) w' := by
  unfold spec_OpValid.f at h
  refine calls_of_J (n := 45) Try.func80 rfl rfl rfl hm ?_
  refine j_seq ?_
  refine j_region ?_
  refine r_do (a_box rfl rfl) rfl rfl (fun x1 => ?_)
  refine r_q (q_assign rfl rfl) rfl rfl ?_
  refine r_nil ?_
  refine j_then ?_
  refine j_seq ?_
  refine j_seq ?_
  refine j_region ?_
  refine r_q (q_fieldAddr fi57_0 sz3 rfl rfl rfl) rfl rfl ?_
  refine r_q (q_loadb 0 rfl ag3 rfl rfl rfl) rfl rfl ?_
  obtain ⟨v1, hb1, h⟩ := of_b1 h
  refine r_do (a_call ok95 rfl rfl rfl rfl (fun w hm => spec_l5Word.calls K a0_0 hm hb1)) rfl rfl (fun x2 => ?_)
  refine r_q (q_seql rfl rfl rfl) rfl rfl ?_
  refine r_q (q_move rfl rfl) rfl rfl ?_
  rcases of_if h with ⟨c1, h⟩ | ⟨c1, h⟩
  · refine r_off rfl rfl rfl rfl (beq_t c1) rfl ?_
    refine r_off rfl rfl rfl rfl (beq_t c1) rfl ?_
    refine r_off rfl rfl rfl rfl (beq_t c1) rfl ?_
    refine r_q (q_pick_t rfl rfl (beq_t c1) rfl) rfl rfl ?_
    refine r_q (q_move rfl rfl) rfl rfl ?_
    refine r_off rfl rfl rfl rfl rfl rfl ?_
    refine r_off rfl rfl rfl rfl rfl rfl ?_
    refine r_off rfl rfl rfl rfl rfl rfl ?_
    refine r_off rfl rfl rfl rfl rfl rfl ?_
    refine r_q (q_pick_t rfl rfl rfl rfl) rfl rfl ?_
    refine r_q (q_move rfl rfl) rfl rfl ?_
    refine r_off rfl rfl rfl rfl rfl rfl ?_
    refine r_off rfl rfl rfl rfl rfl rfl ?_
    refine r_off rfl rfl rfl rfl rfl rfl ?_
    refine r_q (q_pick_t rfl rfl rfl rfl) rfl rfl ?_
    refine r_q (q_move rfl rfl) rfl rfl ?_
    refine r_off rfl rfl rfl rfl rfl rfl ?_
    refine r_off rfl rfl rfl rfl rfl rfl ?_
    refine r_off rfl rfl rfl rfl rfl rfl ?_
    refine r_q (q_pick_t rfl rfl rfl rfl) rfl rfl ?_
    refine r_q (q_move rfl rfl) rfl rfl ?_
    refine r_off rfl rfl rfl rfl rfl rfl ?_
    refine r_off rfl rfl rfl rfl rfl rfl ?_
    refine r_off rfl rfl rfl rfl rfl rfl ?_
    refine r_q (q_pick_t rfl rfl rfl rfl) rfl rfl ?_
    refine r_nil ?_
    refine j_then ?_
    refine j_true rfl rfl ?_
    refine j_seq ?_
    refine j_region ?_
    refine r_q (q_assign rfl rfl) rfl rfl ?_
    refine r_nil ?_
    refine j_then ?_
    refine j_ret ?_
    refine j_then_ret ?_
    cases h
    exact j_return rfl (ResOf.tmp rfl ResOf.nil) rfl (fun w h => ⟨(), rfl, h.tail⟩)
  · refine r_qon (q_fieldAddr fi57_1 sz3 rfl rfl rfl) rfl rfl rfl rfl (beq_f c1) rfl ?_
    refine r_qon (q_loadb 0 rfl ag3 rfl rfl rfl) rfl rfl rfl rfl (beq_f c1) rfl ?_
    refine r_qon (q_lss rfl rfl rfl) rfl rfl rfl rfl (beq_f c1) rfl ?_
    refine r_q (q_pick_f rfl rfl (beq_f c1) rfl) rfl rfl ?_
    refine r_q (q_move rfl rfl) rfl rfl ?_
    rcases of_if h with ⟨c2, h⟩ | ⟨c2, h⟩
    · refine r_off rfl rfl rfl rfl (decide_eq_true c2) rfl ?_
      refine r_off rfl rfl rfl rfl (decide_eq_true c2) rfl ?_
      refine r_off rfl rfl rfl rfl (decide_eq_true c2) rfl ?_
      refine r_off rfl rfl rfl rfl (decide_eq_true c2) rfl ?_
      refine r_q (q_pick_t rfl rfl (decide_eq_true c2) rfl) rfl rfl ?_
      refine r_q (q_move rfl rfl) rfl rfl ?_
      refine r_off rfl rfl rfl rfl rfl rfl ?_
      refine r_off rfl rfl rfl rfl rfl rfl ?_
      refine r_off rfl rfl rfl rfl rfl rfl ?_
      refine r_q (q_pick_t rfl rfl rfl rfl) rfl rfl ?_
      refine r_q (q_move rfl rfl) rfl rfl ?_
      refine r_off rfl rfl rfl rfl rfl rfl ?_
      refine r_off rfl rfl rfl rfl rfl rfl ?_
      refine r_off rfl rfl rfl rfl rfl rfl ?_
      refine r_q (q_pick_t rfl rfl rfl rfl) rfl rfl ?_
      refine r_q (q_move rfl rfl) rfl rfl ?_
      refine r_off rfl rfl rfl rfl rfl rfl ?_
      refine r_off rfl rfl rfl rfl rfl rfl ?_
      refine r_off rfl rfl rfl rfl rfl rfl ?_
      refine r_q (q_pick_t rfl rfl rfl rfl) rfl rfl ?_
      refine r_nil ?_
      refine j_then ?_
      refine j_true rfl rfl ?_
      refine j_seq ?_
      refine j_region ?_
      refine r_q (q_assign rfl rfl) rfl rfl ?_
      refine r_nil ?_
      refine j_then ?_
      refine j_ret ?_
      refine j_then_ret ?_
      cases h
      exact j_return rfl (ResOf.tmp rfl ResOf.nil) rfl (fun w h => ⟨(), rfl, h.tail⟩)
    · refine r_qon (q_fieldAddr fi57_1 sz3 rfl rfl rfl) rfl rfl rfl rfl (decide_eq_false c2) rfl ?_
      refine r_qon (q_loadb 0 rfl ag3 rfl rfl rfl) rfl rfl rfl rfl (decide_eq_false c2) rfl ?_
      refine r_qon (q_move rfl rfl) rfl rfl rfl rfl (decide_eq_false c2) rfl ?_
      refine r_qon (q_geq rfl rfl rfl) rfl rfl rfl rfl (decide_eq_false c2) rfl ?_
      refine r_q (q_pick_f rfl rfl (decide_eq_false c2) rfl) rfl rfl ?_
      refine r_q (q_move rfl rfl) rfl rfl ?_
      rcases of_if h with ⟨c3, h⟩ | ⟨c3, h⟩
      · refine r_off rfl rfl rfl rfl (decide_eq_true c3) rfl ?_
        refine r_off rfl rfl rfl rfl (decide_eq_true c3) rfl ?_
        refine r_off rfl rfl rfl rfl (decide_eq_true c3) rfl ?_
        refine r_q (q_pick_t rfl rfl (decide_eq_true c3) rfl) rfl rfl ?_
        refine r_q (q_move rfl rfl) rfl rfl ?_
        refine r_off rfl rfl rfl rfl rfl rfl ?_
        refine r_off rfl rfl rfl rfl rfl rfl ?_
        refine r_off rfl rfl rfl rfl rfl rfl ?_
        refine r_q (q_pick_t rfl rfl rfl rfl) rfl rfl ?_
        refine r_q (q_move rfl rfl) rfl rfl ?_
        refine r_off rfl rfl rfl rfl rfl rfl ?_
        refine r_off rfl rfl rfl rfl rfl rfl ?_
        refine r_off rfl rfl rfl rfl rfl rfl ?_
        refine r_q (q_pick_t rfl rfl rfl rfl) rfl rfl ?_
        refine r_nil ?_
        refine j_then ?_
        refine j_true rfl rfl ?_
        refine j_seq ?_
        refine j_region ?_
        refine r_q (q_assign rfl rfl) rfl rfl ?_
        refine r_nil ?_
        refine j_then ?_
        refine j_ret ?_
        refine j_then_ret ?_
        cases h
        exact j_return rfl (ResOf.tmp rfl ResOf.nil) rfl (fun w h => ⟨(), rfl, h.tail⟩)
      · refine r_qon (q_fieldAddr fi57_1 sz3 rfl rfl rfl) rfl rfl rfl rfl (decide_eq_false c3) rfl ?_
        refine r_qon (q_loadb 0 rfl ag3 rfl rfl rfl) rfl rfl rfl rfl (decide_eq_false c3) rfl ?_
        refine r_qon (q_geq rfl rfl rfl) rfl rfl rfl rfl (decide_eq_false c3) rfl ?_
        refine r_q (q_pick_f rfl rfl (decide_eq_false c3) rfl) rfl rfl ?_
        refine r_q (q_move rfl rfl) rfl rfl ?_
        rcases of_if h with ⟨c4, h⟩ | ⟨c4, h⟩
        · refine r_off rfl rfl rfl rfl (decide_eq_true c4) rfl ?_
          refine r_off rfl rfl rfl rfl (decide_eq_true c4) rfl ?_
          refine r_off rfl rfl rfl rfl (decide_eq_true c4) rfl ?_
          refine r_q (q_pick_t rfl rfl (decide_eq_true c4) rfl) rfl rfl ?_
          refine r_q (q_move rfl rfl) rfl rfl ?_
          refine r_off rfl rfl rfl rfl rfl rfl ?_
          refine r_off rfl rfl rfl rfl rfl rfl ?_
          refine r_off rfl rfl rfl rfl rfl rfl ?_
          refine r_q (q_pick_t rfl rfl rfl rfl) rfl rfl ?_
          refine r_nil ?_
          refine j_then ?_
          refine j_true rfl rfl ?_
          refine j_seq ?_
          refine j_region ?_
          refine r_q (q_assign rfl rfl) rfl rfl ?_
          refine r_nil ?_
          refine j_then ?_
          refine j_ret ?_
          refine j_then_ret ?_
          cases h
          exact j_return rfl (ResOf.tmp rfl ResOf.nil) rfl (fun w h => ⟨(), rfl, h.tail⟩)
        · refine r_qon (q_fieldAddr fi57_2 sz3 rfl rfl rfl) rfl rfl rfl rfl (decide_eq_false c4) rfl ?_
          refine r_qon (q_loadb 0 rfl ag3 rfl rfl rfl) rfl rfl rfl rfl (decide_eq_false c4) rfl ?_
          refine r_qon (q_lss rfl rfl rfl) rfl rfl rfl rfl (decide_eq_false c4) rfl ?_
          refine r_q (q_pick_f rfl rfl (decide_eq_false c4) rfl) rfl rfl ?_
          refine r_q (q_move rfl rfl) rfl rfl ?_
          rcases of_if h with ⟨c5, h⟩ | ⟨c5, h⟩
          · refine r_off rfl rfl rfl rfl (decide_eq_true c5) rfl ?_
            refine r_off rfl rfl rfl rfl (decide_eq_true c5) rfl ?_
            refine r_off rfl rfl rfl rfl (decide_eq_true c5) rfl ?_
            refine r_q (q_pick_t rfl rfl (decide_eq_true c5) rfl) rfl rfl ?_
            refine r_nil ?_
            refine j_then ?_
            refine j_true rfl rfl ?_
            refine j_seq ?_
            refine j_region ?_
            refine r_q (q_assign rfl rfl) rfl rfl ?_
            refine r_nil ?_
            refine j_then ?_
            refine j_ret ?_
            refine j_then_ret ?_
            cases h
            exact j_return rfl (ResOf.tmp rfl ResOf.nil) rfl (fun w h => ⟨(), rfl, h.tail⟩)
          · refine r_qon (q_fieldAddr fi57_2 sz3 rfl rfl rfl) rfl rfl rfl rfl (decide_eq_false c5) rfl ?_
            refine r_qon (q_loadb 0 rfl ag3 rfl rfl rfl) rfl rfl rfl rfl (decide_eq_false c5) rfl ?_
            refine r_qon (q_geq rfl rfl rfl) rfl rfl rfl rfl (decide_eq_false c5) rfl ?_
            refine r_q (q_pick_f rfl rfl (decide_eq_false c5) rfl) rfl rfl ?_
            refine r_nil ?_
            refine j_then ?_
            rcases of_if h with ⟨c6, h⟩ | ⟨c6, h⟩
            · refine j_true rfl (decide_eq_true c6) ?_
              refine j_seq ?_
              refine j_region ?_
              refine r_q (q_assign rfl rfl) rfl rfl ?_
              refine r_nil ?_
              refine j_then ?_
              refine j_ret ?_
              refine j_then_ret ?_
              cases h
              exact j_return rfl (ResOf.tmp rfl ResOf.nil) rfl (fun w h => ⟨(), rfl, h.tail⟩)
            · refine j_false rfl (decide_eq_false c6) ?_
              refine j_skip ?_
              refine j_then ?_
              refine j_seq ?_
              refine j_seq ?_
              refine j_region ?_
              refine r_q (q_fieldAddr fi57_0 sz3 rfl rfl rfl) rfl rfl ?_
              refine r_q (q_loadb 0 rfl ag3 rfl rfl rfl) rfl rfl ?_
              obtain ⟨v2, hb2, h⟩ := of_b1 h
              refine r_do (a_call ok96 rfl rfl rfl rfl (fun w hm => spec_l5One.calls K a0_0 hm hb2)) rfl rfl (fun x3 => ?_)
              refine r_nil ?_
              refine j_then ?_
              rcases of_if h with ⟨c7, h⟩ | ⟨c7, h⟩
              · refine j_true rfl c7 ?_
                refine j_seq ?_
                refine j_region ?_
                refine r_q (q_fieldAddr fi57_2 sz3 rfl rfl rfl) rfl rfl ?_
                refine r_q (q_loadb 0 rfl ag3 rfl rfl rfl) rfl rfl ?_
                refine r_q (q_eql rfl rfl rfl) rfl rfl ?_
                refine r_q (q_assign rfl rfl) rfl rfl ?_
                refine r_nil ?_
                refine j_then ?_
                refine j_ret ?_
                refine j_then_ret ?_
                cases h
                exact j_return rfl (ResOf.tmp rfl ResOf.nil) rfl (fun w h => ⟨(), rfl, h.tail⟩)
              · refine j_false rfl (var_f c7) ?_
                refine j_skip ?_
                refine j_then ?_
                refine j_seq ?_
                refine j_region ?_
                refine r_q (q_fieldAddr fi57_2 sz3 rfl rfl rfl) rfl rfl ?_
                refine r_q (q_loadb 0 rfl ag3 rfl rfl rfl) rfl rfl ?_
                refine r_q (q_move rfl rfl) rfl rfl ?_
                refine r_q (q_lss rfl rfl rfl) rfl rfl ?_
                refine r_q (q_assign rfl rfl) rfl rfl ?_
                refine r_nil ?_
                refine j_then ?_
                refine j_ret ?_
                cases h
                exact j_return rfl (ResOf.tmp rfl ResOf.nil) rfl (fun w h => ⟨(), rfl, h.tail⟩)

end Go.Proofs.Ytigidjhdcplplaa.F
