/- The program computes these pure functions, printed by the generator of wip/gen. -/
import Derived.Test.YtnfaiojmabolmaaDoorFa
import Derived.Test.YtnfaiojmabolmaaDoorFl
import Derived.Test.YtnfaiojmabolmaaDoorFb
namespace Go.Proofs.YtnfaiojmabolmaaDoor.F
open Go Go.RowKit Go.Proofs.YtnfaiojmabolmaaDoor.S
set_option linter.unusedVariables false
set_option maxRecDepth 100000
theorem spec_l5Word.calls (K : Nat) (a0 : Int) {w0 w : World} {F : List Res} {r1 : ByteArray} (hm : Mem w0 (F) w)  (h : spec_l5Word.f K a0 = some r1) :
    Calls Tryd.prog 32 (List.toArray [i6 a0]) w fun e w' => ∃ x : Unit, e = .returned (.string r1) ∧ Mem w0 (F) w' := by
  unfold spec_l5Word.f at h
  refine calls_of_J (n := 15) Tryd.func32 rfl rfl rfl hm ?_
  refine j_seq ?_
  refine j_region ?_
  refine r_q (q_assign rfl rfl) rfl rfl ?_
  refine r_nil ?_
  refine j_then ?_
  refine j_seq ?_
  refine j_region ?_
  refine r_do (a_litX (vs := [(.string (⟨#[]⟩ : ByteArray)), (.string (⟨#[110, 101, 119]⟩ : ByteArray)), (.string (⟨#[99, 111, 112, 121]⟩ : ByteArray)), (.string (⟨#[108, 101, 102, 116]⟩ : ByteArray)), (.string (⟨#[114, 105, 103, 104, 116]⟩ : ByteArray)), (.string (⟨#[112, 117, 116, 108, 101, 102, 116]⟩ : ByteArray)), (.string (⟨#[112, 117, 116, 114, 105, 103, 104, 116]⟩ : ByteArray)), (.string (⟨#[99, 108, 101, 97, 114]⟩ : ByteArray))]) (strs ([(⟨#[]⟩ : ByteArray), (⟨#[110, 101, 119]⟩ : ByteArray), (⟨#[99, 111, 112, 121]⟩ : ByteArray), (⟨#[108, 101, 102, 116]⟩ : ByteArray), (⟨#[114, 105, 103, 104, 116]⟩ : ByteArray), (⟨#[112, 117, 116, 108, 101, 102, 116]⟩ : ByteArray), (⟨#[112, 117, 116, 114, 105, 103, 104, 116]⟩ : ByteArray), (⟨#[99, 108, 101, 97, 114]⟩ : ByteArray)] : List ByteArray)) un52 sz9 zr9 rfl rfl rfl rfl rfl rfl rfl rfl rfl) rfl rfl (fun x1 => ?_)
  refine r_q (q_assign rfl rfl) rfl rfl ?_
  refine r_nil ?_
  refine j_then ?_
  refine j_seq ?_
  refine j_seq ?_
  refine j_region ?_
  refine r_q (q_move rfl rfl) rfl rfl ?_
  refine r_q (q_lss rfl rfl rfl) rfl rfl ?_
  refine r_q (q_move rfl rfl) rfl rfl ?_
  rcases of_if h with ⟨c1, h⟩ | ⟨c1, h⟩
  · refine r_off rfl rfl rfl rfl (decide_eq_true c1) rfl ?_
    refine r_off rfl rfl rfl rfl (decide_eq_true c1) rfl ?_
    refine r_q (q_pick_t rfl rfl (decide_eq_true c1) rfl) rfl rfl ?_
    refine r_nil ?_
    refine j_then ?_
    refine j_true rfl rfl ?_
    refine j_seq ?_
    refine j_region ?_
    refine r_q (q_assign rfl rfl) rfl rfl ?_
    refine r_nil ?_
    refine j_then ?_
    refine j_ret ?_
    refine j_then_ret ?_
    cases h
    exact j_return rfl (ResOf.tmp rfl ResOf.nil) rfl (fun w h => ⟨(), rfl, h.tail⟩)
  · refine r_qon (q_move rfl rfl) rfl rfl rfl rfl (decide_eq_false c1) rfl ?_
    refine r_qon (q_gtr rfl rfl rfl) rfl rfl rfl rfl (decide_eq_false c1) rfl ?_
    refine r_q (q_pick_f rfl rfl (decide_eq_false c1) rfl) rfl rfl ?_
    refine r_nil ?_
    refine j_then ?_
    rcases of_if h with ⟨c2, h⟩ | ⟨c2, h⟩
    · refine j_true rfl (decide_eq_true c2) ?_
      refine j_seq ?_
      refine j_region ?_
      refine r_q (q_assign rfl rfl) rfl rfl ?_
      refine r_nil ?_
      refine j_then ?_
      refine j_ret ?_
      refine j_then_ret ?_
      cases h
      exact j_return rfl (ResOf.tmp rfl ResOf.nil) rfl (fun w h => ⟨(), rfl, h.tail⟩)
    · refine j_false rfl (decide_eq_false c2) ?_
      refine j_skip ?_
      refine j_then ?_
      refine j_seq ?_
      refine j_region ?_
      refine r_q (q_move rfl rfl) rfl rfl ?_
      refine r_q (q_move rfl rfl) rfl rfl ?_
      obtain ⟨c3, h⟩ := of_guard h
      refine r_q (q_ix (Rd.row 0 rfl) (strs_len1 ([(⟨#[]⟩ : ByteArray), (⟨#[110, 101, 119]⟩ : ByteArray), (⟨#[99, 111, 112, 121]⟩ : ByteArray), (⟨#[108, 101, 102, 116]⟩ : ByteArray), (⟨#[114, 105, 103, 104, 116]⟩ : ByteArray), (⟨#[112, 117, 116, 108, 101, 102, 116]⟩ : ByteArray), (⟨#[112, 117, 116, 114, 105, 103, 104, 116]⟩ : ByteArray), (⟨#[99, 108, 101, 97, 114]⟩ : ByteArray)] : List ByteArray)) (by decide) rfl c3 un52 sz9 rfl rfl rfl) rfl rfl ?_
      refine r_q (q_ldS (Rd.row 0 rfl) c3 ag9 rfl rfl) rfl rfl ?_
      refine r_q (q_assign rfl rfl) rfl rfl ?_
      refine r_nil ?_
      refine j_then ?_
      refine j_ret ?_
      cases h
      exact j_return rfl (ResOf.tmp rfl ResOf.nil) rfl (fun w h => ⟨(), rfl, h.tail⟩)

theorem spec_l5One.calls (K : Nat) (a0 : Int) {w0 w : World} {F : List Res} {r1 : Bool} (hm : Mem w0 (F) w)  (h : spec_l5One.f K a0 = some r1) :
    Calls Tryd.prog 34 (List.toArray [i6 a0]) w fun e w' => ∃ x : Unit, e = .returned (.bool r1) ∧ Mem w0 (F) w' := by
  unfold spec_l5One.f at h
  refine calls_of_J (n := 9) Tryd.func34 rfl rfl rfl hm ?_
  refine j_seq ?_
  refine j_region ?_
  refine r_q (q_assign rfl rfl) rfl rfl ?_
  refine r_nil ?_
  refine j_then ?_
  refine j_seq ?_
  refine j_region ?_
  refine r_q (q_move rfl rfl) rfl rfl ?_
  refine r_q (q_eql rfl rfl rfl) rfl rfl ?_
  refine r_q (q_move rfl rfl) rfl rfl ?_
  rcases of_if h with ⟨c1, h⟩ | ⟨c1, h⟩
  · refine r_off rfl rfl rfl rfl (beq_t c1) rfl ?_
    refine r_off rfl rfl rfl rfl (beq_t c1) rfl ?_
    refine r_q (q_pick_t rfl rfl (beq_t c1) rfl) rfl rfl ?_
    refine r_q (q_assign rfl rfl) rfl rfl ?_
    refine r_nil ?_
    refine j_then ?_
    refine j_ret ?_
    cases h
    exact j_return rfl (ResOf.tmp rfl ResOf.nil) rfl (fun w h => ⟨(), rfl, h⟩)
  · refine r_qon (q_move rfl rfl) rfl rfl rfl rfl (beq_f c1) rfl ?_
    refine r_qon (q_eql rfl rfl rfl) rfl rfl rfl rfl (beq_f c1) rfl ?_
    refine r_q (q_pick_f rfl rfl (beq_f c1) rfl) rfl rfl ?_
    refine r_q (q_assign rfl rfl) rfl rfl ?_
    refine r_nil ?_
    refine j_then ?_
    refine j_ret ?_
    cases h
    exact j_return rfl (ResOf.tmp rfl ResOf.nil) rfl (fun w h => ⟨(), rfl, h⟩)

theorem spec_OpValid.calls (K : Nat) (a0_0 : Int) (a0_1 : Int) (a0_2 : Int) (a1 : Int) {w0 w : World} {F : List Res} {r1 : Bool} (hm : Mem w0 (F) w)  (h : spec_OpValid.f K a0_0 a0_1 a0_2 a1 = some r1) :
    Calls Tryd.prog 31 (List.toArray [.agg (List.toArray [i6 a0_0, i6 a0_1, i6 a0_2]), i6 a1]) w fun e w' => ∃ x : Unit, e = .returned (.bool r1) ∧ Mem w0 (F) w' := by
  unfold spec_OpValid.f at h
  refine calls_of_J (n := 45) Tryd.func31 rfl rfl rfl hm ?_
  refine j_seq ?_
  refine j_region ?_
  refine r_do (a_box rfl rfl) rfl rfl (fun x1 => ?_)
  refine r_q (q_assign rfl rfl) rfl rfl ?_
  refine r_nil ?_
  refine j_then ?_
  refine j_seq ?_
  refine j_seq ?_
  refine j_region ?_
  refine r_q (q_fieldAddr fi25_0 sz3 rfl rfl rfl) rfl rfl ?_
  refine r_q (q_loadb 0 rfl ag3 rfl rfl rfl) rfl rfl ?_
  obtain ⟨v1, hb1, h⟩ := of_b1 h
  refine r_do (a_call ok32 rfl rfl rfl rfl (fun w hm => spec_l5Word.calls K a0_0 hm hb1)) rfl rfl (fun x2 => ?_)
  refine r_q (q_seql rfl rfl rfl) rfl rfl ?_
  refine r_q (q_move rfl rfl) rfl rfl ?_
  rcases of_if h with ⟨c1, h⟩ | ⟨c1, h⟩
  · refine r_off rfl rfl rfl rfl (beq_t c1) rfl ?_
    refine r_off rfl rfl rfl rfl (beq_t c1) rfl ?_
    refine r_off rfl rfl rfl rfl (beq_t c1) rfl ?_
    refine r_q (q_pick_t rfl rfl (beq_t c1) rfl) rfl rfl ?_
    refine r_q (q_move rfl rfl) rfl rfl ?_
    refine r_off rfl rfl rfl rfl rfl rfl ?_
    refine r_off rfl rfl rfl rfl rfl rfl ?_
    refine r_off rfl rfl rfl rfl rfl rfl ?_
    refine r_off rfl rfl rfl rfl rfl rfl ?_
    refine r_q (q_pick_t rfl rfl rfl rfl) rfl rfl ?_
    refine r_q (q_move rfl rfl) rfl rfl ?_
    refine r_off rfl rfl rfl rfl rfl rfl ?_
    refine r_off rfl rfl rfl rfl rfl rfl ?_
    refine r_off rfl rfl rfl rfl rfl rfl ?_
    refine r_q (q_pick_t rfl rfl rfl rfl) rfl rfl ?_
    refine r_q (q_move rfl rfl) rfl rfl ?_
    refine r_off rfl rfl rfl rfl rfl rfl ?_
    refine r_off rfl rfl rfl rfl rfl rfl ?_
    refine r_off rfl rfl rfl rfl rfl rfl ?_
    refine r_q (q_pick_t rfl rfl rfl rfl) rfl rfl ?_
    refine r_q (q_move rfl rfl) rfl rfl ?_
    refine r_off rfl rfl rfl rfl rfl rfl ?_
    refine r_off rfl rfl rfl rfl rfl rfl ?_
    refine r_off rfl rfl rfl rfl rfl rfl ?_
    refine r_q (q_pick_t rfl rfl rfl rfl) rfl rfl ?_
    refine r_nil ?_
    refine j_then ?_
    refine j_true rfl rfl ?_
    refine j_seq ?_
    refine j_region ?_
    refine r_q (q_assign rfl rfl) rfl rfl ?_
    refine r_nil ?_
    refine j_then ?_
    refine j_ret ?_
    refine j_then_ret ?_
    cases h
    exact j_return rfl (ResOf.tmp rfl ResOf.nil) rfl (fun w h => ⟨(), rfl, h.tail⟩)
  · refine r_qon (q_fieldAddr fi25_1 sz3 rfl rfl rfl) rfl rfl rfl rfl (beq_f c1) rfl ?_
    refine r_qon (q_loadb 0 rfl ag3 rfl rfl rfl) rfl rfl rfl rfl (beq_f c1) rfl ?_
    refine r_qon (q_lss rfl rfl rfl) rfl rfl rfl rfl (beq_f c1) rfl ?_
    refine r_q (q_pick_f rfl rfl (beq_f c1) rfl) rfl rfl ?_
    refine r_q (q_move rfl rfl) rfl rfl ?_
    rcases of_if h with ⟨c2, h⟩ | ⟨c2, h⟩
    · refine r_off rfl rfl rfl rfl (decide_eq_true c2) rfl ?_
      refine r_off rfl rfl rfl rfl (decide_eq_true c2) rfl ?_
      refine r_off rfl rfl rfl rfl (decide_eq_true c2) rfl ?_
      refine r_off rfl rfl rfl rfl (decide_eq_true c2) rfl ?_
      refine r_q (q_pick_t rfl rfl (decide_eq_true c2) rfl) rfl rfl ?_
      refine r_q (q_move rfl rfl) rfl rfl ?_
      refine r_off rfl rfl rfl rfl rfl rfl ?_
      refine r_off rfl rfl rfl rfl rfl rfl ?_
      refine r_off rfl rfl rfl rfl rfl rfl ?_
      refine r_q (q_pick_t rfl rfl rfl rfl) rfl rfl ?_
      refine r_q (q_move rfl rfl) rfl rfl ?_
      refine r_off rfl rfl rfl rfl rfl rfl ?_
      refine r_off rfl rfl rfl rfl rfl rfl ?_
      refine r_off rfl rfl rfl rfl rfl rfl ?_
      refine r_q (q_pick_t rfl rfl rfl rfl) rfl rfl ?_
      refine r_q (q_move rfl rfl) rfl rfl ?_
      refine r_off rfl rfl rfl rfl rfl rfl ?_
      refine r_off rfl rfl rfl rfl rfl rfl ?_
      refine r_off rfl rfl rfl rfl rfl rfl ?_
      refine r_q (q_pick_t rfl rfl rfl rfl) rfl rfl ?_
      refine r_nil ?_
      refine j_then ?_
      refine j_true rfl rfl ?_
      refine j_seq ?_
      refine j_region ?_
      refine r_q (q_assign rfl rfl) rfl rfl ?_
      refine r_nil ?_
      refine j_then ?_
      refine j_ret ?_
      refine j_then_ret ?_
      cases h
      exact j_return rfl (ResOf.tmp rfl ResOf.nil) rfl (fun w h => ⟨(), rfl, h.tail⟩)
    · refine r_qon (q_fieldAddr fi25_1 sz3 rfl rfl rfl) rfl rfl rfl rfl (decide_eq_false c2) rfl ?_
      refine r_qon (q_loadb 0 rfl ag3 rfl rfl rfl) rfl rfl rfl rfl (decide_eq_false c2) rfl ?_
      refine r_qon (q_move rfl rfl) rfl rfl rfl rfl (decide_eq_false c2) rfl ?_
      refine r_qon (q_geq rfl rfl rfl) rfl rfl rfl rfl (decide_eq_false c2) rfl ?_
      refine r_q (q_pick_f rfl rfl (decide_eq_false c2) rfl) rfl rfl ?_
      refine r_q (q_move rfl rfl) rfl rfl ?_
      rcases of_if h with ⟨c3, h⟩ | ⟨c3, h⟩
      · refine r_off rfl rfl rfl rfl (decide_eq_true c3) rfl ?_
        refine r_off rfl rfl rfl rfl (decide_eq_true c3) rfl ?_
        refine r_off rfl rfl rfl rfl (decide_eq_true c3) rfl ?_
        refine r_q (q_pick_t rfl rfl (decide_eq_true c3) rfl) rfl rfl ?_
        refine r_q (q_move rfl rfl) rfl rfl ?_
        refine r_off rfl rfl rfl rfl rfl rfl ?_
        refine r_off rfl rfl rfl rfl rfl rfl ?_
        refine r_off rfl rfl rfl rfl rfl rfl ?_
        refine r_q (q_pick_t rfl rfl rfl rfl) rfl rfl ?_
        refine r_q (q_move rfl rfl) rfl rfl ?_
        refine r_off rfl rfl rfl rfl rfl rfl ?_
        refine r_off rfl rfl rfl rfl rfl rfl ?_
        refine r_off rfl rfl rfl rfl rfl rfl ?_
        refine r_q (q_pick_t rfl rfl rfl rfl) rfl rfl ?_
        refine r_nil ?_
        refine j_then ?_
        refine j_true rfl rfl ?_
        refine j_seq ?_
        refine j_region ?_
        refine r_q (q_assign rfl rfl) rfl rfl ?_
        refine r_nil ?_
        refine j_then ?_
        refine j_ret ?_
        refine j_then_ret ?_
        cases h
        exact j_return rfl (ResOf.tmp rfl ResOf.nil) rfl (fun w h => ⟨(), rfl, h.tail⟩)
      · refine r_qon (q_fieldAddr fi25_1 sz3 rfl rfl rfl) rfl rfl rfl rfl (decide_eq_false c3) rfl ?_
        refine r_qon (q_loadb 0 rfl ag3 rfl rfl rfl) rfl rfl rfl rfl (decide_eq_false c3) rfl ?_
        refine r_qon (q_geq rfl rfl rfl) rfl rfl rfl rfl (decide_eq_false c3) rfl ?_
        refine r_q (q_pick_f rfl rfl (decide_eq_false c3) rfl) rfl rfl ?_
        refine r_q (q_move rfl rfl) rfl rfl ?_
        rcases of_if h with ⟨c4, h⟩ | ⟨c4, h⟩
        · refine r_off rfl rfl rfl rfl (decide_eq_true c4) rfl ?_
          refine r_off rfl rfl rfl rfl (decide_eq_true c4) rfl ?_
          refine r_off rfl rfl rfl rfl (decide_eq_true c4) rfl ?_
          refine r_q (q_pick_t rfl rfl (decide_eq_true c4) rfl) rfl rfl ?_
          refine r_q (q_move rfl rfl) rfl rfl ?_
          refine r_off rfl rfl rfl rfl rfl rfl ?_
          refine r_off rfl rfl rfl rfl rfl rfl ?_
          refine r_off rfl rfl rfl rfl rfl rfl ?_
          refine r_q (q_pick_t rfl rfl rfl rfl) rfl rfl ?_
          refine r_nil ?_
          refine j_then ?_
          refine j_true rfl rfl ?_
          refine j_seq ?_
          refine j_region ?_
          refine r_q (q_assign rfl rfl) rfl rfl ?_
          refine r_nil ?_
          refine j_then ?_
          refine j_ret ?_
          refine j_then_ret ?_
          cases h
          exact j_return rfl (ResOf.tmp rfl ResOf.nil) rfl (fun w h => ⟨(), rfl, h.tail⟩)
        · refine r_qon (q_fieldAddr fi25_2 sz3 rfl rfl rfl) rfl rfl rfl rfl (decide_eq_false c4) rfl ?_
          refine r_qon (q_loadb 0 rfl ag3 rfl rfl rfl) rfl rfl rfl rfl (decide_eq_false c4) rfl ?_
          refine r_qon (q_lss rfl rfl rfl) rfl rfl rfl rfl (decide_eq_false c4) rfl ?_
          refine r_q (q_pick_f rfl rfl (decide_eq_false c4) rfl) rfl rfl ?_
          refine r_q (q_move rfl rfl) rfl rfl ?_
          rcases of_if h with ⟨c5, h⟩ | ⟨c5, h⟩
          · refine r_off rfl rfl rfl rfl (decide_eq_true c5) rfl ?_
            refine r_off rfl rfl rfl rfl (decide_eq_true c5) rfl ?_
            refine r_off rfl rfl rfl rfl (decide_eq_true c5) rfl ?_
            refine r_q (q_pick_t rfl rfl (decide_eq_true c5) rfl) rfl rfl ?_
            refine r_nil ?_
            refine j_then ?_
            refine j_true rfl rfl ?_
            refine j_seq ?_
            refine j_region ?_
            refine r_q (q_assign rfl rfl) rfl rfl ?_
            refine r_nil ?_
            refine j_then ?_
            refine j_ret ?_
            refine j_then_ret ?_
            cases h
            exact j_return rfl (ResOf.tmp rfl ResOf.nil) rfl (fun w h => ⟨(), rfl, h.tail⟩)
          · refine r_qon (q_fieldAddr fi25_2 sz3 rfl rfl rfl) rfl rfl rfl rfl (decide_eq_false c5) rfl ?_
            refine r_qon (q_loadb 0 rfl ag3 rfl rfl rfl) rfl rfl rfl rfl (decide_eq_false c5) rfl ?_
            refine r_qon (q_geq rfl rfl rfl) rfl rfl rfl rfl (decide_eq_false c5) rfl ?_
            refine r_q (q_pick_f rfl rfl (decide_eq_false c5) rfl) rfl rfl ?_
            refine r_nil ?_
            refine j_then ?_
            rcases of_if h with ⟨c6, h⟩ | ⟨c6, h⟩
            · refine j_true rfl (decide_eq_true c6) ?_
              refine j_seq ?_
              refine j_region ?_
              refine r_q (q_assign rfl rfl) rfl rfl ?_
              refine r_nil ?_
              refine j_then ?_
              refine j_ret ?_
              refine j_then_ret ?_
              cases h
              exact j_return rfl (ResOf.tmp rfl ResOf.nil) rfl (fun w h => ⟨(), rfl, h.tail⟩)
            · refine j_false rfl (decide_eq_false c6) ?_
              refine j_skip ?_
              refine j_then ?_
              refine j_seq ?_
              refine j_seq ?_
              refine j_region ?_
              refine r_q (q_fieldAddr fi25_0 sz3 rfl rfl rfl) rfl rfl ?_
              refine r_q (q_loadb 0 rfl ag3 rfl rfl rfl) rfl rfl ?_
              obtain ⟨v2, hb2, h⟩ := of_b1 h
              refine r_do (a_call ok34 rfl rfl rfl rfl (fun w hm => spec_l5One.calls K a0_0 hm hb2)) rfl rfl (fun x3 => ?_)
              refine r_nil ?_
              refine j_then ?_
              rcases of_if h with ⟨c7, h⟩ | ⟨c7, h⟩
              · refine j_true rfl c7 ?_
                refine j_seq ?_
                refine j_region ?_
                refine r_q (q_fieldAddr fi25_2 sz3 rfl rfl rfl) rfl rfl ?_
                refine r_q (q_loadb 0 rfl ag3 rfl rfl rfl) rfl rfl ?_
                refine r_q (q_eql rfl rfl rfl) rfl rfl ?_
                refine r_q (q_assign rfl rfl) rfl rfl ?_
                refine r_nil ?_
                refine j_then ?_
                refine j_ret ?_
                refine j_then_ret ?_
                cases h
                exact j_return rfl (ResOf.tmp rfl ResOf.nil) rfl (fun w h => ⟨(), rfl, h.tail⟩)
              · refine j_false rfl (var_f c7) ?_
                refine j_skip ?_
                refine j_then ?_
                refine j_seq ?_
                refine j_region ?_
                refine r_q (q_fieldAddr fi25_2 sz3 rfl rfl rfl) rfl rfl ?_
                refine r_q (q_loadb 0 rfl ag3 rfl rfl rfl) rfl rfl ?_
                refine r_q (q_move rfl rfl) rfl rfl ?_
                refine r_q (q_lss rfl rfl rfl) rfl rfl ?_
                refine r_q (q_assign rfl rfl) rfl rfl ?_
                refine r_nil ?_
                refine j_then ?_
                refine j_ret ?_
                cases h
                exact j_return rfl (ResOf.tmp rfl ResOf.nil) rfl (fun w h => ⟨(), rfl, h.tail⟩)

theorem spec_l13Dec.calls (K : Nat) (a0 : Int) {w0 w : World} {F : List Res} {r1 : ByteArray} (hm : Mem w0 (F) w)  (h : spec_l13Dec.f K a0 = some r1) :
    Calls Tryd.prog 33 (List.toArray [i6 a0]) w fun e w' => ∃ x : Unit, e = .returned (.string r1) ∧ Mem w0 (F) w' := by
  unfold spec_l13Dec.f at h
  refine calls_of_J (n := 31) Tryd.func33 rfl rfl rfl hm ?_
  refine j_seq ?_
  refine j_region ?_
  refine r_q (q_assign rfl rfl) rfl rfl ?_
  refine r_nil ?_
  refine j_then ?_
  refine j_seq ?_
  refine j_seq ?_
  refine j_region ?_
  refine r_q (q_move rfl rfl) rfl rfl ?_
  refine r_q (q_lss rfl rfl rfl) rfl rfl ?_
  refine r_nil ?_
  refine j_then ?_
  rcases of_if h with ⟨c1, h⟩ | ⟨c1, h⟩
  · refine j_true rfl (decide_eq_true c1) ?_
    refine j_seq ?_
    refine j_region ?_
    refine r_q (q_assign rfl rfl) rfl rfl ?_
    refine r_nil ?_
    refine j_then ?_
    refine j_ret ?_
    refine j_then_ret ?_
    cases h
    exact j_return rfl (ResOf.tmp rfl ResOf.nil) rfl (fun w h => ⟨(), rfl, h⟩)
  · refine j_false rfl (decide_eq_false c1) ?_
    refine j_skip ?_
    refine j_then ?_
    refine j_seq ?_
    refine j_seq ?_
    refine j_region ?_
    refine r_q (q_move rfl rfl) rfl rfl ?_
    refine r_q (q_lss rfl rfl rfl) rfl rfl ?_
    refine r_nil ?_
    refine j_then ?_
    rcases of_if h with ⟨c2, h⟩ | ⟨c2, h⟩
    · refine j_true rfl (decide_eq_true c2) ?_
      exact absurd h nofun
    · refine j_false rfl (decide_eq_false c2) ?_
      refine j_skip ?_
      refine j_then ?_
      refine j_seq ?_
      refine j_region ?_
      refine r_q (q_assign rfl rfl) rfl rfl ?_
      refine r_nil ?_
      refine j_then ?_
      refine j_seq ?_
      refine j_block ?_
      refine j_unroll ?_
      refine j_round ?_
      refine j_seq ?_
      refine j_seq ?_
      refine j_region ?_
      refine r_q (q_move rfl rfl) rfl rfl ?_
      refine r_q (q_gtr rfl rfl rfl) rfl rfl ?_
      refine r_nil ?_
      refine j_then ?_
      rcases of_if h with ⟨c3, h⟩ | ⟨c3, h⟩
      · refine j_true rfl (decide_eq_true c3) ?_
        exact absurd h nofun
      · refine j_false rfl (decide_eq_false c3) ?_
        refine j_exit ?_
        refine j_then_exit ?_
        refine j_then_exit ?_
        refine j_in_exit ?_
        refine j_then ?_
        refine j_seq ?_
        refine j_region ?_
        refine r_q (q_move rfl rfl) rfl rfl ?_
        refine r_q (q_add rfl rfl rfl) rfl rfl ?_
        refine r_q (q_int8 un3 un5 rfl rfl) rfl rfl ?_
        refine r_do (a_litX (vs := [(.int .u8 (w8 (wrap64 ((48:Int) + a0))))]) (ints .u8 ([(w8 (wrap64 ((48:Int) + a0)))] : List Int)) un34 sz5 zr5 rfl rfl rfl rfl rfl rfl rfl rfl rfl) rfl rfl (fun x2 => ?_)
        refine r_q (q_bstr (Rd.row 0 rfl) un34 un5 un9 rfl rfl) rfl rfl ?_
        refine r_q (q_move rfl rfl) rfl rfl ?_
        obtain ⟨c5, h⟩ := of_guard h
        refine r_q (q_sadd rfl rfl rfl c5) rfl rfl ?_
        refine r_q (q_assign rfl rfl) rfl rfl ?_
        refine r_nil ?_
        refine j_then ?_
        refine j_ret ?_
        cases h
        exact j_return rfl (ResOf.tmp rfl ResOf.nil) rfl (fun w h => ⟨(), rfl, h.tail⟩)

theorem spec_FormatOp.calls (K : Nat) (a0_0 : Int) (a0_1 : Int) (a0_2 : Int) {w0 w : World} {F : List Res} {r1 : ByteArray} (hm : Mem w0 (F) w)  (h : spec_FormatOp.f K a0_0 a0_1 a0_2 = some r1) :
    Calls Tryd.prog 10 (List.toArray [.agg (List.toArray [i6 a0_0, i6 a0_1, i6 a0_2])]) w fun e w' => ∃ x : Unit, e = .returned (.string r1) ∧ Mem w0 (F) w' := by
  unfold spec_FormatOp.f at h
  refine calls_of_J (n := 25) Tryd.func10 rfl rfl rfl hm ?_
  refine j_seq ?_
  refine j_region ?_
  refine r_do (a_box rfl rfl) rfl rfl (fun x1 => ?_)
  refine r_q (q_assign rfl rfl) rfl rfl ?_
  refine r_nil ?_
  refine j_then ?_
  refine j_seq ?_
  refine j_seq ?_
  refine j_region ?_
  refine r_q (q_loadb_agg 0 rfl ag25 sz25 rfl rfl rfl rfl) rfl rfl ?_
  obtain ⟨v1, hb1, h⟩ := of_b1 h
  refine r_do (a_call ok31 rfl rfl rfl rfl (fun w hm => spec_OpValid.calls K a0_0 a0_1 a0_2 (3:Int) hm hb1)) rfl rfl (fun x2 => ?_)
  refine r_q (q_not rfl rfl) rfl rfl ?_
  refine r_nil ?_
  refine j_then ?_
  rcases of_if h with ⟨c1, h⟩ | ⟨c1, h⟩
  · refine j_false rfl (not_f c1) ?_
    refine j_skip ?_
    refine j_then ?_
    refine j_seq ?_
    obtain ⟨v2, hb2, h⟩ := of_b1 h
    obtain ⟨c2, h⟩ := of_guard h
    obtain ⟨v3, hb3, h⟩ := of_b1 h
    obtain ⟨c3, h⟩ := of_guard h
    refine j_draw (.box x1 25 [(i6 a0_0), (i6 a0_1), (i6 a0_2)] :: F) 9 follows_any rfl ?_
    refine d_take 0 rfl (q_fieldAddr fi25_0 sz3 rfl rfl rfl) rfl rfl (by kernel_rfl) (by kernel_rfl) (by kernel_rfl) (fun w h => h) ?_
    refine d_take 1 rfl (q_loadb 0 rfl ag3 rfl rfl rfl) rfl rfl (by kernel_rfl) (by kernel_rfl) (by kernel_rfl) (fun w h => h) ?_
    refine d_take 4 rfl (q_fieldAddr fi25_1 sz3 rfl rfl rfl) rfl rfl (by kernel_rfl) (by kernel_rfl) (by kernel_rfl) (fun w h => h) ?_
    refine d_take 5 rfl (q_loadb 0 rfl ag3 rfl rfl rfl) rfl rfl (by kernel_rfl) (by kernel_rfl) (by kernel_rfl) (fun w h => h) ?_
    refine d_one 2 (by kernel_rfl) ?_
    refine o_do rfl (a_call ok32 rfl rfl rfl rfl (fun w hm => spec_l5Word.calls K a0_0 hm hb2)) rfl rfl (fun x3 w h => h) (fun x3 => ?_)
    refine d_take 3 rfl (q_sadd rfl rfl rfl c2) rfl rfl (by kernel_rfl) (by kernel_rfl) (by kernel_rfl) (fun w h => h) ?_
    refine d_one 6 (by kernel_rfl) ?_
    refine o_do rfl (a_call ok33 rfl rfl rfl rfl (fun w hm => spec_l13Dec.calls K a0_1 hm hb3)) rfl rfl (fun x4 w h => h) (fun x4 => ?_)
    refine d_take 7 rfl (q_sadd rfl rfl rfl c3) rfl rfl (by kernel_rfl) (by kernel_rfl) (by kernel_rfl) (fun w h => h) ?_
    refine d_take 8 rfl (q_assign rfl rfl) rfl rfl (by kernel_rfl) (by kernel_rfl) (by kernel_rfl) (fun w h => h) ?_
    refine d_done (by kernel_rfl) ?_
    refine j_then ?_
    refine j_seq ?_
    refine j_seq ?_
    refine j_region ?_
    refine r_q (q_fieldAddr fi25_0 sz3 rfl rfl rfl) rfl rfl ?_
    refine r_q (q_loadb 0 rfl ag3 rfl rfl rfl) rfl rfl ?_
    obtain ⟨v4, hb4, h⟩ := of_b1 h
    refine r_do (a_call ok34 rfl rfl rfl rfl (fun w hm => spec_l5One.calls K a0_0 hm hb4)) rfl rfl (fun x5 => ?_)
    refine r_nil ?_
    refine j_then ?_
    rcases of_if h with ⟨c4, h⟩ | ⟨c4, h⟩
    · refine j_true rfl c4 ?_
      refine j_seq ?_
      refine j_region ?_
      refine r_q (q_move rfl rfl) rfl rfl ?_
      refine r_q (q_assign rfl rfl) rfl rfl ?_
      refine r_nil ?_
      refine j_then ?_
      refine j_ret ?_
      refine j_then_ret ?_
      cases h
      exact j_return rfl (ResOf.tmp rfl ResOf.nil) rfl (fun w h => ⟨(), rfl, h.tail⟩)
    · refine j_false rfl (var_f c4) ?_
      refine j_skip ?_
      refine j_then ?_
      refine j_seq ?_
      refine j_region ?_
      refine r_q (q_move rfl rfl) rfl rfl ?_
      obtain ⟨c5, h⟩ := of_guard h
      refine r_q (q_sadd rfl rfl rfl c5) rfl rfl ?_
      refine r_q (q_fieldAddr fi25_2 sz3 rfl rfl rfl) rfl rfl ?_
      refine r_q (q_loadb 0 rfl ag3 rfl rfl rfl) rfl rfl ?_
      obtain ⟨v5, hb5, h⟩ := of_b1 h
      refine r_do (a_call ok33 rfl rfl rfl rfl (fun w hm => spec_l13Dec.calls K a0_2 hm hb5)) rfl rfl (fun x6 => ?_)
      obtain ⟨c6, h⟩ := of_guard h
      refine r_q (q_sadd rfl rfl rfl c6) rfl rfl ?_
      refine r_q (q_assign rfl rfl) rfl rfl ?_
      refine r_nil ?_
      refine j_then ?_
      refine j_ret ?_
      cases h
      exact j_return rfl (ResOf.tmp rfl ResOf.nil) rfl (fun w h => ⟨(), rfl, h.tail⟩)
  · refine j_true rfl (not_t (var_f c1)) ?_
    refine j_seq ?_
    refine j_region ?_
    refine r_q (q_assign rfl rfl) rfl rfl ?_
    refine r_nil ?_
    refine j_then ?_
    refine j_ret ?_
    refine j_then_ret ?_
    cases h
    exact j_return rfl (ResOf.tmp rfl ResOf.nil) rfl (fun w h => ⟨(), rfl, h.tail⟩)

theorem impl_OpValid.calls (K : Nat) (a0_0 : Int) (a0_1 : Int) (a0_2 : Int) (a1 : Int) {w0 w : World} {F : List Res} {r1 : Bool} (hm : Mem w0 (F) w)  (h : impl_OpValid.f K a0_0 a0_1 a0_2 a1 = some r1) :
    Calls Tryd.prog 27 (List.toArray [.agg (List.toArray [i6 a0_0, i6 a0_1, i6 a0_2]), i6 a1]) w fun e w' => ∃ x : Unit, e = .returned (.bool r1) ∧ Mem w0 (F) w' := by
  unfold impl_OpValid.f at h
  refine calls_of_J (n := 54) Tryd.func27 rfl rfl rfl hm ?_
  refine j_seq ?_
  refine j_region ?_
  refine r_do (a_box rfl rfl) rfl rfl (fun x1 => ?_)
  refine r_q (q_assign rfl rfl) rfl rfl ?_
  refine r_nil ?_
  refine j_then ?_
  refine j_seq ?_
  refine j_seq ?_
  refine j_region ?_
  refine r_q (q_fieldAddr fi25_0 sz3 rfl rfl rfl) rfl rfl ?_
  refine r_q (q_loadb 0 rfl ag3 rfl rfl rfl) rfl rfl ?_
  refine r_q (q_lss rfl rfl rfl) rfl rfl ?_
  refine r_q (q_move rfl rfl) rfl rfl ?_
  rcases of_if h with ⟨c1, h⟩ | ⟨c1, h⟩
  · refine r_off rfl rfl rfl rfl (decide_eq_true c1) rfl ?_
    refine r_off rfl rfl rfl rfl (decide_eq_true c1) rfl ?_
    refine r_off rfl rfl rfl rfl (decide_eq_true c1) rfl ?_
    refine r_q (q_pick_t rfl rfl (decide_eq_true c1) rfl) rfl rfl ?_
    refine r_q (q_move rfl rfl) rfl rfl ?_
    refine r_off rfl rfl rfl rfl rfl rfl ?_
    refine r_off rfl rfl rfl rfl rfl rfl ?_
    refine r_off rfl rfl rfl rfl rfl rfl ?_
    refine r_q (q_pick_t rfl rfl rfl rfl) rfl rfl ?_
    refine r_q (q_move rfl rfl) rfl rfl ?_
    refine r_off rfl rfl rfl rfl rfl rfl ?_
    refine r_off rfl rfl rfl rfl rfl rfl ?_
    refine r_off rfl rfl rfl rfl rfl rfl ?_
    refine r_q (q_pick_t rfl rfl rfl rfl) rfl rfl ?_
    refine r_q (q_move rfl rfl) rfl rfl ?_
    refine r_off rfl rfl rfl rfl rfl rfl ?_
    refine r_off rfl rfl rfl rfl rfl rfl ?_
    refine r_off rfl rfl rfl rfl rfl rfl ?_
    refine r_off rfl rfl rfl rfl rfl rfl ?_
    refine r_q (q_pick_t rfl rfl rfl rfl) rfl rfl ?_
    refine r_q (q_move rfl rfl) rfl rfl ?_
    refine r_off rfl rfl rfl rfl rfl rfl ?_
    refine r_off rfl rfl rfl rfl rfl rfl ?_
    refine r_off rfl rfl rfl rfl rfl rfl ?_
    refine r_q (q_pick_t rfl rfl rfl rfl) rfl rfl ?_
    refine r_q (q_move rfl rfl) rfl rfl ?_
    refine r_off rfl rfl rfl rfl rfl rfl ?_
    refine r_off rfl rfl rfl rfl rfl rfl ?_
    refine r_off rfl rfl rfl rfl rfl rfl ?_
    refine r_q (q_pick_t rfl rfl rfl rfl) rfl rfl ?_
    refine r_nil ?_
    refine j_then ?_
    refine j_true rfl rfl ?_
    refine j_seq ?_
    refine j_region ?_
    refine r_q (q_assign rfl rfl) rfl rfl ?_
    refine r_nil ?_
    refine j_then ?_
    refine j_ret ?_
    refine j_then_ret ?_
    cases h
    exact j_return rfl (ResOf.tmp rfl ResOf.nil) rfl (fun w h => ⟨(), rfl, h.tail⟩)
  · refine r_qon (q_fieldAddr fi25_0 sz3 rfl rfl rfl) rfl rfl rfl rfl (decide_eq_false c1) rfl ?_
    refine r_qon (q_loadb 0 rfl ag3 rfl rfl rfl) rfl rfl rfl rfl (decide_eq_false c1) rfl ?_
    refine r_qon (q_gtr rfl rfl rfl) rfl rfl rfl rfl (decide_eq_false c1) rfl ?_
    refine r_q (q_pick_f rfl rfl (decide_eq_false c1) rfl) rfl rfl ?_
    refine r_q (q_move rfl rfl) rfl rfl ?_
    rcases of_if h with ⟨c2, h⟩ | ⟨c2, h⟩
    · refine r_off rfl rfl rfl rfl (decide_eq_true c2) rfl ?_
      refine r_off rfl rfl rfl rfl (decide_eq_true c2) rfl ?_
      refine r_off rfl rfl rfl rfl (decide_eq_true c2) rfl ?_
      refine r_q (q_pick_t rfl rfl (decide_eq_true c2) rfl) rfl rfl ?_
      refine r_q (q_move rfl rfl) rfl rfl ?_
      refine r_off rfl rfl rfl rfl rfl rfl ?_
      refine r_off rfl rfl rfl rfl rfl rfl ?_
      refine r_off rfl rfl rfl rfl rfl rfl ?_
      refine r_q (q_pick_t rfl rfl rfl rfl) rfl rfl ?_
      refine r_q (q_move rfl rfl) rfl rfl ?_
      refine r_off rfl rfl rfl rfl rfl rfl ?_
      refine r_off rfl rfl rfl rfl rfl rfl ?_
      refine r_off rfl rfl rfl rfl rfl rfl ?_
      refine r_off rfl rfl rfl rfl rfl rfl ?_
      refine r_q (q_pick_t rfl rfl rfl rfl) rfl rfl ?_
      refine r_q (q_move rfl rfl) rfl rfl ?_
      refine r_off rfl rfl rfl rfl rfl rfl ?_
      refine r_off rfl rfl rfl rfl rfl rfl ?_
      refine r_off rfl rfl rfl rfl rfl rfl ?_
      refine r_q (q_pick_t rfl rfl rfl rfl) rfl rfl ?_
      refine r_q (q_move rfl rfl) rfl rfl ?_
      refine r_off rfl rfl rfl rfl rfl rfl ?_
      refine r_off rfl rfl rfl rfl rfl rfl ?_
      refine r_off rfl rfl rfl rfl rfl rfl ?_
      refine r_q (q_pick_t rfl rfl rfl rfl) rfl rfl ?_
      refine r_nil ?_
      refine j_then ?_
      refine j_true rfl rfl ?_
      refine j_seq ?_
      refine j_region ?_
      refine r_q (q_assign rfl rfl) rfl rfl ?_
      refine r_nil ?_
      refine j_then ?_
      refine j_ret ?_
      refine j_then_ret ?_
      cases h
      exact j_return rfl (ResOf.tmp rfl ResOf.nil) rfl (fun w h => ⟨(), rfl, h.tail⟩)
    · refine r_qon (q_fieldAddr fi25_1 sz3 rfl rfl rfl) rfl rfl rfl rfl (decide_eq_false c2) rfl ?_
      refine r_qon (q_loadb 0 rfl ag3 rfl rfl rfl) rfl rfl rfl rfl (decide_eq_false c2) rfl ?_
      refine r_qon (q_lss rfl rfl rfl) rfl rfl rfl rfl (decide_eq_false c2) rfl ?_
      refine r_q (q_pick_f rfl rfl (decide_eq_false c2) rfl) rfl rfl ?_
      refine r_q (q_move rfl rfl) rfl rfl ?_
      rcases of_if h with ⟨c3, h⟩ | ⟨c3, h⟩
      · refine r_off rfl rfl rfl rfl (decide_eq_true c3) rfl ?_
        refine r_off rfl rfl rfl rfl (decide_eq_true c3) rfl ?_
        refine r_off rfl rfl rfl rfl (decide_eq_true c3) rfl ?_
        refine r_q (q_pick_t rfl rfl (decide_eq_true c3) rfl) rfl rfl ?_
        refine r_q (q_move rfl rfl) rfl rfl ?_
        refine r_off rfl rfl rfl rfl rfl rfl ?_
        refine r_off rfl rfl rfl rfl rfl rfl ?_
        refine r_off rfl rfl rfl rfl rfl rfl ?_
        refine r_off rfl rfl rfl rfl rfl rfl ?_
        refine r_q (q_pick_t rfl rfl rfl rfl) rfl rfl ?_
        refine r_q (q_move rfl rfl) rfl rfl ?_
        refine r_off rfl rfl rfl rfl rfl rfl ?_
        refine r_off rfl rfl rfl rfl rfl rfl ?_
        refine r_off rfl rfl rfl rfl rfl rfl ?_
        refine r_q (q_pick_t rfl rfl rfl rfl) rfl rfl ?_
        refine r_q (q_move rfl rfl) rfl rfl ?_
        refine r_off rfl rfl rfl rfl rfl rfl ?_
        refine r_off rfl rfl rfl rfl rfl rfl ?_
        refine r_off rfl rfl rfl rfl rfl rfl ?_
        refine r_q (q_pick_t rfl rfl rfl rfl) rfl rfl ?_
        refine r_nil ?_
        refine j_then ?_
        refine j_true rfl rfl ?_
        refine j_seq ?_
        refine j_region ?_
        refine r_q (q_assign rfl rfl) rfl rfl ?_
        refine r_nil ?_
        refine j_then ?_
        refine j_ret ?_
        refine j_then_ret ?_
        cases h
        exact j_return rfl (ResOf.tmp rfl ResOf.nil) rfl (fun w h => ⟨(), rfl, h.tail⟩)
      · refine r_qon (q_fieldAddr fi25_1 sz3 rfl rfl rfl) rfl rfl rfl rfl (decide_eq_false c3) rfl ?_
        refine r_qon (q_loadb 0 rfl ag3 rfl rfl rfl) rfl rfl rfl rfl (decide_eq_false c3) rfl ?_
        refine r_qon (q_geq rfl rfl rfl) rfl rfl rfl rfl (decide_eq_false c3) rfl ?_
        refine r_q (q_pick_f rfl rfl (decide_eq_false c3) rfl) rfl rfl ?_
        refine r_q (q_move rfl rfl) rfl rfl ?_
        rcases of_if h with ⟨c4, h⟩ | ⟨c4, h⟩
        · refine r_off rfl rfl rfl rfl (decide_eq_true c4) rfl ?_
          refine r_off rfl rfl rfl rfl (decide_eq_true c4) rfl ?_
          refine r_off rfl rfl rfl rfl (decide_eq_true c4) rfl ?_
          refine r_off rfl rfl rfl rfl (decide_eq_true c4) rfl ?_
          refine r_q (q_pick_t rfl rfl (decide_eq_true c4) rfl) rfl rfl ?_
          refine r_q (q_move rfl rfl) rfl rfl ?_
          refine r_off rfl rfl rfl rfl rfl rfl ?_
          refine r_off rfl rfl rfl rfl rfl rfl ?_
          refine r_off rfl rfl rfl rfl rfl rfl ?_
          refine r_q (q_pick_t rfl rfl rfl rfl) rfl rfl ?_
          refine r_q (q_move rfl rfl) rfl rfl ?_
          refine r_off rfl rfl rfl rfl rfl rfl ?_
          refine r_off rfl rfl rfl rfl rfl rfl ?_
          refine r_off rfl rfl rfl rfl rfl rfl ?_
          refine r_q (q_pick_t rfl rfl rfl rfl) rfl rfl ?_
          refine r_nil ?_
          refine j_then ?_
          refine j_true rfl rfl ?_
          refine j_seq ?_
          refine j_region ?_
          refine r_q (q_assign rfl rfl) rfl rfl ?_
          refine r_nil ?_
          refine j_then ?_
          refine j_ret ?_
          refine j_then_ret ?_
          cases h
          exact j_return rfl (ResOf.tmp rfl ResOf.nil) rfl (fun w h => ⟨(), rfl, h.tail⟩)
        · refine r_qon (q_fieldAddr fi25_1 sz3 rfl rfl rfl) rfl rfl rfl rfl (decide_eq_false c4) rfl ?_
          refine r_qon (q_loadb 0 rfl ag3 rfl rfl rfl) rfl rfl rfl rfl (decide_eq_false c4) rfl ?_
          refine r_qon (q_move rfl rfl) rfl rfl rfl rfl (decide_eq_false c4) rfl ?_
          refine r_qon (q_geq rfl rfl rfl) rfl rfl rfl rfl (decide_eq_false c4) rfl ?_
          refine r_q (q_pick_f rfl rfl (decide_eq_false c4) rfl) rfl rfl ?_
          refine r_q (q_move rfl rfl) rfl rfl ?_
          rcases of_if h with ⟨c5, h⟩ | ⟨c5, h⟩
          · refine r_off rfl rfl rfl rfl (decide_eq_true c5) rfl ?_
            refine r_off rfl rfl rfl rfl (decide_eq_true c5) rfl ?_
            refine r_off rfl rfl rfl rfl (decide_eq_true c5) rfl ?_
            refine r_q (q_pick_t rfl rfl (decide_eq_true c5) rfl) rfl rfl ?_
            refine r_q (q_move rfl rfl) rfl rfl ?_
            refine r_off rfl rfl rfl rfl rfl rfl ?_
            refine r_off rfl rfl rfl rfl rfl rfl ?_
            refine r_off rfl rfl rfl rfl rfl rfl ?_
            refine r_q (q_pick_t rfl rfl rfl rfl) rfl rfl ?_
            refine r_nil ?_
            refine j_then ?_
            refine j_true rfl rfl ?_
            refine j_seq ?_
            refine j_region ?_
            refine r_q (q_assign rfl rfl) rfl rfl ?_
            refine r_nil ?_
            refine j_then ?_
            refine j_ret ?_
            refine j_then_ret ?_
            cases h
            exact j_return rfl (ResOf.tmp rfl ResOf.nil) rfl (fun w h => ⟨(), rfl, h.tail⟩)
          · refine r_qon (q_fieldAddr fi25_2 sz3 rfl rfl rfl) rfl rfl rfl rfl (decide_eq_false c5) rfl ?_
            refine r_qon (q_loadb 0 rfl ag3 rfl rfl rfl) rfl rfl rfl rfl (decide_eq_false c5) rfl ?_
            refine r_qon (q_lss rfl rfl rfl) rfl rfl rfl rfl (decide_eq_false c5) rfl ?_
            refine r_q (q_pick_f rfl rfl (decide_eq_false c5) rfl) rfl rfl ?_
            refine r_q (q_move rfl rfl) rfl rfl ?_
            rcases of_if h with ⟨c6, h⟩ | ⟨c6, h⟩
            · refine r_off rfl rfl rfl rfl (decide_eq_true c6) rfl ?_
              refine r_off rfl rfl rfl rfl (decide_eq_true c6) rfl ?_
              refine r_off rfl rfl rfl rfl (decide_eq_true c6) rfl ?_
              refine r_q (q_pick_t rfl rfl (decide_eq_true c6) rfl) rfl rfl ?_
              refine r_nil ?_
              refine j_then ?_
              refine j_true rfl rfl ?_
              refine j_seq ?_
              refine j_region ?_
              refine r_q (q_assign rfl rfl) rfl rfl ?_
              refine r_nil ?_
              refine j_then ?_
              refine j_ret ?_
              refine j_then_ret ?_
              cases h
              exact j_return rfl (ResOf.tmp rfl ResOf.nil) rfl (fun w h => ⟨(), rfl, h.tail⟩)
            · refine r_qon (q_fieldAddr fi25_2 sz3 rfl rfl rfl) rfl rfl rfl rfl (decide_eq_false c6) rfl ?_
              refine r_qon (q_loadb 0 rfl ag3 rfl rfl rfl) rfl rfl rfl rfl (decide_eq_false c6) rfl ?_
              refine r_qon (q_geq rfl rfl rfl) rfl rfl rfl rfl (decide_eq_false c6) rfl ?_
              refine r_q (q_pick_f rfl rfl (decide_eq_false c6) rfl) rfl rfl ?_
              refine r_nil ?_
              refine j_then ?_
              rcases of_if h with ⟨c7, h⟩ | ⟨c7, h⟩
              · refine j_true rfl (decide_eq_true c7) ?_
                refine j_seq ?_
                refine j_region ?_
                refine r_q (q_assign rfl rfl) rfl rfl ?_
                refine r_nil ?_
                refine j_then ?_
                refine j_ret ?_
                refine j_then_ret ?_
                cases h
                exact j_return rfl (ResOf.tmp rfl ResOf.nil) rfl (fun w h => ⟨(), rfl, h.tail⟩)
              · refine j_false rfl (decide_eq_false c7) ?_
                refine j_skip ?_
                refine j_then ?_
                refine j_seq ?_
                refine j_seq ?_
                refine j_region ?_
                refine r_q (q_fieldAddr fi25_0 sz3 rfl rfl rfl) rfl rfl ?_
                refine r_q (q_loadb 0 rfl ag3 rfl rfl rfl) rfl rfl ?_
                refine r_q (q_eql rfl rfl rfl) rfl rfl ?_
                refine r_q (q_move rfl rfl) rfl rfl ?_
                rcases of_if h with ⟨c8, h⟩ | ⟨c8, h⟩
                · refine r_off rfl rfl rfl rfl (beq_t c8) rfl ?_
                  refine r_off rfl rfl rfl rfl (beq_t c8) rfl ?_
                  refine r_off rfl rfl rfl rfl (beq_t c8) rfl ?_
                  refine r_q (q_pick_t rfl rfl (beq_t c8) rfl) rfl rfl ?_
                  refine r_nil ?_
                  refine j_then ?_
                  refine j_true rfl rfl ?_
                  refine j_seq ?_
                  refine j_region ?_
                  refine r_q (q_fieldAddr fi25_2 sz3 rfl rfl rfl) rfl rfl ?_
                  refine r_q (q_loadb 0 rfl ag3 rfl rfl rfl) rfl rfl ?_
                  refine r_q (q_eql rfl rfl rfl) rfl rfl ?_
                  refine r_q (q_assign rfl rfl) rfl rfl ?_
                  refine r_nil ?_
                  refine j_then ?_
                  refine j_ret ?_
                  refine j_then_ret ?_
                  cases h
                  exact j_return rfl (ResOf.tmp rfl ResOf.nil) rfl (fun w h => ⟨(), rfl, h.tail⟩)
                · refine r_qon (q_fieldAddr fi25_0 sz3 rfl rfl rfl) rfl rfl rfl rfl (beq_f c8) rfl ?_
                  refine r_qon (q_loadb 0 rfl ag3 rfl rfl rfl) rfl rfl rfl rfl (beq_f c8) rfl ?_
                  refine r_qon (q_eql rfl rfl rfl) rfl rfl rfl rfl (beq_f c8) rfl ?_
                  refine r_q (q_pick_f rfl rfl (beq_f c8) rfl) rfl rfl ?_
                  refine r_nil ?_
                  refine j_then ?_
                  rcases of_if h with ⟨c9, h⟩ | ⟨c9, h⟩
                  · refine j_true rfl (beq_t c9) ?_
                    refine j_seq ?_
                    refine j_region ?_
                    refine r_q (q_fieldAddr fi25_2 sz3 rfl rfl rfl) rfl rfl ?_
                    refine r_q (q_loadb 0 rfl ag3 rfl rfl rfl) rfl rfl ?_
                    refine r_q (q_eql rfl rfl rfl) rfl rfl ?_
                    refine r_q (q_assign rfl rfl) rfl rfl ?_
                    refine r_nil ?_
                    refine j_then ?_
                    refine j_ret ?_
                    refine j_then_ret ?_
                    cases h
                    exact j_return rfl (ResOf.tmp rfl ResOf.nil) rfl (fun w h => ⟨(), rfl, h.tail⟩)
                  · refine j_false rfl (beq_f c9) ?_
                    refine j_skip ?_
                    refine j_then ?_
                    refine j_seq ?_
                    refine j_region ?_
                    refine r_q (q_fieldAddr fi25_2 sz3 rfl rfl rfl) rfl rfl ?_
                    refine r_q (q_loadb 0 rfl ag3 rfl rfl rfl) rfl rfl ?_
                    refine r_q (q_move rfl rfl) rfl rfl ?_
                    refine r_q (q_lss rfl rfl rfl) rfl rfl ?_
                    refine r_q (q_assign rfl rfl) rfl rfl ?_
                    refine r_nil ?_
                    refine j_then ?_
                    refine j_ret ?_
                    cases h
                    exact j_return rfl (ResOf.tmp rfl ResOf.nil) rfl (fun w h => ⟨(), rfl, h.tail⟩)

theorem internal_strconv_small.calls (K : Nat) (a0 : Int) {w0 w : World} {F : List Res} {r1 : ByteArray} (hm : Mem w0 (F) w)  (h : internal_strconv_small.f K a0 = some r1) :
    Calls Tryd.prog 58 (List.toArray [i6 a0]) w fun e w' => ∃ x : Unit, e = .returned (.string r1) ∧ Mem w0 (F) w' := by
  unfold internal_strconv_small.f at h
  refine calls_of_J (n := 15) Tryd.func58 rfl rfl rfl hm ?_
  refine j_seq ?_
  refine j_region ?_
  refine r_q (q_assign rfl rfl) rfl rfl ?_
  refine r_nil ?_
  refine j_then ?_
  refine j_seq ?_
  refine j_seq ?_
  refine j_region ?_
  refine r_q (q_move rfl rfl) rfl rfl ?_
  refine r_q (q_lss rfl rfl rfl) rfl rfl ?_
  refine r_nil ?_
  refine j_then ?_
  rcases of_if h with ⟨c1, h⟩ | ⟨c1, h⟩
  · refine j_true rfl (decide_eq_true c1) ?_
    refine j_seq ?_
    refine j_region ?_
    refine r_q (q_move rfl rfl) rfl rfl ?_
    refine r_q (q_move rfl rfl) rfl rfl ?_
    refine r_q (q_add rfl rfl rfl) rfl rfl ?_
    obtain ⟨c2, h⟩ := of_guard h
    refine r_q (q_str_cut un9 rfl rfl rfl rfl c2.1 c2.2.1 c2.2.2) rfl rfl ?_
    refine r_q (q_assign rfl rfl) rfl rfl ?_
    refine r_nil ?_
    refine j_then ?_
    refine j_ret ?_
    refine j_then_ret ?_
    cases h
    exact j_return rfl (ResOf.tmp rfl ResOf.nil) rfl (fun w h => ⟨(), rfl, h⟩)
  · refine j_false rfl (decide_eq_false c1) ?_
    refine j_skip ?_
    refine j_then ?_
    refine j_seq ?_
    refine j_region ?_
    refine r_q (q_move rfl rfl) rfl rfl ?_
    refine r_q (q_mul rfl rfl rfl) rfl rfl ?_
    refine r_q (q_move rfl rfl) rfl rfl ?_
    refine r_q (q_mul rfl rfl rfl) rfl rfl ?_
    refine r_q (q_add rfl rfl rfl) rfl rfl ?_
    obtain ⟨c3, h⟩ := of_guard h
    refine r_q (q_str_cut un9 rfl rfl rfl rfl c3.1 c3.2.1 c3.2.2) rfl rfl ?_
    refine r_q (q_assign rfl rfl) rfl rfl ?_
    refine r_nil ?_
    refine j_then ?_
    refine j_ret ?_
    cases h
    exact j_return rfl (ResOf.tmp rfl ResOf.nil) rfl (fun w h => ⟨(), rfl, h⟩)

theorem internal_strconv_FormatInt.calls (K : Nat) (a0 : Int) (a1 : Int) {w0 w : World} {F : List Res} {r1 : ByteArray} (hm : Mem w0 (F) w)  (h : internal_strconv_FormatInt.f K a0 a1 = some r1) :
    Calls Tryd.prog 52 (List.toArray [i6 a0, i6 a1]) w fun e w' => ∃ x : Unit, e = .returned (.string r1) ∧ Mem w0 (F) w' := by
  unfold internal_strconv_FormatInt.f at h
  refine calls_of_J (n := 54) Tryd.func52 rfl rfl rfl hm ?_
  refine j_seq ?_
  refine j_region ?_
  refine r_q (q_assign rfl rfl) rfl rfl ?_
  refine r_nil ?_
  refine j_then ?_
  refine j_seq ?_
  refine j_seq ?_
  refine j_region ?_
  refine r_q (q_move rfl rfl) rfl rfl ?_
  refine r_q (q_eql rfl rfl rfl) rfl rfl ?_
  refine r_nil ?_
  refine j_then ?_
  rcases of_if h with ⟨c1, h⟩ | ⟨c1, h⟩
  · refine j_true rfl (beq_t c1) ?_
    refine j_seq ?_
    refine j_seq ?_
    refine j_region ?_
    refine r_q (q_move rfl rfl) rfl rfl ?_
    refine r_q (q_leq rfl rfl rfl) rfl rfl ?_
    refine r_q (q_move rfl rfl) rfl rfl ?_
    rcases of_if h with ⟨c2, h⟩ | ⟨c2, h⟩
    · refine r_qon (q_move rfl rfl) rfl rfl rfl rfl (decide_eq_true c2) rfl ?_
      refine r_qon (q_lss rfl rfl rfl) rfl rfl rfl rfl (decide_eq_true c2) rfl ?_
      refine r_q (q_pick_t rfl rfl (decide_eq_true c2) rfl) rfl rfl ?_
      refine r_nil ?_
      refine j_then ?_
      rcases of_if h with ⟨c3, h⟩ | ⟨c3, h⟩
      · refine j_true rfl (decide_eq_true c3) ?_
        refine j_seq ?_
        refine j_region ?_
        refine r_q (q_move rfl rfl) rfl rfl ?_
        obtain ⟨v1, hb1, h⟩ := of_b1 h
        refine r_do (a_call ok58 rfl rfl rfl rfl (fun w hm => internal_strconv_small.calls K a0 hm hb1)) rfl rfl (fun x1 => ?_)
        refine r_q (q_assign rfl rfl) rfl rfl ?_
        refine r_nil ?_
        refine j_then ?_
        refine j_ret ?_
        refine j_then_ret ?_
        refine j_then_ret ?_
        cases h
        exact j_return rfl (ResOf.tmp rfl ResOf.nil) rfl (fun w h => ⟨(), rfl, h⟩)
      · refine j_false rfl (decide_eq_false c3) ?_
        exact absurd h nofun
    · refine r_off rfl rfl rfl rfl (decide_eq_false c2) rfl ?_
      refine r_off rfl rfl rfl rfl (decide_eq_false c2) rfl ?_
      refine r_q (q_pick_f rfl rfl (decide_eq_false c2) rfl) rfl rfl ?_
      refine r_nil ?_
      refine j_then ?_
      refine j_false rfl rfl ?_
      exact absurd h nofun
  · refine j_false rfl (beq_f c1) ?_
    exact absurd h nofun

theorem internal_strconv_Itoa.calls (K : Nat) (a0 : Int) {w0 w : World} {F : List Res} {r1 : ByteArray} (hm : Mem w0 (F) w)  (h : internal_strconv_Itoa.f K a0 = some r1) :
    Calls Tryd.prog 47 (List.toArray [i6 a0]) w fun e w' => ∃ x : Unit, e = .returned (.string r1) ∧ Mem w0 (F) w' := by
  unfold internal_strconv_Itoa.f at h
  refine calls_of_J (n := 5) Tryd.func47 rfl rfl rfl hm ?_
  refine j_seq ?_
  refine j_region ?_
  refine r_q (q_assign rfl rfl) rfl rfl ?_
  refine r_nil ?_
  refine j_then ?_
  refine j_seq ?_
  refine j_region ?_
  refine r_q (q_move rfl rfl) rfl rfl ?_
  obtain ⟨v1, hb1, h⟩ := of_b1 h
  refine r_do (a_call ok52 rfl rfl rfl rfl (fun w hm => internal_strconv_FormatInt.calls K a0 (10:Int) hm hb1)) rfl rfl (fun x1 => ?_)
  refine r_q (q_assign rfl rfl) rfl rfl ?_
  refine r_nil ?_
  refine j_then ?_
  refine j_ret ?_
  cases h
  exact j_return rfl (ResOf.tmp rfl ResOf.nil) rfl (fun w h => ⟨(), rfl, h⟩)

theorem strconv_Itoa.calls (K : Nat) (a0 : Int) {w0 w : World} {F : List Res} {r1 : ByteArray} (hm : Mem w0 (F) w)  (h : strconv_Itoa.f K a0 = some r1) :
    Calls Tryd.prog 35 (List.toArray [i6 a0]) w fun e w' => ∃ x : Unit, e = .returned (.string r1) ∧ Mem w0 (F) w' := by
  unfold strconv_Itoa.f at h
  refine calls_of_J (n := 5) Tryd.func35 rfl rfl rfl hm ?_
  refine j_seq ?_
  refine j_region ?_
  refine r_q (q_assign rfl rfl) rfl rfl ?_
  refine r_nil ?_
  refine j_then ?_
  refine j_seq ?_
  refine j_region ?_
  refine r_q (q_move rfl rfl) rfl rfl ?_
  obtain ⟨v1, hb1, h⟩ := of_b1 h
  refine r_do (a_call ok47 rfl rfl rfl rfl (fun w hm => internal_strconv_Itoa.calls K a0 hm hb1)) rfl rfl (fun x1 => ?_)
  refine r_q (q_assign rfl rfl) rfl rfl ?_
  refine r_nil ?_
  refine j_then ?_
  refine j_ret ?_
  cases h
  exact j_return rfl (ResOf.tmp rfl ResOf.nil) rfl (fun w h => ⟨(), rfl, h⟩)

theorem impl_FormatOp.calls (K : Nat) (a0_0 : Int) (a0_1 : Int) (a0_2 : Int) {w0 w : World} {F : List Res} {r1 : ByteArray} (hm : Mem w0 (F) w) (gT : Rd w0 F (gA 0) (strs opTab)) (h : impl_FormatOp.f K a0_0 a0_1 a0_2 = some r1) :
    Calls Tryd.prog 12 (List.toArray [.agg (List.toArray [i6 a0_0, i6 a0_1, i6 a0_2])]) w fun e w' => ∃ x : Unit, e = .returned (.string r1) ∧ Mem w0 (F) w' := by
  unfold impl_FormatOp.f at h
  refine calls_of_J (n := 31) Tryd.func12 rfl rfl rfl hm ?_
  refine j_seq ?_
  refine j_region ?_
  refine r_do (a_box rfl rfl) rfl rfl (fun x1 => ?_)
  refine r_q (q_assign rfl rfl) rfl rfl ?_
  refine r_nil ?_
  refine j_then ?_
  refine j_seq ?_
  refine j_seq ?_
  refine j_region ?_
  refine r_q (q_loadb_agg 0 rfl ag25 sz25 rfl rfl rfl rfl) rfl rfl ?_
  obtain ⟨v1, hb1, h⟩ := of_b1 h
  refine r_do (a_call ok27 rfl rfl rfl rfl (fun w hm => impl_OpValid.calls K a0_0 a0_1 a0_2 (3:Int) hm hb1)) rfl rfl (fun x2 => ?_)
  refine r_q (q_not rfl rfl) rfl rfl ?_
  refine r_nil ?_
  refine j_then ?_
  rcases of_if h with ⟨c1, h⟩ | ⟨c1, h⟩
  · refine j_false rfl (not_f c1) ?_
    refine j_skip ?_
    refine j_then ?_
    refine j_seq ?_
    obtain ⟨c2, h⟩ := of_guard h
    obtain ⟨c3, h⟩ := of_guard h
    obtain ⟨v2, hb2, h⟩ := of_b1 h
    obtain ⟨c4, h⟩ := of_guard h
    refine j_draw (.box x1 25 [(i6 a0_0), (i6 a0_1), (i6 a0_2)] :: F) 10 follows_any rfl ?_
    refine d_take 0 rfl (q_fieldAddr fi25_0 sz3 rfl rfl rfl) rfl rfl (by kernel_rfl) (by kernel_rfl) (by kernel_rfl) (fun w h => h) ?_
    refine d_take 1 rfl (q_loadb 0 rfl ag3 rfl rfl rfl) rfl rfl (by kernel_rfl) (by kernel_rfl) (by kernel_rfl) (fun w h => h) ?_
    refine d_take 2 rfl (q_ixG c2 un51 sz9 rfl rfl rfl) rfl rfl (by kernel_rfl) (by kernel_rfl) (by kernel_rfl) (fun w h => h) ?_
    refine d_take 3 rfl (q_ldS (Rd.drop 1 gT) c2 ag9 rfl rfl) rfl rfl (by kernel_rfl) (by kernel_rfl) (by kernel_rfl) (fun w h => h) ?_
    refine d_take 4 rfl (q_sadd rfl rfl rfl c3) rfl rfl (by kernel_rfl) (by kernel_rfl) (by kernel_rfl) (fun w h => h) ?_
    refine d_take 5 rfl (q_fieldAddr fi25_1 sz3 rfl rfl rfl) rfl rfl (by kernel_rfl) (by kernel_rfl) (by kernel_rfl) (fun w h => h) ?_
    refine d_take 6 rfl (q_loadb 0 rfl ag3 rfl rfl rfl) rfl rfl (by kernel_rfl) (by kernel_rfl) (by kernel_rfl) (fun w h => h) ?_
    refine d_one 7 (by kernel_rfl) ?_
    refine o_do rfl (a_call ok35 rfl rfl rfl rfl (fun w hm => strconv_Itoa.calls K a0_1 hm hb2)) rfl rfl (fun x3 w h => h) (fun x3 => ?_)
    refine d_take 8 rfl (q_sadd rfl rfl rfl c4) rfl rfl (by kernel_rfl) (by kernel_rfl) (by kernel_rfl) (fun w h => h) ?_
    refine d_take 9 rfl (q_assign rfl rfl) rfl rfl (by kernel_rfl) (by kernel_rfl) (by kernel_rfl) (fun w h => h) ?_
    refine d_done (by kernel_rfl) ?_
    refine j_then ?_
    refine j_seq ?_
    refine j_seq ?_
    refine j_region ?_
    refine r_q (q_fieldAddr fi25_0 sz3 rfl rfl rfl) rfl rfl ?_
    refine r_q (q_loadb 0 rfl ag3 rfl rfl rfl) rfl rfl ?_
    refine r_q (q_neq rfl rfl rfl) rfl rfl ?_
    refine r_q (q_move rfl rfl) rfl rfl ?_
    rcases of_if h with ⟨c5, h⟩ | ⟨c5, h⟩
    · refine r_off rfl rfl rfl rfl (bne_f c5) rfl ?_
      refine r_off rfl rfl rfl rfl (bne_f c5) rfl ?_
      refine r_off rfl rfl rfl rfl (bne_f c5) rfl ?_
      refine r_q (q_pick_f rfl rfl (bne_f c5) rfl) rfl rfl ?_
      refine r_nil ?_
      refine j_then ?_
      refine j_false rfl rfl ?_
      refine j_skip ?_
      refine j_then ?_
      refine j_seq ?_
      refine j_region ?_
      refine r_q (q_move rfl rfl) rfl rfl ?_
      refine r_q (q_assign rfl rfl) rfl rfl ?_
      refine r_nil ?_
      refine j_then ?_
      refine j_ret ?_
      cases h
      exact j_return rfl (ResOf.tmp rfl ResOf.nil) rfl (fun w h => ⟨(), rfl, h.tail⟩)
    · refine r_qon (q_fieldAddr fi25_0 sz3 rfl rfl rfl) rfl rfl rfl rfl (bne_t c5) rfl ?_
      refine r_qon (q_loadb 0 rfl ag3 rfl rfl rfl) rfl rfl rfl rfl (bne_t c5) rfl ?_
      refine r_qon (q_neq rfl rfl rfl) rfl rfl rfl rfl (bne_t c5) rfl ?_
      refine r_q (q_pick_t rfl rfl (bne_t c5) rfl) rfl rfl ?_
      refine r_nil ?_
      refine j_then ?_
      rcases of_if h with ⟨c6, h⟩ | ⟨c6, h⟩
      · refine j_false rfl (bne_f c6) ?_
        refine j_skip ?_
        refine j_then ?_
        refine j_seq ?_
        refine j_region ?_
        refine r_q (q_move rfl rfl) rfl rfl ?_
        refine r_q (q_assign rfl rfl) rfl rfl ?_
        refine r_nil ?_
        refine j_then ?_
        refine j_ret ?_
        cases h
        exact j_return rfl (ResOf.tmp rfl ResOf.nil) rfl (fun w h => ⟨(), rfl, h.tail⟩)
      · refine j_true rfl (bne_t c6) ?_
        refine j_region ?_
        refine r_q (q_move rfl rfl) rfl rfl ?_
        refine r_q (q_fieldAddr fi25_2 sz3 rfl rfl rfl) rfl rfl ?_
        refine r_q (q_loadb 0 rfl ag3 rfl rfl rfl) rfl rfl ?_
        obtain ⟨v3, hb3, h⟩ := of_b1 h
        refine r_do (a_call ok35 rfl rfl rfl rfl (fun w hm => strconv_Itoa.calls K a0_2 hm hb3)) rfl rfl (fun x4 => ?_)
        obtain ⟨c7, h⟩ := of_guard h
        refine r_q (q_sadd rfl rfl rfl c7) rfl rfl ?_
        obtain ⟨c8, h⟩ := of_guard h
        refine r_q (q_sadd rfl rfl rfl c8) rfl rfl ?_
        refine r_q (q_assign rfl rfl) rfl rfl ?_
        refine r_nil ?_
        refine j_then ?_
        refine j_seq ?_
        refine j_region ?_
        refine r_q (q_move rfl rfl) rfl rfl ?_
        refine r_q (q_assign rfl rfl) rfl rfl ?_
        refine r_nil ?_
        refine j_then ?_
        refine j_ret ?_
        cases h
        exact j_return rfl (ResOf.tmp rfl ResOf.nil) rfl (fun w h => ⟨(), rfl, h.tail⟩)
  · refine j_true rfl (not_t (var_f c1)) ?_
    refine j_seq ?_
    refine j_region ?_
    refine r_q (q_assign rfl rfl) rfl rfl ?_
    refine r_nil ?_
    refine j_then ?_
    refine j_ret ?_
    refine j_then_ret ?_
    cases h
    exact j_return rfl (ResOf.tmp rfl ResOf.nil) rfl (fun w h => ⟨(), rfl, h.tail⟩)

end Go.Proofs.YtnfaiojmabolmaaDoor.F
