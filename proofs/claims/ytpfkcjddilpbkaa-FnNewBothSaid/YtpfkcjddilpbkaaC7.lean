/- The program computes these pure functions, printed by the generator of wip/gen. -/
import Derived.Test.YtpfkcjddilpbkaaFa
import Derived.Test.YtpfkcjddilpbkaaFi
import Derived.Test.YtpfkcjddilpbkaaFj
import Derived.Test.YtpfkcjddilpbkaaFb
import Derived.Test.YtpfkcjddilpbkaaC2
namespace Go.Proofs.Ytpfkcjddilpbkaa.F
open Go Go.RowKit Go.Proofs.Ytpfkcjddilpbkaa.S
set_option linter.unusedVariables false
set_option maxRecDepth 100000
theorem spec_l5One.calls (K : Nat) (a0 : Int) {w0 w : World} {F : List Res} {r1 : Bool} (hm : Mem w0 (F) w)  (h : spec_l5One.f K a0 = some r1) :
    Calls Try.prog 98 (List.toArray [i6 a0]) w fun e w' => ∃ x : Unit, e = .returned (.bool r1) ∧ Mem w0 (F) w' := by
  unfold spec_l5One.f at h
  refine calls_of_J (n := 9) Try.func98 rfl rfl rfl hm ?_
  refine j_seq ?_
  refine j_region ?_
  refine r_q (q_assign rfl rfl) rfl rfl ?_
  refine r_nil ?_
  refine j_then ?_
  refine j_seq ?_
  refine j_region ?_
  refine r_q (q_move rfl rfl) rfl rfl ?_
  refine r_q (q_eql rfl rfl rfl) rfl rfl ?_
  refine r_q (q_move rfl rfl) rfl rfl ?_
  rcases of_if h with ⟨c1, h⟩ | ⟨c1, h⟩
  · refine r_off rfl rfl rfl rfl (beq_t c1) rfl ?_
    refine r_off rfl rfl rfl rfl (beq_t c1) rfl ?_
    refine r_q (q_pick_t rfl rfl (beq_t c1) rfl) rfl rfl ?_
    refine r_q (q_assign rfl rfl) rfl rfl ?_
    refine r_nil ?_
    refine j_then ?_
    refine j_ret ?_
    cases h
    exact j_return rfl (ResOf.tmp rfl ResOf.nil) rfl (fun w h => ⟨(), rfl, h⟩)
  · refine r_qon (q_move rfl rfl) rfl rfl rfl rfl (beq_f c1) rfl ?_
    refine r_qon (q_eql rfl rfl rfl) rfl rfl rfl rfl (beq_f c1) rfl ?_
    refine r_q (q_pick_f rfl rfl (beq_f c1) rfl) rfl rfl ?_
    refine r_q (q_assign rfl rfl) rfl rfl ?_
    refine r_nil ?_
    refine j_then ?_
    refine j_ret ?_
    cases h
    exact j_return rfl (ResOf.tmp rfl ResOf.nil) rfl (fun w h => ⟨(), rfl, h⟩)

theorem impl_OpValid.calls (K : Nat) (a0_0 : Int) (a0_1 : Int) (a0_2 : Int) (a1 : Int) {w0 w : World} {F : List Res} {r1 : Bool} (hm : Mem w0 (F) w)  (h : impl_OpValid.f K a0_0 a0_1 a0_2 a1 = some r1) :
    Calls Try.prog 76 (List.toArray [.agg (List.toArray [i6 a0_0, i6 a0_1, i6 a0_2]), i6 a1]) w fun e w' => ∃ x : Unit, e = .returned (.bool r1) ∧ Mem w0 (F) w' := by
  unfold impl_OpValid.f at h
  refine calls_of_J (n := 54) Try.func76 rfl rfl rfl hm ?_
  refine j_seq ?_
  refine j_region ?_
  refine r_do (a_box rfl rfl) rfl rfl (fun x1 => ?_)
  refine r_q (q_assign rfl rfl) rfl rfl ?_
  refine r_nil ?_
  refine j_then ?_
  refine j_seq ?_
  refine j_seq ?_
  refine j_region ?_
  refine r_q (q_fieldAddr fi68_0 sz3 rfl rfl rfl) rfl rfl ?_
  refine r_q (q_loadb 0 rfl ag3 rfl rfl rfl) rfl rfl ?_
  refine r_q (q_lss rfl rfl rfl) rfl rfl ?_
  refine r_q (q_move rfl rfl) rfl rfl ?_
  rcases of_if h with ⟨c1, h⟩ | ⟨c1, h⟩
  · refine r_off rfl rfl rfl rfl (decide_eq_true c1) rfl ?_
    refine r_off rfl rfl rfl rfl (decide_eq_true c1) rfl ?_
    refine r_off rfl rfl rfl rfl (decide_eq_true c1) rfl ?_
    refine r_q (q_pick_t rfl rfl (decide_eq_true c1) rfl) rfl rfl ?_
    refine r_q (q_move rfl rfl) rfl rfl ?_
    refine r_off rfl rfl rfl rfl rfl rfl ?_
    refine r_off rfl rfl rfl rfl rfl rfl ?_
    refine r_off rfl rfl rfl rfl rfl rfl ?_
    refine r_q (q_pick_t rfl rfl rfl rfl) rfl rfl ?_
    refine r_q (q_move rfl rfl) rfl rfl ?_
    refine r_off rfl rfl rfl rfl rfl rfl ?_
    refine r_off rfl rfl rfl rfl rfl rfl ?_
    refine r_off rfl rfl rfl rfl rfl rfl ?_
    refine r_q (q_pick_t rfl rfl rfl rfl) rfl rfl ?_
    refine r_q (q_move rfl rfl) rfl rfl ?_
    refine r_off rfl rfl rfl rfl rfl rfl ?_
    refine r_off rfl rfl rfl rfl rfl rfl ?_
    refine r_off rfl rfl rfl rfl rfl rfl ?_
    refine r_off rfl rfl rfl rfl rfl rfl ?_
    refine r_q (q_pick_t rfl rfl rfl rfl) rfl rfl ?_
    refine r_q (q_move rfl rfl) rfl rfl ?_
    refine r_off rfl rfl rfl rfl rfl rfl ?_
    refine r_off rfl rfl rfl rfl rfl rfl ?_
    refine r_off rfl rfl rfl rfl rfl rfl ?_
    refine r_q (q_pick_t rfl rfl rfl rfl) rfl rfl ?_
    refine r_q (q_move rfl rfl) rfl rfl ?_
    refine r_off rfl rfl rfl rfl rfl rfl ?_
    refine r_off rfl rfl rfl rfl rfl rfl ?_
    refine r_off rfl rfl rfl rfl rfl rfl ?_
    refine r_q (q_pick_t rfl rfl rfl rfl) rfl rfl ?_
    refine r_nil ?_
    refine j_then ?_
    refine j_true rfl rfl ?_
    refine j_seq ?_
    refine j_region ?_
    refine r_q (q_assign rfl rfl) rfl rfl ?_
    refine r_nil ?_
    refine j_then ?_
    refine j_ret ?_
    refine j_then_ret ?_
    cases h
    exact j_return rfl (ResOf.tmp rfl ResOf.nil) rfl (fun w h => ⟨(), rfl, h.tail⟩)
  · refine r_qon (q_fieldAddr fi68_0 sz3 rfl rfl rfl) rfl rfl rfl rfl (decide_eq_false c1) rfl ?_
    refine r_qon (q_loadb 0 rfl ag3 rfl rfl rfl) rfl rfl rfl rfl (decide_eq_false c1) rfl ?_
    refine r_qon (q_gtr rfl rfl rfl) rfl rfl rfl rfl (decide_eq_false c1) rfl ?_
    refine r_q (q_pick_f rfl rfl (decide_eq_false c1) rfl) rfl rfl ?_
    refine r_q (q_move rfl rfl) rfl rfl ?_
    rcases of_if h with ⟨c2, h⟩ | ⟨c2, h⟩
    · refine r_off rfl rfl rfl rfl (decide_eq_true c2) rfl ?_
      refine r_off rfl rfl rfl rfl (decide_eq_true c2) rfl ?_
      refine r_off rfl rfl rfl rfl (decide_eq_true c2) rfl ?_
      refine r_q (q_pick_t rfl rfl (decide_eq_true c2) rfl) rfl rfl ?_
      refine r_q (q_move rfl rfl) rfl rfl ?_
      refine r_off rfl rfl rfl rfl rfl rfl ?_
      refine r_off rfl rfl rfl rfl rfl rfl ?_
      refine r_off rfl rfl rfl rfl rfl rfl ?_
      refine r_q (q_pick_t rfl rfl rfl rfl) rfl rfl ?_
      refine r_q (q_move rfl rfl) rfl rfl ?_
      refine r_off rfl rfl rfl rfl rfl rfl ?_
      refine r_off rfl rfl rfl rfl rfl rfl ?_
      refine r_off rfl rfl rfl rfl rfl rfl ?_
      refine r_off rfl rfl rfl rfl rfl rfl ?_
      refine r_q (q_pick_t rfl rfl rfl rfl) rfl rfl ?_
      refine r_q (q_move rfl rfl) rfl rfl ?_
      refine r_off rfl rfl rfl rfl rfl rfl ?_
      refine r_off rfl rfl rfl rfl rfl rfl ?_
      refine r_off rfl rfl rfl rfl rfl rfl ?_
      refine r_q (q_pick_t rfl rfl rfl rfl) rfl rfl ?_
      refine r_q (q_move rfl rfl) rfl rfl ?_
      refine r_off rfl rfl rfl rfl rfl rfl ?_
      refine r_off rfl rfl rfl rfl rfl rfl ?_
      refine r_off rfl rfl rfl rfl rfl rfl ?_
      refine r_q (q_pick_t rfl rfl rfl rfl) rfl rfl ?_
      refine r_nil ?_
      refine j_then ?_
      refine j_true rfl rfl ?_
      refine j_seq ?_
      refine j_region ?_
      refine r_q (q_assign rfl rfl) rfl rfl ?_
      refine r_nil ?_
      refine j_then ?_
      refine j_ret ?_
      refine j_then_ret ?_
      cases h
      exact j_return rfl (ResOf.tmp rfl ResOf.nil) rfl (fun w h => ⟨(), rfl, h.tail⟩)
    · refine r_qon (q_fieldAddr fi68_1 sz3 rfl rfl rfl) rfl rfl rfl rfl (decide_eq_false c2) rfl ?_
      refine r_qon (q_loadb 0 rfl ag3 rfl rfl rfl) rfl rfl rfl rfl (decide_eq_false c2) rfl ?_
      refine r_qon (q_lss rfl rfl rfl) rfl rfl rfl rfl (decide_eq_false c2) rfl ?_
      refine r_q (q_pick_f rfl rfl (decide_eq_false c2) rfl) rfl rfl ?_
      refine r_q (q_move rfl rfl) rfl rfl ?_
      rcases of_if h with ⟨c3, h⟩ | ⟨c3, h⟩
      · refine r_off rfl rfl rfl rfl (decide_eq_true c3) rfl ?_
        refine r_off rfl rfl rfl rfl (decide_eq_true c3) rfl ?_
        refine r_off rfl rfl rfl rfl (decide_eq_true c3) rfl ?_
        refine r_q (q_pick_t rfl rfl (decide_eq_true c3) rfl) rfl rfl ?_
        refine r_q (q_move rfl rfl) rfl rfl ?_
        refine r_off rfl rfl rfl rfl rfl rfl ?_
        refine r_off rfl rfl rfl rfl rfl rfl ?_
        refine r_off rfl rfl rfl rfl rfl rfl ?_
        refine r_off rfl rfl rfl rfl rfl rfl ?_
        refine r_q (q_pick_t rfl rfl rfl rfl) rfl rfl ?_
        refine r_q (q_move rfl rfl) rfl rfl ?_
        refine r_off rfl rfl rfl rfl rfl rfl ?_
        refine r_off rfl rfl rfl rfl rfl rfl ?_
        refine r_off rfl rfl rfl rfl rfl rfl ?_
        refine r_q (q_pick_t rfl rfl rfl rfl) rfl rfl ?_
        refine r_q (q_move rfl rfl) rfl rfl ?_
        refine r_off rfl rfl rfl rfl rfl rfl ?_
        refine r_off rfl rfl rfl rfl rfl rfl ?_
        refine r_off rfl rfl rfl rfl rfl rfl ?_
        refine r_q (q_pick_t rfl rfl rfl rfl) rfl rfl ?_
        refine r_nil ?_
        refine j_then ?_
        refine j_true rfl rfl ?_
        refine j_seq ?_
        refine j_region ?_
        refine r_q (q_assign rfl rfl) rfl rfl ?_
        refine r_nil ?_
        refine j_then ?_
        refine j_ret ?_
        refine j_then_ret ?_
        cases h
        exact j_return rfl (ResOf.tmp rfl ResOf.nil) rfl (fun w h => ⟨(), rfl, h.tail⟩)
      · refine r_qon (q_fieldAddr fi68_1 sz3 rfl rfl rfl) rfl rfl rfl rfl (decide_eq_false c3) rfl ?_
        refine r_qon (q_loadb 0 rfl ag3 rfl rfl rfl) rfl rfl rfl rfl (decide_eq_false c3) rfl ?_
        refine r_qon (q_geq rfl rfl rfl) rfl rfl rfl rfl (decide_eq_false c3) rfl ?_
        refine r_q (q_pick_f rfl rfl (decide_eq_false c3) rfl) rfl rfl ?_
        refine r_q (q_move rfl rfl) rfl rfl ?_
        rcases of_if h with ⟨c4, h⟩ | ⟨c4, h⟩
        · refine r_off rfl rfl rfl rfl (decide_eq_true c4) rfl ?_
          refine r_off rfl rfl rfl rfl (decide_eq_true c4) rfl ?_
          refine r_off rfl rfl rfl rfl (decide_eq_true c4) rfl ?_
          refine r_off rfl rfl rfl rfl (decide_eq_true c4) rfl ?_
          refine r_q (q_pick_t rfl rfl (decide_eq_true c4) rfl) rfl rfl ?_
          refine r_q (q_move rfl rfl) rfl rfl ?_
          refine r_off rfl rfl rfl rfl rfl rfl ?_
          refine r_off rfl rfl rfl rfl rfl rfl ?_
          refine r_off rfl rfl rfl rfl rfl rfl ?_
          refine r_q (q_pick_t rfl rfl rfl rfl) rfl rfl ?_
          refine r_q (q_move rfl rfl) rfl rfl ?_
          refine r_off rfl rfl rfl rfl rfl rfl ?_
          refine r_off rfl rfl rfl rfl rfl rfl ?_
          refine r_off rfl rfl rfl rfl rfl rfl ?_
          refine r_q (q_pick_t rfl rfl rfl rfl) rfl rfl ?_
          refine r_nil ?_
          refine j_then ?_
          refine j_true rfl rfl ?_
          refine j_seq ?_
          refine j_region ?_
          refine r_q (q_assign rfl rfl) rfl rfl ?_
          refine r_nil ?_
          refine j_then ?_
          refine j_ret ?_
          refine j_then_ret ?_
          cases h
          exact j_return rfl (ResOf.tmp rfl ResOf.nil) rfl (fun w h => ⟨(), rfl, h.tail⟩)
        · refine r_qon (q_fieldAddr fi68_1 sz3 rfl rfl rfl) rfl rfl rfl rfl (decide_eq_false c4) rfl ?_
          refine r_qon (q_loadb 0 rfl ag3 rfl rfl rfl) rfl rfl rfl rfl (decide_eq_false c4) rfl ?_
          refine r_qon (q_move rfl rfl) rfl rfl rfl rfl (decide_eq_false c4) rfl ?_
          refine r_qon (q_geq rfl rfl rfl) rfl rfl rfl rfl (decide_eq_false c4) rfl ?_
          refine r_q (q_pick_f rfl rfl (decide_eq_false c4) rfl) rfl rfl ?_
          refine r_q (q_move rfl rfl) rfl rfl ?_
          rcases of_if h with ⟨c5, h⟩ | ⟨c5, h⟩
          · refine r_off rfl rfl rfl rfl (decide_eq_true c5) rfl ?_
            refine r_off rfl rfl rfl rfl (decide_eq_true c5) rfl ?_
            refine r_off rfl rfl rfl rfl (decide_eq_true c5) rfl ?_
            refine r_q (q_pick_t rfl rfl (decide_eq_true c5) rfl) rfl rfl ?_
            refine r_q (q_move rfl rfl) rfl rfl ?_
            refine r_off rfl rfl rfl rfl rfl rfl ?_
            refine r_off rfl rfl rfl rfl rfl rfl ?_
            refine r_off rfl rfl rfl rfl rfl rfl ?_
            refine r_q (q_pick_t rfl rfl rfl rfl) rfl rfl ?_
            refine r_nil ?_
            refine j_then ?_
            refine j_true rfl rfl ?_
            refine j_seq ?_
            refine j_region ?_
            refine r_q (q_assign rfl rfl) rfl rfl ?_
            refine r_nil ?_
            refine j_then ?_
            refine j_ret ?_
            refine j_then_ret ?_
            cases h
            exact j_return rfl (ResOf.tmp rfl ResOf.nil) rfl (fun w h => ⟨(), rfl, h.tail⟩)
          · refine r_qon (q_fieldAddr fi68_2 sz3 rfl rfl rfl) rfl rfl rfl rfl (decide_eq_false c5) rfl ?_
            refine r_qon (q_loadb 0 rfl ag3 rfl rfl rfl) rfl rfl rfl rfl (decide_eq_false c5) rfl ?_
            refine r_qon (q_lss rfl rfl rfl) rfl rfl rfl rfl (decide_eq_false c5) rfl ?_
            refine r_q (q_pick_f rfl rfl (decide_eq_false c5) rfl) rfl rfl ?_
            refine r_q (q_move rfl rfl) rfl rfl ?_
            rcases of_if h with ⟨c6, h⟩ | ⟨c6, h⟩
            · refine r_off rfl rfl rfl rfl (decide_eq_true c6) rfl ?_
              refine r_off rfl rfl rfl rfl (decide_eq_true c6) rfl ?_
              refine r_off rfl rfl rfl rfl (decide_eq_true c6) rfl ?_
              refine r_q (q_pick_t rfl rfl (decide_eq_true c6) rfl) rfl rfl ?_
              refine r_nil ?_
              refine j_then ?_
              refine j_true rfl rfl ?_
              refine j_seq ?_
              refine j_region ?_
              refine r_q (q_assign rfl rfl) rfl rfl ?_
              refine r_nil ?_
              refine j_then ?_
              refine j_ret ?_
              refine j_then_ret ?_
              cases h
              exact j_return rfl (ResOf.tmp rfl ResOf.nil) rfl (fun w h => ⟨(), rfl, h.tail⟩)
            · refine r_qon (q_fieldAddr fi68_2 sz3 rfl rfl rfl) rfl rfl rfl rfl (decide_eq_false c6) rfl ?_
              refine r_qon (q_loadb 0 rfl ag3 rfl rfl rfl) rfl rfl rfl rfl (decide_eq_false c6) rfl ?_
              refine r_qon (q_geq rfl rfl rfl) rfl rfl rfl rfl (decide_eq_false c6) rfl ?_
              refine r_q (q_pick_f rfl rfl (decide_eq_false c6) rfl) rfl rfl ?_
              refine r_nil ?_
              refine j_then ?_
              rcases of_if h with ⟨c7, h⟩ | ⟨c7, h⟩
              · refine j_true rfl (decide_eq_true c7) ?_
                refine j_seq ?_
                refine j_region ?_
                refine r_q (q_assign rfl rfl) rfl rfl ?_
                refine r_nil ?_
                refine j_then ?_
                refine j_ret ?_
                refine j_then_ret ?_
                cases h
                exact j_return rfl (ResOf.tmp rfl ResOf.nil) rfl (fun w h => ⟨(), rfl, h.tail⟩)
              · refine j_false rfl (decide_eq_false c7) ?_
                refine j_skip ?_
                refine j_then ?_
                refine j_seq ?_
                refine j_seq ?_
                refine j_region ?_
                refine r_q (q_fieldAddr fi68_0 sz3 rfl rfl rfl) rfl rfl ?_
                refine r_q (q_loadb 0 rfl ag3 rfl rfl rfl) rfl rfl ?_
                refine r_q (q_eql rfl rfl rfl) rfl rfl ?_
                refine r_q (q_move rfl rfl) rfl rfl ?_
                rcases of_if h with ⟨c8, h⟩ | ⟨c8, h⟩
                · refine r_off rfl rfl rfl rfl (beq_t c8) rfl ?_
                  refine r_off rfl rfl rfl rfl (beq_t c8) rfl ?_
                  refine r_off rfl rfl rfl rfl (beq_t c8) rfl ?_
                  refine r_q (q_pick_t rfl rfl (beq_t c8) rfl) rfl rfl ?_
                  refine r_nil ?_
                  refine j_then ?_
                  refine j_true rfl rfl ?_
                  refine j_seq ?_
                  refine j_region ?_
                  refine r_q (q_fieldAddr fi68_2 sz3 rfl rfl rfl) rfl rfl ?_
                  refine r_q (q_loadb 0 rfl ag3 rfl rfl rfl) rfl rfl ?_
                  refine r_q (q_eql rfl rfl rfl) rfl rfl ?_
                  refine r_q (q_assign rfl rfl) rfl rfl ?_
                  refine r_nil ?_
                  refine j_then ?_
                  refine j_ret ?_
                  refine j_then_ret ?_
                  cases h
                  exact j_return rfl (ResOf.tmp rfl ResOf.nil) rfl (fun w h => ⟨(), rfl, h.tail⟩)
                · refine r_qon (q_fieldAddr fi68_0 sz3 rfl rfl rfl) rfl rfl rfl rfl (beq_f c8) rfl ?_
                  refine r_qon (q_loadb 0 rfl ag3 rfl rfl rfl) rfl rfl rfl rfl (beq_f c8) rfl ?_
                  refine r_qon (q_eql rfl rfl rfl) rfl rfl rfl rfl (beq_f c8) rfl ?_
                  refine r_q (q_pick_f rfl rfl (beq_f c8) rfl) rfl rfl ?_
                  refine r_nil ?_
                  refine j_then ?_
                  rcases of_if h with ⟨c9, h⟩ | ⟨c9, h⟩
                  · refine j_true rfl (beq_t c9) ?_
                    refine j_seq ?_
                    refine j_region ?_
                    refine r_q (q_fieldAddr fi68_2 sz3 rfl rfl rfl) rfl rfl ?_
                    refine r_q (q_loadb 0 rfl ag3 rfl rfl rfl) rfl rfl ?_
                    refine r_q (q_eql rfl rfl rfl) rfl rfl ?_
                    refine r_q (q_assign rfl rfl) rfl rfl ?_
                    refine r_nil ?_
                    refine j_then ?_
                    refine j_ret ?_
                    refine j_then_ret ?_
                    cases h
                    exact j_return rfl (ResOf.tmp rfl ResOf.nil) rfl (fun w h => ⟨(), rfl, h.tail⟩)
                  · refine j_false rfl (beq_f c9) ?_
                    refine j_skip ?_
                    refine j_then ?_
                    refine j_seq ?_
                    refine j_region ?_
                    refine r_q (q_fieldAddr fi68_2 sz3 rfl rfl rfl) rfl rfl ?_
                    refine r_q (q_loadb 0 rfl ag3 rfl rfl rfl) rfl rfl ?_
                    refine r_q (q_move rfl rfl) rfl rfl ?_
                    refine r_q (q_lss rfl rfl rfl) rfl rfl ?_
                    refine r_q (q_assign rfl rfl) rfl rfl ?_
                    refine r_nil ?_
                    refine j_then ?_
                    refine j_ret ?_
                    cases h
                    exact j_return rfl (ResOf.tmp rfl ResOf.nil) rfl (fun w h => ⟨(), rfl, h.tail⟩)

theorem impl_opsOk.calls (K : Nat) (a0 : List (Int × Int × Int)) (a0_A : Option Addr) (a0_n a0_c : Nat) (a1 : Int) {w0 w : World} {F : List Res} {r1 : Bool} (hm : Mem w0 (F) w) (a0_h : a0.length = a0_n) (a0_R : Rd w0 F a0_A (trips a0)) (h : impl_opsOk.f K a0 a1 = some r1) :
    Calls Try.prog 47 (List.toArray [.slice a0_A a0_n a0_c, i6 a1]) w fun e w' => ∃ x : Unit, e = .returned (.bool r1) ∧ Mem w0 (F) w' := by
  unfold impl_opsOk.f at h
  refine calls_of_J (n := 21) Try.func47 rfl rfl rfl hm ?_
  refine j_seq ?_
  refine j_region ?_
  refine r_q (q_assign rfl rfl) rfl rfl ?_
  refine r_nil ?_
  refine j_then ?_
  refine j_seq ?_
  refine j_seq ?_
  refine j_region ?_
  refine r_q (q_move rfl rfl) rfl rfl ?_
  refine r_q (q_lenX a0 a0_h un38 rfl rfl rfl rfl rfl) rfl rfl ?_
  refine r_q (q_move rfl rfl) rfl rfl ?_
  refine r_nil ?_
  refine j_then ?_
  obtain ⟨κ0, h, hκ0⟩ := ex_k (g := fun κ => impl_opsOk.loop0 K κ a0 a1 K (0:Int) = some r1) h
  refine j_cut (σ := Unit) (fun s => [(0, (.slice a0_A a0_n a0_c))]) (fun s => F) (fun s => κ0 () = some r1) ?_ ?_
  · refine j_block ?_
    refine j_loop (σ := Int) (fun s => [(0, (.slice a0_A a0_n a0_c)), (1, (i6 a1)), (7, (.slice a0_A a0_n a0_c)), (8, (i6 (a0.length : Int))), (9, (i6 s))]) (fun s => F) (fun m s => impl_opsOk.loop0 K κ0 a0 a1 m s = some r1) K (0:Int) h (fun a he => he.sub ⟨rfl, rfl, rfl, rfl, rfl, trivial⟩) (fun w h => h) ?_
    rintro m p2 h
    cases m with
    | zero => exact absurd h (by rw [impl_opsOk.loop0]; exact nofun)
    | succ m =>
      rw [impl_opsOk.loop0] at h
      show J _ _ [(0, (.slice a0_A a0_n a0_c)), (1, (i6 a1)), (7, (.slice a0_A a0_n a0_c)), (8, (i6 (a0.length : Int))), (9, (i6 p2))] _ (F)
      refine j_seq ?_
      refine j_region ?_
      refine r_q (q_lss rfl rfl rfl) rfl rfl ?_
      refine r_nil ?_
      refine j_then ?_
      refine j_seq ?_
      rcases of_if h with ⟨c10, h⟩ | ⟨c10, h⟩
      · refine j_true rfl (decide_eq_true c10) ?_
        refine j_skip ?_
        refine j_then ?_
        refine j_seq ?_
        refine j_block ?_
        refine j_seq ?_
        refine j_region ?_
        obtain ⟨c11, h⟩ := of_guard h
        refine r_q (q_ix a0_R (trips_len a0) (by decide) a0_h c11 un38 sz68 rfl rfl rfl) rfl rfl ?_
        refine r_q (q_ldT a0_R c11 ag68 sz68 rfl rfl) rfl rfl ?_
        refine r_do (a_alloc zr68 rfl) rfl rfl (fun x1 => ?_)
        refine r_do (a_storeb 0 rfl sz68 rfl rfl rfl rfl (Nat.le_of_ble_eq_true rfl) rfl) rfl rfl (fun _ => ?_)
        refine j_b0 [(i6 (rdt a0 p2).1), (i6 (rdt a0 p2).2.1), (i6 (rdt a0 p2).2.2)] rfl ?_
        refine r_nil ?_
        refine j_then ?_
        refine j_seq ?_
        refine j_region ?_
        refine r_q (q_loadb_agg 0 rfl ag68 sz68 rfl rfl rfl rfl) rfl rfl ?_
        refine r_q (q_move rfl rfl) rfl rfl ?_
        obtain ⟨v4, hb4, h⟩ := of_b1 h
        refine r_do (a_call ok76 rfl rfl rfl rfl (fun w hm => impl_OpValid.calls K (rdt a0 p2).1 (rdt a0 p2).2.1 (rdt a0 p2).2.2 a1 hm hb4)) rfl rfl (fun x2 => ?_)
        refine r_q (q_not rfl rfl) rfl rfl ?_
        refine r_nil ?_
        refine j_then ?_
        rcases of_if h with ⟨c12, h⟩ | ⟨c12, h⟩
        · refine j_false rfl (not_f c12) ?_
          refine j_skip ?_
          refine j_in ?_
          refine j_then ?_
          refine j_region ?_
          refine r_q (q_add rfl rfl rfl) rfl rfl ?_
          refine r_q (q_move rfl rfl) rfl rfl ?_
          refine r_nil ?_
          refine j_then ?_
          exact j_again m (wrap64 (p2 + (1:Int))) (Nat.lt_succ_self m) h (fun a he => he.sub ⟨rfl, rfl, rfl, rfl, rfl, trivial⟩) (fun w h => h.tail)
        · refine j_true rfl (not_t (var_f c12)) ?_
          refine j_seq ?_
          refine j_region ?_
          refine r_q (q_assign rfl rfl) rfl rfl ?_
          refine r_nil ?_
          refine j_then ?_
          refine j_ret ?_
          refine j_in_ret ?_
          refine j_then_ret ?_
          refine j_then_ret ?_
          refine j_in_ret ?_
          refine j_then_ret ?_
          refine j_then_ret ?_
          cases h
          exact j_return rfl (ResOf.tmp rfl ResOf.nil) rfl (fun w h => ⟨(), rfl, h.tail⟩)
      · refine j_false rfl (decide_eq_false c10) ?_
        refine j_exit ?_
        refine j_then_exit ?_
        refine j_then_exit ?_
        refine j_in_exit ?_
        refine j_then ?_
        exact j_meet () h (fun a he => he.sub ⟨rfl, trivial⟩) (fun w h => h)
  · rintro _ h
    subst hκ0
    show J _ _ [(0, (.slice a0_A a0_n a0_c))] _ (F)
    refine j_then ?_
    refine j_seq ?_
    refine j_region ?_
    refine r_q (q_move rfl rfl) rfl rfl ?_
    refine r_q (q_lenX a0 a0_h un38 rfl rfl rfl rfl rfl) rfl rfl ?_
    refine r_q (q_leq rfl rfl rfl) rfl rfl ?_
    refine r_q (q_assign rfl rfl) rfl rfl ?_
    refine r_nil ?_
    refine j_then ?_
    refine j_ret ?_
    cases h
    exact j_return rfl (ResOf.tmp rfl ResOf.nil) rfl (fun w h => ⟨(), rfl, h⟩)

theorem spec_l5Word.calls (K : Nat) (a0 : Int) {w0 w : World} {F : List Res} {r1 : ByteArray} (hm : Mem w0 (F) w)  (h : spec_l5Word.f K a0 = some r1) :
    Calls Try.prog 97 (List.toArray [i6 a0]) w fun e w' => ∃ x : Unit, e = .returned (.string r1) ∧ Mem w0 (F) w' := by
  unfold spec_l5Word.f at h
  refine calls_of_J (n := 15) Try.func97 rfl rfl rfl hm ?_
  refine j_seq ?_
  refine j_region ?_
  refine r_q (q_assign rfl rfl) rfl rfl ?_
  refine r_nil ?_
  refine j_then ?_
  refine j_seq ?_
  refine j_region ?_
  refine r_do (a_litX (vs := [(.string (⟨#[]⟩ : ByteArray)), (.string (⟨#[110, 101, 119]⟩ : ByteArray)), (.string (⟨#[99, 111, 112, 121]⟩ : ByteArray)), (.string (⟨#[108, 101, 102, 116]⟩ : ByteArray)), (.string (⟨#[114, 105, 103, 104, 116]⟩ : ByteArray)), (.string (⟨#[112, 117, 116, 108, 101, 102, 116]⟩ : ByteArray)), (.string (⟨#[112, 117, 116, 114, 105, 103, 104, 116]⟩ : ByteArray)), (.string (⟨#[99, 108, 101, 97, 114]⟩ : ByteArray))]) (strs ([(⟨#[]⟩ : ByteArray), (⟨#[110, 101, 119]⟩ : ByteArray), (⟨#[99, 111, 112, 121]⟩ : ByteArray), (⟨#[108, 101, 102, 116]⟩ : ByteArray), (⟨#[114, 105, 103, 104, 116]⟩ : ByteArray), (⟨#[112, 117, 116, 108, 101, 102, 116]⟩ : ByteArray), (⟨#[112, 117, 116, 114, 105, 103, 104, 116]⟩ : ByteArray), (⟨#[99, 108, 101, 97, 114]⟩ : ByteArray)] : List ByteArray)) un127 sz9 zr9 rfl rfl rfl rfl rfl rfl rfl rfl rfl) rfl rfl (fun x1 => ?_)
  refine r_q (q_assign rfl rfl) rfl rfl ?_
  refine r_nil ?_
  refine j_then ?_
  refine j_seq ?_
  refine j_seq ?_
  refine j_region ?_
  refine r_q (q_move rfl rfl) rfl rfl ?_
  refine r_q (q_lss rfl rfl rfl) rfl rfl ?_
  refine r_q (q_move rfl rfl) rfl rfl ?_
  rcases of_if h with ⟨c1, h⟩ | ⟨c1, h⟩
  · refine r_off rfl rfl rfl rfl (decide_eq_true c1) rfl ?_
    refine r_off rfl rfl rfl rfl (decide_eq_true c1) rfl ?_
    refine r_q (q_pick_t rfl rfl (decide_eq_true c1) rfl) rfl rfl ?_
    refine r_nil ?_
    refine j_then ?_
    refine j_true rfl rfl ?_
    refine j_seq ?_
    refine j_region ?_
    refine r_q (q_assign rfl rfl) rfl rfl ?_
    refine r_nil ?_
    refine j_then ?_
    refine j_ret ?_
    refine j_then_ret ?_
    cases h
    exact j_return rfl (ResOf.tmp rfl ResOf.nil) rfl (fun w h => ⟨(), rfl, h.tail⟩)
  · refine r_qon (q_move rfl rfl) rfl rfl rfl rfl (decide_eq_false c1) rfl ?_
    refine r_qon (q_gtr rfl rfl rfl) rfl rfl rfl rfl (decide_eq_false c1) rfl ?_
    refine r_q (q_pick_f rfl rfl (decide_eq_false c1) rfl) rfl rfl ?_
    refine r_nil ?_
    refine j_then ?_
    rcases of_if h with ⟨c2, h⟩ | ⟨c2, h⟩
    · refine j_true rfl (decide_eq_true c2) ?_
      refine j_seq ?_
      refine j_region ?_
      refine r_q (q_assign rfl rfl) rfl rfl ?_
      refine r_nil ?_
      refine j_then ?_
      refine j_ret ?_
      refine j_then_ret ?_
      cases h
      exact j_return rfl (ResOf.tmp rfl ResOf.nil) rfl (fun w h => ⟨(), rfl, h.tail⟩)
    · refine j_false rfl (decide_eq_false c2) ?_
      refine j_skip ?_
      refine j_then ?_
      refine j_seq ?_
      refine j_region ?_
      refine r_q (q_move rfl rfl) rfl rfl ?_
      refine r_q (q_move rfl rfl) rfl rfl ?_
      obtain ⟨c3, h⟩ := of_guard h
      refine r_q (q_ix (Rd.row 0 rfl) (strs_len1 ([(⟨#[]⟩ : ByteArray), (⟨#[110, 101, 119]⟩ : ByteArray), (⟨#[99, 111, 112, 121]⟩ : ByteArray), (⟨#[108, 101, 102, 116]⟩ : ByteArray), (⟨#[114, 105, 103, 104, 116]⟩ : ByteArray), (⟨#[112, 117, 116, 108, 101, 102, 116]⟩ : ByteArray), (⟨#[112, 117, 116, 114, 105, 103, 104, 116]⟩ : ByteArray), (⟨#[99, 108, 101, 97, 114]⟩ : ByteArray)] : List ByteArray)) (by decide) rfl c3 un127 sz9 rfl rfl rfl) rfl rfl ?_
      refine r_q (q_ldS (Rd.row 0 rfl) c3 ag9 rfl rfl) rfl rfl ?_
      refine r_q (q_assign rfl rfl) rfl rfl ?_
      refine r_nil ?_
      refine j_then ?_
      refine j_ret ?_
      cases h
      exact j_return rfl (ResOf.tmp rfl ResOf.nil) rfl (fun w h => ⟨(), rfl, h.tail⟩)

theorem spec_OpValid.calls (K : Nat) (a0_0 : Int) (a0_1 : Int) (a0_2 : Int) (a1 : Int) {w0 w : World} {F : List Res} {r1 : Bool} (hm : Mem w0 (F) w)  (h : spec_OpValid.f K a0_0 a0_1 a0_2 a1 = some r1) :
    Calls Try.prog 80 (List.toArray [.agg (List.toArray [i6 a0_0, i6 a0_1, i6 a0_2]), i6 a1]) w fun e w' => ∃ x : Unit, e = .returned (.bool r1) ∧ Mem w0 (F) w' := by
  unfold spec_OpValid.f at h
  refine calls_of_J (n := 45) Try.func80 rfl rfl rfl hm ?_
  refine j_seq ?_
  refine j_region ?_
  refine r_do (a_box rfl rfl) rfl rfl (fun x1 => ?_)
  refine r_q (q_assign rfl rfl) rfl rfl ?_
  refine r_nil ?_
  refine j_then ?_
  refine j_seq ?_
  refine j_seq ?_
  refine j_region ?_
  refine r_q (q_fieldAddr fi68_0 sz3 rfl rfl rfl) rfl rfl ?_
  refine r_q (q_loadb 0 rfl ag3 rfl rfl rfl) rfl rfl ?_
  obtain ⟨v1, hb1, h⟩ := of_b1 h
  refine r_do (a_call ok97 rfl rfl rfl rfl (fun w hm => spec_l5Word.calls K a0_0 hm hb1)) rfl rfl (fun x2 => ?_)
  refine r_q (q_seql rfl rfl rfl) rfl rfl ?_
  refine r_q (q_move rfl rfl) rfl rfl ?_
  rcases of_if h with ⟨c1, h⟩ | ⟨c1, h⟩
  · refine r_off rfl rfl rfl rfl (beq_t c1) rfl ?_
    refine r_off rfl rfl rfl rfl (beq_t c1) rfl ?_
    refine r_off rfl rfl rfl rfl (beq_t c1) rfl ?_
    refine r_q (q_pick_t rfl rfl (beq_t c1) rfl) rfl rfl ?_
    refine r_q (q_move rfl rfl) rfl rfl ?_
    refine r_off rfl rfl rfl rfl rfl rfl ?_
    refine r_off rfl rfl rfl rfl rfl rfl ?_
    refine r_off rfl rfl rfl rfl rfl rfl ?_
    refine r_off rfl rfl rfl rfl rfl rfl ?_
    refine r_q (q_pick_t rfl rfl rfl rfl) rfl rfl ?_
    refine r_q (q_move rfl rfl) rfl rfl ?_
    refine r_off rfl rfl rfl rfl rfl rfl ?_
    refine r_off rfl rfl rfl rfl rfl rfl ?_
    refine r_off rfl rfl rfl rfl rfl rfl ?_
    refine r_q (q_pick_t rfl rfl rfl rfl) rfl rfl ?_
    refine r_q (q_move rfl rfl) rfl rfl ?_
    refine r_off rfl rfl rfl rfl rfl rfl ?_
    refine r_off rfl rfl rfl rfl rfl rfl ?_
    refine r_off rfl rfl rfl rfl rfl rfl ?_
    refine r_q (q_pick_t rfl rfl rfl rfl) rfl rfl ?_
    refine r_q (q_move rfl rfl) rfl rfl ?_
    refine r_off rfl rfl rfl rfl rfl rfl ?_
    refine r_off rfl rfl rfl rfl rfl rfl ?_
    refine r_off rfl rfl rfl rfl rfl rfl ?_
    refine r_q (q_pick_t rfl rfl rfl rfl) rfl rfl ?_
    refine r_nil ?_
    refine j_then ?_
    refine j_true rfl rfl ?_
    refine j_seq ?_
    refine j_region ?_
    refine r_q (q_assign rfl rfl) rfl rfl ?_
    refine r_nil ?_
    refine j_then ?_
    refine j_ret ?_
    refine j_then_ret ?_
    cases h
    exact j_return rfl (ResOf.tmp rfl ResOf.nil) rfl (fun w h => ⟨(), rfl, h.tail⟩)
  · refine r_qon (q_fieldAddr fi68_1 sz3 rfl rfl rfl) rfl rfl rfl rfl (beq_f c1) rfl ?_
    refine r_qon (q_loadb 0 rfl ag3 rfl rfl rfl) rfl rfl rfl rfl (beq_f c1) rfl ?_
    refine r_qon (q_lss rfl rfl rfl) rfl rfl rfl rfl (beq_f c1) rfl ?_
    refine r_q (q_pick_f rfl rfl (beq_f c1) rfl) rfl rfl ?_
    refine r_q (q_move rfl rfl) rfl rfl ?_
    rcases of_if h with ⟨c2, h⟩ | ⟨c2, h⟩
    · refine r_off rfl rfl rfl rfl (decide_eq_true c2) rfl ?_
      refine r_off rfl rfl rfl rfl (decide_eq_true c2) rfl ?_
      refine r_off rfl rfl rfl rfl (decide_eq_true c2) rfl ?_
      refine r_off rfl rfl rfl rfl (decide_eq_true c2) rfl ?_
      refine r_q (q_pick_t rfl rfl (decide_eq_true c2) rfl) rfl rfl ?_
      refine r_q (q_move rfl rfl) rfl rfl ?_
      refine r_off rfl rfl rfl rfl rfl rfl ?_
      refine r_off rfl rfl rfl rfl rfl rfl ?_
      refine r_off rfl rfl rfl rfl rfl rfl ?_
      refine r_q (q_pick_t rfl rfl rfl rfl) rfl rfl ?_
      refine r_q (q_move rfl rfl) rfl rfl ?_
      refine r_off rfl rfl rfl rfl rfl rfl ?_
      refine r_off rfl rfl rfl rfl rfl rfl ?_
      refine r_off rfl rfl rfl rfl rfl rfl ?_
      refine r_q (q_pick_t rfl rfl rfl rfl) rfl rfl ?_
      refine r_q (q_move rfl rfl) rfl rfl ?_
      refine r_off rfl rfl rfl rfl rfl rfl ?_
      refine r_off rfl rfl rfl rfl rfl rfl ?_
      refine r_off rfl rfl rfl rfl rfl rfl ?_
      refine r_q (q_pick_t rfl rfl rfl rfl) rfl rfl ?_
      refine r_nil ?_
      refine j_then ?_
      refine j_true rfl rfl ?_
      refine j_seq ?_
      refine j_region ?_
      refine r_q (q_assign rfl rfl) rfl rfl ?_
      refine r_nil ?_
      refine j_then ?_
      refine j_ret ?_
      refine j_then_ret ?_
      cases h
      exact j_return rfl (ResOf.tmp rfl ResOf.nil) rfl (fun w h => ⟨(), rfl, h.tail⟩)
    · refine r_qon (q_fieldAddr fi68_1 sz3 rfl rfl rfl) rfl rfl rfl rfl (decide_eq_false c2) rfl ?_
      refine r_qon (q_loadb 0 rfl ag3 rfl rfl rfl) rfl rfl rfl rfl (decide_eq_false c2) rfl ?_
      refine r_qon (q_move rfl rfl) rfl rfl rfl rfl (decide_eq_false c2) rfl ?_
      refine r_qon (q_geq rfl rfl rfl) rfl rfl rfl rfl (decide_eq_false c2) rfl ?_
      refine r_q (q_pick_f rfl rfl (decide_eq_false c2) rfl) rfl rfl ?_
      refine r_q (q_move rfl rfl) rfl rfl ?_
      rcases of_if h with ⟨c3, h⟩ | ⟨c3, h⟩
      · refine r_off rfl rfl rfl rfl (decide_eq_true c3) rfl ?_
        refine r_off rfl rfl rfl rfl (decide_eq_true c3) rfl ?_
        refine r_off rfl rfl rfl rfl (decide_eq_true c3) rfl ?_
        refine r_q (q_pick_t rfl rfl (decide_eq_true c3) rfl) rfl rfl ?_
        refine r_q (q_move rfl rfl) rfl rfl ?_
        refine r_off rfl rfl rfl rfl rfl rfl ?_
        refine r_off rfl rfl rfl rfl rfl rfl ?_
        refine r_off rfl rfl rfl rfl rfl rfl ?_
        refine r_q (q_pick_t rfl rfl rfl rfl) rfl rfl ?_
        refine r_q (q_move rfl rfl) rfl rfl ?_
        refine r_off rfl rfl rfl rfl rfl rfl ?_
        refine r_off rfl rfl rfl rfl rfl rfl ?_
        refine r_off rfl rfl rfl rfl rfl rfl ?_
        refine r_q (q_pick_t rfl rfl rfl rfl) rfl rfl ?_
        refine r_nil ?_
        refine j_then ?_
        refine j_true rfl rfl ?_
        refine j_seq ?_
        refine j_region ?_
        refine r_q (q_assign rfl rfl) rfl rfl ?_
        refine r_nil ?_
        refine j_then ?_
        refine j_ret ?_
        refine j_then_ret ?_
        cases h
        exact j_return rfl (ResOf.tmp rfl ResOf.nil) rfl (fun w h => ⟨(), rfl, h.tail⟩)
      · refine r_qon (q_fieldAddr fi68_1 sz3 rfl rfl rfl) rfl rfl rfl rfl (decide_eq_false c3) rfl ?_
        refine r_qon (q_loadb 0 rfl ag3 rfl rfl rfl) rfl rfl rfl rfl (decide_eq_false c3) rfl ?_
        refine r_qon (q_geq rfl rfl rfl) rfl rfl rfl rfl (decide_eq_false c3) rfl ?_
        refine r_q (q_pick_f rfl rfl (decide_eq_false c3) rfl) rfl rfl ?_
        refine r_q (q_move rfl rfl) rfl rfl ?_
        rcases of_if h with ⟨c4, h⟩ | ⟨c4, h⟩
        · refine r_off rfl rfl rfl rfl (decide_eq_true c4) rfl ?_
          refine r_off rfl rfl rfl rfl (decide_eq_true c4) rfl ?_
          refine r_off rfl rfl rfl rfl (decide_eq_true c4) rfl ?_
          refine r_q (q_pick_t rfl rfl (decide_eq_true c4) rfl) rfl rfl ?_
          refine r_q (q_move rfl rfl) rfl rfl ?_
          refine r_off rfl rfl rfl rfl rfl rfl ?_
          refine r_off rfl rfl rfl rfl rfl rfl ?_
          refine r_off rfl rfl rfl rfl rfl rfl ?_
          refine r_q (q_pick_t rfl rfl rfl rfl) rfl rfl ?_
          refine r_nil ?_
          refine j_then ?_
          refine j_true rfl rfl ?_
          refine j_seq ?_
          refine j_region ?_
          refine r_q (q_assign rfl rfl) rfl rfl ?_
          refine r_nil ?_
          refine j_then ?_
          refine j_ret ?_
          refine j_then_ret ?_
          cases h
          exact j_return rfl (ResOf.tmp rfl ResOf.nil) rfl (fun w h => ⟨(), rfl, h.tail⟩)
        · refine r_qon (q_fieldAddr fi68_2 sz3 rfl rfl rfl) rfl rfl rfl rfl (decide_eq_false c4) rfl ?_
          refine r_qon (q_loadb 0 rfl ag3 rfl rfl rfl) rfl rfl rfl rfl (decide_eq_false c4) rfl ?_
          refine r_qon (q_lss rfl rfl rfl) rfl rfl rfl rfl (decide_eq_false c4) rfl ?_
          refine r_q (q_pick_f rfl rfl (decide_eq_false c4) rfl) rfl rfl ?_
          refine r_q (q_move rfl rfl) rfl rfl ?_
          rcases of_if h with ⟨c5, h⟩ | ⟨c5, h⟩
          · refine r_off rfl rfl rfl rfl (decide_eq_true c5) rfl ?_
            refine r_off rfl rfl rfl rfl (decide_eq_true c5) rfl ?_
            refine r_off rfl rfl rfl rfl (decide_eq_true c5) rfl ?_
            refine r_q (q_pick_t rfl rfl (decide_eq_true c5) rfl) rfl rfl ?_
            refine r_nil ?_
            refine j_then ?_
            refine j_true rfl rfl ?_
            refine j_seq ?_
            refine j_region ?_
            refine r_q (q_assign rfl rfl) rfl rfl ?_
            refine r_nil ?_
            refine j_then ?_
            refine j_ret ?_
            refine j_then_ret ?_
            cases h
            exact j_return rfl (ResOf.tmp rfl ResOf.nil) rfl (fun w h => ⟨(), rfl, h.tail⟩)
          · refine r_qon (q_fieldAddr fi68_2 sz3 rfl rfl rfl) rfl rfl rfl rfl (decide_eq_false c5) rfl ?_
            refine r_qon (q_loadb 0 rfl ag3 rfl rfl rfl) rfl rfl rfl rfl (decide_eq_false c5) rfl ?_
            refine r_qon (q_geq rfl rfl rfl) rfl rfl rfl rfl (decide_eq_false c5) rfl ?_
            refine r_q (q_pick_f rfl rfl (decide_eq_false c5) rfl) rfl rfl ?_
            refine r_nil ?_
            refine j_then ?_
            rcases of_if h with ⟨c6, h⟩ | ⟨c6, h⟩
            · refine j_true rfl (decide_eq_true c6) ?_
              refine j_seq ?_
              refine j_region ?_
              refine r_q (q_assign rfl rfl) rfl rfl ?_
              refine r_nil ?_
              refine j_then ?_
              refine j_ret ?_
              refine j_then_ret ?_
              cases h
              exact j_return rfl (ResOf.tmp rfl ResOf.nil) rfl (fun w h => ⟨(), rfl, h.tail⟩)
            · refine j_false rfl (decide_eq_false c6) ?_
              refine j_skip ?_
              refine j_then ?_
              refine j_seq ?_
              refine j_seq ?_
              refine j_region ?_
              refine r_q (q_fieldAddr fi68_0 sz3 rfl rfl rfl) rfl rfl ?_
              refine r_q (q_loadb 0 rfl ag3 rfl rfl rfl) rfl rfl ?_
              obtain ⟨v2, hb2, h⟩ := of_b1 h
              refine r_do (a_call ok98 rfl rfl rfl rfl (fun w hm => spec_l5One.calls K a0_0 hm hb2)) rfl rfl (fun x3 => ?_)
              refine r_nil ?_
              refine j_then ?_
              rcases of_if h with ⟨c7, h⟩ | ⟨c7, h⟩
              · refine j_true rfl c7 ?_
                refine j_seq ?_
                refine j_region ?_
                refine r_q (q_fieldAddr fi68_2 sz3 rfl rfl rfl) rfl rfl ?_
                refine r_q (q_loadb 0 rfl ag3 rfl rfl rfl) rfl rfl ?_
                refine r_q (q_eql rfl rfl rfl) rfl rfl ?_
                refine r_q (q_assign rfl rfl) rfl rfl ?_
                refine r_nil ?_
                refine j_then ?_
                refine j_ret ?_
                refine j_then_ret ?_
                cases h
                exact j_return rfl (ResOf.tmp rfl ResOf.nil) rfl (fun w h => ⟨(), rfl, h.tail⟩)
              · refine j_false rfl (var_f c7) ?_
                refine j_skip ?_
                refine j_then ?_
                refine j_seq ?_
                refine j_region ?_
                refine r_q (q_fieldAddr fi68_2 sz3 rfl rfl rfl) rfl rfl ?_
                refine r_q (q_loadb 0 rfl ag3 rfl rfl rfl) rfl rfl ?_
                refine r_q (q_move rfl rfl) rfl rfl ?_
                refine r_q (q_lss rfl rfl rfl) rfl rfl ?_
                refine r_q (q_assign rfl rfl) rfl rfl ?_
                refine r_nil ?_
                refine j_then ?_
                refine j_ret ?_
                cases h
                exact j_return rfl (ResOf.tmp rfl ResOf.nil) rfl (fun w h => ⟨(), rfl, h.tail⟩)

theorem spec_l7Ops.calls (K : Nat) (a0 : List (Int × Int × Int)) (a0_A : Option Addr) (a0_n a0_c : Nat) (a1 : Int) {w0 w : World} {F : List Res} {r1 : Bool} (hm : Mem w0 (F) w) (a0_h : a0.length = a0_n) (a0_R : Rd w0 F a0_A (trips a0)) (h : spec_l7Ops.f K a0 a1 = some r1) :
    Calls Try.prog 51 (List.toArray [.slice a0_A a0_n a0_c, i6 a1]) w fun e w' => ∃ x : Unit, e = .returned (.bool r1) ∧ Mem w0 (F) w' := by
  unfold spec_l7Ops.f at h
  refine calls_of_J (n := 26) Try.func51 rfl rfl rfl hm ?_
  refine j_seq ?_
  refine j_region ?_
  refine r_q (q_assign rfl rfl) rfl rfl ?_
  refine r_nil ?_
  refine j_then ?_
  refine j_seq ?_
  refine j_seq ?_
  refine j_region ?_
  refine r_q (q_assign rfl rfl) rfl rfl ?_
  refine r_nil ?_
  refine j_then ?_
  obtain ⟨κ0, h, hκ0⟩ := ex_k (g := fun κ => spec_l7Ops.loop0 K κ a0 a1 K (0:Int) = some r1) h
  refine j_cut (σ := Unit) (fun s => [(0, (.slice a0_A a0_n a0_c))]) (fun s => F) (fun s => κ0 () = some r1) ?_ ?_
  · refine j_block ?_
    refine j_loop (σ := Int) (fun s => [(0, (.slice a0_A a0_n a0_c)), (1, (i6 a1)), (5, (i6 s))]) (fun s => F) (fun m s => spec_l7Ops.loop0 K κ0 a0 a1 m s = some r1) K (0:Int) h (fun a he => he.sub ⟨rfl, rfl, rfl, trivial⟩) (fun w h => h) ?_
    rintro m p2 h
    cases m with
    | zero => exact absurd h (by rw [spec_l7Ops.loop0]; exact nofun)
    | succ m =>
      rw [spec_l7Ops.loop0] at h
      show J _ _ [(0, (.slice a0_A a0_n a0_c)), (1, (i6 a1)), (5, (i6 p2))] _ (F)
      refine j_seq ?_
      refine j_seq ?_
      refine j_region ?_
      refine r_q (q_move rfl rfl) rfl rfl ?_
      refine r_q (q_move rfl rfl) rfl rfl ?_
      refine r_q (q_lenX a0 a0_h un38 rfl rfl rfl rfl rfl) rfl rfl ?_
      refine r_q (q_lss rfl rfl rfl) rfl rfl ?_
      refine r_q (q_move rfl rfl) rfl rfl ?_
      rcases of_if h with ⟨c12, h⟩ | ⟨c12, h⟩
      · refine r_qon (q_move rfl rfl) rfl rfl rfl rfl (decide_eq_true c12) rfl ?_
        refine r_qon (q_leq rfl rfl rfl) rfl rfl rfl rfl (decide_eq_true c12) rfl ?_
        refine r_q (q_pick_t rfl rfl (decide_eq_true c12) rfl) rfl rfl ?_
        refine r_nil ?_
        refine j_then ?_
        rcases of_if h with ⟨c13, h⟩ | ⟨c13, h⟩
        · refine j_true rfl (decide_eq_true c13) ?_
          refine j_skip ?_
          refine j_then ?_
          refine j_seq ?_
          refine j_block ?_
          refine j_seq ?_
          refine j_region ?_
          refine r_q (q_move rfl rfl) rfl rfl ?_
          refine r_q (q_move rfl rfl) rfl rfl ?_
          obtain ⟨c14, h⟩ := of_guard h
          refine r_q (q_ix a0_R (trips_len a0) (by decide) a0_h c14 un38 sz68 rfl rfl rfl) rfl rfl ?_
          refine r_q (q_ldT a0_R c14 ag68 sz68 rfl rfl) rfl rfl ?_
          refine r_q (q_move rfl rfl) rfl rfl ?_
          obtain ⟨v4, hb4, h⟩ := of_b1 h
          refine r_do (a_call ok80 rfl rfl rfl rfl (fun w hm => spec_OpValid.calls K (rdt a0 p2).1 (rdt a0 p2).2.1 (rdt a0 p2).2.2 a1 hm hb4)) rfl rfl (fun x1 => ?_)
          refine r_q (q_not rfl rfl) rfl rfl ?_
          refine r_nil ?_
          refine j_then ?_
          rcases of_if h with ⟨c15, h⟩ | ⟨c15, h⟩
          · refine j_false rfl (not_f c15) ?_
            refine j_skip ?_
            refine j_in ?_
            refine j_then ?_
            refine j_region ?_
            refine r_q (q_move rfl rfl) rfl rfl ?_
            refine r_q (q_add rfl rfl rfl) rfl rfl ?_
            refine r_q (q_assign rfl rfl) rfl rfl ?_
            refine r_nil ?_
            refine j_then ?_
            exact j_again m (wrap64 (p2 + (1:Int))) (Nat.lt_succ_self m) h (fun a he => he.sub ⟨rfl, rfl, rfl, trivial⟩) (fun w h => h)
          · refine j_true rfl (not_t (var_f c15)) ?_
            refine j_seq ?_
            refine j_region ?_
            refine r_q (q_assign rfl rfl) rfl rfl ?_
            refine r_nil ?_
            refine j_then ?_
            refine j_ret ?_
            refine j_in_ret ?_
            refine j_then_ret ?_
            refine j_then_ret ?_
            refine j_in_ret ?_
            refine j_then_ret ?_
            refine j_then_ret ?_
            cases h
            exact j_return rfl (ResOf.tmp rfl ResOf.nil) rfl (fun w h => ⟨(), rfl, h⟩)
        · refine j_false rfl (decide_eq_false c13) ?_
          refine j_exit ?_
          refine j_then_exit ?_
          refine j_then_exit ?_
          refine j_in_exit ?_
          refine j_then ?_
          exact j_meet () h (fun a he => he.sub ⟨rfl, trivial⟩) (fun w h => h)
      · refine r_off rfl rfl rfl rfl (decide_eq_false c12) rfl ?_
        refine r_off rfl rfl rfl rfl (decide_eq_false c12) rfl ?_
        refine r_q (q_pick_f rfl rfl (decide_eq_false c12) rfl) rfl rfl ?_
        refine r_nil ?_
        refine j_then ?_
        refine j_false rfl rfl ?_
        refine j_exit ?_
        refine j_then_exit ?_
        refine j_then_exit ?_
        refine j_in_exit ?_
        refine j_then ?_
        exact j_meet () h (fun a he => he.sub ⟨rfl, trivial⟩) (fun w h => h)
  · rintro _ h
    subst hκ0
    show J _ _ [(0, (.slice a0_A a0_n a0_c))] _ (F)
    refine j_then ?_
    refine j_seq ?_
    refine j_region ?_
    refine r_q (q_move rfl rfl) rfl rfl ?_
    refine r_q (q_lenX a0 a0_h un38 rfl rfl rfl rfl rfl) rfl rfl ?_
    refine r_q (q_leq rfl rfl rfl) rfl rfl ?_
    refine r_q (q_assign rfl rfl) rfl rfl ?_
    refine r_nil ?_
    refine j_then ?_
    refine j_ret ?_
    cases h
    exact j_return rfl (ResOf.tmp rfl ResOf.nil) rfl (fun w h => ⟨(), rfl, h⟩)

theorem impl_BothValid.calls (K : Nat) (a0_0 : List Int) (a0_0_A : Option Addr) (a0_0_n a0_0_c : Nat) (a0_1 : List Int) (a0_1_A : Option Addr) (a0_1_n a0_1_c : Nat) (a0_2 : List Int) (a0_2_A : Option Addr) (a0_2_n a0_2_c : Nat) (a0_3 : List Int) (a0_3_A : Option Addr) (a0_3_n a0_3_c : Nat) (a0_4 : Int) (a0_5 : List Int) (a0_5_A : Option Addr) (a0_5_n a0_5_c : Nat) (a0_6 : Int) (a0_7 : List (Int × Int × Int)) (a0_7_A : Option Addr) (a0_7_n a0_7_c : Nat) (a0_8 : Int) (a0_9 : Bool) {w0 w : World} {F : List Res} {r1 : Bool} (hm : Mem w0 (F) w) (a0_0_h : a0_0.length = a0_0_n) (a0_0_R : Rd w0 F a0_0_A (ii a0_0)) (a0_1_h : a0_1.length = a0_1_n) (a0_1_R : Rd w0 F a0_1_A (ii a0_1)) (a0_2_h : a0_2.length = a0_2_n) (a0_2_R : Rd w0 F a0_2_A (ii a0_2)) (a0_3_h : a0_3.length = a0_3_n) (a0_3_R : Rd w0 F a0_3_A (ii a0_3)) (a0_3_k : a0_3.length ≤ a0_3_c) (a0_5_h : a0_5.length = a0_5_n) (a0_5_R : Rd w0 F a0_5_A (ii a0_5)) (a0_7_h : a0_7.length = a0_7_n) (a0_7_R : Rd w0 F a0_7_A (trips a0_7)) (h : impl_BothValid.f K a0_0 a0_1 a0_2 a0_3 a0_4 a0_5 a0_6 a0_7 a0_8 a0_9 = some r1) :
    Calls Try.prog 19 (List.toArray [.agg (List.toArray [.slice a0_0_A a0_0_n a0_0_c, .slice a0_1_A a0_1_n a0_1_c, .slice a0_2_A a0_2_n a0_2_c, .slice a0_3_A a0_3_n a0_3_c, i6 a0_4, .slice a0_5_A a0_5_n a0_5_c, i6 a0_6, .slice a0_7_A a0_7_n a0_7_c, i6 a0_8, .bool a0_9])]) w fun e w' => ∃ x : Unit, e = .returned (.bool r1) ∧ Mem w0 (F) w' := by
  unfold impl_BothValid.f at h
  refine calls_of_J (n := 31) Try.func19 rfl rfl rfl hm ?_
  refine j_seq ?_
  refine j_region ?_
  refine r_do (a_box rfl rfl) rfl rfl (fun x1 => ?_)
  refine r_q (q_assign rfl rfl) rfl rfl ?_
  refine r_nil ?_
  refine j_then ?_
  refine j_seq ?_
  refine j_region ?_
  refine r_q (q_fieldAddr fi40_0 sz36 rfl rfl rfl) rfl rfl ?_
  refine r_q (q_loadb_agg 0 rfl ag36 sz36 rfl rfl rfl rfl) rfl rfl ?_
  refine r_q (q_fieldAddr fi40_1 sz37 rfl rfl rfl) rfl rfl ?_
  refine r_q (q_loadb_agg 0 rfl ag37 sz37 rfl rfl rfl rfl) rfl rfl ?_
  obtain ⟨v1, hb1, h⟩ := of_b1 h
  refine r_do (a_call ok25 rfl rfl rfl rfl (fun w hm => impl_GcValid.calls K a0_0 a0_0_A a0_0_n a0_0_c a0_1 a0_1_A a0_1_n a0_1_c a0_2 a0_2_A a0_2_n a0_2_c a0_3 a0_3_A a0_3_n a0_3_c a0_4 a0_5 a0_5_A a0_5_n a0_5_c a0_6 hm a0_0_h (Rd.drop 1 a0_0_R) a0_1_h (Rd.drop 1 a0_1_R) a0_2_h (Rd.drop 1 a0_2_R) a0_3_h (Rd.drop 1 a0_3_R) a0_3_k a0_5_h (Rd.drop 1 a0_5_R) hb1)) rfl rfl (fun x2 => ?_)
  refine r_q (q_move rfl rfl) rfl rfl ?_
  rcases of_if h with ⟨c1, h⟩ | ⟨c1, h⟩
  · refine r_qon (q_fieldAddr fi40_2 sz38 rfl rfl rfl) rfl rfl rfl rfl c1 rfl ?_
    refine r_qon (q_loadb 0 rfl ag38 rfl rfl rfl) rfl rfl rfl rfl c1 rfl ?_
    refine r_qon (q_fieldAddr fi40_0 sz36 rfl rfl rfl) rfl rfl rfl rfl c1 rfl ?_
    refine r_qon (q_fieldAddr fi36_0 sz34 rfl rfl rfl) rfl rfl rfl rfl c1 rfl ?_
    refine r_qon (q_fieldAddr fi34_2 sz22 rfl rfl rfl) rfl rfl rfl rfl c1 rfl ?_
    refine r_qon (q_loadb 0 rfl ag22 rfl rfl rfl) rfl rfl rfl rfl c1 rfl ?_
    refine r_qon (q_lenX a0_2 a0_2_h un22 rfl rfl rfl rfl rfl) rfl rfl rfl rfl c1 rfl ?_
    obtain ⟨v2, hb2, h⟩ := of_b1 h
    refine r_on (a_call ok47 rfl rfl rfl rfl (fun w hm => impl_opsOk.calls K a0_7 a0_7_A a0_7_n a0_7_c (a0_2.length : Int) hm a0_7_h (Rd.drop 1 a0_7_R) hb2)) rfl rfl rfl rfl c1 rfl (fun x3 => ?_)
    refine r_q (q_pick_t rfl rfl c1 rfl) rfl rfl ?_
    refine r_q (q_move rfl rfl) rfl rfl ?_
    rcases of_if h with ⟨c2, h⟩ | ⟨c2, h⟩
    · refine r_qon (q_fieldAddr fi40_3 sz3 rfl rfl rfl) rfl rfl rfl rfl c2 rfl ?_
      refine r_qon (q_loadb 0 rfl ag3 rfl rfl rfl) rfl rfl rfl rfl c2 rfl ?_
      refine r_qon (q_geq rfl rfl rfl) rfl rfl rfl rfl c2 rfl ?_
      refine r_q (q_pick_t rfl rfl c2 rfl) rfl rfl ?_
      refine r_q (q_move rfl rfl) rfl rfl ?_
      rcases of_if h with ⟨c3, h⟩ | ⟨c3, h⟩
      · refine r_qon (q_fieldAddr fi40_3 sz3 rfl rfl rfl) rfl rfl rfl rfl (decide_eq_true c3) rfl ?_
        refine r_qon (q_loadb 0 rfl ag3 rfl rfl rfl) rfl rfl rfl rfl (decide_eq_true c3) rfl ?_
        refine r_qon (q_fieldAddr fi40_2 sz38 rfl rfl rfl) rfl rfl rfl rfl (decide_eq_true c3) rfl ?_
        refine r_qon (q_loadb 0 rfl ag38 rfl rfl rfl) rfl rfl rfl rfl (decide_eq_true c3) rfl ?_
        refine r_qon (q_lenX a0_7 a0_7_h un38 rfl rfl rfl rfl rfl) rfl rfl rfl rfl (decide_eq_true c3) rfl ?_
        refine r_qon (q_leq rfl rfl rfl) rfl rfl rfl rfl (decide_eq_true c3) rfl ?_
        refine r_q (q_pick_t rfl rfl (decide_eq_true c3) rfl) rfl rfl ?_
        refine r_q (q_assign rfl rfl) rfl rfl ?_
        refine r_nil ?_
        refine j_then ?_
        refine j_ret ?_
        cases h
        exact j_return rfl (ResOf.tmp rfl ResOf.nil) rfl (fun w h => ⟨(), rfl, h.tail⟩)
      · refine r_off rfl rfl rfl rfl (decide_eq_false c3) rfl ?_
        refine r_off rfl rfl rfl rfl (decide_eq_false c3) rfl ?_
        refine r_off rfl rfl rfl rfl (decide_eq_false c3) rfl ?_
        refine r_off rfl rfl rfl rfl (decide_eq_false c3) rfl ?_
        refine r_off rfl rfl rfl rfl (decide_eq_false c3) rfl ?_
        refine r_off rfl rfl rfl rfl (decide_eq_false c3) rfl ?_
        refine r_q (q_pick_f rfl rfl (decide_eq_false c3) rfl) rfl rfl ?_
        refine r_q (q_assign rfl rfl) rfl rfl ?_
        refine r_nil ?_
        refine j_then ?_
        refine j_ret ?_
        cases h
        exact j_return rfl (ResOf.tmp rfl ResOf.nil) rfl (fun w h => ⟨(), rfl, h.tail⟩)
    · refine r_off rfl rfl rfl rfl (var_f c2) rfl ?_
      refine r_off rfl rfl rfl rfl (var_f c2) rfl ?_
      refine r_off rfl rfl rfl rfl (var_f c2) rfl ?_
      refine r_q (q_pick_f rfl rfl (var_f c2) rfl) rfl rfl ?_
      refine r_q (q_move rfl rfl) rfl rfl ?_
      refine r_off rfl rfl rfl rfl rfl rfl ?_
      refine r_off rfl rfl rfl rfl rfl rfl ?_
      refine r_off rfl rfl rfl rfl rfl rfl ?_
      refine r_off rfl rfl rfl rfl rfl rfl ?_
      refine r_off rfl rfl rfl rfl rfl rfl ?_
      refine r_off rfl rfl rfl rfl rfl rfl ?_
      refine r_q (q_pick_f rfl rfl rfl rfl) rfl rfl ?_
      refine r_q (q_assign rfl rfl) rfl rfl ?_
      refine r_nil ?_
      refine j_then ?_
      refine j_ret ?_
      cases h
      exact j_return rfl (ResOf.tmp rfl ResOf.nil) rfl (fun w h => ⟨(), rfl, h.tail⟩)
  · refine r_off rfl rfl rfl rfl (var_f c1) rfl ?_
    refine r_off rfl rfl rfl rfl (var_f c1) rfl ?_
    refine r_off rfl rfl rfl rfl (var_f c1) rfl ?_
    refine r_off rfl rfl rfl rfl (var_f c1) rfl ?_
    refine r_off rfl rfl rfl rfl (var_f c1) rfl ?_
    refine r_off rfl rfl rfl rfl (var_f c1) rfl ?_
    refine r_off rfl rfl rfl rfl (var_f c1) rfl ?_
    refine r_off rfl rfl rfl rfl (var_f c1) rfl ?_
    refine r_q (q_pick_f rfl rfl (var_f c1) rfl) rfl rfl ?_
    refine r_q (q_move rfl rfl) rfl rfl ?_
    refine r_off rfl rfl rfl rfl rfl rfl ?_
    refine r_off rfl rfl rfl rfl rfl rfl ?_
    refine r_off rfl rfl rfl rfl rfl rfl ?_
    refine r_q (q_pick_f rfl rfl rfl rfl) rfl rfl ?_
    refine r_q (q_move rfl rfl) rfl rfl ?_
    refine r_off rfl rfl rfl rfl rfl rfl ?_
    refine r_off rfl rfl rfl rfl rfl rfl ?_
    refine r_off rfl rfl rfl rfl rfl rfl ?_
    refine r_off rfl rfl rfl rfl rfl rfl ?_
    refine r_off rfl rfl rfl rfl rfl rfl ?_
    refine r_off rfl rfl rfl rfl rfl rfl ?_
    refine r_q (q_pick_f rfl rfl rfl rfl) rfl rfl ?_
    refine r_q (q_assign rfl rfl) rfl rfl ?_
    refine r_nil ?_
    refine j_then ?_
    refine j_ret ?_
    cases h
    exact j_return rfl (ResOf.tmp rfl ResOf.nil) rfl (fun w h => ⟨(), rfl, h.tail⟩)

end Go.Proofs.Ytpfkcjddilpbkaa.F
