/- The program computes these pure functions, printed by the generator of wip/gen. -/
import Derived.Test.YtcdcikmphonkfaaFi
import Derived.Test.YtcdcikmphonkfaaFb
namespace Go.Proofs.Ytcdcikmphonkfaa.F
open Go Go.RowKit Go.Proofs.Ytcdcikmphonkfaa.S
set_option linter.unusedVariables false
set_option maxRecDepth 100000
theorem spec_l3Shade.calls (K : Nat) (a0 : List Int) (a0_A : Option Addr) (a0_n a0_c : Nat) (a1 : Int) {w0 w : World} {F : List Res} {r1 : List Int} (hm : Mem w0 (.row a0_A a0_c 3 1 (ii a0) :: F) w) (a0_h : a0.length = a0_n) (h : spec_l3Shade.f K a0 a1 = some r1) :
    Calls Try.prog 62 (List.toArray [.slice a0_A a0_n a0_c, i6 a1]) w fun e w' => ∃ x : (Ln r1.length a0.length), e = .returned (.slice a0_A a0_n a0_c) ∧ Mem w0 (.row a0_A a0_c 3 1 (ii r1) :: F) w' := by
  unfold spec_l3Shade.f at h
  refine calls_of_J (n := 18) Try.func62 rfl rfl rfl hm ?_
  refine j_seq ?_
  refine j_region ?_
  refine r_q (q_assign rfl rfl) rfl rfl ?_
  refine r_nil ?_
  refine j_then ?_
  refine j_seq ?_
  refine j_seq ?_
  refine j_region ?_
  refine r_q (q_move rfl rfl) rfl rfl ?_
  refine r_q (q_neq rfl rfl rfl) rfl rfl ?_
  refine r_q (q_move rfl rfl) rfl rfl ?_
  rcases of_if h with ⟨c1, h⟩ | ⟨c1, h⟩
  · refine r_off rfl rfl rfl rfl (bne_f c1) rfl ?_
    refine r_off rfl rfl rfl rfl (bne_f c1) rfl ?_
    refine r_off rfl rfl rfl rfl (bne_f c1) rfl ?_
    refine r_off rfl rfl rfl rfl (bne_f c1) rfl ?_
    refine r_off rfl rfl rfl rfl (bne_f c1) rfl ?_
    refine r_q (q_pick_f rfl rfl (bne_f c1) rfl) rfl rfl ?_
    refine r_nil ?_
    refine j_then ?_
    refine j_false rfl rfl ?_
    refine j_skip ?_
    refine j_then ?_
    refine j_seq ?_
    refine j_region ?_
    refine r_q (q_move rfl rfl) rfl rfl ?_
    refine r_q (q_assign rfl rfl) rfl rfl ?_
    refine r_nil ?_
    refine j_then ?_
    refine j_ret ?_
    cases h
    exact j_return rfl (ResOf.tmp rfl ResOf.nil) rfl (fun w h => ⟨⟨Eq.trans a0_h a0_h.symm⟩, rfl, h⟩)
  · refine r_qon (q_move rfl rfl) rfl rfl rfl rfl (bne_t c1) rfl ?_
    refine r_qon (q_move rfl rfl) rfl rfl rfl rfl (bne_t c1) rfl ?_
    obtain ⟨c2, h⟩ := of_guard h
    refine r_qon (q_ix (Rd.row 0 rfl) (ints_len1 _ a0) (by decide) a0_h c2 un23 sz3 rfl rfl rfl) rfl rfl rfl rfl (bne_t c1) rfl ?_
    refine r_qon (q_ldI (Rd.row 0 rfl) c2 ag3 rfl rfl) rfl rfl rfl rfl (bne_t c1) rfl ?_
    refine r_qon (q_eql rfl rfl rfl) rfl rfl rfl rfl (bne_t c1) rfl ?_
    refine r_q (q_pick_t rfl rfl (bne_t c1) rfl) rfl rfl ?_
    refine r_nil ?_
    refine j_then ?_
    rcases of_if h with ⟨c3, h⟩ | ⟨c3, h⟩
    · refine j_true rfl (beq_t c3) ?_
      refine j_region ?_
      refine r_q (q_move rfl rfl) rfl rfl ?_
      refine r_q (q_move rfl rfl) rfl rfl ?_
      refine r_q (q_ix (Rd.row 0 rfl) (ints_len1 _ a0) (by decide) a0_h c2 un23 sz3 rfl rfl rfl) rfl rfl ?_
      refine r_do (a_stI 0 rfl c2 sz3 rfl rfl rfl) rfl rfl (fun _ => ?_)
      refine j_s0 ?_
      refine r_nil ?_
      refine j_then ?_
      refine j_seq ?_
      refine j_region ?_
      refine r_q (q_move rfl rfl) rfl rfl ?_
      refine r_q (q_assign rfl rfl) rfl rfl ?_
      refine r_nil ?_
      refine j_then ?_
      refine j_ret ?_
      cases h
      exact j_return rfl (ResOf.tmp rfl ResOf.nil) rfl (fun w h => ⟨⟨Eq.trans (set_len a0_h _ _) a0_h.symm⟩, rfl, h⟩)
    · refine j_false rfl (beq_f c3) ?_
      refine j_skip ?_
      refine j_then ?_
      refine j_seq ?_
      refine j_region ?_
      refine r_q (q_move rfl rfl) rfl rfl ?_
      refine r_q (q_assign rfl rfl) rfl rfl ?_
      refine r_nil ?_
      refine j_then ?_
      refine j_ret ?_
      cases h
      exact j_return rfl (ResOf.tmp rfl ResOf.nil) rfl (fun w h => ⟨⟨Eq.trans a0_h a0_h.symm⟩, rfl, h⟩)

theorem impl_shade.calls (K : Nat) (a0 : List Int) (a0_A : Option Addr) (a0_n a0_c : Nat) (a1 : Int) {w0 w : World} {F : List Res} {r1 : List Int} (hm : Mem w0 (.row a0_A a0_c 3 1 (ii a0) :: F) w) (a0_h : a0.length = a0_n) (h : impl_shade.f K a0 a1 = some r1) :
    Calls Try.prog 58 (List.toArray [.slice a0_A a0_n a0_c, i6 a1]) w fun e w' => ∃ x : (Ln r1.length a0.length), e = .returned (.tuple (List.toArray [])) ∧ Mem w0 (.row a0_A a0_c 3 1 (ii r1) :: F) w' := by
  unfold impl_shade.f at h
  refine calls_of_J (n := 16) Try.func58 rfl rfl rfl hm ?_
  refine j_seq ?_
  refine j_region ?_
  refine r_q (q_move rfl rfl) rfl rfl ?_
  refine r_q (q_neq rfl rfl rfl) rfl rfl ?_
  refine r_q (q_move rfl rfl) rfl rfl ?_
  rcases of_if h with ⟨c1, h⟩ | ⟨c1, h⟩
  · refine r_off rfl rfl rfl rfl (bne_f c1) rfl ?_
    refine r_off rfl rfl rfl rfl (bne_f c1) rfl ?_
    refine r_off rfl rfl rfl rfl (bne_f c1) rfl ?_
    refine r_off rfl rfl rfl rfl (bne_f c1) rfl ?_
    refine r_off rfl rfl rfl rfl (bne_f c1) rfl ?_
    refine r_q (q_pick_f rfl rfl (bne_f c1) rfl) rfl rfl ?_
    refine r_nil ?_
    refine j_then ?_
    refine j_false rfl rfl ?_
    refine j_skip ?_
    cases h
    exact j_return_end rfl ResOf.nil rfl (fun w h => ⟨⟨Eq.trans a0_h a0_h.symm⟩, rfl, h⟩)
  · refine r_qon (q_move rfl rfl) rfl rfl rfl rfl (bne_t c1) rfl ?_
    refine r_qon (q_move rfl rfl) rfl rfl rfl rfl (bne_t c1) rfl ?_
    obtain ⟨c2, h⟩ := of_guard h
    refine r_qon (q_ix (Rd.row 0 rfl) (ints_len1 _ a0) (by decide) a0_h c2 un23 sz3 rfl rfl rfl) rfl rfl rfl rfl (bne_t c1) rfl ?_
    refine r_qon (q_ldI (Rd.row 0 rfl) c2 ag3 rfl rfl) rfl rfl rfl rfl (bne_t c1) rfl ?_
    refine r_qon (q_eql rfl rfl rfl) rfl rfl rfl rfl (bne_t c1) rfl ?_
    refine r_q (q_pick_t rfl rfl (bne_t c1) rfl) rfl rfl ?_
    refine r_nil ?_
    refine j_then ?_
    rcases of_if h with ⟨c3, h⟩ | ⟨c3, h⟩
    · refine j_true rfl (beq_t c3) ?_
      refine j_region ?_
      refine r_q (q_move rfl rfl) rfl rfl ?_
      refine r_q (q_move rfl rfl) rfl rfl ?_
      refine r_q (q_ix (Rd.row 0 rfl) (ints_len1 _ a0) (by decide) a0_h c2 un23 sz3 rfl rfl rfl) rfl rfl ?_
      refine r_do (a_stI 0 rfl c2 sz3 rfl rfl rfl) rfl rfl (fun _ => ?_)
      refine j_s0 ?_
      refine r_nil ?_
      cases h
      exact j_return_end rfl ResOf.nil rfl (fun w h => ⟨⟨Eq.trans (set_len a0_h _ _) a0_h.symm⟩, rfl, h⟩)
    · refine j_false rfl (beq_f c3) ?_
      refine j_skip ?_
      cases h
      exact j_return_end rfl ResOf.nil rfl (fun w h => ⟨⟨Eq.trans a0_h a0_h.symm⟩, rfl, h⟩)

end Go.Proofs.Ytcdcikmphonkfaa.F
