/- The program computes these pure functions, printed by the generator of wip/gen. -/
import Derived.Test.YtpfkcjddilpbkaaFa
import Derived.Test.YtpfkcjddilpbkaaFb
namespace Go.Proofs.Ytpfkcjddilpbkaa.F
open Go Go.RowKit Go.Proofs.Ytpfkcjddilpbkaa.S
set_option linter.unusedVariables false
set_option maxRecDepth 100000
theorem spec_l1Ints.calls (K : Nat) (a0 : List Int) (a0_A : Option Addr) (a0_n a0_c : Nat) (a1 : List Int) (a1_A : Option Addr) (a1_n a1_c : Nat) {w0 w : World} {F : List Res} {r1 : Bool} (hm : Mem w0 (F) w) (a0_h : a0.length = a0_n) (a0_R : Rd w0 F a0_A (ii a0)) (a1_h : a1.length = a1_n) (a1_R : Rd w0 F a1_A (ii a1)) (h : spec_l1Ints.f K a0 a1 = some r1) :
    Calls Try.prog 44 (List.toArray [.slice a0_A a0_n a0_c, .slice a1_A a1_n a1_c]) w fun e w' => ∃ x : Unit, e = .returned (.bool r1) ∧ Mem w0 (F) w' := by
  unfold spec_l1Ints.f at h
  refine calls_of_J (n := 26) Try.func44 rfl rfl rfl hm ?_
  refine j_seq ?_
  refine j_region ?_
  refine r_q (q_assign rfl rfl) rfl rfl ?_
  refine r_nil ?_
  refine j_then ?_
  refine j_seq ?_
  refine j_seq ?_
  refine j_region ?_
  refine r_q (q_move rfl rfl) rfl rfl ?_
  refine r_q (q_lenX a0 a0_h un22 rfl rfl rfl rfl rfl) rfl rfl ?_
  refine r_q (q_move rfl rfl) rfl rfl ?_
  refine r_q (q_lenX a1 a1_h un22 rfl rfl rfl rfl rfl) rfl rfl ?_
  refine r_q (q_neq rfl rfl rfl) rfl rfl ?_
  refine r_nil ?_
  refine j_then ?_
  rcases of_if h with ⟨c1, h⟩ | ⟨c1, h⟩
  · refine j_false rfl (bne_f c1) ?_
    refine j_skip ?_
    refine j_then ?_
    refine j_seq ?_
    refine j_seq ?_
    refine j_region ?_
    refine r_q (q_assign rfl rfl) rfl rfl ?_
    refine r_nil ?_
    refine j_then ?_
    obtain ⟨κ0, h, hκ0⟩ := ex_k (g := fun κ => spec_l1Ints.loop0 K κ a0 a1 K (0:Int) = some r1) h
    refine j_cut (σ := Unit) (fun s => []) (fun s => F) (fun s => κ0 () = some r1) ?_ ?_
    · refine j_block ?_
      refine j_loop (σ := Int) (fun s => [(0, (.slice a0_A a0_n a0_c)), (1, (.slice a1_A a1_n a1_c)), (5, (i6 s))]) (fun s => F) (fun m s => spec_l1Ints.loop0 K κ0 a0 a1 m s = some r1) K (0:Int) h (fun a he => he.sub ⟨rfl, rfl, rfl, trivial⟩) (fun w h => h) ?_
      rintro m p2 h
      cases m with
      | zero => exact absurd h (by rw [spec_l1Ints.loop0]; exact nofun)
      | succ m =>
        rw [spec_l1Ints.loop0] at h
        show J _ _ [(0, (.slice a0_A a0_n a0_c)), (1, (.slice a1_A a1_n a1_c)), (5, (i6 p2))] _ (F)
        refine j_seq ?_
        refine j_seq ?_
        refine j_region ?_
        refine r_q (q_move rfl rfl) rfl rfl ?_
        refine r_q (q_move rfl rfl) rfl rfl ?_
        refine r_q (q_lenX a0 a0_h un22 rfl rfl rfl rfl rfl) rfl rfl ?_
        refine r_q (q_lss rfl rfl rfl) rfl rfl ?_
        refine r_nil ?_
        refine j_then ?_
        rcases of_if h with ⟨c14, h⟩ | ⟨c14, h⟩
        · refine j_true rfl (decide_eq_true c14) ?_
          refine j_skip ?_
          refine j_then ?_
          refine j_seq ?_
          refine j_block ?_
          refine j_seq ?_
          obtain ⟨c15, h⟩ := of_guard h
          obtain ⟨c16, h⟩ := of_guard h
          refine j_draw (F) 9 follows_any rfl ?_
          refine d_take 0 rfl (q_move rfl rfl) rfl rfl (by kernel_rfl) (by kernel_rfl) (by kernel_rfl) (fun w h => h) ?_
          refine d_take 1 rfl (q_move rfl rfl) rfl rfl (by kernel_rfl) (by kernel_rfl) (by kernel_rfl) (fun w h => h) ?_
          refine d_take 2 rfl (q_ix a0_R (ints_len1 _ a0) (by decide) a0_h c15 un22 sz3 rfl rfl rfl) rfl rfl (by kernel_rfl) (by kernel_rfl) (by kernel_rfl) (fun w h => h) ?_
          refine d_take 3 rfl (q_ldI a0_R c15 ag3 rfl rfl) rfl rfl (by kernel_rfl) (by kernel_rfl) (by kernel_rfl) (fun w h => h) ?_
          refine d_take 4 rfl (q_move rfl rfl) rfl rfl (by kernel_rfl) (by kernel_rfl) (by kernel_rfl) (fun w h => h) ?_
          refine d_take 5 rfl (q_move rfl rfl) rfl rfl (by kernel_rfl) (by kernel_rfl) (by kernel_rfl) (fun w h => h) ?_
          refine d_take 6 rfl (q_ix a1_R (ints_len1 _ a1) (by decide) a1_h c16 un22 sz3 rfl rfl rfl) rfl rfl (by kernel_rfl) (by kernel_rfl) (by kernel_rfl) (fun w h => h) ?_
          refine d_take 7 rfl (q_ldI a1_R c16 ag3 rfl rfl) rfl rfl (by kernel_rfl) (by kernel_rfl) (by kernel_rfl) (fun w h => h) ?_
          refine d_take 8 rfl (q_neq rfl rfl rfl) rfl rfl (by kernel_rfl) (by kernel_rfl) (by kernel_rfl) (fun w h => h) ?_
          refine d_done (by kernel_rfl) ?_
          refine j_then ?_
          rcases of_if h with ⟨c17, h⟩ | ⟨c17, h⟩
          · refine j_false rfl (bne_f c17) ?_
            refine j_skip ?_
            refine j_in ?_
            refine j_then ?_
            refine j_region ?_
            refine r_q (q_move rfl rfl) rfl rfl ?_
            refine r_q (q_add rfl rfl rfl) rfl rfl ?_
            refine r_q (q_assign rfl rfl) rfl rfl ?_
            refine r_nil ?_
            refine j_then ?_
            exact j_again m (wrap64 (p2 + (1:Int))) (Nat.lt_succ_self m) h (fun a he => he.sub ⟨rfl, rfl, rfl, trivial⟩) (fun w h => h)
          · refine j_true rfl (bne_t c17) ?_
            refine j_seq ?_
            refine j_region ?_
            refine r_q (q_assign rfl rfl) rfl rfl ?_
            refine r_nil ?_
            refine j_then ?_
            refine j_ret ?_
            refine j_in_ret ?_
            refine j_then_ret ?_
            refine j_then_ret ?_
            refine j_in_ret ?_
            refine j_then_ret ?_
            refine j_then_ret ?_
            cases h
            exact j_return rfl (ResOf.tmp rfl ResOf.nil) rfl (fun w h => ⟨(), rfl, h⟩)
        · refine j_false rfl (decide_eq_false c14) ?_
          refine j_exit ?_
          refine j_then_exit ?_
          refine j_then_exit ?_
          refine j_in_exit ?_
          refine j_then ?_
          exact j_meet () h (fun a he => he.sub trivial) (fun w h => h)
    · rintro _ h
      subst hκ0
      show J _ _ [] _ (F)
      refine j_then ?_
      refine j_seq ?_
      refine j_region ?_
      refine r_q (q_assign rfl rfl) rfl rfl ?_
      refine r_nil ?_
      refine j_then ?_
      refine j_ret ?_
      cases h
      exact j_return rfl (ResOf.tmp rfl ResOf.nil) rfl (fun w h => ⟨(), rfl, h⟩)
  · refine j_true rfl (bne_t c1) ?_
    refine j_seq ?_
    refine j_region ?_
    refine r_q (q_assign rfl rfl) rfl rfl ?_
    refine r_nil ?_
    refine j_then ?_
    refine j_ret ?_
    refine j_then_ret ?_
    cases h
    exact j_return rfl (ResOf.tmp rfl ResOf.nil) rfl (fun w h => ⟨(), rfl, h⟩)

theorem spec_GcSame.calls (K : Nat) (a0_0 : Int) (a0_1 : List Int) (a0_1_A : Option Addr) (a0_1_n a0_1_c : Nat) (a0_2 : Int) (a1_0 : Int) (a1_1 : List Int) (a1_1_A : Option Addr) (a1_1_n a1_1_c : Nat) (a1_2 : Int) {w0 w : World} {F : List Res} {r1 : Bool} (hm : Mem w0 (F) w) (a0_1_h : a0_1.length = a0_1_n) (a0_1_R : Rd w0 F a0_1_A (ii a0_1)) (a1_1_h : a1_1.length = a1_1_n) (a1_1_R : Rd w0 F a1_1_A (ii a1_1)) (h : spec_GcSame.f K a0_0 a0_1 a0_2 a1_0 a1_1 a1_2 = some r1) :
    Calls Try.prog 15 (List.toArray [.agg (List.toArray [i6 a0_0, .slice a0_1_A a0_1_n a0_1_c, i6 a0_2]), .agg (List.toArray [i6 a1_0, .slice a1_1_A a1_1_n a1_1_c, i6 a1_2])]) w fun e w' => ∃ x : Unit, e = .returned (.bool r1) ∧ Mem w0 (F) w' := by
  unfold spec_GcSame.f at h
  refine calls_of_J (n := 24) Try.func15 rfl rfl rfl hm ?_
  refine j_seq ?_
  refine j_region ?_
  refine r_do (a_box rfl rfl) rfl rfl (fun x1 => ?_)
  refine r_do (a_box rfl rfl) rfl rfl (fun x2 => ?_)
  refine r_q (q_assign rfl rfl) rfl rfl ?_
  refine r_nil ?_
  refine j_then ?_
  refine j_seq ?_
  refine j_region ?_
  refine r_q (q_fieldAddr fi37_0 sz3 rfl rfl rfl) rfl rfl ?_
  refine r_q (q_loadb 1 rfl ag3 rfl rfl rfl) rfl rfl ?_
  refine r_q (q_fieldAddr fi37_0 sz3 rfl rfl rfl) rfl rfl ?_
  refine r_q (q_loadb 0 rfl ag3 rfl rfl rfl) rfl rfl ?_
  refine r_q (q_eql rfl rfl rfl) rfl rfl ?_
  refine r_q (q_move rfl rfl) rfl rfl ?_
  rcases of_if h with ⟨c1, h⟩ | ⟨c1, h⟩
  · refine r_qon (q_fieldAddr fi37_2 sz3 rfl rfl rfl) rfl rfl rfl rfl (beq_t c1) rfl ?_
    refine r_qon (q_loadb 1 rfl ag3 rfl rfl rfl) rfl rfl rfl rfl (beq_t c1) rfl ?_
    refine r_qon (q_fieldAddr fi37_2 sz3 rfl rfl rfl) rfl rfl rfl rfl (beq_t c1) rfl ?_
    refine r_qon (q_loadb 0 rfl ag3 rfl rfl rfl) rfl rfl rfl rfl (beq_t c1) rfl ?_
    refine r_qon (q_eql rfl rfl rfl) rfl rfl rfl rfl (beq_t c1) rfl ?_
    refine r_q (q_pick_t rfl rfl (beq_t c1) rfl) rfl rfl ?_
    refine r_q (q_move rfl rfl) rfl rfl ?_
    rcases of_if h with ⟨c2, h⟩ | ⟨c2, h⟩
    · refine r_qon (q_fieldAddr fi37_1 sz22 rfl rfl rfl) rfl rfl rfl rfl (beq_t c2) rfl ?_
      refine r_qon (q_loadb 1 rfl ag22 rfl rfl rfl) rfl rfl rfl rfl (beq_t c2) rfl ?_
      refine r_qon (q_fieldAddr fi37_1 sz22 rfl rfl rfl) rfl rfl rfl rfl (beq_t c2) rfl ?_
      refine r_qon (q_loadb 0 rfl ag22 rfl rfl rfl) rfl rfl rfl rfl (beq_t c2) rfl ?_
      obtain ⟨v1, hb1, h⟩ := of_b1 h
      refine r_on (a_call ok44 rfl rfl rfl rfl (fun w hm => spec_l1Ints.calls K a0_1 a0_1_A a0_1_n a0_1_c a1_1 a1_1_A a1_1_n a1_1_c hm a0_1_h (Rd.drop 2 a0_1_R) a1_1_h (Rd.drop 2 a1_1_R) hb1)) rfl rfl rfl rfl (beq_t c2) rfl (fun x3 => ?_)
      refine r_q (q_pick_t rfl rfl (beq_t c2) rfl) rfl rfl ?_
      refine r_q (q_assign rfl rfl) rfl rfl ?_
      refine r_nil ?_
      refine j_then ?_
      refine j_ret ?_
      cases h
      exact j_return rfl (ResOf.tmp rfl ResOf.nil) rfl (fun w h => ⟨(), rfl, (h.drop 2)⟩)
    · refine r_off rfl rfl rfl rfl (beq_f c2) rfl ?_
      refine r_off rfl rfl rfl rfl (beq_f c2) rfl ?_
      refine r_off rfl rfl rfl rfl (beq_f c2) rfl ?_
      refine r_off rfl rfl rfl rfl (beq_f c2) rfl ?_
      refine r_off rfl rfl rfl rfl (beq_f c2) rfl ?_
      refine r_q (q_pick_f rfl rfl (beq_f c2) rfl) rfl rfl ?_
      refine r_q (q_assign rfl rfl) rfl rfl ?_
      refine r_nil ?_
      refine j_then ?_
      refine j_ret ?_
      cases h
      exact j_return rfl (ResOf.tmp rfl ResOf.nil) rfl (fun w h => ⟨(), rfl, (h.drop 2)⟩)
  · refine r_off rfl rfl rfl rfl (beq_f c1) rfl ?_
    refine r_off rfl rfl rfl rfl (beq_f c1) rfl ?_
    refine r_off rfl rfl rfl rfl (beq_f c1) rfl ?_
    refine r_off rfl rfl rfl rfl (beq_f c1) rfl ?_
    refine r_off rfl rfl rfl rfl (beq_f c1) rfl ?_
    refine r_q (q_pick_f rfl rfl (beq_f c1) rfl) rfl rfl ?_
    refine r_q (q_move rfl rfl) rfl rfl ?_
    refine r_off rfl rfl rfl rfl rfl rfl ?_
    refine r_off rfl rfl rfl rfl rfl rfl ?_
    refine r_off rfl rfl rfl rfl rfl rfl ?_
    refine r_off rfl rfl rfl rfl rfl rfl ?_
    refine r_off rfl rfl rfl rfl rfl rfl ?_
    refine r_q (q_pick_f rfl rfl rfl rfl) rfl rfl ?_
    refine r_q (q_assign rfl rfl) rfl rfl ?_
    refine r_nil ?_
    refine j_then ?_
    refine j_ret ?_
    cases h
    exact j_return rfl (ResOf.tmp rfl ResOf.nil) rfl (fun w h => ⟨(), rfl, (h.drop 2)⟩)

end Go.Proofs.Ytpfkcjddilpbkaa.F
