/- The program computes these pure functions, printed by the generator of wip/gen. -/
import Derived.Test.YtnfaiojmabolmaaDoorFa
import Derived.Test.YtnfaiojmabolmaaDoorFj
import Derived.Test.YtnfaiojmabolmaaDoorFl
import Derived.Test.YtnfaiojmabolmaaDoorFm
import Derived.Test.YtnfaiojmabolmaaDoorFb
import Derived.Test.YtnfaiojmabolmaaDoorC0
import Derived.Test.YtnfaiojmabolmaaDoorC1
import Derived.Test.YtnfaiojmabolmaaDoorC4
namespace Go.Proofs.YtnfaiojmabolmaaDoor.F
open Go Go.RowKit Go.Proofs.YtnfaiojmabolmaaDoor.S
set_option linter.unusedVariables false
set_option maxRecDepth 100000
theorem laws_FnOpsSize.calls (K : Nat) (a0 : List Int) (a0_A : Option Addr) (a0_n a0_c : Nat) {w0 w : World} {F : List Res} {r1 : Bool} (hm : Mem w0 (F) w) (a0_h : a0.length = a0_n) (a0_R : Rd w0 F a0_A (ints .u8 a0)) (a0_k : a0.length ≤ a0_c) (gT : Rd w0 F (gA 0) (strs opTab)) (h : laws_FnOpsSize.f K a0 = some r1) :
    Calls Tryd.prog 9 (List.toArray [.slice a0_A a0_n a0_c]) w fun e w' => ∃ x : Unit, e = .returned (.bool r1) ∧ Mem w0 (F) w' := by
  unfold laws_FnOpsSize.f at h
  refine calls_of_J (n := 46) Tryd.func9 rfl rfl rfl hm ?_
  refine j_seq ?_
  refine j_region ?_
  refine r_q (q_assign rfl rfl) rfl rfl ?_
  refine r_nil ?_
  refine j_then ?_
  refine j_seq ?_
  refine j_seq ?_
  refine j_region ?_
  refine r_q (q_move rfl rfl) rfl rfl ?_
  refine r_q (q_lenX a0 a0_h un34 rfl rfl rfl rfl rfl) rfl rfl ?_
  refine r_q (q_gtr rfl rfl rfl) rfl rfl ?_
  refine r_nil ?_
  refine j_then ?_
  rcases of_if h with ⟨c1, h⟩ | ⟨c1, h⟩
  · refine j_true rfl (decide_eq_true c1) ?_
    refine j_seq ?_
    refine j_region ?_
    refine r_q (q_assign rfl rfl) rfl rfl ?_
    refine r_nil ?_
    refine j_then ?_
    refine j_ret ?_
    refine j_then_ret ?_
    cases h
    exact j_return rfl (ResOf.tmp rfl ResOf.nil) rfl (fun w h => ⟨(), rfl, h⟩)
  · refine j_false rfl (decide_eq_false c1) ?_
    refine j_skip ?_
    refine j_then ?_
    refine j_seq ?_
    refine j_region ?_
    refine r_q (q_move rfl rfl) rfl rfl ?_
    obtain ⟨v1, hb1, h⟩ := of_b1 h
    refine r_do (a_call ok18 rfl rfl rfl rfl (fun w hm => spec_DrawFormatOps.calls K a0 a0_A a0_n a0_c hm a0_h a0_R a0_k hb1)) rfl rfl (fun x1 => ?_)
    refine r_q (q_assign rfl rfl) rfl rfl ?_
    refine r_nil ?_
    refine j_then ?_
    refine j_seq ?_
    refine j_region ?_
    refine r_q (q_move rfl rfl) rfl rfl ?_
    obtain ⟨v2, hb2, h⟩ := of_b1 h
    refine r_do (a_call ok19 rfl rfl rfl rfl (fun w hm => impl_FormatOps.calls K v1 x1.A x1.n x1.c hm x1.h (Rd.row 0 rfl) (Rd.drop 1 gT) hb2)) rfl rfl (fun x2 => ?_)
    refine r_q (q_assign rfl rfl) rfl rfl ?_
    refine r_nil ?_
    refine j_then ?_
    refine j_seq ?_
    refine j_seq ?_
    refine j_region ?_
    refine r_q (q_move rfl rfl) rfl rfl ?_
    refine r_q (q_move rfl rfl) rfl rfl ?_
    obtain ⟨v3, hb3, h⟩ := of_b1 h
    refine r_do (a_call ok20 rfl rfl rfl rfl (fun w hm => spec_FormatOps.calls K v1 x1.A x1.n x1.c hm x1.h (Rd.row 0 rfl) hb3)) rfl rfl (fun x3 => ?_)
    refine r_q (q_sneq rfl rfl rfl) rfl rfl ?_
    refine r_q (q_move rfl rfl) rfl rfl ?_
    rcases of_if h with ⟨c2, h⟩ | ⟨c2, h⟩
    · refine r_qon (q_move rfl rfl) rfl rfl rfl rfl (not_f (beq_t c2)) rfl ?_
      refine r_qon (q_seql rfl rfl rfl) rfl rfl rfl rfl (not_f (beq_t c2)) rfl ?_
      refine r_q (q_pick_f rfl rfl (not_f (beq_t c2)) rfl) rfl rfl ?_
      refine r_nil ?_
      refine j_then ?_
      rcases of_if h with ⟨c3, h⟩ | ⟨c3, h⟩
      · refine j_true rfl (beq_t c3) ?_
        refine j_seq ?_
        refine j_region ?_
        refine r_q (q_move rfl rfl) rfl rfl ?_
        refine r_q (q_move rfl rfl) rfl rfl ?_
        obtain ⟨v4, hb4, h⟩ := of_b1 h
        refine r_do (a_call ok20 rfl rfl rfl rfl (fun w hm => spec_FormatOps.calls K v1 x1.A x1.n x1.c hm x1.h (Rd.row 0 rfl) hb4)) rfl rfl (fun x4 => ?_)
        refine r_q (q_seql rfl rfl rfl) rfl rfl ?_
        refine r_q (q_assign rfl rfl) rfl rfl ?_
        refine r_nil ?_
        refine j_then ?_
        refine j_ret ?_
        refine j_then_ret ?_
        cases h
        exact j_return rfl (ResOf.tmp rfl ResOf.nil) rfl (fun w h => ⟨(), rfl, h.tail⟩)
      · refine j_false rfl (beq_f c3) ?_
        refine j_skip ?_
        refine j_then ?_
        refine j_seq ?_
        refine j_region ?_
        refine r_q (q_assign rfl rfl) rfl rfl ?_
        refine r_nil ?_
        refine j_then ?_
        refine j_seq ?_
        refine j_seq ?_
        refine j_region ?_
        refine r_q (q_assign rfl rfl) rfl rfl ?_
        refine r_nil ?_
        refine j_then ?_
        obtain ⟨κ0, h, hκ0⟩ := ex_k (g := fun κ => laws_FnOpsSize.loop0 K κ v2 K (1:Int) (0:Int) = some r1) h
        refine j_cut (σ := Int) (fun s => [(3, (.slice x1.A x1.n x1.c)), (5, (i6 s))]) (fun s => .row x1.A x1.c 25 3 (trips v1) :: F) (fun s => κ0 s = some r1) ?_ ?_
        · refine j_block ?_
          refine j_loop (σ := Int × Int) (fun s => [(3, (.slice x1.A x1.n x1.c)), (4, (.string v2)), (5, (i6 s.1)), (6, (i6 s.2))]) (fun s => .row x1.A x1.c 25 3 (trips v1) :: F) (fun m s => laws_FnOpsSize.loop0 K κ0 v2 m s.1 s.2 = some r1) K ((1:Int), (0:Int)) h (fun a he => he.sub ⟨rfl, rfl, rfl, rfl, trivial⟩) (fun w h => h) ?_
          rintro m ⟨p3, p4⟩ h
          cases m with
          | zero => exact absurd h (by rw [laws_FnOpsSize.loop0]; exact nofun)
          | succ m =>
            rw [laws_FnOpsSize.loop0] at h
            show J _ _ [(3, (.slice x1.A x1.n x1.c)), (4, (.string v2)), (5, (i6 p3)), (6, (i6 p4))] _ (.row x1.A x1.c 25 3 (trips v1) :: F)
            refine j_seq ?_
            refine j_seq ?_
            refine j_region ?_
            refine r_q (q_move rfl rfl) rfl rfl ?_
            refine r_q (q_move rfl rfl) rfl rfl ?_
            refine r_q (q_len_str rfl rfl rfl rfl un9 rfl) rfl rfl ?_
            refine r_q (q_lss rfl rfl rfl) rfl rfl ?_
            refine r_nil ?_
            refine j_then ?_
            rcases of_if h with ⟨c13, h⟩ | ⟨c13, h⟩
            · refine j_true rfl (decide_eq_true c13) ?_
              refine j_skip ?_
              refine j_then ?_
              refine j_seq ?_
              refine j_block ?_
              refine j_seq ?_
              refine j_region ?_
              refine r_q (q_move rfl rfl) rfl rfl ?_
              refine r_q (q_move rfl rfl) rfl rfl ?_
              obtain ⟨c14, h⟩ := of_guard h
              refine r_q (q_sindex un9 rfl rfl rfl c14.1 c14.2) rfl rfl ?_
              refine r_q (q_eql rfl rfl rfl) rfl rfl ?_
              refine r_nil ?_
              refine j_then ?_
              rcases of_if h with ⟨c15, h⟩ | ⟨c15, h⟩
              · refine j_true rfl (beq_t c15) ?_
                refine j_region ?_
                refine r_q (q_move rfl rfl) rfl rfl ?_
                refine r_q (q_add rfl rfl rfl) rfl rfl ?_
                refine r_q (q_assign rfl rfl) rfl rfl ?_
                refine r_nil ?_
                refine j_in ?_
                refine j_then ?_
                refine j_region ?_
                refine r_q (q_move rfl rfl) rfl rfl ?_
                refine r_q (q_add rfl rfl rfl) rfl rfl ?_
                refine r_q (q_assign rfl rfl) rfl rfl ?_
                refine r_nil ?_
                refine j_then ?_
                exact j_again m ((wrap64 (p3 + (1:Int))), (wrap64 (p4 + (1:Int)))) (Nat.lt_succ_self m) h (fun a he => he.sub ⟨rfl, rfl, rfl, rfl, trivial⟩) (fun w h => h)
              · refine j_false rfl (beq_f c15) ?_
                refine j_skip ?_
                refine j_in ?_
                refine j_then ?_
                refine j_region ?_
                refine r_q (q_move rfl rfl) rfl rfl ?_
                refine r_q (q_add rfl rfl rfl) rfl rfl ?_
                refine r_q (q_assign rfl rfl) rfl rfl ?_
                refine r_nil ?_
                refine j_then ?_
                exact j_again m (p3, (wrap64 (p4 + (1:Int)))) (Nat.lt_succ_self m) h (fun a he => he.sub ⟨rfl, rfl, rfl, rfl, trivial⟩) (fun w h => h)
            · refine j_false rfl (decide_eq_false c13) ?_
              refine j_exit ?_
              refine j_then_exit ?_
              refine j_then_exit ?_
              refine j_in_exit ?_
              refine j_then ?_
              exact j_meet p3 h (fun a he => he.sub ⟨rfl, rfl, trivial⟩) (fun w h => h)
        · rintro p5 h
          subst hκ0
          show J _ _ [(3, (.slice x1.A x1.n x1.c)), (5, (i6 p5))] _ (.row x1.A x1.c 25 3 (trips v1) :: F)
          refine j_then ?_
          refine j_seq ?_
          refine j_region ?_
          refine r_q (q_move rfl rfl) rfl rfl ?_
          refine r_q (q_move rfl rfl) rfl rfl ?_
          refine r_q (q_lenX v1 x1.h un28 rfl rfl rfl rfl rfl) rfl rfl ?_
          refine r_q (q_eql rfl rfl rfl) rfl rfl ?_
          refine r_q (q_move rfl rfl) rfl rfl ?_
          rcases of_if h with ⟨c16, h⟩ | ⟨c16, h⟩
          · refine r_qon (q_move rfl rfl) rfl rfl rfl rfl (beq_t c16) rfl ?_
            refine r_qon (q_leq rfl rfl rfl) rfl rfl rfl rfl (beq_t c16) rfl ?_
            refine r_q (q_pick_t rfl rfl (beq_t c16) rfl) rfl rfl ?_
            refine r_q (q_assign rfl rfl) rfl rfl ?_
            refine r_nil ?_
            refine j_then ?_
            refine j_ret ?_
            cases h
            exact j_return rfl (ResOf.tmp rfl ResOf.nil) rfl (fun w h => ⟨(), rfl, h.tail⟩)
          · refine r_off rfl rfl rfl rfl (beq_f c16) rfl ?_
            refine r_off rfl rfl rfl rfl (beq_f c16) rfl ?_
            refine r_q (q_pick_f rfl rfl (beq_f c16) rfl) rfl rfl ?_
            refine r_q (q_assign rfl rfl) rfl rfl ?_
            refine r_nil ?_
            refine j_then ?_
            refine j_ret ?_
            cases h
            exact j_return rfl (ResOf.tmp rfl ResOf.nil) rfl (fun w h => ⟨(), rfl, h.tail⟩)
    · refine r_off rfl rfl rfl rfl (not_t (beq_f c2)) rfl ?_
      refine r_off rfl rfl rfl rfl (not_t (beq_f c2)) rfl ?_
      refine r_q (q_pick_t rfl rfl (not_t (beq_f c2)) rfl) rfl rfl ?_
      refine r_nil ?_
      refine j_then ?_
      refine j_true rfl rfl ?_
      refine j_seq ?_
      refine j_region ?_
      refine r_q (q_move rfl rfl) rfl rfl ?_
      refine r_q (q_move rfl rfl) rfl rfl ?_
      obtain ⟨v5, hb5, h⟩ := of_b1 h
      refine r_do (a_call ok20 rfl rfl rfl rfl (fun w hm => spec_FormatOps.calls K v1 x1.A x1.n x1.c hm x1.h (Rd.row 0 rfl) hb5)) rfl rfl (fun x4 => ?_)
      refine r_q (q_seql rfl rfl rfl) rfl rfl ?_
      refine r_q (q_assign rfl rfl) rfl rfl ?_
      refine r_nil ?_
      refine j_then ?_
      refine j_ret ?_
      refine j_then_ret ?_
      cases h
      exact j_return rfl (ResOf.tmp rfl ResOf.nil) rfl (fun w h => ⟨(), rfl, h.tail⟩)

end Go.Proofs.YtnfaiojmabolmaaDoor.F
