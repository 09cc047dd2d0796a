/- The program computes these pure functions, printed by the generator of wip/gen. -/
import Derived.Test.YtcdcikmphonkfaaFa
import Derived.Test.YtcdcikmphonkfaaFi
import Derived.Test.YtcdcikmphonkfaaFb
import Derived.Test.YtcdcikmphonkfaaC0
namespace Go.Proofs.Ytcdcikmphonkfaa.F
open Go Go.RowKit Go.Proofs.Ytcdcikmphonkfaa.S
set_option linter.unusedVariables false
set_option maxRecDepth 100000
theorem spec_ColoredValid.calls (K : Nat) (a0_0 : List Int) (a0_0_A : Option Addr) (a0_0_n a0_0_c : Nat) (a0_1 : List Int) (a0_1_A : Option Addr) (a0_1_n a0_1_c : Nat) (a0_2 : List Int) (a0_2_A : Option Addr) (a0_2_n a0_2_c : Nat) (a0_3 : List Int) (a0_3_A : Option Addr) (a0_3_n a0_3_c : Nat) {w0 w : World} {F : List Res} {r1 : Bool} (hm : Mem w0 (F) w) (a0_0_h : a0_0.length = a0_0_n) (a0_0_R : Rd w0 F a0_0_A (ii a0_0)) (a0_1_h : a0_1.length = a0_1_n) (a0_1_R : Rd w0 F a0_1_A (ii a0_1)) (a0_2_h : a0_2.length = a0_2_n) (a0_2_R : Rd w0 F a0_2_A (ii a0_2)) (a0_3_h : a0_3.length = a0_3_n) (a0_3_R : Rd w0 F a0_3_A (ii a0_3)) (h : spec_ColoredValid.f K a0_0 a0_1 a0_2 a0_3 = some r1) :
    Calls Try.prog 59 (List.toArray [.agg (List.toArray [.slice a0_0_A a0_0_n a0_0_c, .slice a0_1_A a0_1_n a0_1_c, .slice a0_2_A a0_2_n a0_2_c, .slice a0_3_A a0_3_n a0_3_c])]) w fun e w' => ∃ x : Unit, e = .returned (.bool r1) ∧ Mem w0 (F) w' := by
  unfold spec_ColoredValid.f at h
  refine calls_of_J (n := 39) Try.func59 rfl rfl rfl hm ?_
  refine j_seq ?_
  refine j_region ?_
  refine r_do (a_box rfl rfl) rfl rfl (fun x1 => ?_)
  refine r_q (q_assign rfl rfl) rfl rfl ?_
  refine r_nil ?_
  refine j_then ?_
  refine j_seq ?_
  refine j_seq ?_
  refine j_region ?_
  refine r_q (q_fieldAddr fi27_0 sz25 rfl rfl rfl) rfl rfl ?_
  refine r_q (q_loadb_agg 0 rfl ag25 sz25 rfl rfl rfl rfl) rfl rfl ?_
  obtain ⟨v1, hb1, h⟩ := of_b1 h
  refine r_do (a_call ok91 rfl rfl rfl rfl (fun w hm => spec_HeapValid.calls K a0_0 a0_0_A a0_0_n a0_0_c a0_1 a0_1_A a0_1_n a0_1_c a0_2 a0_2_A a0_2_n a0_2_c hm a0_0_h (Rd.drop 1 a0_0_R) a0_1_h (Rd.drop 1 a0_1_R) a0_2_h (Rd.drop 1 a0_2_R) hb1)) rfl rfl (fun x2 => ?_)
  refine r_q (q_not rfl rfl) rfl rfl ?_
  refine r_q (q_move rfl rfl) rfl rfl ?_
  rcases of_if h with ⟨c1, h⟩ | ⟨c1, h⟩
  · refine r_qon (q_fieldAddr fi27_1 sz23 rfl rfl rfl) rfl rfl rfl rfl (not_f c1) rfl ?_
    refine r_qon (q_loadb 0 rfl ag23 rfl rfl rfl) rfl rfl rfl rfl (not_f c1) rfl ?_
    refine r_qon (q_lenX a0_3 a0_3_h un23 rfl rfl rfl rfl rfl) rfl rfl rfl rfl (not_f c1) rfl ?_
    refine r_qon (q_fieldAddr fi27_0 sz25 rfl rfl rfl) rfl rfl rfl rfl (not_f c1) rfl ?_
    refine r_qon (q_fieldAddr fi25_0 sz23 rfl rfl rfl) rfl rfl rfl rfl (not_f c1) rfl ?_
    refine r_qon (q_loadb 0 rfl ag23 rfl rfl rfl) rfl rfl rfl rfl (not_f c1) rfl ?_
    refine r_qon (q_lenX a0_0 a0_0_h un23 rfl rfl rfl rfl rfl) rfl rfl rfl rfl (not_f c1) rfl ?_
    refine r_qon (q_neq rfl rfl rfl) rfl rfl rfl rfl (not_f c1) rfl ?_
    refine r_q (q_pick_f rfl rfl (not_f c1) rfl) rfl rfl ?_
    refine r_nil ?_
    refine j_then ?_
    rcases of_if h with ⟨c2, h⟩ | ⟨c2, h⟩
    · refine j_false rfl (bne_f c2) ?_
      refine j_skip ?_
      refine j_then ?_
      refine j_seq ?_
      refine j_seq ?_
      refine j_region ?_
      refine r_q (q_assign rfl rfl) rfl rfl ?_
      refine r_nil ?_
      refine j_then ?_
      obtain ⟨κ0, h, hκ0⟩ := ex_k (g := fun κ => spec_ColoredValid.loop0 K κ a0_3 K (0:Int) = some r1) h
      refine j_cut (σ := Unit) (fun s => []) (fun s => F) (fun s => κ0 () = some r1) ?_ ?_
      · refine j_block ?_
        refine j_loop (σ := Int) (fun s => [(1, (pt x1)), (3, (i6 s))]) (fun s => .box x1 27 [(.slice a0_0_A a0_0_n a0_0_c), (.slice a0_1_A a0_1_n a0_1_c), (.slice a0_2_A a0_2_n a0_2_c), (.slice a0_3_A a0_3_n a0_3_c)] :: F) (fun m s => spec_ColoredValid.loop0 K κ0 a0_3 m s = some r1) K (0:Int) h (fun a he => he.sub ⟨rfl, rfl, trivial⟩) (fun w h => h) ?_
        rintro m p2 h
        cases m with
        | zero => exact absurd h (by rw [spec_ColoredValid.loop0]; exact nofun)
        | succ m =>
          rw [spec_ColoredValid.loop0] at h
          show J _ _ [(1, (pt x1)), (3, (i6 p2))] _ (.box x1 27 [(.slice a0_0_A a0_0_n a0_0_c), (.slice a0_1_A a0_1_n a0_1_c), (.slice a0_2_A a0_2_n a0_2_c), (.slice a0_3_A a0_3_n a0_3_c)] :: F)
          refine j_seq ?_
          refine j_seq ?_
          refine j_region ?_
          refine r_q (q_move rfl rfl) rfl rfl ?_
          refine r_q (q_fieldAddr fi27_1 sz23 rfl rfl rfl) rfl rfl ?_
          refine r_q (q_loadb 0 rfl ag23 rfl rfl rfl) rfl rfl ?_
          refine r_q (q_lenX a0_3 a0_3_h un23 rfl rfl rfl rfl rfl) rfl rfl ?_
          refine r_q (q_lss rfl rfl rfl) rfl rfl ?_
          refine r_nil ?_
          refine j_then ?_
          rcases of_if h with ⟨c15, h⟩ | ⟨c15, h⟩
          · refine j_true rfl (decide_eq_true c15) ?_
            refine j_skip ?_
            refine j_then ?_
            refine j_seq ?_
            refine j_block ?_
            refine j_seq ?_
            refine j_region ?_
            refine r_q (q_fieldAddr fi27_1 sz23 rfl rfl rfl) rfl rfl ?_
            refine r_q (q_loadb 0 rfl ag23 rfl rfl rfl) rfl rfl ?_
            refine r_q (q_move rfl rfl) rfl rfl ?_
            obtain ⟨c16, h⟩ := of_guard h
            refine r_q (q_ix (Rd.drop 1 a0_3_R) (ints_len1 _ a0_3) (by decide) a0_3_h c16 un23 sz3 rfl rfl rfl) rfl rfl ?_
            refine r_q (q_ldI (Rd.drop 1 a0_3_R) c16 ag3 rfl rfl) rfl rfl ?_
            refine r_q (q_lss rfl rfl rfl) rfl rfl ?_
            refine r_q (q_move rfl rfl) rfl rfl ?_
            rcases of_if h with ⟨c17, h⟩ | ⟨c17, h⟩
            · refine r_off rfl rfl rfl rfl (decide_eq_true c17) rfl ?_
              refine r_off rfl rfl rfl rfl (decide_eq_true c17) rfl ?_
              refine r_off rfl rfl rfl rfl (decide_eq_true c17) rfl ?_
              refine r_off rfl rfl rfl rfl (decide_eq_true c17) rfl ?_
              refine r_off rfl rfl rfl rfl (decide_eq_true c17) rfl ?_
              refine r_off rfl rfl rfl rfl (decide_eq_true c17) rfl ?_
              refine r_q (q_pick_t rfl rfl (decide_eq_true c17) rfl) rfl rfl ?_
              refine r_nil ?_
              refine j_then ?_
              refine j_true rfl rfl ?_
              refine j_seq ?_
              refine j_region ?_
              refine r_q (q_assign rfl rfl) rfl rfl ?_
              refine r_nil ?_
              refine j_then ?_
              refine j_ret ?_
              refine j_in_ret ?_
              refine j_then_ret ?_
              refine j_then_ret ?_
              refine j_in_ret ?_
              refine j_then_ret ?_
              refine j_then_ret ?_
              cases h
              exact j_return rfl (ResOf.tmp rfl ResOf.nil) rfl (fun w h => ⟨(), rfl, h.tail⟩)
            · refine r_qon (q_fieldAddr fi27_1 sz23 rfl rfl rfl) rfl rfl rfl rfl (decide_eq_false c17) rfl ?_
              refine r_qon (q_loadb 0 rfl ag23 rfl rfl rfl) rfl rfl rfl rfl (decide_eq_false c17) rfl ?_
              refine r_qon (q_move rfl rfl) rfl rfl rfl rfl (decide_eq_false c17) rfl ?_
              refine r_qon (q_ix (Rd.drop 1 a0_3_R) (ints_len1 _ a0_3) (by decide) a0_3_h c16 un23 sz3 rfl rfl rfl) rfl rfl rfl rfl (decide_eq_false c17) rfl ?_
              refine r_qon (q_ldI (Rd.drop 1 a0_3_R) c16 ag3 rfl rfl) rfl rfl rfl rfl (decide_eq_false c17) rfl ?_
              refine r_qon (q_gtr rfl rfl rfl) rfl rfl rfl rfl (decide_eq_false c17) rfl ?_
              refine r_q (q_pick_f rfl rfl (decide_eq_false c17) rfl) rfl rfl ?_
              refine r_nil ?_
              refine j_then ?_
              rcases of_if h with ⟨c18, h⟩ | ⟨c18, h⟩
              · refine j_true rfl (decide_eq_true c18) ?_
                refine j_seq ?_
                refine j_region ?_
                refine r_q (q_assign rfl rfl) rfl rfl ?_
                refine r_nil ?_
                refine j_then ?_
                refine j_ret ?_
                refine j_in_ret ?_
                refine j_then_ret ?_
                refine j_then_ret ?_
                refine j_in_ret ?_
                refine j_then_ret ?_
                refine j_then_ret ?_
                cases h
                exact j_return rfl (ResOf.tmp rfl ResOf.nil) rfl (fun w h => ⟨(), rfl, h.tail⟩)
              · refine j_false rfl (decide_eq_false c18) ?_
                refine j_skip ?_
                refine j_in ?_
                refine j_then ?_
                refine j_region ?_
                refine r_q (q_move rfl rfl) rfl rfl ?_
                refine r_q (q_add rfl rfl rfl) rfl rfl ?_
                refine r_q (q_assign rfl rfl) rfl rfl ?_
                refine r_nil ?_
                refine j_then ?_
                exact j_again m (wrap64 (p2 + (1:Int))) (Nat.lt_succ_self m) h (fun a he => he.sub ⟨rfl, rfl, trivial⟩) (fun w h => h)
          · refine j_false rfl (decide_eq_false c15) ?_
            refine j_exit ?_
            refine j_then_exit ?_
            refine j_then_exit ?_
            refine j_in_exit ?_
            refine j_then ?_
            exact j_meet () h (fun a he => he.sub trivial) (fun w h => h.tail)
      · rintro _ h
        subst hκ0
        show J _ _ [] _ (F)
        refine j_then ?_
        refine j_seq ?_
        refine j_region ?_
        refine r_q (q_assign rfl rfl) rfl rfl ?_
        refine r_nil ?_
        refine j_then ?_
        refine j_ret ?_
        cases h
        exact j_return rfl (ResOf.tmp rfl ResOf.nil) rfl (fun w h => ⟨(), rfl, h⟩)
    · refine j_true rfl (bne_t c2) ?_
      refine j_seq ?_
      refine j_region ?_
      refine r_q (q_assign rfl rfl) rfl rfl ?_
      refine r_nil ?_
      refine j_then ?_
      refine j_ret ?_
      refine j_then_ret ?_
      cases h
      exact j_return rfl (ResOf.tmp rfl ResOf.nil) rfl (fun w h => ⟨(), rfl, h.tail⟩)
  · refine r_off rfl rfl rfl rfl (not_t (var_f c1)) rfl ?_
    refine r_off rfl rfl rfl rfl (not_t (var_f c1)) rfl ?_
    refine r_off rfl rfl rfl rfl (not_t (var_f c1)) rfl ?_
    refine r_off rfl rfl rfl rfl (not_t (var_f c1)) rfl ?_
    refine r_off rfl rfl rfl rfl (not_t (var_f c1)) rfl ?_
    refine r_off rfl rfl rfl rfl (not_t (var_f c1)) rfl ?_
    refine r_off rfl rfl rfl rfl (not_t (var_f c1)) rfl ?_
    refine r_off rfl rfl rfl rfl (not_t (var_f c1)) rfl ?_
    refine r_q (q_pick_t rfl rfl (not_t (var_f c1)) rfl) rfl rfl ?_
    refine r_nil ?_
    refine j_then ?_
    refine j_true rfl rfl ?_
    refine j_seq ?_
    refine j_region ?_
    refine r_q (q_assign rfl rfl) rfl rfl ?_
    refine r_nil ?_
    refine j_then ?_
    refine j_ret ?_
    refine j_then_ret ?_
    cases h
    exact j_return rfl (ResOf.tmp rfl ResOf.nil) rfl (fun w h => ⟨(), rfl, h.tail⟩)

theorem impl_colorsOk.calls (K : Nat) (a0 : List Int) (a0_A : Option Addr) (a0_n a0_c : Nat) (a1 : Int) {w0 w : World} {F : List Res} {r1 : Bool} (hm : Mem w0 (F) w) (a0_h : a0.length = a0_n) (a0_R : Rd w0 F a0_A (ii a0)) (h : impl_colorsOk.f K a0 a1 = some r1) :
    Calls Try.prog 79 (List.toArray [.slice a0_A a0_n a0_c, i6 a1]) w fun e w' => ∃ x : Unit, e = .returned (.bool r1) ∧ Mem w0 (F) w' := by
  unfold impl_colorsOk.f at h
  refine calls_of_J (n := 24) Try.func79 rfl rfl rfl hm ?_
  refine j_seq ?_
  refine j_region ?_
  refine r_q (q_assign rfl rfl) rfl rfl ?_
  refine r_nil ?_
  refine j_then ?_
  refine j_seq ?_
  refine j_seq ?_
  refine j_region ?_
  refine r_q (q_move rfl rfl) rfl rfl ?_
  refine r_q (q_lenX a0 a0_h un23 rfl rfl rfl rfl rfl) rfl rfl ?_
  refine r_q (q_move rfl rfl) rfl rfl ?_
  refine r_nil ?_
  refine j_then ?_
  obtain ⟨κ0, h, hκ0⟩ := ex_k (g := fun κ => impl_colorsOk.loop0 K κ a0 K (0:Int) = some r1) h
  refine j_cut (σ := Unit) (fun s => [(0, (.slice a0_A a0_n a0_c)), (1, (i6 a1))]) (fun s => F) (fun s => κ0 () = some r1) ?_ ?_
  · refine j_block ?_
    refine j_loop (σ := Int) (fun s => [(0, (.slice a0_A a0_n a0_c)), (1, (i6 a1)), (7, (.slice a0_A a0_n a0_c)), (8, (i6 (a0.length : Int))), (9, (i6 s))]) (fun s => F) (fun m s => impl_colorsOk.loop0 K κ0 a0 m s = some r1) K (0:Int) h (fun a he => he.sub ⟨rfl, rfl, rfl, rfl, rfl, trivial⟩) (fun w h => h) ?_
    rintro m p2 h
    cases m with
    | zero => exact absurd h (by rw [impl_colorsOk.loop0]; exact nofun)
    | succ m =>
      rw [impl_colorsOk.loop0] at h
      show J _ _ [(0, (.slice a0_A a0_n a0_c)), (1, (i6 a1)), (7, (.slice a0_A a0_n a0_c)), (8, (i6 (a0.length : Int))), (9, (i6 p2))] _ (F)
      refine j_seq ?_
      refine j_region ?_
      refine r_q (q_lss rfl rfl rfl) rfl rfl ?_
      refine r_nil ?_
      refine j_then ?_
      refine j_seq ?_
      rcases of_if h with ⟨c13, h⟩ | ⟨c13, h⟩
      · refine j_true rfl (decide_eq_true c13) ?_
        refine j_skip ?_
        refine j_then ?_
        refine j_seq ?_
        refine j_block ?_
        refine j_seq ?_
        refine j_region ?_
        obtain ⟨c14, h⟩ := of_guard h
        refine r_q (q_ix a0_R (ints_len1 _ a0) (by decide) a0_h c14 un23 sz3 rfl rfl rfl) rfl rfl ?_
        refine r_q (q_ldI a0_R c14 ag3 rfl rfl) rfl rfl ?_
        refine r_q (q_assign rfl rfl) rfl rfl ?_
        refine r_nil ?_
        refine j_then ?_
        refine j_seq ?_
        refine j_region ?_
        refine r_q (q_move rfl rfl) rfl rfl ?_
        refine r_q (q_lss rfl rfl rfl) rfl rfl ?_
        refine r_q (q_move rfl rfl) rfl rfl ?_
        rcases of_if h with ⟨c15, h⟩ | ⟨c15, h⟩
        · refine r_off rfl rfl rfl rfl (decide_eq_true c15) rfl ?_
          refine r_off rfl rfl rfl rfl (decide_eq_true c15) rfl ?_
          refine r_q (q_pick_t rfl rfl (decide_eq_true c15) rfl) rfl rfl ?_
          refine r_nil ?_
          refine j_then ?_
          refine j_true rfl rfl ?_
          refine j_seq ?_
          refine j_region ?_
          refine r_q (q_assign rfl rfl) rfl rfl ?_
          refine r_nil ?_
          refine j_then ?_
          refine j_ret ?_
          refine j_in_ret ?_
          refine j_then_ret ?_
          refine j_then_ret ?_
          refine j_in_ret ?_
          refine j_then_ret ?_
          refine j_then_ret ?_
          cases h
          exact j_return rfl (ResOf.tmp rfl ResOf.nil) rfl (fun w h => ⟨(), rfl, h⟩)
        · refine r_qon (q_move rfl rfl) rfl rfl rfl rfl (decide_eq_false c15) rfl ?_
          refine r_qon (q_gtr rfl rfl rfl) rfl rfl rfl rfl (decide_eq_false c15) rfl ?_
          refine r_q (q_pick_f rfl rfl (decide_eq_false c15) rfl) rfl rfl ?_
          refine r_nil ?_
          refine j_then ?_
          rcases of_if h with ⟨c16, h⟩ | ⟨c16, h⟩
          · refine j_true rfl (decide_eq_true c16) ?_
            refine j_seq ?_
            refine j_region ?_
            refine r_q (q_assign rfl rfl) rfl rfl ?_
            refine r_nil ?_
            refine j_then ?_
            refine j_ret ?_
            refine j_in_ret ?_
            refine j_then_ret ?_
            refine j_then_ret ?_
            refine j_in_ret ?_
            refine j_then_ret ?_
            refine j_then_ret ?_
            cases h
            exact j_return rfl (ResOf.tmp rfl ResOf.nil) rfl (fun w h => ⟨(), rfl, h⟩)
          · refine j_false rfl (decide_eq_false c16) ?_
            refine j_skip ?_
            refine j_in ?_
            refine j_then ?_
            refine j_region ?_
            refine r_q (q_add rfl rfl rfl) rfl rfl ?_
            refine r_q (q_move rfl rfl) rfl rfl ?_
            refine r_nil ?_
            refine j_then ?_
            exact j_again m (wrap64 (p2 + (1:Int))) (Nat.lt_succ_self m) h (fun a he => he.sub ⟨rfl, rfl, rfl, rfl, rfl, trivial⟩) (fun w h => h)
      · refine j_false rfl (decide_eq_false c13) ?_
        refine j_exit ?_
        refine j_then_exit ?_
        refine j_then_exit ?_
        refine j_in_exit ?_
        refine j_then ?_
        exact j_meet () h (fun a he => he.sub ⟨rfl, rfl, trivial⟩) (fun w h => h)
  · rintro _ h
    subst hκ0
    show J _ _ [(0, (.slice a0_A a0_n a0_c)), (1, (i6 a1))] _ (F)
    refine j_then ?_
    refine j_seq ?_
    refine j_region ?_
    refine r_q (q_move rfl rfl) rfl rfl ?_
    refine r_q (q_lenX a0 a0_h un23 rfl rfl rfl rfl rfl) rfl rfl ?_
    refine r_q (q_move rfl rfl) rfl rfl ?_
    refine r_q (q_eql rfl rfl rfl) rfl rfl ?_
    refine r_q (q_assign rfl rfl) rfl rfl ?_
    refine r_nil ?_
    refine j_then ?_
    refine j_ret ?_
    cases h
    exact j_return rfl (ResOf.tmp rfl ResOf.nil) rfl (fun w h => ⟨(), rfl, h⟩)

end Go.Proofs.Ytcdcikmphonkfaa.F
