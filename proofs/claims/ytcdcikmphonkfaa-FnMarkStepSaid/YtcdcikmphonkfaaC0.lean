/- The program computes these pure functions, printed by the generator of wip/gen. -/
import Derived.Test.YtcdcikmphonkfaaFa
import Derived.Test.YtcdcikmphonkfaaFb
namespace Go.Proofs.Ytcdcikmphonkfaa.F
open Go Go.RowKit Go.Proofs.Ytcdcikmphonkfaa.S
set_option linter.unusedVariables false
set_option maxRecDepth 100000
theorem spec_l1Points.calls (K : Nat) (a0 : Int) (a1 : Int) {w0 w : World} {F : List Res} {r1 : Bool} (hm : Mem w0 (F) w)  (h : spec_l1Points.f K a0 a1 = some r1) :
    Calls Try.prog 101 (List.toArray [i6 a0, i6 a1]) w fun e w' => ∃ x : Unit, e = .returned (.bool r1) ∧ Mem w0 (F) w' := by
  unfold spec_l1Points.f at h
  refine calls_of_J (n := 12) Try.func101 rfl rfl rfl hm ?_
  refine j_seq ?_
  refine j_region ?_
  refine r_q (q_assign rfl rfl) rfl rfl ?_
  refine r_nil ?_
  refine j_then ?_
  refine j_seq ?_
  refine j_region ?_
  refine r_q (q_move rfl rfl) rfl rfl ?_
  refine r_q (q_geq rfl rfl rfl) rfl rfl ?_
  refine r_q (q_move rfl rfl) rfl rfl ?_
  rcases of_if h with ⟨c1, h⟩ | ⟨c1, h⟩
  · refine r_qon (q_move rfl rfl) rfl rfl rfl rfl (decide_eq_true c1) rfl ?_
    refine r_qon (q_move rfl rfl) rfl rfl rfl rfl (decide_eq_true c1) rfl ?_
    refine r_qon (q_lss rfl rfl rfl) rfl rfl rfl rfl (decide_eq_true c1) rfl ?_
    refine r_q (q_pick_t rfl rfl (decide_eq_true c1) rfl) rfl rfl ?_
    refine r_q (q_assign rfl rfl) rfl rfl ?_
    refine r_nil ?_
    refine j_then ?_
    refine j_ret ?_
    cases h
    exact j_return rfl (ResOf.tmp rfl ResOf.nil) rfl (fun w h => ⟨(), rfl, h⟩)
  · refine r_off rfl rfl rfl rfl (decide_eq_false c1) rfl ?_
    refine r_off rfl rfl rfl rfl (decide_eq_false c1) rfl ?_
    refine r_off rfl rfl rfl rfl (decide_eq_false c1) rfl ?_
    refine r_q (q_pick_f rfl rfl (decide_eq_false c1) rfl) rfl rfl ?_
    refine r_q (q_assign rfl rfl) rfl rfl ?_
    refine r_nil ?_
    refine j_then ?_
    refine j_ret ?_
    cases h
    exact j_return rfl (ResOf.tmp rfl ResOf.nil) rfl (fun w h => ⟨(), rfl, h⟩)

theorem spec_HeapValid.calls (K : Nat) (a0_0 : List Int) (a0_0_A : Option Addr) (a0_0_n a0_0_c : Nat) (a0_1 : List Int) (a0_1_A : Option Addr) (a0_1_n a0_1_c : Nat) (a0_2 : List Int) (a0_2_A : Option Addr) (a0_2_n a0_2_c : Nat) {w0 w : World} {F : List Res} {r1 : Bool} (hm : Mem w0 (F) w) (a0_0_h : a0_0.length = a0_0_n) (a0_0_R : Rd w0 F a0_0_A (ii a0_0)) (a0_1_h : a0_1.length = a0_1_n) (a0_1_R : Rd w0 F a0_1_A (ii a0_1)) (a0_2_h : a0_2.length = a0_2_n) (a0_2_R : Rd w0 F a0_2_A (ii a0_2)) (h : spec_HeapValid.f K a0_0 a0_1 a0_2 = some r1) :
    Calls Try.prog 91 (List.toArray [.agg (List.toArray [.slice a0_0_A a0_0_n a0_0_c, .slice a0_1_A a0_1_n a0_1_c, .slice a0_2_A a0_2_n a0_2_c])]) w fun e w' => ∃ x : Unit, e = .returned (.bool r1) ∧ Mem w0 (F) w' := by
  unfold spec_HeapValid.f at h
  refine calls_of_J (n := 72) Try.func91 rfl rfl rfl hm ?_
  refine j_seq ?_
  refine j_region ?_
  refine r_do (a_box rfl rfl) rfl rfl (fun x1 => ?_)
  refine r_q (q_assign rfl rfl) rfl rfl ?_
  refine r_nil ?_
  refine j_then ?_
  refine j_seq ?_
  refine j_region ?_
  refine r_q (q_fieldAddr fi25_0 sz23 rfl rfl rfl) rfl rfl ?_
  refine r_q (q_loadb 0 rfl ag23 rfl rfl rfl) rfl rfl ?_
  refine r_q (q_lenX a0_0 a0_0_h un23 rfl rfl rfl rfl rfl) rfl rfl ?_
  refine r_q (q_assign rfl rfl) rfl rfl ?_
  refine r_nil ?_
  refine j_then ?_
  refine j_seq ?_
  refine j_seq ?_
  refine j_region ?_
  refine r_q (q_move rfl rfl) rfl rfl ?_
  refine r_q (q_lss rfl rfl rfl) rfl rfl ?_
  refine r_q (q_move rfl rfl) rfl rfl ?_
  rcases of_if h with ⟨c1, h⟩ | ⟨c1, h⟩
  · refine r_off rfl rfl rfl rfl (decide_eq_true c1) rfl ?_
    refine r_off rfl rfl rfl rfl (decide_eq_true c1) rfl ?_
    refine r_q (q_pick_t rfl rfl (decide_eq_true c1) rfl) rfl rfl ?_
    refine r_q (q_move rfl rfl) rfl rfl ?_
    refine r_off rfl rfl rfl rfl rfl rfl ?_
    refine r_off rfl rfl rfl rfl rfl rfl ?_
    refine r_off rfl rfl rfl rfl rfl rfl ?_
    refine r_off rfl rfl rfl rfl rfl rfl ?_
    refine r_off rfl rfl rfl rfl rfl rfl ?_
    refine r_q (q_pick_t rfl rfl rfl rfl) rfl rfl ?_
    refine r_q (q_move rfl rfl) rfl rfl ?_
    refine r_off rfl rfl rfl rfl rfl rfl ?_
    refine r_off rfl rfl rfl rfl rfl rfl ?_
    refine r_off rfl rfl rfl rfl rfl rfl ?_
    refine r_off rfl rfl rfl rfl rfl rfl ?_
    refine r_q (q_pick_t rfl rfl rfl rfl) rfl rfl ?_
    refine r_q (q_move rfl rfl) rfl rfl ?_
    refine r_off rfl rfl rfl rfl rfl rfl ?_
    refine r_off rfl rfl rfl rfl rfl rfl ?_
    refine r_off rfl rfl rfl rfl rfl rfl ?_
    refine r_off rfl rfl rfl rfl rfl rfl ?_
    refine r_q (q_pick_t rfl rfl rfl rfl) rfl rfl ?_
    refine r_nil ?_
    refine j_then ?_
    refine j_true rfl rfl ?_
    refine j_seq ?_
    refine j_region ?_
    refine r_q (q_assign rfl rfl) rfl rfl ?_
    refine r_nil ?_
    refine j_then ?_
    refine j_ret ?_
    refine j_then_ret ?_
    cases h
    exact j_return rfl (ResOf.tmp rfl ResOf.nil) rfl (fun w h => ⟨(), rfl, h.tail⟩)
  · refine r_qon (q_move rfl rfl) rfl rfl rfl rfl (decide_eq_false c1) rfl ?_
    refine r_qon (q_gtr rfl rfl rfl) rfl rfl rfl rfl (decide_eq_false c1) rfl ?_
    refine r_q (q_pick_f rfl rfl (decide_eq_false c1) rfl) rfl rfl ?_
    refine r_q (q_move rfl rfl) rfl rfl ?_
    rcases of_if h with ⟨c2, h⟩ | ⟨c2, h⟩
    · refine r_off rfl rfl rfl rfl (decide_eq_true c2) rfl ?_
      refine r_off rfl rfl rfl rfl (decide_eq_true c2) rfl ?_
      refine r_off rfl rfl rfl rfl (decide_eq_true c2) rfl ?_
      refine r_off rfl rfl rfl rfl (decide_eq_true c2) rfl ?_
      refine r_off rfl rfl rfl rfl (decide_eq_true c2) rfl ?_
      refine r_q (q_pick_t rfl rfl (decide_eq_true c2) rfl) rfl rfl ?_
      refine r_q (q_move rfl rfl) rfl rfl ?_
      refine r_off rfl rfl rfl rfl rfl rfl ?_
      refine r_off rfl rfl rfl rfl rfl rfl ?_
      refine r_off rfl rfl rfl rfl rfl rfl ?_
      refine r_off rfl rfl rfl rfl rfl rfl ?_
      refine r_q (q_pick_t rfl rfl rfl rfl) rfl rfl ?_
      refine r_q (q_move rfl rfl) rfl rfl ?_
      refine r_off rfl rfl rfl rfl rfl rfl ?_
      refine r_off rfl rfl rfl rfl rfl rfl ?_
      refine r_off rfl rfl rfl rfl rfl rfl ?_
      refine r_off rfl rfl rfl rfl rfl rfl ?_
      refine r_q (q_pick_t rfl rfl rfl rfl) rfl rfl ?_
      refine r_nil ?_
      refine j_then ?_
      refine j_true rfl rfl ?_
      refine j_seq ?_
      refine j_region ?_
      refine r_q (q_assign rfl rfl) rfl rfl ?_
      refine r_nil ?_
      refine j_then ?_
      refine j_ret ?_
      refine j_then_ret ?_
      cases h
      exact j_return rfl (ResOf.tmp rfl ResOf.nil) rfl (fun w h => ⟨(), rfl, h.tail⟩)
    · refine r_qon (q_fieldAddr fi25_1 sz23 rfl rfl rfl) rfl rfl rfl rfl (decide_eq_false c2) rfl ?_
      refine r_qon (q_loadb 0 rfl ag23 rfl rfl rfl) rfl rfl rfl rfl (decide_eq_false c2) rfl ?_
      refine r_qon (q_lenX a0_1 a0_1_h un23 rfl rfl rfl rfl rfl) rfl rfl rfl rfl (decide_eq_false c2) rfl ?_
      refine r_qon (q_move rfl rfl) rfl rfl rfl rfl (decide_eq_false c2) rfl ?_
      refine r_qon (q_neq rfl rfl rfl) rfl rfl rfl rfl (decide_eq_false c2) rfl ?_
      refine r_q (q_pick_f rfl rfl (decide_eq_false c2) rfl) rfl rfl ?_
      refine r_q (q_move rfl rfl) rfl rfl ?_
      rcases of_if h with ⟨c3, h⟩ | ⟨c3, h⟩
      · refine r_qon (q_fieldAddr fi25_2 sz23 rfl rfl rfl) rfl rfl rfl rfl (bne_f c3) rfl ?_
        refine r_qon (q_loadb 0 rfl ag23 rfl rfl rfl) rfl rfl rfl rfl (bne_f c3) rfl ?_
        refine r_qon (q_lenX a0_2 a0_2_h un23 rfl rfl rfl rfl rfl) rfl rfl rfl rfl (bne_f c3) rfl ?_
        refine r_qon (q_lss rfl rfl rfl) rfl rfl rfl rfl (bne_f c3) rfl ?_
        refine r_q (q_pick_f rfl rfl (bne_f c3) rfl) rfl rfl ?_
        refine r_q (q_move rfl rfl) rfl rfl ?_
        rcases of_if h with ⟨c4, h⟩ | ⟨c4, h⟩
        · refine r_off rfl rfl rfl rfl (decide_eq_true c4) rfl ?_
          refine r_off rfl rfl rfl rfl (decide_eq_true c4) rfl ?_
          refine r_off rfl rfl rfl rfl (decide_eq_true c4) rfl ?_
          refine r_off rfl rfl rfl rfl (decide_eq_true c4) rfl ?_
          refine r_q (q_pick_t rfl rfl (decide_eq_true c4) rfl) rfl rfl ?_
          refine r_nil ?_
          refine j_then ?_
          refine j_true rfl rfl ?_
          refine j_seq ?_
          refine j_region ?_
          refine r_q (q_assign rfl rfl) rfl rfl ?_
          refine r_nil ?_
          refine j_then ?_
          refine j_ret ?_
          refine j_then_ret ?_
          cases h
          exact j_return rfl (ResOf.tmp rfl ResOf.nil) rfl (fun w h => ⟨(), rfl, h.tail⟩)
        · refine r_qon (q_fieldAddr fi25_2 sz23 rfl rfl rfl) rfl rfl rfl rfl (decide_eq_false c4) rfl ?_
          refine r_qon (q_loadb 0 rfl ag23 rfl rfl rfl) rfl rfl rfl rfl (decide_eq_false c4) rfl ?_
          refine r_qon (q_lenX a0_2 a0_2_h un23 rfl rfl rfl rfl rfl) rfl rfl rfl rfl (decide_eq_false c4) rfl ?_
          refine r_qon (q_gtr rfl rfl rfl) rfl rfl rfl rfl (decide_eq_false c4) rfl ?_
          refine r_q (q_pick_f rfl rfl (decide_eq_false c4) rfl) rfl rfl ?_
          refine r_nil ?_
          refine j_then ?_
          rcases of_if h with ⟨c5, h⟩ | ⟨c5, h⟩
          · refine j_true rfl (decide_eq_true c5) ?_
            refine j_seq ?_
            refine j_region ?_
            refine r_q (q_assign rfl rfl) rfl rfl ?_
            refine r_nil ?_
            refine j_then ?_
            refine j_ret ?_
            refine j_then_ret ?_
            cases h
            exact j_return rfl (ResOf.tmp rfl ResOf.nil) rfl (fun w h => ⟨(), rfl, h.tail⟩)
          · refine j_false rfl (decide_eq_false c5) ?_
            refine j_skip ?_
            refine j_then ?_
            refine j_seq ?_
            refine j_seq ?_
            refine j_region ?_
            refine r_q (q_assign rfl rfl) rfl rfl ?_
            refine r_nil ?_
            refine j_then ?_
            obtain ⟨κ0, h, hκ0⟩ := ex_k (g := fun κ => spec_HeapValid.loop0 K κ a0_0 a0_1 K (0:Int) = some r1) h
            refine j_cut (σ := Unit) (fun s => [(1, (pt x1)), (3, (i6 (a0_0.length : Int)))]) (fun s => .box x1 25 [(.slice a0_0_A a0_0_n a0_0_c), (.slice a0_1_A a0_1_n a0_1_c), (.slice a0_2_A a0_2_n a0_2_c)] :: F) (fun s => κ0 () = some r1) ?_ ?_
            · refine j_block ?_
              refine j_loop (σ := Int) (fun s => [(1, (pt x1)), (3, (i6 (a0_0.length : Int))), (4, (i6 s))]) (fun s => .box x1 25 [(.slice a0_0_A a0_0_n a0_0_c), (.slice a0_1_A a0_1_n a0_1_c), (.slice a0_2_A a0_2_n a0_2_c)] :: F) (fun m s => spec_HeapValid.loop0 K κ0 a0_0 a0_1 m s = some r1) K (0:Int) h (fun a he => he.sub ⟨rfl, rfl, rfl, trivial⟩) (fun w h => h) ?_
              rintro m p2 h
              cases m with
              | zero => exact absurd h (by rw [spec_HeapValid.loop0]; exact nofun)
              | succ m =>
                rw [spec_HeapValid.loop0] at h
                show J _ _ [(1, (pt x1)), (3, (i6 (a0_0.length : Int))), (4, (i6 p2))] _ (.box x1 25 [(.slice a0_0_A a0_0_n a0_0_c), (.slice a0_1_A a0_1_n a0_1_c), (.slice a0_2_A a0_2_n a0_2_c)] :: F)
                refine j_seq ?_
                refine j_seq ?_
                refine j_region ?_
                refine r_q (q_move rfl rfl) rfl rfl ?_
                refine r_q (q_move rfl rfl) rfl rfl ?_
                refine r_q (q_lss rfl rfl rfl) rfl rfl ?_
                refine r_nil ?_
                refine j_then ?_
                rcases of_if h with ⟨c21, h⟩ | ⟨c21, h⟩
                · refine j_true rfl (decide_eq_true c21) ?_
                  refine j_skip ?_
                  refine j_then ?_
                  refine j_seq ?_
                  refine j_block ?_
                  refine j_seq ?_
                  refine j_region ?_
                  refine r_q (q_fieldAddr fi25_0 sz23 rfl rfl rfl) rfl rfl ?_
                  refine r_q (q_loadb 0 rfl ag23 rfl rfl rfl) rfl rfl ?_
                  refine r_q (q_move rfl rfl) rfl rfl ?_
                  obtain ⟨c22, h⟩ := of_guard h
                  refine r_q (q_ix (Rd.drop 1 a0_0_R) (ints_len1 _ a0_0) (by decide) a0_0_h c22 un23 sz3 rfl rfl rfl) rfl rfl ?_
                  refine r_q (q_ldI (Rd.drop 1 a0_0_R) c22 ag3 rfl rfl) rfl rfl ?_
                  refine r_q (q_move rfl rfl) rfl rfl ?_
                  obtain ⟨v7, hb7, h⟩ := of_b1 h
                  refine r_do (a_call ok101 rfl rfl rfl rfl (fun w hm => spec_l1Points.calls K (rd a0_0 p2) (a0_0.length : Int) hm hb7)) rfl rfl (fun x2 => ?_)
                  refine r_q (q_not rfl rfl) rfl rfl ?_
                  refine r_q (q_move rfl rfl) rfl rfl ?_
                  rcases of_if h with ⟨c23, h⟩ | ⟨c23, h⟩
                  · refine r_qon (q_fieldAddr fi25_1 sz23 rfl rfl rfl) rfl rfl rfl rfl (not_f c23) rfl ?_
                    refine r_qon (q_loadb 0 rfl ag23 rfl rfl rfl) rfl rfl rfl rfl (not_f c23) rfl ?_
                    refine r_qon (q_move rfl rfl) rfl rfl rfl rfl (not_f c23) rfl ?_
                    obtain ⟨c24, h⟩ := of_guard h
                    refine r_qon (q_ix (Rd.drop 1 a0_1_R) (ints_len1 _ a0_1) (by decide) a0_1_h c24 un23 sz3 rfl rfl rfl) rfl rfl rfl rfl (not_f c23) rfl ?_
                    refine r_qon (q_ldI (Rd.drop 1 a0_1_R) c24 ag3 rfl rfl) rfl rfl rfl rfl (not_f c23) rfl ?_
                    refine r_qon (q_move rfl rfl) rfl rfl rfl rfl (not_f c23) rfl ?_
                    obtain ⟨v8, hb8, h⟩ := of_b1 h
                    refine r_on (a_call ok101 rfl rfl rfl rfl (fun w hm => spec_l1Points.calls K (rd a0_1 p2) (a0_0.length : Int) hm hb8)) rfl rfl rfl rfl (not_f c23) rfl (fun x3 => ?_)
                    refine r_qon (q_not rfl rfl) rfl rfl rfl rfl (not_f c23) rfl ?_
                    refine r_q (q_pick_f rfl rfl (not_f c23) rfl) rfl rfl ?_
                    refine r_nil ?_
                    refine j_then ?_
                    rcases of_if h with ⟨c25, h⟩ | ⟨c25, h⟩
                    · refine j_false rfl (not_f c25) ?_
                      refine j_skip ?_
                      refine j_in ?_
                      refine j_then ?_
                      refine j_region ?_
                      refine r_q (q_move rfl rfl) rfl rfl ?_
                      refine r_q (q_add rfl rfl rfl) rfl rfl ?_
                      refine r_q (q_assign rfl rfl) rfl rfl ?_
                      refine r_nil ?_
                      refine j_then ?_
                      exact j_again m (wrap64 (p2 + (1:Int))) (Nat.lt_succ_self m) h (fun a he => he.sub ⟨rfl, rfl, rfl, trivial⟩) (fun w h => h)
                    · refine j_true rfl (not_t (var_f c25)) ?_
                      refine j_seq ?_
                      refine j_region ?_
                      refine r_q (q_assign rfl rfl) rfl rfl ?_
                      refine r_nil ?_
                      refine j_then ?_
                      refine j_ret ?_
                      refine j_in_ret ?_
                      refine j_then_ret ?_
                      refine j_then_ret ?_
                      refine j_in_ret ?_
                      refine j_then_ret ?_
                      refine j_then_ret ?_
                      cases h
                      exact j_return rfl (ResOf.tmp rfl ResOf.nil) rfl (fun w h => ⟨(), rfl, h.tail⟩)
                  · refine r_off rfl rfl rfl rfl (not_t (var_f c23)) rfl ?_
                    refine r_off rfl rfl rfl rfl (not_t (var_f c23)) rfl ?_
                    refine r_off rfl rfl rfl rfl (not_t (var_f c23)) rfl ?_
                    refine r_off rfl rfl rfl rfl (not_t (var_f c23)) rfl ?_
                    refine r_off rfl rfl rfl rfl (not_t (var_f c23)) rfl ?_
                    refine r_off rfl rfl rfl rfl (not_t (var_f c23)) rfl ?_
                    refine r_off rfl rfl rfl rfl (not_t (var_f c23)) rfl ?_
                    refine r_off rfl rfl rfl rfl (not_t (var_f c23)) rfl ?_
                    refine r_q (q_pick_t rfl rfl (not_t (var_f c23)) rfl) rfl rfl ?_
                    refine r_nil ?_
                    refine j_then ?_
                    refine j_true rfl rfl ?_
                    refine j_seq ?_
                    refine j_region ?_
                    refine r_q (q_assign rfl rfl) rfl rfl ?_
                    refine r_nil ?_
                    refine j_then ?_
                    refine j_ret ?_
                    refine j_in_ret ?_
                    refine j_then_ret ?_
                    refine j_then_ret ?_
                    refine j_in_ret ?_
                    refine j_then_ret ?_
                    refine j_then_ret ?_
                    cases h
                    exact j_return rfl (ResOf.tmp rfl ResOf.nil) rfl (fun w h => ⟨(), rfl, h.tail⟩)
                · refine j_false rfl (decide_eq_false c21) ?_
                  refine j_exit ?_
                  refine j_then_exit ?_
                  refine j_then_exit ?_
                  refine j_in_exit ?_
                  refine j_then ?_
                  exact j_meet () h (fun a he => he.sub ⟨rfl, rfl, trivial⟩) (fun w h => h)
            · rintro _ h
              subst hκ0
              show J _ _ [(1, (pt x1)), (3, (i6 (a0_0.length : Int)))] _ (.box x1 25 [(.slice a0_0_A a0_0_n a0_0_c), (.slice a0_1_A a0_1_n a0_1_c), (.slice a0_2_A a0_2_n a0_2_c)] :: F)
              refine j_then ?_
              refine j_seq ?_
              refine j_seq ?_
              refine j_region ?_
              refine r_q (q_assign rfl rfl) rfl rfl ?_
              refine r_nil ?_
              refine j_then ?_
              obtain ⟨κ1, h, hκ1⟩ := ex_k (g := fun κ => spec_HeapValid.loop1 K κ a0_0 a0_2 K (0:Int) = some r1) h
              refine j_cut (σ := Unit) (fun s => []) (fun s => F) (fun s => κ1 () = some r1) ?_ ?_
              · refine j_block ?_
                refine j_loop (σ := Int) (fun s => [(1, (pt x1)), (3, (i6 (a0_0.length : Int))), (5, (i6 s))]) (fun s => .box x1 25 [(.slice a0_0_A a0_0_n a0_0_c), (.slice a0_1_A a0_1_n a0_1_c), (.slice a0_2_A a0_2_n a0_2_c)] :: F) (fun m s => spec_HeapValid.loop1 K κ1 a0_0 a0_2 m s = some r1) K (0:Int) h (fun a he => he.sub ⟨rfl, rfl, rfl, trivial⟩) (fun w h => h) ?_
                rintro m p4 h
                cases m with
                | zero => exact absurd h (by rw [spec_HeapValid.loop1]; exact nofun)
                | succ m =>
                  rw [spec_HeapValid.loop1] at h
                  show J _ _ [(1, (pt x1)), (3, (i6 (a0_0.length : Int))), (5, (i6 p4))] _ (.box x1 25 [(.slice a0_0_A a0_0_n a0_0_c), (.slice a0_1_A a0_1_n a0_1_c), (.slice a0_2_A a0_2_n a0_2_c)] :: F)
                  refine j_seq ?_
                  refine j_seq ?_
                  refine j_region ?_
                  refine r_q (q_move rfl rfl) rfl rfl ?_
                  refine r_q (q_fieldAddr fi25_2 sz23 rfl rfl rfl) rfl rfl ?_
                  refine r_q (q_loadb 0 rfl ag23 rfl rfl rfl) rfl rfl ?_
                  refine r_q (q_lenX a0_2 a0_2_h un23 rfl rfl rfl rfl rfl) rfl rfl ?_
                  refine r_q (q_lss rfl rfl rfl) rfl rfl ?_
                  refine r_nil ?_
                  refine j_then ?_
                  rcases of_if h with ⟨c35, h⟩ | ⟨c35, h⟩
                  · refine j_true rfl (decide_eq_true c35) ?_
                    refine j_skip ?_
                    refine j_then ?_
                    refine j_seq ?_
                    refine j_block ?_
                    refine j_seq ?_
                    refine j_region ?_
                    refine r_q (q_fieldAddr fi25_2 sz23 rfl rfl rfl) rfl rfl ?_
                    refine r_q (q_loadb 0 rfl ag23 rfl rfl rfl) rfl rfl ?_
                    refine r_q (q_move rfl rfl) rfl rfl ?_
                    obtain ⟨c36, h⟩ := of_guard h
                    refine r_q (q_ix (Rd.drop 1 a0_2_R) (ints_len1 _ a0_2) (by decide) a0_2_h c36 un23 sz3 rfl rfl rfl) rfl rfl ?_
                    refine r_q (q_ldI (Rd.drop 1 a0_2_R) c36 ag3 rfl rfl) rfl rfl ?_
                    refine r_q (q_move rfl rfl) rfl rfl ?_
                    obtain ⟨v12, hb12, h⟩ := of_b1 h
                    refine r_do (a_call ok101 rfl rfl rfl rfl (fun w hm => spec_l1Points.calls K (rd a0_2 p4) (a0_0.length : Int) hm hb12)) rfl rfl (fun x4 => ?_)
                    refine r_q (q_not rfl rfl) rfl rfl ?_
                    refine r_nil ?_
                    refine j_then ?_
                    rcases of_if h with ⟨c37, h⟩ | ⟨c37, h⟩
                    · refine j_false rfl (not_f c37) ?_
                      refine j_skip ?_
                      refine j_in ?_
                      refine j_then ?_
                      refine j_region ?_
                      refine r_q (q_move rfl rfl) rfl rfl ?_
                      refine r_q (q_add rfl rfl rfl) rfl rfl ?_
                      refine r_q (q_assign rfl rfl) rfl rfl ?_
                      refine r_nil ?_
                      refine j_then ?_
                      exact j_again m (wrap64 (p4 + (1:Int))) (Nat.lt_succ_self m) h (fun a he => he.sub ⟨rfl, rfl, rfl, trivial⟩) (fun w h => h)
                    · refine j_true rfl (not_t (var_f c37)) ?_
                      refine j_seq ?_
                      refine j_region ?_
                      refine r_q (q_assign rfl rfl) rfl rfl ?_
                      refine r_nil ?_
                      refine j_then ?_
                      refine j_ret ?_
                      refine j_in_ret ?_
                      refine j_then_ret ?_
                      refine j_then_ret ?_
                      refine j_in_ret ?_
                      refine j_then_ret ?_
                      refine j_then_ret ?_
                      cases h
                      exact j_return rfl (ResOf.tmp rfl ResOf.nil) rfl (fun w h => ⟨(), rfl, h.tail⟩)
                  · refine j_false rfl (decide_eq_false c35) ?_
                    refine j_exit ?_
                    refine j_then_exit ?_
                    refine j_then_exit ?_
                    refine j_in_exit ?_
                    refine j_then ?_
                    exact j_meet () h (fun a he => he.sub trivial) (fun w h => h.tail)
              · rintro _ h
                subst hκ1
                show J _ _ [] _ (F)
                refine j_then ?_
                refine j_seq ?_
                refine j_region ?_
                refine r_q (q_assign rfl rfl) rfl rfl ?_
                refine r_nil ?_
                refine j_then ?_
                refine j_ret ?_
                cases h
                exact j_return rfl (ResOf.tmp rfl ResOf.nil) rfl (fun w h => ⟨(), rfl, h⟩)
      · refine r_off rfl rfl rfl rfl (bne_t c3) rfl ?_
        refine r_off rfl rfl rfl rfl (bne_t c3) rfl ?_
        refine r_off rfl rfl rfl rfl (bne_t c3) rfl ?_
        refine r_off rfl rfl rfl rfl (bne_t c3) rfl ?_
        refine r_q (q_pick_t rfl rfl (bne_t c3) rfl) rfl rfl ?_
        refine r_q (q_move rfl rfl) rfl rfl ?_
        refine r_off rfl rfl rfl rfl rfl rfl ?_
        refine r_off rfl rfl rfl rfl rfl rfl ?_
        refine r_off rfl rfl rfl rfl rfl rfl ?_
        refine r_off rfl rfl rfl rfl rfl rfl ?_
        refine r_q (q_pick_t rfl rfl rfl rfl) rfl rfl ?_
        refine r_nil ?_
        refine j_then ?_
        refine j_true rfl rfl ?_
        refine j_seq ?_
        refine j_region ?_
        refine r_q (q_assign rfl rfl) rfl rfl ?_
        refine r_nil ?_
        refine j_then ?_
        refine j_ret ?_
        refine j_then_ret ?_
        cases h
        exact j_return rfl (ResOf.tmp rfl ResOf.nil) rfl (fun w h => ⟨(), rfl, h.tail⟩)

theorem impl_HeapValid.calls (K : Nat) (a0_0 : List Int) (a0_0_A : Option Addr) (a0_0_n a0_0_c : Nat) (a0_1 : List Int) (a0_1_A : Option Addr) (a0_1_n a0_1_c : Nat) (a0_2 : List Int) (a0_2_A : Option Addr) (a0_2_n a0_2_c : Nat) {w0 w : World} {F : List Res} {r1 : Bool} (hm : Mem w0 (F) w) (a0_0_h : a0_0.length = a0_0_n) (a0_0_R : Rd w0 F a0_0_A (ii a0_0)) (a0_1_h : a0_1.length = a0_1_n) (a0_1_R : Rd w0 F a0_1_A (ii a0_1)) (a0_2_h : a0_2.length = a0_2_n) (a0_2_R : Rd w0 F a0_2_A (ii a0_2)) (h : impl_HeapValid.f K a0_0 a0_1 a0_2 = some r1) :
    Calls Try.prog 78 (List.toArray [.agg (List.toArray [.slice a0_0_A a0_0_n a0_0_c, .slice a0_1_A a0_1_n a0_1_c, .slice a0_2_A a0_2_n a0_2_c])]) w fun e w' => ∃ x : Unit, e = .returned (.bool r1) ∧ Mem w0 (F) w' := by
  unfold impl_HeapValid.f at h
  refine calls_of_J (n := 67) Try.func78 rfl rfl rfl hm ?_
  refine j_seq ?_
  refine j_region ?_
  refine r_do (a_box rfl rfl) rfl rfl (fun x1 => ?_)
  refine r_q (q_assign rfl rfl) rfl rfl ?_
  refine r_nil ?_
  refine j_then ?_
  refine j_seq ?_
  refine j_seq ?_
  refine j_region ?_
  refine r_q (q_fieldAddr fi25_0 sz23 rfl rfl rfl) rfl rfl ?_
  refine r_q (q_loadb 0 rfl ag23 rfl rfl rfl) rfl rfl ?_
  refine r_q (q_lenX a0_0 a0_0_h un23 rfl rfl rfl rfl rfl) rfl rfl ?_
  refine r_q (q_fieldAddr fi25_1 sz23 rfl rfl rfl) rfl rfl ?_
  refine r_q (q_loadb 0 rfl ag23 rfl rfl rfl) rfl rfl ?_
  refine r_q (q_lenX a0_1 a0_1_h un23 rfl rfl rfl rfl rfl) rfl rfl ?_
  refine r_q (q_neq rfl rfl rfl) rfl rfl ?_
  refine r_q (q_move rfl rfl) rfl rfl ?_
  rcases of_if h with ⟨c1, h⟩ | ⟨c1, h⟩
  · refine r_qon (q_fieldAddr fi25_0 sz23 rfl rfl rfl) rfl rfl rfl rfl (bne_f c1) rfl ?_
    refine r_qon (q_loadb 0 rfl ag23 rfl rfl rfl) rfl rfl rfl rfl (bne_f c1) rfl ?_
    refine r_qon (q_lenX a0_0 a0_0_h un23 rfl rfl rfl rfl rfl) rfl rfl rfl rfl (bne_f c1) rfl ?_
    refine r_qon (q_lss rfl rfl rfl) rfl rfl rfl rfl (bne_f c1) rfl ?_
    refine r_q (q_pick_f rfl rfl (bne_f c1) rfl) rfl rfl ?_
    refine r_q (q_move rfl rfl) rfl rfl ?_
    rcases of_if h with ⟨c2, h⟩ | ⟨c2, h⟩
    · refine r_off rfl rfl rfl rfl (decide_eq_true c2) rfl ?_
      refine r_off rfl rfl rfl rfl (decide_eq_true c2) rfl ?_
      refine r_off rfl rfl rfl rfl (decide_eq_true c2) rfl ?_
      refine r_off rfl rfl rfl rfl (decide_eq_true c2) rfl ?_
      refine r_q (q_pick_t rfl rfl (decide_eq_true c2) rfl) rfl rfl ?_
      refine r_q (q_move rfl rfl) rfl rfl ?_
      refine r_off rfl rfl rfl rfl rfl rfl ?_
      refine r_off rfl rfl rfl rfl rfl rfl ?_
      refine r_off rfl rfl rfl rfl rfl rfl ?_
      refine r_off rfl rfl rfl rfl rfl rfl ?_
      refine r_q (q_pick_t rfl rfl rfl rfl) rfl rfl ?_
      refine r_q (q_move rfl rfl) rfl rfl ?_
      refine r_off rfl rfl rfl rfl rfl rfl ?_
      refine r_off rfl rfl rfl rfl rfl rfl ?_
      refine r_off rfl rfl rfl rfl rfl rfl ?_
      refine r_off rfl rfl rfl rfl rfl rfl ?_
      refine r_q (q_pick_t rfl rfl rfl rfl) rfl rfl ?_
      refine r_nil ?_
      refine j_then ?_
      refine j_true rfl rfl ?_
      refine j_seq ?_
      refine j_region ?_
      refine r_q (q_assign rfl rfl) rfl rfl ?_
      refine r_nil ?_
      refine j_then ?_
      refine j_ret ?_
      refine j_then_ret ?_
      cases h
      exact j_return rfl (ResOf.tmp rfl ResOf.nil) rfl (fun w h => ⟨(), rfl, h.tail⟩)
    · refine r_qon (q_fieldAddr fi25_0 sz23 rfl rfl rfl) rfl rfl rfl rfl (decide_eq_false c2) rfl ?_
      refine r_qon (q_loadb 0 rfl ag23 rfl rfl rfl) rfl rfl rfl rfl (decide_eq_false c2) rfl ?_
      refine r_qon (q_lenX a0_0 a0_0_h un23 rfl rfl rfl rfl rfl) rfl rfl rfl rfl (decide_eq_false c2) rfl ?_
      refine r_qon (q_gtr rfl rfl rfl) rfl rfl rfl rfl (decide_eq_false c2) rfl ?_
      refine r_q (q_pick_f rfl rfl (decide_eq_false c2) rfl) rfl rfl ?_
      refine r_q (q_move rfl rfl) rfl rfl ?_
      rcases of_if h with ⟨c3, h⟩ | ⟨c3, h⟩
      · refine r_off rfl rfl rfl rfl (decide_eq_true c3) rfl ?_
        refine r_off rfl rfl rfl rfl (decide_eq_true c3) rfl ?_
        refine r_off rfl rfl rfl rfl (decide_eq_true c3) rfl ?_
        refine r_off rfl rfl rfl rfl (decide_eq_true c3) rfl ?_
        refine r_q (q_pick_t rfl rfl (decide_eq_true c3) rfl) rfl rfl ?_
        refine r_q (q_move rfl rfl) rfl rfl ?_
        refine r_off rfl rfl rfl rfl rfl rfl ?_
        refine r_off rfl rfl rfl rfl rfl rfl ?_
        refine r_off rfl rfl rfl rfl rfl rfl ?_
        refine r_off rfl rfl rfl rfl rfl rfl ?_
        refine r_q (q_pick_t rfl rfl rfl rfl) rfl rfl ?_
        refine r_nil ?_
        refine j_then ?_
        refine j_true rfl rfl ?_
        refine j_seq ?_
        refine j_region ?_
        refine r_q (q_assign rfl rfl) rfl rfl ?_
        refine r_nil ?_
        refine j_then ?_
        refine j_ret ?_
        refine j_then_ret ?_
        cases h
        exact j_return rfl (ResOf.tmp rfl ResOf.nil) rfl (fun w h => ⟨(), rfl, h.tail⟩)
      · refine r_qon (q_fieldAddr fi25_2 sz23 rfl rfl rfl) rfl rfl rfl rfl (decide_eq_false c3) rfl ?_
        refine r_qon (q_loadb 0 rfl ag23 rfl rfl rfl) rfl rfl rfl rfl (decide_eq_false c3) rfl ?_
        refine r_qon (q_lenX a0_2 a0_2_h un23 rfl rfl rfl rfl rfl) rfl rfl rfl rfl (decide_eq_false c3) rfl ?_
        refine r_qon (q_lss rfl rfl rfl) rfl rfl rfl rfl (decide_eq_false c3) rfl ?_
        refine r_q (q_pick_f rfl rfl (decide_eq_false c3) rfl) rfl rfl ?_
        refine r_q (q_move rfl rfl) rfl rfl ?_
        rcases of_if h with ⟨c4, h⟩ | ⟨c4, h⟩
        · refine r_off rfl rfl rfl rfl (decide_eq_true c4) rfl ?_
          refine r_off rfl rfl rfl rfl (decide_eq_true c4) rfl ?_
          refine r_off rfl rfl rfl rfl (decide_eq_true c4) rfl ?_
          refine r_off rfl rfl rfl rfl (decide_eq_true c4) rfl ?_
          refine r_q (q_pick_t rfl rfl (decide_eq_true c4) rfl) rfl rfl ?_
          refine r_nil ?_
          refine j_then ?_
          refine j_true rfl rfl ?_
          refine j_seq ?_
          refine j_region ?_
          refine r_q (q_assign rfl rfl) rfl rfl ?_
          refine r_nil ?_
          refine j_then ?_
          refine j_ret ?_
          refine j_then_ret ?_
          cases h
          exact j_return rfl (ResOf.tmp rfl ResOf.nil) rfl (fun w h => ⟨(), rfl, h.tail⟩)
        · refine r_qon (q_fieldAddr fi25_2 sz23 rfl rfl rfl) rfl rfl rfl rfl (decide_eq_false c4) rfl ?_
          refine r_qon (q_loadb 0 rfl ag23 rfl rfl rfl) rfl rfl rfl rfl (decide_eq_false c4) rfl ?_
          refine r_qon (q_lenX a0_2 a0_2_h un23 rfl rfl rfl rfl rfl) rfl rfl rfl rfl (decide_eq_false c4) rfl ?_
          refine r_qon (q_gtr rfl rfl rfl) rfl rfl rfl rfl (decide_eq_false c4) rfl ?_
          refine r_q (q_pick_f rfl rfl (decide_eq_false c4) rfl) rfl rfl ?_
          refine r_nil ?_
          refine j_then ?_
          rcases of_if h with ⟨c5, h⟩ | ⟨c5, h⟩
          · refine j_true rfl (decide_eq_true c5) ?_
            refine j_seq ?_
            refine j_region ?_
            refine r_q (q_assign rfl rfl) rfl rfl ?_
            refine r_nil ?_
            refine j_then ?_
            refine j_ret ?_
            refine j_then_ret ?_
            cases h
            exact j_return rfl (ResOf.tmp rfl ResOf.nil) rfl (fun w h => ⟨(), rfl, h.tail⟩)
          · refine j_false rfl (decide_eq_false c5) ?_
            refine j_skip ?_
            refine j_then ?_
            refine j_seq ?_
            refine j_seq ?_
            refine j_region ?_
            refine r_q (q_fieldAddr fi25_0 sz23 rfl rfl rfl) rfl rfl ?_
            refine r_q (q_loadb 0 rfl ag23 rfl rfl rfl) rfl rfl ?_
            refine r_q (q_fieldAddr fi25_1 sz23 rfl rfl rfl) rfl rfl ?_
            refine r_q (q_loadb 0 rfl ag23 rfl rfl rfl) rfl rfl ?_
            refine r_q (q_fieldAddr fi25_2 sz23 rfl rfl rfl) rfl rfl ?_
            refine r_q (q_loadb 0 rfl ag23 rfl rfl rfl) rfl rfl ?_
            refine r_do (a_litX (vs := [(.slice a0_0_A a0_0_n a0_0_c), (.slice a0_1_A a0_1_n a0_1_c), (.slice a0_2_A a0_2_n a0_2_c)]) [(.slice a0_0_A a0_0_n a0_0_c), (.slice a0_1_A a0_1_n a0_1_c), (.slice a0_2_A a0_2_n a0_2_c)] un97 sz23 zr23 rfl rfl rfl rfl rfl rfl rfl rfl rfl) rfl rfl (fun x2 => ?_)
            refine r_q (q_len_sl rfl rfl rfl rfl un97 rfl) rfl rfl ?_
            refine r_q (q_move rfl rfl) rfl rfl ?_
            refine r_nil ?_
            refine j_then ?_
            refine j_block ?_
            refine j_unroll ?_
            refine j_round ?_
            refine j_seq ?_
            refine j_region ?_
            refine r_q (q_lss rfl rfl rfl) rfl rfl ?_
            refine r_nil ?_
            refine j_then ?_
            refine j_seq ?_
            refine j_true rfl (by decide) ?_
            refine j_skip ?_
            refine j_then ?_
            refine j_seq ?_
            refine j_block ?_
            refine j_seq ?_
            refine j_region ?_
            refine r_q (q_ix (L := 3) (Rd.row 0 rfl) rfl (by decide) rfl (by decide) un97 sz23 rfl rfl rfl) rfl rfl ?_
            refine r_q (q_load (Rd.row 0 rfl) ag23 rfl rfl rfl) rfl rfl ?_
            refine r_q (q_assign rfl rfl) rfl rfl ?_
            refine r_nil ?_
            refine j_then ?_
            refine j_seq ?_
            refine j_region ?_
            refine r_q (q_move rfl rfl) rfl rfl ?_
            refine r_q (q_lenX a0_0 a0_0_h un23 rfl rfl rfl rfl rfl) rfl rfl ?_
            refine r_q (q_move rfl rfl) rfl rfl ?_
            refine r_nil ?_
            refine j_then ?_
            obtain ⟨κ0, h, hκ0⟩ := ex_k (g := fun κ => impl_HeapValid.loop0 K κ a0_0 K (0:Int) = some r1) h
            refine j_cut (σ := Unit) (fun s => [(1, (pt x1)), (44, (.slice x2 3 3)), (45, (i6 ((3 : Nat) : Int))), (46, (i6 (0:Int)))]) (fun s => .box x1 25 [(.slice a0_0_A a0_0_n a0_0_c), (.slice a0_1_A a0_1_n a0_1_c), (.slice a0_2_A a0_2_n a0_2_c)] :: .row x2 3 23 1 [(.slice a0_0_A a0_0_n a0_0_c), (.slice a0_1_A a0_1_n a0_1_c), (.slice a0_2_A a0_2_n a0_2_c)] :: F) (fun s => κ0 () = some r1) ?_ ?_
            · refine j_block ?_
              refine j_loop (σ := Int) (fun s => [(1, (pt x1)), (44, (.slice x2 3 3)), (45, (i6 ((3 : Nat) : Int))), (46, (i6 (0:Int))), (50, (.slice a0_0_A a0_0_n a0_0_c)), (51, (i6 (a0_0.length : Int))), (52, (i6 s))]) (fun s => .box x1 25 [(.slice a0_0_A a0_0_n a0_0_c), (.slice a0_1_A a0_1_n a0_1_c), (.slice a0_2_A a0_2_n a0_2_c)] :: .row x2 3 23 1 [(.slice a0_0_A a0_0_n a0_0_c), (.slice a0_1_A a0_1_n a0_1_c), (.slice a0_2_A a0_2_n a0_2_c)] :: F) (fun m s => impl_HeapValid.loop0 K κ0 a0_0 m s = some r1) K (0:Int) h (fun a he => he.sub ⟨rfl, rfl, rfl, rfl, rfl, rfl, rfl, trivial⟩) (fun w h => h.pick 2 [1, 0] rfl) ?_
              rintro m p2 h
              cases m with
              | zero => exact absurd h (by rw [impl_HeapValid.loop0]; exact nofun)
              | succ m =>
                rw [impl_HeapValid.loop0] at h
                show J _ _ [(1, (pt x1)), (44, (.slice x2 3 3)), (45, (i6 ((3 : Nat) : Int))), (46, (i6 (0:Int))), (50, (.slice a0_0_A a0_0_n a0_0_c)), (51, (i6 (a0_0.length : Int))), (52, (i6 p2))] _ (.box x1 25 [(.slice a0_0_A a0_0_n a0_0_c), (.slice a0_1_A a0_1_n a0_1_c), (.slice a0_2_A a0_2_n a0_2_c)] :: .row x2 3 23 1 [(.slice a0_0_A a0_0_n a0_0_c), (.slice a0_1_A a0_1_n a0_1_c), (.slice a0_2_A a0_2_n a0_2_c)] :: F)
                refine j_seq ?_
                refine j_region ?_
                refine r_q (q_lss rfl rfl rfl) rfl rfl ?_
                refine r_nil ?_
                refine j_then ?_
                refine j_seq ?_
                rcases of_if h with ⟨c18, h⟩ | ⟨c18, h⟩
                · refine j_true rfl (decide_eq_true c18) ?_
                  refine j_skip ?_
                  refine j_then ?_
                  refine j_seq ?_
                  refine j_block ?_
                  refine j_seq ?_
                  refine j_region ?_
                  obtain ⟨c19, h⟩ := of_guard h
                  refine r_q (q_ix (Rd.drop 2 a0_0_R) (ints_len1 _ a0_0) (by decide) a0_0_h c19 un23 sz3 rfl rfl rfl) rfl rfl ?_
                  refine r_q (q_ldI (Rd.drop 2 a0_0_R) c19 ag3 rfl rfl) rfl rfl ?_
                  refine r_q (q_assign rfl rfl) rfl rfl ?_
                  refine r_nil ?_
                  refine j_then ?_
                  refine j_seq ?_
                  refine j_region ?_
                  refine r_q (q_move rfl rfl) rfl rfl ?_
                  refine r_q (q_lss rfl rfl rfl) rfl rfl ?_
                  refine r_q (q_move rfl rfl) rfl rfl ?_
                  rcases of_if h with ⟨c20, h⟩ | ⟨c20, h⟩
                  · refine r_off rfl rfl rfl rfl (decide_eq_true c20) rfl ?_
                    refine r_off rfl rfl rfl rfl (decide_eq_true c20) rfl ?_
                    refine r_off rfl rfl rfl rfl (decide_eq_true c20) rfl ?_
                    refine r_off rfl rfl rfl rfl (decide_eq_true c20) rfl ?_
                    refine r_off rfl rfl rfl rfl (decide_eq_true c20) rfl ?_
                    refine r_q (q_pick_t rfl rfl (decide_eq_true c20) rfl) rfl rfl ?_
                    refine r_nil ?_
                    refine j_then ?_
                    refine j_true rfl rfl ?_
                    refine j_seq ?_
                    refine j_region ?_
                    refine r_q (q_assign rfl rfl) rfl rfl ?_
                    refine r_nil ?_
                    refine j_then ?_
                    refine j_ret ?_
                    refine j_in_ret ?_
                    refine j_then_ret ?_
                    refine j_then_ret ?_
                    refine j_in_ret ?_
                    refine j_then_ret ?_
                    refine j_in_ret ?_
                    refine j_then_ret ?_
                    refine j_then_ret ?_
                    refine j_in_ret ?_
                    refine j_then_ret ?_
                    cases h
                    exact j_return rfl (ResOf.tmp rfl ResOf.nil) rfl (fun w h => ⟨(), rfl, (h.drop 2)⟩)
                  · refine r_qon (q_move rfl rfl) rfl rfl rfl rfl (decide_eq_false c20) rfl ?_
                    refine r_qon (q_fieldAddr fi25_0 sz23 rfl rfl rfl) rfl rfl rfl rfl (decide_eq_false c20) rfl ?_
                    refine r_qon (q_loadb 0 rfl ag23 rfl rfl rfl) rfl rfl rfl rfl (decide_eq_false c20) rfl ?_
                    refine r_qon (q_lenX a0_0 a0_0_h un23 rfl rfl rfl rfl rfl) rfl rfl rfl rfl (decide_eq_false c20) rfl ?_
                    refine r_qon (q_geq rfl rfl rfl) rfl rfl rfl rfl (decide_eq_false c20) rfl ?_
                    refine r_q (q_pick_f rfl rfl (decide_eq_false c20) rfl) rfl rfl ?_
                    refine r_nil ?_
                    refine j_then ?_
                    rcases of_if h with ⟨c21, h⟩ | ⟨c21, h⟩
                    · refine j_true rfl (decide_eq_true c21) ?_
                      refine j_seq ?_
                      refine j_region ?_
                      refine r_q (q_assign rfl rfl) rfl rfl ?_
                      refine r_nil ?_
                      refine j_then ?_
                      refine j_ret ?_
                      refine j_in_ret ?_
                      refine j_then_ret ?_
                      refine j_then_ret ?_
                      refine j_in_ret ?_
                      refine j_then_ret ?_
                      refine j_in_ret ?_
                      refine j_then_ret ?_
                      refine j_then_ret ?_
                      refine j_in_ret ?_
                      refine j_then_ret ?_
                      cases h
                      exact j_return rfl (ResOf.tmp rfl ResOf.nil) rfl (fun w h => ⟨(), rfl, (h.drop 2)⟩)
                    · refine j_false rfl (decide_eq_false c21) ?_
                      refine j_skip ?_
                      refine j_in ?_
                      refine j_then ?_
                      refine j_region ?_
                      refine r_q (q_add rfl rfl rfl) rfl rfl ?_
                      refine r_q (q_move rfl rfl) rfl rfl ?_
                      refine r_nil ?_
                      refine j_then ?_
                      exact j_again m (wrap64 (p2 + (1:Int))) (Nat.lt_succ_self m) h (fun a he => he.sub ⟨rfl, rfl, rfl, rfl, rfl, rfl, rfl, trivial⟩) (fun w h => h)
                · refine j_false rfl (decide_eq_false c18) ?_
                  refine j_exit ?_
                  refine j_then_exit ?_
                  refine j_then_exit ?_
                  refine j_in_exit ?_
                  refine j_then ?_
                  exact j_meet () h (fun a he => he.sub ⟨rfl, rfl, rfl, rfl, trivial⟩) (fun w h => h)
            · rintro _ h
              subst hκ0
              show J _ _ [(1, (pt x1)), (44, (.slice x2 3 3)), (45, (i6 ((3 : Nat) : Int))), (46, (i6 (0:Int)))] _ (.box x1 25 [(.slice a0_0_A a0_0_n a0_0_c), (.slice a0_1_A a0_1_n a0_1_c), (.slice a0_2_A a0_2_n a0_2_c)] :: .row x2 3 23 1 [(.slice a0_0_A a0_0_n a0_0_c), (.slice a0_1_A a0_1_n a0_1_c), (.slice a0_2_A a0_2_n a0_2_c)] :: F)
              refine j_in ?_
              refine j_then ?_
              refine j_region ?_
              refine r_q (q_addc (v := (1:Int)) rfl rfl rfl (by decide) (by decide)) rfl rfl ?_
              refine r_q (q_move rfl rfl) rfl rfl ?_
              refine r_nil ?_
              refine j_then ?_
              refine j_round ?_
              refine j_seq ?_
              refine j_region ?_
              refine r_q (q_lss rfl rfl rfl) rfl rfl ?_
              refine r_nil ?_
              refine j_then ?_
              refine j_seq ?_
              refine j_true rfl (by decide) ?_
              refine j_skip ?_
              refine j_then ?_
              refine j_seq ?_
              refine j_block ?_
              refine j_seq ?_
              refine j_region ?_
              refine r_q (q_ix (L := 3) (Rd.row 1 rfl) rfl (by decide) rfl (by decide) un97 sz23 rfl rfl rfl) rfl rfl ?_
              refine r_q (q_load (Rd.row 1 rfl) ag23 rfl rfl rfl) rfl rfl ?_
              refine r_q (q_assign rfl rfl) rfl rfl ?_
              refine r_nil ?_
              refine j_then ?_
              refine j_seq ?_
              refine j_region ?_
              refine r_q (q_move rfl rfl) rfl rfl ?_
              refine r_q (q_lenX a0_1 a0_1_h un23 rfl rfl rfl rfl rfl) rfl rfl ?_
              refine r_q (q_move rfl rfl) rfl rfl ?_
              refine r_nil ?_
              refine j_then ?_
              obtain ⟨κ1, h, hκ1⟩ := ex_k (g := fun κ => impl_HeapValid.loop1 K κ a0_0 a0_1 K (0:Int) = some r1) h
              refine j_cut (σ := Unit) (fun s => [(1, (pt x1)), (44, (.slice x2 3 3)), (45, (i6 ((3 : Nat) : Int))), (46, (i6 (1:Int)))]) (fun s => .box x1 25 [(.slice a0_0_A a0_0_n a0_0_c), (.slice a0_1_A a0_1_n a0_1_c), (.slice a0_2_A a0_2_n a0_2_c)] :: .row x2 3 23 1 [(.slice a0_0_A a0_0_n a0_0_c), (.slice a0_1_A a0_1_n a0_1_c), (.slice a0_2_A a0_2_n a0_2_c)] :: F) (fun s => κ1 () = some r1) ?_ ?_
              · refine j_block ?_
                refine j_loop (σ := Int) (fun s => [(1, (pt x1)), (44, (.slice x2 3 3)), (45, (i6 ((3 : Nat) : Int))), (46, (i6 (1:Int))), (50, (.slice a0_1_A a0_1_n a0_1_c)), (51, (i6 (a0_1.length : Int))), (52, (i6 s))]) (fun s => .box x1 25 [(.slice a0_0_A a0_0_n a0_0_c), (.slice a0_1_A a0_1_n a0_1_c), (.slice a0_2_A a0_2_n a0_2_c)] :: .row x2 3 23 1 [(.slice a0_0_A a0_0_n a0_0_c), (.slice a0_1_A a0_1_n a0_1_c), (.slice a0_2_A a0_2_n a0_2_c)] :: F) (fun m s => impl_HeapValid.loop1 K κ1 a0_0 a0_1 m s = some r1) K (0:Int) h (fun a he => he.sub ⟨rfl, rfl, rfl, rfl, rfl, rfl, rfl, trivial⟩) (fun w h => h) ?_
                rintro m p4 h
                cases m with
                | zero => exact absurd h (by rw [impl_HeapValid.loop1]; exact nofun)
                | succ m =>
                  rw [impl_HeapValid.loop1] at h
                  show J _ _ [(1, (pt x1)), (44, (.slice x2 3 3)), (45, (i6 ((3 : Nat) : Int))), (46, (i6 (1:Int))), (50, (.slice a0_1_A a0_1_n a0_1_c)), (51, (i6 (a0_1.length : Int))), (52, (i6 p4))] _ (.box x1 25 [(.slice a0_0_A a0_0_n a0_0_c), (.slice a0_1_A a0_1_n a0_1_c), (.slice a0_2_A a0_2_n a0_2_c)] :: .row x2 3 23 1 [(.slice a0_0_A a0_0_n a0_0_c), (.slice a0_1_A a0_1_n a0_1_c), (.slice a0_2_A a0_2_n a0_2_c)] :: F)
                  refine j_seq ?_
                  refine j_region ?_
                  refine r_q (q_lss rfl rfl rfl) rfl rfl ?_
                  refine r_nil ?_
                  refine j_then ?_
                  refine j_seq ?_
                  rcases of_if h with ⟨c34, h⟩ | ⟨c34, h⟩
                  · refine j_true rfl (decide_eq_true c34) ?_
                    refine j_skip ?_
                    refine j_then ?_
                    refine j_seq ?_
                    refine j_block ?_
                    refine j_seq ?_
                    refine j_region ?_
                    obtain ⟨c35, h⟩ := of_guard h
                    refine r_q (q_ix (Rd.drop 2 a0_1_R) (ints_len1 _ a0_1) (by decide) a0_1_h c35 un23 sz3 rfl rfl rfl) rfl rfl ?_
                    refine r_q (q_ldI (Rd.drop 2 a0_1_R) c35 ag3 rfl rfl) rfl rfl ?_
                    refine r_q (q_assign rfl rfl) rfl rfl ?_
                    refine r_nil ?_
                    refine j_then ?_
                    refine j_seq ?_
                    refine j_region ?_
                    refine r_q (q_move rfl rfl) rfl rfl ?_
                    refine r_q (q_lss rfl rfl rfl) rfl rfl ?_
                    refine r_q (q_move rfl rfl) rfl rfl ?_
                    rcases of_if h with ⟨c36, h⟩ | ⟨c36, h⟩
                    · refine r_off rfl rfl rfl rfl (decide_eq_true c36) rfl ?_
                      refine r_off rfl rfl rfl rfl (decide_eq_true c36) rfl ?_
                      refine r_off rfl rfl rfl rfl (decide_eq_true c36) rfl ?_
                      refine r_off rfl rfl rfl rfl (decide_eq_true c36) rfl ?_
                      refine r_off rfl rfl rfl rfl (decide_eq_true c36) rfl ?_
                      refine r_q (q_pick_t rfl rfl (decide_eq_true c36) rfl) rfl rfl ?_
                      refine r_nil ?_
                      refine j_then ?_
                      refine j_true rfl rfl ?_
                      refine j_seq ?_
                      refine j_region ?_
                      refine r_q (q_assign rfl rfl) rfl rfl ?_
                      refine r_nil ?_
                      refine j_then ?_
                      refine j_ret ?_
                      refine j_in_ret ?_
                      refine j_then_ret ?_
                      refine j_then_ret ?_
                      refine j_in_ret ?_
                      refine j_then_ret ?_
                      refine j_in_ret ?_
                      refine j_then_ret ?_
                      refine j_then_ret ?_
                      refine j_in_ret ?_
                      refine j_then_ret ?_
                      cases h
                      exact j_return rfl (ResOf.tmp rfl ResOf.nil) rfl (fun w h => ⟨(), rfl, (h.drop 2)⟩)
                    · refine r_qon (q_move rfl rfl) rfl rfl rfl rfl (decide_eq_false c36) rfl ?_
                      refine r_qon (q_fieldAddr fi25_0 sz23 rfl rfl rfl) rfl rfl rfl rfl (decide_eq_false c36) rfl ?_
                      refine r_qon (q_loadb 0 rfl ag23 rfl rfl rfl) rfl rfl rfl rfl (decide_eq_false c36) rfl ?_
                      refine r_qon (q_lenX a0_0 a0_0_h un23 rfl rfl rfl rfl rfl) rfl rfl rfl rfl (decide_eq_false c36) rfl ?_
                      refine r_qon (q_geq rfl rfl rfl) rfl rfl rfl rfl (decide_eq_false c36) rfl ?_
                      refine r_q (q_pick_f rfl rfl (decide_eq_false c36) rfl) rfl rfl ?_
                      refine r_nil ?_
                      refine j_then ?_
                      rcases of_if h with ⟨c37, h⟩ | ⟨c37, h⟩
                      · refine j_true rfl (decide_eq_true c37) ?_
                        refine j_seq ?_
                        refine j_region ?_
                        refine r_q (q_assign rfl rfl) rfl rfl ?_
                        refine r_nil ?_
                        refine j_then ?_
                        refine j_ret ?_
                        refine j_in_ret ?_
                        refine j_then_ret ?_
                        refine j_then_ret ?_
                        refine j_in_ret ?_
                        refine j_then_ret ?_
                        refine j_in_ret ?_
                        refine j_then_ret ?_
                        refine j_then_ret ?_
                        refine j_in_ret ?_
                        refine j_then_ret ?_
                        cases h
                        exact j_return rfl (ResOf.tmp rfl ResOf.nil) rfl (fun w h => ⟨(), rfl, (h.drop 2)⟩)
                      · refine j_false rfl (decide_eq_false c37) ?_
                        refine j_skip ?_
                        refine j_in ?_
                        refine j_then ?_
                        refine j_region ?_
                        refine r_q (q_add rfl rfl rfl) rfl rfl ?_
                        refine r_q (q_move rfl rfl) rfl rfl ?_
                        refine r_nil ?_
                        refine j_then ?_
                        exact j_again m (wrap64 (p4 + (1:Int))) (Nat.lt_succ_self m) h (fun a he => he.sub ⟨rfl, rfl, rfl, rfl, rfl, rfl, rfl, trivial⟩) (fun w h => h)
                  · refine j_false rfl (decide_eq_false c34) ?_
                    refine j_exit ?_
                    refine j_then_exit ?_
                    refine j_then_exit ?_
                    refine j_in_exit ?_
                    refine j_then ?_
                    exact j_meet () h (fun a he => he.sub ⟨rfl, rfl, rfl, rfl, trivial⟩) (fun w h => h)
              · rintro _ h
                subst hκ1
                show J _ _ [(1, (pt x1)), (44, (.slice x2 3 3)), (45, (i6 ((3 : Nat) : Int))), (46, (i6 (1:Int)))] _ (.box x1 25 [(.slice a0_0_A a0_0_n a0_0_c), (.slice a0_1_A a0_1_n a0_1_c), (.slice a0_2_A a0_2_n a0_2_c)] :: .row x2 3 23 1 [(.slice a0_0_A a0_0_n a0_0_c), (.slice a0_1_A a0_1_n a0_1_c), (.slice a0_2_A a0_2_n a0_2_c)] :: F)
                refine j_in ?_
                refine j_then ?_
                refine j_region ?_
                refine r_q (q_addc (v := (2:Int)) rfl rfl rfl (by decide) (by decide)) rfl rfl ?_
                refine r_q (q_move rfl rfl) rfl rfl ?_
                refine r_nil ?_
                refine j_then ?_
                refine j_round ?_
                refine j_seq ?_
                refine j_region ?_
                refine r_q (q_lss rfl rfl rfl) rfl rfl ?_
                refine r_nil ?_
                refine j_then ?_
                refine j_seq ?_
                refine j_true rfl (by decide) ?_
                refine j_skip ?_
                refine j_then ?_
                refine j_seq ?_
                refine j_block ?_
                refine j_seq ?_
                refine j_region ?_
                refine r_q (q_ix (L := 3) (Rd.row 1 rfl) rfl (by decide) rfl (by decide) un97 sz23 rfl rfl rfl) rfl rfl ?_
                refine r_q (q_load (Rd.row 1 rfl) ag23 rfl rfl rfl) rfl rfl ?_
                refine r_q (q_assign rfl rfl) rfl rfl ?_
                refine r_nil ?_
                refine j_then ?_
                refine j_seq ?_
                refine j_region ?_
                refine r_q (q_move rfl rfl) rfl rfl ?_
                refine r_q (q_lenX a0_2 a0_2_h un23 rfl rfl rfl rfl rfl) rfl rfl ?_
                refine r_q (q_move rfl rfl) rfl rfl ?_
                refine r_nil ?_
                refine j_then ?_
                obtain ⟨κ2, h, hκ2⟩ := ex_k (g := fun κ => impl_HeapValid.loop2 K κ a0_0 a0_2 K (0:Int) = some r1) h
                refine j_cut (σ := Unit) (fun s => [(1, (pt x1)), (44, (.slice x2 3 3)), (45, (i6 ((3 : Nat) : Int))), (46, (i6 (2:Int)))]) (fun s => .box x1 25 [(.slice a0_0_A a0_0_n a0_0_c), (.slice a0_1_A a0_1_n a0_1_c), (.slice a0_2_A a0_2_n a0_2_c)] :: .row x2 3 23 1 [(.slice a0_0_A a0_0_n a0_0_c), (.slice a0_1_A a0_1_n a0_1_c), (.slice a0_2_A a0_2_n a0_2_c)] :: F) (fun s => κ2 () = some r1) ?_ ?_
                · refine j_block ?_
                  refine j_loop (σ := Int) (fun s => [(1, (pt x1)), (44, (.slice x2 3 3)), (45, (i6 ((3 : Nat) : Int))), (46, (i6 (2:Int))), (50, (.slice a0_2_A a0_2_n a0_2_c)), (51, (i6 (a0_2.length : Int))), (52, (i6 s))]) (fun s => .box x1 25 [(.slice a0_0_A a0_0_n a0_0_c), (.slice a0_1_A a0_1_n a0_1_c), (.slice a0_2_A a0_2_n a0_2_c)] :: .row x2 3 23 1 [(.slice a0_0_A a0_0_n a0_0_c), (.slice a0_1_A a0_1_n a0_1_c), (.slice a0_2_A a0_2_n a0_2_c)] :: F) (fun m s => impl_HeapValid.loop2 K κ2 a0_0 a0_2 m s = some r1) K (0:Int) h (fun a he => he.sub ⟨rfl, rfl, rfl, rfl, rfl, rfl, rfl, trivial⟩) (fun w h => h) ?_
                  rintro m p6 h
                  cases m with
                  | zero => exact absurd h (by rw [impl_HeapValid.loop2]; exact nofun)
                  | succ m =>
                    rw [impl_HeapValid.loop2] at h
                    show J _ _ [(1, (pt x1)), (44, (.slice x2 3 3)), (45, (i6 ((3 : Nat) : Int))), (46, (i6 (2:Int))), (50, (.slice a0_2_A a0_2_n a0_2_c)), (51, (i6 (a0_2.length : Int))), (52, (i6 p6))] _ (.box x1 25 [(.slice a0_0_A a0_0_n a0_0_c), (.slice a0_1_A a0_1_n a0_1_c), (.slice a0_2_A a0_2_n a0_2_c)] :: .row x2 3 23 1 [(.slice a0_0_A a0_0_n a0_0_c), (.slice a0_1_A a0_1_n a0_1_c), (.slice a0_2_A a0_2_n a0_2_c)] :: F)
                    refine j_seq ?_
                    refine j_region ?_
                    refine r_q (q_lss rfl rfl rfl) rfl rfl ?_
                    refine r_nil ?_
                    refine j_then ?_
                    refine j_seq ?_
                    rcases of_if h with ⟨c50, h⟩ | ⟨c50, h⟩
                    · refine j_true rfl (decide_eq_true c50) ?_
                      refine j_skip ?_
                      refine j_then ?_
                      refine j_seq ?_
                      refine j_block ?_
                      refine j_seq ?_
                      refine j_region ?_
                      obtain ⟨c51, h⟩ := of_guard h
                      refine r_q (q_ix (Rd.drop 2 a0_2_R) (ints_len1 _ a0_2) (by decide) a0_2_h c51 un23 sz3 rfl rfl rfl) rfl rfl ?_
                      refine r_q (q_ldI (Rd.drop 2 a0_2_R) c51 ag3 rfl rfl) rfl rfl ?_
                      refine r_q (q_assign rfl rfl) rfl rfl ?_
                      refine r_nil ?_
                      refine j_then ?_
                      refine j_seq ?_
                      refine j_region ?_
                      refine r_q (q_move rfl rfl) rfl rfl ?_
                      refine r_q (q_lss rfl rfl rfl) rfl rfl ?_
                      refine r_q (q_move rfl rfl) rfl rfl ?_
                      rcases of_if h with ⟨c52, h⟩ | ⟨c52, h⟩
                      · refine r_off rfl rfl rfl rfl (decide_eq_true c52) rfl ?_
                        refine r_off rfl rfl rfl rfl (decide_eq_true c52) rfl ?_
                        refine r_off rfl rfl rfl rfl (decide_eq_true c52) rfl ?_
                        refine r_off rfl rfl rfl rfl (decide_eq_true c52) rfl ?_
                        refine r_off rfl rfl rfl rfl (decide_eq_true c52) rfl ?_
                        refine r_q (q_pick_t rfl rfl (decide_eq_true c52) rfl) rfl rfl ?_
                        refine r_nil ?_
                        refine j_then ?_
                        refine j_true rfl rfl ?_
                        refine j_seq ?_
                        refine j_region ?_
                        refine r_q (q_assign rfl rfl) rfl rfl ?_
                        refine r_nil ?_
                        refine j_then ?_
                        refine j_ret ?_
                        refine j_in_ret ?_
                        refine j_then_ret ?_
                        refine j_then_ret ?_
                        refine j_in_ret ?_
                        refine j_then_ret ?_
                        refine j_in_ret ?_
                        refine j_then_ret ?_
                        refine j_then_ret ?_
                        refine j_in_ret ?_
                        refine j_then_ret ?_
                        cases h
                        exact j_return rfl (ResOf.tmp rfl ResOf.nil) rfl (fun w h => ⟨(), rfl, (h.drop 2)⟩)
                      · refine r_qon (q_move rfl rfl) rfl rfl rfl rfl (decide_eq_false c52) rfl ?_
                        refine r_qon (q_fieldAddr fi25_0 sz23 rfl rfl rfl) rfl rfl rfl rfl (decide_eq_false c52) rfl ?_
                        refine r_qon (q_loadb 0 rfl ag23 rfl rfl rfl) rfl rfl rfl rfl (decide_eq_false c52) rfl ?_
                        refine r_qon (q_lenX a0_0 a0_0_h un23 rfl rfl rfl rfl rfl) rfl rfl rfl rfl (decide_eq_false c52) rfl ?_
                        refine r_qon (q_geq rfl rfl rfl) rfl rfl rfl rfl (decide_eq_false c52) rfl ?_
                        refine r_q (q_pick_f rfl rfl (decide_eq_false c52) rfl) rfl rfl ?_
                        refine r_nil ?_
                        refine j_then ?_
                        rcases of_if h with ⟨c53, h⟩ | ⟨c53, h⟩
                        · refine j_true rfl (decide_eq_true c53) ?_
                          refine j_seq ?_
                          refine j_region ?_
                          refine r_q (q_assign rfl rfl) rfl rfl ?_
                          refine r_nil ?_
                          refine j_then ?_
                          refine j_ret ?_
                          refine j_in_ret ?_
                          refine j_then_ret ?_
                          refine j_then_ret ?_
                          refine j_in_ret ?_
                          refine j_then_ret ?_
                          refine j_in_ret ?_
                          refine j_then_ret ?_
                          refine j_then_ret ?_
                          refine j_in_ret ?_
                          refine j_then_ret ?_
                          cases h
                          exact j_return rfl (ResOf.tmp rfl ResOf.nil) rfl (fun w h => ⟨(), rfl, (h.drop 2)⟩)
                        · refine j_false rfl (decide_eq_false c53) ?_
                          refine j_skip ?_
                          refine j_in ?_
                          refine j_then ?_
                          refine j_region ?_
                          refine r_q (q_add rfl rfl rfl) rfl rfl ?_
                          refine r_q (q_move rfl rfl) rfl rfl ?_
                          refine r_nil ?_
                          refine j_then ?_
                          exact j_again m (wrap64 (p6 + (1:Int))) (Nat.lt_succ_self m) h (fun a he => he.sub ⟨rfl, rfl, rfl, rfl, rfl, rfl, rfl, trivial⟩) (fun w h => h)
                    · refine j_false rfl (decide_eq_false c50) ?_
                      refine j_exit ?_
                      refine j_then_exit ?_
                      refine j_then_exit ?_
                      refine j_in_exit ?_
                      refine j_then ?_
                      exact j_meet () h (fun a he => he.sub ⟨rfl, rfl, rfl, rfl, trivial⟩) (fun w h => h)
                · rintro _ h
                  subst hκ2
                  show J _ _ [(1, (pt x1)), (44, (.slice x2 3 3)), (45, (i6 ((3 : Nat) : Int))), (46, (i6 (2:Int)))] _ (.box x1 25 [(.slice a0_0_A a0_0_n a0_0_c), (.slice a0_1_A a0_1_n a0_1_c), (.slice a0_2_A a0_2_n a0_2_c)] :: .row x2 3 23 1 [(.slice a0_0_A a0_0_n a0_0_c), (.slice a0_1_A a0_1_n a0_1_c), (.slice a0_2_A a0_2_n a0_2_c)] :: F)
                  refine j_in ?_
                  refine j_then ?_
                  refine j_region ?_
                  refine r_q (q_addc (v := (3:Int)) rfl rfl rfl (by decide) (by decide)) rfl rfl ?_
                  refine r_q (q_move rfl rfl) rfl rfl ?_
                  refine r_nil ?_
                  refine j_then ?_
                  refine j_round ?_
                  refine j_seq ?_
                  refine j_region ?_
                  refine r_q (q_lss rfl rfl rfl) rfl rfl ?_
                  refine r_nil ?_
                  refine j_then ?_
                  refine j_seq ?_
                  refine j_false rfl (by decide) ?_
                  refine j_exit ?_
                  refine j_then_exit ?_
                  refine j_then_exit ?_
                  refine j_in_exit ?_
                  refine j_then ?_
                  refine j_seq ?_
                  refine j_region ?_
                  refine r_q (q_assign rfl rfl) rfl rfl ?_
                  refine r_nil ?_
                  refine j_then ?_
                  refine j_ret ?_
                  cases h
                  exact j_return rfl (ResOf.tmp rfl ResOf.nil) rfl (fun w h => ⟨(), rfl, (h.drop 2)⟩)
  · refine r_off rfl rfl rfl rfl (bne_t c1) rfl ?_
    refine r_off rfl rfl rfl rfl (bne_t c1) rfl ?_
    refine r_off rfl rfl rfl rfl (bne_t c1) rfl ?_
    refine r_off rfl rfl rfl rfl (bne_t c1) rfl ?_
    refine r_q (q_pick_t rfl rfl (bne_t c1) rfl) rfl rfl ?_
    refine r_q (q_move rfl rfl) rfl rfl ?_
    refine r_off rfl rfl rfl rfl rfl rfl ?_
    refine r_off rfl rfl rfl rfl rfl rfl ?_
    refine r_off rfl rfl rfl rfl rfl rfl ?_
    refine r_off rfl rfl rfl rfl rfl rfl ?_
    refine r_q (q_pick_t rfl rfl rfl rfl) rfl rfl ?_
    refine r_q (q_move rfl rfl) rfl rfl ?_
    refine r_off rfl rfl rfl rfl rfl rfl ?_
    refine r_off rfl rfl rfl rfl rfl rfl ?_
    refine r_off rfl rfl rfl rfl rfl rfl ?_
    refine r_off rfl rfl rfl rfl rfl rfl ?_
    refine r_q (q_pick_t rfl rfl rfl rfl) rfl rfl ?_
    refine r_q (q_move rfl rfl) rfl rfl ?_
    refine r_off rfl rfl rfl rfl rfl rfl ?_
    refine r_off rfl rfl rfl rfl rfl rfl ?_
    refine r_off rfl rfl rfl rfl rfl rfl ?_
    refine r_off rfl rfl rfl rfl rfl rfl ?_
    refine r_q (q_pick_t rfl rfl rfl rfl) rfl rfl ?_
    refine r_nil ?_
    refine j_then ?_
    refine j_true rfl rfl ?_
    refine j_seq ?_
    refine j_region ?_
    refine r_q (q_assign rfl rfl) rfl rfl ?_
    refine r_nil ?_
    refine j_then ?_
    refine j_ret ?_
    refine j_then_ret ?_
    cases h
    exact j_return rfl (ResOf.tmp rfl ResOf.nil) rfl (fun w h => ⟨(), rfl, h.tail⟩)

end Go.Proofs.Ytcdcikmphonkfaa.F
