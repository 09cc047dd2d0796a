/- The program computes these pure functions, printed by the generator of wip/gen. -/
import Derived.Test.YtpfkcjddilpbkaaFa
import Derived.Test.YtpfkcjddilpbkaaFb
namespace Go.Proofs.Ytpfkcjddilpbkaa.F
open Go Go.RowKit Go.Proofs.Ytpfkcjddilpbkaa.S
set_option linter.unusedVariables false
set_option maxRecDepth 100000
theorem spec_l1Points.calls (K : Nat) (a0 : Int) (a1 : Int) {w0 w : World} {F : List Res} {r1 : Bool} (hm : Mem w0 (F) w)  (h : spec_l1Points.f K a0 a1 = some r1) :
    Calls Try.prog 104 (List.toArray [i6 a0, i6 a1]) w fun e w' => ∃ x : Unit, e = .returned (.bool r1) ∧ Mem w0 (F) w' := by
  unfold spec_l1Points.f at h
  refine calls_of_J (n := 12) Try.func104 rfl rfl rfl hm ?_
  refine j_seq ?_
  refine j_region ?_
  refine r_q (q_assign rfl rfl) rfl rfl ?_
  refine r_nil ?_
  refine j_then ?_
  refine j_seq ?_
  refine j_region ?_
  refine r_q (q_move rfl rfl) rfl rfl ?_
  refine r_q (q_geq rfl rfl rfl) rfl rfl ?_
  refine r_q (q_move rfl rfl) rfl rfl ?_
  rcases of_if h with ⟨c1, h⟩ | ⟨c1, h⟩
  · refine r_qon (q_move rfl rfl) rfl rfl rfl rfl (decide_eq_true c1) rfl ?_
    refine r_qon (q_move rfl rfl) rfl rfl rfl rfl (decide_eq_true c1) rfl ?_
    refine r_qon (q_lss rfl rfl rfl) rfl rfl rfl rfl (decide_eq_true c1) rfl ?_
    refine r_q (q_pick_t rfl rfl (decide_eq_true c1) rfl) rfl rfl ?_
    refine r_q (q_assign rfl rfl) rfl rfl ?_
    refine r_nil ?_
    refine j_then ?_
    refine j_ret ?_
    cases h
    exact j_return rfl (ResOf.tmp rfl ResOf.nil) rfl (fun w h => ⟨(), rfl, h⟩)
  · refine r_off rfl rfl rfl rfl (decide_eq_false c1) rfl ?_
    refine r_off rfl rfl rfl rfl (decide_eq_false c1) rfl ?_
    refine r_off rfl rfl rfl rfl (decide_eq_false c1) rfl ?_
    refine r_q (q_pick_f rfl rfl (decide_eq_false c1) rfl) rfl rfl ?_
    refine r_q (q_assign rfl rfl) rfl rfl ?_
    refine r_nil ?_
    refine j_then ?_
    refine j_ret ?_
    cases h
    exact j_return rfl (ResOf.tmp rfl ResOf.nil) rfl (fun w h => ⟨(), rfl, h⟩)

theorem spec_HeapValid.calls (K : Nat) (a0_0 : List Int) (a0_0_A : Option Addr) (a0_0_n a0_0_c : Nat) (a0_1 : List Int) (a0_1_A : Option Addr) (a0_1_n a0_1_c : Nat) (a0_2 : List Int) (a0_2_A : Option Addr) (a0_2_n a0_2_c : Nat) {w0 w : World} {F : List Res} {r1 : Bool} (hm : Mem w0 (F) w) (a0_0_h : a0_0.length = a0_0_n) (a0_0_R : Rd w0 F a0_0_A (ii a0_0)) (a0_1_h : a0_1.length = a0_1_n) (a0_1_R : Rd w0 F a0_1_A (ii a0_1)) (a0_2_h : a0_2.length = a0_2_n) (a0_2_R : Rd w0 F a0_2_A (ii a0_2)) (h : spec_HeapValid.f K a0_0 a0_1 a0_2 = some r1) :
    Calls Try.prog 95 (List.toArray [.agg (List.toArray [.slice a0_0_A a0_0_n a0_0_c, .slice a0_1_A a0_1_n a0_1_c, .slice a0_2_A a0_2_n a0_2_c])]) w fun e w' => ∃ x : Unit, e = .returned (.bool r1) ∧ Mem w0 (F) w' := by
  unfold spec_HeapValid.f at h
  refine calls_of_J (n := 72) Try.func95 rfl rfl rfl hm ?_
  refine j_seq ?_
  refine j_region ?_
  refine r_do (a_box rfl rfl) rfl rfl (fun x1 => ?_)
  refine r_q (q_assign rfl rfl) rfl rfl ?_
  refine r_nil ?_
  refine j_then ?_
  refine j_seq ?_
  refine j_region ?_
  refine r_q (q_fieldAddr fi34_0 sz22 rfl rfl rfl) rfl rfl ?_
  refine r_q (q_loadb 0 rfl ag22 rfl rfl rfl) rfl rfl ?_
  refine r_q (q_lenX a0_0 a0_0_h un22 rfl rfl rfl rfl rfl) rfl rfl ?_
  refine r_q (q_assign rfl rfl) rfl rfl ?_
  refine r_nil ?_
  refine j_then ?_
  refine j_seq ?_
  refine j_seq ?_
  refine j_region ?_
  refine r_q (q_move rfl rfl) rfl rfl ?_
  refine r_q (q_lss rfl rfl rfl) rfl rfl ?_
  refine r_q (q_move rfl rfl) rfl rfl ?_
  rcases of_if h with ⟨c1, h⟩ | ⟨c1, h⟩
  · refine r_off rfl rfl rfl rfl (decide_eq_true c1) rfl ?_
    refine r_off rfl rfl rfl rfl (decide_eq_true c1) rfl ?_
    refine r_q (q_pick_t rfl rfl (decide_eq_true c1) rfl) rfl rfl ?_
    refine r_q (q_move rfl rfl) rfl rfl ?_
    refine r_off rfl rfl rfl rfl rfl rfl ?_
    refine r_off rfl rfl rfl rfl rfl rfl ?_
    refine r_off rfl rfl rfl rfl rfl rfl ?_
    refine r_off rfl rfl rfl rfl rfl rfl ?_
    refine r_off rfl rfl rfl rfl rfl rfl ?_
    refine r_q (q_pick_t rfl rfl rfl rfl) rfl rfl ?_
    refine r_q (q_move rfl rfl) rfl rfl ?_
    refine r_off rfl rfl rfl rfl rfl rfl ?_
    refine r_off rfl rfl rfl rfl rfl rfl ?_
    refine r_off rfl rfl rfl rfl rfl rfl ?_
    refine r_off rfl rfl rfl rfl rfl rfl ?_
    refine r_q (q_pick_t rfl rfl rfl rfl) rfl rfl ?_
    refine r_q (q_move rfl rfl) rfl rfl ?_
    refine r_off rfl rfl rfl rfl rfl rfl ?_
    refine r_off rfl rfl rfl rfl rfl rfl ?_
    refine r_off rfl rfl rfl rfl rfl rfl ?_
    refine r_off rfl rfl rfl rfl rfl rfl ?_
    refine r_q (q_pick_t rfl rfl rfl rfl) rfl rfl ?_
    refine r_nil ?_
    refine j_then ?_
    refine j_true rfl rfl ?_
    refine j_seq ?_
    refine j_region ?_
    refine r_q (q_assign rfl rfl) rfl rfl ?_
    refine r_nil ?_
    refine j_then ?_
    refine j_ret ?_
    refine j_then_ret ?_
    cases h
    exact j_return rfl (ResOf.tmp rfl ResOf.nil) rfl (fun w h => ⟨(), rfl, h.tail⟩)
  · refine r_qon (q_move rfl rfl) rfl rfl rfl rfl (decide_eq_false c1) rfl ?_
    refine r_qon (q_gtr rfl rfl rfl) rfl rfl rfl rfl (decide_eq_false c1) rfl ?_
    refine r_q (q_pick_f rfl rfl (decide_eq_false c1) rfl) rfl rfl ?_
    refine r_q (q_move rfl rfl) rfl rfl ?_
    rcases of_if h with ⟨c2, h⟩ | ⟨c2, h⟩
    · refine r_off rfl rfl rfl rfl (decide_eq_true c2) rfl ?_
      refine r_off rfl rfl rfl rfl (decide_eq_true c2) rfl ?_
      refine r_off rfl rfl rfl rfl (decide_eq_true c2) rfl ?_
      refine r_off rfl rfl rfl rfl (decide_eq_true c2) rfl ?_
      refine r_off rfl rfl rfl rfl (decide_eq_true c2) rfl ?_
      refine r_q (q_pick_t rfl rfl (decide_eq_true c2) rfl) rfl rfl ?_
      refine r_q (q_move rfl rfl) rfl rfl ?_
      refine r_off rfl rfl rfl rfl rfl rfl ?_
      refine r_off rfl rfl rfl rfl rfl rfl ?_
      refine r_off rfl rfl rfl rfl rfl rfl ?_
      refine r_off rfl rfl rfl rfl rfl rfl ?_
      refine r_q (q_pick_t rfl rfl rfl rfl) rfl rfl ?_
      refine r_q (q_move rfl rfl) rfl rfl ?_
      refine r_off rfl rfl rfl rfl rfl rfl ?_
      refine r_off rfl rfl rfl rfl rfl rfl ?_
      refine r_off rfl rfl rfl rfl rfl rfl ?_
      refine r_off rfl rfl rfl rfl rfl rfl ?_
      refine r_q (q_pick_t rfl rfl rfl rfl) rfl rfl ?_
      refine r_nil ?_
      refine j_then ?_
      refine j_true rfl rfl ?_
      refine j_seq ?_
      refine j_region ?_
      refine r_q (q_assign rfl rfl) rfl rfl ?_
      refine r_nil ?_
      refine j_then ?_
      refine j_ret ?_
      refine j_then_ret ?_
      cases h
      exact j_return rfl (ResOf.tmp rfl ResOf.nil) rfl (fun w h => ⟨(), rfl, h.tail⟩)
    · refine r_qon (q_fieldAddr fi34_1 sz22 rfl rfl rfl) rfl rfl rfl rfl (decide_eq_false c2) rfl ?_
      refine r_qon (q_loadb 0 rfl ag22 rfl rfl rfl) rfl rfl rfl rfl (decide_eq_false c2) rfl ?_
      refine r_qon (q_lenX a0_1 a0_1_h un22 rfl rfl rfl rfl rfl) rfl rfl rfl rfl (decide_eq_false c2) rfl ?_
      refine r_qon (q_move rfl rfl) rfl rfl rfl rfl (decide_eq_false c2) rfl ?_
      refine r_qon (q_neq rfl rfl rfl) rfl rfl rfl rfl (decide_eq_false c2) rfl ?_
      refine r_q (q_pick_f rfl rfl (decide_eq_false c2) rfl) rfl rfl ?_
      refine r_q (q_move rfl rfl) rfl rfl ?_
      rcases of_if h with ⟨c3, h⟩ | ⟨c3, h⟩
      · refine r_qon (q_fieldAddr fi34_2 sz22 rfl rfl rfl) rfl rfl rfl rfl (bne_f c3) rfl ?_
        refine r_qon (q_loadb 0 rfl ag22 rfl rfl rfl) rfl rfl rfl rfl (bne_f c3) rfl ?_
        refine r_qon (q_lenX a0_2 a0_2_h un22 rfl rfl rfl rfl rfl) rfl rfl rfl rfl (bne_f c3) rfl ?_
        refine r_qon (q_lss rfl rfl rfl) rfl rfl rfl rfl (bne_f c3) rfl ?_
        refine r_q (q_pick_f rfl rfl (bne_f c3) rfl) rfl rfl ?_
        refine r_q (q_move rfl rfl) rfl rfl ?_
        rcases of_if h with ⟨c4, h⟩ | ⟨c4, h⟩
        · refine r_off rfl rfl rfl rfl (decide_eq_true c4) rfl ?_
          refine r_off rfl rfl rfl rfl (decide_eq_true c4) rfl ?_
          refine r_off rfl rfl rfl rfl (decide_eq_true c4) rfl ?_
          refine r_off rfl rfl rfl rfl (decide_eq_true c4) rfl ?_
          refine r_q (q_pick_t rfl rfl (decide_eq_true c4) rfl) rfl rfl ?_
          refine r_nil ?_
          refine j_then ?_
          refine j_true rfl rfl ?_
          refine j_seq ?_
          refine j_region ?_
          refine r_q (q_assign rfl rfl) rfl rfl ?_
          refine r_nil ?_
          refine j_then ?_
          refine j_ret ?_
          refine j_then_ret ?_
          cases h
          exact j_return rfl (ResOf.tmp rfl ResOf.nil) rfl (fun w h => ⟨(), rfl, h.tail⟩)
        · refine r_qon (q_fieldAddr fi34_2 sz22 rfl rfl rfl) rfl rfl rfl rfl (decide_eq_false c4) rfl ?_
          refine r_qon (q_loadb 0 rfl ag22 rfl rfl rfl) rfl rfl rfl rfl (decide_eq_false c4) rfl ?_
          refine r_qon (q_lenX a0_2 a0_2_h un22 rfl rfl rfl rfl rfl) rfl rfl rfl rfl (decide_eq_false c4) rfl ?_
          refine r_qon (q_gtr rfl rfl rfl) rfl rfl rfl rfl (decide_eq_false c4) rfl ?_
          refine r_q (q_pick_f rfl rfl (decide_eq_false c4) rfl) rfl rfl ?_
          refine r_nil ?_
          refine j_then ?_
          rcases of_if h with ⟨c5, h⟩ | ⟨c5, h⟩
          · refine j_true rfl (decide_eq_true c5) ?_
            refine j_seq ?_
            refine j_region ?_
            refine r_q (q_assign rfl rfl) rfl rfl ?_
            refine r_nil ?_
            refine j_then ?_
            refine j_ret ?_
            refine j_then_ret ?_
            cases h
            exact j_return rfl (ResOf.tmp rfl ResOf.nil) rfl (fun w h => ⟨(), rfl, h.tail⟩)
          · refine j_false rfl (decide_eq_false c5) ?_
            refine j_skip ?_
            refine j_then ?_
            refine j_seq ?_
            refine j_seq ?_
            refine j_region ?_
            refine r_q (q_assign rfl rfl) rfl rfl ?_
            refine r_nil ?_
            refine j_then ?_
            obtain ⟨κ0, h, hκ0⟩ := ex_k (g := fun κ => spec_HeapValid.loop0 K κ a0_0 a0_1 K (0:Int) = some r1) h
            refine j_cut (σ := Unit) (fun s => [(1, (pt x1)), (3, (i6 (a0_0.length : Int)))]) (fun s => .box x1 34 [(.slice a0_0_A a0_0_n a0_0_c), (.slice a0_1_A a0_1_n a0_1_c), (.slice a0_2_A a0_2_n a0_2_c)] :: F) (fun s => κ0 () = some r1) ?_ ?_
            · refine j_block ?_
              refine j_loop (σ := Int) (fun s => [(1, (pt x1)), (3, (i6 (a0_0.length : Int))), (4, (i6 s))]) (fun s => .box x1 34 [(.slice a0_0_A a0_0_n a0_0_c), (.slice a0_1_A a0_1_n a0_1_c), (.slice a0_2_A a0_2_n a0_2_c)] :: F) (fun m s => spec_HeapValid.loop0 K κ0 a0_0 a0_1 m s = some r1) K (0:Int) h (fun a he => he.sub ⟨rfl, rfl, rfl, trivial⟩) (fun w h => h) ?_
              rintro m p2 h
              cases m with
              | zero => exact absurd h (by rw [spec_HeapValid.loop0]; exact nofun)
              | succ m =>
                rw [spec_HeapValid.loop0] at h
                show J _ _ [(1, (pt x1)), (3, (i6 (a0_0.length : Int))), (4, (i6 p2))] _ (.box x1 34 [(.slice a0_0_A a0_0_n a0_0_c), (.slice a0_1_A a0_1_n a0_1_c), (.slice a0_2_A a0_2_n a0_2_c)] :: F)
                refine j_seq ?_
                refine j_seq ?_
                refine j_region ?_
                refine r_q (q_move rfl rfl) rfl rfl ?_
                refine r_q (q_move rfl rfl) rfl rfl ?_
                refine r_q (q_lss rfl rfl rfl) rfl rfl ?_
                refine r_nil ?_
                refine j_then ?_
                rcases of_if h with ⟨c21, h⟩ | ⟨c21, h⟩
                · refine j_true rfl (decide_eq_true c21) ?_
                  refine j_skip ?_
                  refine j_then ?_
                  refine j_seq ?_
                  refine j_block ?_
                  refine j_seq ?_
                  refine j_region ?_
                  refine r_q (q_fieldAddr fi34_0 sz22 rfl rfl rfl) rfl rfl ?_
                  refine r_q (q_loadb 0 rfl ag22 rfl rfl rfl) rfl rfl ?_
                  refine r_q (q_move rfl rfl) rfl rfl ?_
                  obtain ⟨c22, h⟩ := of_guard h
                  refine r_q (q_ix (Rd.drop 1 a0_0_R) (ints_len1 _ a0_0) (by decide) a0_0_h c22 un22 sz3 rfl rfl rfl) rfl rfl ?_
                  refine r_q (q_ldI (Rd.drop 1 a0_0_R) c22 ag3 rfl rfl) rfl rfl ?_
                  refine r_q (q_move rfl rfl) rfl rfl ?_
                  obtain ⟨v7, hb7, h⟩ := of_b1 h
                  refine r_do (a_call ok104 rfl rfl rfl rfl (fun w hm => spec_l1Points.calls K (rd a0_0 p2) (a0_0.length : Int) hm hb7)) rfl rfl (fun x2 => ?_)
                  refine r_q (q_not rfl rfl) rfl rfl ?_
                  refine r_q (q_move rfl rfl) rfl rfl ?_
                  rcases of_if h with ⟨c23, h⟩ | ⟨c23, h⟩
                  · refine r_qon (q_fieldAddr fi34_1 sz22 rfl rfl rfl) rfl rfl rfl rfl (not_f c23) rfl ?_
                    refine r_qon (q_loadb 0 rfl ag22 rfl rfl rfl) rfl rfl rfl rfl (not_f c23) rfl ?_
                    refine r_qon (q_move rfl rfl) rfl rfl rfl rfl (not_f c23) rfl ?_
                    obtain ⟨c24, h⟩ := of_guard h
                    refine r_qon (q_ix (Rd.drop 1 a0_1_R) (ints_len1 _ a0_1) (by decide) a0_1_h c24 un22 sz3 rfl rfl rfl) rfl rfl rfl rfl (not_f c23) rfl ?_
                    refine r_qon (q_ldI (Rd.drop 1 a0_1_R) c24 ag3 rfl rfl) rfl rfl rfl rfl (not_f c23) rfl ?_
                    refine r_qon (q_move rfl rfl) rfl rfl rfl rfl (not_f c23) rfl ?_
                    obtain ⟨v8, hb8, h⟩ := of_b1 h
                    refine r_on (a_call ok104 rfl rfl rfl rfl (fun w hm => spec_l1Points.calls K (rd a0_1 p2) (a0_0.length : Int) hm hb8)) rfl rfl rfl rfl (not_f c23) rfl (fun x3 => ?_)
                    refine r_qon (q_not rfl rfl) rfl rfl rfl rfl (not_f c23) rfl ?_
                    refine r_q (q_pick_f rfl rfl (not_f c23) rfl) rfl rfl ?_
                    refine r_nil ?_
                    refine j_then ?_
                    rcases of_if h with ⟨c25, h⟩ | ⟨c25, h⟩
                    · refine j_false rfl (not_f c25) ?_
                      refine j_skip ?_
                      refine j_in ?_
                      refine j_then ?_
                      refine j_region ?_
                      refine r_q (q_move rfl rfl) rfl rfl ?_
                      refine r_q (q_add rfl rfl rfl) rfl rfl ?_
                      refine r_q (q_assign rfl rfl) rfl rfl ?_
                      refine r_nil ?_
                      refine j_then ?_
                      exact j_again m (wrap64 (p2 + (1:Int))) (Nat.lt_succ_self m) h (fun a he => he.sub ⟨rfl, rfl, rfl, trivial⟩) (fun w h => h)
                    · refine j_true rfl (not_t (var_f c25)) ?_
                      refine j_seq ?_
                      refine j_region ?_
                      refine r_q (q_assign rfl rfl) rfl rfl ?_
                      refine r_nil ?_
                      refine j_then ?_
                      refine j_ret ?_
                      refine j_in_ret ?_
                      refine j_then_ret ?_
                      refine j_then_ret ?_
                      refine j_in_ret ?_
                      refine j_then_ret ?_
                      refine j_then_ret ?_
                      cases h
                      exact j_return rfl (ResOf.tmp rfl ResOf.nil) rfl (fun w h => ⟨(), rfl, h.tail⟩)
                  · refine r_off rfl rfl rfl rfl (not_t (var_f c23)) rfl ?_
                    refine r_off rfl rfl rfl rfl (not_t (var_f c23)) rfl ?_
                    refine r_off rfl rfl rfl rfl (not_t (var_f c23)) rfl ?_
                    refine r_off rfl rfl rfl rfl (not_t (var_f c23)) rfl ?_
                    refine r_off rfl rfl rfl rfl (not_t (var_f c23)) rfl ?_
                    refine r_off rfl rfl rfl rfl (not_t (var_f c23)) rfl ?_
                    refine r_off rfl rfl rfl rfl (not_t (var_f c23)) rfl ?_
                    refine r_off rfl rfl rfl rfl (not_t (var_f c23)) rfl ?_
                    refine r_q (q_pick_t rfl rfl (not_t (var_f c23)) rfl) rfl rfl ?_
                    refine r_nil ?_
                    refine j_then ?_
                    refine j_true rfl rfl ?_
                    refine j_seq ?_
                    refine j_region ?_
                    refine r_q (q_assign rfl rfl) rfl rfl ?_
                    refine r_nil ?_
                    refine j_then ?_
                    refine j_ret ?_
                    refine j_in_ret ?_
                    refine j_then_ret ?_
                    refine j_then_ret ?_
                    refine j_in_ret ?_
                    refine j_then_ret ?_
                    refine j_then_ret ?_
                    cases h
                    exact j_return rfl (ResOf.tmp rfl ResOf.nil) rfl (fun w h => ⟨(), rfl, h.tail⟩)
                · refine j_false rfl (decide_eq_false c21) ?_
                  refine j_exit ?_
                  refine j_then_exit ?_
                  refine j_then_exit ?_
                  refine j_in_exit ?_
                  refine j_then ?_
                  exact j_meet () h (fun a he => he.sub ⟨rfl, rfl, trivial⟩) (fun w h => h)
            · rintro _ h
              subst hκ0
              show J _ _ [(1, (pt x1)), (3, (i6 (a0_0.length : Int)))] _ (.box x1 34 [(.slice a0_0_A a0_0_n a0_0_c), (.slice a0_1_A a0_1_n a0_1_c), (.slice a0_2_A a0_2_n a0_2_c)] :: F)
              refine j_then ?_
              refine j_seq ?_
              refine j_seq ?_
              refine j_region ?_
              refine r_q (q_assign rfl rfl) rfl rfl ?_
              refine r_nil ?_
              refine j_then ?_
              obtain ⟨κ1, h, hκ1⟩ := ex_k (g := fun κ => spec_HeapValid.loop1 K κ a0_0 a0_2 K (0:Int) = some r1) h
              refine j_cut (σ := Unit) (fun s => []) (fun s => F) (fun s => κ1 () = some r1) ?_ ?_
              · refine j_block ?_
                refine j_loop (σ := Int) (fun s => [(1, (pt x1)), (3, (i6 (a0_0.length : Int))), (5, (i6 s))]) (fun s => .box x1 34 [(.slice a0_0_A a0_0_n a0_0_c), (.slice a0_1_A a0_1_n a0_1_c), (.slice a0_2_A a0_2_n a0_2_c)] :: F) (fun m s => spec_HeapValid.loop1 K κ1 a0_0 a0_2 m s = some r1) K (0:Int) h (fun a he => he.sub ⟨rfl, rfl, rfl, trivial⟩) (fun w h => h) ?_
                rintro m p4 h
                cases m with
                | zero => exact absurd h (by rw [spec_HeapValid.loop1]; exact nofun)
                | succ m =>
                  rw [spec_HeapValid.loop1] at h
                  show J _ _ [(1, (pt x1)), (3, (i6 (a0_0.length : Int))), (5, (i6 p4))] _ (.box x1 34 [(.slice a0_0_A a0_0_n a0_0_c), (.slice a0_1_A a0_1_n a0_1_c), (.slice a0_2_A a0_2_n a0_2_c)] :: F)
                  refine j_seq ?_
                  refine j_seq ?_
                  refine j_region ?_
                  refine r_q (q_move rfl rfl) rfl rfl ?_
                  refine r_q (q_fieldAddr fi34_2 sz22 rfl rfl rfl) rfl rfl ?_
                  refine r_q (q_loadb 0 rfl ag22 rfl rfl rfl) rfl rfl ?_
                  refine r_q (q_lenX a0_2 a0_2_h un22 rfl rfl rfl rfl rfl) rfl rfl ?_
                  refine r_q (q_lss rfl rfl rfl) rfl rfl ?_
                  refine r_nil ?_
                  refine j_then ?_
                  rcases of_if h with ⟨c35, h⟩ | ⟨c35, h⟩
                  · refine j_true rfl (decide_eq_true c35) ?_
                    refine j_skip ?_
                    refine j_then ?_
                    refine j_seq ?_
                    refine j_block ?_
                    refine j_seq ?_
                    refine j_region ?_
                    refine r_q (q_fieldAddr fi34_2 sz22 rfl rfl rfl) rfl rfl ?_
                    refine r_q (q_loadb 0 rfl ag22 rfl rfl rfl) rfl rfl ?_
                    refine r_q (q_move rfl rfl) rfl rfl ?_
                    obtain ⟨c36, h⟩ := of_guard h
                    refine r_q (q_ix (Rd.drop 1 a0_2_R) (ints_len1 _ a0_2) (by decide) a0_2_h c36 un22 sz3 rfl rfl rfl) rfl rfl ?_
                    refine r_q (q_ldI (Rd.drop 1 a0_2_R) c36 ag3 rfl rfl) rfl rfl ?_
                    refine r_q (q_move rfl rfl) rfl rfl ?_
                    obtain ⟨v12, hb12, h⟩ := of_b1 h
                    refine r_do (a_call ok104 rfl rfl rfl rfl (fun w hm => spec_l1Points.calls K (rd a0_2 p4) (a0_0.length : Int) hm hb12)) rfl rfl (fun x4 => ?_)
                    refine r_q (q_not rfl rfl) rfl rfl ?_
                    refine r_nil ?_
                    refine j_then ?_
                    rcases of_if h with ⟨c37, h⟩ | ⟨c37, h⟩
                    · refine j_false rfl (not_f c37) ?_
                      refine j_skip ?_
                      refine j_in ?_
                      refine j_then ?_
                      refine j_region ?_
                      refine r_q (q_move rfl rfl) rfl rfl ?_
                      refine r_q (q_add rfl rfl rfl) rfl rfl ?_
                      refine r_q (q_assign rfl rfl) rfl rfl ?_
                      refine r_nil ?_
                      refine j_then ?_
                      exact j_again m (wrap64 (p4 + (1:Int))) (Nat.lt_succ_self m) h (fun a he => he.sub ⟨rfl, rfl, rfl, trivial⟩) (fun w h => h)
                    · refine j_true rfl (not_t (var_f c37)) ?_
                      refine j_seq ?_
                      refine j_region ?_
                      refine r_q (q_assign rfl rfl) rfl rfl ?_
                      refine r_nil ?_
                      refine j_then ?_
                      refine j_ret ?_
                      refine j_in_ret ?_
                      refine j_then_ret ?_
                      refine j_then_ret ?_
                      refine j_in_ret ?_
                      refine j_then_ret ?_
                      refine j_then_ret ?_
                      cases h
                      exact j_return rfl (ResOf.tmp rfl ResOf.nil) rfl (fun w h => ⟨(), rfl, h.tail⟩)
                  · refine j_false rfl (decide_eq_false c35) ?_
                    refine j_exit ?_
                    refine j_then_exit ?_
                    refine j_then_exit ?_
                    refine j_in_exit ?_
                    refine j_then ?_
                    exact j_meet () h (fun a he => he.sub trivial) (fun w h => h.tail)
              · rintro _ h
                subst hκ1
                show J _ _ [] _ (F)
                refine j_then ?_
                refine j_seq ?_
                refine j_region ?_
                refine r_q (q_assign rfl rfl) rfl rfl ?_
                refine r_nil ?_
                refine j_then ?_
                refine j_ret ?_
                cases h
                exact j_return rfl (ResOf.tmp rfl ResOf.nil) rfl (fun w h => ⟨(), rfl, h⟩)
      · refine r_off rfl rfl rfl rfl (bne_t c3) rfl ?_
        refine r_off rfl rfl rfl rfl (bne_t c3) rfl ?_
        refine r_off rfl rfl rfl rfl (bne_t c3) rfl ?_
        refine r_off rfl rfl rfl rfl (bne_t c3) rfl ?_
        refine r_q (q_pick_t rfl rfl (bne_t c3) rfl) rfl rfl ?_
        refine r_q (q_move rfl rfl) rfl rfl ?_
        refine r_off rfl rfl rfl rfl rfl rfl ?_
        refine r_off rfl rfl rfl rfl rfl rfl ?_
        refine r_off rfl rfl rfl rfl rfl rfl ?_
        refine r_off rfl rfl rfl rfl rfl rfl ?_
        refine r_q (q_pick_t rfl rfl rfl rfl) rfl rfl ?_
        refine r_nil ?_
        refine j_then ?_
        refine j_true rfl rfl ?_
        refine j_seq ?_
        refine j_region ?_
        refine r_q (q_assign rfl rfl) rfl rfl ?_
        refine r_nil ?_
        refine j_then ?_
        refine j_ret ?_
        refine j_then_ret ?_
        cases h
        exact j_return rfl (ResOf.tmp rfl ResOf.nil) rfl (fun w h => ⟨(), rfl, h.tail⟩)

theorem spec_l4At.calls (K : Nat) (a0 : List Int) (a0_A : Option Addr) (a0_n a0_c : Nat) (a1 : Int) {w0 w : World} {F : List Res} {r1 : Int} (hm : Mem w0 (F) w) (a0_h : a0.length = a0_n) (a0_R : Rd w0 F a0_A (ii a0)) (h : spec_l4At.f K a0 a1 = some r1) :
    Calls Try.prog 84 (List.toArray [.slice a0_A a0_n a0_c, i6 a1]) w fun e w' => ∃ x : Unit, e = .returned (i6 r1) ∧ Mem w0 (F) w' := by
  unfold spec_l4At.f at h
  refine calls_of_J (n := 19) Try.func84 rfl rfl rfl hm ?_
  refine j_seq ?_
  refine j_region ?_
  refine r_q (q_assign rfl rfl) rfl rfl ?_
  refine r_nil ?_
  refine j_then ?_
  refine j_seq ?_
  refine j_seq ?_
  refine j_region ?_
  refine r_q (q_assign rfl rfl) rfl rfl ?_
  refine r_nil ?_
  refine j_then ?_
  obtain ⟨κ0, h, hκ0⟩ := ex_k (g := fun κ => spec_l4At.loop0 K κ a0 a1 K (0:Int) = some r1) h
  refine j_cut (σ := Unit) (fun s => []) (fun s => F) (fun s => κ0 () = some r1) ?_ ?_
  · refine j_block ?_
    refine j_loop (σ := Int) (fun s => [(0, (.slice a0_A a0_n a0_c)), (1, (i6 a1)), (5, (i6 s))]) (fun s => F) (fun m s => spec_l4At.loop0 K κ0 a0 a1 m s = some r1) K (0:Int) h (fun a he => he.sub ⟨rfl, rfl, rfl, trivial⟩) (fun w h => h) ?_
    rintro m p2 h
    cases m with
    | zero => exact absurd h (by rw [spec_l4At.loop0]; exact nofun)
    | succ m =>
      rw [spec_l4At.loop0] at h
      show J _ _ [(0, (.slice a0_A a0_n a0_c)), (1, (i6 a1)), (5, (i6 p2))] _ (F)
      refine j_seq ?_
      refine j_seq ?_
      refine j_region ?_
      refine r_q (q_move rfl rfl) rfl rfl ?_
      refine r_q (q_move rfl rfl) rfl rfl ?_
      refine r_q (q_lenX a0 a0_h un22 rfl rfl rfl rfl rfl) rfl rfl ?_
      refine r_q (q_lss rfl rfl rfl) rfl rfl ?_
      refine r_nil ?_
      refine j_then ?_
      rcases of_if h with ⟨c10, h⟩ | ⟨c10, h⟩
      · refine j_true rfl (decide_eq_true c10) ?_
        refine j_skip ?_
        refine j_then ?_
        refine j_seq ?_
        refine j_block ?_
        refine j_seq ?_
        refine j_region ?_
        refine r_q (q_move rfl rfl) rfl rfl ?_
        refine r_q (q_move rfl rfl) rfl rfl ?_
        obtain ⟨c11, h⟩ := of_guard h
        refine r_q (q_ix a0_R (ints_len1 _ a0) (by decide) a0_h c11 un22 sz3 rfl rfl rfl) rfl rfl ?_
        refine r_q (q_ldI a0_R c11 ag3 rfl rfl) rfl rfl ?_
        refine r_q (q_move rfl rfl) rfl rfl ?_
        refine r_q (q_eql rfl rfl rfl) rfl rfl ?_
        refine r_nil ?_
        refine j_then ?_
        rcases of_if h with ⟨c12, h⟩ | ⟨c12, h⟩
        · refine j_true rfl (beq_t c12) ?_
          refine j_seq ?_
          refine j_region ?_
          refine r_q (q_move rfl rfl) rfl rfl ?_
          refine r_q (q_assign rfl rfl) rfl rfl ?_
          refine r_nil ?_
          refine j_then ?_
          refine j_ret ?_
          refine j_in_ret ?_
          refine j_then_ret ?_
          refine j_then_ret ?_
          refine j_in_ret ?_
          refine j_then_ret ?_
          refine j_then_ret ?_
          cases h
          exact j_return rfl (ResOf.tmp rfl ResOf.nil) rfl (fun w h => ⟨(), rfl, h⟩)
        · refine j_false rfl (beq_f c12) ?_
          refine j_skip ?_
          refine j_in ?_
          refine j_then ?_
          refine j_region ?_
          refine r_q (q_move rfl rfl) rfl rfl ?_
          refine r_q (q_add rfl rfl rfl) rfl rfl ?_
          refine r_q (q_assign rfl rfl) rfl rfl ?_
          refine r_nil ?_
          refine j_then ?_
          exact j_again m (wrap64 (p2 + (1:Int))) (Nat.lt_succ_self m) h (fun a he => he.sub ⟨rfl, rfl, rfl, trivial⟩) (fun w h => h)
      · refine j_false rfl (decide_eq_false c10) ?_
        refine j_exit ?_
        refine j_then_exit ?_
        refine j_then_exit ?_
        refine j_in_exit ?_
        refine j_then ?_
        exact j_meet () h (fun a he => he.sub trivial) (fun w h => h)
  · rintro _ h
    subst hκ0
    show J _ _ [] _ (F)
    refine j_then ?_
    refine j_seq ?_
    refine j_region ?_
    refine r_q (q_assign rfl rfl) rfl rfl ?_
    refine r_nil ?_
    refine j_then ?_
    refine j_ret ?_
    cases h
    exact j_return rfl (ResOf.tmp rfl ResOf.nil) rfl (fun w h => ⟨(), rfl, h⟩)

theorem spec_l4Free.calls (K : Nat) (a0_0 : List Int) (a0_0_A : Option Addr) (a0_0_n a0_0_c : Nat) (a0_1 : List Int) (a0_1_A : Option Addr) (a0_1_n a0_1_c : Nat) (a0_2 : List Int) (a0_2_A : Option Addr) (a0_2_n a0_2_c : Nat) (a1 : Int) {w0 w : World} {F : List Res} {r1 : Bool} (hm : Mem w0 (F) w) (a0_0_h : a0_0.length = a0_0_n) (a0_0_R : Rd w0 F a0_0_A (ii a0_0)) (a0_1_h : a0_1.length = a0_1_n) (a0_1_R : Rd w0 F a0_1_A (ii a0_1)) (a0_2_h : a0_2.length = a0_2_n) (a0_2_R : Rd w0 F a0_2_A (ii a0_2)) (h : spec_l4Free.f K a0_0 a0_1 a0_2 a1 = some r1) :
    Calls Try.prog 96 (List.toArray [.agg (List.toArray [.slice a0_0_A a0_0_n a0_0_c, .slice a0_1_A a0_1_n a0_1_c, .slice a0_2_A a0_2_n a0_2_c]), i6 a1]) w fun e w' => ∃ x : Unit, e = .returned (.bool r1) ∧ Mem w0 (F) w' := by
  unfold spec_l4Free.f at h
  refine calls_of_J (n := 51) Try.func96 rfl rfl rfl hm ?_
  refine j_seq ?_
  refine j_region ?_
  refine r_do (a_box rfl rfl) rfl rfl (fun x1 => ?_)
  refine r_q (q_assign rfl rfl) rfl rfl ?_
  refine r_nil ?_
  refine j_then ?_
  refine j_seq ?_
  refine j_region ?_
  refine r_q (q_move rfl rfl) rfl rfl ?_
  refine r_q (q_geq rfl rfl rfl) rfl rfl ?_
  refine r_q (q_move rfl rfl) rfl rfl ?_
  rcases of_if h with ⟨c1, h⟩ | ⟨c1, h⟩
  · refine r_qon (q_move rfl rfl) rfl rfl rfl rfl (decide_eq_true c1) rfl ?_
    refine r_qon (q_fieldAddr fi34_0 sz22 rfl rfl rfl) rfl rfl rfl rfl (decide_eq_true c1) rfl ?_
    refine r_qon (q_loadb 0 rfl ag22 rfl rfl rfl) rfl rfl rfl rfl (decide_eq_true c1) rfl ?_
    refine r_qon (q_lenX a0_0 a0_0_h un22 rfl rfl rfl rfl rfl) rfl rfl rfl rfl (decide_eq_true c1) rfl ?_
    refine r_qon (q_lss rfl rfl rfl) rfl rfl rfl rfl (decide_eq_true c1) rfl ?_
    refine r_q (q_pick_t rfl rfl (decide_eq_true c1) rfl) rfl rfl ?_
    refine r_q (q_move rfl rfl) rfl rfl ?_
    rcases of_if h with ⟨c2, h⟩ | ⟨c2, h⟩
    · refine r_qon (q_fieldAddr fi34_0 sz22 rfl rfl rfl) rfl rfl rfl rfl (decide_eq_true c2) rfl ?_
      refine r_qon (q_loadb 0 rfl ag22 rfl rfl rfl) rfl rfl rfl rfl (decide_eq_true c2) rfl ?_
      refine r_qon (q_move rfl rfl) rfl rfl rfl rfl (decide_eq_true c2) rfl ?_
      obtain ⟨c3, h⟩ := of_guard h
      refine r_qon (q_ix (Rd.drop 1 a0_0_R) (ints_len1 _ a0_0) (by decide) a0_0_h c3 un22 sz3 rfl rfl rfl) rfl rfl rfl rfl (decide_eq_true c2) rfl ?_
      refine r_qon (q_ldI (Rd.drop 1 a0_0_R) c3 ag3 rfl rfl) rfl rfl rfl rfl (decide_eq_true c2) rfl ?_
      refine r_qon (q_eql rfl rfl rfl) rfl rfl rfl rfl (decide_eq_true c2) rfl ?_
      refine r_q (q_pick_t rfl rfl (decide_eq_true c2) rfl) rfl rfl ?_
      refine r_q (q_move rfl rfl) rfl rfl ?_
      rcases of_if h with ⟨c4, h⟩ | ⟨c4, h⟩
      · refine r_qon (q_fieldAddr fi34_1 sz22 rfl rfl rfl) rfl rfl rfl rfl (beq_t c4) rfl ?_
        refine r_qon (q_loadb 0 rfl ag22 rfl rfl rfl) rfl rfl rfl rfl (beq_t c4) rfl ?_
        refine r_qon (q_move rfl rfl) rfl rfl rfl rfl (beq_t c4) rfl ?_
        obtain ⟨c5, h⟩ := of_guard h
        refine r_qon (q_ix (Rd.drop 1 a0_1_R) (ints_len1 _ a0_1) (by decide) a0_1_h c5 un22 sz3 rfl rfl rfl) rfl rfl rfl rfl (beq_t c4) rfl ?_
        refine r_qon (q_ldI (Rd.drop 1 a0_1_R) c5 ag3 rfl rfl) rfl rfl rfl rfl (beq_t c4) rfl ?_
        refine r_qon (q_eql rfl rfl rfl) rfl rfl rfl rfl (beq_t c4) rfl ?_
        refine r_q (q_pick_t rfl rfl (beq_t c4) rfl) rfl rfl ?_
        refine r_q (q_move rfl rfl) rfl rfl ?_
        rcases of_if h with ⟨c6, h⟩ | ⟨c6, h⟩
        · refine r_qon (q_fieldAddr fi34_0 sz22 rfl rfl rfl) rfl rfl rfl rfl (beq_t c6) rfl ?_
          refine r_qon (q_loadb 0 rfl ag22 rfl rfl rfl) rfl rfl rfl rfl (beq_t c6) rfl ?_
          refine r_qon (q_move rfl rfl) rfl rfl rfl rfl (beq_t c6) rfl ?_
          obtain ⟨v1, hb1, h⟩ := of_b1 h
          refine r_on (a_call ok84 rfl rfl rfl rfl (fun w hm => spec_l4At.calls K a0_0 a0_0_A a0_0_n a0_0_c a1 hm a0_0_h (Rd.drop 1 a0_0_R) hb1)) rfl rfl rfl rfl (beq_t c6) rfl (fun x2 => ?_)
          refine r_qon (q_lss rfl rfl rfl) rfl rfl rfl rfl (beq_t c6) rfl ?_
          refine r_q (q_pick_t rfl rfl (beq_t c6) rfl) rfl rfl ?_
          refine r_q (q_move rfl rfl) rfl rfl ?_
          rcases of_if h with ⟨c7, h⟩ | ⟨c7, h⟩
          · refine r_qon (q_fieldAddr fi34_1 sz22 rfl rfl rfl) rfl rfl rfl rfl (decide_eq_true c7) rfl ?_
            refine r_qon (q_loadb 0 rfl ag22 rfl rfl rfl) rfl rfl rfl rfl (decide_eq_true c7) rfl ?_
            refine r_qon (q_move rfl rfl) rfl rfl rfl rfl (decide_eq_true c7) rfl ?_
            obtain ⟨v2, hb2, h⟩ := of_b1 h
            refine r_on (a_call ok84 rfl rfl rfl rfl (fun w hm => spec_l4At.calls K a0_1 a0_1_A a0_1_n a0_1_c a1 hm a0_1_h (Rd.drop 1 a0_1_R) hb2)) rfl rfl rfl rfl (decide_eq_true c7) rfl (fun x3 => ?_)
            refine r_qon (q_lss rfl rfl rfl) rfl rfl rfl rfl (decide_eq_true c7) rfl ?_
            refine r_q (q_pick_t rfl rfl (decide_eq_true c7) rfl) rfl rfl ?_
            refine r_q (q_move rfl rfl) rfl rfl ?_
            rcases of_if h with ⟨c8, h⟩ | ⟨c8, h⟩
            · refine r_qon (q_fieldAddr fi34_2 sz22 rfl rfl rfl) rfl rfl rfl rfl (decide_eq_true c8) rfl ?_
              refine r_qon (q_loadb 0 rfl ag22 rfl rfl rfl) rfl rfl rfl rfl (decide_eq_true c8) rfl ?_
              refine r_qon (q_move rfl rfl) rfl rfl rfl rfl (decide_eq_true c8) rfl ?_
              obtain ⟨v3, hb3, h⟩ := of_b1 h
              refine r_on (a_call ok84 rfl rfl rfl rfl (fun w hm => spec_l4At.calls K a0_2 a0_2_A a0_2_n a0_2_c a1 hm a0_2_h (Rd.drop 1 a0_2_R) hb3)) rfl rfl rfl rfl (decide_eq_true c8) rfl (fun x4 => ?_)
              refine r_qon (q_lss rfl rfl rfl) rfl rfl rfl rfl (decide_eq_true c8) rfl ?_
              refine r_q (q_pick_t rfl rfl (decide_eq_true c8) rfl) rfl rfl ?_
              refine r_q (q_assign rfl rfl) rfl rfl ?_
              refine r_nil ?_
              refine j_then ?_
              refine j_ret ?_
              cases h
              exact j_return rfl (ResOf.tmp rfl ResOf.nil) rfl (fun w h => ⟨(), rfl, h.tail⟩)
            · refine r_off rfl rfl rfl rfl (decide_eq_false c8) rfl ?_
              refine r_off rfl rfl rfl rfl (decide_eq_false c8) rfl ?_
              refine r_off rfl rfl rfl rfl (decide_eq_false c8) rfl ?_
              refine r_off rfl rfl rfl rfl (decide_eq_false c8) rfl ?_
              refine r_off rfl rfl rfl rfl (decide_eq_false c8) rfl ?_
              refine r_q (q_pick_f rfl rfl (decide_eq_false c8) rfl) rfl rfl ?_
              refine r_q (q_assign rfl rfl) rfl rfl ?_
              refine r_nil ?_
              refine j_then ?_
              refine j_ret ?_
              cases h
              exact j_return rfl (ResOf.tmp rfl ResOf.nil) rfl (fun w h => ⟨(), rfl, h.tail⟩)
          · refine r_off rfl rfl rfl rfl (decide_eq_false c7) rfl ?_
            refine r_off rfl rfl rfl rfl (decide_eq_false c7) rfl ?_
            refine r_off rfl rfl rfl rfl (decide_eq_false c7) rfl ?_
            refine r_off rfl rfl rfl rfl (decide_eq_false c7) rfl ?_
            refine r_off rfl rfl rfl rfl (decide_eq_false c7) rfl ?_
            refine r_q (q_pick_f rfl rfl (decide_eq_false c7) rfl) rfl rfl ?_
            refine r_q (q_move rfl rfl) rfl rfl ?_
            refine r_off rfl rfl rfl rfl rfl rfl ?_
            refine r_off rfl rfl rfl rfl rfl rfl ?_
            refine r_off rfl rfl rfl rfl rfl rfl ?_
            refine r_off rfl rfl rfl rfl rfl rfl ?_
            refine r_off rfl rfl rfl rfl rfl rfl ?_
            refine r_q (q_pick_f rfl rfl rfl rfl) rfl rfl ?_
            refine r_q (q_assign rfl rfl) rfl rfl ?_
            refine r_nil ?_
            refine j_then ?_
            refine j_ret ?_
            cases h
            exact j_return rfl (ResOf.tmp rfl ResOf.nil) rfl (fun w h => ⟨(), rfl, h.tail⟩)
        · refine r_off rfl rfl rfl rfl (beq_f c6) rfl ?_
          refine r_off rfl rfl rfl rfl (beq_f c6) rfl ?_
          refine r_off rfl rfl rfl rfl (beq_f c6) rfl ?_
          refine r_off rfl rfl rfl rfl (beq_f c6) rfl ?_
          refine r_off rfl rfl rfl rfl (beq_f c6) rfl ?_
          refine r_q (q_pick_f rfl rfl (beq_f c6) rfl) rfl rfl ?_
          refine r_q (q_move rfl rfl) rfl rfl ?_
          refine r_off rfl rfl rfl rfl rfl rfl ?_
          refine r_off rfl rfl rfl rfl rfl rfl ?_
          refine r_off rfl rfl rfl rfl rfl rfl ?_
          refine r_off rfl rfl rfl rfl rfl rfl ?_
          refine r_off rfl rfl rfl rfl rfl rfl ?_
          refine r_q (q_pick_f rfl rfl rfl rfl) rfl rfl ?_
          refine r_q (q_move rfl rfl) rfl rfl ?_
          refine r_off rfl rfl rfl rfl rfl rfl ?_
          refine r_off rfl rfl rfl rfl rfl rfl ?_
          refine r_off rfl rfl rfl rfl rfl rfl ?_
          refine r_off rfl rfl rfl rfl rfl rfl ?_
          refine r_off rfl rfl rfl rfl rfl rfl ?_
          refine r_q (q_pick_f rfl rfl rfl rfl) rfl rfl ?_
          refine r_q (q_assign rfl rfl) rfl rfl ?_
          refine r_nil ?_
          refine j_then ?_
          refine j_ret ?_
          cases h
          exact j_return rfl (ResOf.tmp rfl ResOf.nil) rfl (fun w h => ⟨(), rfl, h.tail⟩)
      · refine r_off rfl rfl rfl rfl (beq_f c4) rfl ?_
        refine r_off rfl rfl rfl rfl (beq_f c4) rfl ?_
        refine r_off rfl rfl rfl rfl (beq_f c4) rfl ?_
        refine r_off rfl rfl rfl rfl (beq_f c4) rfl ?_
        refine r_off rfl rfl rfl rfl (beq_f c4) rfl ?_
        refine r_off rfl rfl rfl rfl (beq_f c4) rfl ?_
        refine r_q (q_pick_f rfl rfl (beq_f c4) rfl) rfl rfl ?_
        refine r_q (q_move rfl rfl) rfl rfl ?_
        refine r_off rfl rfl rfl rfl rfl rfl ?_
        refine r_off rfl rfl rfl rfl rfl rfl ?_
        refine r_off rfl rfl rfl rfl rfl rfl ?_
        refine r_off rfl rfl rfl rfl rfl rfl ?_
        refine r_off rfl rfl rfl rfl rfl rfl ?_
        refine r_q (q_pick_f rfl rfl rfl rfl) rfl rfl ?_
        refine r_q (q_move rfl rfl) rfl rfl ?_
        refine r_off rfl rfl rfl rfl rfl rfl ?_
        refine r_off rfl rfl rfl rfl rfl rfl ?_
        refine r_off rfl rfl rfl rfl rfl rfl ?_
        refine r_off rfl rfl rfl rfl rfl rfl ?_
        refine r_off rfl rfl rfl rfl rfl rfl ?_
        refine r_q (q_pick_f rfl rfl rfl rfl) rfl rfl ?_
        refine r_q (q_move rfl rfl) rfl rfl ?_
        refine r_off rfl rfl rfl rfl rfl rfl ?_
        refine r_off rfl rfl rfl rfl rfl rfl ?_
        refine r_off rfl rfl rfl rfl rfl rfl ?_
        refine r_off rfl rfl rfl rfl rfl rfl ?_
        refine r_off rfl rfl rfl rfl rfl rfl ?_
        refine r_q (q_pick_f rfl rfl rfl rfl) rfl rfl ?_
        refine r_q (q_assign rfl rfl) rfl rfl ?_
        refine r_nil ?_
        refine j_then ?_
        refine j_ret ?_
        cases h
        exact j_return rfl (ResOf.tmp rfl ResOf.nil) rfl (fun w h => ⟨(), rfl, h.tail⟩)
    · refine r_off rfl rfl rfl rfl (decide_eq_false c2) rfl ?_
      refine r_off rfl rfl rfl rfl (decide_eq_false c2) rfl ?_
      refine r_off rfl rfl rfl rfl (decide_eq_false c2) rfl ?_
      refine r_off rfl rfl rfl rfl (decide_eq_false c2) rfl ?_
      refine r_off rfl rfl rfl rfl (decide_eq_false c2) rfl ?_
      refine r_off rfl rfl rfl rfl (decide_eq_false c2) rfl ?_
      refine r_q (q_pick_f rfl rfl (decide_eq_false c2) rfl) rfl rfl ?_
      refine r_q (q_move rfl rfl) rfl rfl ?_
      refine r_off rfl rfl rfl rfl rfl rfl ?_
      refine r_off rfl rfl rfl rfl rfl rfl ?_
      refine r_off rfl rfl rfl rfl rfl rfl ?_
      refine r_off rfl rfl rfl rfl rfl rfl ?_
      refine r_off rfl rfl rfl rfl rfl rfl ?_
      refine r_off rfl rfl rfl rfl rfl rfl ?_
      refine r_q (q_pick_f rfl rfl rfl rfl) rfl rfl ?_
      refine r_q (q_move rfl rfl) rfl rfl ?_
      refine r_off rfl rfl rfl rfl rfl rfl ?_
      refine r_off rfl rfl rfl rfl rfl rfl ?_
      refine r_off rfl rfl rfl rfl rfl rfl ?_
      refine r_off rfl rfl rfl rfl rfl rfl ?_
      refine r_off rfl rfl rfl rfl rfl rfl ?_
      refine r_q (q_pick_f rfl rfl rfl rfl) rfl rfl ?_
      refine r_q (q_move rfl rfl) rfl rfl ?_
      refine r_off rfl rfl rfl rfl rfl rfl ?_
      refine r_off rfl rfl rfl rfl rfl rfl ?_
      refine r_off rfl rfl rfl rfl rfl rfl ?_
      refine r_off rfl rfl rfl rfl rfl rfl ?_
      refine r_off rfl rfl rfl rfl rfl rfl ?_
      refine r_q (q_pick_f rfl rfl rfl rfl) rfl rfl ?_
      refine r_q (q_move rfl rfl) rfl rfl ?_
      refine r_off rfl rfl rfl rfl rfl rfl ?_
      refine r_off rfl rfl rfl rfl rfl rfl ?_
      refine r_off rfl rfl rfl rfl rfl rfl ?_
      refine r_off rfl rfl rfl rfl rfl rfl ?_
      refine r_off rfl rfl rfl rfl rfl rfl ?_
      refine r_q (q_pick_f rfl rfl rfl rfl) rfl rfl ?_
      refine r_q (q_assign rfl rfl) rfl rfl ?_
      refine r_nil ?_
      refine j_then ?_
      refine j_ret ?_
      cases h
      exact j_return rfl (ResOf.tmp rfl ResOf.nil) rfl (fun w h => ⟨(), rfl, h.tail⟩)
  · refine r_off rfl rfl rfl rfl (decide_eq_false c1) rfl ?_
    refine r_off rfl rfl rfl rfl (decide_eq_false c1) rfl ?_
    refine r_off rfl rfl rfl rfl (decide_eq_false c1) rfl ?_
    refine r_off rfl rfl rfl rfl (decide_eq_false c1) rfl ?_
    refine r_off rfl rfl rfl rfl (decide_eq_false c1) rfl ?_
    refine r_q (q_pick_f rfl rfl (decide_eq_false c1) rfl) rfl rfl ?_
    refine r_q (q_move rfl rfl) rfl rfl ?_
    refine r_off rfl rfl rfl rfl rfl rfl ?_
    refine r_off rfl rfl rfl rfl rfl rfl ?_
    refine r_off rfl rfl rfl rfl rfl rfl ?_
    refine r_off rfl rfl rfl rfl rfl rfl ?_
    refine r_off rfl rfl rfl rfl rfl rfl ?_
    refine r_off rfl rfl rfl rfl rfl rfl ?_
    refine r_q (q_pick_f rfl rfl rfl rfl) rfl rfl ?_
    refine r_q (q_move rfl rfl) rfl rfl ?_
    refine r_off rfl rfl rfl rfl rfl rfl ?_
    refine r_off rfl rfl rfl rfl rfl rfl ?_
    refine r_off rfl rfl rfl rfl rfl rfl ?_
    refine r_off rfl rfl rfl rfl rfl rfl ?_
    refine r_off rfl rfl rfl rfl rfl rfl ?_
    refine r_off rfl rfl rfl rfl rfl rfl ?_
    refine r_q (q_pick_f rfl rfl rfl rfl) rfl rfl ?_
    refine r_q (q_move rfl rfl) rfl rfl ?_
    refine r_off rfl rfl rfl rfl rfl rfl ?_
    refine r_off rfl rfl rfl rfl rfl rfl ?_
    refine r_off rfl rfl rfl rfl rfl rfl ?_
    refine r_off rfl rfl rfl rfl rfl rfl ?_
    refine r_off rfl rfl rfl rfl rfl rfl ?_
    refine r_q (q_pick_f rfl rfl rfl rfl) rfl rfl ?_
    refine r_q (q_move rfl rfl) rfl rfl ?_
    refine r_off rfl rfl rfl rfl rfl rfl ?_
    refine r_off rfl rfl rfl rfl rfl rfl ?_
    refine r_off rfl rfl rfl rfl rfl rfl ?_
    refine r_off rfl rfl rfl rfl rfl rfl ?_
    refine r_off rfl rfl rfl rfl rfl rfl ?_
    refine r_q (q_pick_f rfl rfl rfl rfl) rfl rfl ?_
    refine r_q (q_move rfl rfl) rfl rfl ?_
    refine r_off rfl rfl rfl rfl rfl rfl ?_
    refine r_off rfl rfl rfl rfl rfl rfl ?_
    refine r_off rfl rfl rfl rfl rfl rfl ?_
    refine r_off rfl rfl rfl rfl rfl rfl ?_
    refine r_off rfl rfl rfl rfl rfl rfl ?_
    refine r_q (q_pick_f rfl rfl rfl rfl) rfl rfl ?_
    refine r_q (q_assign rfl rfl) rfl rfl ?_
    refine r_nil ?_
    refine j_then ?_
    refine j_ret ?_
    cases h
    exact j_return rfl (ResOf.tmp rfl ResOf.nil) rfl (fun w h => ⟨(), rfl, h.tail⟩)

theorem spec_StoreValid.calls (K : Nat) (a0_0 : List Int) (a0_0_A : Option Addr) (a0_0_n a0_0_c : Nat) (a0_1 : List Int) (a0_1_A : Option Addr) (a0_1_n a0_1_c : Nat) (a0_2 : List Int) (a0_2_A : Option Addr) (a0_2_n a0_2_c : Nat) (a0_3 : List Int) (a0_3_A : Option Addr) (a0_3_n a0_3_c : Nat) {w0 w : World} {F : List Res} {r1 : Bool} (hm : Mem w0 (F) w) (a0_0_h : a0_0.length = a0_0_n) (a0_0_R : Rd w0 F a0_0_A (ii a0_0)) (a0_1_h : a0_1.length = a0_1_n) (a0_1_R : Rd w0 F a0_1_A (ii a0_1)) (a0_2_h : a0_2.length = a0_2_n) (a0_2_R : Rd w0 F a0_2_A (ii a0_2)) (a0_3_h : a0_3.length = a0_3_n) (a0_3_R : Rd w0 F a0_3_A (ii a0_3)) (a0_3_k : a0_3.length ≤ a0_3_c) (h : spec_StoreValid.f K a0_0 a0_1 a0_2 a0_3 = some r1) :
    Calls Try.prog 79 (List.toArray [.agg (List.toArray [.slice a0_0_A a0_0_n a0_0_c, .slice a0_1_A a0_1_n a0_1_c, .slice a0_2_A a0_2_n a0_2_c, .slice a0_3_A a0_3_n a0_3_c])]) w fun e w' => ∃ x : Unit, e = .returned (.bool r1) ∧ Mem w0 (F) w' := by
  unfold spec_StoreValid.f at h
  refine calls_of_J (n := 47) Try.func79 rfl rfl rfl hm ?_
  refine j_seq ?_
  refine j_region ?_
  refine r_do (a_box rfl rfl) rfl rfl (fun x1 => ?_)
  refine r_q (q_assign rfl rfl) rfl rfl ?_
  refine r_nil ?_
  refine j_then ?_
  refine j_seq ?_
  refine j_seq ?_
  refine j_region ?_
  refine r_q (q_fieldAddr fi36_0 sz34 rfl rfl rfl) rfl rfl ?_
  refine r_q (q_loadb_agg 0 rfl ag34 sz34 rfl rfl rfl rfl) rfl rfl ?_
  obtain ⟨v1, hb1, h⟩ := of_b1 h
  refine r_do (a_call ok95 rfl rfl rfl rfl (fun w hm => spec_HeapValid.calls K a0_0 a0_0_A a0_0_n a0_0_c a0_1 a0_1_A a0_1_n a0_1_c a0_2 a0_2_A a0_2_n a0_2_c hm a0_0_h (Rd.drop 1 a0_0_R) a0_1_h (Rd.drop 1 a0_1_R) a0_2_h (Rd.drop 1 a0_2_R) hb1)) rfl rfl (fun x2 => ?_)
  refine r_q (q_not rfl rfl) rfl rfl ?_
  refine r_q (q_move rfl rfl) rfl rfl ?_
  rcases of_if h with ⟨c1, h⟩ | ⟨c1, h⟩
  · refine r_qon (q_fieldAddr fi36_1 sz22 rfl rfl rfl) rfl rfl rfl rfl (not_f c1) rfl ?_
    refine r_qon (q_loadb 0 rfl ag22 rfl rfl rfl) rfl rfl rfl rfl (not_f c1) rfl ?_
    refine r_qon (q_lenX a0_3 a0_3_h un22 rfl rfl rfl rfl rfl) rfl rfl rfl rfl (not_f c1) rfl ?_
    refine r_qon (q_fieldAddr fi36_0 sz34 rfl rfl rfl) rfl rfl rfl rfl (not_f c1) rfl ?_
    refine r_qon (q_fieldAddr fi34_0 sz22 rfl rfl rfl) rfl rfl rfl rfl (not_f c1) rfl ?_
    refine r_qon (q_loadb 0 rfl ag22 rfl rfl rfl) rfl rfl rfl rfl (not_f c1) rfl ?_
    refine r_qon (q_lenX a0_0 a0_0_h un22 rfl rfl rfl rfl rfl) rfl rfl rfl rfl (not_f c1) rfl ?_
    refine r_qon (q_gtr rfl rfl rfl) rfl rfl rfl rfl (not_f c1) rfl ?_
    refine r_q (q_pick_f rfl rfl (not_f c1) rfl) rfl rfl ?_
    refine r_nil ?_
    refine j_then ?_
    rcases of_if h with ⟨c2, h⟩ | ⟨c2, h⟩
    · refine j_true rfl (decide_eq_true c2) ?_
      refine j_seq ?_
      refine j_region ?_
      refine r_q (q_assign rfl rfl) rfl rfl ?_
      refine r_nil ?_
      refine j_then ?_
      refine j_ret ?_
      refine j_then_ret ?_
      cases h
      exact j_return rfl (ResOf.tmp rfl ResOf.nil) rfl (fun w h => ⟨(), rfl, h.tail⟩)
    · refine j_false rfl (decide_eq_false c2) ?_
      refine j_skip ?_
      refine j_then ?_
      refine j_seq ?_
      refine j_seq ?_
      refine j_region ?_
      refine r_q (q_assign rfl rfl) rfl rfl ?_
      refine r_nil ?_
      refine j_then ?_
      obtain ⟨κ0, h, hκ0⟩ := ex_k (g := fun κ => spec_StoreValid.loop0 K κ a0_0 a0_1 a0_2 a0_3 K (0:Int) = some r1) h
      refine j_cut (σ := Unit) (fun s => []) (fun s => F) (fun s => κ0 () = some r1) ?_ ?_
      · refine j_block ?_
        refine j_loop (σ := Int) (fun s => [(1, (pt x1)), (3, (i6 s))]) (fun s => .box x1 36 [(.slice a0_0_A a0_0_n a0_0_c), (.slice a0_1_A a0_1_n a0_1_c), (.slice a0_2_A a0_2_n a0_2_c), (.slice a0_3_A a0_3_n a0_3_c)] :: F) (fun m s => spec_StoreValid.loop0 K κ0 a0_0 a0_1 a0_2 a0_3 m s = some r1) K (0:Int) h (fun a he => he.sub ⟨rfl, rfl, trivial⟩) (fun w h => h) ?_
        rintro m p2 h
        cases m with
        | zero => exact absurd h (by rw [spec_StoreValid.loop0]; exact nofun)
        | succ m =>
          rw [spec_StoreValid.loop0] at h
          show J _ _ [(1, (pt x1)), (3, (i6 p2))] _ (.box x1 36 [(.slice a0_0_A a0_0_n a0_0_c), (.slice a0_1_A a0_1_n a0_1_c), (.slice a0_2_A a0_2_n a0_2_c), (.slice a0_3_A a0_3_n a0_3_c)] :: F)
          refine j_seq ?_
          refine j_seq ?_
          refine j_region ?_
          refine r_q (q_move rfl rfl) rfl rfl ?_
          refine r_q (q_fieldAddr fi36_1 sz22 rfl rfl rfl) rfl rfl ?_
          refine r_q (q_loadb 0 rfl ag22 rfl rfl rfl) rfl rfl ?_
          refine r_q (q_lenX a0_3 a0_3_h un22 rfl rfl rfl rfl rfl) rfl rfl ?_
          refine r_q (q_lss rfl rfl rfl) rfl rfl ?_
          refine r_nil ?_
          refine j_then ?_
          rcases of_if h with ⟨c18, h⟩ | ⟨c18, h⟩
          · refine j_true rfl (decide_eq_true c18) ?_
            refine j_skip ?_
            refine j_then ?_
            refine j_seq ?_
            refine j_block ?_
            refine j_seq ?_
            obtain ⟨c19, h⟩ := of_guard h
            obtain ⟨v8, hb8, h⟩ := of_b1 h
            rcases of_if h with ⟨c20, h⟩ | ⟨c20, h⟩
            · obtain ⟨c21, h⟩ := of_guard h
              obtain ⟨v9, hb9, h⟩ := of_b1 h
              refine j_draw (.box x1 36 [(.slice a0_0_A a0_0_n a0_0_c), (.slice a0_1_A a0_1_n a0_1_c), (.slice a0_2_A a0_2_n a0_2_c), (.slice a0_3_A a0_3_n a0_3_c)] :: F) 22 follows_any rfl ?_
              refine d_take 0 rfl (q_fieldAddr fi36_0 sz34 rfl rfl rfl) rfl rfl (by kernel_rfl) (by kernel_rfl) (by kernel_rfl) (fun w h => h) ?_
              refine d_take 1 rfl (q_loadb_agg 0 rfl ag34 sz34 rfl rfl rfl rfl) rfl rfl (by kernel_rfl) (by kernel_rfl) (by kernel_rfl) (fun w h => h) ?_
              refine d_take 2 rfl (q_fieldAddr fi36_1 sz22 rfl rfl rfl) rfl rfl (by kernel_rfl) (by kernel_rfl) (by kernel_rfl) (fun w h => h) ?_
              refine d_take 3 rfl (q_loadb 0 rfl ag22 rfl rfl rfl) rfl rfl (by kernel_rfl) (by kernel_rfl) (by kernel_rfl) (fun w h => h) ?_
              refine d_take 4 rfl (q_move rfl rfl) rfl rfl (by kernel_rfl) (by kernel_rfl) (by kernel_rfl) (fun w h => h) ?_
              refine d_take 5 rfl (q_ix (Rd.drop 1 a0_3_R) (ints_len1 _ a0_3) (by decide) a0_3_h c19 un22 sz3 rfl rfl rfl) rfl rfl (by kernel_rfl) (by kernel_rfl) (by kernel_rfl) (fun w h => h) ?_
              refine d_take 6 rfl (q_ldI (Rd.drop 1 a0_3_R) c19 ag3 rfl rfl) rfl rfl (by kernel_rfl) (by kernel_rfl) (by kernel_rfl) (fun w h => h) ?_
              refine d_one 7 (by kernel_rfl) ?_
              refine o_do rfl (a_call ok96 rfl rfl rfl rfl (fun w hm => spec_l4Free.calls K a0_0 a0_0_A a0_0_n a0_0_c a0_1 a0_1_A a0_1_n a0_1_c a0_2 a0_2_A a0_2_n a0_2_c (rd a0_3 p2) hm a0_0_h (Rd.drop 1 a0_0_R) a0_1_h (Rd.drop 1 a0_1_R) a0_2_h (Rd.drop 1 a0_2_R) hb8)) rfl rfl (fun x3 w h => h) (fun x3 => ?_)
              refine d_take 8 rfl (q_not rfl rfl) rfl rfl (by kernel_rfl) (by kernel_rfl) (by kernel_rfl) (fun w h => h) ?_
              refine d_take 9 rfl (q_move rfl rfl) rfl rfl (by kernel_rfl) (by kernel_rfl) (by kernel_rfl) (fun w h => h) ?_
              refine d_take_on 10 rfl (q_fieldAddr fi36_1 sz22 rfl rfl rfl) rfl rfl rfl rfl (not_f c20) rfl (by kernel_rfl) (by kernel_rfl) (by kernel_rfl) (fun w h => h) ?_
              refine d_take_on 11 rfl (q_loadb 0 rfl ag22 rfl rfl rfl) rfl rfl rfl rfl (not_f c20) rfl (by kernel_rfl) (by kernel_rfl) (by kernel_rfl) (fun w h => h) ?_
              refine d_take_on 12 rfl (q_move rfl rfl) rfl rfl rfl rfl (not_f c20) rfl (by kernel_rfl) (by kernel_rfl) (by kernel_rfl) (fun w h => h) ?_
              refine j_fact (fun w hm => a0_3_k) (fun k16 => ?_)
              refine d_take_on 13 rfl (q_hi a0_3 a0_3_h k16 c21 un22 sz3 rfl rfl rfl) rfl rfl rfl rfl (not_f c20) rfl (by kernel_rfl) (by kernel_rfl) (by kernel_rfl) (fun w h => h) ?_
              refine d_take_on 14 rfl (q_fieldAddr fi36_1 sz22 rfl rfl rfl) rfl rfl rfl rfl (not_f c20) rfl (by kernel_rfl) (by kernel_rfl) (by kernel_rfl) (fun w h => h) ?_
              refine d_take_on 15 rfl (q_loadb 0 rfl ag22 rfl rfl rfl) rfl rfl rfl rfl (not_f c20) rfl (by kernel_rfl) (by kernel_rfl) (by kernel_rfl) (fun w h => h) ?_
              refine d_take_on 16 rfl (q_move rfl rfl) rfl rfl rfl rfl (not_f c20) rfl (by kernel_rfl) (by kernel_rfl) (by kernel_rfl) (fun w h => h) ?_
              refine d_take_on 17 rfl (q_ix (Rd.drop 1 a0_3_R) (ints_len1 _ a0_3) (by decide) a0_3_h c19 un22 sz3 rfl rfl rfl) rfl rfl rfl rfl (not_f c20) rfl (by kernel_rfl) (by kernel_rfl) (by kernel_rfl) (fun w h => h) ?_
              refine d_take_on 18 rfl (q_ldI (Rd.drop 1 a0_3_R) c19 ag3 rfl rfl) rfl rfl rfl rfl (not_f c20) rfl (by kernel_rfl) (by kernel_rfl) (by kernel_rfl) (fun w h => h) ?_
              refine d_one 19 (by kernel_rfl) ?_
              refine o_on rfl (a_call ok84 rfl rfl rfl rfl (fun w hm => spec_l4At.calls K (a0_3.take p2.toNat) a0_3_A (a0_3.take p2.toNat).length a0_3_c (rd a0_3 p2) hm rfl (rd_hiI (Rd.drop 1 a0_3_R) p2.toNat) hb9)) rfl rfl rfl rfl (not_f c20) rfl (fun x4 w h => h) (fun x4 => ?_)
              refine d_take_on 20 rfl (q_geq rfl rfl rfl) rfl rfl rfl rfl (not_f c20) rfl (by kernel_rfl) (by kernel_rfl) (by kernel_rfl) (fun w h => h) ?_
              refine d_take 21 rfl (q_pick_f rfl rfl (not_f c20) rfl) rfl rfl (by kernel_rfl) (by kernel_rfl) (by kernel_rfl) (fun w h => h) ?_
              refine d_done (by kernel_rfl) ?_
              refine j_then ?_
              rcases of_if h with ⟨c22, h⟩ | ⟨c22, h⟩
              · refine j_true rfl (decide_eq_true c22) ?_
                refine j_seq ?_
                refine j_region ?_
                refine r_q (q_assign rfl rfl) rfl rfl ?_
                refine r_nil ?_
                refine j_then ?_
                refine j_ret ?_
                refine j_in_ret ?_
                refine j_then_ret ?_
                refine j_then_ret ?_
                refine j_in_ret ?_
                refine j_then_ret ?_
                refine j_then_ret ?_
                cases h
                exact j_return rfl (ResOf.tmp rfl ResOf.nil) rfl (fun w h => ⟨(), rfl, h.tail⟩)
              · refine j_false rfl (decide_eq_false c22) ?_
                refine j_skip ?_
                refine j_in ?_
                refine j_then ?_
                refine j_region ?_
                refine r_q (q_move rfl rfl) rfl rfl ?_
                refine r_q (q_add rfl rfl rfl) rfl rfl ?_
                refine r_q (q_assign rfl rfl) rfl rfl ?_
                refine r_nil ?_
                refine j_then ?_
                exact j_again m (wrap64 (p2 + (1:Int))) (Nat.lt_succ_self m) h (fun a he => he.sub ⟨rfl, rfl, trivial⟩) (fun w h => h)
            · refine j_draw (.box x1 36 [(.slice a0_0_A a0_0_n a0_0_c), (.slice a0_1_A a0_1_n a0_1_c), (.slice a0_2_A a0_2_n a0_2_c), (.slice a0_3_A a0_3_n a0_3_c)] :: F) 22 follows_any rfl ?_
              refine d_take 0 rfl (q_fieldAddr fi36_0 sz34 rfl rfl rfl) rfl rfl (by kernel_rfl) (by kernel_rfl) (by kernel_rfl) (fun w h => h) ?_
              refine d_take 1 rfl (q_loadb_agg 0 rfl ag34 sz34 rfl rfl rfl rfl) rfl rfl (by kernel_rfl) (by kernel_rfl) (by kernel_rfl) (fun w h => h) ?_
              refine d_take 2 rfl (q_fieldAddr fi36_1 sz22 rfl rfl rfl) rfl rfl (by kernel_rfl) (by kernel_rfl) (by kernel_rfl) (fun w h => h) ?_
              refine d_take 3 rfl (q_loadb 0 rfl ag22 rfl rfl rfl) rfl rfl (by kernel_rfl) (by kernel_rfl) (by kernel_rfl) (fun w h => h) ?_
              refine d_take 4 rfl (q_move rfl rfl) rfl rfl (by kernel_rfl) (by kernel_rfl) (by kernel_rfl) (fun w h => h) ?_
              refine d_take 5 rfl (q_ix (Rd.drop 1 a0_3_R) (ints_len1 _ a0_3) (by decide) a0_3_h c19 un22 sz3 rfl rfl rfl) rfl rfl (by kernel_rfl) (by kernel_rfl) (by kernel_rfl) (fun w h => h) ?_
              refine d_take 6 rfl (q_ldI (Rd.drop 1 a0_3_R) c19 ag3 rfl rfl) rfl rfl (by kernel_rfl) (by kernel_rfl) (by kernel_rfl) (fun w h => h) ?_
              refine d_one 7 (by kernel_rfl) ?_
              refine o_do rfl (a_call ok96 rfl rfl rfl rfl (fun w hm => spec_l4Free.calls K a0_0 a0_0_A a0_0_n a0_0_c a0_1 a0_1_A a0_1_n a0_1_c a0_2 a0_2_A a0_2_n a0_2_c (rd a0_3 p2) hm a0_0_h (Rd.drop 1 a0_0_R) a0_1_h (Rd.drop 1 a0_1_R) a0_2_h (Rd.drop 1 a0_2_R) hb8)) rfl rfl (fun x3 w h => h) (fun x3 => ?_)
              refine d_take 8 rfl (q_not rfl rfl) rfl rfl (by kernel_rfl) (by kernel_rfl) (by kernel_rfl) (fun w h => h) ?_
              refine d_take 9 rfl (q_move rfl rfl) rfl rfl (by kernel_rfl) (by kernel_rfl) (by kernel_rfl) (fun w h => h) ?_
              refine d_take_off 10 rfl rfl rfl rfl rfl (not_t (var_f c20)) rfl (by kernel_rfl) (by kernel_rfl) (by kernel_rfl) (fun w h => h) ?_
              refine d_take_off 11 rfl rfl rfl rfl rfl (not_t (var_f c20)) rfl (by kernel_rfl) (by kernel_rfl) (by kernel_rfl) (fun w h => h) ?_
              refine d_take_off 12 rfl rfl rfl rfl rfl (not_t (var_f c20)) rfl (by kernel_rfl) (by kernel_rfl) (by kernel_rfl) (fun w h => h) ?_
              refine d_take_off 13 rfl rfl rfl rfl rfl (not_t (var_f c20)) rfl (by kernel_rfl) (by kernel_rfl) (by kernel_rfl) (fun w h => h) ?_
              refine d_take_off 14 rfl rfl rfl rfl rfl (not_t (var_f c20)) rfl (by kernel_rfl) (by kernel_rfl) (by kernel_rfl) (fun w h => h) ?_
              refine d_take_off 15 rfl rfl rfl rfl rfl (not_t (var_f c20)) rfl (by kernel_rfl) (by kernel_rfl) (by kernel_rfl) (fun w h => h) ?_
              refine d_take_off 16 rfl rfl rfl rfl rfl (not_t (var_f c20)) rfl (by kernel_rfl) (by kernel_rfl) (by kernel_rfl) (fun w h => h) ?_
              refine d_take_off 17 rfl rfl rfl rfl rfl (not_t (var_f c20)) rfl (by kernel_rfl) (by kernel_rfl) (by kernel_rfl) (fun w h => h) ?_
              refine d_take_off 18 rfl rfl rfl rfl rfl (not_t (var_f c20)) rfl (by kernel_rfl) (by kernel_rfl) (by kernel_rfl) (fun w h => h) ?_
              refine d_take_off 19 rfl rfl rfl rfl rfl (not_t (var_f c20)) rfl (by kernel_rfl) (by kernel_rfl) (by kernel_rfl) (fun w h => h) ?_
              refine d_take_off 20 rfl rfl rfl rfl rfl (not_t (var_f c20)) rfl (by kernel_rfl) (by kernel_rfl) (by kernel_rfl) (fun w h => h) ?_
              refine d_take 21 rfl (q_pick_t rfl rfl (not_t (var_f c20)) rfl) rfl rfl (by kernel_rfl) (by kernel_rfl) (by kernel_rfl) (fun w h => h) ?_
              refine d_done (by kernel_rfl) ?_
              refine j_then ?_
              refine j_true rfl rfl ?_
              refine j_seq ?_
              refine j_region ?_
              refine r_q (q_assign rfl rfl) rfl rfl ?_
              refine r_nil ?_
              refine j_then ?_
              refine j_ret ?_
              refine j_in_ret ?_
              refine j_then_ret ?_
              refine j_then_ret ?_
              refine j_in_ret ?_
              refine j_then_ret ?_
              refine j_then_ret ?_
              cases h
              exact j_return rfl (ResOf.tmp rfl ResOf.nil) rfl (fun w h => ⟨(), rfl, h.tail⟩)
          · refine j_false rfl (decide_eq_false c18) ?_
            refine j_exit ?_
            refine j_then_exit ?_
            refine j_then_exit ?_
            refine j_in_exit ?_
            refine j_then ?_
            exact j_meet () h (fun a he => he.sub trivial) (fun w h => h.tail)
      · rintro _ h
        subst hκ0
        show J _ _ [] _ (F)
        refine j_then ?_
        refine j_seq ?_
        refine j_region ?_
        refine r_q (q_assign rfl rfl) rfl rfl ?_
        refine r_nil ?_
        refine j_then ?_
        refine j_ret ?_
        cases h
        exact j_return rfl (ResOf.tmp rfl ResOf.nil) rfl (fun w h => ⟨(), rfl, h⟩)
  · refine r_off rfl rfl rfl rfl (not_t (var_f c1)) rfl ?_
    refine r_off rfl rfl rfl rfl (not_t (var_f c1)) rfl ?_
    refine r_off rfl rfl rfl rfl (not_t (var_f c1)) rfl ?_
    refine r_off rfl rfl rfl rfl (not_t (var_f c1)) rfl ?_
    refine r_off rfl rfl rfl rfl (not_t (var_f c1)) rfl ?_
    refine r_off rfl rfl rfl rfl (not_t (var_f c1)) rfl ?_
    refine r_off rfl rfl rfl rfl (not_t (var_f c1)) rfl ?_
    refine r_off rfl rfl rfl rfl (not_t (var_f c1)) rfl ?_
    refine r_q (q_pick_t rfl rfl (not_t (var_f c1)) rfl) rfl rfl ?_
    refine r_nil ?_
    refine j_then ?_
    refine j_true rfl rfl ?_
    refine j_seq ?_
    refine j_region ?_
    refine r_q (q_assign rfl rfl) rfl rfl ?_
    refine r_nil ?_
    refine j_then ?_
    refine j_ret ?_
    refine j_then_ret ?_
    cases h
    exact j_return rfl (ResOf.tmp rfl ResOf.nil) rfl (fun w h => ⟨(), rfl, h.tail⟩)

end Go.Proofs.Ytpfkcjddilpbkaa.F
