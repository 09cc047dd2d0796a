/- The program computes these pure functions, printed by the generator of wip/gen. -/
import Derived.Test.YtpfkcjddilpbkaaFa
import Derived.Test.YtpfkcjddilpbkaaFi
import Derived.Test.YtpfkcjddilpbkaaFb
namespace Go.Proofs.Ytpfkcjddilpbkaa.F
open Go Go.RowKit Go.Proofs.Ytpfkcjddilpbkaa.S
set_option linter.unusedVariables false
set_option maxRecDepth 100000
theorem impl_HeapValid.calls (K : Nat) (a0_0 : List Int) (a0_0_A : Option Addr) (a0_0_n a0_0_c : Nat) (a0_1 : List Int) (a0_1_A : Option Addr) (a0_1_n a0_1_c : Nat) (a0_2 : List Int) (a0_2_A : Option Addr) (a0_2_n a0_2_c : Nat) {w0 w : World} {F : List Res} {r1 : Bool} (hm : Mem w0 (F) w) (a0_0_h : a0_0.length = a0_0_n) (a0_0_R : Rd w0 F a0_0_A (ii a0_0)) (a0_1_h : a0_1.length = a0_1_n) (a0_1_R : Rd w0 F a0_1_A (ii a0_1)) (a0_2_h : a0_2.length = a0_2_n) (a0_2_R : Rd w0 F a0_2_A (ii a0_2)) (h : impl_HeapValid.f K a0_0 a0_1 a0_2 = some r1) :
    Calls Try.prog 85 (List.toArray [.agg (List.toArray [.slice a0_0_A a0_0_n a0_0_c, .slice a0_1_A a0_1_n a0_1_c, .slice a0_2_A a0_2_n a0_2_c])]) w fun e w' => ∃ x : Unit, e = .returned (.bool r1) ∧ Mem w0 (F) w' := by
  unfold impl_HeapValid.f at h
  refine calls_of_J (n := 67) Try.func85 rfl rfl rfl hm ?_
  refine j_seq ?_
  refine j_region ?_
  refine r_do (a_box rfl rfl) rfl rfl (fun x1 => ?_)
  refine r_q (q_assign rfl rfl) rfl rfl ?_
  refine r_nil ?_
  refine j_then ?_
  refine j_seq ?_
  refine j_seq ?_
  refine j_region ?_
  refine r_q (q_fieldAddr fi34_0 sz22 rfl rfl rfl) rfl rfl ?_
  refine r_q (q_loadb 0 rfl ag22 rfl rfl rfl) rfl rfl ?_
  refine r_q (q_lenX a0_0 a0_0_h un22 rfl rfl rfl rfl rfl) rfl rfl ?_
  refine r_q (q_fieldAddr fi34_1 sz22 rfl rfl rfl) rfl rfl ?_
  refine r_q (q_loadb 0 rfl ag22 rfl rfl rfl) rfl rfl ?_
  refine r_q (q_lenX a0_1 a0_1_h un22 rfl rfl rfl rfl rfl) rfl rfl ?_
  refine r_q (q_neq rfl rfl rfl) rfl rfl ?_
  refine r_q (q_move rfl rfl) rfl rfl ?_
  rcases of_if h with ⟨c1, h⟩ | ⟨c1, h⟩
  · refine r_qon (q_fieldAddr fi34_0 sz22 rfl rfl rfl) rfl rfl rfl rfl (bne_f c1) rfl ?_
    refine r_qon (q_loadb 0 rfl ag22 rfl rfl rfl) rfl rfl rfl rfl (bne_f c1) rfl ?_
    refine r_qon (q_lenX a0_0 a0_0_h un22 rfl rfl rfl rfl rfl) rfl rfl rfl rfl (bne_f c1) rfl ?_
    refine r_qon (q_lss rfl rfl rfl) rfl rfl rfl rfl (bne_f c1) rfl ?_
    refine r_q (q_pick_f rfl rfl (bne_f c1) rfl) rfl rfl ?_
    refine r_q (q_move rfl rfl) rfl rfl ?_
    rcases of_if h with ⟨c2, h⟩ | ⟨c2, h⟩
    · refine r_off rfl rfl rfl rfl (decide_eq_true c2) rfl ?_
      refine r_off rfl rfl rfl rfl (decide_eq_true c2) rfl ?_
      refine r_off rfl rfl rfl rfl (decide_eq_true c2) rfl ?_
      refine r_off rfl rfl rfl rfl (decide_eq_true c2) rfl ?_
      refine r_q (q_pick_t rfl rfl (decide_eq_true c2) rfl) rfl rfl ?_
      refine r_q (q_move rfl rfl) rfl rfl ?_
      refine r_off rfl rfl rfl rfl rfl rfl ?_
      refine r_off rfl rfl rfl rfl rfl rfl ?_
      refine r_off rfl rfl rfl rfl rfl rfl ?_
      refine r_off rfl rfl rfl rfl rfl rfl ?_
      refine r_q (q_pick_t rfl rfl rfl rfl) rfl rfl ?_
      refine r_q (q_move rfl rfl) rfl rfl ?_
      refine r_off rfl rfl rfl rfl rfl rfl ?_
      refine r_off rfl rfl rfl rfl rfl rfl ?_
      refine r_off rfl rfl rfl rfl rfl rfl ?_
      refine r_off rfl rfl rfl rfl rfl rfl ?_
      refine r_q (q_pick_t rfl rfl rfl rfl) rfl rfl ?_
      refine r_nil ?_
      refine j_then ?_
      refine j_true rfl rfl ?_
      refine j_seq ?_
      refine j_region ?_
      refine r_q (q_assign rfl rfl) rfl rfl ?_
      refine r_nil ?_
      refine j_then ?_
      refine j_ret ?_
      refine j_then_ret ?_
      cases h
      exact j_return rfl (ResOf.tmp rfl ResOf.nil) rfl (fun w h => ⟨(), rfl, h.tail⟩)
    · refine r_qon (q_fieldAddr fi34_0 sz22 rfl rfl rfl) rfl rfl rfl rfl (decide_eq_false c2) rfl ?_
      refine r_qon (q_loadb 0 rfl ag22 rfl rfl rfl) rfl rfl rfl rfl (decide_eq_false c2) rfl ?_
      refine r_qon (q_lenX a0_0 a0_0_h un22 rfl rfl rfl rfl rfl) rfl rfl rfl rfl (decide_eq_false c2) rfl ?_
      refine r_qon (q_gtr rfl rfl rfl) rfl rfl rfl rfl (decide_eq_false c2) rfl ?_
      refine r_q (q_pick_f rfl rfl (decide_eq_false c2) rfl) rfl rfl ?_
      refine r_q (q_move rfl rfl) rfl rfl ?_
      rcases of_if h with ⟨c3, h⟩ | ⟨c3, h⟩
      · refine r_off rfl rfl rfl rfl (decide_eq_true c3) rfl ?_
        refine r_off rfl rfl rfl rfl (decide_eq_true c3) rfl ?_
        refine r_off rfl rfl rfl rfl (decide_eq_true c3) rfl ?_
        refine r_off rfl rfl rfl rfl (decide_eq_true c3) rfl ?_
        refine r_q (q_pick_t rfl rfl (decide_eq_true c3) rfl) rfl rfl ?_
        refine r_q (q_move rfl rfl) rfl rfl ?_
        refine r_off rfl rfl rfl rfl rfl rfl ?_
        refine r_off rfl rfl rfl rfl rfl rfl ?_
        refine r_off rfl rfl rfl rfl rfl rfl ?_
        refine r_off rfl rfl rfl rfl rfl rfl ?_
        refine r_q (q_pick_t rfl rfl rfl rfl) rfl rfl ?_
        refine r_nil ?_
        refine j_then ?_
        refine j_true rfl rfl ?_
        refine j_seq ?_
        refine j_region ?_
        refine r_q (q_assign rfl rfl) rfl rfl ?_
        refine r_nil ?_
        refine j_then ?_
        refine j_ret ?_
        refine j_then_ret ?_
        cases h
        exact j_return rfl (ResOf.tmp rfl ResOf.nil) rfl (fun w h => ⟨(), rfl, h.tail⟩)
      · refine r_qon (q_fieldAddr fi34_2 sz22 rfl rfl rfl) rfl rfl rfl rfl (decide_eq_false c3) rfl ?_
        refine r_qon (q_loadb 0 rfl ag22 rfl rfl rfl) rfl rfl rfl rfl (decide_eq_false c3) rfl ?_
        refine r_qon (q_lenX a0_2 a0_2_h un22 rfl rfl rfl rfl rfl) rfl rfl rfl rfl (decide_eq_false c3) rfl ?_
        refine r_qon (q_lss rfl rfl rfl) rfl rfl rfl rfl (decide_eq_false c3) rfl ?_
        refine r_q (q_pick_f rfl rfl (decide_eq_false c3) rfl) rfl rfl ?_
        refine r_q (q_move rfl rfl) rfl rfl ?_
        rcases of_if h with ⟨c4, h⟩ | ⟨c4, h⟩
        · refine r_off rfl rfl rfl rfl (decide_eq_true c4) rfl ?_
          refine r_off rfl rfl rfl rfl (decide_eq_true c4) rfl ?_
          refine r_off rfl rfl rfl rfl (decide_eq_true c4) rfl ?_
          refine r_off rfl rfl rfl rfl (decide_eq_true c4) rfl ?_
          refine r_q (q_pick_t rfl rfl (decide_eq_true c4) rfl) rfl rfl ?_
          refine r_nil ?_
          refine j_then ?_
          refine j_true rfl rfl ?_
          refine j_seq ?_
          refine j_region ?_
          refine r_q (q_assign rfl rfl) rfl rfl ?_
          refine r_nil ?_
          refine j_then ?_
          refine j_ret ?_
          refine j_then_ret ?_
          cases h
          exact j_return rfl (ResOf.tmp rfl ResOf.nil) rfl (fun w h => ⟨(), rfl, h.tail⟩)
        · refine r_qon (q_fieldAddr fi34_2 sz22 rfl rfl rfl) rfl rfl rfl rfl (decide_eq_false c4) rfl ?_
          refine r_qon (q_loadb 0 rfl ag22 rfl rfl rfl) rfl rfl rfl rfl (decide_eq_false c4) rfl ?_
          refine r_qon (q_lenX a0_2 a0_2_h un22 rfl rfl rfl rfl rfl) rfl rfl rfl rfl (decide_eq_false c4) rfl ?_
          refine r_qon (q_gtr rfl rfl rfl) rfl rfl rfl rfl (decide_eq_false c4) rfl ?_
          refine r_q (q_pick_f rfl rfl (decide_eq_false c4) rfl) rfl rfl ?_
          refine r_nil ?_
          refine j_then ?_
          rcases of_if h with ⟨c5, h⟩ | ⟨c5, h⟩
          · refine j_true rfl (decide_eq_true c5) ?_
            refine j_seq ?_
            refine j_region ?_
            refine r_q (q_assign rfl rfl) rfl rfl ?_
            refine r_nil ?_
            refine j_then ?_
            refine j_ret ?_
            refine j_then_ret ?_
            cases h
            exact j_return rfl (ResOf.tmp rfl ResOf.nil) rfl (fun w h => ⟨(), rfl, h.tail⟩)
          · refine j_false rfl (decide_eq_false c5) ?_
            refine j_skip ?_
            refine j_then ?_
            refine j_seq ?_
            refine j_seq ?_
            refine j_region ?_
            refine r_q (q_fieldAddr fi34_0 sz22 rfl rfl rfl) rfl rfl ?_
            refine r_q (q_loadb 0 rfl ag22 rfl rfl rfl) rfl rfl ?_
            refine r_q (q_fieldAddr fi34_1 sz22 rfl rfl rfl) rfl rfl ?_
            refine r_q (q_loadb 0 rfl ag22 rfl rfl rfl) rfl rfl ?_
            refine r_q (q_fieldAddr fi34_2 sz22 rfl rfl rfl) rfl rfl ?_
            refine r_q (q_loadb 0 rfl ag22 rfl rfl rfl) rfl rfl ?_
            refine r_do (a_litX (vs := [(.slice a0_0_A a0_0_n a0_0_c), (.slice a0_1_A a0_1_n a0_1_c), (.slice a0_2_A a0_2_n a0_2_c)]) [(.slice a0_0_A a0_0_n a0_0_c), (.slice a0_1_A a0_1_n a0_1_c), (.slice a0_2_A a0_2_n a0_2_c)] un120 sz22 zr22 rfl rfl rfl rfl rfl rfl rfl rfl rfl) rfl rfl (fun x2 => ?_)
            refine r_q (q_len_sl rfl rfl rfl rfl un120 rfl) rfl rfl ?_
            refine r_q (q_move rfl rfl) rfl rfl ?_
            refine r_nil ?_
            refine j_then ?_
            refine j_block ?_
            refine j_unroll ?_
            refine j_round ?_
            refine j_seq ?_
            refine j_region ?_
            refine r_q (q_lss rfl rfl rfl) rfl rfl ?_
            refine r_nil ?_
            refine j_then ?_
            refine j_seq ?_
            refine j_true rfl (by decide) ?_
            refine j_skip ?_
            refine j_then ?_
            refine j_seq ?_
            refine j_block ?_
            refine j_seq ?_
            refine j_region ?_
            refine r_q (q_ix (L := 3) (Rd.row 0 rfl) rfl (by decide) rfl (by decide) un120 sz22 rfl rfl rfl) rfl rfl ?_
            refine r_q (q_load (Rd.row 0 rfl) ag22 rfl rfl rfl) rfl rfl ?_
            refine r_q (q_assign rfl rfl) rfl rfl ?_
            refine r_nil ?_
            refine j_then ?_
            refine j_seq ?_
            refine j_region ?_
            refine r_q (q_move rfl rfl) rfl rfl ?_
            refine r_q (q_lenX a0_0 a0_0_h un22 rfl rfl rfl rfl rfl) rfl rfl ?_
            refine r_q (q_move rfl rfl) rfl rfl ?_
            refine r_nil ?_
            refine j_then ?_
            obtain ⟨κ0, h, hκ0⟩ := ex_k (g := fun κ => impl_HeapValid.loop0 K κ a0_0 K (0:Int) = some r1) h
            refine j_cut (σ := Unit) (fun s => [(1, (pt x1)), (44, (.slice x2 3 3)), (45, (i6 ((3 : Nat) : Int))), (46, (i6 (0:Int)))]) (fun s => .box x1 34 [(.slice a0_0_A a0_0_n a0_0_c), (.slice a0_1_A a0_1_n a0_1_c), (.slice a0_2_A a0_2_n a0_2_c)] :: .row x2 3 22 1 [(.slice a0_0_A a0_0_n a0_0_c), (.slice a0_1_A a0_1_n a0_1_c), (.slice a0_2_A a0_2_n a0_2_c)] :: F) (fun s => κ0 () = some r1) ?_ ?_
            · refine j_block ?_
              refine j_loop (σ := Int) (fun s => [(1, (pt x1)), (44, (.slice x2 3 3)), (45, (i6 ((3 : Nat) : Int))), (46, (i6 (0:Int))), (50, (.slice a0_0_A a0_0_n a0_0_c)), (51, (i6 (a0_0.length : Int))), (52, (i6 s))]) (fun s => .box x1 34 [(.slice a0_0_A a0_0_n a0_0_c), (.slice a0_1_A a0_1_n a0_1_c), (.slice a0_2_A a0_2_n a0_2_c)] :: .row x2 3 22 1 [(.slice a0_0_A a0_0_n a0_0_c), (.slice a0_1_A a0_1_n a0_1_c), (.slice a0_2_A a0_2_n a0_2_c)] :: F) (fun m s => impl_HeapValid.loop0 K κ0 a0_0 m s = some r1) K (0:Int) h (fun a he => he.sub ⟨rfl, rfl, rfl, rfl, rfl, rfl, rfl, trivial⟩) (fun w h => h.pick 2 [1, 0] rfl) ?_
              rintro m p2 h
              cases m with
              | zero => exact absurd h (by rw [impl_HeapValid.loop0]; exact nofun)
              | succ m =>
                rw [impl_HeapValid.loop0] at h
                show J _ _ [(1, (pt x1)), (44, (.slice x2 3 3)), (45, (i6 ((3 : Nat) : Int))), (46, (i6 (0:Int))), (50, (.slice a0_0_A a0_0_n a0_0_c)), (51, (i6 (a0_0.length : Int))), (52, (i6 p2))] _ (.box x1 34 [(.slice a0_0_A a0_0_n a0_0_c), (.slice a0_1_A a0_1_n a0_1_c), (.slice a0_2_A a0_2_n a0_2_c)] :: .row x2 3 22 1 [(.slice a0_0_A a0_0_n a0_0_c), (.slice a0_1_A a0_1_n a0_1_c), (.slice a0_2_A a0_2_n a0_2_c)] :: F)
                refine j_seq ?_
                refine j_region ?_
                refine r_q (q_lss rfl rfl rfl) rfl rfl ?_
                refine r_nil ?_
                refine j_then ?_
                refine j_seq ?_
                rcases of_if h with ⟨c18, h⟩ | ⟨c18, h⟩
                · refine j_true rfl (decide_eq_true c18) ?_
                  refine j_skip ?_
                  refine j_then ?_
                  refine j_seq ?_
                  refine j_block ?_
                  refine j_seq ?_
                  refine j_region ?_
                  obtain ⟨c19, h⟩ := of_guard h
                  refine r_q (q_ix (Rd.drop 2 a0_0_R) (ints_len1 _ a0_0) (by decide) a0_0_h c19 un22 sz3 rfl rfl rfl) rfl rfl ?_
                  refine r_q (q_ldI (Rd.drop 2 a0_0_R) c19 ag3 rfl rfl) rfl rfl ?_
                  refine r_q (q_assign rfl rfl) rfl rfl ?_
                  refine r_nil ?_
                  refine j_then ?_
                  refine j_seq ?_
                  refine j_region ?_
                  refine r_q (q_move rfl rfl) rfl rfl ?_
                  refine r_q (q_lss rfl rfl rfl) rfl rfl ?_
                  refine r_q (q_move rfl rfl) rfl rfl ?_
                  rcases of_if h with ⟨c20, h⟩ | ⟨c20, h⟩
                  · refine r_off rfl rfl rfl rfl (decide_eq_true c20) rfl ?_
                    refine r_off rfl rfl rfl rfl (decide_eq_true c20) rfl ?_
                    refine r_off rfl rfl rfl rfl (decide_eq_true c20) rfl ?_
                    refine r_off rfl rfl rfl rfl (decide_eq_true c20) rfl ?_
                    refine r_off rfl rfl rfl rfl (decide_eq_true c20) rfl ?_
                    refine r_q (q_pick_t rfl rfl (decide_eq_true c20) rfl) rfl rfl ?_
                    refine r_nil ?_
                    refine j_then ?_
                    refine j_true rfl rfl ?_
                    refine j_seq ?_
                    refine j_region ?_
                    refine r_q (q_assign rfl rfl) rfl rfl ?_
                    refine r_nil ?_
                    refine j_then ?_
                    refine j_ret ?_
                    refine j_in_ret ?_
                    refine j_then_ret ?_
                    refine j_then_ret ?_
                    refine j_in_ret ?_
                    refine j_then_ret ?_
                    refine j_in_ret ?_
                    refine j_then_ret ?_
                    refine j_then_ret ?_
                    refine j_in_ret ?_
                    refine j_then_ret ?_
                    cases h
                    exact j_return rfl (ResOf.tmp rfl ResOf.nil) rfl (fun w h => ⟨(), rfl, (h.drop 2)⟩)
                  · refine r_qon (q_move rfl rfl) rfl rfl rfl rfl (decide_eq_false c20) rfl ?_
                    refine r_qon (q_fieldAddr fi34_0 sz22 rfl rfl rfl) rfl rfl rfl rfl (decide_eq_false c20) rfl ?_
                    refine r_qon (q_loadb 0 rfl ag22 rfl rfl rfl) rfl rfl rfl rfl (decide_eq_false c20) rfl ?_
                    refine r_qon (q_lenX a0_0 a0_0_h un22 rfl rfl rfl rfl rfl) rfl rfl rfl rfl (decide_eq_false c20) rfl ?_
                    refine r_qon (q_geq rfl rfl rfl) rfl rfl rfl rfl (decide_eq_false c20) rfl ?_
                    refine r_q (q_pick_f rfl rfl (decide_eq_false c20) rfl) rfl rfl ?_
                    refine r_nil ?_
                    refine j_then ?_
                    rcases of_if h with ⟨c21, h⟩ | ⟨c21, h⟩
                    · refine j_true rfl (decide_eq_true c21) ?_
                      refine j_seq ?_
                      refine j_region ?_
                      refine r_q (q_assign rfl rfl) rfl rfl ?_
                      refine r_nil ?_
                      refine j_then ?_
                      refine j_ret ?_
                      refine j_in_ret ?_
                      refine j_then_ret ?_
                      refine j_then_ret ?_
                      refine j_in_ret ?_
                      refine j_then_ret ?_
                      refine j_in_ret ?_
                      refine j_then_ret ?_
                      refine j_then_ret ?_
                      refine j_in_ret ?_
                      refine j_then_ret ?_
                      cases h
                      exact j_return rfl (ResOf.tmp rfl ResOf.nil) rfl (fun w h => ⟨(), rfl, (h.drop 2)⟩)
                    · refine j_false rfl (decide_eq_false c21) ?_
                      refine j_skip ?_
                      refine j_in ?_
                      refine j_then ?_
                      refine j_region ?_
                      refine r_q (q_add rfl rfl rfl) rfl rfl ?_
                      refine r_q (q_move rfl rfl) rfl rfl ?_
                      refine r_nil ?_
                      refine j_then ?_
                      exact j_again m (wrap64 (p2 + (1:Int))) (Nat.lt_succ_self m) h (fun a he => he.sub ⟨rfl, rfl, rfl, rfl, rfl, rfl, rfl, trivial⟩) (fun w h => h)
                · refine j_false rfl (decide_eq_false c18) ?_
                  refine j_exit ?_
                  refine j_then_exit ?_
                  refine j_then_exit ?_
                  refine j_in_exit ?_
                  refine j_then ?_
                  exact j_meet () h (fun a he => he.sub ⟨rfl, rfl, rfl, rfl, trivial⟩) (fun w h => h)
            · rintro _ h
              subst hκ0
              show J _ _ [(1, (pt x1)), (44, (.slice x2 3 3)), (45, (i6 ((3 : Nat) : Int))), (46, (i6 (0:Int)))] _ (.box x1 34 [(.slice a0_0_A a0_0_n a0_0_c), (.slice a0_1_A a0_1_n a0_1_c), (.slice a0_2_A a0_2_n a0_2_c)] :: .row x2 3 22 1 [(.slice a0_0_A a0_0_n a0_0_c), (.slice a0_1_A a0_1_n a0_1_c), (.slice a0_2_A a0_2_n a0_2_c)] :: F)
              refine j_in ?_
              refine j_then ?_
              refine j_region ?_
              refine r_q (q_addc (v := (1:Int)) rfl rfl rfl (by decide) (by decide)) rfl rfl ?_
              refine r_q (q_move rfl rfl) rfl rfl ?_
              refine r_nil ?_
              refine j_then ?_
              refine j_round ?_
              refine j_seq ?_
              refine j_region ?_
              refine r_q (q_lss rfl rfl rfl) rfl rfl ?_
              refine r_nil ?_
              refine j_then ?_
              refine j_seq ?_
              refine j_true rfl (by decide) ?_
              refine j_skip ?_
              refine j_then ?_
              refine j_seq ?_
              refine j_block ?_
              refine j_seq ?_
              refine j_region ?_
              refine r_q (q_ix (L := 3) (Rd.row 1 rfl) rfl (by decide) rfl (by decide) un120 sz22 rfl rfl rfl) rfl rfl ?_
              refine r_q (q_load (Rd.row 1 rfl) ag22 rfl rfl rfl) rfl rfl ?_
              refine r_q (q_assign rfl rfl) rfl rfl ?_
              refine r_nil ?_
              refine j_then ?_
              refine j_seq ?_
              refine j_region ?_
              refine r_q (q_move rfl rfl) rfl rfl ?_
              refine r_q (q_lenX a0_1 a0_1_h un22 rfl rfl rfl rfl rfl) rfl rfl ?_
              refine r_q (q_move rfl rfl) rfl rfl ?_
              refine r_nil ?_
              refine j_then ?_
              obtain ⟨κ1, h, hκ1⟩ := ex_k (g := fun κ => impl_HeapValid.loop1 K κ a0_0 a0_1 K (0:Int) = some r1) h
              refine j_cut (σ := Unit) (fun s => [(1, (pt x1)), (44, (.slice x2 3 3)), (45, (i6 ((3 : Nat) : Int))), (46, (i6 (1:Int)))]) (fun s => .box x1 34 [(.slice a0_0_A a0_0_n a0_0_c), (.slice a0_1_A a0_1_n a0_1_c), (.slice a0_2_A a0_2_n a0_2_c)] :: .row x2 3 22 1 [(.slice a0_0_A a0_0_n a0_0_c), (.slice a0_1_A a0_1_n a0_1_c), (.slice a0_2_A a0_2_n a0_2_c)] :: F) (fun s => κ1 () = some r1) ?_ ?_
              · refine j_block ?_
                refine j_loop (σ := Int) (fun s => [(1, (pt x1)), (44, (.slice x2 3 3)), (45, (i6 ((3 : Nat) : Int))), (46, (i6 (1:Int))), (50, (.slice a0_1_A a0_1_n a0_1_c)), (51, (i6 (a0_1.length : Int))), (52, (i6 s))]) (fun s => .box x1 34 [(.slice a0_0_A a0_0_n a0_0_c), (.slice a0_1_A a0_1_n a0_1_c), (.slice a0_2_A a0_2_n a0_2_c)] :: .row x2 3 22 1 [(.slice a0_0_A a0_0_n a0_0_c), (.slice a0_1_A a0_1_n a0_1_c), (.slice a0_2_A a0_2_n a0_2_c)] :: F) (fun m s => impl_HeapValid.loop1 K κ1 a0_0 a0_1 m s = some r1) K (0:Int) h (fun a he => he.sub ⟨rfl, rfl, rfl, rfl, rfl, rfl, rfl, trivial⟩) (fun w h => h) ?_
                rintro m p4 h
                cases m with
                | zero => exact absurd h (by rw [impl_HeapValid.loop1]; exact nofun)
                | succ m =>
                  rw [impl_HeapValid.loop1] at h
                  show J _ _ [(1, (pt x1)), (44, (.slice x2 3 3)), (45, (i6 ((3 : Nat) : Int))), (46, (i6 (1:Int))), (50, (.slice a0_1_A a0_1_n a0_1_c)), (51, (i6 (a0_1.length : Int))), (52, (i6 p4))] _ (.box x1 34 [(.slice a0_0_A a0_0_n a0_0_c), (.slice a0_1_A a0_1_n a0_1_c), (.slice a0_2_A a0_2_n a0_2_c)] :: .row x2 3 22 1 [(.slice a0_0_A a0_0_n a0_0_c), (.slice a0_1_A a0_1_n a0_1_c), (.slice a0_2_A a0_2_n a0_2_c)] :: F)
                  refine j_seq ?_
                  refine j_region ?_
                  refine r_q (q_lss rfl rfl rfl) rfl rfl ?_
                  refine r_nil ?_
                  refine j_then ?_
                  refine j_seq ?_
                  rcases of_if h with ⟨c34, h⟩ | ⟨c34, h⟩
                  · refine j_true rfl (decide_eq_true c34) ?_
                    refine j_skip ?_
                    refine j_then ?_
                    refine j_seq ?_
                    refine j_block ?_
                    refine j_seq ?_
                    refine j_region ?_
                    obtain ⟨c35, h⟩ := of_guard h
                    refine r_q (q_ix (Rd.drop 2 a0_1_R) (ints_len1 _ a0_1) (by decide) a0_1_h c35 un22 sz3 rfl rfl rfl) rfl rfl ?_
                    refine r_q (q_ldI (Rd.drop 2 a0_1_R) c35 ag3 rfl rfl) rfl rfl ?_
                    refine r_q (q_assign rfl rfl) rfl rfl ?_
                    refine r_nil ?_
                    refine j_then ?_
                    refine j_seq ?_
                    refine j_region ?_
                    refine r_q (q_move rfl rfl) rfl rfl ?_
                    refine r_q (q_lss rfl rfl rfl) rfl rfl ?_
                    refine r_q (q_move rfl rfl) rfl rfl ?_
                    rcases of_if h with ⟨c36, h⟩ | ⟨c36, h⟩
                    · refine r_off rfl rfl rfl rfl (decide_eq_true c36) rfl ?_
                      refine r_off rfl rfl rfl rfl (decide_eq_true c36) rfl ?_
                      refine r_off rfl rfl rfl rfl (decide_eq_true c36) rfl ?_
                      refine r_off rfl rfl rfl rfl (decide_eq_true c36) rfl ?_
                      refine r_off rfl rfl rfl rfl (decide_eq_true c36) rfl ?_
                      refine r_q (q_pick_t rfl rfl (decide_eq_true c36) rfl) rfl rfl ?_
                      refine r_nil ?_
                      refine j_then ?_
                      refine j_true rfl rfl ?_
                      refine j_seq ?_
                      refine j_region ?_
                      refine r_q (q_assign rfl rfl) rfl rfl ?_
                      refine r_nil ?_
                      refine j_then ?_
                      refine j_ret ?_
                      refine j_in_ret ?_
                      refine j_then_ret ?_
                      refine j_then_ret ?_
                      refine j_in_ret ?_
                      refine j_then_ret ?_
                      refine j_in_ret ?_
                      refine j_then_ret ?_
                      refine j_then_ret ?_
                      refine j_in_ret ?_
                      refine j_then_ret ?_
                      cases h
                      exact j_return rfl (ResOf.tmp rfl ResOf.nil) rfl (fun w h => ⟨(), rfl, (h.drop 2)⟩)
                    · refine r_qon (q_move rfl rfl) rfl rfl rfl rfl (decide_eq_false c36) rfl ?_
                      refine r_qon (q_fieldAddr fi34_0 sz22 rfl rfl rfl) rfl rfl rfl rfl (decide_eq_false c36) rfl ?_
                      refine r_qon (q_loadb 0 rfl ag22 rfl rfl rfl) rfl rfl rfl rfl (decide_eq_false c36) rfl ?_
                      refine r_qon (q_lenX a0_0 a0_0_h un22 rfl rfl rfl rfl rfl) rfl rfl rfl rfl (decide_eq_false c36) rfl ?_
                      refine r_qon (q_geq rfl rfl rfl) rfl rfl rfl rfl (decide_eq_false c36) rfl ?_
                      refine r_q (q_pick_f rfl rfl (decide_eq_false c36) rfl) rfl rfl ?_
                      refine r_nil ?_
                      refine j_then ?_
                      rcases of_if h with ⟨c37, h⟩ | ⟨c37, h⟩
                      · refine j_true rfl (decide_eq_true c37) ?_
                        refine j_seq ?_
                        refine j_region ?_
                        refine r_q (q_assign rfl rfl) rfl rfl ?_
                        refine r_nil ?_
                        refine j_then ?_
                        refine j_ret ?_
                        refine j_in_ret ?_
                        refine j_then_ret ?_
                        refine j_then_ret ?_
                        refine j_in_ret ?_
                        refine j_then_ret ?_
                        refine j_in_ret ?_
                        refine j_then_ret ?_
                        refine j_then_ret ?_
                        refine j_in_ret ?_
                        refine j_then_ret ?_
                        cases h
                        exact j_return rfl (ResOf.tmp rfl ResOf.nil) rfl (fun w h => ⟨(), rfl, (h.drop 2)⟩)
                      · refine j_false rfl (decide_eq_false c37) ?_
                        refine j_skip ?_
                        refine j_in ?_
                        refine j_then ?_
                        refine j_region ?_
                        refine r_q (q_add rfl rfl rfl) rfl rfl ?_
                        refine r_q (q_move rfl rfl) rfl rfl ?_
                        refine r_nil ?_
                        refine j_then ?_
                        exact j_again m (wrap64 (p4 + (1:Int))) (Nat.lt_succ_self m) h (fun a he => he.sub ⟨rfl, rfl, rfl, rfl, rfl, rfl, rfl, trivial⟩) (fun w h => h)
                  · refine j_false rfl (decide_eq_false c34) ?_
                    refine j_exit ?_
                    refine j_then_exit ?_
                    refine j_then_exit ?_
                    refine j_in_exit ?_
                    refine j_then ?_
                    exact j_meet () h (fun a he => he.sub ⟨rfl, rfl, rfl, rfl, trivial⟩) (fun w h => h)
              · rintro _ h
                subst hκ1
                show J _ _ [(1, (pt x1)), (44, (.slice x2 3 3)), (45, (i6 ((3 : Nat) : Int))), (46, (i6 (1:Int)))] _ (.box x1 34 [(.slice a0_0_A a0_0_n a0_0_c), (.slice a0_1_A a0_1_n a0_1_c), (.slice a0_2_A a0_2_n a0_2_c)] :: .row x2 3 22 1 [(.slice a0_0_A a0_0_n a0_0_c), (.slice a0_1_A a0_1_n a0_1_c), (.slice a0_2_A a0_2_n a0_2_c)] :: F)
                refine j_in ?_
                refine j_then ?_
                refine j_region ?_
                refine r_q (q_addc (v := (2:Int)) rfl rfl rfl (by decide) (by decide)) rfl rfl ?_
                refine r_q (q_move rfl rfl) rfl rfl ?_
                refine r_nil ?_
                refine j_then ?_
                refine j_round ?_
                refine j_seq ?_
                refine j_region ?_
                refine r_q (q_lss rfl rfl rfl) rfl rfl ?_
                refine r_nil ?_
                refine j_then ?_
                refine j_seq ?_
                refine j_true rfl (by decide) ?_
                refine j_skip ?_
                refine j_then ?_
                refine j_seq ?_
                refine j_block ?_
                refine j_seq ?_
                refine j_region ?_
                refine r_q (q_ix (L := 3) (Rd.row 1 rfl) rfl (by decide) rfl (by decide) un120 sz22 rfl rfl rfl) rfl rfl ?_
                refine r_q (q_load (Rd.row 1 rfl) ag22 rfl rfl rfl) rfl rfl ?_
                refine r_q (q_assign rfl rfl) rfl rfl ?_
                refine r_nil ?_
                refine j_then ?_
                refine j_seq ?_
                refine j_region ?_
                refine r_q (q_move rfl rfl) rfl rfl ?_
                refine r_q (q_lenX a0_2 a0_2_h un22 rfl rfl rfl rfl rfl) rfl rfl ?_
                refine r_q (q_move rfl rfl) rfl rfl ?_
                refine r_nil ?_
                refine j_then ?_
                obtain ⟨κ2, h, hκ2⟩ := ex_k (g := fun κ => impl_HeapValid.loop2 K κ a0_0 a0_2 K (0:Int) = some r1) h
                refine j_cut (σ := Unit) (fun s => [(1, (pt x1)), (44, (.slice x2 3 3)), (45, (i6 ((3 : Nat) : Int))), (46, (i6 (2:Int)))]) (fun s => .box x1 34 [(.slice a0_0_A a0_0_n a0_0_c), (.slice a0_1_A a0_1_n a0_1_c), (.slice a0_2_A a0_2_n a0_2_c)] :: .row x2 3 22 1 [(.slice a0_0_A a0_0_n a0_0_c), (.slice a0_1_A a0_1_n a0_1_c), (.slice a0_2_A a0_2_n a0_2_c)] :: F) (fun s => κ2 () = some r1) ?_ ?_
                · refine j_block ?_
                  refine j_loop (σ := Int) (fun s => [(1, (pt x1)), (44, (.slice x2 3 3)), (45, (i6 ((3 : Nat) : Int))), (46, (i6 (2:Int))), (50, (.slice a0_2_A a0_2_n a0_2_c)), (51, (i6 (a0_2.length : Int))), (52, (i6 s))]) (fun s => .box x1 34 [(.slice a0_0_A a0_0_n a0_0_c), (.slice a0_1_A a0_1_n a0_1_c), (.slice a0_2_A a0_2_n a0_2_c)] :: .row x2 3 22 1 [(.slice a0_0_A a0_0_n a0_0_c), (.slice a0_1_A a0_1_n a0_1_c), (.slice a0_2_A a0_2_n a0_2_c)] :: F) (fun m s => impl_HeapValid.loop2 K κ2 a0_0 a0_2 m s = some r1) K (0:Int) h (fun a he => he.sub ⟨rfl, rfl, rfl, rfl, rfl, rfl, rfl, trivial⟩) (fun w h => h) ?_
                  rintro m p6 h
                  cases m with
                  | zero => exact absurd h (by rw [impl_HeapValid.loop2]; exact nofun)
                  | succ m =>
                    rw [impl_HeapValid.loop2] at h
                    show J _ _ [(1, (pt x1)), (44, (.slice x2 3 3)), (45, (i6 ((3 : Nat) : Int))), (46, (i6 (2:Int))), (50, (.slice a0_2_A a0_2_n a0_2_c)), (51, (i6 (a0_2.length : Int))), (52, (i6 p6))] _ (.box x1 34 [(.slice a0_0_A a0_0_n a0_0_c), (.slice a0_1_A a0_1_n a0_1_c), (.slice a0_2_A a0_2_n a0_2_c)] :: .row x2 3 22 1 [(.slice a0_0_A a0_0_n a0_0_c), (.slice a0_1_A a0_1_n a0_1_c), (.slice a0_2_A a0_2_n a0_2_c)] :: F)
                    refine j_seq ?_
                    refine j_region ?_
                    refine r_q (q_lss rfl rfl rfl) rfl rfl ?_
                    refine r_nil ?_
                    refine j_then ?_
                    refine j_seq ?_
                    rcases of_if h with ⟨c50, h⟩ | ⟨c50, h⟩
                    · refine j_true rfl (decide_eq_true c50) ?_
                      refine j_skip ?_
                      refine j_then ?_
                      refine j_seq ?_
                      refine j_block ?_
                      refine j_seq ?_
                      refine j_region ?_
                      obtain ⟨c51, h⟩ := of_guard h
                      refine r_q (q_ix (Rd.drop 2 a0_2_R) (ints_len1 _ a0_2) (by decide) a0_2_h c51 un22 sz3 rfl rfl rfl) rfl rfl ?_
                      refine r_q (q_ldI (Rd.drop 2 a0_2_R) c51 ag3 rfl rfl) rfl rfl ?_
                      refine r_q (q_assign rfl rfl) rfl rfl ?_
                      refine r_nil ?_
                      refine j_then ?_
                      refine j_seq ?_
                      refine j_region ?_
                      refine r_q (q_move rfl rfl) rfl rfl ?_
                      refine r_q (q_lss rfl rfl rfl) rfl rfl ?_
                      refine r_q (q_move rfl rfl) rfl rfl ?_
                      rcases of_if h with ⟨c52, h⟩ | ⟨c52, h⟩
                      · refine r_off rfl rfl rfl rfl (decide_eq_true c52) rfl ?_
                        refine r_off rfl rfl rfl rfl (decide_eq_true c52) rfl ?_
                        refine r_off rfl rfl rfl rfl (decide_eq_true c52) rfl ?_
                        refine r_off rfl rfl rfl rfl (decide_eq_true c52) rfl ?_
                        refine r_off rfl rfl rfl rfl (decide_eq_true c52) rfl ?_
                        refine r_q (q_pick_t rfl rfl (decide_eq_true c52) rfl) rfl rfl ?_
                        refine r_nil ?_
                        refine j_then ?_
                        refine j_true rfl rfl ?_
                        refine j_seq ?_
                        refine j_region ?_
                        refine r_q (q_assign rfl rfl) rfl rfl ?_
                        refine r_nil ?_
                        refine j_then ?_
                        refine j_ret ?_
                        refine j_in_ret ?_
                        refine j_then_ret ?_
                        refine j_then_ret ?_
                        refine j_in_ret ?_
                        refine j_then_ret ?_
                        refine j_in_ret ?_
                        refine j_then_ret ?_
                        refine j_then_ret ?_
                        refine j_in_ret ?_
                        refine j_then_ret ?_
                        cases h
                        exact j_return rfl (ResOf.tmp rfl ResOf.nil) rfl (fun w h => ⟨(), rfl, (h.drop 2)⟩)
                      · refine r_qon (q_move rfl rfl) rfl rfl rfl rfl (decide_eq_false c52) rfl ?_
                        refine r_qon (q_fieldAddr fi34_0 sz22 rfl rfl rfl) rfl rfl rfl rfl (decide_eq_false c52) rfl ?_
                        refine r_qon (q_loadb 0 rfl ag22 rfl rfl rfl) rfl rfl rfl rfl (decide_eq_false c52) rfl ?_
                        refine r_qon (q_lenX a0_0 a0_0_h un22 rfl rfl rfl rfl rfl) rfl rfl rfl rfl (decide_eq_false c52) rfl ?_
                        refine r_qon (q_geq rfl rfl rfl) rfl rfl rfl rfl (decide_eq_false c52) rfl ?_
                        refine r_q (q_pick_f rfl rfl (decide_eq_false c52) rfl) rfl rfl ?_
                        refine r_nil ?_
                        refine j_then ?_
                        rcases of_if h with ⟨c53, h⟩ | ⟨c53, h⟩
                        · refine j_true rfl (decide_eq_true c53) ?_
                          refine j_seq ?_
                          refine j_region ?_
                          refine r_q (q_assign rfl rfl) rfl rfl ?_
                          refine r_nil ?_
                          refine j_then ?_
                          refine j_ret ?_
                          refine j_in_ret ?_
                          refine j_then_ret ?_
                          refine j_then_ret ?_
                          refine j_in_ret ?_
                          refine j_then_ret ?_
                          refine j_in_ret ?_
                          refine j_then_ret ?_
                          refine j_then_ret ?_
                          refine j_in_ret ?_
                          refine j_then_ret ?_
                          cases h
                          exact j_return rfl (ResOf.tmp rfl ResOf.nil) rfl (fun w h => ⟨(), rfl, (h.drop 2)⟩)
                        · refine j_false rfl (decide_eq_false c53) ?_
                          refine j_skip ?_
                          refine j_in ?_
                          refine j_then ?_
                          refine j_region ?_
                          refine r_q (q_add rfl rfl rfl) rfl rfl ?_
                          refine r_q (q_move rfl rfl) rfl rfl ?_
                          refine r_nil ?_
                          refine j_then ?_
                          exact j_again m (wrap64 (p6 + (1:Int))) (Nat.lt_succ_self m) h (fun a he => he.sub ⟨rfl, rfl, rfl, rfl, rfl, rfl, rfl, trivial⟩) (fun w h => h)
                    · refine j_false rfl (decide_eq_false c50) ?_
                      refine j_exit ?_
                      refine j_then_exit ?_
                      refine j_then_exit ?_
                      refine j_in_exit ?_
                      refine j_then ?_
                      exact j_meet () h (fun a he => he.sub ⟨rfl, rfl, rfl, rfl, trivial⟩) (fun w h => h)
                · rintro _ h
                  subst hκ2
                  show J _ _ [(1, (pt x1)), (44, (.slice x2 3 3)), (45, (i6 ((3 : Nat) : Int))), (46, (i6 (2:Int)))] _ (.box x1 34 [(.slice a0_0_A a0_0_n a0_0_c), (.slice a0_1_A a0_1_n a0_1_c), (.slice a0_2_A a0_2_n a0_2_c)] :: .row x2 3 22 1 [(.slice a0_0_A a0_0_n a0_0_c), (.slice a0_1_A a0_1_n a0_1_c), (.slice a0_2_A a0_2_n a0_2_c)] :: F)
                  refine j_in ?_
                  refine j_then ?_
                  refine j_region ?_
                  refine r_q (q_addc (v := (3:Int)) rfl rfl rfl (by decide) (by decide)) rfl rfl ?_
                  refine r_q (q_move rfl rfl) rfl rfl ?_
                  refine r_nil ?_
                  refine j_then ?_
                  refine j_round ?_
                  refine j_seq ?_
                  refine j_region ?_
                  refine r_q (q_lss rfl rfl rfl) rfl rfl ?_
                  refine r_nil ?_
                  refine j_then ?_
                  refine j_seq ?_
                  refine j_false rfl (by decide) ?_
                  refine j_exit ?_
                  refine j_then_exit ?_
                  refine j_then_exit ?_
                  refine j_in_exit ?_
                  refine j_then ?_
                  refine j_seq ?_
                  refine j_region ?_
                  refine r_q (q_assign rfl rfl) rfl rfl ?_
                  refine r_nil ?_
                  refine j_then ?_
                  refine j_ret ?_
                  cases h
                  exact j_return rfl (ResOf.tmp rfl ResOf.nil) rfl (fun w h => ⟨(), rfl, (h.drop 2)⟩)
  · refine r_off rfl rfl rfl rfl (bne_t c1) rfl ?_
    refine r_off rfl rfl rfl rfl (bne_t c1) rfl ?_
    refine r_off rfl rfl rfl rfl (bne_t c1) rfl ?_
    refine r_off rfl rfl rfl rfl (bne_t c1) rfl ?_
    refine r_q (q_pick_t rfl rfl (bne_t c1) rfl) rfl rfl ?_
    refine r_q (q_move rfl rfl) rfl rfl ?_
    refine r_off rfl rfl rfl rfl rfl rfl ?_
    refine r_off rfl rfl rfl rfl rfl rfl ?_
    refine r_off rfl rfl rfl rfl rfl rfl ?_
    refine r_off rfl rfl rfl rfl rfl rfl ?_
    refine r_q (q_pick_t rfl rfl rfl rfl) rfl rfl ?_
    refine r_q (q_move rfl rfl) rfl rfl ?_
    refine r_off rfl rfl rfl rfl rfl rfl ?_
    refine r_off rfl rfl rfl rfl rfl rfl ?_
    refine r_off rfl rfl rfl rfl rfl rfl ?_
    refine r_off rfl rfl rfl rfl rfl rfl ?_
    refine r_q (q_pick_t rfl rfl rfl rfl) rfl rfl ?_
    refine r_q (q_move rfl rfl) rfl rfl ?_
    refine r_off rfl rfl rfl rfl rfl rfl ?_
    refine r_off rfl rfl rfl rfl rfl rfl ?_
    refine r_off rfl rfl rfl rfl rfl rfl ?_
    refine r_off rfl rfl rfl rfl rfl rfl ?_
    refine r_q (q_pick_t rfl rfl rfl rfl) rfl rfl ?_
    refine r_nil ?_
    refine j_then ?_
    refine j_true rfl rfl ?_
    refine j_seq ?_
    refine j_region ?_
    refine r_q (q_assign rfl rfl) rfl rfl ?_
    refine r_nil ?_
    refine j_then ?_
    refine j_ret ?_
    refine j_then_ret ?_
    cases h
    exact j_return rfl (ResOf.tmp rfl ResOf.nil) rfl (fun w h => ⟨(), rfl, h.tail⟩)

theorem slices_Grow_int.calls (K : Nat) (a1 : Int) {w0 w : World} {F : List Res} {r1 : List Int} (hm : Mem w0 (F) w)  (h : slices_Grow_int.f K a1 = some r1) :
    Calls Try.prog 105 (List.toArray [.slice none 0 0, i6 a1]) w fun e w' => ∃ x : (Sl r1.length), e = .returned (.slice x.A x.n x.c) ∧ Mem w0 (.row x.A x.c 3 1 (ii r1) :: F) w' := by
  unfold slices_Grow_int.f at h
  refine calls_of_J (n := 27) Try.func105 rfl rfl rfl hm ?_
  refine j_seq ?_
  refine j_region ?_
  refine r_q (q_assign rfl rfl) rfl rfl ?_
  refine r_nil ?_
  refine j_then ?_
  refine j_seq ?_
  refine j_seq ?_
  refine j_region ?_
  refine r_q (q_move rfl rfl) rfl rfl ?_
  refine r_q (q_lss rfl rfl rfl) rfl rfl ?_
  refine r_nil ?_
  refine j_then ?_
  rcases of_if h with ⟨c1, h⟩ | ⟨c1, h⟩
  · refine j_true rfl (decide_eq_true c1) ?_
    refine j_region ?_
    exact absurd h nofun
  · refine j_false rfl (decide_eq_false c1) ?_
    refine j_skip ?_
    refine j_then ?_
    refine j_seq ?_
    refine j_seq ?_
    refine j_region ?_
    refine r_q (q_move rfl rfl) rfl rfl ?_
    refine r_q (q_move rfl rfl) rfl rfl ?_
    refine r_q (q_cap_sl rfl rfl rfl rfl un22 rfl) rfl rfl ?_
    refine r_q (q_move rfl rfl) rfl rfl ?_
    refine r_q (q_lenX ([] : List Int) rfl un22 rfl rfl rfl rfl rfl) rfl rfl ?_
    refine r_q (q_sub rfl rfl rfl) rfl rfl ?_
    refine r_q (q_sub rfl rfl rfl) rfl rfl ?_
    refine r_q (q_assign rfl rfl) rfl rfl ?_
    refine r_nil ?_
    refine j_then ?_
    refine j_seq ?_
    refine j_region ?_
    refine r_q (q_move rfl rfl) rfl rfl ?_
    refine r_q (q_gtr rfl rfl rfl) rfl rfl ?_
    refine r_nil ?_
    refine j_then ?_
    rcases of_if h with ⟨c2, h⟩ | ⟨c2, h⟩
    · refine j_true rfl (decide_eq_true c2) ?_
      refine j_region ?_
      refine r_q (q_move rfl rfl) rfl rfl ?_
      refine r_q (q_move rfl rfl) rfl rfl ?_
      refine r_q (q_cap_sl rfl rfl rfl rfl un22 rfl) rfl rfl ?_
      refine r_q (q_hi0 un22 sz3 rfl rfl rfl) rfl rfl ?_
      refine r_q (q_move rfl rfl) rfl rfl ?_
      obtain ⟨c3, h⟩ := of_guard h
      refine r_do (a_growI un22 un3 sz3 by3 zr3 rfl rfl c3 rfl rfl rfl rfl rfl rfl rfl) rfl rfl (fun x1 => ?_)
      refine r_q (q_move rfl rfl) rfl rfl ?_
      refine r_q (q_lenX ([] : List Int) rfl un22 rfl rfl rfl rfl rfl) rfl rfl ?_
      refine r_q (q_hi0 un22 sz3 rfl rfl rfl) rfl rfl ?_
      refine r_q (q_assign rfl rfl) rfl rfl ?_
      refine r_nil ?_
      refine j_then ?_
      refine j_seq ?_
      refine j_region ?_
      refine r_q (q_move rfl rfl) rfl rfl ?_
      refine r_q (q_assign rfl rfl) rfl rfl ?_
      refine r_nil ?_
      refine j_then ?_
      refine j_ret ?_
      cases h
      exact j_return rfl (ResOf.tmp rfl ResOf.nil) rfl (fun w h => ⟨⟨x1.1, 0, x1.2, rfl⟩, rfl, h⟩)
    · refine j_false rfl (decide_eq_false c2) ?_
      refine j_skip ?_
      refine j_then ?_
      refine j_seq ?_
      refine j_region ?_
      refine r_q (q_move rfl rfl) rfl rfl ?_
      refine r_q (q_assign rfl rfl) rfl rfl ?_
      refine r_nil ?_
      refine j_then ?_
      refine j_ret ?_
      refine j_nil 3 1 ?_
      cases h
      exact j_return rfl (ResOf.tmp rfl ResOf.nil) rfl (fun w h => ⟨⟨none, 0, 0, rfl⟩, rfl, h⟩)

theorem slices_Concat_int.calls (K : Nat) (a0_A : Option Addr) (a0_c : Nat) (a0_0 : List Int) (a0_0_A : Option Addr) (a0_0_n a0_0_c : Nat) (a0_1 : List Int) (a0_1_A : Option Addr) (a0_1_n a0_1_c : Nat) (a0_2 : List Int) (a0_2_A : Option Addr) (a0_2_n a0_2_c : Nat) {w0 w : World} {F : List Res} {r1 : List Int} (hm : Mem w0 (F) w) (a0_R : Rd w0 F a0_A [.slice a0_0_A a0_0_n a0_0_c, .slice a0_1_A a0_1_n a0_1_c, .slice a0_2_A a0_2_n a0_2_c]) (a0_0_h : a0_0.length = a0_0_n) (a0_0_R : Rd w0 F a0_0_A (ii a0_0)) (a0_1_h : a0_1.length = a0_1_n) (a0_1_R : Rd w0 F a0_1_A (ii a0_1)) (a0_2_h : a0_2.length = a0_2_n) (a0_2_R : Rd w0 F a0_2_A (ii a0_2)) (h : slices_Concat_int.f K a0_0 a0_1 a0_2 = some r1) :
    Calls Try.prog 99 (List.toArray [.slice a0_A 3 a0_c]) w fun e w' => ∃ x : (Sl r1.length), e = .returned (.slice x.A x.n x.c) ∧ Mem w0 (.row x.A x.c 3 1 (ii r1) :: F) w' := by
  unfold slices_Concat_int.f at h
  refine calls_of_J (n := 36) Try.func99 rfl rfl rfl hm ?_
  refine j_seq ?_
  refine j_region ?_
  refine r_q (q_assign rfl rfl) rfl rfl ?_
  refine r_nil ?_
  refine j_then ?_
  refine j_seq ?_
  refine j_region ?_
  refine r_q (q_assign rfl rfl) rfl rfl ?_
  refine r_nil ?_
  refine j_then ?_
  refine j_seq ?_
  refine j_seq ?_
  refine j_region ?_
  refine r_q (q_move rfl rfl) rfl rfl ?_
  refine r_q (q_len_sl rfl rfl rfl rfl un120 rfl) rfl rfl ?_
  refine r_q (q_move rfl rfl) rfl rfl ?_
  refine r_nil ?_
  refine j_then ?_
  refine j_block ?_
  refine j_unroll ?_
  refine j_round ?_
  refine j_seq ?_
  refine j_region ?_
  refine r_q (q_lss rfl rfl rfl) rfl rfl ?_
  refine r_nil ?_
  refine j_then ?_
  refine j_seq ?_
  refine j_true rfl (by decide) ?_
  refine j_skip ?_
  refine j_then ?_
  refine j_seq ?_
  refine j_block ?_
  refine j_seq ?_
  refine j_region ?_
  refine r_q (q_ix (L := 3) a0_R rfl (by decide) rfl (by decide) un120 sz22 rfl rfl rfl) rfl rfl ?_
  refine r_q (q_load a0_R ag22 rfl rfl rfl) rfl rfl ?_
  refine r_q (q_assign rfl rfl) rfl rfl ?_
  refine r_nil ?_
  refine j_then ?_
  refine j_seq ?_
  refine j_region ?_
  refine r_q (q_move rfl rfl) rfl rfl ?_
  refine r_q (q_move rfl rfl) rfl rfl ?_
  refine r_q (q_lenX a0_0 a0_0_h un22 rfl rfl rfl rfl rfl) rfl rfl ?_
  refine r_q (q_add rfl rfl rfl) rfl rfl ?_
  refine r_q (q_assign rfl rfl) rfl rfl ?_
  refine r_nil ?_
  refine j_then ?_
  refine j_seq ?_
  refine j_region ?_
  refine r_q (q_move rfl rfl) rfl rfl ?_
  refine r_q (q_lss rfl rfl rfl) rfl rfl ?_
  refine r_nil ?_
  refine j_then ?_
  rcases of_if h with ⟨c1, h⟩ | ⟨c1, h⟩
  · refine j_true rfl (decide_eq_true c1) ?_
    refine j_region ?_
    exact absurd h nofun
  · refine j_false rfl (decide_eq_false c1) ?_
    refine j_skip ?_
    refine j_in ?_
    refine j_then ?_
    refine j_region ?_
    refine r_q (q_addc (v := (1:Int)) rfl rfl rfl (by decide) (by decide)) rfl rfl ?_
    refine r_q (q_move rfl rfl) rfl rfl ?_
    refine r_nil ?_
    refine j_then ?_
    refine j_round ?_
    refine j_seq ?_
    refine j_region ?_
    refine r_q (q_lss rfl rfl rfl) rfl rfl ?_
    refine r_nil ?_
    refine j_then ?_
    refine j_seq ?_
    refine j_true rfl (by decide) ?_
    refine j_skip ?_
    refine j_then ?_
    refine j_seq ?_
    refine j_block ?_
    refine j_seq ?_
    refine j_region ?_
    refine r_q (q_ix (L := 3) a0_R rfl (by decide) rfl (by decide) un120 sz22 rfl rfl rfl) rfl rfl ?_
    refine r_q (q_load a0_R ag22 rfl rfl rfl) rfl rfl ?_
    refine r_q (q_assign rfl rfl) rfl rfl ?_
    refine r_nil ?_
    refine j_then ?_
    refine j_seq ?_
    refine j_region ?_
    refine r_q (q_move rfl rfl) rfl rfl ?_
    refine r_q (q_move rfl rfl) rfl rfl ?_
    refine r_q (q_lenX a0_1 a0_1_h un22 rfl rfl rfl rfl rfl) rfl rfl ?_
    refine r_q (q_add rfl rfl rfl) rfl rfl ?_
    refine r_q (q_assign rfl rfl) rfl rfl ?_
    refine r_nil ?_
    refine j_then ?_
    refine j_seq ?_
    refine j_region ?_
    refine r_q (q_move rfl rfl) rfl rfl ?_
    refine r_q (q_lss rfl rfl rfl) rfl rfl ?_
    refine r_nil ?_
    refine j_then ?_
    rcases of_if h with ⟨c2, h⟩ | ⟨c2, h⟩
    · refine j_true rfl (decide_eq_true c2) ?_
      refine j_region ?_
      exact absurd h nofun
    · refine j_false rfl (decide_eq_false c2) ?_
      refine j_skip ?_
      refine j_in ?_
      refine j_then ?_
      refine j_region ?_
      refine r_q (q_addc (v := (2:Int)) rfl rfl rfl (by decide) (by decide)) rfl rfl ?_
      refine r_q (q_move rfl rfl) rfl rfl ?_
      refine r_nil ?_
      refine j_then ?_
      refine j_round ?_
      refine j_seq ?_
      refine j_region ?_
      refine r_q (q_lss rfl rfl rfl) rfl rfl ?_
      refine r_nil ?_
      refine j_then ?_
      refine j_seq ?_
      refine j_true rfl (by decide) ?_
      refine j_skip ?_
      refine j_then ?_
      refine j_seq ?_
      refine j_block ?_
      refine j_seq ?_
      refine j_region ?_
      refine r_q (q_ix (L := 3) a0_R rfl (by decide) rfl (by decide) un120 sz22 rfl rfl rfl) rfl rfl ?_
      refine r_q (q_load a0_R ag22 rfl rfl rfl) rfl rfl ?_
      refine r_q (q_assign rfl rfl) rfl rfl ?_
      refine r_nil ?_
      refine j_then ?_
      refine j_seq ?_
      refine j_region ?_
      refine r_q (q_move rfl rfl) rfl rfl ?_
      refine r_q (q_move rfl rfl) rfl rfl ?_
      refine r_q (q_lenX a0_2 a0_2_h un22 rfl rfl rfl rfl rfl) rfl rfl ?_
      refine r_q (q_add rfl rfl rfl) rfl rfl ?_
      refine r_q (q_assign rfl rfl) rfl rfl ?_
      refine r_nil ?_
      refine j_then ?_
      refine j_seq ?_
      refine j_region ?_
      refine r_q (q_move rfl rfl) rfl rfl ?_
      refine r_q (q_lss rfl rfl rfl) rfl rfl ?_
      refine r_nil ?_
      refine j_then ?_
      rcases of_if h with ⟨c3, h⟩ | ⟨c3, h⟩
      · refine j_true rfl (decide_eq_true c3) ?_
        refine j_region ?_
        exact absurd h nofun
      · refine j_false rfl (decide_eq_false c3) ?_
        refine j_skip ?_
        refine j_in ?_
        refine j_then ?_
        refine j_region ?_
        refine r_q (q_addc (v := (3:Int)) rfl rfl rfl (by decide) (by decide)) rfl rfl ?_
        refine r_q (q_move rfl rfl) rfl rfl ?_
        refine r_nil ?_
        refine j_then ?_
        refine j_round ?_
        refine j_seq ?_
        refine j_region ?_
        refine r_q (q_lss rfl rfl rfl) rfl rfl ?_
        refine r_nil ?_
        refine j_then ?_
        refine j_seq ?_
        refine j_false rfl (by decide) ?_
        refine j_exit ?_
        refine j_then_exit ?_
        refine j_then_exit ?_
        refine j_in_exit ?_
        refine j_then ?_
        refine j_seq ?_
        refine j_region ?_
        refine r_q (q_move rfl rfl) rfl rfl ?_
        obtain ⟨v1, hb1, h⟩ := of_b1 h
        refine r_do (a_call ok105 rfl rfl rfl rfl (fun w hm => slices_Grow_int.calls K (wrap64 ((wrap64 ((wrap64 ((0:Int) + (a0_0.length : Int))) + (a0_1.length : Int))) + (a0_2.length : Int))) hm hb1)) rfl rfl (fun x1 => ?_)
        refine r_q (q_assign rfl rfl) rfl rfl ?_
        refine r_nil ?_
        refine j_then ?_
        refine j_seq ?_
        refine j_seq ?_
        refine j_region ?_
        refine r_q (q_move rfl rfl) rfl rfl ?_
        refine r_q (q_len_sl rfl rfl rfl rfl un120 rfl) rfl rfl ?_
        refine r_q (q_move rfl rfl) rfl rfl ?_
        refine r_nil ?_
        refine j_then ?_
        refine j_block ?_
        refine j_unroll ?_
        refine j_round ?_
        refine j_seq ?_
        refine j_region ?_
        refine r_q (q_lss rfl rfl rfl) rfl rfl ?_
        refine r_nil ?_
        refine j_then ?_
        refine j_seq ?_
        refine j_true rfl (by decide) ?_
        refine j_skip ?_
        refine j_then ?_
        refine j_seq ?_
        refine j_block ?_
        refine j_seq ?_
        refine j_region ?_
        refine r_q (q_ix (L := 3) (Rd.drop 1 a0_R) rfl (by decide) rfl (by decide) un120 sz22 rfl rfl rfl) rfl rfl ?_
        refine r_q (q_load (Rd.drop 1 a0_R) ag22 rfl rfl rfl) rfl rfl ?_
        refine r_q (q_assign rfl rfl) rfl rfl ?_
        refine r_nil ?_
        refine j_then ?_
        refine j_region ?_
        refine r_q (q_move rfl rfl) rfl rfl ?_
        refine r_q (q_move rfl rfl) rfl rfl ?_
        obtain ⟨c4, h⟩ := of_guard h
        refine r_do (a_appI (xs := v1) (ys := a0_0) 0 un22 un22 sz3 by3 zr3 rfl rfl rfl rfl rfl rfl rfl rfl rfl x1.h a0_0_h (Rd.drop 1 a0_0_R) c4) rfl rfl (fun x2 => ?_)
        refine j_s0 ?_
        refine r_q (q_assign rfl rfl) rfl rfl ?_
        refine r_nil ?_
        refine j_in ?_
        refine j_then ?_
        refine j_region ?_
        refine r_q (q_addc (v := (1:Int)) rfl rfl rfl (by decide) (by decide)) rfl rfl ?_
        refine r_q (q_move rfl rfl) rfl rfl ?_
        refine r_nil ?_
        refine j_then ?_
        refine j_round ?_
        refine j_seq ?_
        refine j_region ?_
        refine r_q (q_lss rfl rfl rfl) rfl rfl ?_
        refine r_nil ?_
        refine j_then ?_
        refine j_seq ?_
        refine j_true rfl (by decide) ?_
        refine j_skip ?_
        refine j_then ?_
        refine j_seq ?_
        refine j_block ?_
        refine j_seq ?_
        refine j_region ?_
        refine r_q (q_ix (L := 3) (Rd.drop 1 a0_R) rfl (by decide) rfl (by decide) un120 sz22 rfl rfl rfl) rfl rfl ?_
        refine r_q (q_load (Rd.drop 1 a0_R) ag22 rfl rfl rfl) rfl rfl ?_
        refine r_q (q_assign rfl rfl) rfl rfl ?_
        refine r_nil ?_
        refine j_then ?_
        refine j_region ?_
        refine r_q (q_move rfl rfl) rfl rfl ?_
        refine r_q (q_move rfl rfl) rfl rfl ?_
        obtain ⟨c5, h⟩ := of_guard h
        refine r_do (a_appI (xs := (v1 ++ a0_0)) (ys := a0_1) 0 un22 un22 sz3 by3 zr3 rfl rfl rfl rfl rfl rfl rfl rfl rfl (app_len x1.h a0_0_h) a0_1_h (Rd.drop 1 a0_1_R) c5) rfl rfl (fun x2 => ?_)
        refine j_s0 ?_
        refine r_q (q_assign rfl rfl) rfl rfl ?_
        refine r_nil ?_
        refine j_in ?_
        refine j_then ?_
        refine j_region ?_
        refine r_q (q_addc (v := (2:Int)) rfl rfl rfl (by decide) (by decide)) rfl rfl ?_
        refine r_q (q_move rfl rfl) rfl rfl ?_
        refine r_nil ?_
        refine j_then ?_
        refine j_round ?_
        refine j_seq ?_
        refine j_region ?_
        refine r_q (q_lss rfl rfl rfl) rfl rfl ?_
        refine r_nil ?_
        refine j_then ?_
        refine j_seq ?_
        refine j_true rfl (by decide) ?_
        refine j_skip ?_
        refine j_then ?_
        refine j_seq ?_
        refine j_block ?_
        refine j_seq ?_
        refine j_region ?_
        refine r_q (q_ix (L := 3) (Rd.drop 1 a0_R) rfl (by decide) rfl (by decide) un120 sz22 rfl rfl rfl) rfl rfl ?_
        refine r_q (q_load (Rd.drop 1 a0_R) ag22 rfl rfl rfl) rfl rfl ?_
        refine r_q (q_assign rfl rfl) rfl rfl ?_
        refine r_nil ?_
        refine j_then ?_
        refine j_region ?_
        refine r_q (q_move rfl rfl) rfl rfl ?_
        refine r_q (q_move rfl rfl) rfl rfl ?_
        obtain ⟨c6, h⟩ := of_guard h
        refine r_do (a_appI (xs := ((v1 ++ a0_0) ++ a0_1)) (ys := a0_2) 0 un22 un22 sz3 by3 zr3 rfl rfl rfl rfl rfl rfl rfl rfl rfl (app_len (app_len x1.h a0_0_h) a0_1_h) a0_2_h (Rd.drop 1 a0_2_R) c6) rfl rfl (fun x2 => ?_)
        refine j_s0 ?_
        refine r_q (q_assign rfl rfl) rfl rfl ?_
        refine r_nil ?_
        refine j_in ?_
        refine j_then ?_
        refine j_region ?_
        refine r_q (q_addc (v := (3:Int)) rfl rfl rfl (by decide) (by decide)) rfl rfl ?_
        refine r_q (q_move rfl rfl) rfl rfl ?_
        refine r_nil ?_
        refine j_then ?_
        refine j_round ?_
        refine j_seq ?_
        refine j_region ?_
        refine r_q (q_lss rfl rfl rfl) rfl rfl ?_
        refine r_nil ?_
        refine j_then ?_
        refine j_seq ?_
        refine j_false rfl (by decide) ?_
        refine j_exit ?_
        refine j_then_exit ?_
        refine j_then_exit ?_
        refine j_in_exit ?_
        refine j_then ?_
        refine j_seq ?_
        refine j_region ?_
        refine r_q (q_move rfl rfl) rfl rfl ?_
        refine r_q (q_assign rfl rfl) rfl rfl ?_
        refine r_nil ?_
        refine j_then ?_
        refine j_ret ?_
        cases h
        exact j_return rfl (ResOf.tmp rfl ResOf.nil) rfl (fun w h => ⟨⟨x2.1, (((x1.n + a0_0_n) + a0_1_n) + a0_2_n), x2.2, (app_len (app_len (app_len x1.h a0_0_h) a0_1_h) a0_2_h)⟩, rfl, h⟩)

theorem impl_CountsOf.calls (K : Nat) (a0_0 : List Int) (a0_0_A : Option Addr) (a0_0_n a0_0_c : Nat) (a0_1 : List Int) (a0_1_A : Option Addr) (a0_1_n a0_1_c : Nat) (a0_2 : List Int) (a0_2_A : Option Addr) (a0_2_n a0_2_c : Nat) {w0 w : World} {F : List Res} {r1 : List Int} (hm : Mem w0 (F) w) (a0_0_h : a0_0.length = a0_0_n) (a0_0_R : Rd w0 F a0_0_A (ii a0_0)) (a0_1_h : a0_1.length = a0_1_n) (a0_1_R : Rd w0 F a0_1_A (ii a0_1)) (a0_2_h : a0_2.length = a0_2_n) (a0_2_R : Rd w0 F a0_2_A (ii a0_2)) (h : impl_CountsOf.f K a0_0 a0_1 a0_2 = some r1) :
    Calls Try.prog 86 (List.toArray [.agg (List.toArray [.slice a0_0_A a0_0_n a0_0_c, .slice a0_1_A a0_1_n a0_1_c, .slice a0_2_A a0_2_n a0_2_c])]) w fun e w' => ∃ x : (Sl r1.length), e = .returned (.slice x.A x.n x.c) ∧ Mem w0 (.row x.A x.c 3 1 (ii r1) :: F) w' := by
  unfold impl_CountsOf.f at h
  refine calls_of_J (n := 36) Try.func86 rfl rfl rfl hm ?_
  refine j_seq ?_
  refine j_region ?_
  refine r_do (a_box rfl rfl) rfl rfl (fun x1 => ?_)
  refine r_q (q_assign rfl rfl) rfl rfl ?_
  refine r_nil ?_
  refine j_then ?_
  refine j_seq ?_
  refine j_seq ?_
  refine j_region ?_
  refine r_q (q_loadb_agg 0 rfl ag34 sz34 rfl rfl rfl rfl) rfl rfl ?_
  obtain ⟨v1, hb1, h⟩ := of_b1 h
  refine r_do (a_call ok85 rfl rfl rfl rfl (fun w hm => impl_HeapValid.calls K a0_0 a0_0_A a0_0_n a0_0_c a0_1 a0_1_A a0_1_n a0_1_c a0_2 a0_2_A a0_2_n a0_2_c hm a0_0_h (Rd.drop 1 a0_0_R) a0_1_h (Rd.drop 1 a0_1_R) a0_2_h (Rd.drop 1 a0_2_R) hb1)) rfl rfl (fun x2 => ?_)
  refine r_q (q_not rfl rfl) rfl rfl ?_
  refine r_nil ?_
  refine j_then ?_
  rcases of_if h with ⟨c1, h⟩ | ⟨c1, h⟩
  · refine j_false rfl (not_f c1) ?_
    refine j_skip ?_
    refine j_then ?_
    refine j_seq ?_
    refine j_region ?_
    refine r_q (q_fieldAddr fi34_0 sz22 rfl rfl rfl) rfl rfl ?_
    refine r_q (q_loadb 0 rfl ag22 rfl rfl rfl) rfl rfl ?_
    refine r_q (q_lenX a0_0 a0_0_h un22 rfl rfl rfl rfl rfl) rfl rfl ?_
    obtain ⟨c2, h⟩ := of_guard h
    refine r_do (a_mkI un22 sz3 by3 zr3 rfl c2 rfl rfl rfl) rfl rfl (fun x3 => ?_)
    refine r_q (q_assign rfl rfl) rfl rfl ?_
    refine r_nil ?_
    refine j_then ?_
    refine j_seq ?_
    refine j_seq ?_
    refine j_region ?_
    refine r_q (q_fieldAddr fi34_0 sz22 rfl rfl rfl) rfl rfl ?_
    refine r_q (q_loadb 1 rfl ag22 rfl rfl rfl) rfl rfl ?_
    refine r_q (q_fieldAddr fi34_1 sz22 rfl rfl rfl) rfl rfl ?_
    refine r_q (q_loadb 1 rfl ag22 rfl rfl rfl) rfl rfl ?_
    refine r_q (q_fieldAddr fi34_2 sz22 rfl rfl rfl) rfl rfl ?_
    refine r_q (q_loadb 1 rfl ag22 rfl rfl rfl) rfl rfl ?_
    refine r_do (a_litX (vs := [(.slice a0_0_A a0_0_n a0_0_c), (.slice a0_1_A a0_1_n a0_1_c), (.slice a0_2_A a0_2_n a0_2_c)]) [(.slice a0_0_A a0_0_n a0_0_c), (.slice a0_1_A a0_1_n a0_1_c), (.slice a0_2_A a0_2_n a0_2_c)] un120 sz22 zr22 rfl rfl rfl rfl rfl rfl rfl rfl rfl) rfl rfl (fun x4 => ?_)
    obtain ⟨v2, hb2, h⟩ := of_b1 h
    refine r_do (a_call ok99 rfl rfl rfl rfl (fun w hm => slices_Concat_int.calls K x4 3 a0_0 a0_0_A a0_0_n a0_0_c a0_1 a0_1_A a0_1_n a0_1_c a0_2 a0_2_A a0_2_n a0_2_c hm (Rd.row 0 rfl) a0_0_h (Rd.drop 3 a0_0_R) a0_1_h (Rd.drop 3 a0_1_R) a0_2_h (Rd.drop 3 a0_2_R) hb2)) rfl rfl (fun x5 => ?_)
    refine r_q (q_lenX v2 x5.h un22 rfl rfl rfl rfl rfl) rfl rfl ?_
    refine r_q (q_move rfl rfl) rfl rfl ?_
    refine r_nil ?_
    refine j_then ?_
    obtain ⟨κ0, h, hκ0⟩ := ex_k (g := fun κ => impl_CountsOf.loop0 K κ v2 K (0:Int) (List.replicate (a0_0.length : Int).toNat (0:Int)) = some r1) h
    refine j_cut (σ := (List Int)) (fun s => [(3, (.slice x3 ((a0_0.length : Int).toNat) ((a0_0.length : Int).toNat)))]) (fun s => .row x3 ((a0_0.length : Int).toNat) 3 1 (ii s) :: F) (fun s => κ0 s = some r1 ∧ (s.length = ((a0_0.length : Int).toNat))) ?_ ?_
    · refine j_block ?_
      refine j_loop (σ := Int × (List Int)) (fun s => [(3, (.slice x3 ((a0_0.length : Int).toNat) ((a0_0.length : Int).toNat))), (20, (.slice x5.A x5.n x5.c)), (21, (i6 (v2.length : Int))), (22, (i6 s.1))]) (fun s => .row x3 ((a0_0.length : Int).toNat) 3 1 (ii s.2) :: .row x5.A x5.c 3 1 (ii v2) :: F) (fun m s => impl_CountsOf.loop0 K κ0 v2 m s.1 s.2 = some r1 ∧ (s.2.length = ((a0_0.length : Int).toNat))) K ((0:Int), (List.replicate (a0_0.length : Int).toNat (0:Int))) ⟨h, List.length_replicate⟩ (fun a he => he.sub ⟨rfl, rfl, rfl, rfl, trivial⟩) (fun w h => h.pick 4 [2, 0] rfl) ?_
      rintro m ⟨p2, l2⟩ ⟨h, q2⟩
      cases m with
      | zero => exact absurd h (by rw [impl_CountsOf.loop0]; exact nofun)
      | succ m =>
        rw [impl_CountsOf.loop0] at h
        show J _ _ [(3, (.slice x3 ((a0_0.length : Int).toNat) ((a0_0.length : Int).toNat))), (20, (.slice x5.A x5.n x5.c)), (21, (i6 (v2.length : Int))), (22, (i6 p2))] _ (.row x3 ((a0_0.length : Int).toNat) 3 1 (ii l2) :: .row x5.A x5.c 3 1 (ii v2) :: F)
        refine j_seq ?_
        refine j_region ?_
        refine r_q (q_lss rfl rfl rfl) rfl rfl ?_
        refine r_nil ?_
        refine j_then ?_
        refine j_seq ?_
        rcases of_if h with ⟨c15, h⟩ | ⟨c15, h⟩
        · refine j_true rfl (decide_eq_true c15) ?_
          refine j_skip ?_
          refine j_then ?_
          refine j_seq ?_
          refine j_block ?_
          refine j_seq ?_
          refine j_region ?_
          obtain ⟨c16, h⟩ := of_guard h
          refine r_q (q_ix (Rd.row 1 rfl) (ints_len1 _ v2) (by decide) x5.h c16 un22 sz3 rfl rfl rfl) rfl rfl ?_
          refine r_q (q_ldI (Rd.row 1 rfl) c16 ag3 rfl rfl) rfl rfl ?_
          refine r_q (q_assign rfl rfl) rfl rfl ?_
          refine r_nil ?_
          refine j_then ?_
          refine j_seq ?_
          refine j_region ?_
          refine r_q (q_move rfl rfl) rfl rfl ?_
          refine r_q (q_neq rfl rfl rfl) rfl rfl ?_
          refine r_nil ?_
          refine j_then ?_
          rcases of_if h with ⟨c17, h⟩ | ⟨c17, h⟩
          · refine j_false rfl (bne_f c17) ?_
            refine j_skip ?_
            refine j_in ?_
            refine j_then ?_
            refine j_region ?_
            refine r_q (q_add rfl rfl rfl) rfl rfl ?_
            refine r_q (q_move rfl rfl) rfl rfl ?_
            refine r_nil ?_
            refine j_then ?_
            exact j_again m ((wrap64 (p2 + (1:Int))), l2) (Nat.lt_succ_self m) ⟨h, q2⟩ (fun a he => he.sub ⟨rfl, rfl, rfl, rfl, trivial⟩) (fun w h => h)
          · refine j_true rfl (bne_t c17) ?_
            refine j_region ?_
            refine r_q (q_move rfl rfl) rfl rfl ?_
            refine r_q (q_move rfl rfl) rfl rfl ?_
            obtain ⟨c18, h⟩ := of_guard h
            refine r_q (q_ix (Rd.row 0 rfl) (ints_len1 _ l2) (by decide) q2 c18 un22 sz3 rfl rfl rfl) rfl rfl ?_
            refine r_q (q_ldI (Rd.row 0 rfl) c18 ag3 rfl rfl) rfl rfl ?_
            refine r_q (q_add rfl rfl rfl) rfl rfl ?_
            refine r_q (q_ix (Rd.row 0 rfl) (ints_len1 _ l2) (by decide) q2 c18 un22 sz3 rfl rfl rfl) rfl rfl ?_
            refine r_do (a_stI 0 rfl c18 sz3 rfl rfl rfl) rfl rfl (fun _ => ?_)
            refine j_s0 ?_
            refine r_nil ?_
            refine j_in ?_
            refine j_then ?_
            refine j_region ?_
            refine r_q (q_add rfl rfl rfl) rfl rfl ?_
            refine r_q (q_move rfl rfl) rfl rfl ?_
            refine r_nil ?_
            refine j_then ?_
            exact j_again m ((wrap64 (p2 + (1:Int))), (l2.set (rd v2 p2).toNat (wrap64 ((rd l2 (rd v2 p2)) + (1:Int))))) (Nat.lt_succ_self m) ⟨h, (set_len q2 _ _)⟩ (fun a he => he.sub ⟨rfl, rfl, rfl, rfl, trivial⟩) (fun w h => h)
        · refine j_false rfl (decide_eq_false c15) ?_
          refine j_exit ?_
          refine j_then_exit ?_
          refine j_then_exit ?_
          refine j_in_exit ?_
          refine j_then ?_
          exact j_meet l2 ⟨h, q2⟩ (fun a he => he.sub ⟨rfl, trivial⟩) (fun w h => h.pick 2 [0] rfl)
    · rintro l3 ⟨h, q3⟩
      subst hκ0
      show J _ _ [(3, (.slice x3 ((a0_0.length : Int).toNat) ((a0_0.length : Int).toNat)))] _ (.row x3 ((a0_0.length : Int).toNat) 3 1 (ii l3) :: F)
      refine j_then ?_
      refine j_seq ?_
      refine j_region ?_
      refine r_q (q_move rfl rfl) rfl rfl ?_
      refine r_q (q_assign rfl rfl) rfl rfl ?_
      refine r_nil ?_
      refine j_then ?_
      refine j_ret ?_
      cases h
      exact j_return rfl (ResOf.tmp rfl ResOf.nil) rfl (fun w h => ⟨⟨x3, ((a0_0.length : Int).toNat), ((a0_0.length : Int).toNat), q3⟩, rfl, h⟩)
  · refine j_true rfl (not_t (var_f c1)) ?_
    refine j_seq ?_
    refine j_region ?_
    refine r_q (q_assign rfl rfl) rfl rfl ?_
    refine r_nil ?_
    refine j_then ?_
    refine j_ret ?_
    refine j_then_ret ?_
    refine j_nil 3 1 ?_
    cases h
    exact j_return rfl (ResOf.tmp rfl ResOf.nil) rfl (fun w h => ⟨⟨none, 0, 0, rfl⟩, rfl, h.pick 2 [0] rfl⟩)

theorem slices_Index_int.calls (K : Nat) (a0 : List Int) (a0_A : Option Addr) (a0_n a0_c : Nat) (a1 : Int) {w0 w : World} {F : List Res} {r1 : Int} (hm : Mem w0 (F) w) (a0_h : a0.length = a0_n) (a0_R : Rd w0 F a0_A (ii a0)) (h : slices_Index_int.f K a0 a1 = some r1) :
    Calls Try.prog 82 (List.toArray [.slice a0_A a0_n a0_c, i6 a1]) w fun e w' => ∃ x : Unit, e = .returned (i6 r1) ∧ Mem w0 (F) w' := by
  unfold slices_Index_int.f at h
  refine calls_of_J (n := 19) Try.func82 rfl rfl rfl hm ?_
  refine j_seq ?_
  refine j_region ?_
  refine r_q (q_assign rfl rfl) rfl rfl ?_
  refine r_nil ?_
  refine j_then ?_
  refine j_seq ?_
  refine j_seq ?_
  refine j_region ?_
  refine r_q (q_move rfl rfl) rfl rfl ?_
  refine r_q (q_lenX a0 a0_h un22 rfl rfl rfl rfl rfl) rfl rfl ?_
  refine r_q (q_move rfl rfl) rfl rfl ?_
  refine r_nil ?_
  refine j_then ?_
  obtain ⟨κ0, h, hκ0⟩ := ex_k (g := fun κ => slices_Index_int.loop0 K κ a0 a1 K (0:Int) = some r1) h
  refine j_cut (σ := Unit) (fun s => []) (fun s => F) (fun s => κ0 () = some r1) ?_ ?_
  · refine j_block ?_
    refine j_loop (σ := Int) (fun s => [(0, (.slice a0_A a0_n a0_c)), (1, (i6 a1)), (7, (i6 (a0.length : Int))), (8, (i6 s))]) (fun s => F) (fun m s => slices_Index_int.loop0 K κ0 a0 a1 m s = some r1) K (0:Int) h (fun a he => he.sub ⟨rfl, rfl, rfl, rfl, trivial⟩) (fun w h => h) ?_
    rintro m p2 h
    cases m with
    | zero => exact absurd h (by rw [slices_Index_int.loop0]; exact nofun)
    | succ m =>
      rw [slices_Index_int.loop0] at h
      show J _ _ [(0, (.slice a0_A a0_n a0_c)), (1, (i6 a1)), (7, (i6 (a0.length : Int))), (8, (i6 p2))] _ (F)
      refine j_seq ?_
      refine j_region ?_
      refine r_q (q_lss rfl rfl rfl) rfl rfl ?_
      refine r_nil ?_
      refine j_then ?_
      refine j_seq ?_
      rcases of_if h with ⟨c10, h⟩ | ⟨c10, h⟩
      · refine j_true rfl (decide_eq_true c10) ?_
        refine j_skip ?_
        refine j_then ?_
        refine j_seq ?_
        refine j_block ?_
        refine j_seq ?_
        refine j_region ?_
        refine r_q (q_move rfl rfl) rfl rfl ?_
        refine r_q (q_assign rfl rfl) rfl rfl ?_
        refine r_nil ?_
        refine j_then ?_
        refine j_seq ?_
        refine j_region ?_
        refine r_q (q_move rfl rfl) rfl rfl ?_
        refine r_q (q_move rfl rfl) rfl rfl ?_
        refine r_q (q_move rfl rfl) rfl rfl ?_
        obtain ⟨c11, h⟩ := of_guard h
        refine r_q (q_ix a0_R (ints_len1 _ a0) (by decide) a0_h c11 un22 sz3 rfl rfl rfl) rfl rfl ?_
        refine r_q (q_ldI a0_R c11 ag3 rfl rfl) rfl rfl ?_
        refine r_q (q_eql rfl rfl rfl) rfl rfl ?_
        refine r_nil ?_
        refine j_then ?_
        rcases of_if h with ⟨c12, h⟩ | ⟨c12, h⟩
        · refine j_true rfl (beq_t c12) ?_
          refine j_seq ?_
          refine j_region ?_
          refine r_q (q_move rfl rfl) rfl rfl ?_
          refine r_q (q_assign rfl rfl) rfl rfl ?_
          refine r_nil ?_
          refine j_then ?_
          refine j_ret ?_
          refine j_in_ret ?_
          refine j_then_ret ?_
          refine j_then_ret ?_
          refine j_in_ret ?_
          refine j_then_ret ?_
          refine j_then_ret ?_
          cases h
          exact j_return rfl (ResOf.tmp rfl ResOf.nil) rfl (fun w h => ⟨(), rfl, h⟩)
        · refine j_false rfl (beq_f c12) ?_
          refine j_skip ?_
          refine j_in ?_
          refine j_then ?_
          refine j_region ?_
          refine r_q (q_add rfl rfl rfl) rfl rfl ?_
          refine r_q (q_move rfl rfl) rfl rfl ?_
          refine r_nil ?_
          refine j_then ?_
          exact j_again m (wrap64 (p2 + (1:Int))) (Nat.lt_succ_self m) h (fun a he => he.sub ⟨rfl, rfl, rfl, rfl, trivial⟩) (fun w h => h)
      · refine j_false rfl (decide_eq_false c10) ?_
        refine j_exit ?_
        refine j_then_exit ?_
        refine j_then_exit ?_
        refine j_in_exit ?_
        refine j_then ?_
        exact j_meet () h (fun a he => he.sub trivial) (fun w h => h)
  · rintro _ h
    subst hκ0
    show J _ _ [] _ (F)
    refine j_then ?_
    refine j_seq ?_
    refine j_region ?_
    refine r_q (q_assign rfl rfl) rfl rfl ?_
    refine r_nil ?_
    refine j_then ?_
    refine j_ret ?_
    cases h
    exact j_return rfl (ResOf.tmp rfl ResOf.nil) rfl (fun w h => ⟨(), rfl, h⟩)

theorem slices_Contains_int.calls (K : Nat) (a0 : List Int) (a0_A : Option Addr) (a0_n a0_c : Nat) (a1 : Int) {w0 w : World} {F : List Res} {r1 : Bool} (hm : Mem w0 (F) w) (a0_h : a0.length = a0_n) (a0_R : Rd w0 F a0_A (ii a0)) (h : slices_Contains_int.f K a0 a1 = some r1) :
    Calls Try.prog 55 (List.toArray [.slice a0_A a0_n a0_c, i6 a1]) w fun e w' => ∃ x : Unit, e = .returned (.bool r1) ∧ Mem w0 (F) w' := by
  unfold slices_Contains_int.f at h
  refine calls_of_J (n := 9) Try.func55 rfl rfl rfl hm ?_
  refine j_seq ?_
  refine j_region ?_
  refine r_q (q_assign rfl rfl) rfl rfl ?_
  refine r_nil ?_
  refine j_then ?_
  refine j_seq ?_
  refine j_region ?_
  refine r_q (q_move rfl rfl) rfl rfl ?_
  refine r_q (q_move rfl rfl) rfl rfl ?_
  obtain ⟨v1, hb1, h⟩ := of_b1 h
  refine r_do (a_call ok82 rfl rfl rfl rfl (fun w hm => slices_Index_int.calls K a0 a0_A a0_n a0_c a1 hm a0_h a0_R hb1)) rfl rfl (fun x1 => ?_)
  refine r_q (q_geq rfl rfl rfl) rfl rfl ?_
  refine r_q (q_assign rfl rfl) rfl rfl ?_
  refine r_nil ?_
  refine j_then ?_
  refine j_ret ?_
  cases h
  exact j_return rfl (ResOf.tmp rfl ResOf.nil) rfl (fun w h => ⟨(), rfl, h⟩)

theorem impl_StoreValid.calls (K : Nat) (a0_0 : List Int) (a0_0_A : Option Addr) (a0_0_n a0_0_c : Nat) (a0_1 : List Int) (a0_1_A : Option Addr) (a0_1_n a0_1_c : Nat) (a0_2 : List Int) (a0_2_A : Option Addr) (a0_2_n a0_2_c : Nat) (a0_3 : List Int) (a0_3_A : Option Addr) (a0_3_n a0_3_c : Nat) {w0 w : World} {F : List Res} {r1 : Bool} (hm : Mem w0 (F) w) (a0_0_h : a0_0.length = a0_0_n) (a0_0_R : Rd w0 F a0_0_A (ii a0_0)) (a0_1_h : a0_1.length = a0_1_n) (a0_1_R : Rd w0 F a0_1_A (ii a0_1)) (a0_2_h : a0_2.length = a0_2_n) (a0_2_R : Rd w0 F a0_2_A (ii a0_2)) (a0_3_h : a0_3.length = a0_3_n) (a0_3_R : Rd w0 F a0_3_A (ii a0_3)) (a0_3_k : a0_3.length ≤ a0_3_c) (h : impl_StoreValid.f K a0_0 a0_1 a0_2 a0_3 = some r1) :
    Calls Try.prog 58 (List.toArray [.agg (List.toArray [.slice a0_0_A a0_0_n a0_0_c, .slice a0_1_A a0_1_n a0_1_c, .slice a0_2_A a0_2_n a0_2_c, .slice a0_3_A a0_3_n a0_3_c])]) w fun e w' => ∃ x : Unit, e = .returned (.bool r1) ∧ Mem w0 (F) w' := by
  unfold impl_StoreValid.f at h
  refine calls_of_J (n := 63) Try.func58 rfl rfl rfl hm ?_
  refine j_seq ?_
  refine j_region ?_
  refine r_do (a_box rfl rfl) rfl rfl (fun x1 => ?_)
  refine r_q (q_assign rfl rfl) rfl rfl ?_
  refine r_nil ?_
  refine j_then ?_
  refine j_seq ?_
  refine j_seq ?_
  refine j_region ?_
  refine r_q (q_fieldAddr fi36_0 sz34 rfl rfl rfl) rfl rfl ?_
  refine r_q (q_loadb_agg 0 rfl ag34 sz34 rfl rfl rfl rfl) rfl rfl ?_
  obtain ⟨v1, hb1, h⟩ := of_b1 h
  refine r_do (a_call ok85 rfl rfl rfl rfl (fun w hm => impl_HeapValid.calls K a0_0 a0_0_A a0_0_n a0_0_c a0_1 a0_1_A a0_1_n a0_1_c a0_2 a0_2_A a0_2_n a0_2_c hm a0_0_h (Rd.drop 1 a0_0_R) a0_1_h (Rd.drop 1 a0_1_R) a0_2_h (Rd.drop 1 a0_2_R) hb1)) rfl rfl (fun x2 => ?_)
  refine r_q (q_not rfl rfl) rfl rfl ?_
  refine r_nil ?_
  refine j_then ?_
  rcases of_if h with ⟨c1, h⟩ | ⟨c1, h⟩
  · refine j_false rfl (not_f c1) ?_
    refine j_skip ?_
    refine j_then ?_
    refine j_seq ?_
    refine j_region ?_
    refine r_q (q_fieldAddr fi36_0 sz34 rfl rfl rfl) rfl rfl ?_
    refine r_q (q_loadb_agg 0 rfl ag34 sz34 rfl rfl rfl rfl) rfl rfl ?_
    obtain ⟨v2, hb2, h⟩ := of_b1 h
    refine r_do (a_call ok86 rfl rfl rfl rfl (fun w hm => impl_CountsOf.calls K a0_0 a0_0_A a0_0_n a0_0_c a0_1 a0_1_A a0_1_n a0_1_c a0_2 a0_2_A a0_2_n a0_2_c hm a0_0_h (Rd.drop 1 a0_0_R) a0_1_h (Rd.drop 1 a0_1_R) a0_2_h (Rd.drop 1 a0_2_R) hb2)) rfl rfl (fun x3 => ?_)
    refine r_q (q_assign rfl rfl) rfl rfl ?_
    refine r_nil ?_
    refine j_then ?_
    refine j_seq ?_
    refine j_seq ?_
    refine j_region ?_
    refine r_q (q_fieldAddr fi36_1 sz22 rfl rfl rfl) rfl rfl ?_
    refine r_q (q_loadb 1 rfl ag22 rfl rfl rfl) rfl rfl ?_
    refine r_q (q_lenX a0_3 a0_3_h un22 rfl rfl rfl rfl rfl) rfl rfl ?_
    refine r_q (q_move rfl rfl) rfl rfl ?_
    refine r_nil ?_
    refine j_then ?_
    obtain ⟨κ0, h, hκ0⟩ := ex_k (g := fun κ => impl_StoreValid.loop0 K κ a0_0 a0_1 a0_3 v2 K (0:Int) = some r1) h
    refine j_cut (σ := Unit) (fun s => []) (fun s => F) (fun s => κ0 () = some r1) ?_ ?_
    · refine j_block ?_
      refine j_loop (σ := Int) (fun s => [(1, (pt x1)), (3, (.slice x3.A x3.n x3.c)), (14, (.slice a0_3_A a0_3_n a0_3_c)), (15, (i6 (a0_3.length : Int))), (16, (i6 s))]) (fun s => .box x1 36 [(.slice a0_0_A a0_0_n a0_0_c), (.slice a0_1_A a0_1_n a0_1_c), (.slice a0_2_A a0_2_n a0_2_c), (.slice a0_3_A a0_3_n a0_3_c)] :: .row x3.A x3.c 3 1 (ii v2) :: F) (fun m s => impl_StoreValid.loop0 K κ0 a0_0 a0_1 a0_3 v2 m s = some r1) K (0:Int) h (fun a he => he.sub ⟨rfl, rfl, rfl, rfl, rfl, trivial⟩) (fun w h => h.pick 2 [1, 0] rfl) ?_
      rintro m p2 h
      cases m with
      | zero => exact absurd h (by rw [impl_StoreValid.loop0]; exact nofun)
      | succ m =>
        rw [impl_StoreValid.loop0] at h
        show J _ _ [(1, (pt x1)), (3, (.slice x3.A x3.n x3.c)), (14, (.slice a0_3_A a0_3_n a0_3_c)), (15, (i6 (a0_3.length : Int))), (16, (i6 p2))] _ (.box x1 36 [(.slice a0_0_A a0_0_n a0_0_c), (.slice a0_1_A a0_1_n a0_1_c), (.slice a0_2_A a0_2_n a0_2_c), (.slice a0_3_A a0_3_n a0_3_c)] :: .row x3.A x3.c 3 1 (ii v2) :: F)
        refine j_seq ?_
        refine j_region ?_
        refine r_q (q_lss rfl rfl rfl) rfl rfl ?_
        refine r_nil ?_
        refine j_then ?_
        refine j_seq ?_
        rcases of_if h with ⟨c38, h⟩ | ⟨c38, h⟩
        · refine j_true rfl (decide_eq_true c38) ?_
          refine j_skip ?_
          refine j_then ?_
          refine j_seq ?_
          refine j_block ?_
          refine j_seq ?_
          refine j_region ?_
          refine r_q (q_move rfl rfl) rfl rfl ?_
          obtain ⟨c39, h⟩ := of_guard h
          refine r_q (q_ix (Rd.drop 2 a0_3_R) (ints_len1 _ a0_3) (by decide) a0_3_h c39 un22 sz3 rfl rfl rfl) rfl rfl ?_
          refine r_q (q_ldI (Rd.drop 2 a0_3_R) c39 ag3 rfl rfl) rfl rfl ?_
          refine r_q (q_assign rfl rfl) rfl rfl ?_
          refine r_q (q_assign rfl rfl) rfl rfl ?_
          refine r_nil ?_
          refine j_then ?_
          refine j_seq ?_
          refine j_region ?_
          refine r_q (q_move rfl rfl) rfl rfl ?_
          refine r_q (q_lss rfl rfl rfl) rfl rfl ?_
          refine r_q (q_move rfl rfl) rfl rfl ?_
          rcases of_if h with ⟨c40, h⟩ | ⟨c40, h⟩
          · refine r_off rfl rfl rfl rfl (decide_eq_true c40) rfl ?_
            refine r_off rfl rfl rfl rfl (decide_eq_true c40) rfl ?_
            refine r_off rfl rfl rfl rfl (decide_eq_true c40) rfl ?_
            refine r_off rfl rfl rfl rfl (decide_eq_true c40) rfl ?_
            refine r_q (q_pick_t rfl rfl (decide_eq_true c40) rfl) rfl rfl ?_
            refine r_q (q_move rfl rfl) rfl rfl ?_
            refine r_off rfl rfl rfl rfl rfl rfl ?_
            refine r_off rfl rfl rfl rfl rfl rfl ?_
            refine r_off rfl rfl rfl rfl rfl rfl ?_
            refine r_off rfl rfl rfl rfl rfl rfl ?_
            refine r_off rfl rfl rfl rfl rfl rfl ?_
            refine r_q (q_pick_t rfl rfl rfl rfl) rfl rfl ?_
            refine r_q (q_move rfl rfl) rfl rfl ?_
            refine r_off rfl rfl rfl rfl rfl rfl ?_
            refine r_off rfl rfl rfl rfl rfl rfl ?_
            refine r_off rfl rfl rfl rfl rfl rfl ?_
            refine r_off rfl rfl rfl rfl rfl rfl ?_
            refine r_off rfl rfl rfl rfl rfl rfl ?_
            refine r_off rfl rfl rfl rfl rfl rfl ?_
            refine r_off rfl rfl rfl rfl rfl rfl ?_
            refine r_q (q_pick_t rfl rfl rfl rfl) rfl rfl ?_
            refine r_q (q_move rfl rfl) rfl rfl ?_
            refine r_off rfl rfl rfl rfl rfl rfl ?_
            refine r_off rfl rfl rfl rfl rfl rfl ?_
            refine r_off rfl rfl rfl rfl rfl rfl ?_
            refine r_off rfl rfl rfl rfl rfl rfl ?_
            refine r_off rfl rfl rfl rfl rfl rfl ?_
            refine r_off rfl rfl rfl rfl rfl rfl ?_
            refine r_off rfl rfl rfl rfl rfl rfl ?_
            refine r_q (q_pick_t rfl rfl rfl rfl) rfl rfl ?_
            refine r_q (q_move rfl rfl) rfl rfl ?_
            refine r_off rfl rfl rfl rfl rfl rfl ?_
            refine r_off rfl rfl rfl rfl rfl rfl ?_
            refine r_off rfl rfl rfl rfl rfl rfl ?_
            refine r_off rfl rfl rfl rfl rfl rfl ?_
            refine r_off rfl rfl rfl rfl rfl rfl ?_
            refine r_off rfl rfl rfl rfl rfl rfl ?_
            refine r_q (q_pick_t rfl rfl rfl rfl) rfl rfl ?_
            refine r_nil ?_
            refine j_then ?_
            refine j_true rfl rfl ?_
            refine j_seq ?_
            refine j_region ?_
            refine r_q (q_assign rfl rfl) rfl rfl ?_
            refine r_nil ?_
            refine j_then ?_
            refine j_ret ?_
            refine j_in_ret ?_
            refine j_then_ret ?_
            refine j_then_ret ?_
            refine j_in_ret ?_
            refine j_then_ret ?_
            refine j_then_ret ?_
            cases h
            exact j_return rfl (ResOf.tmp rfl ResOf.nil) rfl (fun w h => ⟨(), rfl, (h.drop 2)⟩)
          · refine r_qon (q_move rfl rfl) rfl rfl rfl rfl (decide_eq_false c40) rfl ?_
            refine r_qon (q_move rfl rfl) rfl rfl rfl rfl (decide_eq_false c40) rfl ?_
            refine r_qon (q_lenX v2 x3.h un22 rfl rfl rfl rfl rfl) rfl rfl rfl rfl (decide_eq_false c40) rfl ?_
            refine r_qon (q_geq rfl rfl rfl) rfl rfl rfl rfl (decide_eq_false c40) rfl ?_
            refine r_q (q_pick_f rfl rfl (decide_eq_false c40) rfl) rfl rfl ?_
            refine r_q (q_move rfl rfl) rfl rfl ?_
            rcases of_if h with ⟨c41, h⟩ | ⟨c41, h⟩
            · refine r_off rfl rfl rfl rfl (decide_eq_true c41) rfl ?_
              refine r_off rfl rfl rfl rfl (decide_eq_true c41) rfl ?_
              refine r_off rfl rfl rfl rfl (decide_eq_true c41) rfl ?_
              refine r_off rfl rfl rfl rfl (decide_eq_true c41) rfl ?_
              refine r_off rfl rfl rfl rfl (decide_eq_true c41) rfl ?_
              refine r_q (q_pick_t rfl rfl (decide_eq_true c41) rfl) rfl rfl ?_
              refine r_q (q_move rfl rfl) rfl rfl ?_
              refine r_off rfl rfl rfl rfl rfl rfl ?_
              refine r_off rfl rfl rfl rfl rfl rfl ?_
              refine r_off rfl rfl rfl rfl rfl rfl ?_
              refine r_off rfl rfl rfl rfl rfl rfl ?_
              refine r_off rfl rfl rfl rfl rfl rfl ?_
              refine r_off rfl rfl rfl rfl rfl rfl ?_
              refine r_off rfl rfl rfl rfl rfl rfl ?_
              refine r_q (q_pick_t rfl rfl rfl rfl) rfl rfl ?_
              refine r_q (q_move rfl rfl) rfl rfl ?_
              refine r_off rfl rfl rfl rfl rfl rfl ?_
              refine r_off rfl rfl rfl rfl rfl rfl ?_
              refine r_off rfl rfl rfl rfl rfl rfl ?_
              refine r_off rfl rfl rfl rfl rfl rfl ?_
              refine r_off rfl rfl rfl rfl rfl rfl ?_
              refine r_off rfl rfl rfl rfl rfl rfl ?_
              refine r_off rfl rfl rfl rfl rfl rfl ?_
              refine r_q (q_pick_t rfl rfl rfl rfl) rfl rfl ?_
              refine r_q (q_move rfl rfl) rfl rfl ?_
              refine r_off rfl rfl rfl rfl rfl rfl ?_
              refine r_off rfl rfl rfl rfl rfl rfl ?_
              refine r_off rfl rfl rfl rfl rfl rfl ?_
              refine r_off rfl rfl rfl rfl rfl rfl ?_
              refine r_off rfl rfl rfl rfl rfl rfl ?_
              refine r_off rfl rfl rfl rfl rfl rfl ?_
              refine r_q (q_pick_t rfl rfl rfl rfl) rfl rfl ?_
              refine r_nil ?_
              refine j_then ?_
              refine j_true rfl rfl ?_
              refine j_seq ?_
              refine j_region ?_
              refine r_q (q_assign rfl rfl) rfl rfl ?_
              refine r_nil ?_
              refine j_then ?_
              refine j_ret ?_
              refine j_in_ret ?_
              refine j_then_ret ?_
              refine j_then_ret ?_
              refine j_in_ret ?_
              refine j_then_ret ?_
              refine j_then_ret ?_
              cases h
              exact j_return rfl (ResOf.tmp rfl ResOf.nil) rfl (fun w h => ⟨(), rfl, (h.drop 2)⟩)
            · refine r_qon (q_move rfl rfl) rfl rfl rfl rfl (decide_eq_false c41) rfl ?_
              refine r_qon (q_move rfl rfl) rfl rfl rfl rfl (decide_eq_false c41) rfl ?_
              obtain ⟨c42, h⟩ := of_guard h
              refine r_qon (q_ix (Rd.row 1 rfl) (ints_len1 _ v2) (by decide) x3.h c42 un22 sz3 rfl rfl rfl) rfl rfl rfl rfl (decide_eq_false c41) rfl ?_
              refine r_qon (q_ldI (Rd.row 1 rfl) c42 ag3 rfl rfl) rfl rfl rfl rfl (decide_eq_false c41) rfl ?_
              refine r_qon (q_gtr rfl rfl rfl) rfl rfl rfl rfl (decide_eq_false c41) rfl ?_
              refine r_q (q_pick_f rfl rfl (decide_eq_false c41) rfl) rfl rfl ?_
              refine r_q (q_move rfl rfl) rfl rfl ?_
              rcases of_if h with ⟨c43, h⟩ | ⟨c43, h⟩
              · refine r_off rfl rfl rfl rfl (decide_eq_true c43) rfl ?_
                refine r_off rfl rfl rfl rfl (decide_eq_true c43) rfl ?_
                refine r_off rfl rfl rfl rfl (decide_eq_true c43) rfl ?_
                refine r_off rfl rfl rfl rfl (decide_eq_true c43) rfl ?_
                refine r_off rfl rfl rfl rfl (decide_eq_true c43) rfl ?_
                refine r_off rfl rfl rfl rfl (decide_eq_true c43) rfl ?_
                refine r_off rfl rfl rfl rfl (decide_eq_true c43) rfl ?_
                refine r_q (q_pick_t rfl rfl (decide_eq_true c43) rfl) rfl rfl ?_
                refine r_q (q_move rfl rfl) rfl rfl ?_
                refine r_off rfl rfl rfl rfl rfl rfl ?_
                refine r_off rfl rfl rfl rfl rfl rfl ?_
                refine r_off rfl rfl rfl rfl rfl rfl ?_
                refine r_off rfl rfl rfl rfl rfl rfl ?_
                refine r_off rfl rfl rfl rfl rfl rfl ?_
                refine r_off rfl rfl rfl rfl rfl rfl ?_
                refine r_off rfl rfl rfl rfl rfl rfl ?_
                refine r_q (q_pick_t rfl rfl rfl rfl) rfl rfl ?_
                refine r_q (q_move rfl rfl) rfl rfl ?_
                refine r_off rfl rfl rfl rfl rfl rfl ?_
                refine r_off rfl rfl rfl rfl rfl rfl ?_
                refine r_off rfl rfl rfl rfl rfl rfl ?_
                refine r_off rfl rfl rfl rfl rfl rfl ?_
                refine r_off rfl rfl rfl rfl rfl rfl ?_
                refine r_off rfl rfl rfl rfl rfl rfl ?_
                refine r_q (q_pick_t rfl rfl rfl rfl) rfl rfl ?_
                refine r_nil ?_
                refine j_then ?_
                refine j_true rfl rfl ?_
                refine j_seq ?_
                refine j_region ?_
                refine r_q (q_assign rfl rfl) rfl rfl ?_
                refine r_nil ?_
                refine j_then ?_
                refine j_ret ?_
                refine j_in_ret ?_
                refine j_then_ret ?_
                refine j_then_ret ?_
                refine j_in_ret ?_
                refine j_then_ret ?_
                refine j_then_ret ?_
                cases h
                exact j_return rfl (ResOf.tmp rfl ResOf.nil) rfl (fun w h => ⟨(), rfl, (h.drop 2)⟩)
              · refine r_qon (q_fieldAddr fi36_0 sz34 rfl rfl rfl) rfl rfl rfl rfl (decide_eq_false c43) rfl ?_
                refine r_qon (q_fieldAddr fi34_0 sz22 rfl rfl rfl) rfl rfl rfl rfl (decide_eq_false c43) rfl ?_
                refine r_qon (q_loadb 0 rfl ag22 rfl rfl rfl) rfl rfl rfl rfl (decide_eq_false c43) rfl ?_
                refine r_qon (q_move rfl rfl) rfl rfl rfl rfl (decide_eq_false c43) rfl ?_
                obtain ⟨c44, h⟩ := of_guard h
                refine r_qon (q_ix (Rd.drop 2 a0_0_R) (ints_len1 _ a0_0) (by decide) a0_0_h c44 un22 sz3 rfl rfl rfl) rfl rfl rfl rfl (decide_eq_false c43) rfl ?_
                refine r_qon (q_ldI (Rd.drop 2 a0_0_R) c44 ag3 rfl rfl) rfl rfl rfl rfl (decide_eq_false c43) rfl ?_
                refine r_qon (q_neq rfl rfl rfl) rfl rfl rfl rfl (decide_eq_false c43) rfl ?_
                refine r_q (q_pick_f rfl rfl (decide_eq_false c43) rfl) rfl rfl ?_
                refine r_q (q_move rfl rfl) rfl rfl ?_
                rcases of_if h with ⟨c45, h⟩ | ⟨c45, h⟩
                · refine r_qon (q_fieldAddr fi36_0 sz34 rfl rfl rfl) rfl rfl rfl rfl (bne_f c45) rfl ?_
                  refine r_qon (q_fieldAddr fi34_1 sz22 rfl rfl rfl) rfl rfl rfl rfl (bne_f c45) rfl ?_
                  refine r_qon (q_loadb 0 rfl ag22 rfl rfl rfl) rfl rfl rfl rfl (bne_f c45) rfl ?_
                  refine r_qon (q_move rfl rfl) rfl rfl rfl rfl (bne_f c45) rfl ?_
                  obtain ⟨c46, h⟩ := of_guard h
                  refine r_qon (q_ix (Rd.drop 2 a0_1_R) (ints_len1 _ a0_1) (by decide) a0_1_h c46 un22 sz3 rfl rfl rfl) rfl rfl rfl rfl (bne_f c45) rfl ?_
                  refine r_qon (q_ldI (Rd.drop 2 a0_1_R) c46 ag3 rfl rfl) rfl rfl rfl rfl (bne_f c45) rfl ?_
                  refine r_qon (q_neq rfl rfl rfl) rfl rfl rfl rfl (bne_f c45) rfl ?_
                  refine r_q (q_pick_f rfl rfl (bne_f c45) rfl) rfl rfl ?_
                  refine r_q (q_move rfl rfl) rfl rfl ?_
                  rcases of_if h with ⟨c47, h⟩ | ⟨c47, h⟩
                  · refine r_qon (q_fieldAddr fi36_1 sz22 rfl rfl rfl) rfl rfl rfl rfl (bne_f c47) rfl ?_
                    refine r_qon (q_loadb 0 rfl ag22 rfl rfl rfl) rfl rfl rfl rfl (bne_f c47) rfl ?_
                    refine r_qon (q_move rfl rfl) rfl rfl rfl rfl (bne_f c47) rfl ?_
                    obtain ⟨c48, h⟩ := of_guard h
                    refine j_fact (fun w hm => a0_3_k) (fun k8 => ?_)
                    refine r_qon (q_hi a0_3 a0_3_h k8 c48 un22 sz3 rfl rfl rfl) rfl rfl rfl rfl (bne_f c47) rfl ?_
                    refine r_qon (q_move rfl rfl) rfl rfl rfl rfl (bne_f c47) rfl ?_
                    obtain ⟨v6, hb6, h⟩ := of_b1 h
                    refine r_on (a_call ok55 rfl rfl rfl rfl (fun w hm => slices_Contains_int.calls K (a0_3.take p2.toNat) a0_3_A (a0_3.take p2.toNat).length a0_3_c (rd a0_3 p2) hm rfl (rd_hiI (Rd.drop 2 a0_3_R) p2.toNat) hb6)) rfl rfl rfl rfl (bne_f c47) rfl (fun x4 => ?_)
                    refine r_q (q_pick_f rfl rfl (bne_f c47) rfl) rfl rfl ?_
                    refine r_nil ?_
                    refine j_then ?_
                    rcases of_if h with ⟨c49, h⟩ | ⟨c49, h⟩
                    · refine j_true rfl c49 ?_
                      refine j_seq ?_
                      refine j_region ?_
                      refine r_q (q_assign rfl rfl) rfl rfl ?_
                      refine r_nil ?_
                      refine j_then ?_
                      refine j_ret ?_
                      refine j_in_ret ?_
                      refine j_then_ret ?_
                      refine j_then_ret ?_
                      refine j_in_ret ?_
                      refine j_then_ret ?_
                      refine j_then_ret ?_
                      cases h
                      exact j_return rfl (ResOf.tmp rfl ResOf.nil) rfl (fun w h => ⟨(), rfl, (h.drop 2)⟩)
                    · refine j_false rfl (var_f c49) ?_
                      refine j_skip ?_
                      refine j_in ?_
                      refine j_then ?_
                      refine j_region ?_
                      refine r_q (q_add rfl rfl rfl) rfl rfl ?_
                      refine r_q (q_move rfl rfl) rfl rfl ?_
                      refine r_nil ?_
                      refine j_then ?_
                      exact j_again m (wrap64 (p2 + (1:Int))) (Nat.lt_succ_self m) h (fun a he => he.sub ⟨rfl, rfl, rfl, rfl, rfl, trivial⟩) (fun w h => h)
                  · refine r_off rfl rfl rfl rfl (bne_t c47) rfl ?_
                    refine r_off rfl rfl rfl rfl (bne_t c47) rfl ?_
                    refine r_off rfl rfl rfl rfl (bne_t c47) rfl ?_
                    refine r_off rfl rfl rfl rfl (bne_t c47) rfl ?_
                    refine r_off rfl rfl rfl rfl (bne_t c47) rfl ?_
                    refine r_off rfl rfl rfl rfl (bne_t c47) rfl ?_
                    refine r_q (q_pick_t rfl rfl (bne_t c47) rfl) rfl rfl ?_
                    refine r_nil ?_
                    refine j_then ?_
                    refine j_true rfl rfl ?_
                    refine j_seq ?_
                    refine j_region ?_
                    refine r_q (q_assign rfl rfl) rfl rfl ?_
                    refine r_nil ?_
                    refine j_then ?_
                    refine j_ret ?_
                    refine j_in_ret ?_
                    refine j_then_ret ?_
                    refine j_then_ret ?_
                    refine j_in_ret ?_
                    refine j_then_ret ?_
                    refine j_then_ret ?_
                    cases h
                    exact j_return rfl (ResOf.tmp rfl ResOf.nil) rfl (fun w h => ⟨(), rfl, (h.drop 2)⟩)
                · refine r_off rfl rfl rfl rfl (bne_t c45) rfl ?_
                  refine r_off rfl rfl rfl rfl (bne_t c45) rfl ?_
                  refine r_off rfl rfl rfl rfl (bne_t c45) rfl ?_
                  refine r_off rfl rfl rfl rfl (bne_t c45) rfl ?_
                  refine r_off rfl rfl rfl rfl (bne_t c45) rfl ?_
                  refine r_off rfl rfl rfl rfl (bne_t c45) rfl ?_
                  refine r_off rfl rfl rfl rfl (bne_t c45) rfl ?_
                  refine r_q (q_pick_t rfl rfl (bne_t c45) rfl) rfl rfl ?_
                  refine r_q (q_move rfl rfl) rfl rfl ?_
                  refine r_off rfl rfl rfl rfl rfl rfl ?_
                  refine r_off rfl rfl rfl rfl rfl rfl ?_
                  refine r_off rfl rfl rfl rfl rfl rfl ?_
                  refine r_off rfl rfl rfl rfl rfl rfl ?_
                  refine r_off rfl rfl rfl rfl rfl rfl ?_
                  refine r_off rfl rfl rfl rfl rfl rfl ?_
                  refine r_q (q_pick_t rfl rfl rfl rfl) rfl rfl ?_
                  refine r_nil ?_
                  refine j_then ?_
                  refine j_true rfl rfl ?_
                  refine j_seq ?_
                  refine j_region ?_
                  refine r_q (q_assign rfl rfl) rfl rfl ?_
                  refine r_nil ?_
                  refine j_then ?_
                  refine j_ret ?_
                  refine j_in_ret ?_
                  refine j_then_ret ?_
                  refine j_then_ret ?_
                  refine j_in_ret ?_
                  refine j_then_ret ?_
                  refine j_then_ret ?_
                  cases h
                  exact j_return rfl (ResOf.tmp rfl ResOf.nil) rfl (fun w h => ⟨(), rfl, (h.drop 2)⟩)
        · refine j_false rfl (decide_eq_false c38) ?_
          refine j_exit ?_
          refine j_then_exit ?_
          refine j_then_exit ?_
          refine j_in_exit ?_
          refine j_then ?_
          exact j_meet () h (fun a he => he.sub trivial) (fun w h => (h.drop 2))
    · rintro _ h
      subst hκ0
      show J _ _ [] _ (F)
      refine j_then ?_
      refine j_seq ?_
      refine j_region ?_
      refine r_q (q_assign rfl rfl) rfl rfl ?_
      refine r_nil ?_
      refine j_then ?_
      refine j_ret ?_
      cases h
      exact j_return rfl (ResOf.tmp rfl ResOf.nil) rfl (fun w h => ⟨(), rfl, h⟩)
  · refine j_true rfl (not_t (var_f c1)) ?_
    refine j_seq ?_
    refine j_region ?_
    refine r_q (q_assign rfl rfl) rfl rfl ?_
    refine r_nil ?_
    refine j_then ?_
    refine j_ret ?_
    refine j_then_ret ?_
    cases h
    exact j_return rfl (ResOf.tmp rfl ResOf.nil) rfl (fun w h => ⟨(), rfl, h.tail⟩)

theorem impl_colorsOk.calls (K : Nat) (a0 : List Int) (a0_A : Option Addr) (a0_n a0_c : Nat) (a1 : Int) {w0 w : World} {F : List Res} {r1 : Bool} (hm : Mem w0 (F) w) (a0_h : a0.length = a0_n) (a0_R : Rd w0 F a0_A (ii a0)) (h : impl_colorsOk.f K a0 a1 = some r1) :
    Calls Try.prog 59 (List.toArray [.slice a0_A a0_n a0_c, i6 a1]) w fun e w' => ∃ x : Unit, e = .returned (.bool r1) ∧ Mem w0 (F) w' := by
  unfold impl_colorsOk.f at h
  refine calls_of_J (n := 24) Try.func59 rfl rfl rfl hm ?_
  refine j_seq ?_
  refine j_region ?_
  refine r_q (q_assign rfl rfl) rfl rfl ?_
  refine r_nil ?_
  refine j_then ?_
  refine j_seq ?_
  refine j_seq ?_
  refine j_region ?_
  refine r_q (q_move rfl rfl) rfl rfl ?_
  refine r_q (q_lenX a0 a0_h un22 rfl rfl rfl rfl rfl) rfl rfl ?_
  refine r_q (q_move rfl rfl) rfl rfl ?_
  refine r_nil ?_
  refine j_then ?_
  obtain ⟨κ0, h, hκ0⟩ := ex_k (g := fun κ => impl_colorsOk.loop0 K κ a0 K (0:Int) = some r1) h
  refine j_cut (σ := Unit) (fun s => [(0, (.slice a0_A a0_n a0_c)), (1, (i6 a1))]) (fun s => F) (fun s => κ0 () = some r1) ?_ ?_
  · refine j_block ?_
    refine j_loop (σ := Int) (fun s => [(0, (.slice a0_A a0_n a0_c)), (1, (i6 a1)), (7, (.slice a0_A a0_n a0_c)), (8, (i6 (a0.length : Int))), (9, (i6 s))]) (fun s => F) (fun m s => impl_colorsOk.loop0 K κ0 a0 m s = some r1) K (0:Int) h (fun a he => he.sub ⟨rfl, rfl, rfl, rfl, rfl, trivial⟩) (fun w h => h) ?_
    rintro m p2 h
    cases m with
    | zero => exact absurd h (by rw [impl_colorsOk.loop0]; exact nofun)
    | succ m =>
      rw [impl_colorsOk.loop0] at h
      show J _ _ [(0, (.slice a0_A a0_n a0_c)), (1, (i6 a1)), (7, (.slice a0_A a0_n a0_c)), (8, (i6 (a0.length : Int))), (9, (i6 p2))] _ (F)
      refine j_seq ?_
      refine j_region ?_
      refine r_q (q_lss rfl rfl rfl) rfl rfl ?_
      refine r_nil ?_
      refine j_then ?_
      refine j_seq ?_
      rcases of_if h with ⟨c13, h⟩ | ⟨c13, h⟩
      · refine j_true rfl (decide_eq_true c13) ?_
        refine j_skip ?_
        refine j_then ?_
        refine j_seq ?_
        refine j_block ?_
        refine j_seq ?_
        refine j_region ?_
        obtain ⟨c14, h⟩ := of_guard h
        refine r_q (q_ix a0_R (ints_len1 _ a0) (by decide) a0_h c14 un22 sz3 rfl rfl rfl) rfl rfl ?_
        refine r_q (q_ldI a0_R c14 ag3 rfl rfl) rfl rfl ?_
        refine r_q (q_assign rfl rfl) rfl rfl ?_
        refine r_nil ?_
        refine j_then ?_
        refine j_seq ?_
        refine j_region ?_
        refine r_q (q_move rfl rfl) rfl rfl ?_
        refine r_q (q_lss rfl rfl rfl) rfl rfl ?_
        refine r_q (q_move rfl rfl) rfl rfl ?_
        rcases of_if h with ⟨c15, h⟩ | ⟨c15, h⟩
        · refine r_off rfl rfl rfl rfl (decide_eq_true c15) rfl ?_
          refine r_off rfl rfl rfl rfl (decide_eq_true c15) rfl ?_
          refine r_q (q_pick_t rfl rfl (decide_eq_true c15) rfl) rfl rfl ?_
          refine r_nil ?_
          refine j_then ?_
          refine j_true rfl rfl ?_
          refine j_seq ?_
          refine j_region ?_
          refine r_q (q_assign rfl rfl) rfl rfl ?_
          refine r_nil ?_
          refine j_then ?_
          refine j_ret ?_
          refine j_in_ret ?_
          refine j_then_ret ?_
          refine j_then_ret ?_
          refine j_in_ret ?_
          refine j_then_ret ?_
          refine j_then_ret ?_
          cases h
          exact j_return rfl (ResOf.tmp rfl ResOf.nil) rfl (fun w h => ⟨(), rfl, h⟩)
        · refine r_qon (q_move rfl rfl) rfl rfl rfl rfl (decide_eq_false c15) rfl ?_
          refine r_qon (q_gtr rfl rfl rfl) rfl rfl rfl rfl (decide_eq_false c15) rfl ?_
          refine r_q (q_pick_f rfl rfl (decide_eq_false c15) rfl) rfl rfl ?_
          refine r_nil ?_
          refine j_then ?_
          rcases of_if h with ⟨c16, h⟩ | ⟨c16, h⟩
          · refine j_true rfl (decide_eq_true c16) ?_
            refine j_seq ?_
            refine j_region ?_
            refine r_q (q_assign rfl rfl) rfl rfl ?_
            refine r_nil ?_
            refine j_then ?_
            refine j_ret ?_
            refine j_in_ret ?_
            refine j_then_ret ?_
            refine j_then_ret ?_
            refine j_in_ret ?_
            refine j_then_ret ?_
            refine j_then_ret ?_
            cases h
            exact j_return rfl (ResOf.tmp rfl ResOf.nil) rfl (fun w h => ⟨(), rfl, h⟩)
          · refine j_false rfl (decide_eq_false c16) ?_
            refine j_skip ?_
            refine j_in ?_
            refine j_then ?_
            refine j_region ?_
            refine r_q (q_add rfl rfl rfl) rfl rfl ?_
            refine r_q (q_move rfl rfl) rfl rfl ?_
            refine r_nil ?_
            refine j_then ?_
            exact j_again m (wrap64 (p2 + (1:Int))) (Nat.lt_succ_self m) h (fun a he => he.sub ⟨rfl, rfl, rfl, rfl, rfl, trivial⟩) (fun w h => h)
      · refine j_false rfl (decide_eq_false c13) ?_
        refine j_exit ?_
        refine j_then_exit ?_
        refine j_then_exit ?_
        refine j_in_exit ?_
        refine j_then ?_
        exact j_meet () h (fun a he => he.sub ⟨rfl, rfl, trivial⟩) (fun w h => h)
  · rintro _ h
    subst hκ0
    show J _ _ [(0, (.slice a0_A a0_n a0_c)), (1, (i6 a1))] _ (F)
    refine j_then ?_
    refine j_seq ?_
    refine j_region ?_
    refine r_q (q_move rfl rfl) rfl rfl ?_
    refine r_q (q_lenX a0 a0_h un22 rfl rfl rfl rfl rfl) rfl rfl ?_
    refine r_q (q_move rfl rfl) rfl rfl ?_
    refine r_q (q_eql rfl rfl rfl) rfl rfl ?_
    refine r_q (q_assign rfl rfl) rfl rfl ?_
    refine r_nil ?_
    refine j_then ?_
    refine j_ret ?_
    cases h
    exact j_return rfl (ResOf.tmp rfl ResOf.nil) rfl (fun w h => ⟨(), rfl, h⟩)

theorem impl_GcValid.calls (K : Nat) (a0_0 : List Int) (a0_0_A : Option Addr) (a0_0_n a0_0_c : Nat) (a0_1 : List Int) (a0_1_A : Option Addr) (a0_1_n a0_1_c : Nat) (a0_2 : List Int) (a0_2_A : Option Addr) (a0_2_n a0_2_c : Nat) (a0_3 : List Int) (a0_3_A : Option Addr) (a0_3_n a0_3_c : Nat) (a1_0 : Int) (a1_1 : List Int) (a1_1_A : Option Addr) (a1_1_n a1_1_c : Nat) (a1_2 : Int) {w0 w : World} {F : List Res} {r1 : Bool} (hm : Mem w0 (F) w) (a0_0_h : a0_0.length = a0_0_n) (a0_0_R : Rd w0 F a0_0_A (ii a0_0)) (a0_1_h : a0_1.length = a0_1_n) (a0_1_R : Rd w0 F a0_1_A (ii a0_1)) (a0_2_h : a0_2.length = a0_2_n) (a0_2_R : Rd w0 F a0_2_A (ii a0_2)) (a0_3_h : a0_3.length = a0_3_n) (a0_3_R : Rd w0 F a0_3_A (ii a0_3)) (a0_3_k : a0_3.length ≤ a0_3_c) (a1_1_h : a1_1.length = a1_1_n) (a1_1_R : Rd w0 F a1_1_A (ii a1_1)) (h : impl_GcValid.f K a0_0 a0_1 a0_2 a0_3 a1_0 a1_1 a1_2 = some r1) :
    Calls Try.prog 25 (List.toArray [.agg (List.toArray [.slice a0_0_A a0_0_n a0_0_c, .slice a0_1_A a0_1_n a0_1_c, .slice a0_2_A a0_2_n a0_2_c, .slice a0_3_A a0_3_n a0_3_c]), .agg (List.toArray [i6 a1_0, .slice a1_1_A a1_1_n a1_1_c, i6 a1_2])]) w fun e w' => ∃ x : Unit, e = .returned (.bool r1) ∧ Mem w0 (F) w' := by
  unfold impl_GcValid.f at h
  refine calls_of_J (n := 49) Try.func25 rfl rfl rfl hm ?_
  refine j_seq ?_
  refine j_region ?_
  refine r_do (a_box rfl rfl) rfl rfl (fun x1 => ?_)
  refine r_do (a_box rfl rfl) rfl rfl (fun x2 => ?_)
  refine r_q (q_assign rfl rfl) rfl rfl ?_
  refine r_nil ?_
  refine j_then ?_
  refine j_seq ?_
  refine j_seq ?_
  refine j_region ?_
  refine r_q (q_loadb_agg 1 rfl ag36 sz36 rfl rfl rfl rfl) rfl rfl ?_
  obtain ⟨v1, hb1, h⟩ := of_b1 h
  refine r_do (a_call ok58 rfl rfl rfl rfl (fun w hm => impl_StoreValid.calls K a0_0 a0_0_A a0_0_n a0_0_c a0_1 a0_1_A a0_1_n a0_1_c a0_2 a0_2_A a0_2_n a0_2_c a0_3 a0_3_A a0_3_n a0_3_c hm a0_0_h (Rd.drop 2 a0_0_R) a0_1_h (Rd.drop 2 a0_1_R) a0_2_h (Rd.drop 2 a0_2_R) a0_3_h (Rd.drop 2 a0_3_R) a0_3_k hb1)) rfl rfl (fun x3 => ?_)
  refine r_q (q_not rfl rfl) rfl rfl ?_
  refine r_q (q_move rfl rfl) rfl rfl ?_
  rcases of_if h with ⟨c1, h⟩ | ⟨c1, h⟩
  · refine r_qon (q_fieldAddr fi37_1 sz22 rfl rfl rfl) rfl rfl rfl rfl (not_f c1) rfl ?_
    refine r_qon (q_loadb 0 rfl ag22 rfl rfl rfl) rfl rfl rfl rfl (not_f c1) rfl ?_
    refine r_qon (q_fieldAddr fi36_0 sz34 rfl rfl rfl) rfl rfl rfl rfl (not_f c1) rfl ?_
    refine r_qon (q_fieldAddr fi34_0 sz22 rfl rfl rfl) rfl rfl rfl rfl (not_f c1) rfl ?_
    refine r_qon (q_loadb 1 rfl ag22 rfl rfl rfl) rfl rfl rfl rfl (not_f c1) rfl ?_
    refine r_qon (q_lenX a0_0 a0_0_h un22 rfl rfl rfl rfl rfl) rfl rfl rfl rfl (not_f c1) rfl ?_
    obtain ⟨v2, hb2, h⟩ := of_b1 h
    refine r_on (a_call ok59 rfl rfl rfl rfl (fun w hm => impl_colorsOk.calls K a1_1 a1_1_A a1_1_n a1_1_c (a0_0.length : Int) hm a1_1_h (Rd.drop 2 a1_1_R) hb2)) rfl rfl rfl rfl (not_f c1) rfl (fun x4 => ?_)
    refine r_qon (q_not rfl rfl) rfl rfl rfl rfl (not_f c1) rfl ?_
    refine r_q (q_pick_f rfl rfl (not_f c1) rfl) rfl rfl ?_
    refine r_q (q_move rfl rfl) rfl rfl ?_
    rcases of_if h with ⟨c2, h⟩ | ⟨c2, h⟩
    · refine r_qon (q_fieldAddr fi37_2 sz3 rfl rfl rfl) rfl rfl rfl rfl (not_f c2) rfl ?_
      refine r_qon (q_loadb 0 rfl ag3 rfl rfl rfl) rfl rfl rfl rfl (not_f c2) rfl ?_
      refine r_qon (q_lss rfl rfl rfl) rfl rfl rfl rfl (not_f c2) rfl ?_
      refine r_q (q_pick_f rfl rfl (not_f c2) rfl) rfl rfl ?_
      refine r_nil ?_
      refine j_then ?_
      rcases of_if h with ⟨c3, h⟩ | ⟨c3, h⟩
      · refine j_true rfl (decide_eq_true c3) ?_
        refine j_seq ?_
        refine j_region ?_
        refine r_q (q_assign rfl rfl) rfl rfl ?_
        refine r_nil ?_
        refine j_then ?_
        refine j_ret ?_
        refine j_then_ret ?_
        cases h
        exact j_return rfl (ResOf.tmp rfl ResOf.nil) rfl (fun w h => ⟨(), rfl, (h.drop 2)⟩)
      · refine j_false rfl (decide_eq_false c3) ?_
        refine j_skip ?_
        refine j_then ?_
        refine j_seq ?_
        refine j_seq ?_
        refine j_region ?_
        refine r_q (q_fieldAddr fi37_0 sz3 rfl rfl rfl) rfl rfl ?_
        refine r_q (q_loadb 0 rfl ag3 rfl rfl rfl) rfl rfl ?_
        refine r_nil ?_
        refine j_then ?_
        refine j_block ?_
        refine j_seq ?_
        refine j_seq ?_
        refine j_region ?_
        refine r_q (q_eql rfl rfl rfl) rfl rfl ?_
        refine r_q (q_assign rfl rfl) rfl rfl ?_
        refine r_nil ?_
        refine j_then ?_
        rcases of_if h with ⟨c4, h⟩ | ⟨c4, h⟩
        · refine j_true rfl (beq_t c4) ?_
          refine j_skip ?_
          refine j_then ?_
          refine j_true rfl (beq_t c4) ?_
          refine j_seq ?_
          refine j_region ?_
          refine r_q (q_fieldAddr fi37_2 sz3 rfl rfl rfl) rfl rfl ?_
          refine r_q (q_loadb 0 rfl ag3 rfl rfl rfl) rfl rfl ?_
          refine r_q (q_eql rfl rfl rfl) rfl rfl ?_
          refine r_q (q_assign rfl rfl) rfl rfl ?_
          refine r_nil ?_
          refine j_then ?_
          refine j_ret ?_
          refine j_in_ret ?_
          refine j_then_ret ?_
          cases h
          exact j_return rfl (ResOf.tmp rfl ResOf.nil) rfl (fun w h => ⟨(), rfl, (h.drop 2)⟩)
        · refine j_false rfl (beq_f c4) ?_
          refine j_region ?_
          refine r_q (q_eql rfl rfl rfl) rfl rfl ?_
          refine r_q (q_assign rfl rfl) rfl rfl ?_
          refine r_nil ?_
          refine j_then ?_
          rcases of_if h with ⟨c5, h⟩ | ⟨c5, h⟩
          · refine j_true rfl (beq_t c5) ?_
            refine j_seq ?_
            refine j_region ?_
            refine r_q (q_fieldAddr fi37_2 sz3 rfl rfl rfl) rfl rfl ?_
            refine r_q (q_loadb 0 rfl ag3 rfl rfl rfl) rfl rfl ?_
            refine r_q (q_eql rfl rfl rfl) rfl rfl ?_
            refine r_q (q_assign rfl rfl) rfl rfl ?_
            refine r_nil ?_
            refine j_then ?_
            refine j_ret ?_
            refine j_in_ret ?_
            refine j_then_ret ?_
            cases h
            exact j_return rfl (ResOf.tmp rfl ResOf.nil) rfl (fun w h => ⟨(), rfl, (h.drop 2)⟩)
          · refine j_false rfl (beq_f c5) ?_
            refine j_seq ?_
            refine j_region ?_
            refine r_q (q_eql rfl rfl rfl) rfl rfl ?_
            refine r_q (q_assign rfl rfl) rfl rfl ?_
            refine r_nil ?_
            refine j_then ?_
            rcases of_if h with ⟨c6, h⟩ | ⟨c6, h⟩
            · refine j_true rfl (beq_t c6) ?_
              refine j_seq ?_
              refine j_region ?_
              refine r_q (q_fieldAddr fi37_2 sz3 rfl rfl rfl) rfl rfl ?_
              refine r_q (q_loadb 0 rfl ag3 rfl rfl rfl) rfl rfl ?_
              refine r_q (q_fieldAddr fi36_0 sz34 rfl rfl rfl) rfl rfl ?_
              refine r_q (q_fieldAddr fi34_2 sz22 rfl rfl rfl) rfl rfl ?_
              refine r_q (q_loadb 1 rfl ag22 rfl rfl rfl) rfl rfl ?_
              refine r_q (q_lenX a0_2 a0_2_h un22 rfl rfl rfl rfl rfl) rfl rfl ?_
              refine r_q (q_lss rfl rfl rfl) rfl rfl ?_
              refine r_q (q_assign rfl rfl) rfl rfl ?_
              refine r_nil ?_
              refine j_then ?_
              refine j_ret ?_
              refine j_in_ret ?_
              refine j_then_ret ?_
              cases h
              exact j_return rfl (ResOf.tmp rfl ResOf.nil) rfl (fun w h => ⟨(), rfl, (h.drop 2)⟩)
            · refine j_false rfl (beq_f c6) ?_
              refine j_seq ?_
              refine j_region ?_
              refine r_q (q_eql rfl rfl rfl) rfl rfl ?_
              refine r_q (q_assign rfl rfl) rfl rfl ?_
              refine r_nil ?_
              refine j_then ?_
              rcases of_if h with ⟨c7, h⟩ | ⟨c7, h⟩
              · refine j_true rfl (beq_t c7) ?_
                refine j_seq ?_
                refine j_region ?_
                refine r_q (q_fieldAddr fi37_2 sz3 rfl rfl rfl) rfl rfl ?_
                refine r_q (q_loadb 0 rfl ag3 rfl rfl rfl) rfl rfl ?_
                refine r_q (q_fieldAddr fi36_0 sz34 rfl rfl rfl) rfl rfl ?_
                refine r_q (q_fieldAddr fi34_0 sz22 rfl rfl rfl) rfl rfl ?_
                refine r_q (q_loadb 1 rfl ag22 rfl rfl rfl) rfl rfl ?_
                refine r_q (q_lenX a0_0 a0_0_h un22 rfl rfl rfl rfl rfl) rfl rfl ?_
                refine r_q (q_lss rfl rfl rfl) rfl rfl ?_
                refine r_q (q_assign rfl rfl) rfl rfl ?_
                refine r_nil ?_
                refine j_then ?_
                refine j_ret ?_
                refine j_in_ret ?_
                refine j_then_ret ?_
                cases h
                exact j_return rfl (ResOf.tmp rfl ResOf.nil) rfl (fun w h => ⟨(), rfl, (h.drop 2)⟩)
              · refine j_false rfl (beq_f c7) ?_
                refine j_skip ?_
                refine j_in ?_
                refine j_then ?_
                refine j_seq ?_
                refine j_region ?_
                refine r_q (q_assign rfl rfl) rfl rfl ?_
                refine r_nil ?_
                refine j_then ?_
                refine j_ret ?_
                cases h
                exact j_return rfl (ResOf.tmp rfl ResOf.nil) rfl (fun w h => ⟨(), rfl, (h.drop 2)⟩)
    · refine r_off rfl rfl rfl rfl (not_t (var_f c2)) rfl ?_
      refine r_off rfl rfl rfl rfl (not_t (var_f c2)) rfl ?_
      refine r_off rfl rfl rfl rfl (not_t (var_f c2)) rfl ?_
      refine r_q (q_pick_t rfl rfl (not_t (var_f c2)) rfl) rfl rfl ?_
      refine r_nil ?_
      refine j_then ?_
      refine j_true rfl rfl ?_
      refine j_seq ?_
      refine j_region ?_
      refine r_q (q_assign rfl rfl) rfl rfl ?_
      refine r_nil ?_
      refine j_then ?_
      refine j_ret ?_
      refine j_then_ret ?_
      cases h
      exact j_return rfl (ResOf.tmp rfl ResOf.nil) rfl (fun w h => ⟨(), rfl, (h.drop 2)⟩)
  · refine r_off rfl rfl rfl rfl (not_t (var_f c1)) rfl ?_
    refine r_off rfl rfl rfl rfl (not_t (var_f c1)) rfl ?_
    refine r_off rfl rfl rfl rfl (not_t (var_f c1)) rfl ?_
    refine r_off rfl rfl rfl rfl (not_t (var_f c1)) rfl ?_
    refine r_off rfl rfl rfl rfl (not_t (var_f c1)) rfl ?_
    refine r_off rfl rfl rfl rfl (not_t (var_f c1)) rfl ?_
    refine r_off rfl rfl rfl rfl (not_t (var_f c1)) rfl ?_
    refine r_off rfl rfl rfl rfl (not_t (var_f c1)) rfl ?_
    refine r_q (q_pick_t rfl rfl (not_t (var_f c1)) rfl) rfl rfl ?_
    refine r_q (q_move rfl rfl) rfl rfl ?_
    refine r_off rfl rfl rfl rfl rfl rfl ?_
    refine r_off rfl rfl rfl rfl rfl rfl ?_
    refine r_off rfl rfl rfl rfl rfl rfl ?_
    refine r_q (q_pick_t rfl rfl rfl rfl) rfl rfl ?_
    refine r_nil ?_
    refine j_then ?_
    refine j_true rfl rfl ?_
    refine j_seq ?_
    refine j_region ?_
    refine r_q (q_assign rfl rfl) rfl rfl ?_
    refine r_nil ?_
    refine j_then ?_
    refine j_ret ?_
    refine j_then_ret ?_
    cases h
    exact j_return rfl (ResOf.tmp rfl ResOf.nil) rfl (fun w h => ⟨(), rfl, (h.drop 2)⟩)

end Go.Proofs.Ytpfkcjddilpbkaa.F
