/- The program computes these pure functions, printed by the generator of wip/gen. -/
import Derived.Test.YtcdcikmphonkfaaFa
import Derived.Test.YtcdcikmphonkfaaFi
import Derived.Test.YtcdcikmphonkfaaFb
import Derived.Test.YtcdcikmphonkfaaC0
import Derived.Test.YtcdcikmphonkfaaC2
import Derived.Test.YtcdcikmphonkfaaC6
namespace Go.Proofs.Ytcdcikmphonkfaa.F
open Go Go.RowKit Go.Proofs.Ytcdcikmphonkfaa.S
set_option linter.unusedVariables false
set_option maxRecDepth 100000
theorem impl_ColorHolds_1.calls (K : Nat) (a0 : Int) (a1_g : Nat) (a1_0_A : Option Addr) (a1_0_n a1_0_c : Nat) (a1_1_A : Option Addr) (a1_1_n a1_1_c : Nat) (a1_2_A : Option Addr) (a1_2_n a1_2_c : Nat) (a1_3 : List Int) (a1_3_A : Option Addr) (a1_3_n a1_3_c : Nat) {w0 w : World} {F : List Res} {r1 : Bool} (hm : Mem w0 (.box a1_g 27 [.slice a1_0_A a1_0_n a1_0_c, .slice a1_1_A a1_1_n a1_1_c, .slice a1_2_A a1_2_n a1_2_c, .slice a1_3_A a1_3_n a1_3_c] :: F) w) (a1_3_h : a1_3.length = a1_3_n) (a1_3_R : Rd w0 F a1_3_A (ii a1_3)) (h : impl_ColorHolds_1.f K a0 a1_3 = some r1) :
    Calls Try.prog 80 (List.toArray [i6 a0, pt a1_g]) w fun e w' => ∃ x : Unit, e = .returned (.bool r1) ∧ Mem w0 (.box a1_g 27 [.slice a1_0_A a1_0_n a1_0_c, .slice a1_1_A a1_1_n a1_1_c, .slice a1_2_A a1_2_n a1_2_c, .slice a1_3_A a1_3_n a1_3_c] :: F) w' := by
  unfold impl_ColorHolds_1.f at h
  refine calls_of_J (n := 14) Try.func80 rfl rfl rfl hm ?_
  refine j_seq ?_
  refine j_region ?_
  refine r_q (q_assign rfl rfl) rfl rfl ?_
  refine r_nil ?_
  refine j_then ?_
  refine j_seq ?_
  refine j_region ?_
  refine r_q (q_move rfl rfl) rfl rfl ?_
  refine r_q (q_neq rfl rfl rfl) rfl rfl ?_
  refine r_q (q_move rfl rfl) rfl rfl ?_
  rcases of_if h with ⟨c1, h⟩ | ⟨c1, h⟩
  · refine r_off rfl rfl rfl rfl (bne_f c1) rfl ?_
    refine r_off rfl rfl rfl rfl (bne_f c1) rfl ?_
    refine r_off rfl rfl rfl rfl (bne_f c1) rfl ?_
    refine r_off rfl rfl rfl rfl (bne_f c1) rfl ?_
    refine r_off rfl rfl rfl rfl (bne_f c1) rfl ?_
    refine r_off rfl rfl rfl rfl (bne_f c1) rfl ?_
    refine r_q (q_pick_f rfl rfl (bne_f c1) rfl) rfl rfl ?_
    refine r_q (q_assign rfl rfl) rfl rfl ?_
    refine r_nil ?_
    refine j_then ?_
    refine j_ret ?_
    cases h
    exact j_return rfl (ResOf.tmp rfl ResOf.nil) rfl (fun w h => ⟨(), rfl, h⟩)
  · refine r_qon (q_fieldAddr fi27_1 sz23 rfl rfl rfl) rfl rfl rfl rfl (bne_t c1) rfl ?_
    refine r_qon (q_loadb 0 rfl ag23 rfl rfl rfl) rfl rfl rfl rfl (bne_t c1) rfl ?_
    refine r_qon (q_move rfl rfl) rfl rfl rfl rfl (bne_t c1) rfl ?_
    obtain ⟨c2, h⟩ := of_guard h
    refine r_qon (q_ix (Rd.drop 1 a1_3_R) (ints_len1 _ a1_3) (by decide) a1_3_h c2 un23 sz3 rfl rfl rfl) rfl rfl rfl rfl (bne_t c1) rfl ?_
    refine r_qon (q_ldI (Rd.drop 1 a1_3_R) c2 ag3 rfl rfl) rfl rfl rfl rfl (bne_t c1) rfl ?_
    refine r_qon (q_eql rfl rfl rfl) rfl rfl rfl rfl (bne_t c1) rfl ?_
    refine r_q (q_pick_t rfl rfl (bne_t c1) rfl) rfl rfl ?_
    refine r_q (q_assign rfl rfl) rfl rfl ?_
    refine r_nil ?_
    refine j_then ?_
    refine j_ret ?_
    cases h
    exact j_return rfl (ResOf.tmp rfl ResOf.nil) rfl (fun w h => ⟨(), rfl, h⟩)

theorem impl_ColorHolds.calls (K : Nat) (a0_0 : List Int) (a0_0_A : Option Addr) (a0_0_n a0_0_c : Nat) (a0_1 : List Int) (a0_1_A : Option Addr) (a0_1_n a0_1_c : Nat) (a0_2 : List Int) (a0_2_A : Option Addr) (a0_2_n a0_2_c : Nat) (a0_3 : List Int) (a0_3_A : Option Addr) (a0_3_n a0_3_c : Nat) {w0 w : World} {F : List Res} {r1 : Bool} (hm : Mem w0 (F) w) (a0_0_h : a0_0.length = a0_0_n) (a0_0_R : Rd w0 F a0_0_A (ii a0_0)) (a0_1_h : a0_1.length = a0_1_n) (a0_1_R : Rd w0 F a0_1_A (ii a0_1)) (a0_2_h : a0_2.length = a0_2_n) (a0_2_R : Rd w0 F a0_2_A (ii a0_2)) (a0_3_h : a0_3.length = a0_3_n) (a0_3_R : Rd w0 F a0_3_A (ii a0_3)) (h : impl_ColorHolds.f K a0_0 a0_1 a0_2 a0_3 = some r1) :
    Calls Try.prog 31 (List.toArray [.agg (List.toArray [.slice a0_0_A a0_0_n a0_0_c, .slice a0_1_A a0_1_n a0_1_c, .slice a0_2_A a0_2_n a0_2_c, .slice a0_3_A a0_3_n a0_3_c])]) w fun e w' => ∃ x : Unit, e = .returned (.bool r1) ∧ Mem w0 (F) w' := by
  unfold impl_ColorHolds.f at h
  refine calls_of_J (n := 41) Try.func31 rfl rfl rfl hm ?_
  refine j_seq ?_
  refine j_region ?_
  refine r_do (a_box rfl rfl) rfl rfl (fun x1 => ?_)
  refine r_q (q_assign rfl rfl) rfl rfl ?_
  refine r_nil ?_
  refine j_then ?_
  refine j_seq ?_
  refine j_seq ?_
  refine j_region ?_
  refine r_q (q_loadb_agg 0 rfl ag27 sz27 rfl rfl rfl rfl) rfl rfl ?_
  obtain ⟨v1, hb1, h⟩ := of_b1 h
  refine r_do (a_call ok30 rfl rfl rfl rfl (fun w hm => impl_ColoredValid.calls K a0_0 a0_0_A a0_0_n a0_0_c a0_1 a0_1_A a0_1_n a0_1_c a0_2 a0_2_A a0_2_n a0_2_c a0_3 a0_3_A a0_3_n a0_3_c hm a0_0_h (Rd.drop 1 a0_0_R) a0_1_h (Rd.drop 1 a0_1_R) a0_2_h (Rd.drop 1 a0_2_R) a0_3_h (Rd.drop 1 a0_3_R) hb1)) rfl rfl (fun x2 => ?_)
  refine r_q (q_not rfl rfl) rfl rfl ?_
  refine r_nil ?_
  refine j_then ?_
  rcases of_if h with ⟨c1, h⟩ | ⟨c1, h⟩
  · refine j_false rfl (not_f c1) ?_
    refine j_skip ?_
    refine j_then ?_
    refine j_seq ?_
    refine j_region ?_
    refine r_q (q_makeFunc rfl rfl rfl rfl) rfl rfl ?_
    refine r_q (q_assign rfl rfl) rfl rfl ?_
    refine r_nil ?_
    refine j_then ?_
    refine j_seq ?_
    refine j_seq ?_
    refine j_region ?_
    refine r_q (q_fieldAddr fi27_1 sz23 rfl rfl rfl) rfl rfl ?_
    refine r_q (q_loadb 0 rfl ag23 rfl rfl rfl) rfl rfl ?_
    refine r_q (q_lenX a0_3 a0_3_h un23 rfl rfl rfl rfl rfl) rfl rfl ?_
    refine r_q (q_move rfl rfl) rfl rfl ?_
    refine r_nil ?_
    refine j_then ?_
    obtain ⟨κ0, h, hκ0⟩ := ex_k (g := fun κ => impl_ColorHolds.loop0 K κ a0_0 a0_1 a0_3 K (0:Int) = some r1) h
    refine j_cut (σ := Unit) (fun s => []) (fun s => F) (fun s => κ0 () = some r1) ?_ ?_
    · refine j_block ?_
      refine j_loop (σ := Int) (fun s => [(1, (pt x1)), (3, (fv 80 [(pt x1)])), (11, (.slice a0_3_A a0_3_n a0_3_c)), (12, (i6 (a0_3.length : Int))), (13, (i6 s))]) (fun s => .box x1 27 [(.slice a0_0_A a0_0_n a0_0_c), (.slice a0_1_A a0_1_n a0_1_c), (.slice a0_2_A a0_2_n a0_2_c), (.slice a0_3_A a0_3_n a0_3_c)] :: F) (fun m s => impl_ColorHolds.loop0 K κ0 a0_0 a0_1 a0_3 m s = some r1) K (0:Int) h (fun a he => he.sub ⟨rfl, rfl, rfl, rfl, rfl, trivial⟩) (fun w h => h) ?_
      rintro m p2 h
      cases m with
      | zero => exact absurd h (by rw [impl_ColorHolds.loop0]; exact nofun)
      | succ m =>
        rw [impl_ColorHolds.loop0] at h
        show J _ _ [(1, (pt x1)), (3, (fv 80 [(pt x1)])), (11, (.slice a0_3_A a0_3_n a0_3_c)), (12, (i6 (a0_3.length : Int))), (13, (i6 p2))] _ (.box x1 27 [(.slice a0_0_A a0_0_n a0_0_c), (.slice a0_1_A a0_1_n a0_1_c), (.slice a0_2_A a0_2_n a0_2_c), (.slice a0_3_A a0_3_n a0_3_c)] :: F)
        refine j_seq ?_
        refine j_region ?_
        refine r_q (q_lss rfl rfl rfl) rfl rfl ?_
        refine r_nil ?_
        refine j_then ?_
        refine j_seq ?_
        rcases of_if h with ⟨c23, h⟩ | ⟨c23, h⟩
        · refine j_true rfl (decide_eq_true c23) ?_
          refine j_skip ?_
          refine j_then ?_
          refine j_seq ?_
          refine j_block ?_
          refine j_seq ?_
          refine j_region ?_
          refine r_q (q_move rfl rfl) rfl rfl ?_
          obtain ⟨c24, h⟩ := of_guard h
          refine r_q (q_ix (Rd.drop 1 a0_3_R) (ints_len1 _ a0_3) (by decide) a0_3_h c24 un23 sz3 rfl rfl rfl) rfl rfl ?_
          refine r_q (q_ldI (Rd.drop 1 a0_3_R) c24 ag3 rfl rfl) rfl rfl ?_
          refine r_q (q_assign rfl rfl) rfl rfl ?_
          refine r_q (q_assign rfl rfl) rfl rfl ?_
          refine r_nil ?_
          refine j_then ?_
          refine j_seq ?_
          refine j_region ?_
          refine r_q (q_move rfl rfl) rfl rfl ?_
          refine r_q (q_eql rfl rfl rfl) rfl rfl ?_
          refine r_q (q_move rfl rfl) rfl rfl ?_
          rcases of_if h with ⟨c25, h⟩ | ⟨c25, h⟩
          · refine r_qon (q_move rfl rfl) rfl rfl rfl rfl (beq_t c25) rfl ?_
            refine r_qon (q_fieldAddr fi27_0 sz25 rfl rfl rfl) rfl rfl rfl rfl (beq_t c25) rfl ?_
            refine r_qon (q_fieldAddr fi25_0 sz23 rfl rfl rfl) rfl rfl rfl rfl (beq_t c25) rfl ?_
            refine r_qon (q_loadb 0 rfl ag23 rfl rfl rfl) rfl rfl rfl rfl (beq_t c25) rfl ?_
            refine r_qon (q_move rfl rfl) rfl rfl rfl rfl (beq_t c25) rfl ?_
            obtain ⟨c26, h⟩ := of_guard h
            refine r_qon (q_ix (Rd.drop 1 a0_0_R) (ints_len1 _ a0_0) (by decide) a0_0_h c26 un23 sz3 rfl rfl rfl) rfl rfl rfl rfl (beq_t c25) rfl ?_
            refine r_qon (q_ldI (Rd.drop 1 a0_0_R) c26 ag3 rfl rfl) rfl rfl rfl rfl (beq_t c25) rfl ?_
            obtain ⟨v8, hb8, h⟩ := of_b1 h
            refine r_on (a_callC ok80 rfl rfl rfl rfl rfl (fun w hm => impl_ColorHolds_1.calls K (rd a0_0 p2) x1 a0_0_A a0_0_n a0_0_c a0_1_A a0_1_n a0_1_c a0_2_A a0_2_n a0_2_c a0_3 a0_3_A a0_3_n a0_3_c hm a0_3_h a0_3_R hb8)) rfl rfl rfl rfl (beq_t c25) rfl (fun x3 => ?_)
            refine r_qon (q_move rfl rfl) rfl rfl rfl rfl (beq_t c25) rfl ?_
            rcases of_if h with ⟨c27, h⟩ | ⟨c27, h⟩
            · refine r_off rfl rfl rfl rfl c27 rfl ?_
              refine r_off rfl rfl rfl rfl c27 rfl ?_
              refine r_off rfl rfl rfl rfl c27 rfl ?_
              refine r_off rfl rfl rfl rfl c27 rfl ?_
              refine r_off rfl rfl rfl rfl c27 rfl ?_
              refine r_off rfl rfl rfl rfl c27 rfl ?_
              refine r_off rfl rfl rfl rfl c27 rfl ?_
              refine r_off rfl rfl rfl rfl c27 rfl ?_
              refine r_qon (q_pick_t rfl rfl c27 rfl) rfl rfl rfl rfl (beq_t c25) rfl ?_
              refine r_q (q_pick_t rfl rfl (beq_t c25) rfl) rfl rfl ?_
              refine r_nil ?_
              refine j_then ?_
              refine j_true rfl rfl ?_
              refine j_seq ?_
              refine j_region ?_
              refine r_q (q_assign rfl rfl) rfl rfl ?_
              refine r_nil ?_
              refine j_then ?_
              refine j_ret ?_
              refine j_in_ret ?_
              refine j_then_ret ?_
              refine j_then_ret ?_
              refine j_in_ret ?_
              refine j_then_ret ?_
              refine j_then_ret ?_
              cases h
              exact j_return rfl (ResOf.tmp rfl ResOf.nil) rfl (fun w h => ⟨(), rfl, h.tail⟩)
            · refine r_qon (q_move rfl rfl) rfl rfl rfl rfl (var_f c27) rfl ?_
              refine r_qon (q_fieldAddr fi27_0 sz25 rfl rfl rfl) rfl rfl rfl rfl (var_f c27) rfl ?_
              refine r_qon (q_fieldAddr fi25_1 sz23 rfl rfl rfl) rfl rfl rfl rfl (var_f c27) rfl ?_
              refine r_qon (q_loadb 0 rfl ag23 rfl rfl rfl) rfl rfl rfl rfl (var_f c27) rfl ?_
              refine r_qon (q_move rfl rfl) rfl rfl rfl rfl (var_f c27) rfl ?_
              obtain ⟨c28, h⟩ := of_guard h
              refine r_qon (q_ix (Rd.drop 1 a0_1_R) (ints_len1 _ a0_1) (by decide) a0_1_h c28 un23 sz3 rfl rfl rfl) rfl rfl rfl rfl (var_f c27) rfl ?_
              refine r_qon (q_ldI (Rd.drop 1 a0_1_R) c28 ag3 rfl rfl) rfl rfl rfl rfl (var_f c27) rfl ?_
              obtain ⟨v9, hb9, h⟩ := of_b1 h
              refine r_on (a_callC ok80 rfl rfl rfl rfl rfl (fun w hm => impl_ColorHolds_1.calls K (rd a0_1 p2) x1 a0_0_A a0_0_n a0_0_c a0_1_A a0_1_n a0_1_c a0_2_A a0_2_n a0_2_c a0_3 a0_3_A a0_3_n a0_3_c hm a0_3_h a0_3_R hb9)) rfl rfl rfl rfl (var_f c27) rfl (fun x4 => ?_)
              refine r_qon (q_pick_f rfl rfl (var_f c27) rfl) rfl rfl rfl rfl (beq_t c25) rfl ?_
              refine r_q (q_pick_t rfl rfl (beq_t c25) rfl) rfl rfl ?_
              refine r_nil ?_
              refine j_then ?_
              rcases of_if h with ⟨c29, h⟩ | ⟨c29, h⟩
              · refine j_true rfl c29 ?_
                refine j_seq ?_
                refine j_region ?_
                refine r_q (q_assign rfl rfl) rfl rfl ?_
                refine r_nil ?_
                refine j_then ?_
                refine j_ret ?_
                refine j_in_ret ?_
                refine j_then_ret ?_
                refine j_then_ret ?_
                refine j_in_ret ?_
                refine j_then_ret ?_
                refine j_then_ret ?_
                cases h
                exact j_return rfl (ResOf.tmp rfl ResOf.nil) rfl (fun w h => ⟨(), rfl, h.tail⟩)
              · refine j_false rfl (var_f c29) ?_
                refine j_skip ?_
                refine j_in ?_
                refine j_then ?_
                refine j_region ?_
                refine r_q (q_add rfl rfl rfl) rfl rfl ?_
                refine r_q (q_move rfl rfl) rfl rfl ?_
                refine r_nil ?_
                refine j_then ?_
                exact j_again m (wrap64 (p2 + (1:Int))) (Nat.lt_succ_self m) h (fun a he => he.sub ⟨rfl, rfl, rfl, rfl, rfl, trivial⟩) (fun w h => h)
          · refine r_off rfl rfl rfl rfl (beq_f c25) rfl ?_
            refine r_off rfl rfl rfl rfl (beq_f c25) rfl ?_
            refine r_off rfl rfl rfl rfl (beq_f c25) rfl ?_
            refine r_off rfl rfl rfl rfl (beq_f c25) rfl ?_
            refine r_off rfl rfl rfl rfl (beq_f c25) rfl ?_
            refine r_off rfl rfl rfl rfl (beq_f c25) rfl ?_
            refine r_off rfl rfl rfl rfl (beq_f c25) rfl ?_
            refine r_off rfl rfl rfl rfl (beq_f c25) rfl ?_
            refine r_off rfl rfl rfl rfl (beq_f c25) rfl ?_
            refine r_offu rfl rfl rfl rfl rfl ?_
            refine r_offu rfl rfl rfl rfl rfl ?_
            refine r_offu rfl rfl rfl rfl rfl ?_
            refine r_offu rfl rfl rfl rfl rfl ?_
            refine r_offu rfl rfl rfl rfl rfl ?_
            refine r_offu rfl rfl rfl rfl rfl ?_
            refine r_offu rfl rfl rfl rfl rfl ?_
            refine r_offu rfl rfl rfl rfl rfl ?_
            refine r_off rfl rfl rfl rfl (beq_f c25) rfl ?_
            refine r_q (q_pick_f rfl rfl (beq_f c25) rfl) rfl rfl ?_
            refine r_nil ?_
            refine j_then ?_
            refine j_false rfl rfl ?_
            refine j_skip ?_
            refine j_in ?_
            refine j_then ?_
            refine j_region ?_
            refine r_q (q_add rfl rfl rfl) rfl rfl ?_
            refine r_q (q_move rfl rfl) rfl rfl ?_
            refine r_nil ?_
            refine j_then ?_
            exact j_again m (wrap64 (p2 + (1:Int))) (Nat.lt_succ_self m) h (fun a he => he.sub ⟨rfl, rfl, rfl, rfl, rfl, trivial⟩) (fun w h => h)
        · refine j_false rfl (decide_eq_false c23) ?_
          refine j_exit ?_
          refine j_then_exit ?_
          refine j_then_exit ?_
          refine j_in_exit ?_
          refine j_then ?_
          exact j_meet () h (fun a he => he.sub trivial) (fun w h => h.tail)
    · rintro _ h
      subst hκ0
      show J _ _ [] _ (F)
      refine j_then ?_
      refine j_seq ?_
      refine j_region ?_
      refine r_q (q_assign rfl rfl) rfl rfl ?_
      refine r_nil ?_
      refine j_then ?_
      refine j_ret ?_
      cases h
      exact j_return rfl (ResOf.tmp rfl ResOf.nil) rfl (fun w h => ⟨(), rfl, h⟩)
  · refine j_true rfl (not_t (var_f c1)) ?_
    refine j_seq ?_
    refine j_region ?_
    refine r_q (q_assign rfl rfl) rfl rfl ?_
    refine r_nil ?_
    refine j_then ?_
    refine j_ret ?_
    refine j_then_ret ?_
    cases h
    exact j_return rfl (ResOf.tmp rfl ResOf.nil) rfl (fun w h => ⟨(), rfl, h.tail⟩)

end Go.Proofs.Ytcdcikmphonkfaa.F
