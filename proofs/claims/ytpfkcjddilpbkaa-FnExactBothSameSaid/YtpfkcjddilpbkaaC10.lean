/- The program computes these pure functions, printed by the generator of wip/gen. -/
import Derived.Test.YtpfkcjddilpbkaaFa
import Derived.Test.YtpfkcjddilpbkaaFj
import Derived.Test.YtpfkcjddilpbkaaFb
import Derived.Test.YtpfkcjddilpbkaaC1
import Derived.Test.YtpfkcjddilpbkaaC4
import Derived.Test.YtpfkcjddilpbkaaC5
import Derived.Test.YtpfkcjddilpbkaaC6
namespace Go.Proofs.Ytpfkcjddilpbkaa.F
open Go Go.RowKit Go.Proofs.Ytpfkcjddilpbkaa.S
set_option linter.unusedVariables false
set_option maxRecDepth 100000
theorem spec_HeapSame.calls (K : Nat) (a0_0 : List Int) (a0_0_A : Option Addr) (a0_0_n a0_0_c : Nat) (a0_1 : List Int) (a0_1_A : Option Addr) (a0_1_n a0_1_c : Nat) (a0_2 : List Int) (a0_2_A : Option Addr) (a0_2_n a0_2_c : Nat) (a1_0 : List Int) (a1_0_A : Option Addr) (a1_0_n a1_0_c : Nat) (a1_1 : List Int) (a1_1_A : Option Addr) (a1_1_n a1_1_c : Nat) (a1_2 : List Int) (a1_2_A : Option Addr) (a1_2_n a1_2_c : Nat) {w0 w : World} {F : List Res} {r1 : Bool} (hm : Mem w0 (F) w) (a0_0_h : a0_0.length = a0_0_n) (a0_0_R : Rd w0 F a0_0_A (ii a0_0)) (a0_1_h : a0_1.length = a0_1_n) (a0_1_R : Rd w0 F a0_1_A (ii a0_1)) (a0_2_h : a0_2.length = a0_2_n) (a0_2_R : Rd w0 F a0_2_A (ii a0_2)) (a1_0_h : a1_0.length = a1_0_n) (a1_0_R : Rd w0 F a1_0_A (ii a1_0)) (a1_1_h : a1_1.length = a1_1_n) (a1_1_R : Rd w0 F a1_1_A (ii a1_1)) (a1_2_h : a1_2.length = a1_2_n) (a1_2_R : Rd w0 F a1_2_A (ii a1_2)) (h : spec_HeapSame.f K a0_0 a0_1 a0_2 a1_0 a1_1 a1_2 = some r1) :
    Calls Try.prog 62 (List.toArray [.agg (List.toArray [.slice a0_0_A a0_0_n a0_0_c, .slice a0_1_A a0_1_n a0_1_c, .slice a0_2_A a0_2_n a0_2_c]), .agg (List.toArray [.slice a1_0_A a1_0_n a1_0_c, .slice a1_1_A a1_1_n a1_1_c, .slice a1_2_A a1_2_n a1_2_c])]) w fun e w' => ∃ x : Unit, e = .returned (.bool r1) ∧ Mem w0 (F) w' := by
  unfold spec_HeapSame.f at h
  refine calls_of_J (n := 24) Try.func62 rfl rfl rfl hm ?_
  refine j_seq ?_
  refine j_region ?_
  refine r_do (a_box rfl rfl) rfl rfl (fun x1 => ?_)
  refine r_do (a_box rfl rfl) rfl rfl (fun x2 => ?_)
  refine r_q (q_assign rfl rfl) rfl rfl ?_
  refine r_nil ?_
  refine j_then ?_
  refine j_seq ?_
  refine j_region ?_
  refine r_q (q_fieldAddr fi34_0 sz22 rfl rfl rfl) rfl rfl ?_
  refine r_q (q_loadb 1 rfl ag22 rfl rfl rfl) rfl rfl ?_
  refine r_q (q_fieldAddr fi34_0 sz22 rfl rfl rfl) rfl rfl ?_
  refine r_q (q_loadb 0 rfl ag22 rfl rfl rfl) rfl rfl ?_
  obtain ⟨v1, hb1, h⟩ := of_b1 h
  refine r_do (a_call ok44 rfl rfl rfl rfl (fun w hm => spec_l1Ints.calls K a0_0 a0_0_A a0_0_n a0_0_c a1_0 a1_0_A a1_0_n a1_0_c hm a0_0_h (Rd.drop 2 a0_0_R) a1_0_h (Rd.drop 2 a1_0_R) hb1)) rfl rfl (fun x3 => ?_)
  refine r_q (q_move rfl rfl) rfl rfl ?_
  rcases of_if h with ⟨c1, h⟩ | ⟨c1, h⟩
  · refine r_qon (q_fieldAddr fi34_1 sz22 rfl rfl rfl) rfl rfl rfl rfl c1 rfl ?_
    refine r_qon (q_loadb 1 rfl ag22 rfl rfl rfl) rfl rfl rfl rfl c1 rfl ?_
    refine r_qon (q_fieldAddr fi34_1 sz22 rfl rfl rfl) rfl rfl rfl rfl c1 rfl ?_
    refine r_qon (q_loadb 0 rfl ag22 rfl rfl rfl) rfl rfl rfl rfl c1 rfl ?_
    obtain ⟨v2, hb2, h⟩ := of_b1 h
    refine r_on (a_call ok44 rfl rfl rfl rfl (fun w hm => spec_l1Ints.calls K a0_1 a0_1_A a0_1_n a0_1_c a1_1 a1_1_A a1_1_n a1_1_c hm a0_1_h (Rd.drop 2 a0_1_R) a1_1_h (Rd.drop 2 a1_1_R) hb2)) rfl rfl rfl rfl c1 rfl (fun x4 => ?_)
    refine r_q (q_pick_t rfl rfl c1 rfl) rfl rfl ?_
    refine r_q (q_move rfl rfl) rfl rfl ?_
    rcases of_if h with ⟨c2, h⟩ | ⟨c2, h⟩
    · refine r_qon (q_fieldAddr fi34_2 sz22 rfl rfl rfl) rfl rfl rfl rfl c2 rfl ?_
      refine r_qon (q_loadb 1 rfl ag22 rfl rfl rfl) rfl rfl rfl rfl c2 rfl ?_
      refine r_qon (q_fieldAddr fi34_2 sz22 rfl rfl rfl) rfl rfl rfl rfl c2 rfl ?_
      refine r_qon (q_loadb 0 rfl ag22 rfl rfl rfl) rfl rfl rfl rfl c2 rfl ?_
      obtain ⟨v3, hb3, h⟩ := of_b1 h
      refine r_on (a_call ok44 rfl rfl rfl rfl (fun w hm => spec_l1Ints.calls K a0_2 a0_2_A a0_2_n a0_2_c a1_2 a1_2_A a1_2_n a1_2_c hm a0_2_h (Rd.drop 2 a0_2_R) a1_2_h (Rd.drop 2 a1_2_R) hb3)) rfl rfl rfl rfl c2 rfl (fun x5 => ?_)
      refine r_q (q_pick_t rfl rfl c2 rfl) rfl rfl ?_
      refine r_q (q_assign rfl rfl) rfl rfl ?_
      refine r_nil ?_
      refine j_then ?_
      refine j_ret ?_
      cases h
      exact j_return rfl (ResOf.tmp rfl ResOf.nil) rfl (fun w h => ⟨(), rfl, (h.drop 2)⟩)
    · refine r_off rfl rfl rfl rfl (var_f c2) rfl ?_
      refine r_off rfl rfl rfl rfl (var_f c2) rfl ?_
      refine r_off rfl rfl rfl rfl (var_f c2) rfl ?_
      refine r_off rfl rfl rfl rfl (var_f c2) rfl ?_
      refine r_off rfl rfl rfl rfl (var_f c2) rfl ?_
      refine r_q (q_pick_f rfl rfl (var_f c2) rfl) rfl rfl ?_
      refine r_q (q_assign rfl rfl) rfl rfl ?_
      refine r_nil ?_
      refine j_then ?_
      refine j_ret ?_
      cases h
      exact j_return rfl (ResOf.tmp rfl ResOf.nil) rfl (fun w h => ⟨(), rfl, (h.drop 2)⟩)
  · refine r_off rfl rfl rfl rfl (var_f c1) rfl ?_
    refine r_off rfl rfl rfl rfl (var_f c1) rfl ?_
    refine r_off rfl rfl rfl rfl (var_f c1) rfl ?_
    refine r_off rfl rfl rfl rfl (var_f c1) rfl ?_
    refine r_off rfl rfl rfl rfl (var_f c1) rfl ?_
    refine r_q (q_pick_f rfl rfl (var_f c1) rfl) rfl rfl ?_
    refine r_q (q_move rfl rfl) rfl rfl ?_
    refine r_off rfl rfl rfl rfl rfl rfl ?_
    refine r_off rfl rfl rfl rfl rfl rfl ?_
    refine r_off rfl rfl rfl rfl rfl rfl ?_
    refine r_off rfl rfl rfl rfl rfl rfl ?_
    refine r_off rfl rfl rfl rfl rfl rfl ?_
    refine r_q (q_pick_f rfl rfl rfl rfl) rfl rfl ?_
    refine r_q (q_assign rfl rfl) rfl rfl ?_
    refine r_nil ?_
    refine j_then ?_
    refine j_ret ?_
    cases h
    exact j_return rfl (ResOf.tmp rfl ResOf.nil) rfl (fun w h => ⟨(), rfl, (h.drop 2)⟩)

theorem spec_StoreSame.calls (K : Nat) (a0_0 : List Int) (a0_0_A : Option Addr) (a0_0_n a0_0_c : Nat) (a0_1 : List Int) (a0_1_A : Option Addr) (a0_1_n a0_1_c : Nat) (a0_2 : List Int) (a0_2_A : Option Addr) (a0_2_n a0_2_c : Nat) (a0_3 : List Int) (a0_3_A : Option Addr) (a0_3_n a0_3_c : Nat) (a1_0 : List Int) (a1_0_A : Option Addr) (a1_0_n a1_0_c : Nat) (a1_1 : List Int) (a1_1_A : Option Addr) (a1_1_n a1_1_c : Nat) (a1_2 : List Int) (a1_2_A : Option Addr) (a1_2_n a1_2_c : Nat) (a1_3 : List Int) (a1_3_A : Option Addr) (a1_3_n a1_3_c : Nat) {w0 w : World} {F : List Res} {r1 : Bool} (hm : Mem w0 (F) w) (a0_0_h : a0_0.length = a0_0_n) (a0_0_R : Rd w0 F a0_0_A (ii a0_0)) (a0_1_h : a0_1.length = a0_1_n) (a0_1_R : Rd w0 F a0_1_A (ii a0_1)) (a0_2_h : a0_2.length = a0_2_n) (a0_2_R : Rd w0 F a0_2_A (ii a0_2)) (a0_3_h : a0_3.length = a0_3_n) (a0_3_R : Rd w0 F a0_3_A (ii a0_3)) (a1_0_h : a1_0.length = a1_0_n) (a1_0_R : Rd w0 F a1_0_A (ii a1_0)) (a1_1_h : a1_1.length = a1_1_n) (a1_1_R : Rd w0 F a1_1_A (ii a1_1)) (a1_2_h : a1_2.length = a1_2_n) (a1_2_R : Rd w0 F a1_2_A (ii a1_2)) (a1_3_h : a1_3.length = a1_3_n) (a1_3_R : Rd w0 F a1_3_A (ii a1_3)) (h : spec_StoreSame.f K a0_0 a0_1 a0_2 a0_3 a1_0 a1_1 a1_2 a1_3 = some r1) :
    Calls Try.prog 31 (List.toArray [.agg (List.toArray [.slice a0_0_A a0_0_n a0_0_c, .slice a0_1_A a0_1_n a0_1_c, .slice a0_2_A a0_2_n a0_2_c, .slice a0_3_A a0_3_n a0_3_c]), .agg (List.toArray [.slice a1_0_A a1_0_n a1_0_c, .slice a1_1_A a1_1_n a1_1_c, .slice a1_2_A a1_2_n a1_2_c, .slice a1_3_A a1_3_n a1_3_c])]) w fun e w' => ∃ x : Unit, e = .returned (.bool r1) ∧ Mem w0 (F) w' := by
  unfold spec_StoreSame.f at h
  refine calls_of_J (n := 17) Try.func31 rfl rfl rfl hm ?_
  refine j_seq ?_
  refine j_region ?_
  refine r_do (a_box rfl rfl) rfl rfl (fun x1 => ?_)
  refine r_do (a_box rfl rfl) rfl rfl (fun x2 => ?_)
  refine r_q (q_assign rfl rfl) rfl rfl ?_
  refine r_nil ?_
  refine j_then ?_
  refine j_seq ?_
  refine j_region ?_
  refine r_q (q_fieldAddr fi36_0 sz34 rfl rfl rfl) rfl rfl ?_
  refine r_q (q_loadb_agg 1 rfl ag34 sz34 rfl rfl rfl rfl) rfl rfl ?_
  refine r_q (q_fieldAddr fi36_0 sz34 rfl rfl rfl) rfl rfl ?_
  refine r_q (q_loadb_agg 0 rfl ag34 sz34 rfl rfl rfl rfl) rfl rfl ?_
  obtain ⟨v1, hb1, h⟩ := of_b1 h
  refine r_do (a_call ok62 rfl rfl rfl rfl (fun w hm => spec_HeapSame.calls K a0_0 a0_0_A a0_0_n a0_0_c a0_1 a0_1_A a0_1_n a0_1_c a0_2 a0_2_A a0_2_n a0_2_c a1_0 a1_0_A a1_0_n a1_0_c a1_1 a1_1_A a1_1_n a1_1_c a1_2 a1_2_A a1_2_n a1_2_c hm a0_0_h (Rd.drop 2 a0_0_R) a0_1_h (Rd.drop 2 a0_1_R) a0_2_h (Rd.drop 2 a0_2_R) a1_0_h (Rd.drop 2 a1_0_R) a1_1_h (Rd.drop 2 a1_1_R) a1_2_h (Rd.drop 2 a1_2_R) hb1)) rfl rfl (fun x3 => ?_)
  refine r_q (q_move rfl rfl) rfl rfl ?_
  rcases of_if h with ⟨c1, h⟩ | ⟨c1, h⟩
  · refine r_qon (q_fieldAddr fi36_1 sz22 rfl rfl rfl) rfl rfl rfl rfl c1 rfl ?_
    refine r_qon (q_loadb 1 rfl ag22 rfl rfl rfl) rfl rfl rfl rfl c1 rfl ?_
    refine r_qon (q_fieldAddr fi36_1 sz22 rfl rfl rfl) rfl rfl rfl rfl c1 rfl ?_
    refine r_qon (q_loadb 0 rfl ag22 rfl rfl rfl) rfl rfl rfl rfl c1 rfl ?_
    obtain ⟨v2, hb2, h⟩ := of_b1 h
    refine r_on (a_call ok44 rfl rfl rfl rfl (fun w hm => spec_l1Ints.calls K a0_3 a0_3_A a0_3_n a0_3_c a1_3 a1_3_A a1_3_n a1_3_c hm a0_3_h (Rd.drop 2 a0_3_R) a1_3_h (Rd.drop 2 a1_3_R) hb2)) rfl rfl rfl rfl c1 rfl (fun x4 => ?_)
    refine r_q (q_pick_t rfl rfl c1 rfl) rfl rfl ?_
    refine r_q (q_assign rfl rfl) rfl rfl ?_
    refine r_nil ?_
    refine j_then ?_
    refine j_ret ?_
    cases h
    exact j_return rfl (ResOf.tmp rfl ResOf.nil) rfl (fun w h => ⟨(), rfl, (h.drop 2)⟩)
  · refine r_off rfl rfl rfl rfl (var_f c1) rfl ?_
    refine r_off rfl rfl rfl rfl (var_f c1) rfl ?_
    refine r_off rfl rfl rfl rfl (var_f c1) rfl ?_
    refine r_off rfl rfl rfl rfl (var_f c1) rfl ?_
    refine r_off rfl rfl rfl rfl (var_f c1) rfl ?_
    refine r_q (q_pick_f rfl rfl (var_f c1) rfl) rfl rfl ?_
    refine r_q (q_assign rfl rfl) rfl rfl ?_
    refine r_nil ?_
    refine j_then ?_
    refine j_ret ?_
    cases h
    exact j_return rfl (ResOf.tmp rfl ResOf.nil) rfl (fun w h => ⟨(), rfl, (h.drop 2)⟩)

theorem spec_l7SameOps.calls (K : Nat) (a0 : List (Int × Int × Int)) (a0_A : Option Addr) (a0_n a0_c : Nat) (a1 : List (Int × Int × Int)) (a1_A : Option Addr) (a1_n a1_c : Nat) {w0 w : World} {F : List Res} {r1 : Bool} (hm : Mem w0 (F) w) (a0_h : a0.length = a0_n) (a0_R : Rd w0 F a0_A (trips a0)) (a1_h : a1.length = a1_n) (a1_R : Rd w0 F a1_A (trips a1)) (h : spec_l7SameOps.f K a0 a1 = some r1) :
    Calls Try.prog 32 (List.toArray [.slice a0_A a0_n a0_c, .slice a1_A a1_n a1_c]) w fun e w' => ∃ x : Unit, e = .returned (.bool r1) ∧ Mem w0 (F) w' := by
  unfold spec_l7SameOps.f at h
  refine calls_of_J (n := 26) Try.func32 rfl rfl rfl hm ?_
  refine j_seq ?_
  refine j_region ?_
  refine r_q (q_assign rfl rfl) rfl rfl ?_
  refine r_nil ?_
  refine j_then ?_
  refine j_seq ?_
  refine j_seq ?_
  refine j_region ?_
  refine r_q (q_move rfl rfl) rfl rfl ?_
  refine r_q (q_lenX a0 a0_h un38 rfl rfl rfl rfl rfl) rfl rfl ?_
  refine r_q (q_move rfl rfl) rfl rfl ?_
  refine r_q (q_lenX a1 a1_h un38 rfl rfl rfl rfl rfl) rfl rfl ?_
  refine r_q (q_neq rfl rfl rfl) rfl rfl ?_
  refine r_nil ?_
  refine j_then ?_
  rcases of_if h with ⟨c1, h⟩ | ⟨c1, h⟩
  · refine j_false rfl (bne_f c1) ?_
    refine j_skip ?_
    refine j_then ?_
    refine j_seq ?_
    refine j_seq ?_
    refine j_region ?_
    refine r_q (q_assign rfl rfl) rfl rfl ?_
    refine r_nil ?_
    refine j_then ?_
    obtain ⟨κ0, h, hκ0⟩ := ex_k (g := fun κ => spec_l7SameOps.loop0 K κ a0 a1 K (0:Int) = some r1) h
    refine j_cut (σ := Unit) (fun s => []) (fun s => F) (fun s => κ0 () = some r1) ?_ ?_
    · refine j_block ?_
      refine j_loop (σ := Int) (fun s => [(0, (.slice a0_A a0_n a0_c)), (1, (.slice a1_A a1_n a1_c)), (5, (i6 s))]) (fun s => F) (fun m s => spec_l7SameOps.loop0 K κ0 a0 a1 m s = some r1) K (0:Int) h (fun a he => he.sub ⟨rfl, rfl, rfl, trivial⟩) (fun w h => h) ?_
      rintro m p2 h
      cases m with
      | zero => exact absurd h (by rw [spec_l7SameOps.loop0]; exact nofun)
      | succ m =>
        rw [spec_l7SameOps.loop0] at h
        show J _ _ [(0, (.slice a0_A a0_n a0_c)), (1, (.slice a1_A a1_n a1_c)), (5, (i6 p2))] _ (F)
        refine j_seq ?_
        refine j_seq ?_
        refine j_region ?_
        refine r_q (q_move rfl rfl) rfl rfl ?_
        refine r_q (q_move rfl rfl) rfl rfl ?_
        refine r_q (q_lenX a0 a0_h un38 rfl rfl rfl rfl rfl) rfl rfl ?_
        refine r_q (q_lss rfl rfl rfl) rfl rfl ?_
        refine r_nil ?_
        refine j_then ?_
        rcases of_if h with ⟨c14, h⟩ | ⟨c14, h⟩
        · refine j_true rfl (decide_eq_true c14) ?_
          refine j_skip ?_
          refine j_then ?_
          refine j_seq ?_
          refine j_block ?_
          refine j_seq ?_
          obtain ⟨c15, h⟩ := of_guard h
          obtain ⟨c16, h⟩ := of_guard h
          refine j_draw (F) 9 follows_any rfl ?_
          refine d_take 0 rfl (q_move rfl rfl) rfl rfl (by kernel_rfl) (by kernel_rfl) (by kernel_rfl) (fun w h => h) ?_
          refine d_take 1 rfl (q_move rfl rfl) rfl rfl (by kernel_rfl) (by kernel_rfl) (by kernel_rfl) (fun w h => h) ?_
          refine d_take 2 rfl (q_ix a0_R (trips_len a0) (by decide) a0_h c15 un38 sz68 rfl rfl rfl) rfl rfl (by kernel_rfl) (by kernel_rfl) (by kernel_rfl) (fun w h => h) ?_
          refine d_take 3 rfl (q_ldT a0_R c15 ag68 sz68 rfl rfl) rfl rfl (by kernel_rfl) (by kernel_rfl) (by kernel_rfl) (fun w h => h) ?_
          refine d_take 4 rfl (q_move rfl rfl) rfl rfl (by kernel_rfl) (by kernel_rfl) (by kernel_rfl) (fun w h => h) ?_
          refine d_take 5 rfl (q_move rfl rfl) rfl rfl (by kernel_rfl) (by kernel_rfl) (by kernel_rfl) (fun w h => h) ?_
          refine d_take 6 rfl (q_ix a1_R (trips_len a1) (by decide) a1_h c16 un38 sz68 rfl rfl rfl) rfl rfl (by kernel_rfl) (by kernel_rfl) (by kernel_rfl) (fun w h => h) ?_
          refine d_take 7 rfl (q_ldT a1_R c16 ag68 sz68 rfl rfl) rfl rfl (by kernel_rfl) (by kernel_rfl) (by kernel_rfl) (fun w h => h) ?_
          refine d_take 8 rfl (q_neT eqt68 rfl rfl rfl) rfl rfl (by kernel_rfl) (by kernel_rfl) (by kernel_rfl) (fun w h => h) ?_
          refine d_done (by kernel_rfl) ?_
          refine j_then ?_
          rcases of_if h with ⟨c17, h⟩ | ⟨c17, h⟩
          · refine j_true rfl (decide_eq_true c17) ?_
            refine j_seq ?_
            refine j_region ?_
            refine r_q (q_assign rfl rfl) rfl rfl ?_
            refine r_nil ?_
            refine j_then ?_
            refine j_ret ?_
            refine j_in_ret ?_
            refine j_then_ret ?_
            refine j_then_ret ?_
            refine j_in_ret ?_
            refine j_then_ret ?_
            refine j_then_ret ?_
            cases h
            exact j_return rfl (ResOf.tmp rfl ResOf.nil) rfl (fun w h => ⟨(), rfl, h⟩)
          · refine j_false rfl (decide_eq_false c17) ?_
            refine j_skip ?_
            refine j_in ?_
            refine j_then ?_
            refine j_region ?_
            refine r_q (q_move rfl rfl) rfl rfl ?_
            refine r_q (q_add rfl rfl rfl) rfl rfl ?_
            refine r_q (q_assign rfl rfl) rfl rfl ?_
            refine r_nil ?_
            refine j_then ?_
            exact j_again m (wrap64 (p2 + (1:Int))) (Nat.lt_succ_self m) h (fun a he => he.sub ⟨rfl, rfl, rfl, trivial⟩) (fun w h => h)
        · refine j_false rfl (decide_eq_false c14) ?_
          refine j_exit ?_
          refine j_then_exit ?_
          refine j_then_exit ?_
          refine j_in_exit ?_
          refine j_then ?_
          exact j_meet () h (fun a he => he.sub trivial) (fun w h => h)
    · rintro _ h
      subst hκ0
      show J _ _ [] _ (F)
      refine j_then ?_
      refine j_seq ?_
      refine j_region ?_
      refine r_q (q_assign rfl rfl) rfl rfl ?_
      refine r_nil ?_
      refine j_then ?_
      refine j_ret ?_
      cases h
      exact j_return rfl (ResOf.tmp rfl ResOf.nil) rfl (fun w h => ⟨(), rfl, h⟩)
  · refine j_true rfl (bne_t c1) ?_
    refine j_seq ?_
    refine j_region ?_
    refine r_q (q_assign rfl rfl) rfl rfl ?_
    refine r_nil ?_
    refine j_then ?_
    refine j_ret ?_
    refine j_then_ret ?_
    cases h
    exact j_return rfl (ResOf.tmp rfl ResOf.nil) rfl (fun w h => ⟨(), rfl, h⟩)

theorem spec_BothSame.calls (K : Nat) (a0_0 : List Int) (a0_0_A : Option Addr) (a0_0_n a0_0_c : Nat) (a0_1 : List Int) (a0_1_A : Option Addr) (a0_1_n a0_1_c : Nat) (a0_2 : List Int) (a0_2_A : Option Addr) (a0_2_n a0_2_c : Nat) (a0_3 : List Int) (a0_3_A : Option Addr) (a0_3_n a0_3_c : Nat) (a0_4 : Int) (a0_5 : List Int) (a0_5_A : Option Addr) (a0_5_n a0_5_c : Nat) (a0_6 : Int) (a0_7 : List (Int × Int × Int)) (a0_7_A : Option Addr) (a0_7_n a0_7_c : Nat) (a0_8 : Int) (a0_9 : Bool) (a1_0 : List Int) (a1_0_A : Option Addr) (a1_0_n a1_0_c : Nat) (a1_1 : List Int) (a1_1_A : Option Addr) (a1_1_n a1_1_c : Nat) (a1_2 : List Int) (a1_2_A : Option Addr) (a1_2_n a1_2_c : Nat) (a1_3 : List Int) (a1_3_A : Option Addr) (a1_3_n a1_3_c : Nat) (a1_4 : Int) (a1_5 : List Int) (a1_5_A : Option Addr) (a1_5_n a1_5_c : Nat) (a1_6 : Int) (a1_7 : List (Int × Int × Int)) (a1_7_A : Option Addr) (a1_7_n a1_7_c : Nat) (a1_8 : Int) (a1_9 : Bool) {w0 w : World} {F : List Res} {r1 : Bool} (hm : Mem w0 (F) w) (a0_0_h : a0_0.length = a0_0_n) (a0_0_R : Rd w0 F a0_0_A (ii a0_0)) (a0_1_h : a0_1.length = a0_1_n) (a0_1_R : Rd w0 F a0_1_A (ii a0_1)) (a0_2_h : a0_2.length = a0_2_n) (a0_2_R : Rd w0 F a0_2_A (ii a0_2)) (a0_3_h : a0_3.length = a0_3_n) (a0_3_R : Rd w0 F a0_3_A (ii a0_3)) (a0_5_h : a0_5.length = a0_5_n) (a0_5_R : Rd w0 F a0_5_A (ii a0_5)) (a0_7_h : a0_7.length = a0_7_n) (a0_7_R : Rd w0 F a0_7_A (trips a0_7)) (a1_0_h : a1_0.length = a1_0_n) (a1_0_R : Rd w0 F a1_0_A (ii a1_0)) (a1_1_h : a1_1.length = a1_1_n) (a1_1_R : Rd w0 F a1_1_A (ii a1_1)) (a1_2_h : a1_2.length = a1_2_n) (a1_2_R : Rd w0 F a1_2_A (ii a1_2)) (a1_3_h : a1_3.length = a1_3_n) (a1_3_R : Rd w0 F a1_3_A (ii a1_3)) (a1_5_h : a1_5.length = a1_5_n) (a1_5_R : Rd w0 F a1_5_A (ii a1_5)) (a1_7_h : a1_7.length = a1_7_n) (a1_7_R : Rd w0 F a1_7_A (trips a1_7)) (h : spec_BothSame.f K a0_0 a0_1 a0_2 a0_3 a0_4 a0_5 a0_6 a0_7 a0_8 a0_9 a1_0 a1_1 a1_2 a1_3 a1_4 a1_5 a1_6 a1_7 a1_8 a1_9 = some r1) :
    Calls Try.prog 9 (List.toArray [.agg (List.toArray [.slice a0_0_A a0_0_n a0_0_c, .slice a0_1_A a0_1_n a0_1_c, .slice a0_2_A a0_2_n a0_2_c, .slice a0_3_A a0_3_n a0_3_c, i6 a0_4, .slice a0_5_A a0_5_n a0_5_c, i6 a0_6, .slice a0_7_A a0_7_n a0_7_c, i6 a0_8, .bool a0_9]), .agg (List.toArray [.slice a1_0_A a1_0_n a1_0_c, .slice a1_1_A a1_1_n a1_1_c, .slice a1_2_A a1_2_n a1_2_c, .slice a1_3_A a1_3_n a1_3_c, i6 a1_4, .slice a1_5_A a1_5_n a1_5_c, i6 a1_6, .slice a1_7_A a1_7_n a1_7_c, i6 a1_8, .bool a1_9])]) w fun e w' => ∃ x : Unit, e = .returned (.bool r1) ∧ Mem w0 (F) w' := by
  unfold spec_BothSame.f at h
  refine calls_of_J (n := 38) Try.func9 rfl rfl rfl hm ?_
  refine j_seq ?_
  refine j_region ?_
  refine r_do (a_box rfl rfl) rfl rfl (fun x1 => ?_)
  refine r_do (a_box rfl rfl) rfl rfl (fun x2 => ?_)
  refine r_q (q_assign rfl rfl) rfl rfl ?_
  refine r_nil ?_
  refine j_then ?_
  refine j_seq ?_
  refine j_region ?_
  refine r_q (q_fieldAddr fi40_3 sz3 rfl rfl rfl) rfl rfl ?_
  refine r_q (q_loadb 1 rfl ag3 rfl rfl rfl) rfl rfl ?_
  refine r_q (q_fieldAddr fi40_3 sz3 rfl rfl rfl) rfl rfl ?_
  refine r_q (q_loadb 0 rfl ag3 rfl rfl rfl) rfl rfl ?_
  refine r_q (q_eql rfl rfl rfl) rfl rfl ?_
  refine r_q (q_move rfl rfl) rfl rfl ?_
  rcases of_if h with ⟨c1, h⟩ | ⟨c1, h⟩
  · refine r_qon (q_fieldAddr fi40_4 sz4 rfl rfl rfl) rfl rfl rfl rfl (beq_t c1) rfl ?_
    refine r_qon (q_loadb 1 rfl ag4 rfl rfl rfl) rfl rfl rfl rfl (beq_t c1) rfl ?_
    refine r_qon (q_fieldAddr fi40_4 sz4 rfl rfl rfl) rfl rfl rfl rfl (beq_t c1) rfl ?_
    refine r_qon (q_loadb 0 rfl ag4 rfl rfl rfl) rfl rfl rfl rfl (beq_t c1) rfl ?_
    refine r_qon (q_beql un4 rfl rfl rfl) rfl rfl rfl rfl (beq_t c1) rfl ?_
    refine r_q (q_pick_t rfl rfl (beq_t c1) rfl) rfl rfl ?_
    refine r_q (q_move rfl rfl) rfl rfl ?_
    rcases of_if h with ⟨c2, h⟩ | ⟨c2, h⟩
    · refine r_qon (q_fieldAddr fi40_0 sz36 rfl rfl rfl) rfl rfl rfl rfl (beq_t c2) rfl ?_
      refine r_qon (q_loadb_agg 1 rfl ag36 sz36 rfl rfl rfl rfl) rfl rfl rfl rfl (beq_t c2) rfl ?_
      refine r_qon (q_fieldAddr fi40_0 sz36 rfl rfl rfl) rfl rfl rfl rfl (beq_t c2) rfl ?_
      refine r_qon (q_loadb_agg 0 rfl ag36 sz36 rfl rfl rfl rfl) rfl rfl rfl rfl (beq_t c2) rfl ?_
      obtain ⟨v1, hb1, h⟩ := of_b1 h
      refine r_on (a_call ok31 rfl rfl rfl rfl (fun w hm => spec_StoreSame.calls K a0_0 a0_0_A a0_0_n a0_0_c a0_1 a0_1_A a0_1_n a0_1_c a0_2 a0_2_A a0_2_n a0_2_c a0_3 a0_3_A a0_3_n a0_3_c a1_0 a1_0_A a1_0_n a1_0_c a1_1 a1_1_A a1_1_n a1_1_c a1_2 a1_2_A a1_2_n a1_2_c a1_3 a1_3_A a1_3_n a1_3_c hm a0_0_h (Rd.drop 2 a0_0_R) a0_1_h (Rd.drop 2 a0_1_R) a0_2_h (Rd.drop 2 a0_2_R) a0_3_h (Rd.drop 2 a0_3_R) a1_0_h (Rd.drop 2 a1_0_R) a1_1_h (Rd.drop 2 a1_1_R) a1_2_h (Rd.drop 2 a1_2_R) a1_3_h (Rd.drop 2 a1_3_R) hb1)) rfl rfl rfl rfl (beq_t c2) rfl (fun x3 => ?_)
      refine r_q (q_pick_t rfl rfl (beq_t c2) rfl) rfl rfl ?_
      refine r_q (q_move rfl rfl) rfl rfl ?_
      rcases of_if h with ⟨c3, h⟩ | ⟨c3, h⟩
      · refine r_qon (q_fieldAddr fi40_1 sz37 rfl rfl rfl) rfl rfl rfl rfl c3 rfl ?_
        refine r_qon (q_loadb_agg 1 rfl ag37 sz37 rfl rfl rfl rfl) rfl rfl rfl rfl c3 rfl ?_
        refine r_qon (q_fieldAddr fi40_1 sz37 rfl rfl rfl) rfl rfl rfl rfl c3 rfl ?_
        refine r_qon (q_loadb_agg 0 rfl ag37 sz37 rfl rfl rfl rfl) rfl rfl rfl rfl c3 rfl ?_
        obtain ⟨v2, hb2, h⟩ := of_b1 h
        refine r_on (a_call ok15 rfl rfl rfl rfl (fun w hm => spec_GcSame.calls K a0_4 a0_5 a0_5_A a0_5_n a0_5_c a0_6 a1_4 a1_5 a1_5_A a1_5_n a1_5_c a1_6 hm a0_5_h (Rd.drop 2 a0_5_R) a1_5_h (Rd.drop 2 a1_5_R) hb2)) rfl rfl rfl rfl c3 rfl (fun x4 => ?_)
        refine r_q (q_pick_t rfl rfl c3 rfl) rfl rfl ?_
        refine r_q (q_move rfl rfl) rfl rfl ?_
        rcases of_if h with ⟨c4, h⟩ | ⟨c4, h⟩
        · refine r_qon (q_fieldAddr fi40_2 sz38 rfl rfl rfl) rfl rfl rfl rfl c4 rfl ?_
          refine r_qon (q_loadb 1 rfl ag38 rfl rfl rfl) rfl rfl rfl rfl c4 rfl ?_
          refine r_qon (q_fieldAddr fi40_2 sz38 rfl rfl rfl) rfl rfl rfl rfl c4 rfl ?_
          refine r_qon (q_loadb 0 rfl ag38 rfl rfl rfl) rfl rfl rfl rfl c4 rfl ?_
          obtain ⟨v3, hb3, h⟩ := of_b1 h
          refine r_on (a_call ok32 rfl rfl rfl rfl (fun w hm => spec_l7SameOps.calls K a0_7 a0_7_A a0_7_n a0_7_c a1_7 a1_7_A a1_7_n a1_7_c hm a0_7_h (Rd.drop 2 a0_7_R) a1_7_h (Rd.drop 2 a1_7_R) hb3)) rfl rfl rfl rfl c4 rfl (fun x5 => ?_)
          refine r_q (q_pick_t rfl rfl c4 rfl) rfl rfl ?_
          refine r_q (q_assign rfl rfl) rfl rfl ?_
          refine r_nil ?_
          refine j_then ?_
          refine j_ret ?_
          cases h
          exact j_return rfl (ResOf.tmp rfl ResOf.nil) rfl (fun w h => ⟨(), rfl, (h.drop 2)⟩)
        · refine r_off rfl rfl rfl rfl (var_f c4) rfl ?_
          refine r_off rfl rfl rfl rfl (var_f c4) rfl ?_
          refine r_off rfl rfl rfl rfl (var_f c4) rfl ?_
          refine r_off rfl rfl rfl rfl (var_f c4) rfl ?_
          refine r_off rfl rfl rfl rfl (var_f c4) rfl ?_
          refine r_q (q_pick_f rfl rfl (var_f c4) rfl) rfl rfl ?_
          refine r_q (q_assign rfl rfl) rfl rfl ?_
          refine r_nil ?_
          refine j_then ?_
          refine j_ret ?_
          cases h
          exact j_return rfl (ResOf.tmp rfl ResOf.nil) rfl (fun w h => ⟨(), rfl, (h.drop 2)⟩)
      · refine r_off rfl rfl rfl rfl (var_f c3) rfl ?_
        refine r_off rfl rfl rfl rfl (var_f c3) rfl ?_
        refine r_off rfl rfl rfl rfl (var_f c3) rfl ?_
        refine r_off rfl rfl rfl rfl (var_f c3) rfl ?_
        refine r_off rfl rfl rfl rfl (var_f c3) rfl ?_
        refine r_q (q_pick_f rfl rfl (var_f c3) rfl) rfl rfl ?_
        refine r_q (q_move rfl rfl) rfl rfl ?_
        refine r_off rfl rfl rfl rfl rfl rfl ?_
        refine r_off rfl rfl rfl rfl rfl rfl ?_
        refine r_off rfl rfl rfl rfl rfl rfl ?_
        refine r_off rfl rfl rfl rfl rfl rfl ?_
        refine r_off rfl rfl rfl rfl rfl rfl ?_
        refine r_q (q_pick_f rfl rfl rfl rfl) rfl rfl ?_
        refine r_q (q_assign rfl rfl) rfl rfl ?_
        refine r_nil ?_
        refine j_then ?_
        refine j_ret ?_
        cases h
        exact j_return rfl (ResOf.tmp rfl ResOf.nil) rfl (fun w h => ⟨(), rfl, (h.drop 2)⟩)
    · refine r_off rfl rfl rfl rfl (beq_f c2) rfl ?_
      refine r_off rfl rfl rfl rfl (beq_f c2) rfl ?_
      refine r_off rfl rfl rfl rfl (beq_f c2) rfl ?_
      refine r_off rfl rfl rfl rfl (beq_f c2) rfl ?_
      refine r_off rfl rfl rfl rfl (beq_f c2) rfl ?_
      refine r_q (q_pick_f rfl rfl (beq_f c2) rfl) rfl rfl ?_
      refine r_q (q_move rfl rfl) rfl rfl ?_
      refine r_off rfl rfl rfl rfl rfl rfl ?_
      refine r_off rfl rfl rfl rfl rfl rfl ?_
      refine r_off rfl rfl rfl rfl rfl rfl ?_
      refine r_off rfl rfl rfl rfl rfl rfl ?_
      refine r_off rfl rfl rfl rfl rfl rfl ?_
      refine r_q (q_pick_f rfl rfl rfl rfl) rfl rfl ?_
      refine r_q (q_move rfl rfl) rfl rfl ?_
      refine r_off rfl rfl rfl rfl rfl rfl ?_
      refine r_off rfl rfl rfl rfl rfl rfl ?_
      refine r_off rfl rfl rfl rfl rfl rfl ?_
      refine r_off rfl rfl rfl rfl rfl rfl ?_
      refine r_off rfl rfl rfl rfl rfl rfl ?_
      refine r_q (q_pick_f rfl rfl rfl rfl) rfl rfl ?_
      refine r_q (q_assign rfl rfl) rfl rfl ?_
      refine r_nil ?_
      refine j_then ?_
      refine j_ret ?_
      cases h
      exact j_return rfl (ResOf.tmp rfl ResOf.nil) rfl (fun w h => ⟨(), rfl, (h.drop 2)⟩)
  · refine r_off rfl rfl rfl rfl (beq_f c1) rfl ?_
    refine r_off rfl rfl rfl rfl (beq_f c1) rfl ?_
    refine r_off rfl rfl rfl rfl (beq_f c1) rfl ?_
    refine r_off rfl rfl rfl rfl (beq_f c1) rfl ?_
    refine r_off rfl rfl rfl rfl (beq_f c1) rfl ?_
    refine r_q (q_pick_f rfl rfl (beq_f c1) rfl) rfl rfl ?_
    refine r_q (q_move rfl rfl) rfl rfl ?_
    refine r_off rfl rfl rfl rfl rfl rfl ?_
    refine r_off rfl rfl rfl rfl rfl rfl ?_
    refine r_off rfl rfl rfl rfl rfl rfl ?_
    refine r_off rfl rfl rfl rfl rfl rfl ?_
    refine r_off rfl rfl rfl rfl rfl rfl ?_
    refine r_q (q_pick_f rfl rfl rfl rfl) rfl rfl ?_
    refine r_q (q_move rfl rfl) rfl rfl ?_
    refine r_off rfl rfl rfl rfl rfl rfl ?_
    refine r_off rfl rfl rfl rfl rfl rfl ?_
    refine r_off rfl rfl rfl rfl rfl rfl ?_
    refine r_off rfl rfl rfl rfl rfl rfl ?_
    refine r_off rfl rfl rfl rfl rfl rfl ?_
    refine r_q (q_pick_f rfl rfl rfl rfl) rfl rfl ?_
    refine r_q (q_move rfl rfl) rfl rfl ?_
    refine r_off rfl rfl rfl rfl rfl rfl ?_
    refine r_off rfl rfl rfl rfl rfl rfl ?_
    refine r_off rfl rfl rfl rfl rfl rfl ?_
    refine r_off rfl rfl rfl rfl rfl rfl ?_
    refine r_off rfl rfl rfl rfl rfl rfl ?_
    refine r_q (q_pick_f rfl rfl rfl rfl) rfl rfl ?_
    refine r_q (q_assign rfl rfl) rfl rfl ?_
    refine r_nil ?_
    refine j_then ?_
    refine j_ret ?_
    cases h
    exact j_return rfl (ResOf.tmp rfl ResOf.nil) rfl (fun w h => ⟨(), rfl, (h.drop 2)⟩)

theorem laws_FnExactBothSame.calls (K : Nat) (a0_0 : List Int) (a0_0_A : Option Addr) (a0_0_n a0_0_c : Nat) (a0_1 : List Int) (a0_1_A : Option Addr) (a0_1_n a0_1_c : Nat) (a0_2 : List Int) (a0_2_A : Option Addr) (a0_2_n a0_2_c : Nat) (a0_3 : List Int) (a0_3_A : Option Addr) (a0_3_n a0_3_c : Nat) (a0_4 : Int) (a0_5 : List Int) (a0_5_A : Option Addr) (a0_5_n a0_5_c : Nat) (a0_6 : Int) (a0_7 : List (Int × Int × Int)) (a0_7_A : Option Addr) (a0_7_n a0_7_c : Nat) (a0_8 : Int) (a0_9 : Bool) (a1_0 : List Int) (a1_0_A : Option Addr) (a1_0_n a1_0_c : Nat) (a1_1 : List Int) (a1_1_A : Option Addr) (a1_1_n a1_1_c : Nat) (a1_2 : List Int) (a1_2_A : Option Addr) (a1_2_n a1_2_c : Nat) (a1_3 : List Int) (a1_3_A : Option Addr) (a1_3_n a1_3_c : Nat) (a1_4 : Int) (a1_5 : List Int) (a1_5_A : Option Addr) (a1_5_n a1_5_c : Nat) (a1_6 : Int) (a1_7 : List (Int × Int × Int)) (a1_7_A : Option Addr) (a1_7_n a1_7_c : Nat) (a1_8 : Int) (a1_9 : Bool) {w0 w : World} {F : List Res} {r1 : Bool} (hm : Mem w0 (F) w) (a0_0_h : a0_0.length = a0_0_n) (a0_0_R : Rd w0 F a0_0_A (ii a0_0)) (a0_1_h : a0_1.length = a0_1_n) (a0_1_R : Rd w0 F a0_1_A (ii a0_1)) (a0_2_h : a0_2.length = a0_2_n) (a0_2_R : Rd w0 F a0_2_A (ii a0_2)) (a0_3_h : a0_3.length = a0_3_n) (a0_3_R : Rd w0 F a0_3_A (ii a0_3)) (a0_5_h : a0_5.length = a0_5_n) (a0_5_R : Rd w0 F a0_5_A (ii a0_5)) (a0_7_h : a0_7.length = a0_7_n) (a0_7_R : Rd w0 F a0_7_A (trips a0_7)) (a1_0_h : a1_0.length = a1_0_n) (a1_0_R : Rd w0 F a1_0_A (ii a1_0)) (a1_1_h : a1_1.length = a1_1_n) (a1_1_R : Rd w0 F a1_1_A (ii a1_1)) (a1_2_h : a1_2.length = a1_2_n) (a1_2_R : Rd w0 F a1_2_A (ii a1_2)) (a1_3_h : a1_3.length = a1_3_n) (a1_3_R : Rd w0 F a1_3_A (ii a1_3)) (a1_5_h : a1_5.length = a1_5_n) (a1_5_R : Rd w0 F a1_5_A (ii a1_5)) (a1_7_h : a1_7.length = a1_7_n) (a1_7_R : Rd w0 F a1_7_A (trips a1_7)) (h : laws_FnExactBothSame.f K a0_0 a0_1 a0_2 a0_3 a0_4 a0_5 a0_6 a0_7 a0_8 a0_9 a1_0 a1_1 a1_2 a1_3 a1_4 a1_5 a1_6 a1_7 a1_8 a1_9 = some r1) :
    Calls Try.prog 3 (List.toArray [.agg (List.toArray [.slice a0_0_A a0_0_n a0_0_c, .slice a0_1_A a0_1_n a0_1_c, .slice a0_2_A a0_2_n a0_2_c, .slice a0_3_A a0_3_n a0_3_c, i6 a0_4, .slice a0_5_A a0_5_n a0_5_c, i6 a0_6, .slice a0_7_A a0_7_n a0_7_c, i6 a0_8, .bool a0_9]), .agg (List.toArray [.slice a1_0_A a1_0_n a1_0_c, .slice a1_1_A a1_1_n a1_1_c, .slice a1_2_A a1_2_n a1_2_c, .slice a1_3_A a1_3_n a1_3_c, i6 a1_4, .slice a1_5_A a1_5_n a1_5_c, i6 a1_6, .slice a1_7_A a1_7_n a1_7_c, i6 a1_8, .bool a1_9])]) w fun e w' => ∃ x : Unit, e = .returned (.bool r1) ∧ Mem w0 (F) w' := by
  unfold laws_FnExactBothSame.f at h
  refine calls_of_J (n := 45) Try.func3 rfl rfl rfl hm ?_
  refine j_seq ?_
  refine j_region ?_
  refine r_do (a_box rfl rfl) rfl rfl (fun x1 => ?_)
  refine r_do (a_box rfl rfl) rfl rfl (fun x2 => ?_)
  refine r_q (q_assign rfl rfl) rfl rfl ?_
  refine r_nil ?_
  refine j_then ?_
  refine j_seq ?_
  refine j_region ?_
  refine r_q (q_assign rfl rfl) rfl rfl ?_
  refine r_nil ?_
  refine j_then ?_
  refine j_seq ?_
  refine j_region ?_
  refine r_q (q_loadb_agg 1 rfl ag31 sz31 rfl rfl rfl rfl) rfl rfl ?_
  refine r_q (q_move rfl rfl) rfl rfl ?_
  obtain ⟨v1, hb1, h⟩ := of_b1 h
  refine r_do (a_call ok8 rfl rfl rfl rfl (fun w hm => laws_szBoth.calls K a0_0 a0_0_A a0_0_n a0_0_c a0_1 a0_1_A a0_1_n a0_1_c a0_2 a0_2_A a0_2_n a0_2_c a0_3 a0_3_A a0_3_n a0_3_c a0_4 a0_5 a0_5_A a0_5_n a0_5_c a0_6 a0_7 a0_7_A a0_7_n a0_7_c a0_8 a0_9 (1048576:Int) hm a0_0_h (Rd.drop 2 a0_0_R) a0_1_h (Rd.drop 2 a0_1_R) a0_2_h (Rd.drop 2 a0_2_R) a0_3_h (Rd.drop 2 a0_3_R) a0_5_h (Rd.drop 2 a0_5_R) a0_7_h (Rd.drop 2 a0_7_R) hb1)) rfl rfl (fun x3 => ?_)
  refine r_q (q_assign rfl rfl) rfl rfl ?_
  refine r_nil ?_
  refine j_then ?_
  refine j_seq ?_
  refine j_seq ?_
  refine j_region ?_
  refine r_q (q_move rfl rfl) rfl rfl ?_
  refine r_q (q_lss rfl rfl rfl) rfl rfl ?_
  refine r_nil ?_
  refine j_then ?_
  rcases of_if h with ⟨c1, h⟩ | ⟨c1, h⟩
  · refine j_true rfl (decide_eq_true c1) ?_
    refine j_seq ?_
    refine j_region ?_
    refine r_q (q_assign rfl rfl) rfl rfl ?_
    refine r_nil ?_
    refine j_then ?_
    refine j_ret ?_
    refine j_then_ret ?_
    cases h
    exact j_return rfl (ResOf.tmp rfl ResOf.nil) rfl (fun w h => ⟨(), rfl, (h.drop 2)⟩)
  · refine j_false rfl (decide_eq_false c1) ?_
    refine j_skip ?_
    refine j_then ?_
    refine j_seq ?_
    refine j_region ?_
    refine r_q (q_loadb_agg 0 rfl ag31 sz31 rfl rfl rfl rfl) rfl rfl ?_
    refine r_q (q_move rfl rfl) rfl rfl ?_
    obtain ⟨v2, hb2, h⟩ := of_b1 h
    refine r_do (a_call ok8 rfl rfl rfl rfl (fun w hm => laws_szBoth.calls K a1_0 a1_0_A a1_0_n a1_0_c a1_1 a1_1_A a1_1_n a1_1_c a1_2 a1_2_A a1_2_n a1_2_c a1_3 a1_3_A a1_3_n a1_3_c a1_4 a1_5 a1_5_A a1_5_n a1_5_c a1_6 a1_7 a1_7_A a1_7_n a1_7_c a1_8 a1_9 v1 hm a1_0_h (Rd.drop 2 a1_0_R) a1_1_h (Rd.drop 2 a1_1_R) a1_2_h (Rd.drop 2 a1_2_R) a1_3_h (Rd.drop 2 a1_3_R) a1_5_h (Rd.drop 2 a1_5_R) a1_7_h (Rd.drop 2 a1_7_R) hb2)) rfl rfl (fun x4 => ?_)
    refine r_q (q_assign rfl rfl) rfl rfl ?_
    refine r_nil ?_
    refine j_then ?_
    refine j_seq ?_
    refine j_seq ?_
    refine j_region ?_
    refine r_q (q_move rfl rfl) rfl rfl ?_
    refine r_q (q_lss rfl rfl rfl) rfl rfl ?_
    refine r_nil ?_
    refine j_then ?_
    rcases of_if h with ⟨c2, h⟩ | ⟨c2, h⟩
    · refine j_true rfl (decide_eq_true c2) ?_
      refine j_seq ?_
      refine j_region ?_
      refine r_q (q_assign rfl rfl) rfl rfl ?_
      refine r_nil ?_
      refine j_then ?_
      refine j_ret ?_
      refine j_then_ret ?_
      cases h
      exact j_return rfl (ResOf.tmp rfl ResOf.nil) rfl (fun w h => ⟨(), rfl, (h.drop 2)⟩)
    · refine j_false rfl (decide_eq_false c2) ?_
      refine j_skip ?_
      refine j_then ?_
      refine j_seq ?_
      obtain ⟨v3, v4, v5, v6, v7, v8, v9, v10, v11, v12, hb3, h⟩ := of_b10 h
      obtain ⟨v13, v14, v15, v16, v17, v18, v19, v20, v21, v22, hb4, h⟩ := of_b10 h
      obtain ⟨v23, hb5, h⟩ := of_b1 h
      refine j_draw (.box x2 31 [(.slice a1_0_A a1_0_n a1_0_c), (.slice a1_1_A a1_1_n a1_1_c), (.slice a1_2_A a1_2_n a1_2_c), (.slice a1_3_A a1_3_n a1_3_c), (i6 a1_4), (.slice a1_5_A a1_5_n a1_5_c), (i6 a1_6), (.slice a1_7_A a1_7_n a1_7_c), (i6 a1_8), (.bool a1_9)] :: .box x1 31 [(.slice a0_0_A a0_0_n a0_0_c), (.slice a0_1_A a0_1_n a0_1_c), (.slice a0_2_A a0_2_n a0_2_c), (.slice a0_3_A a0_3_n a0_3_c), (i6 a0_4), (.slice a0_5_A a0_5_n a0_5_c), (i6 a0_6), (.slice a0_7_A a0_7_n a0_7_c), (i6 a0_8), (.bool a0_9)] :: F) 6 follows_any rfl ?_
      refine d_take 0 rfl (q_loadb_agg 1 rfl ag31 sz31 rfl rfl rfl rfl) rfl rfl (by kernel_rfl) (by kernel_rfl) (by kernel_rfl) (fun w h => h) ?_
      refine d_take 2 rfl (q_loadb_agg 0 rfl ag31 sz31 rfl rfl rfl rfl) rfl rfl (by kernel_rfl) (by kernel_rfl) (by kernel_rfl) (fun w h => h) ?_
      refine d_one 1 (by kernel_rfl) ?_
      refine o_do rfl (a_call ok10 rfl rfl rfl rfl (fun w hm => laws_toBoth.calls K a0_0 a0_0_A a0_0_n a0_0_c a0_1 a0_1_A a0_1_n a0_1_c a0_2 a0_2_A a0_2_n a0_2_c a0_3 a0_3_A a0_3_n a0_3_c a0_4 a0_5 a0_5_A a0_5_n a0_5_c a0_6 a0_7 a0_7_A a0_7_n a0_7_c a0_8 a0_9 hm a0_0_h (Rd.drop 2 a0_0_R) a0_1_h (Rd.drop 2 a0_1_R) a0_2_h (Rd.drop 2 a0_2_R) a0_3_h (Rd.drop 2 a0_3_R) a0_5_h (Rd.drop 2 a0_5_R) a0_7_h (Rd.drop 2 a0_7_R) hb3)) rfl rfl (fun x5 w h => (h.drop 6)) (fun x5 => ?_)
      refine d_one 3 (by kernel_rfl) ?_
      refine o_do rfl (a_call ok10 rfl rfl rfl rfl (fun w hm => laws_toBoth.calls K a1_0 a1_0_A a1_0_n a1_0_c a1_1 a1_1_A a1_1_n a1_1_c a1_2 a1_2_A a1_2_n a1_2_c a1_3 a1_3_A a1_3_n a1_3_c a1_4 a1_5 a1_5_A a1_5_n a1_5_c a1_6 a1_7 a1_7_A a1_7_n a1_7_c a1_8 a1_9 hm a1_0_h (Rd.drop 8 a1_0_R) a1_1_h (Rd.drop 8 a1_1_R) a1_2_h (Rd.drop 8 a1_2_R) a1_3_h (Rd.drop 8 a1_3_R) a1_5_h (Rd.drop 8 a1_5_R) a1_7_h (Rd.drop 8 a1_7_R) hb4)) rfl rfl (fun x6 w h => (h.drop 12)) (fun x6 => ?_)
      refine d_one 4 (by kernel_rfl) ?_
      refine o_do rfl (a_call ok9 rfl rfl rfl rfl (fun w hm => spec_BothSame.calls K v3 x5.1.A x5.1.n x5.1.c v4 x5.2.1.A x5.2.1.n x5.2.1.c v5 x5.2.2.1.A x5.2.2.1.n x5.2.2.1.c v6 x5.2.2.2.1.A x5.2.2.2.1.n x5.2.2.2.1.c v7 v8 x5.2.2.2.2.1.A x5.2.2.2.2.1.n x5.2.2.2.2.1.c v9 v10 x5.2.2.2.2.2.A x5.2.2.2.2.2.n x5.2.2.2.2.2.c v11 v12 v13 x6.1.A x6.1.n x6.1.c v14 x6.2.1.A x6.2.1.n x6.2.1.c v15 x6.2.2.1.A x6.2.2.1.n x6.2.2.1.c v16 x6.2.2.2.1.A x6.2.2.2.1.n x6.2.2.2.1.c v17 v18 x6.2.2.2.2.1.A x6.2.2.2.2.1.n x6.2.2.2.2.1.c v19 v20 x6.2.2.2.2.2.A x6.2.2.2.2.2.n x6.2.2.2.2.2.c v21 v22 hm x5.1.h (Rd.row 6 rfl) x5.2.1.h (Rd.row 7 rfl) x5.2.2.1.h (Rd.row 8 rfl) x5.2.2.2.1.h (Rd.row 9 rfl) x5.2.2.2.2.1.h (Rd.row 10 rfl) x5.2.2.2.2.2.h (Rd.row 11 rfl) x6.1.h (Rd.row 0 rfl) x6.2.1.h (Rd.row 1 rfl) x6.2.2.1.h (Rd.row 2 rfl) x6.2.2.2.1.h (Rd.row 3 rfl) x6.2.2.2.2.1.h (Rd.row 4 rfl) x6.2.2.2.2.2.h (Rd.row 5 rfl) hb5)) rfl rfl (fun x7 w h => (h.drop 12)) (fun x7 => ?_)
      refine d_take 5 rfl (q_assign rfl rfl) rfl rfl (by kernel_rfl) (by kernel_rfl) (by kernel_rfl) (fun w h => (h.drop 12)) ?_
      refine d_done (by kernel_rfl) ?_
      refine j_then ?_
      refine j_seq ?_
      refine j_region ?_
      refine r_q (q_loadb_agg 13 rfl ag31 sz31 rfl rfl rfl rfl) rfl rfl ?_
      obtain ⟨v24, v25, v26, v27, v28, v29, v30, v31, v32, v33, hb6, h⟩ := of_b10 h
      refine r_do (a_call ok10 rfl rfl rfl rfl (fun w hm => laws_toBoth.calls K a0_0 a0_0_A a0_0_n a0_0_c a0_1 a0_1_A a0_1_n a0_1_c a0_2 a0_2_A a0_2_n a0_2_c a0_3 a0_3_A a0_3_n a0_3_c a0_4 a0_5 a0_5_A a0_5_n a0_5_c a0_6 a0_7 a0_7_A a0_7_n a0_7_c a0_8 a0_9 hm a0_0_h (Rd.drop 14 a0_0_R) a0_1_h (Rd.drop 14 a0_1_R) a0_2_h (Rd.drop 14 a0_2_R) a0_3_h (Rd.drop 14 a0_3_R) a0_5_h (Rd.drop 14 a0_5_R) a0_7_h (Rd.drop 14 a0_7_R) hb6)) rfl rfl (fun x8 => ?_)
      refine r_do (a_alloc zr40 rfl) rfl rfl (fun x9 => ?_)
      refine r_do (a_storeb 0 rfl sz40 rfl rfl rfl rfl (Nat.le_of_ble_eq_true rfl) rfl) rfl rfl (fun _ => ?_)
      refine j_b0 [(.slice x8.1.A x8.1.n x8.1.c), (.slice x8.2.1.A x8.2.1.n x8.2.1.c), (.slice x8.2.2.1.A x8.2.2.1.n x8.2.2.1.c), (.slice x8.2.2.2.1.A x8.2.2.2.1.n x8.2.2.2.1.c), (i6 v28), (.slice x8.2.2.2.2.1.A x8.2.2.2.2.1.n x8.2.2.2.2.1.c), (i6 v30), (.slice x8.2.2.2.2.2.A x8.2.2.2.2.2.n x8.2.2.2.2.2.c), (i6 v32), (.bool v33)] rfl ?_
      refine r_nil ?_
      refine j_then ?_
      refine j_seq ?_
      refine j_region ?_
      refine r_q (q_loadb_agg 19 rfl ag31 sz31 rfl rfl rfl rfl) rfl rfl ?_
      obtain ⟨v34, v35, v36, v37, v38, v39, v40, v41, v42, v43, hb7, h⟩ := of_b10 h
      refine r_do (a_call ok10 rfl rfl rfl rfl (fun w hm => laws_toBoth.calls K a1_0 a1_0_A a1_0_n a1_0_c a1_1 a1_1_A a1_1_n a1_1_c a1_2 a1_2_A a1_2_n a1_2_c a1_3 a1_3_A a1_3_n a1_3_c a1_4 a1_5 a1_5_A a1_5_n a1_5_c a1_6 a1_7 a1_7_A a1_7_n a1_7_c a1_8 a1_9 hm a1_0_h (Rd.drop 21 a1_0_R) a1_1_h (Rd.drop 21 a1_1_R) a1_2_h (Rd.drop 21 a1_2_R) a1_3_h (Rd.drop 21 a1_3_R) a1_5_h (Rd.drop 21 a1_5_R) a1_7_h (Rd.drop 21 a1_7_R) hb7)) rfl rfl (fun x10 => ?_)
      refine r_do (a_alloc zr40 rfl) rfl rfl (fun x11 => ?_)
      refine r_do (a_storeb 0 rfl sz40 rfl rfl rfl rfl (Nat.le_of_ble_eq_true rfl) rfl) rfl rfl (fun _ => ?_)
      refine j_b0 [(.slice x10.1.A x10.1.n x10.1.c), (.slice x10.2.1.A x10.2.1.n x10.2.1.c), (.slice x10.2.2.1.A x10.2.2.1.n x10.2.2.1.c), (.slice x10.2.2.2.1.A x10.2.2.2.1.n x10.2.2.2.1.c), (i6 v38), (.slice x10.2.2.2.2.1.A x10.2.2.2.2.1.n x10.2.2.2.2.1.c), (i6 v40), (.slice x10.2.2.2.2.2.A x10.2.2.2.2.2.n x10.2.2.2.2.2.c), (i6 v42), (.bool v43)] rfl ?_
      refine r_nil ?_
      refine j_then ?_
      refine j_seq ?_
      refine j_region ?_
      refine r_q (q_loadb_agg 7 rfl ag40 sz40 rfl rfl rfl rfl) rfl rfl ?_
      refine r_q (q_loadb_agg 0 rfl ag40 sz40 rfl rfl rfl rfl) rfl rfl ?_
      obtain ⟨v44, hb8, h⟩ := of_b1 h
      refine r_do (a_call ok11 rfl rfl rfl rfl (fun w hm => impl_BothSame.calls K v24 x8.1.A x8.1.n x8.1.c v25 x8.2.1.A x8.2.1.n x8.2.1.c v26 x8.2.2.1.A x8.2.2.1.n x8.2.2.1.c v27 x8.2.2.2.1.A x8.2.2.2.1.n x8.2.2.2.1.c v28 v29 x8.2.2.2.2.1.A x8.2.2.2.2.1.n x8.2.2.2.2.1.c v30 v31 x8.2.2.2.2.2.A x8.2.2.2.2.2.n x8.2.2.2.2.2.c v32 v33 v34 x10.1.A x10.1.n x10.1.c v35 x10.2.1.A x10.2.1.n x10.2.1.c v36 x10.2.2.1.A x10.2.2.1.n x10.2.2.1.c v37 x10.2.2.2.1.A x10.2.2.2.1.n x10.2.2.2.1.c v38 v39 x10.2.2.2.2.1.A x10.2.2.2.2.1.n x10.2.2.2.2.1.c v40 v41 x10.2.2.2.2.2.A x10.2.2.2.2.2.n x10.2.2.2.2.2.c v42 v43 hm x8.1.h (Rd.row 8 rfl) x8.2.1.h (Rd.row 9 rfl) x8.2.2.1.h (Rd.row 10 rfl) x8.2.2.2.1.h (Rd.row 11 rfl) x8.2.2.2.2.1.h (Rd.row 12 rfl) x8.2.2.2.2.2.h (Rd.row 13 rfl) x10.1.h (Rd.row 1 rfl) x10.2.1.h (Rd.row 2 rfl) x10.2.2.1.h (Rd.row 3 rfl) x10.2.2.2.1.h (Rd.row 4 rfl) x10.2.2.2.2.1.h (Rd.row 5 rfl) x10.2.2.2.2.2.h (Rd.row 6 rfl) hb8)) rfl rfl (fun x12 => ?_)
      refine r_q (q_assign rfl rfl) rfl rfl ?_
      refine r_nil ?_
      refine j_then ?_
      refine j_seq ?_
      refine j_seq ?_
      refine j_region ?_
      refine r_q (q_move rfl rfl) rfl rfl ?_
      refine r_q (q_move rfl rfl) rfl rfl ?_
      refine r_q (q_bneq un4 rfl rfl rfl) rfl rfl ?_
      refine r_nil ?_
      refine j_then ?_
      rcases of_if h with ⟨c3, h⟩ | ⟨c3, h⟩
      · refine j_false rfl (bne_f c3) ?_
        refine j_skip ?_
        refine j_then ?_
        refine j_seq ?_
        refine j_seq ?_
        obtain ⟨v45, v46, v47, v48, v49, v50, v51, v52, v53, v54, hb9, h⟩ := of_b10 h
        obtain ⟨v55, hb10, h⟩ := of_b1 h
        refine j_draw (.box x11 40 [(.slice x10.1.A x10.1.n x10.1.c), (.slice x10.2.1.A x10.2.1.n x10.2.1.c), (.slice x10.2.2.1.A x10.2.2.1.n x10.2.2.1.c), (.slice x10.2.2.2.1.A x10.2.2.2.1.n x10.2.2.2.1.c), (i6 v38), (.slice x10.2.2.2.2.1.A x10.2.2.2.2.1.n x10.2.2.2.2.1.c), (i6 v40), (.slice x10.2.2.2.2.2.A x10.2.2.2.2.2.n x10.2.2.2.2.2.c), (i6 v42), (.bool v43)] :: .row x10.1.A x10.1.c 3 1 (ii v34) :: .row x10.2.1.A x10.2.1.c 3 1 (ii v35) :: .row x10.2.2.1.A x10.2.2.1.c 3 1 (ii v36) :: .row x10.2.2.2.1.A x10.2.2.2.1.c 3 1 (ii v37) :: .row x10.2.2.2.2.1.A x10.2.2.2.2.1.c 3 1 (ii v39) :: .row x10.2.2.2.2.2.A x10.2.2.2.2.2.c 68 3 (trips v41) :: .box x9 40 [(.slice x8.1.A x8.1.n x8.1.c), (.slice x8.2.1.A x8.2.1.n x8.2.1.c), (.slice x8.2.2.1.A x8.2.2.1.n x8.2.2.1.c), (.slice x8.2.2.2.1.A x8.2.2.2.1.n x8.2.2.2.1.c), (i6 v28), (.slice x8.2.2.2.2.1.A x8.2.2.2.2.1.n x8.2.2.2.2.1.c), (i6 v30), (.slice x8.2.2.2.2.2.A x8.2.2.2.2.2.n x8.2.2.2.2.2.c), (i6 v32), (.bool v33)] :: .row x8.1.A x8.1.c 3 1 (ii v24) :: .row x8.2.1.A x8.2.1.c 3 1 (ii v25) :: .row x8.2.2.1.A x8.2.2.1.c 3 1 (ii v26) :: .row x8.2.2.2.1.A x8.2.2.2.1.c 3 1 (ii v27) :: .row x8.2.2.2.2.1.A x8.2.2.2.2.1.c 3 1 (ii v29) :: .row x8.2.2.2.2.2.A x8.2.2.2.2.2.c 68 3 (trips v31) :: .row x6.1.A x6.1.c 3 1 (ii v13) :: .row x6.2.1.A x6.2.1.c 3 1 (ii v14) :: .row x6.2.2.1.A x6.2.2.1.c 3 1 (ii v15) :: .row x6.2.2.2.1.A x6.2.2.2.1.c 3 1 (ii v16) :: .row x6.2.2.2.2.1.A x6.2.2.2.2.1.c 3 1 (ii v18) :: .row x6.2.2.2.2.2.A x6.2.2.2.2.2.c 68 3 (trips v20) :: .row x5.1.A x5.1.c 3 1 (ii v3) :: .row x5.2.1.A x5.2.1.c 3 1 (ii v4) :: .row x5.2.2.1.A x5.2.2.1.c 3 1 (ii v5) :: .row x5.2.2.2.1.A x5.2.2.2.1.c 3 1 (ii v6) :: .row x5.2.2.2.2.1.A x5.2.2.2.2.1.c 3 1 (ii v8) :: .row x5.2.2.2.2.2.A x5.2.2.2.2.2.c 68 3 (trips v10) :: .box x2 31 [(.slice a1_0_A a1_0_n a1_0_c), (.slice a1_1_A a1_1_n a1_1_c), (.slice a1_2_A a1_2_n a1_2_c), (.slice a1_3_A a1_3_n a1_3_c), (i6 a1_4), (.slice a1_5_A a1_5_n a1_5_c), (i6 a1_6), (.slice a1_7_A a1_7_n a1_7_c), (i6 a1_8), (.bool a1_9)] :: .box x1 31 [(.slice a0_0_A a0_0_n a0_0_c), (.slice a0_1_A a0_1_n a0_1_c), (.slice a0_2_A a0_2_n a0_2_c), (.slice a0_3_A a0_3_n a0_3_c), (i6 a0_4), (.slice a0_5_A a0_5_n a0_5_c), (i6 a0_6), (.slice a0_7_A a0_7_n a0_7_c), (i6 a0_8), (.bool a0_9)] :: F) 5 follows_any rfl ?_
        refine d_take 0 rfl (q_loadb_agg 7 rfl ag40 sz40 rfl rfl rfl rfl) rfl rfl (by kernel_rfl) (by kernel_rfl) (by kernel_rfl) (fun w h => h) ?_
        refine d_take 1 rfl (q_loadb_agg 27 rfl ag31 sz31 rfl rfl rfl rfl) rfl rfl (by kernel_rfl) (by kernel_rfl) (by kernel_rfl) (fun w h => h) ?_
        refine d_one 2 (by kernel_rfl) ?_
        refine o_do rfl (a_call ok10 rfl rfl rfl rfl (fun w hm => laws_toBoth.calls K a0_0 a0_0_A a0_0_n a0_0_c a0_1 a0_1_A a0_1_n a0_1_c a0_2 a0_2_A a0_2_n a0_2_c a0_3 a0_3_A a0_3_n a0_3_c a0_4 a0_5 a0_5_A a0_5_n a0_5_c a0_6 a0_7 a0_7_A a0_7_n a0_7_c a0_8 a0_9 hm a0_0_h (Rd.drop 28 a0_0_R) a0_1_h (Rd.drop 28 a0_1_R) a0_2_h (Rd.drop 28 a0_2_R) a0_3_h (Rd.drop 28 a0_3_R) a0_5_h (Rd.drop 28 a0_5_R) a0_7_h (Rd.drop 28 a0_7_R) hb9)) rfl rfl (fun x13 w h => (h.drop 6)) (fun x13 => ?_)
        refine d_one 3 (by kernel_rfl) ?_
        refine o_do rfl (a_call ok12 rfl rfl rfl rfl (fun w hm => laws_eqBoth.calls K v24 x8.1.A x8.1.n x8.1.c v25 x8.2.1.A x8.2.1.n x8.2.1.c v26 x8.2.2.1.A x8.2.2.1.n x8.2.2.1.c v27 x8.2.2.2.1.A x8.2.2.2.1.n x8.2.2.2.1.c v28 v29 x8.2.2.2.2.1.A x8.2.2.2.2.1.n x8.2.2.2.2.1.c v30 v31 x8.2.2.2.2.2.A x8.2.2.2.2.2.n x8.2.2.2.2.2.c v32 v33 v45 x13.1.A x13.1.n x13.1.c v46 x13.2.1.A x13.2.1.n x13.2.1.c v47 x13.2.2.1.A x13.2.2.1.n x13.2.2.1.c v48 x13.2.2.2.1.A x13.2.2.2.1.n x13.2.2.2.1.c v49 v50 x13.2.2.2.2.1.A x13.2.2.2.2.1.n x13.2.2.2.2.1.c v51 v52 x13.2.2.2.2.2.A x13.2.2.2.2.2.n x13.2.2.2.2.2.c v53 v54 hm x8.1.h (Rd.row 14 rfl) x8.2.1.h (Rd.row 15 rfl) x8.2.2.1.h (Rd.row 16 rfl) x8.2.2.2.1.h (Rd.row 17 rfl) x8.2.2.2.2.1.h (Rd.row 18 rfl) x8.2.2.2.2.2.h (Rd.row 19 rfl) x13.1.h (Rd.row 0 rfl) x13.2.1.h (Rd.row 1 rfl) x13.2.2.1.h (Rd.row 2 rfl) x13.2.2.2.1.h (Rd.row 3 rfl) x13.2.2.2.2.1.h (Rd.row 4 rfl) x13.2.2.2.2.2.h (Rd.row 5 rfl) hb10)) rfl rfl (fun x14 w h => (h.drop 6)) (fun x14 => ?_)
        refine d_take 4 rfl (q_not rfl rfl) rfl rfl (by kernel_rfl) (by kernel_rfl) (by kernel_rfl) (fun w h => (h.drop 6)) ?_
        refine d_done (by kernel_rfl) ?_
        refine j_then ?_
        rcases of_if h with ⟨c4, h⟩ | ⟨c4, h⟩
        · refine j_false rfl (not_f c4) ?_
          refine j_skip ?_
          refine j_then ?_
          refine j_seq ?_
          refine j_seq ?_
          obtain ⟨v56, v57, v58, v59, v60, v61, v62, v63, v64, v65, hb11, h⟩ := of_b10 h
          obtain ⟨v66, hb12, h⟩ := of_b1 h
          refine j_draw (.row x13.1.A x13.1.c 3 1 (ii v45) :: .row x13.2.1.A x13.2.1.c 3 1 (ii v46) :: .row x13.2.2.1.A x13.2.2.1.c 3 1 (ii v47) :: .row x13.2.2.2.1.A x13.2.2.2.1.c 3 1 (ii v48) :: .row x13.2.2.2.2.1.A x13.2.2.2.2.1.c 3 1 (ii v50) :: .row x13.2.2.2.2.2.A x13.2.2.2.2.2.c 68 3 (trips v52) :: .box x11 40 [(.slice x10.1.A x10.1.n x10.1.c), (.slice x10.2.1.A x10.2.1.n x10.2.1.c), (.slice x10.2.2.1.A x10.2.2.1.n x10.2.2.1.c), (.slice x10.2.2.2.1.A x10.2.2.2.1.n x10.2.2.2.1.c), (i6 v38), (.slice x10.2.2.2.2.1.A x10.2.2.2.2.1.n x10.2.2.2.2.1.c), (i6 v40), (.slice x10.2.2.2.2.2.A x10.2.2.2.2.2.n x10.2.2.2.2.2.c), (i6 v42), (.bool v43)] :: .row x10.1.A x10.1.c 3 1 (ii v34) :: .row x10.2.1.A x10.2.1.c 3 1 (ii v35) :: .row x10.2.2.1.A x10.2.2.1.c 3 1 (ii v36) :: .row x10.2.2.2.1.A x10.2.2.2.1.c 3 1 (ii v37) :: .row x10.2.2.2.2.1.A x10.2.2.2.2.1.c 3 1 (ii v39) :: .row x10.2.2.2.2.2.A x10.2.2.2.2.2.c 68 3 (trips v41) :: .box x9 40 [(.slice x8.1.A x8.1.n x8.1.c), (.slice x8.2.1.A x8.2.1.n x8.2.1.c), (.slice x8.2.2.1.A x8.2.2.1.n x8.2.2.1.c), (.slice x8.2.2.2.1.A x8.2.2.2.1.n x8.2.2.2.1.c), (i6 v28), (.slice x8.2.2.2.2.1.A x8.2.2.2.2.1.n x8.2.2.2.2.1.c), (i6 v30), (.slice x8.2.2.2.2.2.A x8.2.2.2.2.2.n x8.2.2.2.2.2.c), (i6 v32), (.bool v33)] :: .row x8.1.A x8.1.c 3 1 (ii v24) :: .row x8.2.1.A x8.2.1.c 3 1 (ii v25) :: .row x8.2.2.1.A x8.2.2.1.c 3 1 (ii v26) :: .row x8.2.2.2.1.A x8.2.2.2.1.c 3 1 (ii v27) :: .row x8.2.2.2.2.1.A x8.2.2.2.2.1.c 3 1 (ii v29) :: .row x8.2.2.2.2.2.A x8.2.2.2.2.2.c 68 3 (trips v31) :: .row x6.1.A x6.1.c 3 1 (ii v13) :: .row x6.2.1.A x6.2.1.c 3 1 (ii v14) :: .row x6.2.2.1.A x6.2.2.1.c 3 1 (ii v15) :: .row x6.2.2.2.1.A x6.2.2.2.1.c 3 1 (ii v16) :: .row x6.2.2.2.2.1.A x6.2.2.2.2.1.c 3 1 (ii v18) :: .row x6.2.2.2.2.2.A x6.2.2.2.2.2.c 68 3 (trips v20) :: .row x5.1.A x5.1.c 3 1 (ii v3) :: .row x5.2.1.A x5.2.1.c 3 1 (ii v4) :: .row x5.2.2.1.A x5.2.2.1.c 3 1 (ii v5) :: .row x5.2.2.2.1.A x5.2.2.2.1.c 3 1 (ii v6) :: .row x5.2.2.2.2.1.A x5.2.2.2.2.1.c 3 1 (ii v8) :: .row x5.2.2.2.2.2.A x5.2.2.2.2.2.c 68 3 (trips v10) :: .box x2 31 [(.slice a1_0_A a1_0_n a1_0_c), (.slice a1_1_A a1_1_n a1_1_c), (.slice a1_2_A a1_2_n a1_2_c), (.slice a1_3_A a1_3_n a1_3_c), (i6 a1_4), (.slice a1_5_A a1_5_n a1_5_c), (i6 a1_6), (.slice a1_7_A a1_7_n a1_7_c), (i6 a1_8), (.bool a1_9)] :: .box x1 31 [(.slice a0_0_A a0_0_n a0_0_c), (.slice a0_1_A a0_1_n a0_1_c), (.slice a0_2_A a0_2_n a0_2_c), (.slice a0_3_A a0_3_n a0_3_c), (i6 a0_4), (.slice a0_5_A a0_5_n a0_5_c), (i6 a0_6), (.slice a0_7_A a0_7_n a0_7_c), (i6 a0_8), (.bool a0_9)] :: F) 5 follows_any rfl ?_
          refine d_take 0 rfl (q_loadb_agg 6 rfl ag40 sz40 rfl rfl rfl rfl) rfl rfl (by kernel_rfl) (by kernel_rfl) (by kernel_rfl) (fun w h => h) ?_
          refine d_take 1 rfl (q_loadb_agg 32 rfl ag31 sz31 rfl rfl rfl rfl) rfl rfl (by kernel_rfl) (by kernel_rfl) (by kernel_rfl) (fun w h => h) ?_
          refine d_one 2 (by kernel_rfl) ?_
          refine o_do rfl (a_call ok10 rfl rfl rfl rfl (fun w hm => laws_toBoth.calls K a1_0 a1_0_A a1_0_n a1_0_c a1_1 a1_1_A a1_1_n a1_1_c a1_2 a1_2_A a1_2_n a1_2_c a1_3 a1_3_A a1_3_n a1_3_c a1_4 a1_5 a1_5_A a1_5_n a1_5_c a1_6 a1_7 a1_7_A a1_7_n a1_7_c a1_8 a1_9 hm a1_0_h (Rd.drop 34 a1_0_R) a1_1_h (Rd.drop 34 a1_1_R) a1_2_h (Rd.drop 34 a1_2_R) a1_3_h (Rd.drop 34 a1_3_R) a1_5_h (Rd.drop 34 a1_5_R) a1_7_h (Rd.drop 34 a1_7_R) hb11)) rfl rfl (fun x15 w h => (h.drop 6)) (fun x15 => ?_)
          refine d_one 3 (by kernel_rfl) ?_
          refine o_do rfl (a_call ok12 rfl rfl rfl rfl (fun w hm => laws_eqBoth.calls K v34 x10.1.A x10.1.n x10.1.c v35 x10.2.1.A x10.2.1.n x10.2.1.c v36 x10.2.2.1.A x10.2.2.1.n x10.2.2.1.c v37 x10.2.2.2.1.A x10.2.2.2.1.n x10.2.2.2.1.c v38 v39 x10.2.2.2.2.1.A x10.2.2.2.2.1.n x10.2.2.2.2.1.c v40 v41 x10.2.2.2.2.2.A x10.2.2.2.2.2.n x10.2.2.2.2.2.c v42 v43 v56 x15.1.A x15.1.n x15.1.c v57 x15.2.1.A x15.2.1.n x15.2.1.c v58 x15.2.2.1.A x15.2.2.1.n x15.2.2.1.c v59 x15.2.2.2.1.A x15.2.2.2.1.n x15.2.2.2.1.c v60 v61 x15.2.2.2.2.1.A x15.2.2.2.2.1.n x15.2.2.2.2.1.c v62 v63 x15.2.2.2.2.2.A x15.2.2.2.2.2.n x15.2.2.2.2.2.c v64 v65 hm x10.1.h (Rd.row 13 rfl) x10.2.1.h (Rd.row 14 rfl) x10.2.2.1.h (Rd.row 15 rfl) x10.2.2.2.1.h (Rd.row 16 rfl) x10.2.2.2.2.1.h (Rd.row 17 rfl) x10.2.2.2.2.2.h (Rd.row 18 rfl) x15.1.h (Rd.row 0 rfl) x15.2.1.h (Rd.row 1 rfl) x15.2.2.1.h (Rd.row 2 rfl) x15.2.2.2.1.h (Rd.row 3 rfl) x15.2.2.2.2.1.h (Rd.row 4 rfl) x15.2.2.2.2.2.h (Rd.row 5 rfl) hb12)) rfl rfl (fun x16 w h => (h.drop 6)) (fun x16 => ?_)
          refine d_take 4 rfl (q_not rfl rfl) rfl rfl (by kernel_rfl) (by kernel_rfl) (by kernel_rfl) (fun w h => (h.drop 6)) ?_
          refine d_done (by kernel_rfl) ?_
          refine j_then ?_
          rcases of_if h with ⟨c5, h⟩ | ⟨c5, h⟩
          · refine j_false rfl (not_f c5) ?_
            refine j_skip ?_
            refine j_then ?_
            refine j_seq ?_
            refine j_region ?_
            refine r_q (q_assign rfl rfl) rfl rfl ?_
            refine r_nil ?_
            refine j_then ?_
            refine j_ret ?_
            cases h
            exact j_return rfl (ResOf.tmp rfl ResOf.nil) rfl (fun w h => ⟨(), rfl, (h.drop 40)⟩)
          · refine j_true rfl (not_t (var_f c5)) ?_
            refine j_seq ?_
            refine j_region ?_
            refine r_q (q_assign rfl rfl) rfl rfl ?_
            refine r_nil ?_
            refine j_then ?_
            refine j_ret ?_
            refine j_then_ret ?_
            cases h
            exact j_return rfl (ResOf.tmp rfl ResOf.nil) rfl (fun w h => ⟨(), rfl, (h.drop 40)⟩)
        · refine j_true rfl (not_t (var_f c4)) ?_
          refine j_seq ?_
          refine j_region ?_
          refine r_q (q_assign rfl rfl) rfl rfl ?_
          refine r_nil ?_
          refine j_then ?_
          refine j_ret ?_
          refine j_then_ret ?_
          cases h
          exact j_return rfl (ResOf.tmp rfl ResOf.nil) rfl (fun w h => ⟨(), rfl, (h.drop 34)⟩)
      · refine j_true rfl (bne_t c3) ?_
        refine j_seq ?_
        refine j_region ?_
        refine r_q (q_assign rfl rfl) rfl rfl ?_
        refine r_nil ?_
        refine j_then ?_
        refine j_ret ?_
        refine j_then_ret ?_
        cases h
        exact j_return rfl (ResOf.tmp rfl ResOf.nil) rfl (fun w h => ⟨(), rfl, (h.drop 28)⟩)

end Go.Proofs.Ytpfkcjddilpbkaa.F
