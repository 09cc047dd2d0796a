/- The program computes these pure functions, printed by the generator of wip/gen. -/
import Derived.Test.YtcdcikmphonkfaaFa
import Derived.Test.YtcdcikmphonkfaaFb
namespace Go.Proofs.Ytcdcikmphonkfaa.F
open Go Go.RowKit Go.Proofs.Ytcdcikmphonkfaa.S
set_option linter.unusedVariables false
set_option maxRecDepth 100000
theorem laws_markIntS.calls (K : Nat) (a0 : List Int) (a0_A : Option Addr) (a0_n a0_c : Nat) (a1 : Int) {w0 w : World} {F : List Res} {r1 : Int} {r2 : List Int} (hm : Mem w0 (.row a0_A a0_c 3 1 (ii a0) :: F) w) (a0_h : a0.length = a0_n) (h : laws_markIntS.f K a0 a1 = some (r1, r2)) :
    Calls Try.prog 75 (List.toArray [.slice a0_A a0_n a0_c, i6 a1]) w fun e w' => ∃ x : (Ln r2.length a0.length), e = .returned (i6 r1) ∧ Mem w0 (.row a0_A a0_c 3 1 (ii r2) :: F) w' := by
  unfold laws_markIntS.f at h
  refine calls_of_J (n := 19) Try.func75 rfl rfl rfl hm ?_
  refine j_seq ?_
  refine j_region ?_
  refine r_q (q_assign rfl rfl) rfl rfl ?_
  refine r_nil ?_
  refine j_then ?_
  refine j_seq ?_
  refine j_seq ?_
  refine j_region ?_
  refine r_q (q_assign rfl rfl) rfl rfl ?_
  refine r_nil ?_
  refine j_then ?_
  obtain ⟨κ0, h, hκ0⟩ := ex_k (g := fun κ => laws_markIntS.loop0 K κ K a1 (0:Int) a0 = some (r1, r2)) h
  refine j_cut (σ := Int × (List Int)) (fun s => [(1, (i6 s.1))]) (fun s => .row a0_A a0_c 3 1 (ii s.2) :: F) (fun s => κ0 s.1 s.2 = some (r1, r2) ∧ (s.2.length = a0_n)) ?_ ?_
  · refine j_block ?_
    refine j_loop (σ := Int × Int × (List Int)) (fun s => [(0, (.slice a0_A a0_n a0_c)), (1, (i6 s.1)), (5, (i6 s.2.1))]) (fun s => .row a0_A a0_c 3 1 (ii s.2.2) :: F) (fun m s => laws_markIntS.loop0 K κ0 m s.1 s.2.1 s.2.2 = some (r1, r2) ∧ (s.2.2.length = a0_n)) K (a1, (0:Int), a0) ⟨h, a0_h⟩ (fun a he => he.sub ⟨rfl, rfl, rfl, trivial⟩) (fun w h => h) ?_
    rintro m ⟨p3, p4, l2⟩ ⟨h, q2⟩
    cases m with
    | zero => exact absurd h (by rw [laws_markIntS.loop0]; exact nofun)
    | succ m =>
      rw [laws_markIntS.loop0] at h
      show J _ _ [(0, (.slice a0_A a0_n a0_c)), (1, (i6 p3)), (5, (i6 p4))] _ (.row a0_A a0_c 3 1 (ii l2) :: F)
      refine j_seq ?_
      refine j_seq ?_
      refine j_region ?_
      refine r_q (q_move rfl rfl) rfl rfl ?_
      refine r_q (q_move rfl rfl) rfl rfl ?_
      refine r_q (q_lenX l2 q2 un23 rfl rfl rfl rfl rfl) rfl rfl ?_
      refine r_q (q_lss rfl rfl rfl) rfl rfl ?_
      refine r_nil ?_
      refine j_then ?_
      rcases of_if h with ⟨c7, h⟩ | ⟨c7, h⟩
      · refine j_true rfl (decide_eq_true c7) ?_
        refine j_skip ?_
        refine j_then ?_
        refine j_seq ?_
        refine j_block ?_
        refine j_seq ?_
        refine j_region ?_
        refine r_q (q_move rfl rfl) rfl rfl ?_
        refine r_q (q_move rfl rfl) rfl rfl ?_
        refine r_q (q_move rfl rfl) rfl rfl ?_
        obtain ⟨c8, h⟩ := of_guard h
        refine r_q (q_ix (Rd.row 0 rfl) (ints_len1 _ l2) (by decide) q2 c8 un23 sz3 rfl rfl rfl) rfl rfl ?_
        refine r_do (a_stI 0 rfl c8 sz3 rfl rfl rfl) rfl rfl (fun _ => ?_)
        refine j_s0 ?_
        refine r_nil ?_
        refine j_then ?_
        refine j_region ?_
        refine r_q (q_move rfl rfl) rfl rfl ?_
        refine r_q (q_add rfl rfl rfl) rfl rfl ?_
        refine r_q (q_assign rfl rfl) rfl rfl ?_
        refine r_nil ?_
        refine j_in ?_
        refine j_then ?_
        refine j_region ?_
        refine r_q (q_move rfl rfl) rfl rfl ?_
        refine r_q (q_add rfl rfl rfl) rfl rfl ?_
        refine r_q (q_assign rfl rfl) rfl rfl ?_
        refine r_nil ?_
        refine j_then ?_
        exact j_again m ((wrap64 (p3 + (1:Int))), (wrap64 (p4 + (1:Int))), (l2.set p4.toNat p3)) (Nat.lt_succ_self m) ⟨h, (set_len q2 _ _)⟩ (fun a he => he.sub ⟨rfl, rfl, rfl, trivial⟩) (fun w h => h)
      · refine j_false rfl (decide_eq_false c7) ?_
        refine j_exit ?_
        refine j_then_exit ?_
        refine j_then_exit ?_
        refine j_in_exit ?_
        refine j_then ?_
        exact j_meet (p3, l2) ⟨h, q2⟩ (fun a he => he.sub ⟨rfl, trivial⟩) (fun w h => h)
  · rintro ⟨p5, l3⟩ ⟨h, q3⟩
    subst hκ0
    show J _ _ [(1, (i6 p5))] _ (.row a0_A a0_c 3 1 (ii l3) :: F)
    refine j_then ?_
    refine j_seq ?_
    refine j_region ?_
    refine r_q (q_move rfl rfl) rfl rfl ?_
    refine r_q (q_assign rfl rfl) rfl rfl ?_
    refine r_nil ?_
    refine j_then ?_
    refine j_ret ?_
    cases h
    exact j_return rfl (ResOf.tmp rfl ResOf.nil) rfl (fun w h => ⟨⟨Eq.trans q3 a0_h.symm⟩, rfl, h⟩)

theorem laws_markHeap.calls (K : Nat) (a0_0 : List Int) (a0_0_A : Option Addr) (a0_0_n a0_0_c : Nat) (a0_1 : List Int) (a0_1_A : Option Addr) (a0_1_n a0_1_c : Nat) (a0_2 : List Int) (a0_2_A : Option Addr) (a0_2_n a0_2_c : Nat) (a1 : Int) {w0 w : World} {F : List Res} {r1 : Int} {r2 : List Int} {r3 : List Int} {r4 : List Int} (hm : Mem w0 (.row a0_0_A a0_0_c 3 1 (ii a0_0) :: .row a0_1_A a0_1_c 3 1 (ii a0_1) :: .row a0_2_A a0_2_c 3 1 (ii a0_2) :: F) w) (a0_0_h : a0_0.length = a0_0_n) (a0_1_h : a0_1.length = a0_1_n) (a0_2_h : a0_2.length = a0_2_n) (h : laws_markHeap.f K a0_0 a0_1 a0_2 a1 = some (r1, r2, r3, r4)) :
    Calls Try.prog 74 (List.toArray [.agg (List.toArray [.slice a0_0_A a0_0_n a0_0_c, .slice a0_1_A a0_1_n a0_1_c, .slice a0_2_A a0_2_n a0_2_c]), i6 a1]) w fun e w' => ∃ x : (Ln r2.length a0_0.length) × (Ln r3.length a0_1.length) × (Ln r4.length a0_2.length), e = .returned (i6 r1) ∧ Mem w0 (.row a0_0_A a0_0_c 3 1 (ii r2) :: .row a0_1_A a0_1_c 3 1 (ii r3) :: .row a0_2_A a0_2_c 3 1 (ii r4) :: F) w' := by
  unfold laws_markHeap.f at h
  refine calls_of_J (n := 18) Try.func74 rfl rfl rfl hm ?_
  refine j_seq ?_
  refine j_region ?_
  refine r_do (a_box rfl rfl) rfl rfl (fun x1 => ?_)
  refine r_q (q_assign rfl rfl) rfl rfl ?_
  refine r_nil ?_
  refine j_then ?_
  refine j_seq ?_
  refine j_region ?_
  refine r_q (q_fieldAddr fi25_0 sz23 rfl rfl rfl) rfl rfl ?_
  refine r_q (q_loadb 0 rfl ag23 rfl rfl rfl) rfl rfl ?_
  refine r_q (q_move rfl rfl) rfl rfl ?_
  obtain ⟨v1, v2, hb1, h⟩ := of_b2 h
  refine j_rs (.row a0_0_A a0_0_c 3 1 (ii a0_0) :: .box x1 25 [(.slice a0_0_A a0_0_n a0_0_c), (.slice a0_1_A a0_1_n a0_1_c), (.slice a0_2_A a0_2_n a0_2_c)] :: .row a0_1_A a0_1_c 3 1 (ii a0_1) :: .row a0_2_A a0_2_c 3 1 (ii a0_2) :: F) (fun _ h => h.pick 4 [1, 0, 2, 3] rfl) ?_
  refine r_do (a_call ok75 rfl rfl rfl rfl (fun w hm => laws_markIntS.calls K a0_0 a0_0_A a0_0_n a0_0_c a1 hm a0_0_h hb1)) rfl rfl (fun x2 => ?_)
  refine r_q (q_assign rfl rfl) rfl rfl ?_
  refine r_nil ?_
  refine j_then ?_
  refine j_seq ?_
  refine j_region ?_
  refine r_q (q_fieldAddr fi25_1 sz23 rfl rfl rfl) rfl rfl ?_
  refine r_q (q_loadb 1 rfl ag23 rfl rfl rfl) rfl rfl ?_
  refine r_q (q_move rfl rfl) rfl rfl ?_
  obtain ⟨v3, v4, hb2, h⟩ := of_b2 h
  refine j_rs (.row a0_1_A a0_1_c 3 1 (ii a0_1) :: .row a0_0_A a0_0_c 3 1 (ii v2) :: .box x1 25 [(.slice a0_0_A a0_0_n a0_0_c), (.slice a0_1_A a0_1_n a0_1_c), (.slice a0_2_A a0_2_n a0_2_c)] :: .row a0_2_A a0_2_c 3 1 (ii a0_2) :: F) (fun _ h => h.pick 4 [2, 0, 1, 3] rfl) ?_
  refine r_do (a_call ok75 rfl rfl rfl rfl (fun w hm => laws_markIntS.calls K a0_1 a0_1_A a0_1_n a0_1_c v1 hm a0_1_h hb2)) rfl rfl (fun x3 => ?_)
  refine r_q (q_assign rfl rfl) rfl rfl ?_
  refine r_nil ?_
  refine j_then ?_
  refine j_seq ?_
  refine j_region ?_
  refine r_q (q_fieldAddr fi25_2 sz23 rfl rfl rfl) rfl rfl ?_
  refine r_q (q_loadb 2 rfl ag23 rfl rfl rfl) rfl rfl ?_
  refine r_q (q_move rfl rfl) rfl rfl ?_
  obtain ⟨v5, v6, hb3, h⟩ := of_b2 h
  refine j_rs (.row a0_2_A a0_2_c 3 1 (ii a0_2) :: .row a0_1_A a0_1_c 3 1 (ii v4) :: .row a0_0_A a0_0_c 3 1 (ii v2) :: .box x1 25 [(.slice a0_0_A a0_0_n a0_0_c), (.slice a0_1_A a0_1_n a0_1_c), (.slice a0_2_A a0_2_n a0_2_c)] :: F) (fun _ h => h.pick 4 [3, 0, 1, 2] rfl) ?_
  refine r_do (a_call ok75 rfl rfl rfl rfl (fun w hm => laws_markIntS.calls K a0_2 a0_2_A a0_2_n a0_2_c v3 hm a0_2_h hb3)) rfl rfl (fun x4 => ?_)
  refine r_q (q_assign rfl rfl) rfl rfl ?_
  refine r_nil ?_
  refine j_then ?_
  refine j_seq ?_
  refine j_region ?_
  refine r_q (q_move rfl rfl) rfl rfl ?_
  refine r_q (q_assign rfl rfl) rfl rfl ?_
  refine r_nil ?_
  refine j_then ?_
  refine j_ret ?_
  cases h
  exact j_return rfl (ResOf.tmp rfl ResOf.nil) rfl (fun w h => ⟨(⟨Eq.trans (x2.h.trans a0_0_h) a0_0_h.symm⟩, ⟨Eq.trans (x3.h.trans a0_1_h) a0_1_h.symm⟩, ⟨Eq.trans (x4.h.trans a0_2_h) a0_2_h.symm⟩), rfl, h.pick 4 [2, 1, 0] rfl⟩)

theorem laws_heldIntS.calls (K : Nat) (a0 : List Int) (a0_A : Option Addr) (a0_n a0_c : Nat) (a1 : Int) {w0 w : World} {F : List Res} {r1 : Int} (hm : Mem w0 (F) w) (a0_h : a0.length = a0_n) (a0_R : Rd w0 F a0_A (ii a0)) (h : laws_heldIntS.f K a0 a1 = some r1) :
    Calls Try.prog 77 (List.toArray [.slice a0_A a0_n a0_c, i6 a1]) w fun e w' => ∃ x : Unit, e = .returned (i6 r1) ∧ Mem w0 (F) w' := by
  unfold laws_heldIntS.f at h
  refine calls_of_J (n := 21) Try.func77 rfl rfl rfl hm ?_
  refine j_seq ?_
  refine j_region ?_
  refine r_q (q_assign rfl rfl) rfl rfl ?_
  refine r_nil ?_
  refine j_then ?_
  refine j_seq ?_
  refine j_seq ?_
  refine j_region ?_
  refine r_q (q_assign rfl rfl) rfl rfl ?_
  refine r_nil ?_
  refine j_then ?_
  obtain ⟨κ0, h, hκ0⟩ := ex_k (g := fun κ => laws_heldIntS.loop0 K κ a0 K a1 (0:Int) = some r1) h
  refine j_cut (σ := Int) (fun s => [(1, (i6 s))]) (fun s => F) (fun s => κ0 s = some r1) ?_ ?_
  · refine j_block ?_
    refine j_loop (σ := Int × Int) (fun s => [(0, (.slice a0_A a0_n a0_c)), (1, (i6 s.1)), (5, (i6 s.2))]) (fun s => F) (fun m s => laws_heldIntS.loop0 K κ0 a0 m s.1 s.2 = some r1) K (a1, (0:Int)) h (fun a he => he.sub ⟨rfl, rfl, rfl, trivial⟩) (fun w h => h) ?_
    rintro m ⟨p3, p4⟩ h
    cases m with
    | zero => exact absurd h (by rw [laws_heldIntS.loop0]; exact nofun)
    | succ m =>
      rw [laws_heldIntS.loop0] at h
      show J _ _ [(0, (.slice a0_A a0_n a0_c)), (1, (i6 p3)), (5, (i6 p4))] _ (F)
      refine j_seq ?_
      refine j_seq ?_
      refine j_region ?_
      refine r_q (q_move rfl rfl) rfl rfl ?_
      refine r_q (q_move rfl rfl) rfl rfl ?_
      refine r_q (q_lenX a0 a0_h un23 rfl rfl rfl rfl rfl) rfl rfl ?_
      refine r_q (q_lss rfl rfl rfl) rfl rfl ?_
      refine r_nil ?_
      refine j_then ?_
      rcases of_if h with ⟨c10, h⟩ | ⟨c10, h⟩
      · refine j_true rfl (decide_eq_true c10) ?_
        refine j_skip ?_
        refine j_then ?_
        refine j_seq ?_
        refine j_block ?_
        refine j_seq ?_
        refine j_seq ?_
        refine j_region ?_
        refine r_q (q_move rfl rfl) rfl rfl ?_
        refine r_q (q_move rfl rfl) rfl rfl ?_
        obtain ⟨c11, h⟩ := of_guard h
        refine r_q (q_ix a0_R (ints_len1 _ a0) (by decide) a0_h c11 un23 sz3 rfl rfl rfl) rfl rfl ?_
        refine r_q (q_ldI a0_R c11 ag3 rfl rfl) rfl rfl ?_
        refine r_q (q_move rfl rfl) rfl rfl ?_
        refine r_q (q_neq rfl rfl rfl) rfl rfl ?_
        refine r_nil ?_
        refine j_then ?_
        rcases of_if h with ⟨c12, h⟩ | ⟨c12, h⟩
        · refine j_false rfl (bne_f c12) ?_
          refine j_skip ?_
          refine j_then ?_
          refine j_region ?_
          refine r_q (q_move rfl rfl) rfl rfl ?_
          refine r_q (q_add rfl rfl rfl) rfl rfl ?_
          refine r_q (q_assign rfl rfl) rfl rfl ?_
          refine r_nil ?_
          refine j_in ?_
          refine j_then ?_
          refine j_region ?_
          refine r_q (q_move rfl rfl) rfl rfl ?_
          refine r_q (q_add rfl rfl rfl) rfl rfl ?_
          refine r_q (q_assign rfl rfl) rfl rfl ?_
          refine r_nil ?_
          refine j_then ?_
          exact j_again m ((wrap64 (p3 + (1:Int))), (wrap64 (p4 + (1:Int)))) (Nat.lt_succ_self m) h (fun a he => he.sub ⟨rfl, rfl, rfl, trivial⟩) (fun w h => h)
        · refine j_true rfl (bne_t c12) ?_
          refine j_seq ?_
          refine j_region ?_
          refine r_q (q_assign rfl rfl) rfl rfl ?_
          refine r_nil ?_
          refine j_then ?_
          refine j_ret ?_
          refine j_then_ret ?_
          refine j_in_ret ?_
          refine j_then_ret ?_
          refine j_then_ret ?_
          refine j_in_ret ?_
          refine j_then_ret ?_
          refine j_then_ret ?_
          cases h
          exact j_return rfl (ResOf.tmp rfl ResOf.nil) rfl (fun w h => ⟨(), rfl, h⟩)
      · refine j_false rfl (decide_eq_false c10) ?_
        refine j_exit ?_
        refine j_then_exit ?_
        refine j_then_exit ?_
        refine j_in_exit ?_
        refine j_then ?_
        exact j_meet p3 h (fun a he => he.sub ⟨rfl, trivial⟩) (fun w h => h)
  · rintro p5 h
    subst hκ0
    show J _ _ [(1, (i6 p5))] _ (F)
    refine j_then ?_
    refine j_seq ?_
    refine j_region ?_
    refine r_q (q_move rfl rfl) rfl rfl ?_
    refine r_q (q_assign rfl rfl) rfl rfl ?_
    refine r_nil ?_
    refine j_then ?_
    refine j_ret ?_
    cases h
    exact j_return rfl (ResOf.tmp rfl ResOf.nil) rfl (fun w h => ⟨(), rfl, h⟩)

end Go.Proofs.Ytcdcikmphonkfaa.F
