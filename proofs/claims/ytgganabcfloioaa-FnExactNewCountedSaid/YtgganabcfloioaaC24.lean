/- The program computes these pure functions, printed by the generator of wip/gen. -/
import Derived.Test.YtgganabcfloioaaFa
import Derived.Test.YtgganabcfloioaaFh
import Derived.Test.YtgganabcfloioaaFb
import Derived.Test.YtgganabcfloioaaC0
import Derived.Test.YtgganabcfloioaaC2
import Derived.Test.YtgganabcfloioaaC7
import Derived.Test.YtgganabcfloioaaC12
import Derived.Test.YtgganabcfloioaaC15
namespace Go.Proofs.Ytgganabcfloioaa.F
open Go Go.RowKit Go.Proofs.Ytgganabcfloioaa.S
set_option linter.unusedVariables false
set_option maxRecDepth 100000
theorem laws_markIntS.calls (K : Nat) (a0 : List Int) (a0_A : Option Addr) (a0_n a0_c : Nat) (a1 : Int) {w0 w : World} {F : List Res} {r1 : Int} {r2 : List Int} (hm : Mem w0 (.row a0_A a0_c 3 1 (ii a0) :: F) w) (a0_h : a0.length = a0_n) (h : laws_markIntS.f K a0 a1 = some (r1, r2)) :
    Calls Try.prog 76 (List.toArray [.slice a0_A a0_n a0_c, i6 a1]) w fun e w' => ∃ x : (Ln r2.length a0.length), e = .returned (i6 r1) ∧ Mem w0 (.row a0_A a0_c 3 1 (ii r2) :: F) w' := by
  unfold laws_markIntS.f at h
  refine calls_of_J (n := 19) Try.func76 rfl rfl rfl hm ?_
  refine j_seq ?_
  refine j_region ?_
  refine r_q (q_assign rfl rfl) rfl rfl ?_
  refine r_nil ?_
  refine j_then ?_
  refine j_seq ?_
  refine j_seq ?_
  refine j_region ?_
  refine r_q (q_assign rfl rfl) rfl rfl ?_
  refine r_nil ?_
  refine j_then ?_
  obtain ⟨κ0, h, hκ0⟩ := ex_k (g := fun κ => laws_markIntS.loop0 K κ K a1 (0:Int) a0 = some (r1, r2)) h
  refine j_cut (σ := Int × (List Int)) (fun s => [(1, (i6 s.1))]) (fun s => .row a0_A a0_c 3 1 (ii s.2) :: F) (fun s => κ0 s.1 s.2 = some (r1, r2) ∧ (s.2.length = a0_n)) ?_ ?_
  · refine j_block ?_
    refine j_loop (σ := Int × Int × (List Int)) (fun s => [(0, (.slice a0_A a0_n a0_c)), (1, (i6 s.1)), (5, (i6 s.2.1))]) (fun s => .row a0_A a0_c 3 1 (ii s.2.2) :: F) (fun m s => laws_markIntS.loop0 K κ0 m s.1 s.2.1 s.2.2 = some (r1, r2) ∧ (s.2.2.length = a0_n)) K (a1, (0:Int), a0) ⟨h, a0_h⟩ (fun a he => he.sub ⟨rfl, rfl, rfl, trivial⟩) (fun w h => h) ?_
    rintro m ⟨p3, p4, l2⟩ ⟨h, q2⟩
    cases m with
    | zero => exact absurd h (by rw [laws_markIntS.loop0]; exact nofun)
    | succ m =>
      rw [laws_markIntS.loop0] at h
      show J _ _ [(0, (.slice a0_A a0_n a0_c)), (1, (i6 p3)), (5, (i6 p4))] _ (.row a0_A a0_c 3 1 (ii l2) :: F)
      refine j_seq ?_
      refine j_seq ?_
      refine j_region ?_
      refine r_q (q_move rfl rfl) rfl rfl ?_
      refine r_q (q_move rfl rfl) rfl rfl ?_
      refine r_q (q_lenX l2 q2 un23 rfl rfl rfl rfl rfl) rfl rfl ?_
      refine r_q (q_lss rfl rfl rfl) rfl rfl ?_
      refine r_nil ?_
      refine j_then ?_
      rcases of_if h with ⟨c7, h⟩ | ⟨c7, h⟩
      · refine j_true rfl (decide_eq_true c7) ?_
        refine j_skip ?_
        refine j_then ?_
        refine j_seq ?_
        refine j_block ?_
        refine j_seq ?_
        refine j_region ?_
        refine r_q (q_move rfl rfl) rfl rfl ?_
        refine r_q (q_move rfl rfl) rfl rfl ?_
        refine r_q (q_move rfl rfl) rfl rfl ?_
        obtain ⟨c8, h⟩ := of_guard h
        refine r_q (q_ix (Rd.row 0 rfl) (ints_len1 _ l2) (by decide) q2 c8 un23 sz3 rfl rfl rfl) rfl rfl ?_
        refine r_do (a_stI 0 rfl c8 sz3 rfl rfl rfl) rfl rfl (fun _ => ?_)
        refine j_s0 ?_
        refine r_nil ?_
        refine j_then ?_
        refine j_region ?_
        refine r_q (q_move rfl rfl) rfl rfl ?_
        refine r_q (q_add rfl rfl rfl) rfl rfl ?_
        refine r_q (q_assign rfl rfl) rfl rfl ?_
        refine r_nil ?_
        refine j_in ?_
        refine j_then ?_
        refine j_region ?_
        refine r_q (q_move rfl rfl) rfl rfl ?_
        refine r_q (q_add rfl rfl rfl) rfl rfl ?_
        refine r_q (q_assign rfl rfl) rfl rfl ?_
        refine r_nil ?_
        refine j_then ?_
        exact j_again m ((wrap64 (p3 + (1:Int))), (wrap64 (p4 + (1:Int))), (l2.set p4.toNat p3)) (Nat.lt_succ_self m) ⟨h, (set_len q2 _ _)⟩ (fun a he => he.sub ⟨rfl, rfl, rfl, trivial⟩) (fun w h => h)
      · refine j_false rfl (decide_eq_false c7) ?_
        refine j_exit ?_
        refine j_then_exit ?_
        refine j_then_exit ?_
        refine j_in_exit ?_
        refine j_then ?_
        exact j_meet (p3, l2) ⟨h, q2⟩ (fun a he => he.sub ⟨rfl, trivial⟩) (fun w h => h)
  · rintro ⟨p5, l3⟩ ⟨h, q3⟩
    subst hκ0
    show J _ _ [(1, (i6 p5))] _ (.row a0_A a0_c 3 1 (ii l3) :: F)
    refine j_then ?_
    refine j_seq ?_
    refine j_region ?_
    refine r_q (q_move rfl rfl) rfl rfl ?_
    refine r_q (q_assign rfl rfl) rfl rfl ?_
    refine r_nil ?_
    refine j_then ?_
    refine j_ret ?_
    cases h
    exact j_return rfl (ResOf.tmp rfl ResOf.nil) rfl (fun w h => ⟨⟨Eq.trans q3 a0_h.symm⟩, rfl, h⟩)

theorem laws_markHeap.calls (K : Nat) (a0_0 : List Int) (a0_0_A : Option Addr) (a0_0_n a0_0_c : Nat) (a0_1 : List Int) (a0_1_A : Option Addr) (a0_1_n a0_1_c : Nat) (a0_2 : List Int) (a0_2_A : Option Addr) (a0_2_n a0_2_c : Nat) (a1 : Int) {w0 w : World} {F : List Res} {r1 : Int} {r2 : List Int} {r3 : List Int} {r4 : List Int} (hm : Mem w0 (.row a0_0_A a0_0_c 3 1 (ii a0_0) :: .row a0_1_A a0_1_c 3 1 (ii a0_1) :: .row a0_2_A a0_2_c 3 1 (ii a0_2) :: F) w) (a0_0_h : a0_0.length = a0_0_n) (a0_1_h : a0_1.length = a0_1_n) (a0_2_h : a0_2.length = a0_2_n) (h : laws_markHeap.f K a0_0 a0_1 a0_2 a1 = some (r1, r2, r3, r4)) :
    Calls Try.prog 75 (List.toArray [.agg (List.toArray [.slice a0_0_A a0_0_n a0_0_c, .slice a0_1_A a0_1_n a0_1_c, .slice a0_2_A a0_2_n a0_2_c]), i6 a1]) w fun e w' => ∃ x : (Ln r2.length a0_0.length) × (Ln r3.length a0_1.length) × (Ln r4.length a0_2.length), e = .returned (i6 r1) ∧ Mem w0 (.row a0_0_A a0_0_c 3 1 (ii r2) :: .row a0_1_A a0_1_c 3 1 (ii r3) :: .row a0_2_A a0_2_c 3 1 (ii r4) :: F) w' := by
  unfold laws_markHeap.f at h
  refine calls_of_J (n := 18) Try.func75 rfl rfl rfl hm ?_
  refine j_seq ?_
  refine j_region ?_
  refine r_do (a_box rfl rfl) rfl rfl (fun x1 => ?_)
  refine r_q (q_assign rfl rfl) rfl rfl ?_
  refine r_nil ?_
  refine j_then ?_
  refine j_seq ?_
  refine j_region ?_
  refine r_q (q_fieldAddr fi25_0 sz23 rfl rfl rfl) rfl rfl ?_
  refine r_q (q_loadb 0 rfl ag23 rfl rfl rfl) rfl rfl ?_
  refine r_q (q_move rfl rfl) rfl rfl ?_
  obtain ⟨v1, v2, hb1, h⟩ := of_b2 h
  refine j_rs (.row a0_0_A a0_0_c 3 1 (ii a0_0) :: .box x1 25 [(.slice a0_0_A a0_0_n a0_0_c), (.slice a0_1_A a0_1_n a0_1_c), (.slice a0_2_A a0_2_n a0_2_c)] :: .row a0_1_A a0_1_c 3 1 (ii a0_1) :: .row a0_2_A a0_2_c 3 1 (ii a0_2) :: F) (fun _ h => h.pick 4 [1, 0, 2, 3] rfl) ?_
  refine r_do (a_call ok76 rfl rfl rfl rfl (fun w hm => laws_markIntS.calls K a0_0 a0_0_A a0_0_n a0_0_c a1 hm a0_0_h hb1)) rfl rfl (fun x2 => ?_)
  refine r_q (q_assign rfl rfl) rfl rfl ?_
  refine r_nil ?_
  refine j_then ?_
  refine j_seq ?_
  refine j_region ?_
  refine r_q (q_fieldAddr fi25_1 sz23 rfl rfl rfl) rfl rfl ?_
  refine r_q (q_loadb 1 rfl ag23 rfl rfl rfl) rfl rfl ?_
  refine r_q (q_move rfl rfl) rfl rfl ?_
  obtain ⟨v3, v4, hb2, h⟩ := of_b2 h
  refine j_rs (.row a0_1_A a0_1_c 3 1 (ii a0_1) :: .row a0_0_A a0_0_c 3 1 (ii v2) :: .box x1 25 [(.slice a0_0_A a0_0_n a0_0_c), (.slice a0_1_A a0_1_n a0_1_c), (.slice a0_2_A a0_2_n a0_2_c)] :: .row a0_2_A a0_2_c 3 1 (ii a0_2) :: F) (fun _ h => h.pick 4 [2, 0, 1, 3] rfl) ?_
  refine r_do (a_call ok76 rfl rfl rfl rfl (fun w hm => laws_markIntS.calls K a0_1 a0_1_A a0_1_n a0_1_c v1 hm a0_1_h hb2)) rfl rfl (fun x3 => ?_)
  refine r_q (q_assign rfl rfl) rfl rfl ?_
  refine r_nil ?_
  refine j_then ?_
  refine j_seq ?_
  refine j_region ?_
  refine r_q (q_fieldAddr fi25_2 sz23 rfl rfl rfl) rfl rfl ?_
  refine r_q (q_loadb 2 rfl ag23 rfl rfl rfl) rfl rfl ?_
  refine r_q (q_move rfl rfl) rfl rfl ?_
  obtain ⟨v5, v6, hb3, h⟩ := of_b2 h
  refine j_rs (.row a0_2_A a0_2_c 3 1 (ii a0_2) :: .row a0_1_A a0_1_c 3 1 (ii v4) :: .row a0_0_A a0_0_c 3 1 (ii v2) :: .box x1 25 [(.slice a0_0_A a0_0_n a0_0_c), (.slice a0_1_A a0_1_n a0_1_c), (.slice a0_2_A a0_2_n a0_2_c)] :: F) (fun _ h => h.pick 4 [3, 0, 1, 2] rfl) ?_
  refine r_do (a_call ok76 rfl rfl rfl rfl (fun w hm => laws_markIntS.calls K a0_2 a0_2_A a0_2_n a0_2_c v3 hm a0_2_h hb3)) rfl rfl (fun x4 => ?_)
  refine r_q (q_assign rfl rfl) rfl rfl ?_
  refine r_nil ?_
  refine j_then ?_
  refine j_seq ?_
  refine j_region ?_
  refine r_q (q_move rfl rfl) rfl rfl ?_
  refine r_q (q_assign rfl rfl) rfl rfl ?_
  refine r_nil ?_
  refine j_then ?_
  refine j_ret ?_
  cases h
  exact j_return rfl (ResOf.tmp rfl ResOf.nil) rfl (fun w h => ⟨(⟨Eq.trans (x2.h.trans a0_0_h) a0_0_h.symm⟩, ⟨Eq.trans (x3.h.trans a0_1_h) a0_1_h.symm⟩, ⟨Eq.trans (x4.h.trans a0_2_h) a0_2_h.symm⟩), rfl, h.pick 4 [2, 1, 0] rfl⟩)

theorem laws_markStore.calls (K : Nat) (a0_0 : List Int) (a0_0_A : Option Addr) (a0_0_n a0_0_c : Nat) (a0_1 : List Int) (a0_1_A : Option Addr) (a0_1_n a0_1_c : Nat) (a0_2 : List Int) (a0_2_A : Option Addr) (a0_2_n a0_2_c : Nat) (a0_3 : List Int) (a0_3_A : Option Addr) (a0_3_n a0_3_c : Nat) (a1 : Int) {w0 w : World} {F : List Res} {r1 : Int} {r2 : List Int} {r3 : List Int} {r4 : List Int} {r5 : List Int} (hm : Mem w0 (.row a0_0_A a0_0_c 3 1 (ii a0_0) :: .row a0_1_A a0_1_c 3 1 (ii a0_1) :: .row a0_2_A a0_2_c 3 1 (ii a0_2) :: .row a0_3_A a0_3_c 3 1 (ii a0_3) :: F) w) (a0_0_h : a0_0.length = a0_0_n) (a0_1_h : a0_1.length = a0_1_n) (a0_2_h : a0_2.length = a0_2_n) (a0_3_h : a0_3.length = a0_3_n) (h : laws_markStore.f K a0_0 a0_1 a0_2 a0_3 a1 = some (r1, r2, r3, r4, r5)) :
    Calls Try.prog 43 (List.toArray [.agg (List.toArray [.slice a0_0_A a0_0_n a0_0_c, .slice a0_1_A a0_1_n a0_1_c, .slice a0_2_A a0_2_n a0_2_c, .slice a0_3_A a0_3_n a0_3_c]), i6 a1]) w fun e w' => ∃ x : (Ln r2.length a0_0.length) × (Ln r3.length a0_1.length) × (Ln r4.length a0_2.length) × (Ln r5.length a0_3.length), e = .returned (i6 r1) ∧ Mem w0 (.row a0_0_A a0_0_c 3 1 (ii r2) :: .row a0_1_A a0_1_c 3 1 (ii r3) :: .row a0_2_A a0_2_c 3 1 (ii r4) :: .row a0_3_A a0_3_c 3 1 (ii r5) :: F) w' := by
  unfold laws_markStore.f at h
  refine calls_of_J (n := 14) Try.func43 rfl rfl rfl hm ?_
  refine j_seq ?_
  refine j_region ?_
  refine r_do (a_box rfl rfl) rfl rfl (fun x1 => ?_)
  refine r_q (q_assign rfl rfl) rfl rfl ?_
  refine r_nil ?_
  refine j_then ?_
  refine j_seq ?_
  refine j_region ?_
  refine r_q (q_fieldAddr fi27_0 sz25 rfl rfl rfl) rfl rfl ?_
  refine r_q (q_loadb_agg 0 rfl ag25 sz25 rfl rfl rfl rfl) rfl rfl ?_
  refine r_q (q_move rfl rfl) rfl rfl ?_
  obtain ⟨v1, v2, v3, v4, hb1, h⟩ := of_b4 h
  refine j_rs (.row a0_0_A a0_0_c 3 1 (ii a0_0) :: .row a0_1_A a0_1_c 3 1 (ii a0_1) :: .row a0_2_A a0_2_c 3 1 (ii a0_2) :: .box x1 27 [(.slice a0_0_A a0_0_n a0_0_c), (.slice a0_1_A a0_1_n a0_1_c), (.slice a0_2_A a0_2_n a0_2_c), (.slice a0_3_A a0_3_n a0_3_c)] :: .row a0_3_A a0_3_c 3 1 (ii a0_3) :: F) (fun _ h => h.pick 5 [1, 2, 3, 0, 4] rfl) ?_
  refine r_do (a_call ok75 rfl rfl rfl rfl (fun w hm => laws_markHeap.calls K a0_0 a0_0_A a0_0_n a0_0_c a0_1 a0_1_A a0_1_n a0_1_c a0_2 a0_2_A a0_2_n a0_2_c a1 hm a0_0_h a0_1_h a0_2_h hb1)) rfl rfl (fun x2 => ?_)
  refine r_q (q_assign rfl rfl) rfl rfl ?_
  refine r_nil ?_
  refine j_then ?_
  refine j_seq ?_
  refine j_region ?_
  refine r_q (q_fieldAddr fi27_1 sz23 rfl rfl rfl) rfl rfl ?_
  refine r_q (q_loadb 3 rfl ag23 rfl rfl rfl) rfl rfl ?_
  refine r_q (q_move rfl rfl) rfl rfl ?_
  obtain ⟨v5, v6, hb2, h⟩ := of_b2 h
  refine j_rs (.row a0_3_A a0_3_c 3 1 (ii a0_3) :: .row a0_0_A a0_0_c 3 1 (ii v2) :: .row a0_1_A a0_1_c 3 1 (ii v3) :: .row a0_2_A a0_2_c 3 1 (ii v4) :: .box x1 27 [(.slice a0_0_A a0_0_n a0_0_c), (.slice a0_1_A a0_1_n a0_1_c), (.slice a0_2_A a0_2_n a0_2_c), (.slice a0_3_A a0_3_n a0_3_c)] :: F) (fun _ h => h.pick 5 [4, 0, 1, 2, 3] rfl) ?_
  refine r_do (a_call ok76 rfl rfl rfl rfl (fun w hm => laws_markIntS.calls K a0_3 a0_3_A a0_3_n a0_3_c v1 hm a0_3_h hb2)) rfl rfl (fun x3 => ?_)
  refine r_q (q_assign rfl rfl) rfl rfl ?_
  refine r_nil ?_
  refine j_then ?_
  refine j_seq ?_
  refine j_region ?_
  refine r_q (q_move rfl rfl) rfl rfl ?_
  refine r_q (q_assign rfl rfl) rfl rfl ?_
  refine r_nil ?_
  refine j_then ?_
  refine j_ret ?_
  cases h
  exact j_return rfl (ResOf.tmp rfl ResOf.nil) rfl (fun w h => ⟨(⟨Eq.trans (x2.1.h.trans a0_0_h) a0_0_h.symm⟩, ⟨Eq.trans (x2.2.1.h.trans a0_1_h) a0_1_h.symm⟩, ⟨Eq.trans (x2.2.2.h.trans a0_2_h) a0_2_h.symm⟩, ⟨Eq.trans (x3.h.trans a0_3_h) a0_3_h.symm⟩), rfl, h.pick 5 [1, 2, 3, 0] rfl⟩)

theorem laws_markCounted.calls (K : Nat) (a0_0 : List Int) (a0_0_A : Option Addr) (a0_0_n a0_0_c : Nat) (a0_1 : List Int) (a0_1_A : Option Addr) (a0_1_n a0_1_c : Nat) (a0_2 : List Int) (a0_2_A : Option Addr) (a0_2_n a0_2_c : Nat) (a0_3 : List Int) (a0_3_A : Option Addr) (a0_3_n a0_3_c : Nat) (a0_4 : List Int) (a0_4_A : Option Addr) (a0_4_n a0_4_c : Nat) (a1 : Int) {w0 w : World} {F : List Res} {r1 : Int} {r2 : List Int} {r3 : List Int} {r4 : List Int} {r5 : List Int} {r6 : List Int} (hm : Mem w0 (.row a0_0_A a0_0_c 3 1 (ii a0_0) :: .row a0_1_A a0_1_c 3 1 (ii a0_1) :: .row a0_2_A a0_2_c 3 1 (ii a0_2) :: .row a0_3_A a0_3_c 3 1 (ii a0_3) :: .row a0_4_A a0_4_c 3 1 (ii a0_4) :: F) w) (a0_0_h : a0_0.length = a0_0_n) (a0_1_h : a0_1.length = a0_1_n) (a0_2_h : a0_2.length = a0_2_n) (a0_3_h : a0_3.length = a0_3_n) (a0_4_h : a0_4.length = a0_4_n) (h : laws_markCounted.f K a0_0 a0_1 a0_2 a0_3 a0_4 a1 = some (r1, r2, r3, r4, r5, r6)) :
    Calls Try.prog 44 (List.toArray [.agg (List.toArray [.slice a0_0_A a0_0_n a0_0_c, .slice a0_1_A a0_1_n a0_1_c, .slice a0_2_A a0_2_n a0_2_c, .slice a0_3_A a0_3_n a0_3_c, .slice a0_4_A a0_4_n a0_4_c]), i6 a1]) w fun e w' => ∃ x : (Ln r2.length a0_0.length) × (Ln r3.length a0_1.length) × (Ln r4.length a0_2.length) × (Ln r5.length a0_3.length) × (Ln r6.length a0_4.length), e = .returned (i6 r1) ∧ Mem w0 (.row a0_0_A a0_0_c 3 1 (ii r2) :: .row a0_1_A a0_1_c 3 1 (ii r3) :: .row a0_2_A a0_2_c 3 1 (ii r4) :: .row a0_3_A a0_3_c 3 1 (ii r5) :: .row a0_4_A a0_4_c 3 1 (ii r6) :: F) w' := by
  unfold laws_markCounted.f at h
  refine calls_of_J (n := 14) Try.func44 rfl rfl rfl hm ?_
  refine j_seq ?_
  refine j_region ?_
  refine r_do (a_box rfl rfl) rfl rfl (fun x1 => ?_)
  refine r_q (q_assign rfl rfl) rfl rfl ?_
  refine r_nil ?_
  refine j_then ?_
  refine j_seq ?_
  refine j_region ?_
  refine r_q (q_fieldAddr fi29_0 sz27 rfl rfl rfl) rfl rfl ?_
  refine r_q (q_loadb_agg 0 rfl ag27 sz27 rfl rfl rfl rfl) rfl rfl ?_
  refine r_q (q_move rfl rfl) rfl rfl ?_
  obtain ⟨v1, v2, v3, v4, v5, hb1, h⟩ := of_b5 h
  refine j_rs (.row a0_0_A a0_0_c 3 1 (ii a0_0) :: .row a0_1_A a0_1_c 3 1 (ii a0_1) :: .row a0_2_A a0_2_c 3 1 (ii a0_2) :: .row a0_3_A a0_3_c 3 1 (ii a0_3) :: .box x1 29 [(.slice a0_0_A a0_0_n a0_0_c), (.slice a0_1_A a0_1_n a0_1_c), (.slice a0_2_A a0_2_n a0_2_c), (.slice a0_3_A a0_3_n a0_3_c), (.slice a0_4_A a0_4_n a0_4_c)] :: .row a0_4_A a0_4_c 3 1 (ii a0_4) :: F) (fun _ h => h.pick 6 [1, 2, 3, 4, 0, 5] rfl) ?_
  refine r_do (a_call ok43 rfl rfl rfl rfl (fun w hm => laws_markStore.calls K a0_0 a0_0_A a0_0_n a0_0_c a0_1 a0_1_A a0_1_n a0_1_c a0_2 a0_2_A a0_2_n a0_2_c a0_3 a0_3_A a0_3_n a0_3_c a1 hm a0_0_h a0_1_h a0_2_h a0_3_h hb1)) rfl rfl (fun x2 => ?_)
  refine r_q (q_assign rfl rfl) rfl rfl ?_
  refine r_nil ?_
  refine j_then ?_
  refine j_seq ?_
  refine j_region ?_
  refine r_q (q_fieldAddr fi29_1 sz23 rfl rfl rfl) rfl rfl ?_
  refine r_q (q_loadb 4 rfl ag23 rfl rfl rfl) rfl rfl ?_
  refine r_q (q_move rfl rfl) rfl rfl ?_
  obtain ⟨v6, v7, hb2, h⟩ := of_b2 h
  refine j_rs (.row a0_4_A a0_4_c 3 1 (ii a0_4) :: .row a0_0_A a0_0_c 3 1 (ii v2) :: .row a0_1_A a0_1_c 3 1 (ii v3) :: .row a0_2_A a0_2_c 3 1 (ii v4) :: .row a0_3_A a0_3_c 3 1 (ii v5) :: .box x1 29 [(.slice a0_0_A a0_0_n a0_0_c), (.slice a0_1_A a0_1_n a0_1_c), (.slice a0_2_A a0_2_n a0_2_c), (.slice a0_3_A a0_3_n a0_3_c), (.slice a0_4_A a0_4_n a0_4_c)] :: F) (fun _ h => h.pick 6 [5, 0, 1, 2, 3, 4] rfl) ?_
  refine r_do (a_call ok76 rfl rfl rfl rfl (fun w hm => laws_markIntS.calls K a0_4 a0_4_A a0_4_n a0_4_c v1 hm a0_4_h hb2)) rfl rfl (fun x3 => ?_)
  refine r_q (q_assign rfl rfl) rfl rfl ?_
  refine r_nil ?_
  refine j_then ?_
  refine j_seq ?_
  refine j_region ?_
  refine r_q (q_move rfl rfl) rfl rfl ?_
  refine r_q (q_assign rfl rfl) rfl rfl ?_
  refine r_nil ?_
  refine j_then ?_
  refine j_ret ?_
  cases h
  exact j_return rfl (ResOf.tmp rfl ResOf.nil) rfl (fun w h => ⟨(⟨Eq.trans (x2.1.h.trans a0_0_h) a0_0_h.symm⟩, ⟨Eq.trans (x2.2.1.h.trans a0_1_h) a0_1_h.symm⟩, ⟨Eq.trans (x2.2.2.1.h.trans a0_2_h) a0_2_h.symm⟩, ⟨Eq.trans (x2.2.2.2.h.trans a0_3_h) a0_3_h.symm⟩, ⟨Eq.trans (x3.h.trans a0_4_h) a0_4_h.symm⟩), rfl, h.pick 6 [1, 2, 3, 4, 0] rfl⟩)

theorem laws_heldIntS.calls (K : Nat) (a0 : List Int) (a0_A : Option Addr) (a0_n a0_c : Nat) (a1 : Int) {w0 w : World} {F : List Res} {r1 : Int} (hm : Mem w0 (F) w) (a0_h : a0.length = a0_n) (a0_R : Rd w0 F a0_A (ii a0)) (h : laws_heldIntS.f K a0 a1 = some r1) :
    Calls Try.prog 78 (List.toArray [.slice a0_A a0_n a0_c, i6 a1]) w fun e w' => ∃ x : Unit, e = .returned (i6 r1) ∧ Mem w0 (F) w' := by
  unfold laws_heldIntS.f at h
  refine calls_of_J (n := 21) Try.func78 rfl rfl rfl hm ?_
  refine j_seq ?_
  refine j_region ?_
  refine r_q (q_assign rfl rfl) rfl rfl ?_
  refine r_nil ?_
  refine j_then ?_
  refine j_seq ?_
  refine j_seq ?_
  refine j_region ?_
  refine r_q (q_assign rfl rfl) rfl rfl ?_
  refine r_nil ?_
  refine j_then ?_
  obtain ⟨κ0, h, hκ0⟩ := ex_k (g := fun κ => laws_heldIntS.loop0 K κ a0 K a1 (0:Int) = some r1) h
  refine j_cut (σ := Int) (fun s => [(1, (i6 s))]) (fun s => F) (fun s => κ0 s = some r1) ?_ ?_
  · refine j_block ?_
    refine j_loop (σ := Int × Int) (fun s => [(0, (.slice a0_A a0_n a0_c)), (1, (i6 s.1)), (5, (i6 s.2))]) (fun s => F) (fun m s => laws_heldIntS.loop0 K κ0 a0 m s.1 s.2 = some r1) K (a1, (0:Int)) h (fun a he => he.sub ⟨rfl, rfl, rfl, trivial⟩) (fun w h => h) ?_
    rintro m ⟨p3, p4⟩ h
    cases m with
    | zero => exact absurd h (by rw [laws_heldIntS.loop0]; exact nofun)
    | succ m =>
      rw [laws_heldIntS.loop0] at h
      show J _ _ [(0, (.slice a0_A a0_n a0_c)), (1, (i6 p3)), (5, (i6 p4))] _ (F)
      refine j_seq ?_
      refine j_seq ?_
      refine j_region ?_
      refine r_q (q_move rfl rfl) rfl rfl ?_
      refine r_q (q_move rfl rfl) rfl rfl ?_
      refine r_q (q_lenX a0 a0_h un23 rfl rfl rfl rfl rfl) rfl rfl ?_
      refine r_q (q_lss rfl rfl rfl) rfl rfl ?_
      refine r_nil ?_
      refine j_then ?_
      rcases of_if h with ⟨c10, h⟩ | ⟨c10, h⟩
      · refine j_true rfl (decide_eq_true c10) ?_
        refine j_skip ?_
        refine j_then ?_
        refine j_seq ?_
        refine j_block ?_
        refine j_seq ?_
        refine j_seq ?_
        refine j_region ?_
        refine r_q (q_move rfl rfl) rfl rfl ?_
        refine r_q (q_move rfl rfl) rfl rfl ?_
        obtain ⟨c11, h⟩ := of_guard h
        refine r_q (q_ix a0_R (ints_len1 _ a0) (by decide) a0_h c11 un23 sz3 rfl rfl rfl) rfl rfl ?_
        refine r_q (q_ldI a0_R c11 ag3 rfl rfl) rfl rfl ?_
        refine r_q (q_move rfl rfl) rfl rfl ?_
        refine r_q (q_neq rfl rfl rfl) rfl rfl ?_
        refine r_nil ?_
        refine j_then ?_
        rcases of_if h with ⟨c12, h⟩ | ⟨c12, h⟩
        · refine j_false rfl (bne_f c12) ?_
          refine j_skip ?_
          refine j_then ?_
          refine j_region ?_
          refine r_q (q_move rfl rfl) rfl rfl ?_
          refine r_q (q_add rfl rfl rfl) rfl rfl ?_
          refine r_q (q_assign rfl rfl) rfl rfl ?_
          refine r_nil ?_
          refine j_in ?_
          refine j_then ?_
          refine j_region ?_
          refine r_q (q_move rfl rfl) rfl rfl ?_
          refine r_q (q_add rfl rfl rfl) rfl rfl ?_
          refine r_q (q_assign rfl rfl) rfl rfl ?_
          refine r_nil ?_
          refine j_then ?_
          exact j_again m ((wrap64 (p3 + (1:Int))), (wrap64 (p4 + (1:Int)))) (Nat.lt_succ_self m) h (fun a he => he.sub ⟨rfl, rfl, rfl, trivial⟩) (fun w h => h)
        · refine j_true rfl (bne_t c12) ?_
          refine j_seq ?_
          refine j_region ?_
          refine r_q (q_assign rfl rfl) rfl rfl ?_
          refine r_nil ?_
          refine j_then ?_
          refine j_ret ?_
          refine j_then_ret ?_
          refine j_in_ret ?_
          refine j_then_ret ?_
          refine j_then_ret ?_
          refine j_in_ret ?_
          refine j_then_ret ?_
          refine j_then_ret ?_
          cases h
          exact j_return rfl (ResOf.tmp rfl ResOf.nil) rfl (fun w h => ⟨(), rfl, h⟩)
      · refine j_false rfl (decide_eq_false c10) ?_
        refine j_exit ?_
        refine j_then_exit ?_
        refine j_then_exit ?_
        refine j_in_exit ?_
        refine j_then ?_
        exact j_meet p3 h (fun a he => he.sub ⟨rfl, trivial⟩) (fun w h => h)
  · rintro p5 h
    subst hκ0
    show J _ _ [(1, (i6 p5))] _ (F)
    refine j_then ?_
    refine j_seq ?_
    refine j_region ?_
    refine r_q (q_move rfl rfl) rfl rfl ?_
    refine r_q (q_assign rfl rfl) rfl rfl ?_
    refine r_nil ?_
    refine j_then ?_
    refine j_ret ?_
    cases h
    exact j_return rfl (ResOf.tmp rfl ResOf.nil) rfl (fun w h => ⟨(), rfl, h⟩)

theorem laws_heldHeap.calls (K : Nat) (a0_0 : List Int) (a0_0_A : Option Addr) (a0_0_n a0_0_c : Nat) (a0_1 : List Int) (a0_1_A : Option Addr) (a0_1_n a0_1_c : Nat) (a0_2 : List Int) (a0_2_A : Option Addr) (a0_2_n a0_2_c : Nat) (a1 : Int) {w0 w : World} {F : List Res} {r1 : Int} (hm : Mem w0 (F) w) (a0_0_h : a0_0.length = a0_0_n) (a0_0_R : Rd w0 F a0_0_A (ii a0_0)) (a0_1_h : a0_1.length = a0_1_n) (a0_1_R : Rd w0 F a0_1_A (ii a0_1)) (a0_2_h : a0_2.length = a0_2_n) (a0_2_R : Rd w0 F a0_2_A (ii a0_2)) (h : laws_heldHeap.f K a0_0 a0_1 a0_2 a1 = some r1) :
    Calls Try.prog 93 (List.toArray [.agg (List.toArray [.slice a0_0_A a0_0_n a0_0_c, .slice a0_1_A a0_1_n a0_1_c, .slice a0_2_A a0_2_n a0_2_c]), i6 a1]) w fun e w' => ∃ x : Unit, e = .returned (i6 r1) ∧ Mem w0 (F) w' := by
  unfold laws_heldHeap.f at h
  refine calls_of_J (n := 24) Try.func93 rfl rfl rfl hm ?_
  refine j_seq ?_
  refine j_region ?_
  refine r_do (a_box rfl rfl) rfl rfl (fun x1 => ?_)
  refine r_q (q_assign rfl rfl) rfl rfl ?_
  refine r_nil ?_
  refine j_then ?_
  refine j_seq ?_
  refine j_region ?_
  refine r_q (q_fieldAddr fi25_0 sz23 rfl rfl rfl) rfl rfl ?_
  refine r_q (q_loadb 0 rfl ag23 rfl rfl rfl) rfl rfl ?_
  refine r_q (q_move rfl rfl) rfl rfl ?_
  obtain ⟨v1, hb1, h⟩ := of_b1 h
  refine r_do (a_call ok78 rfl rfl rfl rfl (fun w hm => laws_heldIntS.calls K a0_0 a0_0_A a0_0_n a0_0_c a1 hm a0_0_h (Rd.drop 1 a0_0_R) hb1)) rfl rfl (fun x2 => ?_)
  refine r_q (q_assign rfl rfl) rfl rfl ?_
  refine r_nil ?_
  refine j_then ?_
  refine j_seq ?_
  refine j_seq ?_
  refine j_region ?_
  refine r_q (q_move rfl rfl) rfl rfl ?_
  refine r_q (q_lss rfl rfl rfl) rfl rfl ?_
  refine r_nil ?_
  refine j_then ?_
  rcases of_if h with ⟨c1, h⟩ | ⟨c1, h⟩
  · refine j_true rfl (decide_eq_true c1) ?_
    refine j_seq ?_
    refine j_region ?_
    refine r_q (q_assign rfl rfl) rfl rfl ?_
    refine r_nil ?_
    refine j_then ?_
    refine j_ret ?_
    refine j_then_ret ?_
    cases h
    exact j_return rfl (ResOf.tmp rfl ResOf.nil) rfl (fun w h => ⟨(), rfl, h.tail⟩)
  · refine j_false rfl (decide_eq_false c1) ?_
    refine j_skip ?_
    refine j_then ?_
    refine j_seq ?_
    refine j_region ?_
    refine r_q (q_fieldAddr fi25_1 sz23 rfl rfl rfl) rfl rfl ?_
    refine r_q (q_loadb 0 rfl ag23 rfl rfl rfl) rfl rfl ?_
    refine r_q (q_move rfl rfl) rfl rfl ?_
    obtain ⟨v2, hb2, h⟩ := of_b1 h
    refine r_do (a_call ok78 rfl rfl rfl rfl (fun w hm => laws_heldIntS.calls K a0_1 a0_1_A a0_1_n a0_1_c v1 hm a0_1_h (Rd.drop 1 a0_1_R) hb2)) rfl rfl (fun x3 => ?_)
    refine r_q (q_assign rfl rfl) rfl rfl ?_
    refine r_nil ?_
    refine j_then ?_
    refine j_seq ?_
    refine j_seq ?_
    refine j_region ?_
    refine r_q (q_move rfl rfl) rfl rfl ?_
    refine r_q (q_lss rfl rfl rfl) rfl rfl ?_
    refine r_nil ?_
    refine j_then ?_
    rcases of_if h with ⟨c2, h⟩ | ⟨c2, h⟩
    · refine j_true rfl (decide_eq_true c2) ?_
      refine j_seq ?_
      refine j_region ?_
      refine r_q (q_assign rfl rfl) rfl rfl ?_
      refine r_nil ?_
      refine j_then ?_
      refine j_ret ?_
      refine j_then_ret ?_
      cases h
      exact j_return rfl (ResOf.tmp rfl ResOf.nil) rfl (fun w h => ⟨(), rfl, h.tail⟩)
    · refine j_false rfl (decide_eq_false c2) ?_
      refine j_skip ?_
      refine j_then ?_
      refine j_seq ?_
      refine j_region ?_
      refine r_q (q_fieldAddr fi25_2 sz23 rfl rfl rfl) rfl rfl ?_
      refine r_q (q_loadb 0 rfl ag23 rfl rfl rfl) rfl rfl ?_
      refine r_q (q_move rfl rfl) rfl rfl ?_
      obtain ⟨v3, hb3, h⟩ := of_b1 h
      refine r_do (a_call ok78 rfl rfl rfl rfl (fun w hm => laws_heldIntS.calls K a0_2 a0_2_A a0_2_n a0_2_c v2 hm a0_2_h (Rd.drop 1 a0_2_R) hb3)) rfl rfl (fun x4 => ?_)
      refine r_q (q_assign rfl rfl) rfl rfl ?_
      refine r_nil ?_
      refine j_then ?_
      refine j_seq ?_
      refine j_seq ?_
      refine j_region ?_
      refine r_q (q_move rfl rfl) rfl rfl ?_
      refine r_q (q_lss rfl rfl rfl) rfl rfl ?_
      refine r_nil ?_
      refine j_then ?_
      rcases of_if h with ⟨c3, h⟩ | ⟨c3, h⟩
      · refine j_true rfl (decide_eq_true c3) ?_
        refine j_seq ?_
        refine j_region ?_
        refine r_q (q_assign rfl rfl) rfl rfl ?_
        refine r_nil ?_
        refine j_then ?_
        refine j_ret ?_
        refine j_then_ret ?_
        cases h
        exact j_return rfl (ResOf.tmp rfl ResOf.nil) rfl (fun w h => ⟨(), rfl, h.tail⟩)
      · refine j_false rfl (decide_eq_false c3) ?_
        refine j_skip ?_
        refine j_then ?_
        refine j_seq ?_
        refine j_region ?_
        refine r_q (q_move rfl rfl) rfl rfl ?_
        refine r_q (q_assign rfl rfl) rfl rfl ?_
        refine r_nil ?_
        refine j_then ?_
        refine j_ret ?_
        cases h
        exact j_return rfl (ResOf.tmp rfl ResOf.nil) rfl (fun w h => ⟨(), rfl, h.tail⟩)

theorem laws_heldStore.calls (K : Nat) (a0_0 : List Int) (a0_0_A : Option Addr) (a0_0_n a0_0_c : Nat) (a0_1 : List Int) (a0_1_A : Option Addr) (a0_1_n a0_1_c : Nat) (a0_2 : List Int) (a0_2_A : Option Addr) (a0_2_n a0_2_c : Nat) (a0_3 : List Int) (a0_3_A : Option Addr) (a0_3_n a0_3_c : Nat) (a1 : Int) {w0 w : World} {F : List Res} {r1 : Int} (hm : Mem w0 (F) w) (a0_0_h : a0_0.length = a0_0_n) (a0_0_R : Rd w0 F a0_0_A (ii a0_0)) (a0_1_h : a0_1.length = a0_1_n) (a0_1_R : Rd w0 F a0_1_A (ii a0_1)) (a0_2_h : a0_2.length = a0_2_n) (a0_2_R : Rd w0 F a0_2_A (ii a0_2)) (a0_3_h : a0_3.length = a0_3_n) (a0_3_R : Rd w0 F a0_3_A (ii a0_3)) (h : laws_heldStore.f K a0_0 a0_1 a0_2 a0_3 a1 = some r1) :
    Calls Try.prog 77 (List.toArray [.agg (List.toArray [.slice a0_0_A a0_0_n a0_0_c, .slice a0_1_A a0_1_n a0_1_c, .slice a0_2_A a0_2_n a0_2_c, .slice a0_3_A a0_3_n a0_3_c]), i6 a1]) w fun e w' => ∃ x : Unit, e = .returned (i6 r1) ∧ Mem w0 (F) w' := by
  unfold laws_heldStore.f at h
  refine calls_of_J (n := 18) Try.func77 rfl rfl rfl hm ?_
  refine j_seq ?_
  refine j_region ?_
  refine r_do (a_box rfl rfl) rfl rfl (fun x1 => ?_)
  refine r_q (q_assign rfl rfl) rfl rfl ?_
  refine r_nil ?_
  refine j_then ?_
  refine j_seq ?_
  refine j_region ?_
  refine r_q (q_fieldAddr fi27_0 sz25 rfl rfl rfl) rfl rfl ?_
  refine r_q (q_loadb_agg 0 rfl ag25 sz25 rfl rfl rfl rfl) rfl rfl ?_
  refine r_q (q_move rfl rfl) rfl rfl ?_
  obtain ⟨v1, hb1, h⟩ := of_b1 h
  refine r_do (a_call ok93 rfl rfl rfl rfl (fun w hm => laws_heldHeap.calls K a0_0 a0_0_A a0_0_n a0_0_c a0_1 a0_1_A a0_1_n a0_1_c a0_2 a0_2_A a0_2_n a0_2_c a1 hm a0_0_h (Rd.drop 1 a0_0_R) a0_1_h (Rd.drop 1 a0_1_R) a0_2_h (Rd.drop 1 a0_2_R) hb1)) rfl rfl (fun x2 => ?_)
  refine r_q (q_assign rfl rfl) rfl rfl ?_
  refine r_nil ?_
  refine j_then ?_
  refine j_seq ?_
  refine j_seq ?_
  refine j_region ?_
  refine r_q (q_move rfl rfl) rfl rfl ?_
  refine r_q (q_lss rfl rfl rfl) rfl rfl ?_
  refine r_nil ?_
  refine j_then ?_
  rcases of_if h with ⟨c1, h⟩ | ⟨c1, h⟩
  · refine j_true rfl (decide_eq_true c1) ?_
    refine j_seq ?_
    refine j_region ?_
    refine r_q (q_assign rfl rfl) rfl rfl ?_
    refine r_nil ?_
    refine j_then ?_
    refine j_ret ?_
    refine j_then_ret ?_
    cases h
    exact j_return rfl (ResOf.tmp rfl ResOf.nil) rfl (fun w h => ⟨(), rfl, h.tail⟩)
  · refine j_false rfl (decide_eq_false c1) ?_
    refine j_skip ?_
    refine j_then ?_
    refine j_seq ?_
    refine j_region ?_
    refine r_q (q_fieldAddr fi27_1 sz23 rfl rfl rfl) rfl rfl ?_
    refine r_q (q_loadb 0 rfl ag23 rfl rfl rfl) rfl rfl ?_
    refine r_q (q_move rfl rfl) rfl rfl ?_
    obtain ⟨v2, hb2, h⟩ := of_b1 h
    refine r_do (a_call ok78 rfl rfl rfl rfl (fun w hm => laws_heldIntS.calls K a0_3 a0_3_A a0_3_n a0_3_c v1 hm a0_3_h (Rd.drop 1 a0_3_R) hb2)) rfl rfl (fun x3 => ?_)
    refine r_q (q_assign rfl rfl) rfl rfl ?_
    refine r_nil ?_
    refine j_then ?_
    refine j_seq ?_
    refine j_seq ?_
    refine j_region ?_
    refine r_q (q_move rfl rfl) rfl rfl ?_
    refine r_q (q_lss rfl rfl rfl) rfl rfl ?_
    refine r_nil ?_
    refine j_then ?_
    rcases of_if h with ⟨c2, h⟩ | ⟨c2, h⟩
    · refine j_true rfl (decide_eq_true c2) ?_
      refine j_seq ?_
      refine j_region ?_
      refine r_q (q_assign rfl rfl) rfl rfl ?_
      refine r_nil ?_
      refine j_then ?_
      refine j_ret ?_
      refine j_then_ret ?_
      cases h
      exact j_return rfl (ResOf.tmp rfl ResOf.nil) rfl (fun w h => ⟨(), rfl, h.tail⟩)
    · refine j_false rfl (decide_eq_false c2) ?_
      refine j_skip ?_
      refine j_then ?_
      refine j_seq ?_
      refine j_region ?_
      refine r_q (q_move rfl rfl) rfl rfl ?_
      refine r_q (q_assign rfl rfl) rfl rfl ?_
      refine r_nil ?_
      refine j_then ?_
      refine j_ret ?_
      cases h
      exact j_return rfl (ResOf.tmp rfl ResOf.nil) rfl (fun w h => ⟨(), rfl, h.tail⟩)

theorem laws_heldCounted.calls (K : Nat) (a0_0 : List Int) (a0_0_A : Option Addr) (a0_0_n a0_0_c : Nat) (a0_1 : List Int) (a0_1_A : Option Addr) (a0_1_n a0_1_c : Nat) (a0_2 : List Int) (a0_2_A : Option Addr) (a0_2_n a0_2_c : Nat) (a0_3 : List Int) (a0_3_A : Option Addr) (a0_3_n a0_3_c : Nat) (a0_4 : List Int) (a0_4_A : Option Addr) (a0_4_n a0_4_c : Nat) (a1 : Int) {w0 w : World} {F : List Res} {r1 : Int} (hm : Mem w0 (F) w) (a0_0_h : a0_0.length = a0_0_n) (a0_0_R : Rd w0 F a0_0_A (ii a0_0)) (a0_1_h : a0_1.length = a0_1_n) (a0_1_R : Rd w0 F a0_1_A (ii a0_1)) (a0_2_h : a0_2.length = a0_2_n) (a0_2_R : Rd w0 F a0_2_A (ii a0_2)) (a0_3_h : a0_3.length = a0_3_n) (a0_3_R : Rd w0 F a0_3_A (ii a0_3)) (a0_4_h : a0_4.length = a0_4_n) (a0_4_R : Rd w0 F a0_4_A (ii a0_4)) (h : laws_heldCounted.f K a0_0 a0_1 a0_2 a0_3 a0_4 a1 = some r1) :
    Calls Try.prog 45 (List.toArray [.agg (List.toArray [.slice a0_0_A a0_0_n a0_0_c, .slice a0_1_A a0_1_n a0_1_c, .slice a0_2_A a0_2_n a0_2_c, .slice a0_3_A a0_3_n a0_3_c, .slice a0_4_A a0_4_n a0_4_c]), i6 a1]) w fun e w' => ∃ x : Unit, e = .returned (i6 r1) ∧ Mem w0 (F) w' := by
  unfold laws_heldCounted.f at h
  refine calls_of_J (n := 18) Try.func45 rfl rfl rfl hm ?_
  refine j_seq ?_
  refine j_region ?_
  refine r_do (a_box rfl rfl) rfl rfl (fun x1 => ?_)
  refine r_q (q_assign rfl rfl) rfl rfl ?_
  refine r_nil ?_
  refine j_then ?_
  refine j_seq ?_
  refine j_region ?_
  refine r_q (q_fieldAddr fi29_0 sz27 rfl rfl rfl) rfl rfl ?_
  refine r_q (q_loadb_agg 0 rfl ag27 sz27 rfl rfl rfl rfl) rfl rfl ?_
  refine r_q (q_move rfl rfl) rfl rfl ?_
  obtain ⟨v1, hb1, h⟩ := of_b1 h
  refine r_do (a_call ok77 rfl rfl rfl rfl (fun w hm => laws_heldStore.calls K a0_0 a0_0_A a0_0_n a0_0_c a0_1 a0_1_A a0_1_n a0_1_c a0_2 a0_2_A a0_2_n a0_2_c a0_3 a0_3_A a0_3_n a0_3_c a1 hm a0_0_h (Rd.drop 1 a0_0_R) a0_1_h (Rd.drop 1 a0_1_R) a0_2_h (Rd.drop 1 a0_2_R) a0_3_h (Rd.drop 1 a0_3_R) hb1)) rfl rfl (fun x2 => ?_)
  refine r_q (q_assign rfl rfl) rfl rfl ?_
  refine r_nil ?_
  refine j_then ?_
  refine j_seq ?_
  refine j_seq ?_
  refine j_region ?_
  refine r_q (q_move rfl rfl) rfl rfl ?_
  refine r_q (q_lss rfl rfl rfl) rfl rfl ?_
  refine r_nil ?_
  refine j_then ?_
  rcases of_if h with ⟨c1, h⟩ | ⟨c1, h⟩
  · refine j_true rfl (decide_eq_true c1) ?_
    refine j_seq ?_
    refine j_region ?_
    refine r_q (q_assign rfl rfl) rfl rfl ?_
    refine r_nil ?_
    refine j_then ?_
    refine j_ret ?_
    refine j_then_ret ?_
    cases h
    exact j_return rfl (ResOf.tmp rfl ResOf.nil) rfl (fun w h => ⟨(), rfl, h.tail⟩)
  · refine j_false rfl (decide_eq_false c1) ?_
    refine j_skip ?_
    refine j_then ?_
    refine j_seq ?_
    refine j_region ?_
    refine r_q (q_fieldAddr fi29_1 sz23 rfl rfl rfl) rfl rfl ?_
    refine r_q (q_loadb 0 rfl ag23 rfl rfl rfl) rfl rfl ?_
    refine r_q (q_move rfl rfl) rfl rfl ?_
    obtain ⟨v2, hb2, h⟩ := of_b1 h
    refine r_do (a_call ok78 rfl rfl rfl rfl (fun w hm => laws_heldIntS.calls K a0_4 a0_4_A a0_4_n a0_4_c v1 hm a0_4_h (Rd.drop 1 a0_4_R) hb2)) rfl rfl (fun x3 => ?_)
    refine r_q (q_assign rfl rfl) rfl rfl ?_
    refine r_nil ?_
    refine j_then ?_
    refine j_seq ?_
    refine j_seq ?_
    refine j_region ?_
    refine r_q (q_move rfl rfl) rfl rfl ?_
    refine r_q (q_lss rfl rfl rfl) rfl rfl ?_
    refine r_nil ?_
    refine j_then ?_
    rcases of_if h with ⟨c2, h⟩ | ⟨c2, h⟩
    · refine j_true rfl (decide_eq_true c2) ?_
      refine j_seq ?_
      refine j_region ?_
      refine r_q (q_assign rfl rfl) rfl rfl ?_
      refine r_nil ?_
      refine j_then ?_
      refine j_ret ?_
      refine j_then_ret ?_
      cases h
      exact j_return rfl (ResOf.tmp rfl ResOf.nil) rfl (fun w h => ⟨(), rfl, h.tail⟩)
    · refine j_false rfl (decide_eq_false c2) ?_
      refine j_skip ?_
      refine j_then ?_
      refine j_seq ?_
      refine j_region ?_
      refine r_q (q_move rfl rfl) rfl rfl ?_
      refine r_q (q_assign rfl rfl) rfl rfl ?_
      refine r_nil ?_
      refine j_then ?_
      refine j_ret ?_
      cases h
      exact j_return rfl (ResOf.tmp rfl ResOf.nil) rfl (fun w h => ⟨(), rfl, h.tail⟩)

theorem laws_FnExactNewCounted.calls (K : Nat) (a0_0 : List Int) (a0_0_A : Option Addr) (a0_0_n a0_0_c : Nat) (a0_1 : List Int) (a0_1_A : Option Addr) (a0_1_n a0_1_c : Nat) (a0_2 : List Int) (a0_2_A : Option Addr) (a0_2_n a0_2_c : Nat) (a0_3 : List Int) (a0_3_A : Option Addr) (a0_3_n a0_3_c : Nat) {w0 w : World} {F : List Res} {r1 : Bool} (hm : Mem w0 (F) w) (a0_0_h : a0_0.length = a0_0_n) (a0_0_R : Rd w0 F a0_0_A (ii a0_0)) (a0_1_h : a0_1.length = a0_1_n) (a0_1_R : Rd w0 F a0_1_A (ii a0_1)) (a0_2_h : a0_2.length = a0_2_n) (a0_2_R : Rd w0 F a0_2_A (ii a0_2)) (a0_3_h : a0_3.length = a0_3_n) (a0_3_R : Rd w0 F a0_3_A (ii a0_3)) (h : laws_FnExactNewCounted.f K a0_0 a0_1 a0_2 a0_3 = some r1) :
    Calls Try.prog 13 (List.toArray [.agg (List.toArray [.slice a0_0_A a0_0_n a0_0_c, .slice a0_1_A a0_1_n a0_1_c, .slice a0_2_A a0_2_n a0_2_c, .slice a0_3_A a0_3_n a0_3_c])]) w fun e w' => ∃ x : Unit, e = .returned (.bool r1) ∧ Mem w0 (F) w' := by
  unfold laws_FnExactNewCounted.f at h
  refine calls_of_J (n := 96) Try.func13 rfl rfl rfl hm ?_
  refine j_seq ?_
  refine j_region ?_
  refine r_do (a_box rfl rfl) rfl rfl (fun x1 => ?_)
  refine r_q (q_assign rfl rfl) rfl rfl ?_
  refine r_nil ?_
  refine j_then ?_
  refine j_seq ?_
  refine j_region ?_
  refine r_q (q_assign rfl rfl) rfl rfl ?_
  refine r_nil ?_
  refine j_then ?_
  refine j_seq ?_
  refine j_region ?_
  refine r_q (q_loadb_agg 0 rfl ag53 sz53 rfl rfl rfl rfl) rfl rfl ?_
  refine r_q (q_move rfl rfl) rfl rfl ?_
  obtain ⟨v1, hb1, h⟩ := of_b1 h
  refine r_do (a_call ok39 rfl rfl rfl rfl (fun w hm => laws_szStore.calls K a0_0 a0_0_A a0_0_n a0_0_c a0_1 a0_1_A a0_1_n a0_1_c a0_2 a0_2_A a0_2_n a0_2_c a0_3 a0_3_A a0_3_n a0_3_c (1048576:Int) hm a0_0_h (Rd.drop 1 a0_0_R) a0_1_h (Rd.drop 1 a0_1_R) a0_2_h (Rd.drop 1 a0_2_R) a0_3_h (Rd.drop 1 a0_3_R) hb1)) rfl rfl (fun x2 => ?_)
  refine r_q (q_assign rfl rfl) rfl rfl ?_
  refine r_nil ?_
  refine j_then ?_
  refine j_seq ?_
  refine j_seq ?_
  refine j_region ?_
  refine r_q (q_move rfl rfl) rfl rfl ?_
  refine r_q (q_lss rfl rfl rfl) rfl rfl ?_
  refine r_nil ?_
  refine j_then ?_
  rcases of_if h with ⟨c1, h⟩ | ⟨c1, h⟩
  · refine j_true rfl (decide_eq_true c1) ?_
    refine j_seq ?_
    refine j_region ?_
    refine r_q (q_assign rfl rfl) rfl rfl ?_
    refine r_nil ?_
    refine j_then ?_
    refine j_ret ?_
    refine j_then_ret ?_
    cases h
    exact j_return rfl (ResOf.tmp rfl ResOf.nil) rfl (fun w h => ⟨(), rfl, h.tail⟩)
  · refine j_false rfl (decide_eq_false c1) ?_
    refine j_skip ?_
    refine j_then ?_
    refine j_seq ?_
    refine j_region ?_
    refine r_q (q_loadb_agg 0 rfl ag53 sz53 rfl rfl rfl rfl) rfl rfl ?_
    obtain ⟨v2, v3, v4, v5, hb2, h⟩ := of_b4 h
    refine r_do (a_call ok40 rfl rfl rfl rfl (fun w hm => laws_toStore.calls K a0_0 a0_0_A a0_0_n a0_0_c a0_1 a0_1_A a0_1_n a0_1_c a0_2 a0_2_A a0_2_n a0_2_c a0_3 a0_3_A a0_3_n a0_3_c hm a0_0_h (Rd.drop 1 a0_0_R) a0_1_h (Rd.drop 1 a0_1_R) a0_2_h (Rd.drop 1 a0_2_R) a0_3_h (Rd.drop 1 a0_3_R) hb2)) rfl rfl (fun x3 => ?_)
    obtain ⟨v6, v7, v8, v9, v10, v11, hb3, h⟩ := of_b6 h
    refine r_do (a_call ok35 rfl rfl rfl rfl (fun w hm => spec_NewCounted.calls K v2 x3.1.A x3.1.n x3.1.c v3 x3.2.1.A x3.2.1.n x3.2.1.c v4 x3.2.2.1.A x3.2.2.1.n x3.2.2.1.c v5 x3.2.2.2.A x3.2.2.2.n x3.2.2.2.c hm x3.1.h (Rd.row 0 rfl) x3.2.1.h (Rd.row 1 rfl) x3.2.2.1.h (Rd.row 2 rfl) x3.2.2.2.h (Rd.row 3 rfl) (hm.roomI 3 rfl) hb3)) rfl rfl (fun x4 => ?_)
    refine r_q (q_move rfl rfl) rfl rfl ?_
    refine r_q (q_extract rfl rfl rfl) rfl rfl ?_
    refine r_q (q_extract rfl rfl rfl) rfl rfl ?_
    refine r_do (a_alloc zr29 rfl) rfl rfl (fun x5 => ?_)
    refine r_do (a_storeb 0 rfl sz29 rfl rfl rfl rfl (Nat.le_of_ble_eq_true rfl) rfl) rfl rfl (fun _ => ?_)
    refine j_b0 [(.slice x4.1.A x4.1.n x4.1.c), (.slice x4.2.1.A x4.2.1.n x4.2.1.c), (.slice x4.2.2.1.A x4.2.2.1.n x4.2.2.1.c), (.slice x4.2.2.2.1.A x4.2.2.2.1.n x4.2.2.2.1.c), (.slice x4.2.2.2.2.A x4.2.2.2.2.n x4.2.2.2.2.c)] rfl ?_
    refine r_q (q_assign rfl rfl) rfl rfl ?_
    refine r_nil ?_
    refine j_then ?_
    refine j_seq ?_
    refine j_region ?_
    refine r_q (q_loadb_agg 10 rfl ag53 sz53 rfl rfl rfl rfl) rfl rfl ?_
    obtain ⟨v12, v13, v14, v15, hb4, h⟩ := of_b4 h
    refine r_do (a_call ok40 rfl rfl rfl rfl (fun w hm => laws_toStore.calls K a0_0 a0_0_A a0_0_n a0_0_c a0_1 a0_1_A a0_1_n a0_1_c a0_2 a0_2_A a0_2_n a0_2_c a0_3 a0_3_A a0_3_n a0_3_c hm a0_0_h (Rd.drop 11 a0_0_R) a0_1_h (Rd.drop 11 a0_1_R) a0_2_h (Rd.drop 11 a0_2_R) a0_3_h (Rd.drop 11 a0_3_R) hb4)) rfl rfl (fun x6 => ?_)
    refine r_do (a_alloc zr27 rfl) rfl rfl (fun x7 => ?_)
    refine r_do (a_storeb 0 rfl sz27 rfl rfl rfl rfl (Nat.le_of_ble_eq_true rfl) rfl) rfl rfl (fun _ => ?_)
    refine j_b0 [(.slice x6.1.A x6.1.n x6.1.c), (.slice x6.2.1.A x6.2.1.n x6.2.1.c), (.slice x6.2.2.1.A x6.2.2.1.n x6.2.2.1.c), (.slice x6.2.2.2.A x6.2.2.2.n x6.2.2.2.c)] rfl ?_
    refine r_nil ?_
    refine j_then ?_
    refine j_seq ?_
    refine j_region ?_
    refine r_q (q_loadb_agg 0 rfl ag27 sz27 rfl rfl rfl rfl) rfl rfl ?_
    obtain ⟨v16, v17, v18, v19, v20, v21, hb5, h⟩ := of_b6 h
    refine r_do (a_call ok33 rfl rfl rfl rfl (fun w hm => impl_NewCounted.calls K v12 x6.1.A x6.1.n x6.1.c v13 x6.2.1.A x6.2.1.n x6.2.1.c v14 x6.2.2.1.A x6.2.2.1.n x6.2.2.1.c v15 x6.2.2.2.A x6.2.2.2.n x6.2.2.2.c hm x6.1.h (Rd.row 1 rfl) x6.2.1.h (Rd.row 2 rfl) x6.2.2.1.h (Rd.row 3 rfl) x6.2.2.2.h (Rd.row 4 rfl) (hm.roomI 4 rfl) hb5)) rfl rfl (fun x8 => ?_)
    refine r_q (q_move rfl rfl) rfl rfl ?_
    refine r_q (q_extract rfl rfl rfl) rfl rfl ?_
    refine r_q (q_extract rfl rfl rfl) rfl rfl ?_
    refine r_do (a_alloc zr29 rfl) rfl rfl (fun x9 => ?_)
    refine r_do (a_storeb 0 rfl sz29 rfl rfl rfl rfl (Nat.le_of_ble_eq_true rfl) rfl) rfl rfl (fun _ => ?_)
    refine j_b0 [(.slice x8.1.A x8.1.n x8.1.c), (.slice x8.2.1.A x8.2.1.n x8.2.1.c), (.slice x8.2.2.1.A x8.2.2.1.n x8.2.2.1.c), (.slice x8.2.2.2.1.A x8.2.2.2.1.n x8.2.2.2.1.c), (.slice x8.2.2.2.2.A x8.2.2.2.2.n x8.2.2.2.2.c)] rfl ?_
    refine r_q (q_assign rfl rfl) rfl rfl ?_
    refine r_nil ?_
    refine j_then ?_
    refine j_seq ?_
    refine j_seq ?_
    refine j_region ?_
    refine r_q (q_loadb_agg 0 rfl ag29 sz29 rfl rfl rfl rfl) rfl rfl ?_
    refine r_q (q_loadb_agg 11 rfl ag29 sz29 rfl rfl rfl rfl) rfl rfl ?_
    obtain ⟨v22, hb6, h⟩ := of_b1 h
    refine r_do (a_call ok41 rfl rfl rfl rfl (fun w hm => laws_eqCounted.calls K v16 x8.1.A x8.1.n x8.1.c v17 x8.2.1.A x8.2.1.n x8.2.1.c v18 x8.2.2.1.A x8.2.2.1.n x8.2.2.1.c v19 x8.2.2.2.1.A x8.2.2.2.1.n x8.2.2.2.1.c v20 x8.2.2.2.2.A x8.2.2.2.2.n x8.2.2.2.2.c v6 x4.1.A x4.1.n x4.1.c v7 x4.2.1.A x4.2.1.n x4.2.1.c v8 x4.2.2.1.A x4.2.2.1.n x4.2.2.1.c v9 x4.2.2.2.1.A x4.2.2.2.1.n x4.2.2.2.1.c v10 x4.2.2.2.2.A x4.2.2.2.2.n x4.2.2.2.2.c hm x8.1.h (Rd.row 1 rfl) x8.2.1.h (Rd.row 2 rfl) x8.2.2.1.h (Rd.row 3 rfl) x8.2.2.2.1.h (Rd.row 4 rfl) x8.2.2.2.2.h (Rd.row 5 rfl) x4.1.h (Rd.row 12 rfl) x4.2.1.h (Rd.row 13 rfl) x4.2.2.1.h (Rd.row 14 rfl) x4.2.2.2.1.h (Rd.row 15 rfl) x4.2.2.2.2.h (Rd.row 16 rfl) hb6)) rfl rfl (fun x10 => ?_)
    refine r_q (q_not rfl rfl) rfl rfl ?_
    refine r_q (q_move rfl rfl) rfl rfl ?_
    rcases of_if h with ⟨c2, h⟩ | ⟨c2, h⟩
    · refine r_qon (q_move rfl rfl) rfl rfl rfl rfl (not_f c2) rfl ?_
      refine r_qon (q_move rfl rfl) rfl rfl rfl rfl (not_f c2) rfl ?_
      refine r_qon (q_bneq un4 rfl rfl rfl) rfl rfl rfl rfl (not_f c2) rfl ?_
      refine r_q (q_pick_f rfl rfl (not_f c2) rfl) rfl rfl ?_
      refine r_nil ?_
      refine j_then ?_
      rcases of_if h with ⟨c3, h⟩ | ⟨c3, h⟩
      · refine j_false rfl (bne_f c3) ?_
        refine j_skip ?_
        refine j_then ?_
        refine j_seq ?_
        refine j_seq ?_
        obtain ⟨v23, v24, v25, v26, hb7, h⟩ := of_b4 h
        obtain ⟨v27, hb8, h⟩ := of_b1 h
        refine j_draw (.box x9 29 [(.slice x8.1.A x8.1.n x8.1.c), (.slice x8.2.1.A x8.2.1.n x8.2.1.c), (.slice x8.2.2.1.A x8.2.2.1.n x8.2.2.1.c), (.slice x8.2.2.2.1.A x8.2.2.2.1.n x8.2.2.2.1.c), (.slice x8.2.2.2.2.A x8.2.2.2.2.n x8.2.2.2.2.c)] :: .row x8.1.A x8.1.c 3 1 (ii v16) :: .row x8.2.1.A x8.2.1.c 3 1 (ii v17) :: .row x8.2.2.1.A x8.2.2.1.c 3 1 (ii v18) :: .row x8.2.2.2.1.A x8.2.2.2.1.c 3 1 (ii v19) :: .row x8.2.2.2.2.A x8.2.2.2.2.c 3 1 (ii v20) :: .box x7 27 [(.slice x6.1.A x6.1.n x6.1.c), (.slice x6.2.1.A x6.2.1.n x6.2.1.c), (.slice x6.2.2.1.A x6.2.2.1.n x6.2.2.1.c), (.slice x6.2.2.2.A x6.2.2.2.n x6.2.2.2.c)] :: .row x6.1.A x6.1.c 3 1 (ii v12) :: .row x6.2.1.A x6.2.1.c 3 1 (ii v13) :: .row x6.2.2.1.A x6.2.2.1.c 3 1 (ii v14) :: .row x6.2.2.2.A x6.2.2.2.c 3 1 (ii v15) :: .box x5 29 [(.slice x4.1.A x4.1.n x4.1.c), (.slice x4.2.1.A x4.2.1.n x4.2.1.c), (.slice x4.2.2.1.A x4.2.2.1.n x4.2.2.1.c), (.slice x4.2.2.2.1.A x4.2.2.2.1.n x4.2.2.2.1.c), (.slice x4.2.2.2.2.A x4.2.2.2.2.n x4.2.2.2.2.c)] :: .row x4.1.A x4.1.c 3 1 (ii v6) :: .row x4.2.1.A x4.2.1.c 3 1 (ii v7) :: .row x4.2.2.1.A x4.2.2.1.c 3 1 (ii v8) :: .row x4.2.2.2.1.A x4.2.2.2.1.c 3 1 (ii v9) :: .row x4.2.2.2.2.A x4.2.2.2.2.c 3 1 (ii v10) :: .row x3.1.A x3.1.c 3 1 (ii v2) :: .row x3.2.1.A x3.2.1.c 3 1 (ii v3) :: .row x3.2.2.1.A x3.2.2.1.c 3 1 (ii v4) :: .row x3.2.2.2.A x3.2.2.2.c 3 1 (ii v5) :: .box x1 53 [(.slice a0_0_A a0_0_n a0_0_c), (.slice a0_1_A a0_1_n a0_1_c), (.slice a0_2_A a0_2_n a0_2_c), (.slice a0_3_A a0_3_n a0_3_c)] :: F) 5 follows_any rfl ?_
        refine d_take 0 rfl (q_loadb_agg 6 rfl ag27 sz27 rfl rfl rfl rfl) rfl rfl (by kernel_rfl) (by kernel_rfl) (by kernel_rfl) (fun w h => h) ?_
        refine d_take 1 rfl (q_loadb_agg 21 rfl ag53 sz53 rfl rfl rfl rfl) rfl rfl (by kernel_rfl) (by kernel_rfl) (by kernel_rfl) (fun w h => h) ?_
        refine d_one 2 (by kernel_rfl) ?_
        refine o_do rfl (a_call ok40 rfl rfl rfl rfl (fun w hm => laws_toStore.calls K a0_0 a0_0_A a0_0_n a0_0_c a0_1 a0_1_A a0_1_n a0_1_c a0_2 a0_2_A a0_2_n a0_2_c a0_3 a0_3_A a0_3_n a0_3_c hm a0_0_h (Rd.drop 22 a0_0_R) a0_1_h (Rd.drop 22 a0_1_R) a0_2_h (Rd.drop 22 a0_2_R) a0_3_h (Rd.drop 22 a0_3_R) hb7)) rfl rfl (fun x11 w h => (h.drop 4)) (fun x11 => ?_)
        refine d_one 3 (by kernel_rfl) ?_
        refine o_do rfl (a_call ok42 rfl rfl rfl rfl (fun w hm => laws_eqStore.calls K v12 x6.1.A x6.1.n x6.1.c v13 x6.2.1.A x6.2.1.n x6.2.1.c v14 x6.2.2.1.A x6.2.2.1.n x6.2.2.1.c v15 x6.2.2.2.A x6.2.2.2.n x6.2.2.2.c v23 x11.1.A x11.1.n x11.1.c v24 x11.2.1.A x11.2.1.n x11.2.1.c v25 x11.2.2.1.A x11.2.2.1.n x11.2.2.1.c v26 x11.2.2.2.A x11.2.2.2.n x11.2.2.2.c hm x6.1.h (Rd.row 11 rfl) x6.2.1.h (Rd.row 12 rfl) x6.2.2.1.h (Rd.row 13 rfl) x6.2.2.2.h (Rd.row 14 rfl) x11.1.h (Rd.row 0 rfl) x11.2.1.h (Rd.row 1 rfl) x11.2.2.1.h (Rd.row 2 rfl) x11.2.2.2.h (Rd.row 3 rfl) hb8)) rfl rfl (fun x12 w h => (h.drop 4)) (fun x12 => ?_)
        refine d_take 4 rfl (q_not rfl rfl) rfl rfl (by kernel_rfl) (by kernel_rfl) (by kernel_rfl) (fun w h => (h.drop 4)) ?_
        refine d_done (by kernel_rfl) ?_
        refine j_then ?_
        rcases of_if h with ⟨c4, h⟩ | ⟨c4, h⟩
        · refine j_false rfl (not_f c4) ?_
          refine j_skip ?_
          refine j_then ?_
          refine j_seq ?_
          refine j_region ?_
          refine r_q (q_assign rfl rfl) rfl rfl ?_
          refine r_nil ?_
          refine j_then ?_
          refine j_seq ?_
          refine j_region ?_
          refine r_q (q_loadb_agg 10 rfl ag27 sz27 rfl rfl rfl rfl) rfl rfl ?_
          refine r_q (q_move rfl rfl) rfl rfl ?_
          obtain ⟨v28, v29, v30, v31, v32, hb9, h⟩ := of_b5 h
          refine j_rs (.row x6.1.A x6.1.c 3 1 (ii v12) :: .row x6.2.1.A x6.2.1.c 3 1 (ii v13) :: .row x6.2.2.1.A x6.2.2.1.c 3 1 (ii v14) :: .row x6.2.2.2.A x6.2.2.2.c 3 1 (ii v15) :: .row x11.1.A x11.1.c 3 1 (ii v23) :: .row x11.2.1.A x11.2.1.c 3 1 (ii v24) :: .row x11.2.2.1.A x11.2.2.1.c 3 1 (ii v25) :: .row x11.2.2.2.A x11.2.2.2.c 3 1 (ii v26) :: .box x9 29 [(.slice x8.1.A x8.1.n x8.1.c), (.slice x8.2.1.A x8.2.1.n x8.2.1.c), (.slice x8.2.2.1.A x8.2.2.1.n x8.2.2.1.c), (.slice x8.2.2.2.1.A x8.2.2.2.1.n x8.2.2.2.1.c), (.slice x8.2.2.2.2.A x8.2.2.2.2.n x8.2.2.2.2.c)] :: .row x8.1.A x8.1.c 3 1 (ii v16) :: .row x8.2.1.A x8.2.1.c 3 1 (ii v17) :: .row x8.2.2.1.A x8.2.2.1.c 3 1 (ii v18) :: .row x8.2.2.2.1.A x8.2.2.2.1.c 3 1 (ii v19) :: .row x8.2.2.2.2.A x8.2.2.2.2.c 3 1 (ii v20) :: .box x7 27 [(.slice x6.1.A x6.1.n x6.1.c), (.slice x6.2.1.A x6.2.1.n x6.2.1.c), (.slice x6.2.2.1.A x6.2.2.1.n x6.2.2.1.c), (.slice x6.2.2.2.A x6.2.2.2.n x6.2.2.2.c)] :: .box x5 29 [(.slice x4.1.A x4.1.n x4.1.c), (.slice x4.2.1.A x4.2.1.n x4.2.1.c), (.slice x4.2.2.1.A x4.2.2.1.n x4.2.2.1.c), (.slice x4.2.2.2.1.A x4.2.2.2.1.n x4.2.2.2.1.c), (.slice x4.2.2.2.2.A x4.2.2.2.2.n x4.2.2.2.2.c)] :: .row x4.1.A x4.1.c 3 1 (ii v6) :: .row x4.2.1.A x4.2.1.c 3 1 (ii v7) :: .row x4.2.2.1.A x4.2.2.1.c 3 1 (ii v8) :: .row x4.2.2.2.1.A x4.2.2.2.1.c 3 1 (ii v9) :: .row x4.2.2.2.2.A x4.2.2.2.2.c 3 1 (ii v10) :: .row x3.1.A x3.1.c 3 1 (ii v2) :: .row x3.2.1.A x3.2.1.c 3 1 (ii v3) :: .row x3.2.2.1.A x3.2.2.1.c 3 1 (ii v4) :: .row x3.2.2.2.A x3.2.2.2.c 3 1 (ii v5) :: .box x1 53 [(.slice a0_0_A a0_0_n a0_0_c), (.slice a0_1_A a0_1_n a0_1_c), (.slice a0_2_A a0_2_n a0_2_c), (.slice a0_3_A a0_3_n a0_3_c)] :: F) (fun _ h => h.pick 26 [11, 12, 13, 14, 0, 1, 2, 3, 4, 5, 6, 7, 8, 9, 10, 15, 16, 17, 18, 19, 20, 21, 22, 23, 24, 25] rfl) ?_
          refine r_do (a_call ok43 rfl rfl rfl rfl (fun w hm => laws_markStore.calls K v12 x6.1.A x6.1.n x6.1.c v13 x6.2.1.A x6.2.1.n x6.2.1.c v14 x6.2.2.1.A x6.2.2.1.n x6.2.2.1.c v15 x6.2.2.2.A x6.2.2.2.n x6.2.2.2.c (1:Int) hm x6.1.h x6.2.1.h x6.2.2.1.h x6.2.2.2.h hb9)) rfl rfl (fun x13 => ?_)
          refine r_q (q_assign rfl rfl) rfl rfl ?_
          refine r_nil ?_
          refine j_then ?_
          refine j_seq ?_
          refine j_seq ?_
          refine j_region ?_
          refine r_q (q_move rfl rfl) rfl rfl ?_
          refine r_q (q_lss rfl rfl rfl) rfl rfl ?_
          refine r_q (q_move rfl rfl) rfl rfl ?_
          rcases of_if h with ⟨c5, h⟩ | ⟨c5, h⟩
          · refine r_off rfl rfl rfl rfl (decide_eq_true c5) rfl ?_
            refine r_off rfl rfl rfl rfl (decide_eq_true c5) rfl ?_
            refine r_off rfl rfl rfl rfl (decide_eq_true c5) rfl ?_
            refine r_off rfl rfl rfl rfl (decide_eq_true c5) rfl ?_
            refine r_q (q_pick_t rfl rfl (decide_eq_true c5) rfl) rfl rfl ?_
            refine r_q (q_move rfl rfl) rfl rfl ?_
            refine r_off rfl rfl rfl rfl rfl rfl ?_
            refine r_off rfl rfl rfl rfl rfl rfl ?_
            refine r_off rfl rfl rfl rfl rfl rfl ?_
            refine r_q (q_pick_t rfl rfl rfl rfl) rfl rfl ?_
            refine r_nil ?_
            refine j_then ?_
            refine j_true rfl rfl ?_
            refine j_seq ?_
            refine j_region ?_
            refine r_q (q_assign rfl rfl) rfl rfl ?_
            refine r_nil ?_
            refine j_then ?_
            refine j_ret ?_
            refine j_then_ret ?_
            cases h
            exact j_return rfl (ResOf.tmp rfl ResOf.nil) rfl (fun w h => ⟨(), rfl, (h.drop 26)⟩)
          · refine r_qon (q_loadb_agg 8 rfl ag29 sz29 rfl rfl rfl rfl) rfl rfl rfl rfl (decide_eq_false c5) rfl ?_
            refine r_qon (q_loadb_agg 15 rfl ag29 sz29 rfl rfl rfl rfl) rfl rfl rfl rfl (decide_eq_false c5) rfl ?_
            obtain ⟨v33, hb10, h⟩ := of_b1 h
            refine r_on (a_call ok41 rfl rfl rfl rfl (fun w hm => laws_eqCounted.calls K v16 x8.1.A x8.1.n x8.1.c v17 x8.2.1.A x8.2.1.n x8.2.1.c v18 x8.2.2.1.A x8.2.2.1.n x8.2.2.1.c v19 x8.2.2.2.1.A x8.2.2.2.1.n x8.2.2.2.1.c v20 x8.2.2.2.2.A x8.2.2.2.2.n x8.2.2.2.2.c v6 x4.1.A x4.1.n x4.1.c v7 x4.2.1.A x4.2.1.n x4.2.1.c v8 x4.2.2.1.A x4.2.2.1.n x4.2.2.1.c v9 x4.2.2.2.1.A x4.2.2.2.1.n x4.2.2.2.1.c v10 x4.2.2.2.2.A x4.2.2.2.2.n x4.2.2.2.2.c hm x8.1.h (Rd.row 9 rfl) x8.2.1.h (Rd.row 10 rfl) x8.2.2.1.h (Rd.row 11 rfl) x8.2.2.2.1.h (Rd.row 12 rfl) x8.2.2.2.2.h (Rd.row 13 rfl) x4.1.h (Rd.row 16 rfl) x4.2.1.h (Rd.row 17 rfl) x4.2.2.1.h (Rd.row 18 rfl) x4.2.2.2.1.h (Rd.row 19 rfl) x4.2.2.2.2.h (Rd.row 20 rfl) hb10)) rfl rfl rfl rfl (decide_eq_false c5) rfl (fun x14 => ?_)
            refine r_qon (q_not rfl rfl) rfl rfl rfl rfl (decide_eq_false c5) rfl ?_
            refine r_q (q_pick_f rfl rfl (decide_eq_false c5) rfl) rfl rfl ?_
            refine r_q (q_move rfl rfl) rfl rfl ?_
            rcases of_if h with ⟨c6, h⟩ | ⟨c6, h⟩
            · refine r_qon (q_move rfl rfl) rfl rfl rfl rfl (not_f c6) rfl ?_
              refine r_qon (q_move rfl rfl) rfl rfl rfl rfl (not_f c6) rfl ?_
              refine r_qon (q_bneq un4 rfl rfl rfl) rfl rfl rfl rfl (not_f c6) rfl ?_
              refine r_q (q_pick_f rfl rfl (not_f c6) rfl) rfl rfl ?_
              refine r_nil ?_
              refine j_then ?_
              refine j_false rfl (bne_f c3) ?_
              refine j_skip ?_
              refine j_then ?_
              refine j_seq ?_
              refine j_region ?_
              refine r_q (q_assign rfl rfl) rfl rfl ?_
              refine r_nil ?_
              refine j_then ?_
              refine j_seq ?_
              refine j_region ?_
              refine r_q (q_loadb_agg 8 rfl ag29 sz29 rfl rfl rfl rfl) rfl rfl ?_
              refine r_q (q_move rfl rfl) rfl rfl ?_
              obtain ⟨v34, v35, v36, v37, v38, v39, hb11, h⟩ := of_b6 h
              refine j_rs (.row x8.1.A x8.1.c 3 1 (ii v16) :: .row x8.2.1.A x8.2.1.c 3 1 (ii v17) :: .row x8.2.2.1.A x8.2.2.1.c 3 1 (ii v18) :: .row x8.2.2.2.1.A x8.2.2.2.1.c 3 1 (ii v19) :: .row x8.2.2.2.2.A x8.2.2.2.2.c 3 1 (ii v20) :: .row x6.1.A x6.1.c 3 1 (ii v29) :: .row x6.2.1.A x6.2.1.c 3 1 (ii v30) :: .row x6.2.2.1.A x6.2.2.1.c 3 1 (ii v31) :: .row x6.2.2.2.A x6.2.2.2.c 3 1 (ii v32) :: .row x11.1.A x11.1.c 3 1 (ii v23) :: .row x11.2.1.A x11.2.1.c 3 1 (ii v24) :: .row x11.2.2.1.A x11.2.2.1.c 3 1 (ii v25) :: .row x11.2.2.2.A x11.2.2.2.c 3 1 (ii v26) :: .box x9 29 [(.slice x8.1.A x8.1.n x8.1.c), (.slice x8.2.1.A x8.2.1.n x8.2.1.c), (.slice x8.2.2.1.A x8.2.2.1.n x8.2.2.1.c), (.slice x8.2.2.2.1.A x8.2.2.2.1.n x8.2.2.2.1.c), (.slice x8.2.2.2.2.A x8.2.2.2.2.n x8.2.2.2.2.c)] :: .box x7 27 [(.slice x6.1.A x6.1.n x6.1.c), (.slice x6.2.1.A x6.2.1.n x6.2.1.c), (.slice x6.2.2.1.A x6.2.2.1.n x6.2.2.1.c), (.slice x6.2.2.2.A x6.2.2.2.n x6.2.2.2.c)] :: .box x5 29 [(.slice x4.1.A x4.1.n x4.1.c), (.slice x4.2.1.A x4.2.1.n x4.2.1.c), (.slice x4.2.2.1.A x4.2.2.1.n x4.2.2.1.c), (.slice x4.2.2.2.1.A x4.2.2.2.1.n x4.2.2.2.1.c), (.slice x4.2.2.2.2.A x4.2.2.2.2.n x4.2.2.2.2.c)] :: .row x4.1.A x4.1.c 3 1 (ii v6) :: .row x4.2.1.A x4.2.1.c 3 1 (ii v7) :: .row x4.2.2.1.A x4.2.2.1.c 3 1 (ii v8) :: .row x4.2.2.2.1.A x4.2.2.2.1.c 3 1 (ii v9) :: .row x4.2.2.2.2.A x4.2.2.2.2.c 3 1 (ii v10) :: .row x3.1.A x3.1.c 3 1 (ii v2) :: .row x3.2.1.A x3.2.1.c 3 1 (ii v3) :: .row x3.2.2.1.A x3.2.2.1.c 3 1 (ii v4) :: .row x3.2.2.2.A x3.2.2.2.c 3 1 (ii v5) :: .box x1 53 [(.slice a0_0_A a0_0_n a0_0_c), (.slice a0_1_A a0_1_n a0_1_c), (.slice a0_2_A a0_2_n a0_2_c), (.slice a0_3_A a0_3_n a0_3_c)] :: F) (fun _ h => h.pick 26 [9, 10, 11, 12, 13, 0, 1, 2, 3, 4, 5, 6, 7, 8, 14, 15, 16, 17, 18, 19, 20, 21, 22, 23, 24, 25] rfl) ?_
              refine r_do (a_call ok44 rfl rfl rfl rfl (fun w hm => laws_markCounted.calls K v16 x8.1.A x8.1.n x8.1.c v17 x8.2.1.A x8.2.1.n x8.2.1.c v18 x8.2.2.1.A x8.2.2.1.n x8.2.2.1.c v19 x8.2.2.2.1.A x8.2.2.2.1.n x8.2.2.2.1.c v20 x8.2.2.2.2.A x8.2.2.2.2.n x8.2.2.2.2.c (1:Int) hm x8.1.h x8.2.1.h x8.2.2.1.h x8.2.2.2.1.h x8.2.2.2.2.h hb11)) rfl rfl (fun x15 => ?_)
              refine r_q (q_assign rfl rfl) rfl rfl ?_
              refine r_nil ?_
              refine j_then ?_
              refine j_seq ?_
              refine j_region ?_
              refine r_q (q_assign rfl rfl) rfl rfl ?_
              refine r_nil ?_
              refine j_then ?_
              refine j_seq ?_
              refine j_region ?_
              refine r_q (q_loadb_agg 13 rfl ag29 sz29 rfl rfl rfl rfl) rfl rfl ?_
              refine r_q (q_move rfl rfl) rfl rfl ?_
              obtain ⟨v40, hb12, h⟩ := of_b1 h
              refine r_do (a_call ok45 rfl rfl rfl rfl (fun w hm => laws_heldCounted.calls K v35 x8.1.A x8.1.n x8.1.c v36 x8.2.1.A x8.2.1.n x8.2.1.c v37 x8.2.2.1.A x8.2.2.1.n x8.2.2.1.c v38 x8.2.2.2.1.A x8.2.2.2.1.n x8.2.2.2.1.c v39 x8.2.2.2.2.A x8.2.2.2.2.n x8.2.2.2.2.c (1:Int) hm (x15.1.h.trans x8.1.h) (Rd.row 0 rfl) (x15.2.1.h.trans x8.2.1.h) (Rd.row 1 rfl) (x15.2.2.1.h.trans x8.2.2.1.h) (Rd.row 2 rfl) (x15.2.2.2.1.h.trans x8.2.2.2.1.h) (Rd.row 3 rfl) (x15.2.2.2.2.h.trans x8.2.2.2.2.h) (Rd.row 4 rfl) hb12)) rfl rfl (fun x16 => ?_)
              refine r_q (q_assign rfl rfl) rfl rfl ?_
              refine r_nil ?_
              refine j_then ?_
              refine j_seq ?_
              refine j_seq ?_
              refine j_region ?_
              refine r_q (q_move rfl rfl) rfl rfl ?_
              refine r_q (q_lss rfl rfl rfl) rfl rfl ?_
              refine r_nil ?_
              refine j_then ?_
              rcases of_if h with ⟨c7, h⟩ | ⟨c7, h⟩
              · refine j_true rfl (decide_eq_true c7) ?_
                refine j_seq ?_
                refine j_region ?_
                refine r_q (q_assign rfl rfl) rfl rfl ?_
                refine r_nil ?_
                refine j_then ?_
                refine j_ret ?_
                refine j_then_ret ?_
                cases h
                exact j_return rfl (ResOf.tmp rfl ResOf.nil) rfl (fun w h => ⟨(), rfl, (h.drop 26)⟩)
              · refine j_false rfl (decide_eq_false c7) ?_
                refine j_skip ?_
                refine j_then ?_
                refine j_seq ?_
                refine j_seq ?_
                refine j_region ?_
                refine r_q (q_move rfl rfl) rfl rfl ?_
                refine r_q (q_move rfl rfl) rfl rfl ?_
                refine r_q (q_neq rfl rfl rfl) rfl rfl ?_
                refine r_nil ?_
                refine j_then ?_
                rcases of_if h with ⟨c8, h⟩ | ⟨c8, h⟩
                · refine j_false rfl (bne_f c8) ?_
                  refine j_skip ?_
                  refine j_then ?_
                  refine j_seq ?_
                  refine j_region ?_
                  refine r_q (q_loadb_agg 25 rfl ag53 sz53 rfl rfl rfl rfl) rfl rfl ?_
                  obtain ⟨v41, v42, v43, v44, hb13, h⟩ := of_b4 h
                  refine r_do (a_call ok40 rfl rfl rfl rfl (fun w hm => laws_toStore.calls K a0_0 a0_0_A a0_0_n a0_0_c a0_1 a0_1_A a0_1_n a0_1_c a0_2 a0_2_A a0_2_n a0_2_c a0_3 a0_3_A a0_3_n a0_3_c hm a0_0_h (Rd.drop 26 a0_0_R) a0_1_h (Rd.drop 26 a0_1_R) a0_2_h (Rd.drop 26 a0_2_R) a0_3_h (Rd.drop 26 a0_3_R) hb13)) rfl rfl (fun x17 => ?_)
                  obtain ⟨v45, v46, v47, v48, v49, v50, hb14, h⟩ := of_b6 h
                  refine r_do (a_call ok33 rfl rfl rfl rfl (fun w hm => impl_NewCounted.calls K v41 x17.1.A x17.1.n x17.1.c v42 x17.2.1.A x17.2.1.n x17.2.1.c v43 x17.2.2.1.A x17.2.2.1.n x17.2.2.1.c v44 x17.2.2.2.A x17.2.2.2.n x17.2.2.2.c hm x17.1.h (Rd.row 0 rfl) x17.2.1.h (Rd.row 1 rfl) x17.2.2.1.h (Rd.row 2 rfl) x17.2.2.2.h (Rd.row 3 rfl) (hm.roomI 3 rfl) hb14)) rfl rfl (fun x18 => ?_)
                  refine r_q (q_move rfl rfl) rfl rfl ?_
                  refine r_q (q_extract rfl rfl rfl) rfl rfl ?_
                  refine r_q (q_extract rfl rfl rfl) rfl rfl ?_
                  refine r_do (a_alloc zr29 rfl) rfl rfl (fun x19 => ?_)
                  refine r_do (a_storeb 0 rfl sz29 rfl rfl rfl rfl (Nat.le_of_ble_eq_true rfl) rfl) rfl rfl (fun _ => ?_)
                  refine j_b0 [(.slice x18.1.A x18.1.n x18.1.c), (.slice x18.2.1.A x18.2.1.n x18.2.1.c), (.slice x18.2.2.1.A x18.2.2.1.n x18.2.2.1.c), (.slice x18.2.2.2.1.A x18.2.2.2.1.n x18.2.2.2.1.c), (.slice x18.2.2.2.2.A x18.2.2.2.2.n x18.2.2.2.2.c)] rfl ?_
                  refine r_q (q_assign rfl rfl) rfl rfl ?_
                  refine r_nil ?_
                  refine j_then ?_
                  refine j_seq ?_
                  refine j_seq ?_
                  refine j_region ?_
                  refine r_q (q_loadb_agg 0 rfl ag29 sz29 rfl rfl rfl rfl) rfl rfl ?_
                  refine r_q (q_loadb_agg 25 rfl ag29 sz29 rfl rfl rfl rfl) rfl rfl ?_
                  obtain ⟨v51, hb15, h⟩ := of_b1 h
                  refine r_do (a_call ok41 rfl rfl rfl rfl (fun w hm => laws_eqCounted.calls K v45 x18.1.A x18.1.n x18.1.c v46 x18.2.1.A x18.2.1.n x18.2.1.c v47 x18.2.2.1.A x18.2.2.1.n x18.2.2.1.c v48 x18.2.2.2.1.A x18.2.2.2.1.n x18.2.2.2.1.c v49 x18.2.2.2.2.A x18.2.2.2.2.n x18.2.2.2.2.c v6 x4.1.A x4.1.n x4.1.c v7 x4.2.1.A x4.2.1.n x4.2.1.c v8 x4.2.2.1.A x4.2.2.1.n x4.2.2.1.c v9 x4.2.2.2.1.A x4.2.2.2.1.n x4.2.2.2.1.c v10 x4.2.2.2.2.A x4.2.2.2.2.n x4.2.2.2.2.c hm x18.1.h (Rd.row 1 rfl) x18.2.1.h (Rd.row 2 rfl) x18.2.2.1.h (Rd.row 3 rfl) x18.2.2.2.1.h (Rd.row 4 rfl) x18.2.2.2.2.h (Rd.row 5 rfl) x4.1.h (Rd.row 26 rfl) x4.2.1.h (Rd.row 27 rfl) x4.2.2.1.h (Rd.row 28 rfl) x4.2.2.2.1.h (Rd.row 29 rfl) x4.2.2.2.2.h (Rd.row 30 rfl) hb15)) rfl rfl (fun x20 => ?_)
                  refine r_q (q_not rfl rfl) rfl rfl ?_
                  refine r_q (q_move rfl rfl) rfl rfl ?_
                  rcases of_if h with ⟨c9, h⟩ | ⟨c9, h⟩
                  · refine r_qon (q_move rfl rfl) rfl rfl rfl rfl (not_f c9) rfl ?_
                    refine r_qon (q_move rfl rfl) rfl rfl rfl rfl (not_f c9) rfl ?_
                    refine r_qon (q_bneq un4 rfl rfl rfl) rfl rfl rfl rfl (not_f c9) rfl ?_
                    refine r_q (q_pick_f rfl rfl (not_f c9) rfl) rfl rfl ?_
                    refine r_nil ?_
                    refine j_then ?_
                    rcases of_if h with ⟨c10, h⟩ | ⟨c10, h⟩
                    · refine j_false rfl (bne_f c10) ?_
                      refine j_skip ?_
                      refine j_then ?_
                      refine j_seq ?_
                      refine j_region ?_
                      refine r_q (q_assign rfl rfl) rfl rfl ?_
                      refine r_nil ?_
                      refine j_then ?_
                      refine j_seq ?_
                      refine j_region ?_
                      refine r_q (q_loadb_agg 23 rfl ag29 sz29 rfl rfl rfl rfl) rfl rfl ?_
                      refine r_q (q_move rfl rfl) rfl rfl ?_
                      obtain ⟨v52, hb16, h⟩ := of_b1 h
                      refine r_do (a_call ok45 rfl rfl rfl rfl (fun w hm => laws_heldCounted.calls K v35 x8.1.A x8.1.n x8.1.c v36 x8.2.1.A x8.2.1.n x8.2.1.c v37 x8.2.2.1.A x8.2.2.1.n x8.2.2.1.c v38 x8.2.2.2.1.A x8.2.2.2.1.n x8.2.2.2.1.c v39 x8.2.2.2.2.A x8.2.2.2.2.n x8.2.2.2.2.c (1:Int) hm (x15.1.h.trans x8.1.h) (Rd.row 10 rfl) (x15.2.1.h.trans x8.2.1.h) (Rd.row 11 rfl) (x15.2.2.1.h.trans x8.2.2.1.h) (Rd.row 12 rfl) (x15.2.2.2.1.h.trans x8.2.2.2.1.h) (Rd.row 13 rfl) (x15.2.2.2.2.h.trans x8.2.2.2.2.h) (Rd.row 14 rfl) hb16)) rfl rfl (fun x21 => ?_)
                      refine r_q (q_assign rfl rfl) rfl rfl ?_
                      refine r_nil ?_
                      refine j_then ?_
                      refine j_seq ?_
                      refine j_seq ?_
                      refine j_region ?_
                      refine r_q (q_move rfl rfl) rfl rfl ?_
                      refine r_q (q_lss rfl rfl rfl) rfl rfl ?_
                      refine r_nil ?_
                      refine j_then ?_
                      rcases of_if h with ⟨c11, h⟩ | ⟨c11, h⟩
                      · refine j_true rfl (decide_eq_true c11) ?_
                        refine j_seq ?_
                        refine j_region ?_
                        refine r_q (q_assign rfl rfl) rfl rfl ?_
                        refine r_nil ?_
                        refine j_then ?_
                        refine j_ret ?_
                        refine j_then_ret ?_
                        cases h
                        exact j_return rfl (ResOf.tmp rfl ResOf.nil) rfl (fun w h => ⟨(), rfl, (h.drop 36)⟩)
                      · refine j_false rfl (decide_eq_false c11) ?_
                        refine j_skip ?_
                        refine j_then ?_
                        refine j_seq ?_
                        refine j_seq ?_
                        refine j_region ?_
                        refine r_q (q_move rfl rfl) rfl rfl ?_
                        refine r_q (q_move rfl rfl) rfl rfl ?_
                        refine r_q (q_neq rfl rfl rfl) rfl rfl ?_
                        refine r_nil ?_
                        refine j_then ?_
                        rcases of_if h with ⟨c12, h⟩ | ⟨c12, h⟩
                        · refine j_false rfl (bne_f c12) ?_
                          refine j_skip ?_
                          refine j_then ?_
                          refine j_seq ?_
                          refine j_region ?_
                          refine r_q (q_assign rfl rfl) rfl rfl ?_
                          refine r_nil ?_
                          refine j_then ?_
                          refine j_ret ?_
                          cases h
                          exact j_return rfl (ResOf.tmp rfl ResOf.nil) rfl (fun w h => ⟨(), rfl, (h.drop 36)⟩)
                        · refine j_true rfl (bne_t c12) ?_
                          refine j_seq ?_
                          refine j_region ?_
                          refine r_q (q_assign rfl rfl) rfl rfl ?_
                          refine r_nil ?_
                          refine j_then ?_
                          refine j_ret ?_
                          refine j_then_ret ?_
                          cases h
                          exact j_return rfl (ResOf.tmp rfl ResOf.nil) rfl (fun w h => ⟨(), rfl, (h.drop 36)⟩)
                    · refine j_true rfl (bne_t c10) ?_
                      refine j_seq ?_
                      refine j_region ?_
                      refine r_q (q_assign rfl rfl) rfl rfl ?_
                      refine r_nil ?_
                      refine j_then ?_
                      refine j_ret ?_
                      refine j_then_ret ?_
                      cases h
                      exact j_return rfl (ResOf.tmp rfl ResOf.nil) rfl (fun w h => ⟨(), rfl, (h.drop 36)⟩)
                  · refine r_off rfl rfl rfl rfl (not_t (var_f c9)) rfl ?_
                    refine r_off rfl rfl rfl rfl (not_t (var_f c9)) rfl ?_
                    refine r_off rfl rfl rfl rfl (not_t (var_f c9)) rfl ?_
                    refine r_q (q_pick_t rfl rfl (not_t (var_f c9)) rfl) rfl rfl ?_
                    refine r_nil ?_
                    refine j_then ?_
                    refine j_true rfl rfl ?_
                    refine j_seq ?_
                    refine j_region ?_
                    refine r_q (q_assign rfl rfl) rfl rfl ?_
                    refine r_nil ?_
                    refine j_then ?_
                    refine j_ret ?_
                    refine j_then_ret ?_
                    cases h
                    exact j_return rfl (ResOf.tmp rfl ResOf.nil) rfl (fun w h => ⟨(), rfl, (h.drop 36)⟩)
                · refine j_true rfl (bne_t c8) ?_
                  refine j_seq ?_
                  refine j_region ?_
                  refine r_q (q_assign rfl rfl) rfl rfl ?_
                  refine r_nil ?_
                  refine j_then ?_
                  refine j_ret ?_
                  refine j_then_ret ?_
                  cases h
                  exact j_return rfl (ResOf.tmp rfl ResOf.nil) rfl (fun w h => ⟨(), rfl, (h.drop 26)⟩)
            · refine r_off rfl rfl rfl rfl (not_t (var_f c6)) rfl ?_
              refine r_off rfl rfl rfl rfl (not_t (var_f c6)) rfl ?_
              refine r_off rfl rfl rfl rfl (not_t (var_f c6)) rfl ?_
              refine r_q (q_pick_t rfl rfl (not_t (var_f c6)) rfl) rfl rfl ?_
              refine r_nil ?_
              refine j_then ?_
              refine j_true rfl rfl ?_
              refine j_seq ?_
              refine j_region ?_
              refine r_q (q_assign rfl rfl) rfl rfl ?_
              refine r_nil ?_
              refine j_then ?_
              refine j_ret ?_
              refine j_then_ret ?_
              cases h
              exact j_return rfl (ResOf.tmp rfl ResOf.nil) rfl (fun w h => ⟨(), rfl, (h.drop 26)⟩)
        · refine j_true rfl (not_t (var_f c4)) ?_
          refine j_seq ?_
          refine j_region ?_
          refine r_q (q_assign rfl rfl) rfl rfl ?_
          refine r_nil ?_
          refine j_then ?_
          refine j_ret ?_
          refine j_then_ret ?_
          cases h
          exact j_return rfl (ResOf.tmp rfl ResOf.nil) rfl (fun w h => ⟨(), rfl, (h.drop 26)⟩)
      · refine j_true rfl (bne_t c3) ?_
        refine j_seq ?_
        refine j_region ?_
        refine r_q (q_assign rfl rfl) rfl rfl ?_
        refine r_nil ?_
        refine j_then ?_
        refine j_ret ?_
        refine j_then_ret ?_
        cases h
        exact j_return rfl (ResOf.tmp rfl ResOf.nil) rfl (fun w h => ⟨(), rfl, (h.drop 22)⟩)
    · refine r_off rfl rfl rfl rfl (not_t (var_f c2)) rfl ?_
      refine r_off rfl rfl rfl rfl (not_t (var_f c2)) rfl ?_
      refine r_off rfl rfl rfl rfl (not_t (var_f c2)) rfl ?_
      refine r_q (q_pick_t rfl rfl (not_t (var_f c2)) rfl) rfl rfl ?_
      refine r_nil ?_
      refine j_then ?_
      refine j_true rfl rfl ?_
      refine j_seq ?_
      refine j_region ?_
      refine r_q (q_assign rfl rfl) rfl rfl ?_
      refine r_nil ?_
      refine j_then ?_
      refine j_ret ?_
      refine j_then_ret ?_
      cases h
      exact j_return rfl (ResOf.tmp rfl ResOf.nil) rfl (fun w h => ⟨(), rfl, (h.drop 22)⟩)

end Go.Proofs.Ytgganabcfloioaa.F
