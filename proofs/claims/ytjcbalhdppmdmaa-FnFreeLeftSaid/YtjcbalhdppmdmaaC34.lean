/- The program computes these pure functions, printed by the generator of wip/gen. -/
import Derived.Test.YtjcbalhdppmdmaaFa
import Derived.Test.YtjcbalhdppmdmaaFb
import Derived.Test.YtjcbalhdppmdmaaC1
import Derived.Test.YtjcbalhdppmdmaaC4
import Derived.Test.YtjcbalhdppmdmaaC7
import Derived.Test.YtjcbalhdppmdmaaC8
import Derived.Test.YtjcbalhdppmdmaaC9
import Derived.Test.YtjcbalhdppmdmaaC11
import Derived.Test.YtjcbalhdppmdmaaC13
import Derived.Test.YtjcbalhdppmdmaaC14
import Derived.Test.YtjcbalhdppmdmaaC17
import Derived.Test.YtjcbalhdppmdmaaC20
import Derived.Test.YtjcbalhdppmdmaaC32
import Derived.Test.YtjcbalhdppmdmaaC33
namespace Go.Proofs.Ytjcbalhdppmdmaa.F
open Go Go.RowKit Go.Proofs.Ytjcbalhdppmdmaa.S
set_option linter.unusedVariables false
set_option maxRecDepth 100000
theorem impl_Reachable.calls (K : Nat) (a0_0 : List Int) (a0_0_A : Option Addr) (a0_0_n a0_0_c : Nat) (a0_1 : List Int) (a0_1_A : Option Addr) (a0_1_n a0_1_c : Nat) (a0_2 : List Int) (a0_2_A : Option Addr) (a0_2_n a0_2_c : Nat) {w0 w : World} {F : List Res} {r1 : List Bool} (hm : Mem w0 (F) w) (a0_0_h : a0_0.length = a0_0_n) (a0_0_R : Rd w0 F a0_0_A (ii a0_0)) (a0_1_h : a0_1.length = a0_1_n) (a0_1_R : Rd w0 F a0_1_A (ii a0_1)) (a0_2_h : a0_2.length = a0_2_n) (a0_2_R : Rd w0 F a0_2_A (ii a0_2)) (h : impl_Reachable.f K a0_0 a0_1 a0_2 = some r1) :
    Calls Try.prog 106 (List.toArray [.agg (List.toArray [.slice a0_0_A a0_0_n a0_0_c, .slice a0_1_A a0_1_n a0_1_c, .slice a0_2_A a0_2_n a0_2_c])]) w fun e w' => ∃ x : (Sl r1.length), e = .returned (.slice x.A x.n x.c) ∧ Mem w0 (.row x.A x.c 4 1 (bls r1) :: F) w' := by
  unfold impl_Reachable.f at h
  refine calls_of_J (n := 24) Try.func106 rfl rfl rfl hm ?_
  refine j_seq ?_
  refine j_region ?_
  refine r_do (a_box rfl rfl) rfl rfl (fun x1 => ?_)
  refine r_q (q_assign rfl rfl) rfl rfl ?_
  refine r_nil ?_
  refine j_then ?_
  refine j_seq ?_
  refine j_seq ?_
  refine j_region ?_
  refine r_q (q_loadb_agg 0 rfl ag46 sz46 rfl rfl rfl rfl) rfl rfl ?_
  obtain ⟨v1, hb1, h⟩ := of_b1 h
  refine r_do (a_call ok57 rfl rfl rfl rfl (fun w hm => impl_HeapValid.calls K a0_0 a0_0_A a0_0_n a0_0_c a0_1 a0_1_A a0_1_n a0_1_c a0_2 a0_2_A a0_2_n a0_2_c hm a0_0_h (Rd.drop 1 a0_0_R) a0_1_h (Rd.drop 1 a0_1_R) a0_2_h (Rd.drop 1 a0_2_R) hb1)) rfl rfl (fun x2 => ?_)
  refine r_q (q_not rfl rfl) rfl rfl ?_
  refine r_nil ?_
  refine j_then ?_
  rcases of_if h with ⟨c1, h⟩ | ⟨c1, h⟩
  · refine j_false rfl (not_f c1) ?_
    refine j_skip ?_
    refine j_then ?_
    refine j_seq ?_
    refine j_region ?_
    refine r_do (a_litX (vs := []) (bls ([] : List Bool)) un112 sz4 zr4 rfl rfl rfl rfl rfl rfl rfl rfl rfl) rfl rfl (fun x3 => ?_)
    refine r_q (q_assign rfl rfl) rfl rfl ?_
    refine r_nil ?_
    refine j_then ?_
    refine j_seq ?_
    refine j_seq ?_
    refine j_region ?_
    refine r_q (q_loadb_agg 1 rfl ag46 sz46 rfl rfl rfl rfl) rfl rfl ?_
    obtain ⟨v2, hb2, h⟩ := of_b1 h
    refine r_do (a_call ok112 rfl rfl rfl rfl (fun w hm => impl_distances.calls K a0_0 a0_0_A a0_0_n a0_0_c a0_1 a0_1_A a0_1_n a0_1_c a0_2 a0_2_A a0_2_n a0_2_c hm a0_0_h (Rd.drop 2 a0_0_R) a0_1_h (Rd.drop 2 a0_1_R) a0_2_h (Rd.drop 2 a0_2_R) hb2)) rfl rfl (fun x4 => ?_)
    refine r_q (q_lenX v2 x4.h un32 rfl rfl rfl rfl rfl) rfl rfl ?_
    refine r_q (q_move rfl rfl) rfl rfl ?_
    refine r_nil ?_
    refine j_then ?_
    obtain ⟨κ0, h, hκ0⟩ := ex_k (g := fun κ => impl_Reachable.loop0 K κ v2 K ([] : List Bool) (0:Int) = some r1) h
    refine j_cut (σ := (Option Addr) × Nat × Nat × (List Bool)) (fun s => [(3, (.slice s.1 s.2.1 s.2.2.1))]) (fun s => .row s.1 s.2.2.1 4 1 (bls s.2.2.2) :: F) (fun s => κ0 s.2.2.2 = some r1 ∧ (s.2.2.2.length = s.2.1)) ?_ ?_
    · refine j_block ?_
      refine j_loop (σ := (Option Addr) × Nat × Nat × (List Bool) × Int) (fun s => [(3, (.slice s.1 s.2.1 s.2.2.1)), (11, (.slice x4.A x4.n x4.c)), (12, (i6 (v2.length : Int))), (13, (i6 s.2.2.2.2))]) (fun s => .row x4.A x4.c 3 1 (ii v2) :: .row s.1 s.2.2.1 4 1 (bls s.2.2.2.1) :: F) (fun m s => impl_Reachable.loop0 K κ0 v2 m s.2.2.2.1 s.2.2.2.2 = some r1 ∧ (s.2.2.2.1.length = s.2.1)) K (x3, 0, 0, ([] : List Bool), (0:Int)) ⟨h, rfl⟩ (fun a he => he.sub ⟨rfl, rfl, rfl, rfl, trivial⟩) (fun w h => h.pick 3 [0, 1] rfl) ?_
      rintro m ⟨A2, n2, d2, l2, p2⟩ ⟨h, q2⟩
      cases m with
      | zero => exact absurd h (by rw [impl_Reachable.loop0]; exact nofun)
      | succ m =>
        rw [impl_Reachable.loop0] at h
        show J _ _ [(3, (.slice A2 n2 d2)), (11, (.slice x4.A x4.n x4.c)), (12, (i6 (v2.length : Int))), (13, (i6 p2))] _ (.row x4.A x4.c 3 1 (ii v2) :: .row A2 d2 4 1 (bls l2) :: F)
        refine j_seq ?_
        refine j_region ?_
        refine r_q (q_lss rfl rfl rfl) rfl rfl ?_
        refine r_nil ?_
        refine j_then ?_
        refine j_seq ?_
        rcases of_if h with ⟨c11, h⟩ | ⟨c11, h⟩
        · refine j_true rfl (decide_eq_true c11) ?_
          refine j_skip ?_
          refine j_then ?_
          refine j_seq ?_
          refine j_block ?_
          refine j_seq ?_
          refine j_region ?_
          obtain ⟨c12, h⟩ := of_guard h
          refine r_q (q_ix (Rd.row 0 rfl) (ints_len1 _ v2) (by decide) x4.h c12 un32 sz3 rfl rfl rfl) rfl rfl ?_
          refine r_q (q_ldI (Rd.row 0 rfl) c12 ag3 rfl rfl) rfl rfl ?_
          refine r_q (q_assign rfl rfl) rfl rfl ?_
          refine r_nil ?_
          refine j_then ?_
          refine j_region ?_
          refine r_q (q_move rfl rfl) rfl rfl ?_
          refine r_q (q_move rfl rfl) rfl rfl ?_
          refine r_q (q_gtr rfl rfl rfl) rfl rfl ?_
          refine r_do (a_litX (vs := [(.bool (decide ((rd v2 p2) > (0:Int))))]) (bls ([(decide ((rd v2 p2) > (0:Int)))] : List Bool)) un112 sz4 zr4 rfl rfl rfl rfl rfl rfl rfl rfl rfl) rfl rfl (fun x5 => ?_)
          obtain ⟨c13, h⟩ := of_guard h
          refine r_do (a_appB (xs := l2) (ys := ([(decide ((rd v2 p2) > (0:Int)))] : List Bool)) 2 un112 un112 sz4 by4 zr4 rfl rfl rfl rfl rfl rfl rfl rfl rfl q2 rfl (Rd.row 0 rfl) c13) rfl rfl (fun x6 => ?_)
          refine j_s2 ?_
          refine r_q (q_assign rfl rfl) rfl rfl ?_
          refine r_nil ?_
          refine j_in ?_
          refine j_then ?_
          refine j_region ?_
          refine r_q (q_add rfl rfl rfl) rfl rfl ?_
          refine r_q (q_move rfl rfl) rfl rfl ?_
          refine r_nil ?_
          refine j_then ?_
          exact j_again m (x6.1, (n2 + 1), x6.2, (l2 ++ ([(decide ((rd v2 p2) > (0:Int)))] : List Bool)), (wrap64 (p2 + (1:Int)))) (Nat.lt_succ_self m) ⟨h, (app_len q2 rfl)⟩ (fun a he => he.sub ⟨rfl, rfl, rfl, rfl, trivial⟩) (fun w h => h.tail)
        · refine j_false rfl (decide_eq_false c11) ?_
          refine j_exit ?_
          refine j_then_exit ?_
          refine j_then_exit ?_
          refine j_in_exit ?_
          refine j_then ?_
          exact j_meet (A2, n2, d2, l2) ⟨h, q2⟩ (fun a he => he.sub ⟨rfl, trivial⟩) (fun w h => h.tail)
    · rintro ⟨A3, n3, d3, l3⟩ ⟨h, q3⟩
      subst hκ0
      show J _ _ [(3, (.slice A3 n3 d3))] _ (.row A3 d3 4 1 (bls l3) :: F)
      refine j_then ?_
      refine j_seq ?_
      refine j_region ?_
      refine r_q (q_move rfl rfl) rfl rfl ?_
      refine r_q (q_assign rfl rfl) rfl rfl ?_
      refine r_nil ?_
      refine j_then ?_
      refine j_ret ?_
      cases h
      exact j_return rfl (ResOf.tmp rfl ResOf.nil) rfl (fun w h => ⟨⟨A3, n3, d3, q3⟩, rfl, h⟩)
  · refine j_true rfl (not_t (var_f c1)) ?_
    refine j_seq ?_
    refine j_region ?_
    refine r_q (q_assign rfl rfl) rfl rfl ?_
    refine r_nil ?_
    refine j_then ?_
    refine j_ret ?_
    refine j_then_ret ?_
    refine j_nil 4 1 ?_
    cases h
    exact j_return rfl (ResOf.tmp rfl ResOf.nil) rfl (fun w h => ⟨⟨none, 0, 0, rfl⟩, rfl, h.pick 2 [0] rfl⟩)

theorem impl_GarbageOf.calls (K : Nat) (a0_0 : List Int) (a0_0_A : Option Addr) (a0_0_n a0_0_c : Nat) (a0_1 : List Int) (a0_1_A : Option Addr) (a0_1_n a0_1_c : Nat) (a0_2 : List Int) (a0_2_A : Option Addr) (a0_2_n a0_2_c : Nat) {w0 w : World} {F : List Res} {r1 : List Int} (hm : Mem w0 (F) w) (a0_0_h : a0_0.length = a0_0_n) (a0_0_R : Rd w0 F a0_0_A (ii a0_0)) (a0_1_h : a0_1.length = a0_1_n) (a0_1_R : Rd w0 F a0_1_A (ii a0_1)) (a0_2_h : a0_2.length = a0_2_n) (a0_2_R : Rd w0 F a0_2_A (ii a0_2)) (h : impl_GarbageOf.f K a0_0 a0_1 a0_2 = some r1) :
    Calls Try.prog 87 (List.toArray [.agg (List.toArray [.slice a0_0_A a0_0_n a0_0_c, .slice a0_1_A a0_1_n a0_1_c, .slice a0_2_A a0_2_n a0_2_c])]) w fun e w' => ∃ x : (Sl r1.length), e = .returned (.slice x.A x.n x.c) ∧ Mem w0 (.row x.A x.c 3 1 (ii r1) :: F) w' := by
  unfold impl_GarbageOf.f at h
  refine calls_of_J (n := 23) Try.func87 rfl rfl rfl hm ?_
  refine j_seq ?_
  refine j_region ?_
  refine r_do (a_box rfl rfl) rfl rfl (fun x1 => ?_)
  refine r_q (q_assign rfl rfl) rfl rfl ?_
  refine r_nil ?_
  refine j_then ?_
  refine j_seq ?_
  refine j_region ?_
  refine r_do (a_litX (vs := []) (ii ([] : List Int)) un32 sz3 zr3 rfl rfl rfl rfl rfl rfl rfl rfl rfl) rfl rfl (fun x2 => ?_)
  refine r_q (q_assign rfl rfl) rfl rfl ?_
  refine r_nil ?_
  refine j_then ?_
  refine j_seq ?_
  refine j_seq ?_
  refine j_region ?_
  refine r_q (q_loadb_agg 1 rfl ag46 sz46 rfl rfl rfl rfl) rfl rfl ?_
  obtain ⟨v1, hb1, h⟩ := of_b1 h
  refine r_do (a_call ok106 rfl rfl rfl rfl (fun w hm => impl_Reachable.calls K a0_0 a0_0_A a0_0_n a0_0_c a0_1 a0_1_A a0_1_n a0_1_c a0_2 a0_2_A a0_2_n a0_2_c hm a0_0_h (Rd.drop 2 a0_0_R) a0_1_h (Rd.drop 2 a0_1_R) a0_2_h (Rd.drop 2 a0_2_R) hb1)) rfl rfl (fun x3 => ?_)
  refine r_q (q_lenX v1 x3.h un112 rfl rfl rfl rfl rfl) rfl rfl ?_
  refine r_q (q_move rfl rfl) rfl rfl ?_
  refine r_nil ?_
  refine j_then ?_
  obtain ⟨κ0, h, hκ0⟩ := ex_k (g := fun κ => impl_GarbageOf.loop0 K κ v1 K ([] : List Int) (0:Int) = some r1) h
  refine j_cut (σ := (Option Addr) × Nat × Nat × (List Int)) (fun s => [(3, (.slice s.1 s.2.1 s.2.2.1))]) (fun s => .row s.1 s.2.2.1 3 1 (ii s.2.2.2) :: F) (fun s => κ0 s.2.2.2 = some r1 ∧ (s.2.2.2.length = s.2.1)) ?_ ?_
  · refine j_block ?_
    refine j_loop (σ := (Option Addr) × Nat × Nat × (List Int) × Int) (fun s => [(3, (.slice s.1 s.2.1 s.2.2.1)), (8, (.slice x3.A x3.n x3.c)), (9, (i6 (v1.length : Int))), (10, (i6 s.2.2.2.2))]) (fun s => .row x3.A x3.c 4 1 (bls v1) :: .row s.1 s.2.2.1 3 1 (ii s.2.2.2.1) :: F) (fun m s => impl_GarbageOf.loop0 K κ0 v1 m s.2.2.2.1 s.2.2.2.2 = some r1 ∧ (s.2.2.2.1.length = s.2.1)) K (x2, 0, 0, ([] : List Int), (0:Int)) ⟨h, rfl⟩ (fun a he => he.sub ⟨rfl, rfl, rfl, rfl, trivial⟩) (fun w h => h.pick 3 [0, 1] rfl) ?_
    rintro m ⟨A2, n2, d2, l2, p2⟩ ⟨h, q2⟩
    cases m with
    | zero => exact absurd h (by rw [impl_GarbageOf.loop0]; exact nofun)
    | succ m =>
      rw [impl_GarbageOf.loop0] at h
      show J _ _ [(3, (.slice A2 n2 d2)), (8, (.slice x3.A x3.n x3.c)), (9, (i6 (v1.length : Int))), (10, (i6 p2))] _ (.row x3.A x3.c 4 1 (bls v1) :: .row A2 d2 3 1 (ii l2) :: F)
      refine j_seq ?_
      refine j_region ?_
      refine r_q (q_lss rfl rfl rfl) rfl rfl ?_
      refine r_nil ?_
      refine j_then ?_
      refine j_seq ?_
      rcases of_if h with ⟨c13, h⟩ | ⟨c13, h⟩
      · refine j_true rfl (decide_eq_true c13) ?_
        refine j_skip ?_
        refine j_then ?_
        refine j_seq ?_
        refine j_block ?_
        refine j_seq ?_
        refine j_region ?_
        refine r_q (q_move rfl rfl) rfl rfl ?_
        obtain ⟨c14, h⟩ := of_guard h
        refine r_q (q_ix (Rd.row 0 rfl) (bls_len1 v1) (by decide) x3.h c14 un112 sz4 rfl rfl rfl) rfl rfl ?_
        refine r_q (q_ldB (Rd.row 0 rfl) c14 ag4 rfl rfl) rfl rfl ?_
        refine r_q (q_assign rfl rfl) rfl rfl ?_
        refine r_q (q_assign rfl rfl) rfl rfl ?_
        refine r_nil ?_
        refine j_then ?_
        refine j_seq ?_
        refine j_region ?_
        refine r_q (q_move rfl rfl) rfl rfl ?_
        refine r_q (q_not rfl rfl) rfl rfl ?_
        refine r_nil ?_
        refine j_then ?_
        rcases of_if h with ⟨c15, h⟩ | ⟨c15, h⟩
        · refine j_false rfl (not_f c15) ?_
          refine j_skip ?_
          refine j_in ?_
          refine j_then ?_
          refine j_region ?_
          refine r_q (q_add rfl rfl rfl) rfl rfl ?_
          refine r_q (q_move rfl rfl) rfl rfl ?_
          refine r_nil ?_
          refine j_then ?_
          exact j_again m (A2, n2, d2, l2, (wrap64 (p2 + (1:Int)))) (Nat.lt_succ_self m) ⟨h, q2⟩ (fun a he => he.sub ⟨rfl, rfl, rfl, rfl, trivial⟩) (fun w h => h)
        · refine j_true rfl (not_t (var_f c15)) ?_
          refine j_region ?_
          refine r_q (q_move rfl rfl) rfl rfl ?_
          refine r_q (q_move rfl rfl) rfl rfl ?_
          refine r_do (a_litX (vs := [(i6 p2)]) (ii ([p2] : List Int)) un32 sz3 zr3 rfl rfl rfl rfl rfl rfl rfl rfl rfl) rfl rfl (fun x4 => ?_)
          obtain ⟨c16, h⟩ := of_guard h
          refine r_do (a_appI (xs := l2) (ys := ([p2] : List Int)) 2 un32 un32 sz3 by3 zr3 rfl rfl rfl rfl rfl rfl rfl rfl rfl q2 rfl (Rd.row 0 rfl) c16) rfl rfl (fun x5 => ?_)
          refine j_s2 ?_
          refine r_q (q_assign rfl rfl) rfl rfl ?_
          refine r_nil ?_
          refine j_in ?_
          refine j_then ?_
          refine j_region ?_
          refine r_q (q_add rfl rfl rfl) rfl rfl ?_
          refine r_q (q_move rfl rfl) rfl rfl ?_
          refine r_nil ?_
          refine j_then ?_
          exact j_again m (x5.1, (n2 + 1), x5.2, (l2 ++ ([p2] : List Int)), (wrap64 (p2 + (1:Int)))) (Nat.lt_succ_self m) ⟨h, (app_len q2 rfl)⟩ (fun a he => he.sub ⟨rfl, rfl, rfl, rfl, trivial⟩) (fun w h => h.tail)
      · refine j_false rfl (decide_eq_false c13) ?_
        refine j_exit ?_
        refine j_then_exit ?_
        refine j_then_exit ?_
        refine j_in_exit ?_
        refine j_then ?_
        exact j_meet (A2, n2, d2, l2) ⟨h, q2⟩ (fun a he => he.sub ⟨rfl, trivial⟩) (fun w h => h.tail)
  · rintro ⟨A3, n3, d3, l3⟩ ⟨h, q3⟩
    subst hκ0
    show J _ _ [(3, (.slice A3 n3 d3))] _ (.row A3 d3 3 1 (ii l3) :: F)
    refine j_then ?_
    refine j_seq ?_
    refine j_region ?_
    refine r_q (q_move rfl rfl) rfl rfl ?_
    refine r_q (q_assign rfl rfl) rfl rfl ?_
    refine r_nil ?_
    refine j_then ?_
    refine j_ret ?_
    cases h
    exact j_return rfl (ResOf.tmp rfl ResOf.nil) rfl (fun w h => ⟨⟨A3, n3, d3, q3⟩, rfl, h⟩)

theorem impl_LeakedOf.calls (K : Nat) (a0_0 : List Int) (a0_0_A : Option Addr) (a0_0_n a0_0_c : Nat) (a0_1 : List Int) (a0_1_A : Option Addr) (a0_1_n a0_1_c : Nat) (a0_2 : List Int) (a0_2_A : Option Addr) (a0_2_n a0_2_c : Nat) (a0_3 : List Int) (a0_3_A : Option Addr) (a0_3_n a0_3_c : Nat) {w0 w : World} {F : List Res} {r1 : List Int} (hm : Mem w0 (F) w) (a0_0_h : a0_0.length = a0_0_n) (a0_0_R : Rd w0 F a0_0_A (ii a0_0)) (a0_1_h : a0_1.length = a0_1_n) (a0_1_R : Rd w0 F a0_1_A (ii a0_1)) (a0_2_h : a0_2.length = a0_2_n) (a0_2_R : Rd w0 F a0_2_A (ii a0_2)) (a0_3_h : a0_3.length = a0_3_n) (a0_3_R : Rd w0 F a0_3_A (ii a0_3)) (a0_3_k : a0_3.length ≤ a0_3_c) (h : impl_LeakedOf.f K a0_0 a0_1 a0_2 a0_3 = some r1) :
    Calls Try.prog 50 (List.toArray [.agg (List.toArray [.slice a0_0_A a0_0_n a0_0_c, .slice a0_1_A a0_1_n a0_1_c, .slice a0_2_A a0_2_n a0_2_c, .slice a0_3_A a0_3_n a0_3_c])]) w fun e w' => ∃ x : (Sl r1.length), e = .returned (.slice x.A x.n x.c) ∧ Mem w0 (.row x.A x.c 3 1 (ii r1) :: F) w' := by
  unfold impl_LeakedOf.f at h
  refine calls_of_J (n := 29) Try.func50 rfl rfl rfl hm ?_
  refine j_seq ?_
  refine j_region ?_
  refine r_do (a_box rfl rfl) rfl rfl (fun x1 => ?_)
  refine r_q (q_assign rfl rfl) rfl rfl ?_
  refine r_nil ?_
  refine j_then ?_
  refine j_seq ?_
  refine j_seq ?_
  refine j_region ?_
  refine r_q (q_loadb_agg 0 rfl ag48 sz48 rfl rfl rfl rfl) rfl rfl ?_
  obtain ⟨v1, hb1, h⟩ := of_b1 h
  refine r_do (a_call ok61 rfl rfl rfl rfl (fun w hm => impl_StoreValid.calls K a0_0 a0_0_A a0_0_n a0_0_c a0_1 a0_1_A a0_1_n a0_1_c a0_2 a0_2_A a0_2_n a0_2_c a0_3 a0_3_A a0_3_n a0_3_c hm a0_0_h (Rd.drop 1 a0_0_R) a0_1_h (Rd.drop 1 a0_1_R) a0_2_h (Rd.drop 1 a0_2_R) a0_3_h (Rd.drop 1 a0_3_R) a0_3_k hb1)) rfl rfl (fun x2 => ?_)
  refine r_q (q_not rfl rfl) rfl rfl ?_
  refine r_nil ?_
  refine j_then ?_
  rcases of_if h with ⟨c1, h⟩ | ⟨c1, h⟩
  · refine j_false rfl (not_f c1) ?_
    refine j_skip ?_
    refine j_then ?_
    refine j_seq ?_
    refine j_region ?_
    refine r_do (a_litX (vs := []) (ii ([] : List Int)) un32 sz3 zr3 rfl rfl rfl rfl rfl rfl rfl rfl rfl) rfl rfl (fun x3 => ?_)
    refine r_q (q_assign rfl rfl) rfl rfl ?_
    refine r_nil ?_
    refine j_then ?_
    refine j_seq ?_
    refine j_seq ?_
    refine j_region ?_
    refine r_q (q_fieldAddr fi48_0 sz46 rfl rfl rfl) rfl rfl ?_
    refine r_q (q_loadb_agg 1 rfl ag46 sz46 rfl rfl rfl rfl) rfl rfl ?_
    obtain ⟨v2, hb2, h⟩ := of_b1 h
    refine r_do (a_call ok87 rfl rfl rfl rfl (fun w hm => impl_GarbageOf.calls K a0_0 a0_0_A a0_0_n a0_0_c a0_1 a0_1_A a0_1_n a0_1_c a0_2 a0_2_A a0_2_n a0_2_c hm a0_0_h (Rd.drop 2 a0_0_R) a0_1_h (Rd.drop 2 a0_1_R) a0_2_h (Rd.drop 2 a0_2_R) hb2)) rfl rfl (fun x4 => ?_)
    refine r_q (q_lenX v2 x4.h un32 rfl rfl rfl rfl rfl) rfl rfl ?_
    refine r_q (q_move rfl rfl) rfl rfl ?_
    refine r_nil ?_
    refine j_then ?_
    obtain ⟨κ0, h, hκ0⟩ := ex_k (g := fun κ => impl_LeakedOf.loop0 K κ a0_3 v2 K ([] : List Int) (0:Int) = some r1) h
    refine j_cut (σ := (Option Addr) × Nat × Nat × (List Int)) (fun s => [(3, (.slice s.1 s.2.1 s.2.2.1))]) (fun s => .row s.1 s.2.2.1 3 1 (ii s.2.2.2) :: F) (fun s => κ0 s.2.2.2 = some r1 ∧ (s.2.2.2.length = s.2.1)) ?_ ?_
    · refine j_block ?_
      refine j_loop (σ := (Option Addr) × Nat × Nat × (List Int) × Int) (fun s => [(1, (pt x1)), (3, (.slice s.1 s.2.1 s.2.2.1)), (12, (.slice x4.A x4.n x4.c)), (13, (i6 (v2.length : Int))), (14, (i6 s.2.2.2.2))]) (fun s => .box x1 48 [(.slice a0_0_A a0_0_n a0_0_c), (.slice a0_1_A a0_1_n a0_1_c), (.slice a0_2_A a0_2_n a0_2_c), (.slice a0_3_A a0_3_n a0_3_c)] :: .row x4.A x4.c 3 1 (ii v2) :: .row s.1 s.2.2.1 3 1 (ii s.2.2.2.1) :: F) (fun m s => impl_LeakedOf.loop0 K κ0 a0_3 v2 m s.2.2.2.1 s.2.2.2.2 = some r1 ∧ (s.2.2.2.1.length = s.2.1)) K (x3, 0, 0, ([] : List Int), (0:Int)) ⟨h, rfl⟩ (fun a he => he.sub ⟨rfl, rfl, rfl, rfl, rfl, trivial⟩) (fun w h => h.pick 3 [2, 0, 1] rfl) ?_
      rintro m ⟨A2, n2, d2, l2, p2⟩ ⟨h, q2⟩
      cases m with
      | zero => exact absurd h (by rw [impl_LeakedOf.loop0]; exact nofun)
      | succ m =>
        rw [impl_LeakedOf.loop0] at h
        show J _ _ [(1, (pt x1)), (3, (.slice A2 n2 d2)), (12, (.slice x4.A x4.n x4.c)), (13, (i6 (v2.length : Int))), (14, (i6 p2))] _ (.box x1 48 [(.slice a0_0_A a0_0_n a0_0_c), (.slice a0_1_A a0_1_n a0_1_c), (.slice a0_2_A a0_2_n a0_2_c), (.slice a0_3_A a0_3_n a0_3_c)] :: .row x4.A x4.c 3 1 (ii v2) :: .row A2 d2 3 1 (ii l2) :: F)
        refine j_seq ?_
        refine j_region ?_
        refine r_q (q_lss rfl rfl rfl) rfl rfl ?_
        refine r_nil ?_
        refine j_then ?_
        refine j_seq ?_
        rcases of_if h with ⟨c14, h⟩ | ⟨c14, h⟩
        · refine j_true rfl (decide_eq_true c14) ?_
          refine j_skip ?_
          refine j_then ?_
          refine j_seq ?_
          refine j_block ?_
          refine j_seq ?_
          refine j_region ?_
          obtain ⟨c15, h⟩ := of_guard h
          refine r_q (q_ix (Rd.row 1 rfl) (ints_len1 _ v2) (by decide) x4.h c15 un32 sz3 rfl rfl rfl) rfl rfl ?_
          refine r_q (q_ldI (Rd.row 1 rfl) c15 ag3 rfl rfl) rfl rfl ?_
          refine r_q (q_assign rfl rfl) rfl rfl ?_
          refine r_nil ?_
          refine j_then ?_
          refine j_seq ?_
          refine j_region ?_
          refine r_q (q_fieldAddr fi48_1 sz32 rfl rfl rfl) rfl rfl ?_
          refine r_q (q_loadb 0 rfl ag32 rfl rfl rfl) rfl rfl ?_
          refine r_q (q_move rfl rfl) rfl rfl ?_
          obtain ⟨v6, hb6, h⟩ := of_b1 h
          refine r_do (a_call ok81 rfl rfl rfl rfl (fun w hm => slices_Contains_int.calls K a0_3 a0_3_A a0_3_n a0_3_c (rd v2 p2) hm a0_3_h (Rd.drop 3 a0_3_R) hb6)) rfl rfl (fun x5 => ?_)
          refine r_q (q_not rfl rfl) rfl rfl ?_
          refine r_nil ?_
          refine j_then ?_
          rcases of_if h with ⟨c16, h⟩ | ⟨c16, h⟩
          · refine j_false rfl (not_f c16) ?_
            refine j_skip ?_
            refine j_in ?_
            refine j_then ?_
            refine j_region ?_
            refine r_q (q_add rfl rfl rfl) rfl rfl ?_
            refine r_q (q_move rfl rfl) rfl rfl ?_
            refine r_nil ?_
            refine j_then ?_
            exact j_again m (A2, n2, d2, l2, (wrap64 (p2 + (1:Int)))) (Nat.lt_succ_self m) ⟨h, q2⟩ (fun a he => he.sub ⟨rfl, rfl, rfl, rfl, rfl, trivial⟩) (fun w h => h)
          · refine j_true rfl (not_t (var_f c16)) ?_
            refine j_region ?_
            refine r_q (q_move rfl rfl) rfl rfl ?_
            refine r_q (q_move rfl rfl) rfl rfl ?_
            refine r_do (a_litX (vs := [(i6 (rd v2 p2))]) (ii ([(rd v2 p2)] : List Int)) un32 sz3 zr3 rfl rfl rfl rfl rfl rfl rfl rfl rfl) rfl rfl (fun x6 => ?_)
            obtain ⟨c17, h⟩ := of_guard h
            refine r_do (a_appI (xs := l2) (ys := ([(rd v2 p2)] : List Int)) 3 un32 un32 sz3 by3 zr3 rfl rfl rfl rfl rfl rfl rfl rfl rfl q2 rfl (Rd.row 0 rfl) c17) rfl rfl (fun x7 => ?_)
            refine j_s3 ?_
            refine r_q (q_assign rfl rfl) rfl rfl ?_
            refine r_nil ?_
            refine j_in ?_
            refine j_then ?_
            refine j_region ?_
            refine r_q (q_add rfl rfl rfl) rfl rfl ?_
            refine r_q (q_move rfl rfl) rfl rfl ?_
            refine r_nil ?_
            refine j_then ?_
            exact j_again m (x7.1, (n2 + 1), x7.2, (l2 ++ ([(rd v2 p2)] : List Int)), (wrap64 (p2 + (1:Int)))) (Nat.lt_succ_self m) ⟨h, (app_len q2 rfl)⟩ (fun a he => he.sub ⟨rfl, rfl, rfl, rfl, rfl, trivial⟩) (fun w h => h.tail)
        · refine j_false rfl (decide_eq_false c14) ?_
          refine j_exit ?_
          refine j_then_exit ?_
          refine j_then_exit ?_
          refine j_in_exit ?_
          refine j_then ?_
          exact j_meet (A2, n2, d2, l2) ⟨h, q2⟩ (fun a he => he.sub ⟨rfl, trivial⟩) (fun w h => (h.drop 2))
    · rintro ⟨A3, n3, d3, l3⟩ ⟨h, q3⟩
      subst hκ0
      show J _ _ [(3, (.slice A3 n3 d3))] _ (.row A3 d3 3 1 (ii l3) :: F)
      refine j_then ?_
      refine j_seq ?_
      refine j_region ?_
      refine r_q (q_move rfl rfl) rfl rfl ?_
      refine r_q (q_assign rfl rfl) rfl rfl ?_
      refine r_nil ?_
      refine j_then ?_
      refine j_ret ?_
      cases h
      exact j_return rfl (ResOf.tmp rfl ResOf.nil) rfl (fun w h => ⟨⟨A3, n3, d3, q3⟩, rfl, h⟩)
  · refine j_true rfl (not_t (var_f c1)) ?_
    refine j_seq ?_
    refine j_region ?_
    refine r_q (q_assign rfl rfl) rfl rfl ?_
    refine r_nil ?_
    refine j_then ?_
    refine j_ret ?_
    refine j_then_ret ?_
    refine j_nil 3 1 ?_
    cases h
    exact j_return rfl (ResOf.tmp rfl ResOf.nil) rfl (fun w h => ⟨⟨none, 0, 0, rfl⟩, rfl, h.pick 2 [0] rfl⟩)

theorem impl_again.calls (K : Nat) (a0_0 : List Int) (a0_0_A : Option Addr) (a0_0_n a0_0_c : Nat) (a0_1 : List Int) (a0_1_A : Option Addr) (a0_1_n a0_1_c : Nat) (a0_2 : List Int) (a0_2_A : Option Addr) (a0_2_n a0_2_c : Nat) (a0_3 : List Int) (a0_3_A : Option Addr) (a0_3_n a0_3_c : Nat) {w0 w : World} {F : List Res} {r1 : List Int} {r2 : List Int} {r3 : List Int} {r4 : List Int} (hm : Mem w0 (F) w) (a0_0_h : a0_0.length = a0_0_n) (a0_0_R : Rd w0 F a0_0_A (ii a0_0)) (a0_1_h : a0_1.length = a0_1_n) (a0_1_R : Rd w0 F a0_1_A (ii a0_1)) (a0_2_h : a0_2.length = a0_2_n) (a0_2_R : Rd w0 F a0_2_A (ii a0_2)) (a0_3_h : a0_3.length = a0_3_n) (a0_3_R : Rd w0 F a0_3_A (ii a0_3)) (h : impl_again.f K a0_0 a0_1 a0_2 a0_3 = some (r1, r2, r3, r4)) :
    Calls Try.prog 82 (List.toArray [.agg (List.toArray [.slice a0_0_A a0_0_n a0_0_c, .slice a0_1_A a0_1_n a0_1_c, .slice a0_2_A a0_2_n a0_2_c, .slice a0_3_A a0_3_n a0_3_c])]) w fun e w' => ∃ x : (Sl r1.length) × (Sl r2.length) × (Sl r3.length) × (Sl r4.length), e = .returned (.agg (List.toArray [.slice x.1.A x.1.n x.1.c, .slice x.2.1.A x.2.1.n x.2.1.c, .slice x.2.2.1.A x.2.2.1.n x.2.2.1.c, .slice x.2.2.2.A x.2.2.2.n x.2.2.2.c])) ∧ Mem w0 (.row x.1.A x.1.c 3 1 (ii r1) :: .row x.2.1.A x.2.1.c 3 1 (ii r2) :: .row x.2.2.1.A x.2.2.1.c 3 1 (ii r3) :: .row x.2.2.2.A x.2.2.2.c 3 1 (ii r4) :: F) w' := by
  unfold impl_again.f at h
  refine calls_of_J (n := 10) Try.func82 rfl rfl rfl hm ?_
  refine j_seq ?_
  refine j_region ?_
  refine r_do (a_box rfl rfl) rfl rfl (fun x1 => ?_)
  refine r_do (a_alloc zr48 rfl) rfl rfl (fun x2 => ?_)
  refine r_nil ?_
  refine j_then ?_
  refine j_seq ?_
  obtain ⟨v1, v2, v3, hb1, h⟩ := of_b3 h
  obtain ⟨v4, hb2, h⟩ := of_b1 h
  refine j_draw (.box x1 48 [(.slice a0_0_A a0_0_n a0_0_c), (.slice a0_1_A a0_1_n a0_1_c), (.slice a0_2_A a0_2_n a0_2_c), (.slice a0_3_A a0_3_n a0_3_c)] :: F) 8 follows_any rfl ?_
  refine d_take 0 rfl (q_fieldAddr fi48_0 sz46 rfl rfl rfl) rfl rfl (by kernel_rfl) (by kernel_rfl) (by kernel_rfl) (fun w h => h.tail) ?_
  refine d_take 1 rfl (q_loadb_agg 0 rfl ag46 sz46 rfl rfl rfl rfl) rfl rfl (by kernel_rfl) (by kernel_rfl) (by kernel_rfl) (fun w h => h.tail) ?_
  refine d_take 3 rfl (q_fieldAddr fi48_1 sz32 rfl rfl rfl) rfl rfl (by kernel_rfl) (by kernel_rfl) (by kernel_rfl) (fun w h => h.tail) ?_
  refine d_take 4 rfl (q_loadb 0 rfl ag32 rfl rfl rfl) rfl rfl (by kernel_rfl) (by kernel_rfl) (by kernel_rfl) (fun w h => h.tail) ?_
  refine d_one 2 (by kernel_rfl) ?_
  refine o_do rfl (a_call ok91 rfl rfl rfl rfl (fun w hm => impl_copied.calls K a0_0 a0_0_A a0_0_n a0_0_c a0_1 a0_1_A a0_1_n a0_1_c a0_2 a0_2_A a0_2_n a0_2_c hm a0_0_h (Rd.drop 2 a0_0_R) a0_1_h (Rd.drop 2 a0_1_R) a0_2_h (Rd.drop 2 a0_2_R) hb1)) rfl rfl (fun x3 w h => (h.drop 4)) (fun x3 => ?_)
  refine d_one 5 (by kernel_rfl) ?_
  refine o_do rfl (a_call ok103 rfl rfl rfl rfl (fun w hm => slices_Clone_int.calls K a0_3 a0_3_A a0_3_n a0_3_c hm a0_3_h (Rd.drop 5 a0_3_R) hb2)) rfl rfl (fun x4 w h => (h.drop 5)) (fun x4 => ?_)
  refine d_take 6 rfl (q_build (cs := [(.slice x3.1.A x3.1.n x3.1.c), (.slice x3.2.1.A x3.2.1.n x3.2.1.c), (.slice x3.2.2.A x3.2.2.n x3.2.2.c), (.slice x4.A x4.n x4.c)]) zr48 pl48 rfl rfl rfl rfl) rfl rfl (by kernel_rfl) (by kernel_rfl) (by kernel_rfl) (fun w h => (h.drop 5)) ?_
  refine d_one 7 (by kernel_rfl) ?_
  refine o_do rfl (a_storeb 4 rfl sz48 rfl rfl rfl rfl (Nat.le_of_ble_eq_true rfl) rfl) rfl rfl (fun _ w h => (h.drop 5)) (fun _ => ?_)
  refine j_b4 [(.slice x3.1.A x3.1.n x3.1.c), (.slice x3.2.1.A x3.2.1.n x3.2.1.c), (.slice x3.2.2.A x3.2.2.n x3.2.2.c), (.slice x4.A x4.n x4.c)] rfl ?_
  refine d_done (by kernel_rfl) ?_
  refine j_then ?_
  refine j_ret ?_
  cases h
  exact j_return rfl (ResOf.cell 4 rfl rfl ag48 sz48 ResOf.nil) rfl (fun w h => ⟨(⟨x3.1.A, x3.1.n, x3.1.c, x3.1.h⟩, ⟨x3.2.1.A, x3.2.1.n, x3.2.1.c, x3.2.1.h⟩, ⟨x3.2.2.A, x3.2.2.n, x3.2.2.c, x3.2.2.h⟩, ⟨x4.A, x4.n, x4.c, x4.h⟩), rfl, h.pick 6 [1, 2, 3, 0] rfl⟩)

theorem impl_Store_clear.calls (K : Nat) (a0_g : Nat) (a0_0 : List Int) (a0_0_A : Option Addr) (a0_0_n a0_0_c : Nat) (a0_1 : List Int) (a0_1_A : Option Addr) (a0_1_n a0_1_c : Nat) (a0_2_A : Option Addr) (a0_2_n a0_2_c : Nat) (a0_3 : List Int) (a0_3_A : Option Addr) (a0_3_n a0_3_c : Nat) (a1 : List Int) (a1_A : Option Addr) (a1_n a1_c : Nat) {w0 w : World} {F : List Res} {r1 : List Int} {r2 : List Int} {r3 : List Int} (hm : Mem w0 (.box a0_g 48 [.slice a0_0_A a0_0_n a0_0_c, .slice a0_1_A a0_1_n a0_1_c, .slice a0_2_A a0_2_n a0_2_c, .slice a0_3_A a0_3_n a0_3_c] :: .row a0_0_A a0_0_c 3 1 (ii a0_0) :: .row a0_1_A a0_1_c 3 1 (ii a0_1) :: .row a0_3_A a0_3_c 3 1 (ii a0_3) :: F) w) (a0_0_h : a0_0.length = a0_0_n) (a0_1_h : a0_1.length = a0_1_n) (a0_3_h : a0_3.length = a0_3_n) (a1_h : a1.length = a1_n) (a1_R : Rd w0 F a1_A (ii a1)) (h : impl_Store_clear.f K a0_0 a0_1 a0_3 a1 = some (r1, r2, r3)) :
    Calls Try.prog 83 (List.toArray [pt a0_g, .slice a1_A a1_n a1_c]) w fun e w' => ∃ x : (Ln r1.length a0_0.length) × (Ln r2.length a0_1.length) × (Sl r3.length), e = .returned (.tuple (List.toArray [])) ∧ Mem w0 (.box a0_g 48 [.slice a0_0_A a0_0_n a0_0_c, .slice a0_1_A a0_1_n a0_1_c, .slice a0_2_A a0_2_n a0_2_c, .slice x.2.2.A x.2.2.n x.2.2.c] :: .row a0_0_A a0_0_c 3 1 (ii r1) :: .row a0_1_A a0_1_c 3 1 (ii r2) :: .row x.2.2.A x.2.2.c 3 1 (ii r3) :: F) w' := by
  unfold impl_Store_clear.f at h
  refine calls_of_J (n := 82) Try.func83 rfl rfl rfl hm ?_
  refine j_seq ?_
  refine j_region ?_
  refine r_q (q_move rfl rfl) rfl rfl ?_
  refine r_q (q_lenX a1 a1_h un32 rfl rfl rfl rfl rfl) rfl rfl ?_
  refine r_q (q_move rfl rfl) rfl rfl ?_
  refine r_nil ?_
  refine j_then ?_
  obtain ⟨κ0, h, hκ0⟩ := ex_k (g := fun κ => impl_Store_clear.loop0 K κ a1 K (0:Int) a0_3 a0_0 a0_1 = some (r1, r2, r3)) h
  refine j_cut (σ := (Option Addr) × Nat × Nat × (List Int) × (List Int) × (List Int)) (fun s => []) (fun s => .box a0_g 48 [(.slice a0_0_A a0_0_n a0_0_c), (.slice a0_1_A a0_1_n a0_1_c), (.slice a0_2_A a0_2_n a0_2_c), (.slice s.1 s.2.1 s.2.2.1)] :: .row a0_0_A a0_0_c 3 1 (ii s.2.2.2.2.1) :: .row a0_1_A a0_1_c 3 1 (ii s.2.2.2.2.2) :: .row s.1 s.2.2.1 3 1 (ii s.2.2.2.1) :: F) (fun s => κ0 s.2.2.2.1 s.2.2.2.2.1 s.2.2.2.2.2 = some (r1, r2, r3) ∧ (s.2.2.2.1.length = s.2.1) ∧ (s.2.2.2.2.1.length = a0_0_n) ∧ (s.2.2.2.2.2.length = a0_1_n)) ?_ ?_
  · refine j_block ?_
    refine j_loop (σ := Int × (Option Addr) × Nat × Nat × (List Int) × (List Int) × (List Int)) (fun s => [(0, (pt a0_g)), (7, (.slice a1_A a1_n a1_c)), (8, (i6 (a1.length : Int))), (9, (i6 s.1))]) (fun s => .box a0_g 48 [(.slice a0_0_A a0_0_n a0_0_c), (.slice a0_1_A a0_1_n a0_1_c), (.slice a0_2_A a0_2_n a0_2_c), (.slice s.2.1 s.2.2.1 s.2.2.2.1)] :: .row a0_0_A a0_0_c 3 1 (ii s.2.2.2.2.2.1) :: .row a0_1_A a0_1_c 3 1 (ii s.2.2.2.2.2.2) :: .row s.2.1 s.2.2.2.1 3 1 (ii s.2.2.2.2.1) :: F) (fun m s => impl_Store_clear.loop0 K κ0 a1 m s.1 s.2.2.2.2.1 s.2.2.2.2.2.1 s.2.2.2.2.2.2 = some (r1, r2, r3) ∧ (s.2.2.2.2.1.length = s.2.2.1) ∧ (s.2.2.2.2.2.1.length = a0_0_n) ∧ (s.2.2.2.2.2.2.length = a0_1_n)) K ((0:Int), a0_3_A, a0_3_n, a0_3_c, a0_3, a0_0, a0_1) ⟨h, a0_3_h, a0_0_h, a0_1_h⟩ (fun a he => he.sub ⟨rfl, rfl, rfl, rfl, trivial⟩) (fun w h => h) ?_
    rintro m ⟨p6, A2, n2, d2, l16, l17, l18⟩ ⟨h, q16, q17, q18⟩
    cases m with
    | zero => exact absurd h (by rw [impl_Store_clear.loop0]; exact nofun)
    | succ m =>
      rw [impl_Store_clear.loop0] at h
      show J _ _ [(0, (pt a0_g)), (7, (.slice a1_A a1_n a1_c)), (8, (i6 (a1.length : Int))), (9, (i6 p6))] _ (.box a0_g 48 [(.slice a0_0_A a0_0_n a0_0_c), (.slice a0_1_A a0_1_n a0_1_c), (.slice a0_2_A a0_2_n a0_2_c), (.slice A2 n2 d2)] :: .row a0_0_A a0_0_c 3 1 (ii l17) :: .row a0_1_A a0_1_c 3 1 (ii l18) :: .row A2 d2 3 1 (ii l16) :: F)
      refine j_seq ?_
      refine j_region ?_
      refine r_q (q_lss rfl rfl rfl) rfl rfl ?_
      refine r_nil ?_
      refine j_then ?_
      refine j_seq ?_
      rcases of_if h with ⟨c100, h⟩ | ⟨c100, h⟩
      · refine j_true rfl (decide_eq_true c100) ?_
        refine j_skip ?_
        refine j_then ?_
        refine j_seq ?_
        refine j_block ?_
        refine j_seq ?_
        refine j_region ?_
        obtain ⟨c101, h⟩ := of_guard h
        refine r_q (q_ix (Rd.drop 4 a1_R) (ints_len1 _ a1) (by decide) a1_h c101 un32 sz3 rfl rfl rfl) rfl rfl ?_
        refine r_q (q_ldI (Rd.drop 4 a1_R) c101 ag3 rfl rfl) rfl rfl ?_
        refine r_q (q_assign rfl rfl) rfl rfl ?_
        refine r_nil ?_
        refine j_then ?_
        refine j_seq ?_
        obtain ⟨c102, h⟩ := of_guard h
        obtain ⟨c103, h⟩ := of_guard h
        refine j_draw (.box a0_g 48 [(.slice a0_0_A a0_0_n a0_0_c), (.slice a0_1_A a0_1_n a0_1_c), (.slice a0_2_A a0_2_n a0_2_c), (.slice A2 n2 d2)] :: .row A2 d2 3 1 (ii l16) :: F) 16 follows_any rfl ?_
        refine d_take 0 rfl (q_move rfl rfl) rfl rfl (by kernel_rfl) (by kernel_rfl) (by kernel_rfl) (fun w h => h.pick 4 [0, 3] rfl) ?_
        refine d_take 1 rfl (q_nilCheck rfl rfl) rfl rfl (by kernel_rfl) (by kernel_rfl) (by kernel_rfl) (fun w h => h.pick 4 [0, 3] rfl) ?_
        refine d_take 2 rfl (q_fieldAddr fi48_0 sz46 rfl rfl rfl) rfl rfl (by kernel_rfl) (by kernel_rfl) (by kernel_rfl) (fun w h => h.pick 4 [0, 3] rfl) ?_
        refine d_take 3 rfl (q_fieldAddr fi46_0 sz32 rfl rfl rfl) rfl rfl (by kernel_rfl) (by kernel_rfl) (by kernel_rfl) (fun w h => h.pick 4 [0, 3] rfl) ?_
        refine d_take 4 rfl (q_loadb 0 rfl ag32 rfl rfl rfl) rfl rfl (by kernel_rfl) (by kernel_rfl) (by kernel_rfl) (fun w h => h.pick 4 [0, 3] rfl) ?_
        refine d_take 5 rfl (q_move rfl rfl) rfl rfl (by kernel_rfl) (by kernel_rfl) (by kernel_rfl) (fun w h => h.pick 4 [0, 3] rfl) ?_
        refine d_take 6 rfl (q_move rfl rfl) rfl rfl (by kernel_rfl) (by kernel_rfl) (by kernel_rfl) (fun w h => h.pick 4 [0, 3] rfl) ?_
        refine d_take 7 rfl (q_nilCheck rfl rfl) rfl rfl (by kernel_rfl) (by kernel_rfl) (by kernel_rfl) (fun w h => h.pick 4 [0, 3] rfl) ?_
        refine d_take 8 rfl (q_fieldAddr fi48_0 sz46 rfl rfl rfl) rfl rfl (by kernel_rfl) (by kernel_rfl) (by kernel_rfl) (fun w h => h.pick 4 [0, 3] rfl) ?_
        refine d_take 9 rfl (q_fieldAddr fi46_1 sz32 rfl rfl rfl) rfl rfl (by kernel_rfl) (by kernel_rfl) (by kernel_rfl) (fun w h => h.pick 4 [0, 3] rfl) ?_
        refine d_take 10 rfl (q_loadb 0 rfl ag32 rfl rfl rfl) rfl rfl (by kernel_rfl) (by kernel_rfl) (by kernel_rfl) (fun w h => h.pick 4 [0, 3] rfl) ?_
        refine d_take 11 rfl (q_move rfl rfl) rfl rfl (by kernel_rfl) (by kernel_rfl) (by kernel_rfl) (fun w h => h.pick 4 [0, 3] rfl) ?_
        refine d_one 12 (by kernel_rfl) ?_
        refine o_do rfl ((q_ix (Rd.row 1 rfl) (ints_len1 _ l17) (by decide) q17 c102 un32 sz3 rfl rfl rfl)).acts rfl rfl (fun _ w h => h.pick 4 [0, 3] rfl) (fun _ => ?_)
        refine d_one 13 (by kernel_rfl) ?_
        refine o_do rfl (a_stI 1 rfl c102 sz3 rfl rfl rfl) rfl rfl (fun _ w h => h.pick 4 [0, 3] rfl) (fun _ => ?_)
        refine j_s1 ?_
        refine d_one 14 (by kernel_rfl) ?_
        refine o_do rfl ((q_ix (Rd.row 2 rfl) (ints_len1 _ l18) (by decide) q18 c103 un32 sz3 rfl rfl rfl)).acts rfl rfl (fun _ w h => h.pick 4 [0, 3] rfl) (fun _ => ?_)
        refine d_one 15 (by kernel_rfl) ?_
        refine o_do rfl (a_stI 2 rfl c103 sz3 rfl rfl rfl) rfl rfl (fun _ w h => h.pick 4 [0, 3] rfl) (fun _ => ?_)
        refine j_s2 ?_
        refine d_done (by kernel_rfl) ?_
        refine j_then ?_
        refine j_seq ?_
        refine j_seq ?_
        refine j_region ?_
        refine r_q (q_move rfl rfl) rfl rfl ?_
        refine r_q (q_nilCheck rfl rfl) rfl rfl ?_
        refine r_q (q_fieldAddr fi48_0 sz46 rfl rfl rfl) rfl rfl ?_
        refine r_q (q_fieldAddr fi46_0 sz32 rfl rfl rfl) rfl rfl ?_
        refine r_q (q_loadb 0 rfl ag32 rfl rfl rfl) rfl rfl ?_
        refine r_q (q_lenX (l17.set (rd a1 p6).toNat (-1:Int)) (set_len q17 _ _) un32 rfl rfl rfl rfl rfl) rfl rfl ?_
        refine r_q (q_move rfl rfl) rfl rfl ?_
        refine r_nil ?_
        refine j_then ?_
        obtain ⟨κ1, h, hκ1⟩ := ex_k (g := fun κ => impl_Store_clear.loop1 K κ a1 p6 l17 K (0:Int) (l17.set (rd a1 p6).toNat (-1:Int)) (l18.set (rd a1 p6).toNat (-1:Int)) = some (r1, r2, r3)) h
        refine j_cut (σ := (List Int) × (List Int)) (fun s => [(0, (pt a0_g)), (5, (i6 (rd a1 p6))), (7, (.slice a1_A a1_n a1_c)), (8, (i6 (a1.length : Int))), (9, (i6 p6))]) (fun s => .box a0_g 48 [(.slice a0_0_A a0_0_n a0_0_c), (.slice a0_1_A a0_1_n a0_1_c), (.slice a0_2_A a0_2_n a0_2_c), (.slice A2 n2 d2)] :: .row a0_0_A a0_0_c 3 1 (ii s.1) :: .row a0_1_A a0_1_c 3 1 (ii s.2) :: .row A2 d2 3 1 (ii l16) :: F) (fun s => κ1 s.1 s.2 = some (r1, r2, r3) ∧ (s.1.length = a0_0_n) ∧ (s.2.length = a0_1_n)) ?_ ?_
        · refine j_block ?_
          refine j_loop (σ := Int × (List Int) × (List Int)) (fun s => [(0, (pt a0_g)), (5, (i6 (rd a1 p6))), (7, (.slice a1_A a1_n a1_c)), (8, (i6 (a1.length : Int))), (9, (i6 p6)), (32, (i6 ((l17.set (rd a1 p6).toNat (-1:Int)).length : Int))), (33, (i6 s.1))]) (fun s => .box a0_g 48 [(.slice a0_0_A a0_0_n a0_0_c), (.slice a0_1_A a0_1_n a0_1_c), (.slice a0_2_A a0_2_n a0_2_c), (.slice A2 n2 d2)] :: .row a0_0_A a0_0_c 3 1 (ii s.2.1) :: .row a0_1_A a0_1_c 3 1 (ii s.2.2) :: .row A2 d2 3 1 (ii l16) :: F) (fun m s => impl_Store_clear.loop1 K κ1 a1 p6 l17 m s.1 s.2.1 s.2.2 = some (r1, r2, r3) ∧ (s.2.1.length = a0_0_n) ∧ (s.2.2.length = a0_1_n)) K ((0:Int), (l17.set (rd a1 p6).toNat (-1:Int)), (l18.set (rd a1 p6).toNat (-1:Int))) ⟨h, (set_len q17 _ _), (set_len q18 _ _)⟩ (fun a he => he.sub ⟨rfl, rfl, rfl, rfl, rfl, rfl, rfl, trivial⟩) (fun w h => h) ?_
          rintro m ⟨p10, l30, l31⟩ ⟨h, q30, q31⟩
          cases m with
          | zero => exact absurd h (by rw [impl_Store_clear.loop1]; exact nofun)
          | succ m =>
            rw [impl_Store_clear.loop1] at h
            show J _ _ [(0, (pt a0_g)), (5, (i6 (rd a1 p6))), (7, (.slice a1_A a1_n a1_c)), (8, (i6 (a1.length : Int))), (9, (i6 p6)), (32, (i6 ((l17.set (rd a1 p6).toNat (-1:Int)).length : Int))), (33, (i6 p10))] _ (.box a0_g 48 [(.slice a0_0_A a0_0_n a0_0_c), (.slice a0_1_A a0_1_n a0_1_c), (.slice a0_2_A a0_2_n a0_2_c), (.slice A2 n2 d2)] :: .row a0_0_A a0_0_c 3 1 (ii l30) :: .row a0_1_A a0_1_c 3 1 (ii l31) :: .row A2 d2 3 1 (ii l16) :: F)
            refine j_seq ?_
            refine j_region ?_
            refine r_q (q_lss rfl rfl rfl) rfl rfl ?_
            refine r_nil ?_
            refine j_then ?_
            refine j_seq ?_
            rcases of_if h with ⟨c125, h⟩ | ⟨c125, h⟩
            · refine j_true rfl (decide_eq_true c125) ?_
              refine j_skip ?_
              refine j_then ?_
              refine j_seq ?_
              refine j_block ?_
              refine j_seq ?_
              refine j_region ?_
              refine r_q (q_move rfl rfl) rfl rfl ?_
              refine r_q (q_assign rfl rfl) rfl rfl ?_
              refine r_nil ?_
              refine j_then ?_
              refine j_seq ?_
              refine j_seq ?_
              refine j_region ?_
              refine r_q (q_move rfl rfl) rfl rfl ?_
              refine r_q (q_nilCheck rfl rfl) rfl rfl ?_
              refine r_q (q_fieldAddr fi48_0 sz46 rfl rfl rfl) rfl rfl ?_
              refine r_q (q_fieldAddr fi46_0 sz32 rfl rfl rfl) rfl rfl ?_
              refine r_q (q_loadb 0 rfl ag32 rfl rfl rfl) rfl rfl ?_
              refine r_q (q_move rfl rfl) rfl rfl ?_
              obtain ⟨c126, h⟩ := of_guard h
              refine r_q (q_ix (Rd.row 1 rfl) (ints_len1 _ l30) (by decide) q30 c126 un32 sz3 rfl rfl rfl) rfl rfl ?_
              refine r_q (q_ldI (Rd.row 1 rfl) c126 ag3 rfl rfl) rfl rfl ?_
              refine r_q (q_move rfl rfl) rfl rfl ?_
              refine r_q (q_eql rfl rfl rfl) rfl rfl ?_
              refine r_nil ?_
              refine j_then ?_
              rcases of_if h with ⟨c127, h⟩ | ⟨c127, h⟩
              · refine j_true rfl (beq_t c127) ?_
                refine j_region ?_
                refine r_q (q_move rfl rfl) rfl rfl ?_
                refine r_q (q_nilCheck rfl rfl) rfl rfl ?_
                refine r_q (q_fieldAddr fi48_0 sz46 rfl rfl rfl) rfl rfl ?_
                refine r_q (q_fieldAddr fi46_0 sz32 rfl rfl rfl) rfl rfl ?_
                refine r_q (q_loadb 0 rfl ag32 rfl rfl rfl) rfl rfl ?_
                refine r_q (q_move rfl rfl) rfl rfl ?_
                refine r_q (q_ix (Rd.row 1 rfl) (ints_len1 _ l30) (by decide) q30 c126 un32 sz3 rfl rfl rfl) rfl rfl ?_
                refine r_do (a_stI 1 rfl c126 sz3 rfl rfl rfl) rfl rfl (fun _ => ?_)
                refine j_s1 ?_
                refine r_nil ?_
                refine j_then ?_
                refine j_seq ?_
                refine j_region ?_
                refine r_q (q_move rfl rfl) rfl rfl ?_
                refine r_q (q_nilCheck rfl rfl) rfl rfl ?_
                refine r_q (q_fieldAddr fi48_0 sz46 rfl rfl rfl) rfl rfl ?_
                refine r_q (q_fieldAddr fi46_1 sz32 rfl rfl rfl) rfl rfl ?_
                refine r_q (q_loadb 0 rfl ag32 rfl rfl rfl) rfl rfl ?_
                refine r_q (q_move rfl rfl) rfl rfl ?_
                obtain ⟨c128, h⟩ := of_guard h
                refine r_q (q_ix (Rd.row 2 rfl) (ints_len1 _ l31) (by decide) q31 c128 un32 sz3 rfl rfl rfl) rfl rfl ?_
                refine r_q (q_ldI (Rd.row 2 rfl) c128 ag3 rfl rfl) rfl rfl ?_
                refine r_q (q_move rfl rfl) rfl rfl ?_
                refine r_q (q_eql rfl rfl rfl) rfl rfl ?_
                refine r_nil ?_
                refine j_then ?_
                rcases of_if h with ⟨c129, h⟩ | ⟨c129, h⟩
                · refine j_true rfl (beq_t c129) ?_
                  refine j_region ?_
                  refine r_q (q_move rfl rfl) rfl rfl ?_
                  refine r_q (q_nilCheck rfl rfl) rfl rfl ?_
                  refine r_q (q_fieldAddr fi48_0 sz46 rfl rfl rfl) rfl rfl ?_
                  refine r_q (q_fieldAddr fi46_1 sz32 rfl rfl rfl) rfl rfl ?_
                  refine r_q (q_loadb 0 rfl ag32 rfl rfl rfl) rfl rfl ?_
                  refine r_q (q_move rfl rfl) rfl rfl ?_
                  refine r_q (q_ix (Rd.row 2 rfl) (ints_len1 _ l31) (by decide) q31 c128 un32 sz3 rfl rfl rfl) rfl rfl ?_
                  refine r_do (a_stI 2 rfl c128 sz3 rfl rfl rfl) rfl rfl (fun _ => ?_)
                  refine j_s2 ?_
                  refine r_nil ?_
                  refine j_in ?_
                  refine j_then ?_
                  refine j_region ?_
                  refine r_q (q_add rfl rfl rfl) rfl rfl ?_
                  refine r_q (q_move rfl rfl) rfl rfl ?_
                  refine r_nil ?_
                  refine j_then ?_
                  exact j_again m ((wrap64 (p10 + (1:Int))), (l30.set p10.toNat (-1:Int)), (l31.set p10.toNat (-1:Int))) (Nat.lt_succ_self m) ⟨h, (set_len q30 _ _), (set_len q31 _ _)⟩ (fun a he => he.sub ⟨rfl, rfl, rfl, rfl, rfl, rfl, rfl, trivial⟩) (fun w h => h)
                · refine j_false rfl (beq_f c129) ?_
                  refine j_skip ?_
                  refine j_in ?_
                  refine j_then ?_
                  refine j_region ?_
                  refine r_q (q_add rfl rfl rfl) rfl rfl ?_
                  refine r_q (q_move rfl rfl) rfl rfl ?_
                  refine r_nil ?_
                  refine j_then ?_
                  exact j_again m ((wrap64 (p10 + (1:Int))), (l30.set p10.toNat (-1:Int)), l31) (Nat.lt_succ_self m) ⟨h, (set_len q30 _ _), q31⟩ (fun a he => he.sub ⟨rfl, rfl, rfl, rfl, rfl, rfl, rfl, trivial⟩) (fun w h => h)
              · refine j_false rfl (beq_f c127) ?_
                refine j_skip ?_
                refine j_then ?_
                refine j_seq ?_
                refine j_region ?_
                refine r_q (q_move rfl rfl) rfl rfl ?_
                refine r_q (q_nilCheck rfl rfl) rfl rfl ?_
                refine r_q (q_fieldAddr fi48_0 sz46 rfl rfl rfl) rfl rfl ?_
                refine r_q (q_fieldAddr fi46_1 sz32 rfl rfl rfl) rfl rfl ?_
                refine r_q (q_loadb 0 rfl ag32 rfl rfl rfl) rfl rfl ?_
                refine r_q (q_move rfl rfl) rfl rfl ?_
                obtain ⟨c130, h⟩ := of_guard h
                refine r_q (q_ix (Rd.row 2 rfl) (ints_len1 _ l31) (by decide) q31 c130 un32 sz3 rfl rfl rfl) rfl rfl ?_
                refine r_q (q_ldI (Rd.row 2 rfl) c130 ag3 rfl rfl) rfl rfl ?_
                refine r_q (q_move rfl rfl) rfl rfl ?_
                refine r_q (q_eql rfl rfl rfl) rfl rfl ?_
                refine r_nil ?_
                refine j_then ?_
                rcases of_if h with ⟨c131, h⟩ | ⟨c131, h⟩
                · refine j_true rfl (beq_t c131) ?_
                  refine j_region ?_
                  refine r_q (q_move rfl rfl) rfl rfl ?_
                  refine r_q (q_nilCheck rfl rfl) rfl rfl ?_
                  refine r_q (q_fieldAddr fi48_0 sz46 rfl rfl rfl) rfl rfl ?_
                  refine r_q (q_fieldAddr fi46_1 sz32 rfl rfl rfl) rfl rfl ?_
                  refine r_q (q_loadb 0 rfl ag32 rfl rfl rfl) rfl rfl ?_
                  refine r_q (q_move rfl rfl) rfl rfl ?_
                  refine r_q (q_ix (Rd.row 2 rfl) (ints_len1 _ l31) (by decide) q31 c130 un32 sz3 rfl rfl rfl) rfl rfl ?_
                  refine r_do (a_stI 2 rfl c130 sz3 rfl rfl rfl) rfl rfl (fun _ => ?_)
                  refine j_s2 ?_
                  refine r_nil ?_
                  refine j_in ?_
                  refine j_then ?_
                  refine j_region ?_
                  refine r_q (q_add rfl rfl rfl) rfl rfl ?_
                  refine r_q (q_move rfl rfl) rfl rfl ?_
                  refine r_nil ?_
                  refine j_then ?_
                  exact j_again m ((wrap64 (p10 + (1:Int))), l30, (l31.set p10.toNat (-1:Int))) (Nat.lt_succ_self m) ⟨h, q30, (set_len q31 _ _)⟩ (fun a he => he.sub ⟨rfl, rfl, rfl, rfl, rfl, rfl, rfl, trivial⟩) (fun w h => h)
                · refine j_false rfl (beq_f c131) ?_
                  refine j_skip ?_
                  refine j_in ?_
                  refine j_then ?_
                  refine j_region ?_
                  refine r_q (q_add rfl rfl rfl) rfl rfl ?_
                  refine r_q (q_move rfl rfl) rfl rfl ?_
                  refine r_nil ?_
                  refine j_then ?_
                  exact j_again m ((wrap64 (p10 + (1:Int))), l30, l31) (Nat.lt_succ_self m) ⟨h, q30, q31⟩ (fun a he => he.sub ⟨rfl, rfl, rfl, rfl, rfl, rfl, rfl, trivial⟩) (fun w h => h)
            · refine j_false rfl (decide_eq_false c125) ?_
              refine j_exit ?_
              refine j_then_exit ?_
              refine j_then_exit ?_
              refine j_in_exit ?_
              refine j_then ?_
              exact j_meet (l30, l31) ⟨h, q30, q31⟩ (fun a he => he.sub ⟨rfl, rfl, rfl, rfl, rfl, trivial⟩) (fun w h => h)
        · rintro ⟨l32, l33⟩ ⟨h, q32, q33⟩
          subst hκ1
          show J _ _ [(0, (pt a0_g)), (5, (i6 (rd a1 p6))), (7, (.slice a1_A a1_n a1_c)), (8, (i6 (a1.length : Int))), (9, (i6 p6))] _ (.box a0_g 48 [(.slice a0_0_A a0_0_n a0_0_c), (.slice a0_1_A a0_1_n a0_1_c), (.slice a0_2_A a0_2_n a0_2_c), (.slice A2 n2 d2)] :: .row a0_0_A a0_0_c 3 1 (ii l32) :: .row a0_1_A a0_1_c 3 1 (ii l33) :: .row A2 d2 3 1 (ii l16) :: F)
          refine j_then ?_
          refine j_region ?_
          refine r_q (q_move rfl rfl) rfl rfl ?_
          refine r_q (q_move rfl rfl) rfl rfl ?_
          refine r_q (q_nilCheck rfl rfl) rfl rfl ?_
          refine r_q (q_fieldAddr fi48_1 sz32 rfl rfl rfl) rfl rfl ?_
          refine r_q (q_loadb 0 rfl ag32 rfl rfl rfl) rfl rfl ?_
          refine r_q (q_move rfl rfl) rfl rfl ?_
          refine r_do (a_litX (vs := [(i6 (rd a1 p6))]) (ii ([(rd a1 p6)] : List Int)) un32 sz3 zr3 rfl rfl rfl rfl rfl rfl rfl rfl rfl) rfl rfl (fun x1 => ?_)
          obtain ⟨c132, h⟩ := of_guard h
          refine r_do (a_appI (xs := l16) (ys := ([(rd a1 p6)] : List Int)) 4 un32 un32 sz3 by3 zr3 rfl rfl rfl rfl rfl rfl rfl rfl rfl q16 rfl (Rd.row 0 rfl) c132) rfl rfl (fun x2 => ?_)
          refine j_s4 ?_
          refine r_q (q_nilCheck rfl rfl) rfl rfl ?_
          refine r_q (q_fieldAddr fi48_1 sz32 rfl rfl rfl) rfl rfl ?_
          refine r_do (a_storeb 1 rfl sz32 rfl rfl rfl rfl (Nat.le_of_ble_eq_true rfl) rfl) rfl rfl (fun _ => ?_)
          refine j_b1 [(.slice a0_0_A a0_0_n a0_0_c), (.slice a0_1_A a0_1_n a0_1_c), (.slice a0_2_A a0_2_n a0_2_c), (.slice x2.1 (n2 + 1) x2.2)] rfl ?_
          refine r_nil ?_
          refine j_in ?_
          refine j_then ?_
          refine j_region ?_
          refine r_q (q_add rfl rfl rfl) rfl rfl ?_
          refine r_q (q_move rfl rfl) rfl rfl ?_
          refine r_nil ?_
          refine j_then ?_
          exact j_again m ((wrap64 (p6 + (1:Int))), x2.1, (n2 + 1), x2.2, (l16 ++ ([(rd a1 p6)] : List Int)), l32, l33) (Nat.lt_succ_self m) ⟨h, (app_len q16 rfl), q32, q33⟩ (fun a he => he.sub ⟨rfl, rfl, rfl, rfl, trivial⟩) (fun w h => h.tail)
      · refine j_false rfl (decide_eq_false c100) ?_
        refine j_exit ?_
        refine j_then_exit ?_
        refine j_then_exit ?_
        refine j_in_exit ?_
        refine j_then ?_
        exact j_meet (A2, n2, d2, l16, l17, l18) ⟨h, q16, q17, q18⟩ (fun a he => he.sub trivial) (fun w h => h)
  · rintro ⟨A3, n3, d3, l25, l26, l27⟩ ⟨h, q25, q26, q27⟩
    subst hκ0
    show J _ _ [] _ (.box a0_g 48 [(.slice a0_0_A a0_0_n a0_0_c), (.slice a0_1_A a0_1_n a0_1_c), (.slice a0_2_A a0_2_n a0_2_c), (.slice A3 n3 d3)] :: .row a0_0_A a0_0_c 3 1 (ii l26) :: .row a0_1_A a0_1_c 3 1 (ii l27) :: .row A3 d3 3 1 (ii l25) :: F)
    cases h
    exact j_return_end rfl ResOf.nil rfl (fun w h => ⟨(⟨Eq.trans q26 a0_0_h.symm⟩, ⟨Eq.trans q27 a0_1_h.symm⟩, ⟨A3, n3, d3, q25⟩), rfl, h⟩)

theorem impl_FreeCell.calls (K : Nat) (a0_0 : List Int) (a0_0_A : Option Addr) (a0_0_n a0_0_c : Nat) (a0_1 : List Int) (a0_1_A : Option Addr) (a0_1_n a0_1_c : Nat) (a0_2 : List Int) (a0_2_A : Option Addr) (a0_2_n a0_2_c : Nat) (a0_3 : List Int) (a0_3_A : Option Addr) (a0_3_n a0_3_c : Nat) (a1 : Int) {w0 w : World} {F : List Res} {r1 : List Int} {r2 : List Int} {r3 : List Int} {r4 : List Int} {r5 : Bool} (hm : Mem w0 (F) w) (a0_0_h : a0_0.length = a0_0_n) (a0_0_R : Rd w0 F a0_0_A (ii a0_0)) (a0_1_h : a0_1.length = a0_1_n) (a0_1_R : Rd w0 F a0_1_A (ii a0_1)) (a0_2_h : a0_2.length = a0_2_n) (a0_2_R : Rd w0 F a0_2_A (ii a0_2)) (a0_3_h : a0_3.length = a0_3_n) (a0_3_R : Rd w0 F a0_3_A (ii a0_3)) (a0_3_k : a0_3.length ≤ a0_3_c) (h : impl_FreeCell.f K a0_0 a0_1 a0_2 a0_3 a1 = some (r1, r2, r3, r4, r5)) :
    Calls Try.prog 48 (List.toArray [.agg (List.toArray [.slice a0_0_A a0_0_n a0_0_c, .slice a0_1_A a0_1_n a0_1_c, .slice a0_2_A a0_2_n a0_2_c, .slice a0_3_A a0_3_n a0_3_c]), i6 a1]) w fun e w' => ∃ x : (Sl r1.length) × (Sl r2.length) × (Sl r3.length) × (Sl r4.length), e = .returned (.tuple (List.toArray [.agg (List.toArray [.slice x.1.A x.1.n x.1.c, .slice x.2.1.A x.2.1.n x.2.1.c, .slice x.2.2.1.A x.2.2.1.n x.2.2.1.c, .slice x.2.2.2.A x.2.2.2.n x.2.2.2.c]), .bool r5])) ∧ Mem w0 (.row x.1.A x.1.c 3 1 (ii r1) :: .row x.2.1.A x.2.1.c 3 1 (ii r2) :: .row x.2.2.1.A x.2.2.1.c 3 1 (ii r3) :: .row x.2.2.2.A x.2.2.2.c 3 1 (ii r4) :: F) w' := by
  unfold impl_FreeCell.f at h
  refine calls_of_J (n := 18) Try.func48 rfl rfl rfl hm ?_
  refine j_seq ?_
  refine j_region ?_
  refine r_do (a_box rfl rfl) rfl rfl (fun x1 => ?_)
  refine r_do (a_alloc zr48 rfl) rfl rfl (fun x2 => ?_)
  refine r_q (q_assign rfl rfl) rfl rfl ?_
  refine r_nil ?_
  refine j_then ?_
  refine j_seq ?_
  refine j_seq ?_
  refine j_region ?_
  refine r_q (q_loadb_agg 1 rfl ag48 sz48 rfl rfl rfl rfl) rfl rfl ?_
  obtain ⟨v1, hb1, h⟩ := of_b1 h
  refine r_do (a_call ok50 rfl rfl rfl rfl (fun w hm => impl_LeakedOf.calls K a0_0 a0_0_A a0_0_n a0_0_c a0_1 a0_1_A a0_1_n a0_1_c a0_2 a0_2_A a0_2_n a0_2_c a0_3 a0_3_A a0_3_n a0_3_c hm a0_0_h (Rd.drop 2 a0_0_R) a0_1_h (Rd.drop 2 a0_1_R) a0_2_h (Rd.drop 2 a0_2_R) a0_3_h (Rd.drop 2 a0_3_R) a0_3_k hb1)) rfl rfl (fun x3 => ?_)
  refine r_q (q_move rfl rfl) rfl rfl ?_
  obtain ⟨v2, hb2, h⟩ := of_b1 h
  refine r_do (a_call ok81 rfl rfl rfl rfl (fun w hm => slices_Contains_int.calls K v1 x3.A x3.n x3.c a1 hm x3.h (Rd.row 0 rfl) hb2)) rfl rfl (fun x4 => ?_)
  refine r_q (q_not rfl rfl) rfl rfl ?_
  refine r_nil ?_
  refine j_then ?_
  rcases of_if h with ⟨c1, h⟩ | ⟨c1, h⟩
  · refine j_false rfl (not_f c1) ?_
    refine j_skip ?_
    refine j_then ?_
    refine j_seq ?_
    refine j_region ?_
    refine r_q (q_loadb_agg 2 rfl ag48 sz48 rfl rfl rfl rfl) rfl rfl ?_
    obtain ⟨v3, v4, v5, v6, hb3, h⟩ := of_b4 h
    refine r_do (a_call ok82 rfl rfl rfl rfl (fun w hm => impl_again.calls K a0_0 a0_0_A a0_0_n a0_0_c a0_1 a0_1_A a0_1_n a0_1_c a0_2 a0_2_A a0_2_n a0_2_c a0_3 a0_3_A a0_3_n a0_3_c hm a0_0_h (Rd.drop 3 a0_0_R) a0_1_h (Rd.drop 3 a0_1_R) a0_2_h (Rd.drop 3 a0_2_R) a0_3_h (Rd.drop 3 a0_3_R) hb3)) rfl rfl (fun x5 => ?_)
    refine r_do (a_storeb 6 rfl sz48 rfl rfl rfl rfl (Nat.le_of_ble_eq_true rfl) rfl) rfl rfl (fun _ => ?_)
    refine j_b6 [(.slice x5.1.A x5.1.n x5.1.c), (.slice x5.2.1.A x5.2.1.n x5.2.1.c), (.slice x5.2.2.1.A x5.2.2.1.n x5.2.2.1.c), (.slice x5.2.2.2.A x5.2.2.2.n x5.2.2.2.c)] rfl ?_
    refine r_nil ?_
    refine j_then ?_
    refine j_seq ?_
    refine j_region ?_
    refine r_q (q_move rfl rfl) rfl rfl ?_
    refine r_do (a_litX (vs := [(i6 a1)]) (ii ([a1] : List Int)) un32 sz3 zr3 rfl rfl rfl rfl rfl rfl rfl rfl rfl) rfl rfl (fun x6 => ?_)
    obtain ⟨v7, v8, v9, hb4, h⟩ := of_b3 h
    refine j_rs (.box x1 48 [(.slice x5.1.A x5.1.n x5.1.c), (.slice x5.2.1.A x5.2.1.n x5.2.1.c), (.slice x5.2.2.1.A x5.2.2.1.n x5.2.2.1.c), (.slice x5.2.2.2.A x5.2.2.2.n x5.2.2.2.c)] :: .row x5.1.A x5.1.c 3 1 (ii v3) :: .row x5.2.1.A x5.2.1.c 3 1 (ii v4) :: .row x5.2.2.2.A x5.2.2.2.c 3 1 (ii v6) :: .row x6 1 3 1 (ii ([a1] : List Int)) :: .row x5.2.2.1.A x5.2.2.1.c 3 1 (ii v5) :: .row x3.A x3.c 3 1 (ii v1) :: .box x2 48 [(.slice none 0 0), (.slice none 0 0), (.slice none 0 0), (.slice none 0 0)] :: F) (fun _ h => h.pick 8 [7, 1, 2, 4, 0, 3, 5, 6] rfl) ?_
    refine r_do (a_call ok83 rfl rfl rfl rfl (fun w hm => impl_Store_clear.calls K x1 v3 x5.1.A x5.1.n x5.1.c v4 x5.2.1.A x5.2.1.n x5.2.1.c x5.2.2.1.A x5.2.2.1.n x5.2.2.1.c v6 x5.2.2.2.A x5.2.2.2.n x5.2.2.2.c ([a1] : List Int) x6 1 1 hm x5.1.h x5.2.1.h x5.2.2.2.h rfl (Rd.row 0 rfl) hb4)) rfl rfl (fun x7 => ?_)
    refine r_nil ?_
    refine j_then ?_
    refine j_seq ?_
    refine j_region ?_
    refine r_q (q_loadb_agg 0 rfl ag48 sz48 rfl rfl rfl rfl) rfl rfl ?_
    refine r_do (a_storeb 7 rfl sz48 rfl rfl rfl rfl (Nat.le_of_ble_eq_true rfl) rfl) rfl rfl (fun _ => ?_)
    refine j_b7 [(.slice x5.1.A x5.1.n x5.1.c), (.slice x5.2.1.A x5.2.1.n x5.2.1.c), (.slice x5.2.2.1.A x5.2.2.1.n x5.2.2.1.c), (.slice x7.2.2.A x7.2.2.n x7.2.2.c)] rfl ?_
    refine r_q (q_assign rfl rfl) rfl rfl ?_
    refine r_nil ?_
    refine j_then ?_
    refine j_ret ?_
    cases h
    exact j_return rfl (ResOf.cell 7 rfl rfl ag48 sz48 (ResOf.tmp rfl ResOf.nil)) rfl (fun w h => ⟨(⟨x5.1.A, x5.1.n, x5.1.c, (x7.1.h.trans x5.1.h)⟩, ⟨x5.2.1.A, x5.2.1.n, x5.2.1.c, (x7.2.1.h.trans x5.2.1.h)⟩, ⟨x5.2.2.1.A, x5.2.2.1.n, x5.2.2.1.c, x5.2.2.1.h⟩, ⟨x7.2.2.A, x7.2.2.n, x7.2.2.c, x7.2.2.h⟩), rfl, h.pick 8 [1, 2, 5, 3] rfl⟩)
  · refine j_true rfl (not_t (var_f c1)) ?_
    refine j_seq ?_
    refine j_region ?_
    refine r_q (q_build (cs := [(.slice none 0 0), (.slice none 0 0), (.slice none 0 0), (.slice none 0 0)]) zr48 pl48 rfl rfl rfl rfl) rfl rfl ?_
    refine r_do (a_storeb 1 rfl sz48 rfl rfl rfl rfl (Nat.le_of_ble_eq_true rfl) rfl) rfl rfl (fun _ => ?_)
    refine j_b1 [(.slice none 0 0), (.slice none 0 0), (.slice none 0 0), (.slice none 0 0)] rfl ?_
    refine r_q (q_assign rfl rfl) rfl rfl ?_
    refine r_nil ?_
    refine j_then ?_
    refine j_ret ?_
    refine j_then_ret ?_
    refine j_nil 3 1 ?_
    refine j_nil 3 1 ?_
    refine j_nil 3 1 ?_
    refine j_nil 3 1 ?_
    cases h
    exact j_return rfl (ResOf.cell 5 rfl rfl ag48 sz48 (ResOf.tmp rfl ResOf.nil)) rfl (fun w h => ⟨(⟨none, 0, 0, rfl⟩, ⟨none, 0, 0, rfl⟩, ⟨none, 0, 0, rfl⟩, ⟨none, 0, 0, rfl⟩), rfl, h.pick 7 [3, 2, 1, 0] rfl⟩)

theorem spec_l4Clear.calls (K : Nat) (a0_0 : List Int) (a0_0_A : Option Addr) (a0_0_n a0_0_c : Nat) (a0_1 : List Int) (a0_1_A : Option Addr) (a0_1_n a0_1_c : Nat) (a0_2 : List Int) (a0_2_A : Option Addr) (a0_2_n a0_2_c : Nat) (a0_3 : List Int) (a0_3_A : Option Addr) (a0_3_n a0_3_c : Nat) (a1 : List Int) (a1_A : Option Addr) (a1_n a1_c : Nat) {w0 w : World} {F : List Res} {r1 : List Int} {r2 : List Int} {r3 : List Int} {r4 : List Int} (hm : Mem w0 (F) w) (a0_0_h : a0_0.length = a0_0_n) (a0_0_R : Rd w0 F a0_0_A (ii a0_0)) (a0_1_h : a0_1.length = a0_1_n) (a0_1_R : Rd w0 F a0_1_A (ii a0_1)) (a0_2_h : a0_2.length = a0_2_n) (a0_2_R : Rd w0 F a0_2_A (ii a0_2)) (a0_3_h : a0_3.length = a0_3_n) (a0_3_R : Rd w0 F a0_3_A (ii a0_3)) (a1_h : a1.length = a1_n) (a1_R : Rd w0 F a1_A (ii a1)) (h : spec_l4Clear.f K a0_0 a0_1 a0_2 a0_3 a1 = some (r1, r2, r3, r4)) :
    Calls Try.prog 86 (List.toArray [.agg (List.toArray [.slice a0_0_A a0_0_n a0_0_c, .slice a0_1_A a0_1_n a0_1_c, .slice a0_2_A a0_2_n a0_2_c, .slice a0_3_A a0_3_n a0_3_c]), .slice a1_A a1_n a1_c]) w fun e w' => ∃ x : (Sl r1.length) × (Sl r2.length) × (Sl r3.length) × (Sl r4.length), e = .returned (.agg (List.toArray [.slice x.1.A x.1.n x.1.c, .slice x.2.1.A x.2.1.n x.2.1.c, .slice x.2.2.1.A x.2.2.1.n x.2.2.1.c, .slice x.2.2.2.A x.2.2.2.n x.2.2.2.c])) ∧ Mem w0 (.row x.1.A x.1.c 3 1 (ii r1) :: .row x.2.1.A x.2.1.c 3 1 (ii r2) :: .row x.2.2.1.A x.2.2.1.c 3 1 (ii r3) :: .row x.2.2.2.A x.2.2.2.c 3 1 (ii r4) :: F) w' := by
  unfold spec_l4Clear.f at h
  refine calls_of_J (n := 63) Try.func86 rfl rfl rfl hm ?_
  refine j_seq ?_
  refine j_region ?_
  refine r_do (a_box rfl rfl) rfl rfl (fun x1 => ?_)
  refine r_do (a_alloc zr48 rfl) rfl rfl (fun x2 => ?_)
  refine r_nil ?_
  refine j_then ?_
  refine j_seq ?_
  refine j_region ?_
  refine r_q (q_loadb_agg 1 rfl ag48 sz48 rfl rfl rfl rfl) rfl rfl ?_
  obtain ⟨v1, v2, v3, v4, hb1, h⟩ := of_b4 h
  refine r_do (a_call ok105 rfl rfl rfl rfl (fun w hm => spec_l4Copy.calls K a0_0 a0_0_A a0_0_n a0_0_c a0_1 a0_1_A a0_1_n a0_1_c a0_2 a0_2_A a0_2_n a0_2_c a0_3 a0_3_A a0_3_n a0_3_c hm a0_0_h (Rd.drop 2 a0_0_R) a0_1_h (Rd.drop 2 a0_1_R) a0_2_h (Rd.drop 2 a0_2_R) a0_3_h (Rd.drop 2 a0_3_R) hb1)) rfl rfl (fun x3 => ?_)
  refine r_do (a_alloc zr48 rfl) rfl rfl (fun x4 => ?_)
  refine r_do (a_storeb 0 rfl sz48 rfl rfl rfl rfl (Nat.le_of_ble_eq_true rfl) rfl) rfl rfl (fun _ => ?_)
  refine j_b0 [(.slice x3.1.A x3.1.n x3.1.c), (.slice x3.2.1.A x3.2.1.n x3.2.1.c), (.slice x3.2.2.1.A x3.2.2.1.n x3.2.2.1.c), (.slice x3.2.2.2.A x3.2.2.2.n x3.2.2.2.c)] rfl ?_
  refine r_nil ?_
  refine j_then ?_
  refine j_seq ?_
  refine j_seq ?_
  refine j_region ?_
  refine r_q (q_assign rfl rfl) rfl rfl ?_
  refine r_nil ?_
  refine j_then ?_
  obtain ⟨κ0, h, hκ0⟩ := ex_k (g := fun κ => spec_l4Clear.loop0 K κ a1 K (0:Int) v1 v2 = some (r1, r2, r3, r4)) h
  refine j_cut (σ := (List Int) × (List Int)) (fun s => [(1, (.slice a1_A a1_n a1_c)), (4, (pt x2)), (5, (pt x4))]) (fun s => .box x2 48 [(.slice none 0 0), (.slice none 0 0), (.slice none 0 0), (.slice none 0 0)] :: .box x4 48 [(.slice x3.1.A x3.1.n x3.1.c), (.slice x3.2.1.A x3.2.1.n x3.2.1.c), (.slice x3.2.2.1.A x3.2.2.1.n x3.2.2.1.c), (.slice x3.2.2.2.A x3.2.2.2.n x3.2.2.2.c)] :: .row x3.1.A x3.1.c 3 1 (ii s.1) :: .row x3.2.1.A x3.2.1.c 3 1 (ii s.2) :: .row x3.2.2.1.A x3.2.2.1.c 3 1 (ii v3) :: .row x3.2.2.2.A x3.2.2.2.c 3 1 (ii v4) :: F) (fun s => κ0 s.1 s.2 = some (r1, r2, r3, r4) ∧ (s.1.length = x3.1.n) ∧ (s.2.length = x3.2.1.n)) ?_ ?_
  · refine j_block ?_
    refine j_loop (σ := Int × (List Int) × (List Int)) (fun s => [(1, (.slice a1_A a1_n a1_c)), (4, (pt x2)), (5, (pt x4)), (6, (i6 s.1))]) (fun s => .box x2 48 [(.slice none 0 0), (.slice none 0 0), (.slice none 0 0), (.slice none 0 0)] :: .box x4 48 [(.slice x3.1.A x3.1.n x3.1.c), (.slice x3.2.1.A x3.2.1.n x3.2.1.c), (.slice x3.2.2.1.A x3.2.2.1.n x3.2.2.1.c), (.slice x3.2.2.2.A x3.2.2.2.n x3.2.2.2.c)] :: .row x3.1.A x3.1.c 3 1 (ii s.2.1) :: .row x3.2.1.A x3.2.1.c 3 1 (ii s.2.2) :: .row x3.2.2.1.A x3.2.2.1.c 3 1 (ii v3) :: .row x3.2.2.2.A x3.2.2.2.c 3 1 (ii v4) :: F) (fun m s => spec_l4Clear.loop0 K κ0 a1 m s.1 s.2.1 s.2.2 = some (r1, r2, r3, r4) ∧ (s.2.1.length = x3.1.n) ∧ (s.2.2.length = x3.2.1.n)) K ((0:Int), v1, v2) ⟨h, x3.1.h, x3.2.1.h⟩ (fun a he => he.sub ⟨rfl, rfl, rfl, rfl, trivial⟩) (fun w h => h.pick 7 [5, 0, 1, 2, 3, 4] rfl) ?_
    rintro m ⟨p2, l3, l4⟩ ⟨h, q3, q4⟩
    cases m with
    | zero => exact absurd h (by rw [spec_l4Clear.loop0]; exact nofun)
    | succ m =>
      rw [spec_l4Clear.loop0] at h
      show J _ _ [(1, (.slice a1_A a1_n a1_c)), (4, (pt x2)), (5, (pt x4)), (6, (i6 p2))] _ (.box x2 48 [(.slice none 0 0), (.slice none 0 0), (.slice none 0 0), (.slice none 0 0)] :: .box x4 48 [(.slice x3.1.A x3.1.n x3.1.c), (.slice x3.2.1.A x3.2.1.n x3.2.1.c), (.slice x3.2.2.1.A x3.2.2.1.n x3.2.2.1.c), (.slice x3.2.2.2.A x3.2.2.2.n x3.2.2.2.c)] :: .row x3.1.A x3.1.c 3 1 (ii l3) :: .row x3.2.1.A x3.2.1.c 3 1 (ii l4) :: .row x3.2.2.1.A x3.2.2.1.c 3 1 (ii v3) :: .row x3.2.2.2.A x3.2.2.2.c 3 1 (ii v4) :: F)
      refine j_seq ?_
      refine j_seq ?_
      refine j_region ?_
      refine r_q (q_move rfl rfl) rfl rfl ?_
      refine r_q (q_fieldAddr fi48_0 sz46 rfl rfl rfl) rfl rfl ?_
      refine r_q (q_fieldAddr fi46_0 sz32 rfl rfl rfl) rfl rfl ?_
      refine r_q (q_loadb 1 rfl ag32 rfl rfl rfl) rfl rfl ?_
      refine r_q (q_lenX l3 q3 un32 rfl rfl rfl rfl rfl) rfl rfl ?_
      refine r_q (q_lss rfl rfl rfl) rfl rfl ?_
      refine r_nil ?_
      refine j_then ?_
      rcases of_if h with ⟨c40, h⟩ | ⟨c40, h⟩
      · refine j_true rfl (decide_eq_true c40) ?_
        refine j_skip ?_
        refine j_then ?_
        refine j_seq ?_
        refine j_block ?_
        refine j_seq ?_
        refine j_seq ?_
        refine j_region ?_
        refine r_q (q_move rfl rfl) rfl rfl ?_
        refine r_q (q_fieldAddr fi48_0 sz46 rfl rfl rfl) rfl rfl ?_
        refine r_q (q_fieldAddr fi46_0 sz32 rfl rfl rfl) rfl rfl ?_
        refine r_q (q_loadb 1 rfl ag32 rfl rfl rfl) rfl rfl ?_
        refine r_q (q_move rfl rfl) rfl rfl ?_
        obtain ⟨c41, h⟩ := of_guard h
        refine r_q (q_ix (Rd.row 2 rfl) (ints_len1 _ l3) (by decide) q3 c41 un32 sz3 rfl rfl rfl) rfl rfl ?_
        refine r_q (q_ldI (Rd.row 2 rfl) c41 ag3 rfl rfl) rfl rfl ?_
        obtain ⟨v29, hb26, h⟩ := of_b1 h
        refine r_do (a_call ok84 rfl rfl rfl rfl (fun w hm => spec_l4At.calls K a1 a1_A a1_n a1_c (rd l3 p2) hm a1_h (Rd.drop 6 a1_R) hb26)) rfl rfl (fun x5 => ?_)
        refine r_q (q_geq rfl rfl rfl) rfl rfl ?_
        refine r_q (q_move rfl rfl) rfl rfl ?_
        rcases of_if h with ⟨c42, h⟩ | ⟨c42, h⟩
        · refine r_off rfl rfl rfl rfl (decide_eq_true c42) rfl ?_
          refine r_off rfl rfl rfl rfl (decide_eq_true c42) rfl ?_
          refine r_off rfl rfl rfl rfl (decide_eq_true c42) rfl ?_
          refine r_off rfl rfl rfl rfl (decide_eq_true c42) rfl ?_
          refine r_q (q_pick_t rfl rfl (decide_eq_true c42) rfl) rfl rfl ?_
          refine r_nil ?_
          refine j_then ?_
          refine j_true rfl rfl ?_
          refine j_region ?_
          refine r_q (q_fieldAddr fi48_0 sz46 rfl rfl rfl) rfl rfl ?_
          refine r_q (q_fieldAddr fi46_0 sz32 rfl rfl rfl) rfl rfl ?_
          refine r_q (q_loadb 1 rfl ag32 rfl rfl rfl) rfl rfl ?_
          refine r_q (q_move rfl rfl) rfl rfl ?_
          refine r_q (q_ix (Rd.row 2 rfl) (ints_len1 _ l3) (by decide) q3 c41 un32 sz3 rfl rfl rfl) rfl rfl ?_
          refine r_do (a_stI 2 rfl c41 sz3 rfl rfl rfl) rfl rfl (fun _ => ?_)
          refine j_s2 ?_
          refine r_nil ?_
          refine j_then ?_
          refine j_seq ?_
          refine j_region ?_
          refine r_q (q_move rfl rfl) rfl rfl ?_
          refine r_q (q_fieldAddr fi48_0 sz46 rfl rfl rfl) rfl rfl ?_
          refine r_q (q_fieldAddr fi46_1 sz32 rfl rfl rfl) rfl rfl ?_
          refine r_q (q_loadb 1 rfl ag32 rfl rfl rfl) rfl rfl ?_
          refine r_q (q_move rfl rfl) rfl rfl ?_
          obtain ⟨c43, h⟩ := of_guard h
          refine r_q (q_ix (Rd.row 3 rfl) (ints_len1 _ l4) (by decide) q4 c43 un32 sz3 rfl rfl rfl) rfl rfl ?_
          refine r_q (q_ldI (Rd.row 3 rfl) c43 ag3 rfl rfl) rfl rfl ?_
          obtain ⟨v30, hb27, h⟩ := of_b1 h
          refine r_do (a_call ok84 rfl rfl rfl rfl (fun w hm => spec_l4At.calls K a1 a1_A a1_n a1_c (rd l4 p2) hm a1_h (Rd.drop 6 a1_R) hb27)) rfl rfl (fun x6 => ?_)
          refine r_q (q_geq rfl rfl rfl) rfl rfl ?_
          refine r_q (q_move rfl rfl) rfl rfl ?_
          rcases of_if h with ⟨c44, h⟩ | ⟨c44, h⟩
          · refine r_off rfl rfl rfl rfl (decide_eq_true c44) rfl ?_
            refine r_off rfl rfl rfl rfl (decide_eq_true c44) rfl ?_
            refine r_off rfl rfl rfl rfl (decide_eq_true c44) rfl ?_
            refine r_off rfl rfl rfl rfl (decide_eq_true c44) rfl ?_
            refine r_q (q_pick_t rfl rfl (decide_eq_true c44) rfl) rfl rfl ?_
            refine r_nil ?_
            refine j_then ?_
            refine j_true rfl rfl ?_
            refine j_region ?_
            refine r_q (q_fieldAddr fi48_0 sz46 rfl rfl rfl) rfl rfl ?_
            refine r_q (q_fieldAddr fi46_1 sz32 rfl rfl rfl) rfl rfl ?_
            refine r_q (q_loadb 1 rfl ag32 rfl rfl rfl) rfl rfl ?_
            refine r_q (q_move rfl rfl) rfl rfl ?_
            refine r_q (q_ix (Rd.row 3 rfl) (ints_len1 _ l4) (by decide) q4 c43 un32 sz3 rfl rfl rfl) rfl rfl ?_
            refine r_do (a_stI 3 rfl c43 sz3 rfl rfl rfl) rfl rfl (fun _ => ?_)
            refine j_s3 ?_
            refine r_nil ?_
            refine j_in ?_
            refine j_then ?_
            refine j_region ?_
            refine r_q (q_move rfl rfl) rfl rfl ?_
            refine r_q (q_add rfl rfl rfl) rfl rfl ?_
            refine r_q (q_assign rfl rfl) rfl rfl ?_
            refine r_nil ?_
            refine j_then ?_
            exact j_again m ((wrap64 (p2 + (1:Int))), (l3.set p2.toNat (-1:Int)), (l4.set p2.toNat (-1:Int))) (Nat.lt_succ_self m) ⟨h, (set_len q3 _ _), (set_len q4 _ _)⟩ (fun a he => he.sub ⟨rfl, rfl, rfl, rfl, trivial⟩) (fun w h => h)
          · refine r_qon (q_move rfl rfl) rfl rfl rfl rfl (decide_eq_false c44) rfl ?_
            refine r_qon (q_move rfl rfl) rfl rfl rfl rfl (decide_eq_false c44) rfl ?_
            obtain ⟨v31, hb28, h⟩ := of_b1 h
            refine r_on (a_call ok84 rfl rfl rfl rfl (fun w hm => spec_l4At.calls K a1 a1_A a1_n a1_c p2 hm a1_h (Rd.drop 6 a1_R) hb28)) rfl rfl rfl rfl (decide_eq_false c44) rfl (fun x7 => ?_)
            refine r_qon (q_geq rfl rfl rfl) rfl rfl rfl rfl (decide_eq_false c44) rfl ?_
            refine r_q (q_pick_f rfl rfl (decide_eq_false c44) rfl) rfl rfl ?_
            refine r_nil ?_
            refine j_then ?_
            rcases of_if h with ⟨c45, h⟩ | ⟨c45, h⟩
            · refine j_true rfl (decide_eq_true c45) ?_
              refine j_region ?_
              refine r_q (q_fieldAddr fi48_0 sz46 rfl rfl rfl) rfl rfl ?_
              refine r_q (q_fieldAddr fi46_1 sz32 rfl rfl rfl) rfl rfl ?_
              refine r_q (q_loadb 1 rfl ag32 rfl rfl rfl) rfl rfl ?_
              refine r_q (q_move rfl rfl) rfl rfl ?_
              refine r_q (q_ix (Rd.row 3 rfl) (ints_len1 _ l4) (by decide) q4 c43 un32 sz3 rfl rfl rfl) rfl rfl ?_
              refine r_do (a_stI 3 rfl c43 sz3 rfl rfl rfl) rfl rfl (fun _ => ?_)
              refine j_s3 ?_
              refine r_nil ?_
              refine j_in ?_
              refine j_then ?_
              refine j_region ?_
              refine r_q (q_move rfl rfl) rfl rfl ?_
              refine r_q (q_add rfl rfl rfl) rfl rfl ?_
              refine r_q (q_assign rfl rfl) rfl rfl ?_
              refine r_nil ?_
              refine j_then ?_
              exact j_again m ((wrap64 (p2 + (1:Int))), (l3.set p2.toNat (-1:Int)), (l4.set p2.toNat (-1:Int))) (Nat.lt_succ_self m) ⟨h, (set_len q3 _ _), (set_len q4 _ _)⟩ (fun a he => he.sub ⟨rfl, rfl, rfl, rfl, trivial⟩) (fun w h => h)
            · refine j_false rfl (decide_eq_false c45) ?_
              refine j_skip ?_
              refine j_in ?_
              refine j_then ?_
              refine j_region ?_
              refine r_q (q_move rfl rfl) rfl rfl ?_
              refine r_q (q_add rfl rfl rfl) rfl rfl ?_
              refine r_q (q_assign rfl rfl) rfl rfl ?_
              refine r_nil ?_
              refine j_then ?_
              exact j_again m ((wrap64 (p2 + (1:Int))), (l3.set p2.toNat (-1:Int)), l4) (Nat.lt_succ_self m) ⟨h, (set_len q3 _ _), q4⟩ (fun a he => he.sub ⟨rfl, rfl, rfl, rfl, trivial⟩) (fun w h => h)
        · refine r_qon (q_move rfl rfl) rfl rfl rfl rfl (decide_eq_false c42) rfl ?_
          refine r_qon (q_move rfl rfl) rfl rfl rfl rfl (decide_eq_false c42) rfl ?_
          obtain ⟨v32, hb29, h⟩ := of_b1 h
          refine r_on (a_call ok84 rfl rfl rfl rfl (fun w hm => spec_l4At.calls K a1 a1_A a1_n a1_c p2 hm a1_h (Rd.drop 6 a1_R) hb29)) rfl rfl rfl rfl (decide_eq_false c42) rfl (fun x8 => ?_)
          refine r_qon (q_geq rfl rfl rfl) rfl rfl rfl rfl (decide_eq_false c42) rfl ?_
          refine r_q (q_pick_f rfl rfl (decide_eq_false c42) rfl) rfl rfl ?_
          refine r_nil ?_
          refine j_then ?_
          rcases of_if h with ⟨c46, h⟩ | ⟨c46, h⟩
          · refine j_true rfl (decide_eq_true c46) ?_
            refine j_region ?_
            refine r_q (q_fieldAddr fi48_0 sz46 rfl rfl rfl) rfl rfl ?_
            refine r_q (q_fieldAddr fi46_0 sz32 rfl rfl rfl) rfl rfl ?_
            refine r_q (q_loadb 1 rfl ag32 rfl rfl rfl) rfl rfl ?_
            refine r_q (q_move rfl rfl) rfl rfl ?_
            refine r_q (q_ix (Rd.row 2 rfl) (ints_len1 _ l3) (by decide) q3 c41 un32 sz3 rfl rfl rfl) rfl rfl ?_
            refine r_do (a_stI 2 rfl c41 sz3 rfl rfl rfl) rfl rfl (fun _ => ?_)
            refine j_s2 ?_
            refine r_nil ?_
            refine j_then ?_
            refine j_seq ?_
            refine j_region ?_
            refine r_q (q_move rfl rfl) rfl rfl ?_
            refine r_q (q_fieldAddr fi48_0 sz46 rfl rfl rfl) rfl rfl ?_
            refine r_q (q_fieldAddr fi46_1 sz32 rfl rfl rfl) rfl rfl ?_
            refine r_q (q_loadb 1 rfl ag32 rfl rfl rfl) rfl rfl ?_
            refine r_q (q_move rfl rfl) rfl rfl ?_
            obtain ⟨c47, h⟩ := of_guard h
            refine r_q (q_ix (Rd.row 3 rfl) (ints_len1 _ l4) (by decide) q4 c47 un32 sz3 rfl rfl rfl) rfl rfl ?_
            refine r_q (q_ldI (Rd.row 3 rfl) c47 ag3 rfl rfl) rfl rfl ?_
            obtain ⟨v33, hb30, h⟩ := of_b1 h
            refine r_do (a_call ok84 rfl rfl rfl rfl (fun w hm => spec_l4At.calls K a1 a1_A a1_n a1_c (rd l4 p2) hm a1_h (Rd.drop 6 a1_R) hb30)) rfl rfl (fun x6 => ?_)
            refine r_q (q_geq rfl rfl rfl) rfl rfl ?_
            refine r_q (q_move rfl rfl) rfl rfl ?_
            rcases of_if h with ⟨c48, h⟩ | ⟨c48, h⟩
            · refine r_off rfl rfl rfl rfl (decide_eq_true c48) rfl ?_
              refine r_off rfl rfl rfl rfl (decide_eq_true c48) rfl ?_
              refine r_off rfl rfl rfl rfl (decide_eq_true c48) rfl ?_
              refine r_off rfl rfl rfl rfl (decide_eq_true c48) rfl ?_
              refine r_q (q_pick_t rfl rfl (decide_eq_true c48) rfl) rfl rfl ?_
              refine r_nil ?_
              refine j_then ?_
              refine j_true rfl rfl ?_
              refine j_region ?_
              refine r_q (q_fieldAddr fi48_0 sz46 rfl rfl rfl) rfl rfl ?_
              refine r_q (q_fieldAddr fi46_1 sz32 rfl rfl rfl) rfl rfl ?_
              refine r_q (q_loadb 1 rfl ag32 rfl rfl rfl) rfl rfl ?_
              refine r_q (q_move rfl rfl) rfl rfl ?_
              refine r_q (q_ix (Rd.row 3 rfl) (ints_len1 _ l4) (by decide) q4 c47 un32 sz3 rfl rfl rfl) rfl rfl ?_
              refine r_do (a_stI 3 rfl c47 sz3 rfl rfl rfl) rfl rfl (fun _ => ?_)
              refine j_s3 ?_
              refine r_nil ?_
              refine j_in ?_
              refine j_then ?_
              refine j_region ?_
              refine r_q (q_move rfl rfl) rfl rfl ?_
              refine r_q (q_add rfl rfl rfl) rfl rfl ?_
              refine r_q (q_assign rfl rfl) rfl rfl ?_
              refine r_nil ?_
              refine j_then ?_
              exact j_again m ((wrap64 (p2 + (1:Int))), (l3.set p2.toNat (-1:Int)), (l4.set p2.toNat (-1:Int))) (Nat.lt_succ_self m) ⟨h, (set_len q3 _ _), (set_len q4 _ _)⟩ (fun a he => he.sub ⟨rfl, rfl, rfl, rfl, trivial⟩) (fun w h => h)
            · refine r_qon (q_move rfl rfl) rfl rfl rfl rfl (decide_eq_false c48) rfl ?_
              refine r_qon (q_move rfl rfl) rfl rfl rfl rfl (decide_eq_false c48) rfl ?_
              obtain ⟨v34, hb31, h⟩ := of_b1 h
              refine r_on (a_call ok84 rfl rfl rfl rfl (fun w hm => spec_l4At.calls K a1 a1_A a1_n a1_c p2 hm a1_h (Rd.drop 6 a1_R) hb31)) rfl rfl rfl rfl (decide_eq_false c48) rfl (fun x7 => ?_)
              refine r_qon (q_geq rfl rfl rfl) rfl rfl rfl rfl (decide_eq_false c48) rfl ?_
              refine r_q (q_pick_f rfl rfl (decide_eq_false c48) rfl) rfl rfl ?_
              refine r_nil ?_
              refine j_then ?_
              rcases of_if h with ⟨c49, h⟩ | ⟨c49, h⟩
              · refine j_true rfl (decide_eq_true c49) ?_
                refine j_region ?_
                refine r_q (q_fieldAddr fi48_0 sz46 rfl rfl rfl) rfl rfl ?_
                refine r_q (q_fieldAddr fi46_1 sz32 rfl rfl rfl) rfl rfl ?_
                refine r_q (q_loadb 1 rfl ag32 rfl rfl rfl) rfl rfl ?_
                refine r_q (q_move rfl rfl) rfl rfl ?_
                refine r_q (q_ix (Rd.row 3 rfl) (ints_len1 _ l4) (by decide) q4 c47 un32 sz3 rfl rfl rfl) rfl rfl ?_
                refine r_do (a_stI 3 rfl c47 sz3 rfl rfl rfl) rfl rfl (fun _ => ?_)
                refine j_s3 ?_
                refine r_nil ?_
                refine j_in ?_
                refine j_then ?_
                refine j_region ?_
                refine r_q (q_move rfl rfl) rfl rfl ?_
                refine r_q (q_add rfl rfl rfl) rfl rfl ?_
                refine r_q (q_assign rfl rfl) rfl rfl ?_
                refine r_nil ?_
                refine j_then ?_
                exact j_again m ((wrap64 (p2 + (1:Int))), (l3.set p2.toNat (-1:Int)), (l4.set p2.toNat (-1:Int))) (Nat.lt_succ_self m) ⟨h, (set_len q3 _ _), (set_len q4 _ _)⟩ (fun a he => he.sub ⟨rfl, rfl, rfl, rfl, trivial⟩) (fun w h => h)
              · refine j_false rfl (decide_eq_false c49) ?_
                refine j_skip ?_
                refine j_in ?_
                refine j_then ?_
                refine j_region ?_
                refine r_q (q_move rfl rfl) rfl rfl ?_
                refine r_q (q_add rfl rfl rfl) rfl rfl ?_
                refine r_q (q_assign rfl rfl) rfl rfl ?_
                refine r_nil ?_
                refine j_then ?_
                exact j_again m ((wrap64 (p2 + (1:Int))), (l3.set p2.toNat (-1:Int)), l4) (Nat.lt_succ_self m) ⟨h, (set_len q3 _ _), q4⟩ (fun a he => he.sub ⟨rfl, rfl, rfl, rfl, trivial⟩) (fun w h => h)
          · refine j_false rfl (decide_eq_false c46) ?_
            refine j_skip ?_
            refine j_then ?_
            refine j_seq ?_
            refine j_region ?_
            refine r_q (q_move rfl rfl) rfl rfl ?_
            refine r_q (q_fieldAddr fi48_0 sz46 rfl rfl rfl) rfl rfl ?_
            refine r_q (q_fieldAddr fi46_1 sz32 rfl rfl rfl) rfl rfl ?_
            refine r_q (q_loadb 1 rfl ag32 rfl rfl rfl) rfl rfl ?_
            refine r_q (q_move rfl rfl) rfl rfl ?_
            obtain ⟨c50, h⟩ := of_guard h
            refine r_q (q_ix (Rd.row 3 rfl) (ints_len1 _ l4) (by decide) q4 c50 un32 sz3 rfl rfl rfl) rfl rfl ?_
            refine r_q (q_ldI (Rd.row 3 rfl) c50 ag3 rfl rfl) rfl rfl ?_
            obtain ⟨v35, hb32, h⟩ := of_b1 h
            refine r_do (a_call ok84 rfl rfl rfl rfl (fun w hm => spec_l4At.calls K a1 a1_A a1_n a1_c (rd l4 p2) hm a1_h (Rd.drop 6 a1_R) hb32)) rfl rfl (fun x6 => ?_)
            refine r_q (q_geq rfl rfl rfl) rfl rfl ?_
            refine r_q (q_move rfl rfl) rfl rfl ?_
            rcases of_if h with ⟨c51, h⟩ | ⟨c51, h⟩
            · refine r_off rfl rfl rfl rfl (decide_eq_true c51) rfl ?_
              refine r_off rfl rfl rfl rfl (decide_eq_true c51) rfl ?_
              refine r_off rfl rfl rfl rfl (decide_eq_true c51) rfl ?_
              refine r_off rfl rfl rfl rfl (decide_eq_true c51) rfl ?_
              refine r_q (q_pick_t rfl rfl (decide_eq_true c51) rfl) rfl rfl ?_
              refine r_nil ?_
              refine j_then ?_
              refine j_true rfl rfl ?_
              refine j_region ?_
              refine r_q (q_fieldAddr fi48_0 sz46 rfl rfl rfl) rfl rfl ?_
              refine r_q (q_fieldAddr fi46_1 sz32 rfl rfl rfl) rfl rfl ?_
              refine r_q (q_loadb 1 rfl ag32 rfl rfl rfl) rfl rfl ?_
              refine r_q (q_move rfl rfl) rfl rfl ?_
              refine r_q (q_ix (Rd.row 3 rfl) (ints_len1 _ l4) (by decide) q4 c50 un32 sz3 rfl rfl rfl) rfl rfl ?_
              refine r_do (a_stI 3 rfl c50 sz3 rfl rfl rfl) rfl rfl (fun _ => ?_)
              refine j_s3 ?_
              refine r_nil ?_
              refine j_in ?_
              refine j_then ?_
              refine j_region ?_
              refine r_q (q_move rfl rfl) rfl rfl ?_
              refine r_q (q_add rfl rfl rfl) rfl rfl ?_
              refine r_q (q_assign rfl rfl) rfl rfl ?_
              refine r_nil ?_
              refine j_then ?_
              exact j_again m ((wrap64 (p2 + (1:Int))), l3, (l4.set p2.toNat (-1:Int))) (Nat.lt_succ_self m) ⟨h, q3, (set_len q4 _ _)⟩ (fun a he => he.sub ⟨rfl, rfl, rfl, rfl, trivial⟩) (fun w h => h)
            · refine r_qon (q_move rfl rfl) rfl rfl rfl rfl (decide_eq_false c51) rfl ?_
              refine r_qon (q_move rfl rfl) rfl rfl rfl rfl (decide_eq_false c51) rfl ?_
              obtain ⟨v36, hb33, h⟩ := of_b1 h
              refine r_on (a_call ok84 rfl rfl rfl rfl (fun w hm => spec_l4At.calls K a1 a1_A a1_n a1_c p2 hm a1_h (Rd.drop 6 a1_R) hb33)) rfl rfl rfl rfl (decide_eq_false c51) rfl (fun x7 => ?_)
              refine r_qon (q_geq rfl rfl rfl) rfl rfl rfl rfl (decide_eq_false c51) rfl ?_
              refine r_q (q_pick_f rfl rfl (decide_eq_false c51) rfl) rfl rfl ?_
              refine r_nil ?_
              refine j_then ?_
              rcases of_if h with ⟨c52, h⟩ | ⟨c52, h⟩
              · refine j_true rfl (decide_eq_true c52) ?_
                refine j_region ?_
                refine r_q (q_fieldAddr fi48_0 sz46 rfl rfl rfl) rfl rfl ?_
                refine r_q (q_fieldAddr fi46_1 sz32 rfl rfl rfl) rfl rfl ?_
                refine r_q (q_loadb 1 rfl ag32 rfl rfl rfl) rfl rfl ?_
                refine r_q (q_move rfl rfl) rfl rfl ?_
                refine r_q (q_ix (Rd.row 3 rfl) (ints_len1 _ l4) (by decide) q4 c50 un32 sz3 rfl rfl rfl) rfl rfl ?_
                refine r_do (a_stI 3 rfl c50 sz3 rfl rfl rfl) rfl rfl (fun _ => ?_)
                refine j_s3 ?_
                refine r_nil ?_
                refine j_in ?_
                refine j_then ?_
                refine j_region ?_
                refine r_q (q_move rfl rfl) rfl rfl ?_
                refine r_q (q_add rfl rfl rfl) rfl rfl ?_
                refine r_q (q_assign rfl rfl) rfl rfl ?_
                refine r_nil ?_
                refine j_then ?_
                exact j_again m ((wrap64 (p2 + (1:Int))), l3, (l4.set p2.toNat (-1:Int))) (Nat.lt_succ_self m) ⟨h, q3, (set_len q4 _ _)⟩ (fun a he => he.sub ⟨rfl, rfl, rfl, rfl, trivial⟩) (fun w h => h)
              · refine j_false rfl (decide_eq_false c52) ?_
                refine j_skip ?_
                refine j_in ?_
                refine j_then ?_
                refine j_region ?_
                refine r_q (q_move rfl rfl) rfl rfl ?_
                refine r_q (q_add rfl rfl rfl) rfl rfl ?_
                refine r_q (q_assign rfl rfl) rfl rfl ?_
                refine r_nil ?_
                refine j_then ?_
                exact j_again m ((wrap64 (p2 + (1:Int))), l3, l4) (Nat.lt_succ_self m) ⟨h, q3, q4⟩ (fun a he => he.sub ⟨rfl, rfl, rfl, rfl, trivial⟩) (fun w h => h)
      · refine j_false rfl (decide_eq_false c40) ?_
        refine j_exit ?_
        refine j_then_exit ?_
        refine j_then_exit ?_
        refine j_in_exit ?_
        refine j_then ?_
        exact j_meet (l3, l4) ⟨h, q3, q4⟩ (fun a he => he.sub ⟨rfl, rfl, rfl, trivial⟩) (fun w h => h)
  · rintro ⟨l5, l6⟩ ⟨h, q5, q6⟩
    subst hκ0
    show J _ _ [(1, (.slice a1_A a1_n a1_c)), (4, (pt x2)), (5, (pt x4))] _ (.box x2 48 [(.slice none 0 0), (.slice none 0 0), (.slice none 0 0), (.slice none 0 0)] :: .box x4 48 [(.slice x3.1.A x3.1.n x3.1.c), (.slice x3.2.1.A x3.2.1.n x3.2.1.c), (.slice x3.2.2.1.A x3.2.2.1.n x3.2.2.1.c), (.slice x3.2.2.2.A x3.2.2.2.n x3.2.2.2.c)] :: .row x3.1.A x3.1.c 3 1 (ii l5) :: .row x3.2.1.A x3.2.1.c 3 1 (ii l6) :: .row x3.2.2.1.A x3.2.2.1.c 3 1 (ii v3) :: .row x3.2.2.2.A x3.2.2.2.c 3 1 (ii v4) :: F)
    refine j_then ?_
    refine j_seq ?_
    refine j_region ?_
    refine r_q (q_fieldAddr fi48_1 sz32 rfl rfl rfl) rfl rfl ?_
    refine r_q (q_loadb 1 rfl ag32 rfl rfl rfl) rfl rfl ?_
    refine r_q (q_move rfl rfl) rfl rfl ?_
    obtain ⟨c53, h⟩ := of_guard h
    refine r_do (a_appI (xs := v4) (ys := a1) 5 un32 un32 sz3 by3 zr3 rfl rfl rfl rfl rfl rfl rfl rfl rfl x3.2.2.2.h a1_h (Rd.drop 6 a1_R) c53) rfl rfl (fun x9 => ?_)
    refine j_s5 ?_
    refine r_q (q_fieldAddr fi48_1 sz32 rfl rfl rfl) rfl rfl ?_
    refine r_do (a_storeb 1 rfl sz32 rfl rfl rfl rfl (Nat.le_of_ble_eq_true rfl) rfl) rfl rfl (fun _ => ?_)
    refine j_b1 [(.slice x3.1.A x3.1.n x3.1.c), (.slice x3.2.1.A x3.2.1.n x3.2.1.c), (.slice x3.2.2.1.A x3.2.2.1.n x3.2.2.1.c), (.slice x9.1 (x3.2.2.2.n + a1_n) x9.2)] rfl ?_
    refine r_nil ?_
    refine j_then ?_
    refine j_seq ?_
    refine j_region ?_
    refine r_q (q_loadb_agg 1 rfl ag48 sz48 rfl rfl rfl rfl) rfl rfl ?_
    refine r_do (a_storeb 0 rfl sz48 rfl rfl rfl rfl (Nat.le_of_ble_eq_true rfl) rfl) rfl rfl (fun _ => ?_)
    refine j_b0 [(.slice x3.1.A x3.1.n x3.1.c), (.slice x3.2.1.A x3.2.1.n x3.2.1.c), (.slice x3.2.2.1.A x3.2.2.1.n x3.2.2.1.c), (.slice x9.1 (x3.2.2.2.n + a1_n) x9.2)] rfl ?_
    refine r_nil ?_
    refine j_then ?_
    refine j_ret ?_
    cases h
    exact j_return rfl (ResOf.cell 0 rfl rfl ag48 sz48 ResOf.nil) rfl (fun w h => ⟨(⟨x3.1.A, x3.1.n, x3.1.c, q5⟩, ⟨x3.2.1.A, x3.2.1.n, x3.2.1.c, q6⟩, ⟨x3.2.2.1.A, x3.2.2.1.n, x3.2.2.1.c, x3.2.2.1.h⟩, ⟨x9.1, (x3.2.2.2.n + a1_n), x9.2, (app_len x3.2.2.2.h a1_h)⟩), rfl, (h.drop 2)⟩)

theorem spec_FreeCell.calls (K : Nat) (a0_0 : List Int) (a0_0_A : Option Addr) (a0_0_n a0_0_c : Nat) (a0_1 : List Int) (a0_1_A : Option Addr) (a0_1_n a0_1_c : Nat) (a0_2 : List Int) (a0_2_A : Option Addr) (a0_2_n a0_2_c : Nat) (a0_3 : List Int) (a0_3_A : Option Addr) (a0_3_n a0_3_c : Nat) (a1 : Int) {w0 w : World} {F : List Res} {r1 : List Int} {r2 : List Int} {r3 : List Int} {r4 : List Int} {r5 : Bool} (hm : Mem w0 (F) w) (a0_0_h : a0_0.length = a0_0_n) (a0_0_R : Rd w0 F a0_0_A (ii a0_0)) (a0_1_h : a0_1.length = a0_1_n) (a0_1_R : Rd w0 F a0_1_A (ii a0_1)) (a0_2_h : a0_2.length = a0_2_n) (a0_2_R : Rd w0 F a0_2_A (ii a0_2)) (a0_3_h : a0_3.length = a0_3_n) (a0_3_R : Rd w0 F a0_3_A (ii a0_3)) (a0_3_k : a0_3.length ≤ a0_3_c) (h : spec_FreeCell.f K a0_0 a0_1 a0_2 a0_3 a1 = some (r1, r2, r3, r4, r5)) :
    Calls Try.prog 49 (List.toArray [.agg (List.toArray [.slice a0_0_A a0_0_n a0_0_c, .slice a0_1_A a0_1_n a0_1_c, .slice a0_2_A a0_2_n a0_2_c, .slice a0_3_A a0_3_n a0_3_c]), i6 a1]) w fun e w' => ∃ x : (Sl r1.length) × (Sl r2.length) × (Sl r3.length) × (Sl r4.length), e = .returned (.tuple (List.toArray [.agg (List.toArray [.slice x.1.A x.1.n x.1.c, .slice x.2.1.A x.2.1.n x.2.1.c, .slice x.2.2.1.A x.2.2.1.n x.2.2.1.c, .slice x.2.2.2.A x.2.2.2.n x.2.2.2.c]), .bool r5])) ∧ Mem w0 (.row x.1.A x.1.c 3 1 (ii r1) :: .row x.2.1.A x.2.1.c 3 1 (ii r2) :: .row x.2.2.1.A x.2.2.1.c 3 1 (ii r3) :: .row x.2.2.2.A x.2.2.2.c 3 1 (ii r4) :: F) w' := by
  unfold spec_FreeCell.f at h
  refine calls_of_J (n := 16) Try.func49 rfl rfl rfl hm ?_
  refine j_seq ?_
  refine j_region ?_
  refine r_do (a_box rfl rfl) rfl rfl (fun x1 => ?_)
  refine r_do (a_alloc zr48 rfl) rfl rfl (fun x2 => ?_)
  refine r_q (q_assign rfl rfl) rfl rfl ?_
  refine r_nil ?_
  refine j_then ?_
  refine j_seq ?_
  refine j_seq ?_
  refine j_region ?_
  refine r_q (q_loadb_agg 1 rfl ag48 sz48 rfl rfl rfl rfl) rfl rfl ?_
  obtain ⟨v1, hb1, h⟩ := of_b1 h
  refine r_do (a_call ok85 rfl rfl rfl rfl (fun w hm => spec_LeakedOf.calls K a0_0 a0_0_A a0_0_n a0_0_c a0_1 a0_1_A a0_1_n a0_1_c a0_2 a0_2_A a0_2_n a0_2_c a0_3 a0_3_A a0_3_n a0_3_c hm a0_0_h (Rd.drop 2 a0_0_R) a0_1_h (Rd.drop 2 a0_1_R) a0_2_h (Rd.drop 2 a0_2_R) a0_3_h (Rd.drop 2 a0_3_R) a0_3_k hb1)) rfl rfl (fun x3 => ?_)
  refine r_q (q_move rfl rfl) rfl rfl ?_
  obtain ⟨v2, hb2, h⟩ := of_b1 h
  refine r_do (a_call ok84 rfl rfl rfl rfl (fun w hm => spec_l4At.calls K v1 x3.A x3.n x3.c a1 hm x3.h (Rd.row 0 rfl) hb2)) rfl rfl (fun x4 => ?_)
  refine r_q (q_lss rfl rfl rfl) rfl rfl ?_
  refine r_nil ?_
  refine j_then ?_
  rcases of_if h with ⟨c1, h⟩ | ⟨c1, h⟩
  · refine j_true rfl (decide_eq_true c1) ?_
    refine j_seq ?_
    refine j_region ?_
    refine r_q (q_build (cs := [(.slice none 0 0), (.slice none 0 0), (.slice none 0 0), (.slice none 0 0)]) zr48 pl48 rfl rfl rfl rfl) rfl rfl ?_
    refine r_do (a_storeb 1 rfl sz48 rfl rfl rfl rfl (Nat.le_of_ble_eq_true rfl) rfl) rfl rfl (fun _ => ?_)
    refine j_b1 [(.slice none 0 0), (.slice none 0 0), (.slice none 0 0), (.slice none 0 0)] rfl ?_
    refine r_q (q_assign rfl rfl) rfl rfl ?_
    refine r_nil ?_
    refine j_then ?_
    refine j_ret ?_
    refine j_then_ret ?_
    refine j_nil 3 1 ?_
    refine j_nil 3 1 ?_
    refine j_nil 3 1 ?_
    refine j_nil 3 1 ?_
    cases h
    exact j_return rfl (ResOf.cell 5 rfl rfl ag48 sz48 (ResOf.tmp rfl ResOf.nil)) rfl (fun w h => ⟨(⟨none, 0, 0, rfl⟩, ⟨none, 0, 0, rfl⟩, ⟨none, 0, 0, rfl⟩, ⟨none, 0, 0, rfl⟩), rfl, h.pick 7 [3, 2, 1, 0] rfl⟩)
  · refine j_false rfl (decide_eq_false c1) ?_
    refine j_skip ?_
    refine j_then ?_
    refine j_seq ?_
    refine j_region ?_
    refine r_q (q_loadb_agg 2 rfl ag48 sz48 rfl rfl rfl rfl) rfl rfl ?_
    refine r_q (q_move rfl rfl) rfl rfl ?_
    refine r_do (a_litX (vs := [(i6 a1)]) (ii ([a1] : List Int)) un32 sz3 zr3 rfl rfl rfl rfl rfl rfl rfl rfl rfl) rfl rfl (fun x5 => ?_)
    obtain ⟨v3, v4, v5, v6, hb3, h⟩ := of_b4 h
    refine r_do (a_call ok86 rfl rfl rfl rfl (fun w hm => spec_l4Clear.calls K a0_0 a0_0_A a0_0_n a0_0_c a0_1 a0_1_A a0_1_n a0_1_c a0_2 a0_2_A a0_2_n a0_2_c a0_3 a0_3_A a0_3_n a0_3_c ([a1] : List Int) x5 1 1 hm a0_0_h (Rd.drop 4 a0_0_R) a0_1_h (Rd.drop 4 a0_1_R) a0_2_h (Rd.drop 4 a0_2_R) a0_3_h (Rd.drop 4 a0_3_R) rfl (Rd.row 0 rfl) hb3)) rfl rfl (fun x6 => ?_)
    refine r_do (a_storeb 6 rfl sz48 rfl rfl rfl rfl (Nat.le_of_ble_eq_true rfl) rfl) rfl rfl (fun _ => ?_)
    refine j_b6 [(.slice x6.1.A x6.1.n x6.1.c), (.slice x6.2.1.A x6.2.1.n x6.2.1.c), (.slice x6.2.2.1.A x6.2.2.1.n x6.2.2.1.c), (.slice x6.2.2.2.A x6.2.2.2.n x6.2.2.2.c)] rfl ?_
    refine r_q (q_assign rfl rfl) rfl rfl ?_
    refine r_nil ?_
    refine j_then ?_
    refine j_ret ?_
    cases h
    exact j_return rfl (ResOf.cell 6 rfl rfl ag48 sz48 (ResOf.tmp rfl ResOf.nil)) rfl (fun w h => ⟨(⟨x6.1.A, x6.1.n, x6.1.c, x6.1.h⟩, ⟨x6.2.1.A, x6.2.1.n, x6.2.1.c, x6.2.1.h⟩, ⟨x6.2.2.1.A, x6.2.2.1.n, x6.2.2.1.c, x6.2.2.1.h⟩, ⟨x6.2.2.2.A, x6.2.2.2.n, x6.2.2.2.c, x6.2.2.2.h⟩), rfl, h.pick 8 [0, 1, 2, 3] rfl⟩)

theorem laws_FnFreeLeft.calls (K : Nat) (a0 : List Int) (a0_A : Option Addr) (a0_n a0_c : Nat) {w0 w : World} {F : List Res} {r1 : Bool} (hm : Mem w0 (F) w) (a0_h : a0.length = a0_n) (a0_R : Rd w0 F a0_A (ints .u8 a0)) (a0_k : a0.length ≤ a0_c) (h : laws_FnFreeLeft.f K a0 = some r1) :
    Calls Try.prog 10 (List.toArray [.slice a0_A a0_n a0_c]) w fun e w' => ∃ x : Unit, e = .returned (.bool r1) ∧ Mem w0 (F) w' := by
  unfold laws_FnFreeLeft.f at h
  refine calls_of_J (n := 82) Try.func10 rfl rfl rfl hm ?_
  refine j_seq ?_
  refine j_region ?_
  refine r_q (q_assign rfl rfl) rfl rfl ?_
  refine r_nil ?_
  refine j_then ?_
  refine j_seq ?_
  refine j_seq ?_
  refine j_region ?_
  refine r_q (q_move rfl rfl) rfl rfl ?_
  refine r_q (q_lenX a0 a0_h un28 rfl rfl rfl rfl rfl) rfl rfl ?_
  refine r_q (q_gtr rfl rfl rfl) rfl rfl ?_
  refine r_nil ?_
  refine j_then ?_
  rcases of_if h with ⟨c1, h⟩ | ⟨c1, h⟩
  · refine j_true rfl (decide_eq_true c1) ?_
    refine j_seq ?_
    refine j_region ?_
    refine r_q (q_assign rfl rfl) rfl rfl ?_
    refine r_nil ?_
    refine j_then ?_
    refine j_ret ?_
    refine j_then_ret ?_
    cases h
    exact j_return rfl (ResOf.tmp rfl ResOf.nil) rfl (fun w h => ⟨(), rfl, h⟩)
  · refine j_false rfl (decide_eq_false c1) ?_
    refine j_skip ?_
    refine j_then ?_
    refine j_seq ?_
    refine j_region ?_
    refine r_q (q_move rfl rfl) rfl rfl ?_
    obtain ⟨v1, v2, v3, v4, v5, hb1, h⟩ := of_b5 h
    refine r_do (a_call ok47 rfl rfl rfl rfl (fun w hm => spec_DrawFreeCell.calls K a0 a0_A a0_n a0_c hm a0_h a0_R a0_k hb1)) rfl rfl (fun x1 => ?_)
    refine r_q (q_move rfl rfl) rfl rfl ?_
    refine r_q (q_extract rfl rfl rfl) rfl rfl ?_
    refine r_q (q_extract rfl rfl rfl) rfl rfl ?_
    refine r_do (a_alloc zr48 rfl) rfl rfl (fun x2 => ?_)
    refine r_do (a_storeb 0 rfl sz48 rfl rfl rfl rfl (Nat.le_of_ble_eq_true rfl) rfl) rfl rfl (fun _ => ?_)
    refine j_b0 [(.slice x1.1.A x1.1.n x1.1.c), (.slice x1.2.1.A x1.2.1.n x1.2.1.c), (.slice x1.2.2.1.A x1.2.2.1.n x1.2.2.1.c), (.slice x1.2.2.2.A x1.2.2.2.n x1.2.2.2.c)] rfl ?_
    refine r_q (q_assign rfl rfl) rfl rfl ?_
    refine r_nil ?_
    refine j_then ?_
    refine j_seq ?_
    refine j_region ?_
    refine r_q (q_loadb_agg 0 rfl ag48 sz48 rfl rfl rfl rfl) rfl rfl ?_
    refine r_q (q_move rfl rfl) rfl rfl ?_
    obtain ⟨v6, v7, v8, v9, v10, hb2, h⟩ := of_b5 h
    refine r_do (a_call ok48 rfl rfl rfl rfl (fun w hm => impl_FreeCell.calls K v1 x1.1.A x1.1.n x1.1.c v2 x1.2.1.A x1.2.1.n x1.2.1.c v3 x1.2.2.1.A x1.2.2.1.n x1.2.2.1.c v4 x1.2.2.2.A x1.2.2.2.n x1.2.2.2.c v5 hm x1.1.h (Rd.row 1 rfl) x1.2.1.h (Rd.row 2 rfl) x1.2.2.1.h (Rd.row 3 rfl) x1.2.2.2.h (Rd.row 4 rfl) (hm.roomI 4 rfl) hb2)) rfl rfl (fun x3 => ?_)
    refine r_q (q_move rfl rfl) rfl rfl ?_
    refine r_q (q_extract rfl rfl rfl) rfl rfl ?_
    refine r_q (q_extract rfl rfl rfl) rfl rfl ?_
    refine r_do (a_alloc zr48 rfl) rfl rfl (fun x4 => ?_)
    refine r_do (a_storeb 0 rfl sz48 rfl rfl rfl rfl (Nat.le_of_ble_eq_true rfl) rfl) rfl rfl (fun _ => ?_)
    refine j_b0 [(.slice x3.1.A x3.1.n x3.1.c), (.slice x3.2.1.A x3.2.1.n x3.2.1.c), (.slice x3.2.2.1.A x3.2.2.1.n x3.2.2.1.c), (.slice x3.2.2.2.A x3.2.2.2.n x3.2.2.2.c)] rfl ?_
    refine r_q (q_assign rfl rfl) rfl rfl ?_
    refine r_nil ?_
    refine j_then ?_
    refine j_seq ?_
    refine j_region ?_
    refine r_q (q_loadb_agg 5 rfl ag48 sz48 rfl rfl rfl rfl) rfl rfl ?_
    refine r_q (q_move rfl rfl) rfl rfl ?_
    obtain ⟨v11, v12, v13, v14, v15, hb3, h⟩ := of_b5 h
    refine r_do (a_call ok49 rfl rfl rfl rfl (fun w hm => spec_FreeCell.calls K v1 x1.1.A x1.1.n x1.1.c v2 x1.2.1.A x1.2.1.n x1.2.1.c v3 x1.2.2.1.A x1.2.2.1.n x1.2.2.1.c v4 x1.2.2.2.A x1.2.2.2.n x1.2.2.2.c v5 hm x1.1.h (Rd.row 6 rfl) x1.2.1.h (Rd.row 7 rfl) x1.2.2.1.h (Rd.row 8 rfl) x1.2.2.2.h (Rd.row 9 rfl) (hm.roomI 9 rfl) hb3)) rfl rfl (fun x5 => ?_)
    refine r_q (q_move rfl rfl) rfl rfl ?_
    refine r_q (q_extract rfl rfl rfl) rfl rfl ?_
    refine r_q (q_extract rfl rfl rfl) rfl rfl ?_
    refine r_do (a_alloc zr48 rfl) rfl rfl (fun x6 => ?_)
    refine r_do (a_storeb 0 rfl sz48 rfl rfl rfl rfl (Nat.le_of_ble_eq_true rfl) rfl) rfl rfl (fun _ => ?_)
    refine j_b0 [(.slice x5.1.A x5.1.n x5.1.c), (.slice x5.2.1.A x5.2.1.n x5.2.1.c), (.slice x5.2.2.1.A x5.2.2.1.n x5.2.2.1.c), (.slice x5.2.2.2.A x5.2.2.2.n x5.2.2.2.c)] rfl ?_
    refine r_q (q_assign rfl rfl) rfl rfl ?_
    refine r_nil ?_
    refine j_then ?_
    refine j_seq ?_
    refine j_seq ?_
    refine j_region ?_
    refine r_q (q_loadb_agg 5 rfl ag48 sz48 rfl rfl rfl rfl) rfl rfl ?_
    refine r_q (q_loadb_agg 0 rfl ag48 sz48 rfl rfl rfl rfl) rfl rfl ?_
    obtain ⟨v16, hb4, h⟩ := of_b1 h
    refine r_do (a_call ok27 rfl rfl rfl rfl (fun w hm => impl_StoreSame.calls K v6 x3.1.A x3.1.n x3.1.c v7 x3.2.1.A x3.2.1.n x3.2.1.c v8 x3.2.2.1.A x3.2.2.1.n x3.2.2.1.c v9 x3.2.2.2.A x3.2.2.2.n x3.2.2.2.c v11 x5.1.A x5.1.n x5.1.c v12 x5.2.1.A x5.2.1.n x5.2.1.c v13 x5.2.2.1.A x5.2.2.1.n x5.2.2.1.c v14 x5.2.2.2.A x5.2.2.2.n x5.2.2.2.c hm x3.1.h (Rd.row 6 rfl) x3.2.1.h (Rd.row 7 rfl) x3.2.2.1.h (Rd.row 8 rfl) x3.2.2.2.h (Rd.row 9 rfl) x5.1.h (Rd.row 1 rfl) x5.2.1.h (Rd.row 2 rfl) x5.2.2.1.h (Rd.row 3 rfl) x5.2.2.2.h (Rd.row 4 rfl) hb4)) rfl rfl (fun x7 => ?_)
    refine r_q (q_not rfl rfl) rfl rfl ?_
    refine r_q (q_move rfl rfl) rfl rfl ?_
    rcases of_if h with ⟨c2, h⟩ | ⟨c2, h⟩
    · refine r_qon (q_move rfl rfl) rfl rfl rfl rfl (not_f c2) rfl ?_
      refine r_qon (q_move rfl rfl) rfl rfl rfl rfl (not_f c2) rfl ?_
      refine r_qon (q_bneq un4 rfl rfl rfl) rfl rfl rfl rfl (not_f c2) rfl ?_
      refine r_q (q_pick_f rfl rfl (not_f c2) rfl) rfl rfl ?_
      refine r_q (q_move rfl rfl) rfl rfl ?_
      rcases of_if h with ⟨c3, h⟩ | ⟨c3, h⟩
      · refine r_qon (q_move rfl rfl) rfl rfl rfl rfl (bne_f c3) rfl ?_
        refine r_qon (q_not rfl rfl) rfl rfl rfl rfl (bne_f c3) rfl ?_
        refine r_q (q_pick_f rfl rfl (bne_f c3) rfl) rfl rfl ?_
        refine r_nil ?_
        refine j_then ?_
        rcases of_if h with ⟨c4, h⟩ | ⟨c4, h⟩
        · refine j_false rfl (not_f c4) ?_
          refine j_skip ?_
          refine j_then ?_
          refine j_seq ?_
          refine j_region ?_
          refine r_q (q_loadb_agg 5 rfl ag48 sz48 rfl rfl rfl rfl) rfl rfl ?_
          refine r_q (q_move rfl rfl) rfl rfl ?_
          obtain ⟨v17, v18, v19, v20, v21, hb5, h⟩ := of_b5 h
          refine r_do (a_call ok48 rfl rfl rfl rfl (fun w hm => impl_FreeCell.calls K v6 x3.1.A x3.1.n x3.1.c v7 x3.2.1.A x3.2.1.n x3.2.1.c v8 x3.2.2.1.A x3.2.2.1.n x3.2.2.1.c v9 x3.2.2.2.A x3.2.2.2.n x3.2.2.2.c v5 hm x3.1.h (Rd.row 6 rfl) x3.2.1.h (Rd.row 7 rfl) x3.2.2.1.h (Rd.row 8 rfl) x3.2.2.2.h (Rd.row 9 rfl) (hm.roomI 9 rfl) hb5)) rfl rfl (fun x8 => ?_)
          refine r_q (q_move rfl rfl) rfl rfl ?_
          refine r_q (q_extract rfl rfl rfl) rfl rfl ?_
          refine r_q (q_extract rfl rfl rfl) rfl rfl ?_
          refine r_do (a_alloc zr48 rfl) rfl rfl (fun x9 => ?_)
          refine r_do (a_storeb 0 rfl sz48 rfl rfl rfl rfl (Nat.le_of_ble_eq_true rfl) rfl) rfl rfl (fun _ => ?_)
          refine j_b0 [(.slice x8.1.A x8.1.n x8.1.c), (.slice x8.2.1.A x8.2.1.n x8.2.1.c), (.slice x8.2.2.1.A x8.2.2.1.n x8.2.2.1.c), (.slice x8.2.2.2.A x8.2.2.2.n x8.2.2.2.c)] rfl ?_
          refine r_q (q_assign rfl rfl) rfl rfl ?_
          refine r_nil ?_
          refine j_then ?_
          refine j_seq ?_
          rcases of_if h with ⟨c5, h⟩ | ⟨c5, h⟩
          · refine j_draw (.box x9 48 [(.slice x8.1.A x8.1.n x8.1.c), (.slice x8.2.1.A x8.2.1.n x8.2.1.c), (.slice x8.2.2.1.A x8.2.2.1.n x8.2.2.1.c), (.slice x8.2.2.2.A x8.2.2.2.n x8.2.2.2.c)] :: .row x8.1.A x8.1.c 3 1 (ii v17) :: .row x8.2.1.A x8.2.1.c 3 1 (ii v18) :: .row x8.2.2.1.A x8.2.2.1.c 3 1 (ii v19) :: .row x8.2.2.2.A x8.2.2.2.c 3 1 (ii v20) :: .box x6 48 [(.slice x5.1.A x5.1.n x5.1.c), (.slice x5.2.1.A x5.2.1.n x5.2.1.c), (.slice x5.2.2.1.A x5.2.2.1.n x5.2.2.1.c), (.slice x5.2.2.2.A x5.2.2.2.n x5.2.2.2.c)] :: .row x5.1.A x5.1.c 3 1 (ii v11) :: .row x5.2.1.A x5.2.1.c 3 1 (ii v12) :: .row x5.2.2.1.A x5.2.2.1.c 3 1 (ii v13) :: .row x5.2.2.2.A x5.2.2.2.c 3 1 (ii v14) :: .box x4 48 [(.slice x3.1.A x3.1.n x3.1.c), (.slice x3.2.1.A x3.2.1.n x3.2.1.c), (.slice x3.2.2.1.A x3.2.2.1.n x3.2.2.1.c), (.slice x3.2.2.2.A x3.2.2.2.n x3.2.2.2.c)] :: .row x3.1.A x3.1.c 3 1 (ii v6) :: .row x3.2.1.A x3.2.1.c 3 1 (ii v7) :: .row x3.2.2.1.A x3.2.2.1.c 3 1 (ii v8) :: .row x3.2.2.2.A x3.2.2.2.c 3 1 (ii v9) :: .box x2 48 [(.slice x1.1.A x1.1.n x1.1.c), (.slice x1.2.1.A x1.2.1.n x1.2.1.c), (.slice x1.2.2.1.A x1.2.2.1.n x1.2.2.1.c), (.slice x1.2.2.2.A x1.2.2.2.n x1.2.2.2.c)] :: .row x1.1.A x1.1.c 3 1 (ii v1) :: .row x1.2.1.A x1.2.1.c 3 1 (ii v2) :: .row x1.2.2.1.A x1.2.2.1.c 3 1 (ii v3) :: .row x1.2.2.2.A x1.2.2.2.c 3 1 (ii v4) :: F) 25 follows_any rfl ?_
            refine d_take 0 rfl (q_move rfl rfl) rfl rfl (by kernel_rfl) (by kernel_rfl) (by kernel_rfl) (fun w h => h) ?_
            refine d_take 1 rfl (q_not rfl rfl) rfl rfl (by kernel_rfl) (by kernel_rfl) (by kernel_rfl) (fun w h => h) ?_
            refine d_take 2 rfl (q_move rfl rfl) rfl rfl (by kernel_rfl) (by kernel_rfl) (by kernel_rfl) (fun w h => h) ?_
            refine d_take_off 3 rfl rfl rfl rfl rfl (not_f c5) rfl (by kernel_rfl) (by kernel_rfl) (by kernel_rfl) (fun w h => h) ?_
            refine d_take_off 4 rfl rfl rfl rfl rfl (not_f c5) rfl (by kernel_rfl) (by kernel_rfl) (by kernel_rfl) (fun w h => h) ?_
            refine d_take_off 5 rfl rfl rfl rfl rfl (not_f c5) rfl (by kernel_rfl) (by kernel_rfl) (by kernel_rfl) (fun w h => h) ?_
            refine d_take_off 6 rfl rfl rfl rfl rfl (not_f c5) rfl (by kernel_rfl) (by kernel_rfl) (by kernel_rfl) (fun w h => h) ?_
            refine d_take_off 7 rfl rfl rfl rfl rfl (not_f c5) rfl (by kernel_rfl) (by kernel_rfl) (by kernel_rfl) (fun w h => h) ?_
            refine d_take_off 8 rfl rfl rfl rfl rfl (not_f c5) rfl (by kernel_rfl) (by kernel_rfl) (by kernel_rfl) (fun w h => h) ?_
            refine d_take_off 9 rfl rfl rfl rfl rfl (not_f c5) rfl (by kernel_rfl) (by kernel_rfl) (by kernel_rfl) (fun w h => h) ?_
            refine d_take_off 10 rfl rfl rfl rfl rfl (not_f c5) rfl (by kernel_rfl) (by kernel_rfl) (by kernel_rfl) (fun w h => h) ?_
            refine d_take 11 rfl (q_pick_f rfl rfl (not_f c5) rfl) rfl rfl (by kernel_rfl) (by kernel_rfl) (by kernel_rfl) (fun w h => h) ?_
            refine d_take 12 rfl (q_move rfl rfl) rfl rfl (by kernel_rfl) (by kernel_rfl) (by kernel_rfl) (fun w h => h) ?_
            refine d_take_off 13 rfl rfl rfl rfl rfl rfl rfl (by kernel_rfl) (by kernel_rfl) (by kernel_rfl) (fun w h => h) ?_
            refine d_take_off 14 rfl rfl rfl rfl rfl rfl rfl (by kernel_rfl) (by kernel_rfl) (by kernel_rfl) (fun w h => h) ?_
            refine d_take_off 15 rfl rfl rfl rfl rfl rfl rfl (by kernel_rfl) (by kernel_rfl) (by kernel_rfl) (fun w h => h) ?_
            refine d_take_off 16 rfl rfl rfl rfl rfl rfl rfl (by kernel_rfl) (by kernel_rfl) (by kernel_rfl) (fun w h => h) ?_
            refine d_take_off 17 rfl rfl rfl rfl rfl rfl rfl (by kernel_rfl) (by kernel_rfl) (by kernel_rfl) (fun w h => h) ?_
            refine d_take_off 18 rfl rfl rfl rfl rfl rfl rfl (by kernel_rfl) (by kernel_rfl) (by kernel_rfl) (fun w h => h) ?_
            refine d_take_off 19 rfl rfl rfl rfl rfl rfl rfl (by kernel_rfl) (by kernel_rfl) (by kernel_rfl) (fun w h => h) ?_
            refine d_take_off 20 rfl rfl rfl rfl rfl rfl rfl (by kernel_rfl) (by kernel_rfl) (by kernel_rfl) (fun w h => h) ?_
            refine d_take_off 21 rfl rfl rfl rfl rfl rfl rfl (by kernel_rfl) (by kernel_rfl) (by kernel_rfl) (fun w h => h) ?_
            refine d_take_off 22 rfl rfl rfl rfl rfl rfl rfl (by kernel_rfl) (by kernel_rfl) (by kernel_rfl) (fun w h => h) ?_
            refine d_take 23 rfl (q_pick_f rfl rfl rfl rfl) rfl rfl (by kernel_rfl) (by kernel_rfl) (by kernel_rfl) (fun w h => h) ?_
            refine d_take 24 rfl (q_assign rfl rfl) rfl rfl (by kernel_rfl) (by kernel_rfl) (by kernel_rfl) (fun w h => h) ?_
            refine d_done (by kernel_rfl) ?_
            refine j_then ?_
            refine j_ret ?_
            cases h
            exact j_return rfl (ResOf.tmp rfl ResOf.nil) rfl (fun w h => ⟨(), rfl, (h.drop 20)⟩)
          · obtain ⟨v22, hb6, h⟩ := of_b1 h
            obtain ⟨v23, hb7, h⟩ := of_b1 h
            rcases of_if h with ⟨c6, h⟩ | ⟨c6, h⟩
            · obtain ⟨c7, h⟩ := of_guard h
              refine j_draw (.box x9 48 [(.slice x8.1.A x8.1.n x8.1.c), (.slice x8.2.1.A x8.2.1.n x8.2.1.c), (.slice x8.2.2.1.A x8.2.2.1.n x8.2.2.1.c), (.slice x8.2.2.2.A x8.2.2.2.n x8.2.2.2.c)] :: .row x8.1.A x8.1.c 3 1 (ii v17) :: .row x8.2.1.A x8.2.1.c 3 1 (ii v18) :: .row x8.2.2.1.A x8.2.2.1.c 3 1 (ii v19) :: .row x8.2.2.2.A x8.2.2.2.c 3 1 (ii v20) :: .box x6 48 [(.slice x5.1.A x5.1.n x5.1.c), (.slice x5.2.1.A x5.2.1.n x5.2.1.c), (.slice x5.2.2.1.A x5.2.2.1.n x5.2.2.1.c), (.slice x5.2.2.2.A x5.2.2.2.n x5.2.2.2.c)] :: .row x5.1.A x5.1.c 3 1 (ii v11) :: .row x5.2.1.A x5.2.1.c 3 1 (ii v12) :: .row x5.2.2.1.A x5.2.2.1.c 3 1 (ii v13) :: .row x5.2.2.2.A x5.2.2.2.c 3 1 (ii v14) :: .box x4 48 [(.slice x3.1.A x3.1.n x3.1.c), (.slice x3.2.1.A x3.2.1.n x3.2.1.c), (.slice x3.2.2.1.A x3.2.2.1.n x3.2.2.1.c), (.slice x3.2.2.2.A x3.2.2.2.n x3.2.2.2.c)] :: .row x3.1.A x3.1.c 3 1 (ii v6) :: .row x3.2.1.A x3.2.1.c 3 1 (ii v7) :: .row x3.2.2.1.A x3.2.2.1.c 3 1 (ii v8) :: .row x3.2.2.2.A x3.2.2.2.c 3 1 (ii v9) :: .box x2 48 [(.slice x1.1.A x1.1.n x1.1.c), (.slice x1.2.1.A x1.2.1.n x1.2.1.c), (.slice x1.2.2.1.A x1.2.2.1.n x1.2.2.1.c), (.slice x1.2.2.2.A x1.2.2.2.n x1.2.2.2.c)] :: .row x1.1.A x1.1.c 3 1 (ii v1) :: .row x1.2.1.A x1.2.1.c 3 1 (ii v2) :: .row x1.2.2.1.A x1.2.2.1.c 3 1 (ii v3) :: .row x1.2.2.2.A x1.2.2.2.c 3 1 (ii v4) :: F) 25 follows_any rfl ?_
              refine d_take 0 rfl (q_move rfl rfl) rfl rfl (by kernel_rfl) (by kernel_rfl) (by kernel_rfl) (fun w h => h) ?_
              refine d_take 1 rfl (q_not rfl rfl) rfl rfl (by kernel_rfl) (by kernel_rfl) (by kernel_rfl) (fun w h => h) ?_
              refine d_take 2 rfl (q_move rfl rfl) rfl rfl (by kernel_rfl) (by kernel_rfl) (by kernel_rfl) (fun w h => h) ?_
              refine d_take_on 3 rfl (q_loadb_agg 10 rfl ag48 sz48 rfl rfl rfl rfl) rfl rfl rfl rfl (not_t (var_f c5)) rfl (by kernel_rfl) (by kernel_rfl) (by kernel_rfl) (fun w h => h) ?_
              refine d_take_on 6 rfl (q_loadb_agg 15 rfl ag48 sz48 rfl rfl rfl rfl) rfl rfl rfl rfl (not_t (var_f c5)) rfl (by kernel_rfl) (by kernel_rfl) (by kernel_rfl) (fun w h => h) ?_
              refine d_one 4 (by kernel_rfl) ?_
              refine o_on rfl (a_call ok50 rfl rfl rfl rfl (fun w hm => impl_LeakedOf.calls K v6 x3.1.A x3.1.n x3.1.c v7 x3.2.1.A x3.2.1.n x3.2.1.c v8 x3.2.2.1.A x3.2.2.1.n x3.2.2.1.c v9 x3.2.2.2.A x3.2.2.2.n x3.2.2.2.c hm x3.1.h (Rd.row 11 rfl) x3.2.1.h (Rd.row 12 rfl) x3.2.2.1.h (Rd.row 13 rfl) x3.2.2.2.h (Rd.row 14 rfl) (hm.roomI 14 rfl) hb6)) rfl rfl rfl rfl (not_t (var_f c5)) rfl (fun x10 w h => h.tail) (fun x10 => ?_)
              refine d_take_on 5 rfl (q_lenX v22 x10.h un32 rfl rfl rfl rfl rfl) rfl rfl rfl rfl (not_t (var_f c5)) rfl (by kernel_rfl) (by kernel_rfl) (by kernel_rfl) (fun w h => h.tail) ?_
              refine d_one 7 (by kernel_rfl) ?_
              refine o_on rfl (a_call ok50 rfl rfl rfl rfl (fun w hm => impl_LeakedOf.calls K v1 x1.1.A x1.1.n x1.1.c v2 x1.2.1.A x1.2.1.n x1.2.1.c v3 x1.2.2.1.A x1.2.2.1.n x1.2.2.1.c v4 x1.2.2.2.A x1.2.2.2.n x1.2.2.2.c hm x1.1.h (Rd.row 17 rfl) x1.2.1.h (Rd.row 18 rfl) x1.2.2.1.h (Rd.row 19 rfl) x1.2.2.2.h (Rd.row 20 rfl) (hm.roomI 20 rfl) hb7)) rfl rfl rfl rfl (not_t (var_f c5)) rfl (fun x11 w h => (h.drop 2)) (fun x11 => ?_)
              refine d_take_on 8 rfl (q_lenX v23 x11.h un32 rfl rfl rfl rfl rfl) rfl rfl rfl rfl (not_t (var_f c5)) rfl (by kernel_rfl) (by kernel_rfl) (by kernel_rfl) (fun w h => (h.drop 2)) ?_
              refine d_take_on 9 rfl (q_sub rfl rfl rfl) rfl rfl rfl rfl (not_t (var_f c5)) rfl (by kernel_rfl) (by kernel_rfl) (by kernel_rfl) (fun w h => (h.drop 2)) ?_
              refine d_take_on 10 rfl (q_eql rfl rfl rfl) rfl rfl rfl rfl (not_t (var_f c5)) rfl (by kernel_rfl) (by kernel_rfl) (by kernel_rfl) (fun w h => (h.drop 2)) ?_
              refine d_take 11 rfl (q_pick_t rfl rfl (not_t (var_f c5)) rfl) rfl rfl (by kernel_rfl) (by kernel_rfl) (by kernel_rfl) (fun w h => (h.drop 2)) ?_
              refine d_take 12 rfl (q_move rfl rfl) rfl rfl (by kernel_rfl) (by kernel_rfl) (by kernel_rfl) (fun w h => (h.drop 2)) ?_
              refine d_take_on 13 rfl (q_fieldAddr fi48_1 sz32 rfl rfl rfl) rfl rfl rfl rfl (beq_t c6) rfl (by kernel_rfl) (by kernel_rfl) (by kernel_rfl) (fun w h => (h.drop 2)) ?_
              refine d_take_on 14 rfl (q_loadb 10 rfl ag32 rfl rfl rfl) rfl rfl rfl rfl (beq_t c6) rfl (by kernel_rfl) (by kernel_rfl) (by kernel_rfl) (fun w h => (h.drop 2)) ?_
              refine d_take_on 15 rfl (q_fieldAddr fi48_1 sz32 rfl rfl rfl) rfl rfl rfl rfl (beq_t c6) rfl (by kernel_rfl) (by kernel_rfl) (by kernel_rfl) (fun w h => (h.drop 2)) ?_
              refine d_take_on 16 rfl (q_loadb 10 rfl ag32 rfl rfl rfl) rfl rfl rfl rfl (beq_t c6) rfl (by kernel_rfl) (by kernel_rfl) (by kernel_rfl) (fun w h => (h.drop 2)) ?_
              refine d_take_on 17 rfl (q_lenX v9 x3.2.2.2.h un32 rfl rfl rfl rfl rfl) rfl rfl rfl rfl (beq_t c6) rfl (by kernel_rfl) (by kernel_rfl) (by kernel_rfl) (fun w h => (h.drop 2)) ?_
              refine d_take_on 18 rfl (q_sub rfl rfl rfl) rfl rfl rfl rfl (beq_t c6) rfl (by kernel_rfl) (by kernel_rfl) (by kernel_rfl) (fun w h => (h.drop 2)) ?_
              refine d_take_on 19 rfl (q_ix (Rd.row 14 rfl) (ints_len1 _ v9) (by decide) x3.2.2.2.h c7 un32 sz3 rfl rfl rfl) rfl rfl rfl rfl (beq_t c6) rfl (by kernel_rfl) (by kernel_rfl) (by kernel_rfl) (fun w h => (h.drop 2)) ?_
              refine d_take_on 20 rfl (q_ldI (Rd.row 14 rfl) c7 ag3 rfl rfl) rfl rfl rfl rfl (beq_t c6) rfl (by kernel_rfl) (by kernel_rfl) (by kernel_rfl) (fun w h => (h.drop 2)) ?_
              refine d_take_on 21 rfl (q_move rfl rfl) rfl rfl rfl rfl (beq_t c6) rfl (by kernel_rfl) (by kernel_rfl) (by kernel_rfl) (fun w h => (h.drop 2)) ?_
              refine d_take_on 22 rfl (q_eql rfl rfl rfl) rfl rfl rfl rfl (beq_t c6) rfl (by kernel_rfl) (by kernel_rfl) (by kernel_rfl) (fun w h => (h.drop 2)) ?_
              refine d_take 23 rfl (q_pick_t rfl rfl (beq_t c6) rfl) rfl rfl (by kernel_rfl) (by kernel_rfl) (by kernel_rfl) (fun w h => (h.drop 2)) ?_
              refine d_take 24 rfl (q_assign rfl rfl) rfl rfl (by kernel_rfl) (by kernel_rfl) (by kernel_rfl) (fun w h => (h.drop 2)) ?_
              refine d_done (by kernel_rfl) ?_
              refine j_then ?_
              refine j_ret ?_
              cases h
              exact j_return rfl (ResOf.tmp rfl ResOf.nil) rfl (fun w h => ⟨(), rfl, (h.drop 22)⟩)
            · refine j_draw (.box x9 48 [(.slice x8.1.A x8.1.n x8.1.c), (.slice x8.2.1.A x8.2.1.n x8.2.1.c), (.slice x8.2.2.1.A x8.2.2.1.n x8.2.2.1.c), (.slice x8.2.2.2.A x8.2.2.2.n x8.2.2.2.c)] :: .row x8.1.A x8.1.c 3 1 (ii v17) :: .row x8.2.1.A x8.2.1.c 3 1 (ii v18) :: .row x8.2.2.1.A x8.2.2.1.c 3 1 (ii v19) :: .row x8.2.2.2.A x8.2.2.2.c 3 1 (ii v20) :: .box x6 48 [(.slice x5.1.A x5.1.n x5.1.c), (.slice x5.2.1.A x5.2.1.n x5.2.1.c), (.slice x5.2.2.1.A x5.2.2.1.n x5.2.2.1.c), (.slice x5.2.2.2.A x5.2.2.2.n x5.2.2.2.c)] :: .row x5.1.A x5.1.c 3 1 (ii v11) :: .row x5.2.1.A x5.2.1.c 3 1 (ii v12) :: .row x5.2.2.1.A x5.2.2.1.c 3 1 (ii v13) :: .row x5.2.2.2.A x5.2.2.2.c 3 1 (ii v14) :: .box x4 48 [(.slice x3.1.A x3.1.n x3.1.c), (.slice x3.2.1.A x3.2.1.n x3.2.1.c), (.slice x3.2.2.1.A x3.2.2.1.n x3.2.2.1.c), (.slice x3.2.2.2.A x3.2.2.2.n x3.2.2.2.c)] :: .row x3.1.A x3.1.c 3 1 (ii v6) :: .row x3.2.1.A x3.2.1.c 3 1 (ii v7) :: .row x3.2.2.1.A x3.2.2.1.c 3 1 (ii v8) :: .row x3.2.2.2.A x3.2.2.2.c 3 1 (ii v9) :: .box x2 48 [(.slice x1.1.A x1.1.n x1.1.c), (.slice x1.2.1.A x1.2.1.n x1.2.1.c), (.slice x1.2.2.1.A x1.2.2.1.n x1.2.2.1.c), (.slice x1.2.2.2.A x1.2.2.2.n x1.2.2.2.c)] :: .row x1.1.A x1.1.c 3 1 (ii v1) :: .row x1.2.1.A x1.2.1.c 3 1 (ii v2) :: .row x1.2.2.1.A x1.2.2.1.c 3 1 (ii v3) :: .row x1.2.2.2.A x1.2.2.2.c 3 1 (ii v4) :: F) 25 follows_any rfl ?_
              refine d_take 0 rfl (q_move rfl rfl) rfl rfl (by kernel_rfl) (by kernel_rfl) (by kernel_rfl) (fun w h => h) ?_
              refine d_take 1 rfl (q_not rfl rfl) rfl rfl (by kernel_rfl) (by kernel_rfl) (by kernel_rfl) (fun w h => h) ?_
              refine d_take 2 rfl (q_move rfl rfl) rfl rfl (by kernel_rfl) (by kernel_rfl) (by kernel_rfl) (fun w h => h) ?_
              refine d_take_on 3 rfl (q_loadb_agg 10 rfl ag48 sz48 rfl rfl rfl rfl) rfl rfl rfl rfl (not_t (var_f c5)) rfl (by kernel_rfl) (by kernel_rfl) (by kernel_rfl) (fun w h => h) ?_
              refine d_take_on 6 rfl (q_loadb_agg 15 rfl ag48 sz48 rfl rfl rfl rfl) rfl rfl rfl rfl (not_t (var_f c5)) rfl (by kernel_rfl) (by kernel_rfl) (by kernel_rfl) (fun w h => h) ?_
              refine d_one 4 (by kernel_rfl) ?_
              refine o_on rfl (a_call ok50 rfl rfl rfl rfl (fun w hm => impl_LeakedOf.calls K v6 x3.1.A x3.1.n x3.1.c v7 x3.2.1.A x3.2.1.n x3.2.1.c v8 x3.2.2.1.A x3.2.2.1.n x3.2.2.1.c v9 x3.2.2.2.A x3.2.2.2.n x3.2.2.2.c hm x3.1.h (Rd.row 11 rfl) x3.2.1.h (Rd.row 12 rfl) x3.2.2.1.h (Rd.row 13 rfl) x3.2.2.2.h (Rd.row 14 rfl) (hm.roomI 14 rfl) hb6)) rfl rfl rfl rfl (not_t (var_f c5)) rfl (fun x10 w h => h.tail) (fun x10 => ?_)
              refine d_take_on 5 rfl (q_lenX v22 x10.h un32 rfl rfl rfl rfl rfl) rfl rfl rfl rfl (not_t (var_f c5)) rfl (by kernel_rfl) (by kernel_rfl) (by kernel_rfl) (fun w h => h.tail) ?_
              refine d_one 7 (by kernel_rfl) ?_
              refine o_on rfl (a_call ok50 rfl rfl rfl rfl (fun w hm => impl_LeakedOf.calls K v1 x1.1.A x1.1.n x1.1.c v2 x1.2.1.A x1.2.1.n x1.2.1.c v3 x1.2.2.1.A x1.2.2.1.n x1.2.2.1.c v4 x1.2.2.2.A x1.2.2.2.n x1.2.2.2.c hm x1.1.h (Rd.row 17 rfl) x1.2.1.h (Rd.row 18 rfl) x1.2.2.1.h (Rd.row 19 rfl) x1.2.2.2.h (Rd.row 20 rfl) (hm.roomI 20 rfl) hb7)) rfl rfl rfl rfl (not_t (var_f c5)) rfl (fun x11 w h => (h.drop 2)) (fun x11 => ?_)
              refine d_take_on 8 rfl (q_lenX v23 x11.h un32 rfl rfl rfl rfl rfl) rfl rfl rfl rfl (not_t (var_f c5)) rfl (by kernel_rfl) (by kernel_rfl) (by kernel_rfl) (fun w h => (h.drop 2)) ?_
              refine d_take_on 9 rfl (q_sub rfl rfl rfl) rfl rfl rfl rfl (not_t (var_f c5)) rfl (by kernel_rfl) (by kernel_rfl) (by kernel_rfl) (fun w h => (h.drop 2)) ?_
              refine d_take_on 10 rfl (q_eql rfl rfl rfl) rfl rfl rfl rfl (not_t (var_f c5)) rfl (by kernel_rfl) (by kernel_rfl) (by kernel_rfl) (fun w h => (h.drop 2)) ?_
              refine d_take 11 rfl (q_pick_t rfl rfl (not_t (var_f c5)) rfl) rfl rfl (by kernel_rfl) (by kernel_rfl) (by kernel_rfl) (fun w h => (h.drop 2)) ?_
              refine d_take 12 rfl (q_move rfl rfl) rfl rfl (by kernel_rfl) (by kernel_rfl) (by kernel_rfl) (fun w h => (h.drop 2)) ?_
              refine d_take_off 13 rfl rfl rfl rfl rfl (beq_f c6) rfl (by kernel_rfl) (by kernel_rfl) (by kernel_rfl) (fun w h => (h.drop 2)) ?_
              refine d_take_off 14 rfl rfl rfl rfl rfl (beq_f c6) rfl (by kernel_rfl) (by kernel_rfl) (by kernel_rfl) (fun w h => (h.drop 2)) ?_
              refine d_take_off 15 rfl rfl rfl rfl rfl (beq_f c6) rfl (by kernel_rfl) (by kernel_rfl) (by kernel_rfl) (fun w h => (h.drop 2)) ?_
              refine d_take_off 16 rfl rfl rfl rfl rfl (beq_f c6) rfl (by kernel_rfl) (by kernel_rfl) (by kernel_rfl) (fun w h => (h.drop 2)) ?_
              refine d_take_off 17 rfl rfl rfl rfl rfl (beq_f c6) rfl (by kernel_rfl) (by kernel_rfl) (by kernel_rfl) (fun w h => (h.drop 2)) ?_
              refine d_take_off 18 rfl rfl rfl rfl rfl (beq_f c6) rfl (by kernel_rfl) (by kernel_rfl) (by kernel_rfl) (fun w h => (h.drop 2)) ?_
              refine d_take_off 19 rfl rfl rfl rfl rfl (beq_f c6) rfl (by kernel_rfl) (by kernel_rfl) (by kernel_rfl) (fun w h => (h.drop 2)) ?_
              refine d_take_off 20 rfl rfl rfl rfl rfl (beq_f c6) rfl (by kernel_rfl) (by kernel_rfl) (by kernel_rfl) (fun w h => (h.drop 2)) ?_
              refine d_take_off 21 rfl rfl rfl rfl rfl (beq_f c6) rfl (by kernel_rfl) (by kernel_rfl) (by kernel_rfl) (fun w h => (h.drop 2)) ?_
              refine d_take_off 22 rfl rfl rfl rfl rfl (beq_f c6) rfl (by kernel_rfl) (by kernel_rfl) (by kernel_rfl) (fun w h => (h.drop 2)) ?_
              refine d_take 23 rfl (q_pick_f rfl rfl (beq_f c6) rfl) rfl rfl (by kernel_rfl) (by kernel_rfl) (by kernel_rfl) (fun w h => (h.drop 2)) ?_
              refine d_take 24 rfl (q_assign rfl rfl) rfl rfl (by kernel_rfl) (by kernel_rfl) (by kernel_rfl) (fun w h => (h.drop 2)) ?_
              refine d_done (by kernel_rfl) ?_
              refine j_then ?_
              refine j_ret ?_
              cases h
              exact j_return rfl (ResOf.tmp rfl ResOf.nil) rfl (fun w h => ⟨(), rfl, (h.drop 22)⟩)
        · refine j_true rfl (not_t (var_f c4)) ?_
          refine j_seq ?_
          refine j_region ?_
          refine r_q (q_loadb_agg 5 rfl ag48 sz48 rfl rfl rfl rfl) rfl rfl ?_
          refine r_q (q_loadb_agg 0 rfl ag48 sz48 rfl rfl rfl rfl) rfl rfl ?_
          obtain ⟨v24, hb8, h⟩ := of_b1 h
          refine r_do (a_call ok27 rfl rfl rfl rfl (fun w hm => impl_StoreSame.calls K v6 x3.1.A x3.1.n x3.1.c v7 x3.2.1.A x3.2.1.n x3.2.1.c v8 x3.2.2.1.A x3.2.2.1.n x3.2.2.1.c v9 x3.2.2.2.A x3.2.2.2.n x3.2.2.2.c v11 x5.1.A x5.1.n x5.1.c v12 x5.2.1.A x5.2.1.n x5.2.1.c v13 x5.2.2.1.A x5.2.2.1.n x5.2.2.1.c v14 x5.2.2.2.A x5.2.2.2.n x5.2.2.2.c hm x3.1.h (Rd.row 6 rfl) x3.2.1.h (Rd.row 7 rfl) x3.2.2.1.h (Rd.row 8 rfl) x3.2.2.2.h (Rd.row 9 rfl) x5.1.h (Rd.row 1 rfl) x5.2.1.h (Rd.row 2 rfl) x5.2.2.1.h (Rd.row 3 rfl) x5.2.2.2.h (Rd.row 4 rfl) hb8)) rfl rfl (fun x12 => ?_)
          refine r_q (q_move rfl rfl) rfl rfl ?_
          rcases of_if h with ⟨c8, h⟩ | ⟨c8, h⟩
          · refine r_qon (q_move rfl rfl) rfl rfl rfl rfl c8 rfl ?_
            refine r_qon (q_move rfl rfl) rfl rfl rfl rfl c8 rfl ?_
            refine r_qon (q_beql un4 rfl rfl rfl) rfl rfl rfl rfl c8 rfl ?_
            refine r_q (q_pick_t rfl rfl c8 rfl) rfl rfl ?_
            refine r_q (q_assign rfl rfl) rfl rfl ?_
            refine r_nil ?_
            refine j_then ?_
            refine j_ret ?_
            refine j_then_ret ?_
            cases h
            exact j_return rfl (ResOf.tmp rfl ResOf.nil) rfl (fun w h => ⟨(), rfl, (h.drop 15)⟩)
          · refine r_off rfl rfl rfl rfl (var_f c8) rfl ?_
            refine r_off rfl rfl rfl rfl (var_f c8) rfl ?_
            refine r_off rfl rfl rfl rfl (var_f c8) rfl ?_
            refine r_q (q_pick_f rfl rfl (var_f c8) rfl) rfl rfl ?_
            refine r_q (q_assign rfl rfl) rfl rfl ?_
            refine r_nil ?_
            refine j_then ?_
            refine j_ret ?_
            refine j_then_ret ?_
            cases h
            exact j_return rfl (ResOf.tmp rfl ResOf.nil) rfl (fun w h => ⟨(), rfl, (h.drop 15)⟩)
      · refine r_off rfl rfl rfl rfl (bne_t c3) rfl ?_
        refine r_off rfl rfl rfl rfl (bne_t c3) rfl ?_
        refine r_q (q_pick_t rfl rfl (bne_t c3) rfl) rfl rfl ?_
        refine r_nil ?_
        refine j_then ?_
        refine j_true rfl rfl ?_
        refine j_seq ?_
        refine j_region ?_
        refine r_q (q_loadb_agg 5 rfl ag48 sz48 rfl rfl rfl rfl) rfl rfl ?_
        refine r_q (q_loadb_agg 0 rfl ag48 sz48 rfl rfl rfl rfl) rfl rfl ?_
        obtain ⟨v25, hb9, h⟩ := of_b1 h
        refine r_do (a_call ok27 rfl rfl rfl rfl (fun w hm => impl_StoreSame.calls K v6 x3.1.A x3.1.n x3.1.c v7 x3.2.1.A x3.2.1.n x3.2.1.c v8 x3.2.2.1.A x3.2.2.1.n x3.2.2.1.c v9 x3.2.2.2.A x3.2.2.2.n x3.2.2.2.c v11 x5.1.A x5.1.n x5.1.c v12 x5.2.1.A x5.2.1.n x5.2.1.c v13 x5.2.2.1.A x5.2.2.1.n x5.2.2.1.c v14 x5.2.2.2.A x5.2.2.2.n x5.2.2.2.c hm x3.1.h (Rd.row 6 rfl) x3.2.1.h (Rd.row 7 rfl) x3.2.2.1.h (Rd.row 8 rfl) x3.2.2.2.h (Rd.row 9 rfl) x5.1.h (Rd.row 1 rfl) x5.2.1.h (Rd.row 2 rfl) x5.2.2.1.h (Rd.row 3 rfl) x5.2.2.2.h (Rd.row 4 rfl) hb9)) rfl rfl (fun x12 => ?_)
        refine r_q (q_move rfl rfl) rfl rfl ?_
        rcases of_if h with ⟨c9, h⟩ | ⟨c9, h⟩
        · refine r_qon (q_move rfl rfl) rfl rfl rfl rfl c9 rfl ?_
          refine r_qon (q_move rfl rfl) rfl rfl rfl rfl c9 rfl ?_
          refine r_qon (q_beql un4 rfl rfl rfl) rfl rfl rfl rfl c9 rfl ?_
          refine r_q (q_pick_t rfl rfl c9 rfl) rfl rfl ?_
          refine r_q (q_assign rfl rfl) rfl rfl ?_
          refine r_nil ?_
          refine j_then ?_
          refine j_ret ?_
          refine j_then_ret ?_
          cases h
          exact j_return rfl (ResOf.tmp rfl ResOf.nil) rfl (fun w h => ⟨(), rfl, (h.drop 15)⟩)
        · refine r_off rfl rfl rfl rfl (var_f c9) rfl ?_
          refine r_off rfl rfl rfl rfl (var_f c9) rfl ?_
          refine r_off rfl rfl rfl rfl (var_f c9) rfl ?_
          refine r_q (q_pick_f rfl rfl (var_f c9) rfl) rfl rfl ?_
          refine r_q (q_assign rfl rfl) rfl rfl ?_
          refine r_nil ?_
          refine j_then ?_
          refine j_ret ?_
          refine j_then_ret ?_
          cases h
          exact j_return rfl (ResOf.tmp rfl ResOf.nil) rfl (fun w h => ⟨(), rfl, (h.drop 15)⟩)
    · refine r_off rfl rfl rfl rfl (not_t (var_f c2)) rfl ?_
      refine r_off rfl rfl rfl rfl (not_t (var_f c2)) rfl ?_
      refine r_off rfl rfl rfl rfl (not_t (var_f c2)) rfl ?_
      refine r_q (q_pick_t rfl rfl (not_t (var_f c2)) rfl) rfl rfl ?_
      refine r_q (q_move rfl rfl) rfl rfl ?_
      refine r_off rfl rfl rfl rfl rfl rfl ?_
      refine r_off rfl rfl rfl rfl rfl rfl ?_
      refine r_q (q_pick_t rfl rfl rfl rfl) rfl rfl ?_
      refine r_nil ?_
      refine j_then ?_
      refine j_true rfl rfl ?_
      refine j_seq ?_
      refine j_region ?_
      refine r_q (q_loadb_agg 5 rfl ag48 sz48 rfl rfl rfl rfl) rfl rfl ?_
      refine r_q (q_loadb_agg 0 rfl ag48 sz48 rfl rfl rfl rfl) rfl rfl ?_
      obtain ⟨v26, hb10, h⟩ := of_b1 h
      refine r_do (a_call ok27 rfl rfl rfl rfl (fun w hm => impl_StoreSame.calls K v6 x3.1.A x3.1.n x3.1.c v7 x3.2.1.A x3.2.1.n x3.2.1.c v8 x3.2.2.1.A x3.2.2.1.n x3.2.2.1.c v9 x3.2.2.2.A x3.2.2.2.n x3.2.2.2.c v11 x5.1.A x5.1.n x5.1.c v12 x5.2.1.A x5.2.1.n x5.2.1.c v13 x5.2.2.1.A x5.2.2.1.n x5.2.2.1.c v14 x5.2.2.2.A x5.2.2.2.n x5.2.2.2.c hm x3.1.h (Rd.row 6 rfl) x3.2.1.h (Rd.row 7 rfl) x3.2.2.1.h (Rd.row 8 rfl) x3.2.2.2.h (Rd.row 9 rfl) x5.1.h (Rd.row 1 rfl) x5.2.1.h (Rd.row 2 rfl) x5.2.2.1.h (Rd.row 3 rfl) x5.2.2.2.h (Rd.row 4 rfl) hb10)) rfl rfl (fun x12 => ?_)
      refine r_q (q_move rfl rfl) rfl rfl ?_
      rcases of_if h with ⟨c10, h⟩ | ⟨c10, h⟩
      · refine r_qon (q_move rfl rfl) rfl rfl rfl rfl c10 rfl ?_
        refine r_qon (q_move rfl rfl) rfl rfl rfl rfl c10 rfl ?_
        refine r_qon (q_beql un4 rfl rfl rfl) rfl rfl rfl rfl c10 rfl ?_
        refine r_q (q_pick_t rfl rfl c10 rfl) rfl rfl ?_
        refine r_q (q_assign rfl rfl) rfl rfl ?_
        refine r_nil ?_
        refine j_then ?_
        refine j_ret ?_
        refine j_then_ret ?_
        cases h
        exact j_return rfl (ResOf.tmp rfl ResOf.nil) rfl (fun w h => ⟨(), rfl, (h.drop 15)⟩)
      · refine r_off rfl rfl rfl rfl (var_f c10) rfl ?_
        refine r_off rfl rfl rfl rfl (var_f c10) rfl ?_
        refine r_off rfl rfl rfl rfl (var_f c10) rfl ?_
        refine r_q (q_pick_f rfl rfl (var_f c10) rfl) rfl rfl ?_
        refine r_q (q_assign rfl rfl) rfl rfl ?_
        refine r_nil ?_
        refine j_then ?_
        refine j_ret ?_
        refine j_then_ret ?_
        cases h
        exact j_return rfl (ResOf.tmp rfl ResOf.nil) rfl (fun w h => ⟨(), rfl, (h.drop 15)⟩)

end Go.Proofs.Ytjcbalhdppmdmaa.F
