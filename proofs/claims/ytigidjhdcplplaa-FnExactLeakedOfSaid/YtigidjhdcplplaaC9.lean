/- The program computes these pure functions, printed by the generator of wip/gen. -/
import Derived.Test.YtigidjhdcplplaaFa
import Derived.Test.YtigidjhdcplplaaFb
import Derived.Test.YtigidjhdcplplaaC0
import Derived.Test.YtigidjhdcplplaaC7
import Derived.Test.YtigidjhdcplplaaC8
namespace Go.Proofs.Ytigidjhdcplplaa.F
open Go Go.RowKit Go.Proofs.Ytigidjhdcplplaa.S
set_option linter.unusedVariables false
set_option maxRecDepth 100000
theorem impl_Reachable.calls (K : Nat) (a0_0 : List Int) (a0_0_A : Option Addr) (a0_0_n a0_0_c : Nat) (a0_1 : List Int) (a0_1_A : Option Addr) (a0_1_n a0_1_c : Nat) (a0_2 : List Int) (a0_2_A : Option Addr) (a0_2_n a0_2_c : Nat) {w0 w : World} {F : List Res} {r1 : List Bool} (hm : Mem w0 (F) w) (a0_0_h : a0_0.length = a0_0_n) (a0_0_R : Rd w0 F a0_0_A (ii a0_0)) (a0_1_h : a0_1.length = a0_1_n) (a0_1_R : Rd w0 F a0_1_A (ii a0_1)) (a0_2_h : a0_2.length = a0_2_n) (a0_2_R : Rd w0 F a0_2_A (ii a0_2)) (h : impl_Reachable.f K a0_0 a0_1 a0_2 = some r1) :
    Calls Try.prog 37 (List.toArray [.agg (List.toArray [.slice a0_0_A a0_0_n a0_0_c, .slice a0_1_A a0_1_n a0_1_c, .slice a0_2_A a0_2_n a0_2_c])]) w fun e w' => ∃ x : (Sl r1.length), e = .returned (.slice x.A x.n x.c) ∧ Mem w0 (.row x.A x.c 4 1 (bls r1) :: F) w' := by
  unfold impl_Reachable.f at h
  refine calls_of_J (n := 24) Try.func37 rfl rfl rfl hm ?_
  refine j_seq ?_
  refine j_region ?_
  refine r_do (a_box rfl rfl) rfl rfl (fun x1 => ?_)
  refine r_q (q_assign rfl rfl) rfl rfl ?_
  refine r_nil ?_
  refine j_then ?_
  refine j_seq ?_
  refine j_seq ?_
  refine j_region ?_
  refine r_q (q_loadb_agg 0 rfl ag27 sz27 rfl rfl rfl rfl) rfl rfl ?_
  obtain ⟨v1, hb1, h⟩ := of_b1 h
  refine r_do (a_call ok61 rfl rfl rfl rfl (fun w hm => impl_HeapValid.calls K a0_0 a0_0_A a0_0_n a0_0_c a0_1 a0_1_A a0_1_n a0_1_c a0_2 a0_2_A a0_2_n a0_2_c hm a0_0_h (Rd.drop 1 a0_0_R) a0_1_h (Rd.drop 1 a0_1_R) a0_2_h (Rd.drop 1 a0_2_R) hb1)) rfl rfl (fun x2 => ?_)
  refine r_q (q_not rfl rfl) rfl rfl ?_
  refine r_nil ?_
  refine j_then ?_
  rcases of_if h with ⟨c1, h⟩ | ⟨c1, h⟩
  · refine j_false rfl (not_f c1) ?_
    refine j_skip ?_
    refine j_then ?_
    refine j_seq ?_
    refine j_region ?_
    refine r_do (a_litX (vs := []) (bls ([] : List Bool)) un52 sz4 zr4 rfl rfl rfl rfl rfl rfl rfl rfl rfl) rfl rfl (fun x3 => ?_)
    refine r_q (q_assign rfl rfl) rfl rfl ?_
    refine r_nil ?_
    refine j_then ?_
    refine j_seq ?_
    refine j_seq ?_
    refine j_region ?_
    refine r_q (q_loadb_agg 1 rfl ag27 sz27 rfl rfl rfl rfl) rfl rfl ?_
    obtain ⟨v2, hb2, h⟩ := of_b1 h
    refine r_do (a_call ok76 rfl rfl rfl rfl (fun w hm => impl_distances.calls K a0_0 a0_0_A a0_0_n a0_0_c a0_1 a0_1_A a0_1_n a0_1_c a0_2 a0_2_A a0_2_n a0_2_c hm a0_0_h (Rd.drop 2 a0_0_R) a0_1_h (Rd.drop 2 a0_1_R) a0_2_h (Rd.drop 2 a0_2_R) hb2)) rfl rfl (fun x4 => ?_)
    refine r_q (q_lenX v2 x4.h un25 rfl rfl rfl rfl rfl) rfl rfl ?_
    refine r_q (q_move rfl rfl) rfl rfl ?_
    refine r_nil ?_
    refine j_then ?_
    obtain ⟨κ0, h, hκ0⟩ := ex_k (g := fun κ => impl_Reachable.loop0 K κ v2 K ([] : List Bool) (0:Int) = some r1) h
    refine j_cut (σ := (Option Addr) × Nat × Nat × (List Bool)) (fun s => [(3, (.slice s.1 s.2.1 s.2.2.1))]) (fun s => .row s.1 s.2.2.1 4 1 (bls s.2.2.2) :: F) (fun s => κ0 s.2.2.2 = some r1 ∧ (s.2.2.2.length = s.2.1)) ?_ ?_
    · refine j_block ?_
      refine j_loop (σ := (Option Addr) × Nat × Nat × (List Bool) × Int) (fun s => [(3, (.slice s.1 s.2.1 s.2.2.1)), (11, (.slice x4.A x4.n x4.c)), (12, (i6 (v2.length : Int))), (13, (i6 s.2.2.2.2))]) (fun s => .row x4.A x4.c 3 1 (ii v2) :: .row s.1 s.2.2.1 4 1 (bls s.2.2.2.1) :: F) (fun m s => impl_Reachable.loop0 K κ0 v2 m s.2.2.2.1 s.2.2.2.2 = some r1 ∧ (s.2.2.2.1.length = s.2.1)) K (x3, 0, 0, ([] : List Bool), (0:Int)) ⟨h, rfl⟩ (fun a he => he.sub ⟨rfl, rfl, rfl, rfl, trivial⟩) (fun w h => h.pick 3 [0, 1] rfl) ?_
      rintro m ⟨A2, n2, d2, l2, p2⟩ ⟨h, q2⟩
      cases m with
      | zero => exact absurd h (by rw [impl_Reachable.loop0]; exact nofun)
      | succ m =>
        rw [impl_Reachable.loop0] at h
        show J _ _ [(3, (.slice A2 n2 d2)), (11, (.slice x4.A x4.n x4.c)), (12, (i6 (v2.length : Int))), (13, (i6 p2))] _ (.row x4.A x4.c 3 1 (ii v2) :: .row A2 d2 4 1 (bls l2) :: F)
        refine j_seq ?_
        refine j_region ?_
        refine r_q (q_lss rfl rfl rfl) rfl rfl ?_
        refine r_nil ?_
        refine j_then ?_
        refine j_seq ?_
        rcases of_if h with ⟨c11, h⟩ | ⟨c11, h⟩
        · refine j_true rfl (decide_eq_true c11) ?_
          refine j_skip ?_
          refine j_then ?_
          refine j_seq ?_
          refine j_block ?_
          refine j_seq ?_
          refine j_region ?_
          obtain ⟨c12, h⟩ := of_guard h
          refine r_q (q_ix (Rd.row 0 rfl) (ints_len1 _ v2) (by decide) x4.h c12 un25 sz3 rfl rfl rfl) rfl rfl ?_
          refine r_q (q_ldI (Rd.row 0 rfl) c12 ag3 rfl rfl) rfl rfl ?_
          refine r_q (q_assign rfl rfl) rfl rfl ?_
          refine r_nil ?_
          refine j_then ?_
          refine j_region ?_
          refine r_q (q_move rfl rfl) rfl rfl ?_
          refine r_q (q_move rfl rfl) rfl rfl ?_
          refine r_q (q_gtr rfl rfl rfl) rfl rfl ?_
          refine r_do (a_litX (vs := [(.bool (decide ((rd v2 p2) > (0:Int))))]) (bls ([(decide ((rd v2 p2) > (0:Int)))] : List Bool)) un52 sz4 zr4 rfl rfl rfl rfl rfl rfl rfl rfl rfl) rfl rfl (fun x5 => ?_)
          obtain ⟨c13, h⟩ := of_guard h
          refine r_do (a_appB (xs := l2) (ys := ([(decide ((rd v2 p2) > (0:Int)))] : List Bool)) 2 un52 un52 sz4 by4 zr4 rfl rfl rfl rfl rfl rfl rfl rfl rfl q2 rfl (Rd.row 0 rfl) c13) rfl rfl (fun x6 => ?_)
          refine j_s2 ?_
          refine r_q (q_assign rfl rfl) rfl rfl ?_
          refine r_nil ?_
          refine j_in ?_
          refine j_then ?_
          refine j_region ?_
          refine r_q (q_add rfl rfl rfl) rfl rfl ?_
          refine r_q (q_move rfl rfl) rfl rfl ?_
          refine r_nil ?_
          refine j_then ?_
          exact j_again m (x6.1, (n2 + 1), x6.2, (l2 ++ ([(decide ((rd v2 p2) > (0:Int)))] : List Bool)), (wrap64 (p2 + (1:Int)))) (Nat.lt_succ_self m) ⟨h, (app_len q2 rfl)⟩ (fun a he => he.sub ⟨rfl, rfl, rfl, rfl, trivial⟩) (fun w h => h.tail)
        · refine j_false rfl (decide_eq_false c11) ?_
          refine j_exit ?_
          refine j_then_exit ?_
          refine j_then_exit ?_
          refine j_in_exit ?_
          refine j_then ?_
          exact j_meet (A2, n2, d2, l2) ⟨h, q2⟩ (fun a he => he.sub ⟨rfl, trivial⟩) (fun w h => h.tail)
    · rintro ⟨A3, n3, d3, l3⟩ ⟨h, q3⟩
      subst hκ0
      show J _ _ [(3, (.slice A3 n3 d3))] _ (.row A3 d3 4 1 (bls l3) :: F)
      refine j_then ?_
      refine j_seq ?_
      refine j_region ?_
      refine r_q (q_move rfl rfl) rfl rfl ?_
      refine r_q (q_assign rfl rfl) rfl rfl ?_
      refine r_nil ?_
      refine j_then ?_
      refine j_ret ?_
      cases h
      exact j_return rfl (ResOf.tmp rfl ResOf.nil) rfl (fun w h => ⟨⟨A3, n3, d3, q3⟩, rfl, h⟩)
  · refine j_true rfl (not_t (var_f c1)) ?_
    refine j_seq ?_
    refine j_region ?_
    refine r_q (q_assign rfl rfl) rfl rfl ?_
    refine r_nil ?_
    refine j_then ?_
    refine j_ret ?_
    refine j_then_ret ?_
    refine j_nil 4 1 ?_
    cases h
    exact j_return rfl (ResOf.tmp rfl ResOf.nil) rfl (fun w h => ⟨⟨none, 0, 0, rfl⟩, rfl, h.pick 2 [0] rfl⟩)

end Go.Proofs.Ytigidjhdcplplaa.F
