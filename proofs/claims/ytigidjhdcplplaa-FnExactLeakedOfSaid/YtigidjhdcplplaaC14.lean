/- The program computes these pure functions, printed by the generator of wip/gen. -/
import Derived.Test.YtigidjhdcplplaaFa
import Derived.Test.YtigidjhdcplplaaFb
import Derived.Test.YtigidjhdcplplaaC0
import Derived.Test.YtigidjhdcplplaaC7
import Derived.Test.YtigidjhdcplplaaC8
import Derived.Test.YtigidjhdcplplaaC9
namespace Go.Proofs.Ytigidjhdcplplaa.F
open Go Go.RowKit Go.Proofs.Ytigidjhdcplplaa.S
set_option linter.unusedVariables false
set_option maxRecDepth 100000
theorem impl_GarbageOf.calls (K : Nat) (a0_0 : List Int) (a0_0_A : Option Addr) (a0_0_n a0_0_c : Nat) (a0_1 : List Int) (a0_1_A : Option Addr) (a0_1_n a0_1_c : Nat) (a0_2 : List Int) (a0_2_A : Option Addr) (a0_2_n a0_2_c : Nat) {w0 w : World} {F : List Res} {r1 : List Int} (hm : Mem w0 (F) w) (a0_0_h : a0_0.length = a0_0_n) (a0_0_R : Rd w0 F a0_0_A (ii a0_0)) (a0_1_h : a0_1.length = a0_1_n) (a0_1_R : Rd w0 F a0_1_A (ii a0_1)) (a0_2_h : a0_2.length = a0_2_n) (a0_2_R : Rd w0 F a0_2_A (ii a0_2)) (h : impl_GarbageOf.f K a0_0 a0_1 a0_2 = some r1) :
    Calls Try.prog 56 (List.toArray [.agg (List.toArray [.slice a0_0_A a0_0_n a0_0_c, .slice a0_1_A a0_1_n a0_1_c, .slice a0_2_A a0_2_n a0_2_c])]) w fun e w' => ∃ x : (Sl r1.length), e = .returned (.slice x.A x.n x.c) ∧ Mem w0 (.row x.A x.c 3 1 (ii r1) :: F) w' := by
  unfold impl_GarbageOf.f at h
  refine calls_of_J (n := 23) Try.func56 rfl rfl rfl hm ?_
  refine j_seq ?_
  refine j_region ?_
  refine r_do (a_box rfl rfl) rfl rfl (fun x1 => ?_)
  refine r_q (q_assign rfl rfl) rfl rfl ?_
  refine r_nil ?_
  refine j_then ?_
  refine j_seq ?_
  refine j_region ?_
  refine r_do (a_litX (vs := []) (ii ([] : List Int)) un25 sz3 zr3 rfl rfl rfl rfl rfl rfl rfl rfl rfl) rfl rfl (fun x2 => ?_)
  refine r_q (q_assign rfl rfl) rfl rfl ?_
  refine r_nil ?_
  refine j_then ?_
  refine j_seq ?_
  refine j_seq ?_
  refine j_region ?_
  refine r_q (q_loadb_agg 1 rfl ag27 sz27 rfl rfl rfl rfl) rfl rfl ?_
  obtain ⟨v1, hb1, h⟩ := of_b1 h
  refine r_do (a_call ok37 rfl rfl rfl rfl (fun w hm => impl_Reachable.calls K a0_0 a0_0_A a0_0_n a0_0_c a0_1 a0_1_A a0_1_n a0_1_c a0_2 a0_2_A a0_2_n a0_2_c hm a0_0_h (Rd.drop 2 a0_0_R) a0_1_h (Rd.drop 2 a0_1_R) a0_2_h (Rd.drop 2 a0_2_R) hb1)) rfl rfl (fun x3 => ?_)
  refine r_q (q_lenX v1 x3.h un52 rfl rfl rfl rfl rfl) rfl rfl ?_
  refine r_q (q_move rfl rfl) rfl rfl ?_
  refine r_nil ?_
  refine j_then ?_
  obtain ⟨κ0, h, hκ0⟩ := ex_k (g := fun κ => impl_GarbageOf.loop0 K κ v1 K ([] : List Int) (0:Int) = some r1) h
  refine j_cut (σ := (Option Addr) × Nat × Nat × (List Int)) (fun s => [(3, (.slice s.1 s.2.1 s.2.2.1))]) (fun s => .row s.1 s.2.2.1 3 1 (ii s.2.2.2) :: F) (fun s => κ0 s.2.2.2 = some r1 ∧ (s.2.2.2.length = s.2.1)) ?_ ?_
  · refine j_block ?_
    refine j_loop (σ := (Option Addr) × Nat × Nat × (List Int) × Int) (fun s => [(3, (.slice s.1 s.2.1 s.2.2.1)), (8, (.slice x3.A x3.n x3.c)), (9, (i6 (v1.length : Int))), (10, (i6 s.2.2.2.2))]) (fun s => .row x3.A x3.c 4 1 (bls v1) :: .row s.1 s.2.2.1 3 1 (ii s.2.2.2.1) :: F) (fun m s => impl_GarbageOf.loop0 K κ0 v1 m s.2.2.2.1 s.2.2.2.2 = some r1 ∧ (s.2.2.2.1.length = s.2.1)) K (x2, 0, 0, ([] : List Int), (0:Int)) ⟨h, rfl⟩ (fun a he => he.sub ⟨rfl, rfl, rfl, rfl, trivial⟩) (fun w h => h.pick 3 [0, 1] rfl) ?_
    rintro m ⟨A2, n2, d2, l2, p2⟩ ⟨h, q2⟩
    cases m with
    | zero => exact absurd h (by rw [impl_GarbageOf.loop0]; exact nofun)
    | succ m =>
      rw [impl_GarbageOf.loop0] at h
      show J _ _ [(3, (.slice A2 n2 d2)), (8, (.slice x3.A x3.n x3.c)), (9, (i6 (v1.length : Int))), (10, (i6 p2))] _ (.row x3.A x3.c 4 1 (bls v1) :: .row A2 d2 3 1 (ii l2) :: F)
      refine j_seq ?_
      refine j_region ?_
      refine r_q (q_lss rfl rfl rfl) rfl rfl ?_
      refine r_nil ?_
      refine j_then ?_
      refine j_seq ?_
      rcases of_if h with ⟨c13, h⟩ | ⟨c13, h⟩
      · refine j_true rfl (decide_eq_true c13) ?_
        refine j_skip ?_
        refine j_then ?_
        refine j_seq ?_
        refine j_block ?_
        refine j_seq ?_
        refine j_region ?_
        refine r_q (q_move rfl rfl) rfl rfl ?_
        obtain ⟨c14, h⟩ := of_guard h
        refine r_q (q_ix (Rd.row 0 rfl) (bls_len1 v1) (by decide) x3.h c14 un52 sz4 rfl rfl rfl) rfl rfl ?_
        refine r_q (q_ldB (Rd.row 0 rfl) c14 ag4 rfl rfl) rfl rfl ?_
        refine r_q (q_assign rfl rfl) rfl rfl ?_
        refine r_q (q_assign rfl rfl) rfl rfl ?_
        refine r_nil ?_
        refine j_then ?_
        refine j_seq ?_
        refine j_region ?_
        refine r_q (q_move rfl rfl) rfl rfl ?_
        refine r_q (q_not rfl rfl) rfl rfl ?_
        refine r_nil ?_
        refine j_then ?_
        rcases of_if h with ⟨c15, h⟩ | ⟨c15, h⟩
        · refine j_false rfl (not_f c15) ?_
          refine j_skip ?_
          refine j_in ?_
          refine j_then ?_
          refine j_region ?_
          refine r_q (q_add rfl rfl rfl) rfl rfl ?_
          refine r_q (q_move rfl rfl) rfl rfl ?_
          refine r_nil ?_
          refine j_then ?_
          exact j_again m (A2, n2, d2, l2, (wrap64 (p2 + (1:Int)))) (Nat.lt_succ_self m) ⟨h, q2⟩ (fun a he => he.sub ⟨rfl, rfl, rfl, rfl, trivial⟩) (fun w h => h)
        · refine j_true rfl (not_t (var_f c15)) ?_
          refine j_region ?_
          refine r_q (q_move rfl rfl) rfl rfl ?_
          refine r_q (q_move rfl rfl) rfl rfl ?_
          refine r_do (a_litX (vs := [(i6 p2)]) (ii ([p2] : List Int)) un25 sz3 zr3 rfl rfl rfl rfl rfl rfl rfl rfl rfl) rfl rfl (fun x4 => ?_)
          obtain ⟨c16, h⟩ := of_guard h
          refine r_do (a_appI (xs := l2) (ys := ([p2] : List Int)) 2 un25 un25 sz3 by3 zr3 rfl rfl rfl rfl rfl rfl rfl rfl rfl q2 rfl (Rd.row 0 rfl) c16) rfl rfl (fun x5 => ?_)
          refine j_s2 ?_
          refine r_q (q_assign rfl rfl) rfl rfl ?_
          refine r_nil ?_
          refine j_in ?_
          refine j_then ?_
          refine j_region ?_
          refine r_q (q_add rfl rfl rfl) rfl rfl ?_
          refine r_q (q_move rfl rfl) rfl rfl ?_
          refine r_nil ?_
          refine j_then ?_
          exact j_again m (x5.1, (n2 + 1), x5.2, (l2 ++ ([p2] : List Int)), (wrap64 (p2 + (1:Int)))) (Nat.lt_succ_self m) ⟨h, (app_len q2 rfl)⟩ (fun a he => he.sub ⟨rfl, rfl, rfl, rfl, trivial⟩) (fun w h => h.tail)
      · refine j_false rfl (decide_eq_false c13) ?_
        refine j_exit ?_
        refine j_then_exit ?_
        refine j_then_exit ?_
        refine j_in_exit ?_
        refine j_then ?_
        exact j_meet (A2, n2, d2, l2) ⟨h, q2⟩ (fun a he => he.sub ⟨rfl, trivial⟩) (fun w h => h.tail)
  · rintro ⟨A3, n3, d3, l3⟩ ⟨h, q3⟩
    subst hκ0
    show J _ _ [(3, (.slice A3 n3 d3))] _ (.row A3 d3 3 1 (ii l3) :: F)
    refine j_then ?_
    refine j_seq ?_
    refine j_region ?_
    refine r_q (q_move rfl rfl) rfl rfl ?_
    refine r_q (q_assign rfl rfl) rfl rfl ?_
    refine r_nil ?_
    refine j_then ?_
    refine j_ret ?_
    cases h
    exact j_return rfl (ResOf.tmp rfl ResOf.nil) rfl (fun w h => ⟨⟨A3, n3, d3, q3⟩, rfl, h⟩)

theorem impl_LeakedOf.calls (K : Nat) (a0_0 : List Int) (a0_0_A : Option Addr) (a0_0_n a0_0_c : Nat) (a0_1 : List Int) (a0_1_A : Option Addr) (a0_1_n a0_1_c : Nat) (a0_2 : List Int) (a0_2_A : Option Addr) (a0_2_n a0_2_c : Nat) (a0_3 : List Int) (a0_3_A : Option Addr) (a0_3_n a0_3_c : Nat) {w0 w : World} {F : List Res} {r1 : List Int} (hm : Mem w0 (F) w) (a0_0_h : a0_0.length = a0_0_n) (a0_0_R : Rd w0 F a0_0_A (ii a0_0)) (a0_1_h : a0_1.length = a0_1_n) (a0_1_R : Rd w0 F a0_1_A (ii a0_1)) (a0_2_h : a0_2.length = a0_2_n) (a0_2_R : Rd w0 F a0_2_A (ii a0_2)) (a0_3_h : a0_3.length = a0_3_n) (a0_3_R : Rd w0 F a0_3_A (ii a0_3)) (a0_3_k : a0_3.length ≤ a0_3_c) (h : impl_LeakedOf.f K a0_0 a0_1 a0_2 a0_3 = some r1) :
    Calls Try.prog 20 (List.toArray [.agg (List.toArray [.slice a0_0_A a0_0_n a0_0_c, .slice a0_1_A a0_1_n a0_1_c, .slice a0_2_A a0_2_n a0_2_c, .slice a0_3_A a0_3_n a0_3_c])]) w fun e w' => ∃ x : (Sl r1.length), e = .returned (.slice x.A x.n x.c) ∧ Mem w0 (.row x.A x.c 3 1 (ii r1) :: F) w' := by
  unfold impl_LeakedOf.f at h
  refine calls_of_J (n := 29) Try.func20 rfl rfl rfl hm ?_
  refine j_seq ?_
  refine j_region ?_
  refine r_do (a_box rfl rfl) rfl rfl (fun x1 => ?_)
  refine r_q (q_assign rfl rfl) rfl rfl ?_
  refine r_nil ?_
  refine j_then ?_
  refine j_seq ?_
  refine j_seq ?_
  refine j_region ?_
  refine r_q (q_loadb_agg 0 rfl ag29 sz29 rfl rfl rfl rfl) rfl rfl ?_
  obtain ⟨v1, hb1, h⟩ := of_b1 h
  refine r_do (a_call ok22 rfl rfl rfl rfl (fun w hm => impl_StoreValid.calls K a0_0 a0_0_A a0_0_n a0_0_c a0_1 a0_1_A a0_1_n a0_1_c a0_2 a0_2_A a0_2_n a0_2_c a0_3 a0_3_A a0_3_n a0_3_c hm a0_0_h (Rd.drop 1 a0_0_R) a0_1_h (Rd.drop 1 a0_1_R) a0_2_h (Rd.drop 1 a0_2_R) a0_3_h (Rd.drop 1 a0_3_R) a0_3_k hb1)) rfl rfl (fun x2 => ?_)
  refine r_q (q_not rfl rfl) rfl rfl ?_
  refine r_nil ?_
  refine j_then ?_
  rcases of_if h with ⟨c1, h⟩ | ⟨c1, h⟩
  · refine j_false rfl (not_f c1) ?_
    refine j_skip ?_
    refine j_then ?_
    refine j_seq ?_
    refine j_region ?_
    refine r_do (a_litX (vs := []) (ii ([] : List Int)) un25 sz3 zr3 rfl rfl rfl rfl rfl rfl rfl rfl rfl) rfl rfl (fun x3 => ?_)
    refine r_q (q_assign rfl rfl) rfl rfl ?_
    refine r_nil ?_
    refine j_then ?_
    refine j_seq ?_
    refine j_seq ?_
    refine j_region ?_
    refine r_q (q_fieldAddr fi29_0 sz27 rfl rfl rfl) rfl rfl ?_
    refine r_q (q_loadb_agg 1 rfl ag27 sz27 rfl rfl rfl rfl) rfl rfl ?_
    obtain ⟨v2, hb2, h⟩ := of_b1 h
    refine r_do (a_call ok56 rfl rfl rfl rfl (fun w hm => impl_GarbageOf.calls K a0_0 a0_0_A a0_0_n a0_0_c a0_1 a0_1_A a0_1_n a0_1_c a0_2 a0_2_A a0_2_n a0_2_c hm a0_0_h (Rd.drop 2 a0_0_R) a0_1_h (Rd.drop 2 a0_1_R) a0_2_h (Rd.drop 2 a0_2_R) hb2)) rfl rfl (fun x4 => ?_)
    refine r_q (q_lenX v2 x4.h un25 rfl rfl rfl rfl rfl) rfl rfl ?_
    refine r_q (q_move rfl rfl) rfl rfl ?_
    refine r_nil ?_
    refine j_then ?_
    obtain ⟨κ0, h, hκ0⟩ := ex_k (g := fun κ => impl_LeakedOf.loop0 K κ a0_3 v2 K ([] : List Int) (0:Int) = some r1) h
    refine j_cut (σ := (Option Addr) × Nat × Nat × (List Int)) (fun s => [(3, (.slice s.1 s.2.1 s.2.2.1))]) (fun s => .row s.1 s.2.2.1 3 1 (ii s.2.2.2) :: F) (fun s => κ0 s.2.2.2 = some r1 ∧ (s.2.2.2.length = s.2.1)) ?_ ?_
    · refine j_block ?_
      refine j_loop (σ := (Option Addr) × Nat × Nat × (List Int) × Int) (fun s => [(1, (pt x1)), (3, (.slice s.1 s.2.1 s.2.2.1)), (12, (.slice x4.A x4.n x4.c)), (13, (i6 (v2.length : Int))), (14, (i6 s.2.2.2.2))]) (fun s => .box x1 29 [(.slice a0_0_A a0_0_n a0_0_c), (.slice a0_1_A a0_1_n a0_1_c), (.slice a0_2_A a0_2_n a0_2_c), (.slice a0_3_A a0_3_n a0_3_c)] :: .row x4.A x4.c 3 1 (ii v2) :: .row s.1 s.2.2.1 3 1 (ii s.2.2.2.1) :: F) (fun m s => impl_LeakedOf.loop0 K κ0 a0_3 v2 m s.2.2.2.1 s.2.2.2.2 = some r1 ∧ (s.2.2.2.1.length = s.2.1)) K (x3, 0, 0, ([] : List Int), (0:Int)) ⟨h, rfl⟩ (fun a he => he.sub ⟨rfl, rfl, rfl, rfl, rfl, trivial⟩) (fun w h => h.pick 3 [2, 0, 1] rfl) ?_
      rintro m ⟨A2, n2, d2, l2, p2⟩ ⟨h, q2⟩
      cases m with
      | zero => exact absurd h (by rw [impl_LeakedOf.loop0]; exact nofun)
      | succ m =>
        rw [impl_LeakedOf.loop0] at h
        show J _ _ [(1, (pt x1)), (3, (.slice A2 n2 d2)), (12, (.slice x4.A x4.n x4.c)), (13, (i6 (v2.length : Int))), (14, (i6 p2))] _ (.box x1 29 [(.slice a0_0_A a0_0_n a0_0_c), (.slice a0_1_A a0_1_n a0_1_c), (.slice a0_2_A a0_2_n a0_2_c), (.slice a0_3_A a0_3_n a0_3_c)] :: .row x4.A x4.c 3 1 (ii v2) :: .row A2 d2 3 1 (ii l2) :: F)
        refine j_seq ?_
        refine j_region ?_
        refine r_q (q_lss rfl rfl rfl) rfl rfl ?_
        refine r_nil ?_
        refine j_then ?_
        refine j_seq ?_
        rcases of_if h with ⟨c14, h⟩ | ⟨c14, h⟩
        · refine j_true rfl (decide_eq_true c14) ?_
          refine j_skip ?_
          refine j_then ?_
          refine j_seq ?_
          refine j_block ?_
          refine j_seq ?_
          refine j_region ?_
          obtain ⟨c15, h⟩ := of_guard h
          refine r_q (q_ix (Rd.row 1 rfl) (ints_len1 _ v2) (by decide) x4.h c15 un25 sz3 rfl rfl rfl) rfl rfl ?_
          refine r_q (q_ldI (Rd.row 1 rfl) c15 ag3 rfl rfl) rfl rfl ?_
          refine r_q (q_assign rfl rfl) rfl rfl ?_
          refine r_nil ?_
          refine j_then ?_
          refine j_seq ?_
          refine j_region ?_
          refine r_q (q_fieldAddr fi29_1 sz25 rfl rfl rfl) rfl rfl ?_
          refine r_q (q_loadb 0 rfl ag25 rfl rfl rfl) rfl rfl ?_
          refine r_q (q_move rfl rfl) rfl rfl ?_
          obtain ⟨v6, hb6, h⟩ := of_b1 h
          refine r_do (a_call ok57 rfl rfl rfl rfl (fun w hm => slices_Contains_int.calls K a0_3 a0_3_A a0_3_n a0_3_c (rd v2 p2) hm a0_3_h (Rd.drop 3 a0_3_R) hb6)) rfl rfl (fun x5 => ?_)
          refine r_q (q_not rfl rfl) rfl rfl ?_
          refine r_nil ?_
          refine j_then ?_
          rcases of_if h with ⟨c16, h⟩ | ⟨c16, h⟩
          · refine j_false rfl (not_f c16) ?_
            refine j_skip ?_
            refine j_in ?_
            refine j_then ?_
            refine j_region ?_
            refine r_q (q_add rfl rfl rfl) rfl rfl ?_
            refine r_q (q_move rfl rfl) rfl rfl ?_
            refine r_nil ?_
            refine j_then ?_
            exact j_again m (A2, n2, d2, l2, (wrap64 (p2 + (1:Int)))) (Nat.lt_succ_self m) ⟨h, q2⟩ (fun a he => he.sub ⟨rfl, rfl, rfl, rfl, rfl, trivial⟩) (fun w h => h)
          · refine j_true rfl (not_t (var_f c16)) ?_
            refine j_region ?_
            refine r_q (q_move rfl rfl) rfl rfl ?_
            refine r_q (q_move rfl rfl) rfl rfl ?_
            refine r_do (a_litX (vs := [(i6 (rd v2 p2))]) (ii ([(rd v2 p2)] : List Int)) un25 sz3 zr3 rfl rfl rfl rfl rfl rfl rfl rfl rfl) rfl rfl (fun x6 => ?_)
            obtain ⟨c17, h⟩ := of_guard h
            refine r_do (a_appI (xs := l2) (ys := ([(rd v2 p2)] : List Int)) 3 un25 un25 sz3 by3 zr3 rfl rfl rfl rfl rfl rfl rfl rfl rfl q2 rfl (Rd.row 0 rfl) c17) rfl rfl (fun x7 => ?_)
            refine j_s3 ?_
            refine r_q (q_assign rfl rfl) rfl rfl ?_
            refine r_nil ?_
            refine j_in ?_
            refine j_then ?_
            refine j_region ?_
            refine r_q (q_add rfl rfl rfl) rfl rfl ?_
            refine r_q (q_move rfl rfl) rfl rfl ?_
            refine r_nil ?_
            refine j_then ?_
            exact j_again m (x7.1, (n2 + 1), x7.2, (l2 ++ ([(rd v2 p2)] : List Int)), (wrap64 (p2 + (1:Int)))) (Nat.lt_succ_self m) ⟨h, (app_len q2 rfl)⟩ (fun a he => he.sub ⟨rfl, rfl, rfl, rfl, rfl, trivial⟩) (fun w h => h.tail)
        · refine j_false rfl (decide_eq_false c14) ?_
          refine j_exit ?_
          refine j_then_exit ?_
          refine j_then_exit ?_
          refine j_in_exit ?_
          refine j_then ?_
          exact j_meet (A2, n2, d2, l2) ⟨h, q2⟩ (fun a he => he.sub ⟨rfl, trivial⟩) (fun w h => (h.drop 2))
    · rintro ⟨A3, n3, d3, l3⟩ ⟨h, q3⟩
      subst hκ0
      show J _ _ [(3, (.slice A3 n3 d3))] _ (.row A3 d3 3 1 (ii l3) :: F)
      refine j_then ?_
      refine j_seq ?_
      refine j_region ?_
      refine r_q (q_move rfl rfl) rfl rfl ?_
      refine r_q (q_assign rfl rfl) rfl rfl ?_
      refine r_nil ?_
      refine j_then ?_
      refine j_ret ?_
      cases h
      exact j_return rfl (ResOf.tmp rfl ResOf.nil) rfl (fun w h => ⟨⟨A3, n3, d3, q3⟩, rfl, h⟩)
  · refine j_true rfl (not_t (var_f c1)) ?_
    refine j_seq ?_
    refine j_region ?_
    refine r_q (q_assign rfl rfl) rfl rfl ?_
    refine r_nil ?_
    refine j_then ?_
    refine j_ret ?_
    refine j_then_ret ?_
    refine j_nil 3 1 ?_
    cases h
    exact j_return rfl (ResOf.tmp rfl ResOf.nil) rfl (fun w h => ⟨⟨none, 0, 0, rfl⟩, rfl, h.pick 2 [0] rfl⟩)

end Go.Proofs.Ytigidjhdcplplaa.F
