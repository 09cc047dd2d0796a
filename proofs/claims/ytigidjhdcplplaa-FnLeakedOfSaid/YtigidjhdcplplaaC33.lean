/- The program computes these pure functions, printed by the generator of wip/gen. -/
import Derived.Test.YtigidjhdcplplaaFa
import Derived.Test.YtigidjhdcplplaaFg
import Derived.Test.YtigidjhdcplplaaFb
import Derived.Test.YtigidjhdcplplaaC0
import Derived.Test.YtigidjhdcplplaaC1
import Derived.Test.YtigidjhdcplplaaC2
import Derived.Test.YtigidjhdcplplaaC3
import Derived.Test.YtigidjhdcplplaaC4
import Derived.Test.YtigidjhdcplplaaC6
import Derived.Test.YtigidjhdcplplaaC7
import Derived.Test.YtigidjhdcplplaaC8
import Derived.Test.YtigidjhdcplplaaC9
import Derived.Test.YtigidjhdcplplaaC10
import Derived.Test.YtigidjhdcplplaaC11
import Derived.Test.YtigidjhdcplplaaC14
import Derived.Test.YtigidjhdcplplaaC16
import Derived.Test.YtigidjhdcplplaaC20
namespace Go.Proofs.Ytigidjhdcplplaa.F
open Go Go.RowKit Go.Proofs.Ytigidjhdcplplaa.S
set_option linter.unusedVariables false
set_option maxRecDepth 100000
theorem spec_DrawLeakedOf.calls (K : Nat) (a0 : List Int) (a0_A : Option Addr) (a0_n a0_c : Nat) {w0 w : World} {F : List Res} {r1 : List Int} {r2 : List Int} {r3 : List Int} {r4 : List Int} (hm : Mem w0 (F) w) (a0_h : a0.length = a0_n) (a0_R : Rd w0 F a0_A (ints .u8 a0)) (a0_k : a0.length ≤ a0_c) (h : spec_DrawLeakedOf.f K a0 = some (r1, r2, r3, r4)) :
    Calls Try.prog 40 (List.toArray [.slice a0_A a0_n a0_c]) w fun e w' => ∃ x : (Sl r1.length) × (Sl r2.length) × (Sl r3.length) × (Sl r4.length), e = .returned (.agg (List.toArray [.slice x.1.A x.1.n x.1.c, .slice x.2.1.A x.2.1.n x.2.1.c, .slice x.2.2.1.A x.2.2.1.n x.2.2.1.c, .slice x.2.2.2.A x.2.2.2.n x.2.2.2.c])) ∧ Mem w0 (.row x.1.A x.1.c 3 1 (ii r1) :: .row x.2.1.A x.2.1.c 3 1 (ii r2) :: .row x.2.2.1.A x.2.2.1.c 3 1 (ii r3) :: .row x.2.2.2.A x.2.2.2.c 3 1 (ii r4) :: F) w' := by
  unfold spec_DrawLeakedOf.f at h
  refine calls_of_J (n := 11) Try.func40 rfl rfl rfl hm ?_
  refine j_seq ?_
  refine j_region ?_
  refine r_do (a_alloc zr29 rfl) rfl rfl (fun x1 => ?_)
  refine r_nil ?_
  refine j_then ?_
  refine j_seq ?_
  refine j_region ?_
  refine r_q (q_move rfl rfl) rfl rfl ?_
  obtain ⟨v1, v2, v3, v4, v5, hb1, h⟩ := of_b5 h
  refine r_do (a_call ok75 rfl rfl rfl rfl (fun w hm => spec_l4Case.calls K a0 a0_A a0_n a0_c hm a0_h (Rd.drop 1 a0_R) a0_k hb1)) rfl rfl (fun x2 => ?_)
  refine r_q (q_move rfl rfl) rfl rfl ?_
  refine r_q (q_extract rfl rfl rfl) rfl rfl ?_
  refine r_q (q_extract rfl rfl rfl) rfl rfl ?_
  refine r_do (a_alloc zr29 rfl) rfl rfl (fun x3 => ?_)
  refine r_do (a_storeb 0 rfl sz29 rfl rfl rfl rfl (Nat.le_of_ble_eq_true rfl) rfl) rfl rfl (fun _ => ?_)
  refine j_b0 [(.slice x2.1.A x2.1.n x2.1.c), (.slice x2.2.1.A x2.2.1.n x2.2.1.c), (.slice x2.2.2.1.A x2.2.2.1.n x2.2.2.1.c), (.slice x2.2.2.2.A x2.2.2.2.n x2.2.2.2.c)] rfl ?_
  refine r_q (q_assign rfl rfl) rfl rfl ?_
  refine r_nil ?_
  refine j_then ?_
  refine j_seq ?_
  refine j_region ?_
  refine r_q (q_loadb_agg 0 rfl ag29 sz29 rfl rfl rfl rfl) rfl rfl ?_
  refine r_do (a_storeb 5 rfl sz29 rfl rfl rfl rfl (Nat.le_of_ble_eq_true rfl) rfl) rfl rfl (fun _ => ?_)
  refine j_b5 [(.slice x2.1.A x2.1.n x2.1.c), (.slice x2.2.1.A x2.2.1.n x2.2.1.c), (.slice x2.2.2.1.A x2.2.2.1.n x2.2.2.1.c), (.slice x2.2.2.2.A x2.2.2.2.n x2.2.2.2.c)] rfl ?_
  refine r_nil ?_
  refine j_then ?_
  refine j_ret ?_
  cases h
  exact j_return rfl (ResOf.cell 5 rfl rfl ag29 sz29 ResOf.nil) rfl (fun w h => ⟨(⟨x2.1.A, x2.1.n, x2.1.c, x2.1.h⟩, ⟨x2.2.1.A, x2.2.1.n, x2.2.1.c, x2.2.1.h⟩, ⟨x2.2.2.1.A, x2.2.2.1.n, x2.2.2.1.c, x2.2.2.1.h⟩, ⟨x2.2.2.2.A, x2.2.2.2.n, x2.2.2.2.c, x2.2.2.2.h⟩), rfl, h.pick 6 [1, 2, 3, 4] rfl⟩)

theorem impl_CountLive.calls (K : Nat) (a0_0 : List Int) (a0_0_A : Option Addr) (a0_0_n a0_0_c : Nat) (a0_1 : List Int) (a0_1_A : Option Addr) (a0_1_n a0_1_c : Nat) (a0_2 : List Int) (a0_2_A : Option Addr) (a0_2_n a0_2_c : Nat) {w0 w : World} {F : List Res} {r1 : Int} (hm : Mem w0 (F) w) (a0_0_h : a0_0.length = a0_0_n) (a0_0_R : Rd w0 F a0_0_A (ii a0_0)) (a0_1_h : a0_1.length = a0_1_n) (a0_1_R : Rd w0 F a0_1_A (ii a0_1)) (a0_2_h : a0_2.length = a0_2_n) (a0_2_R : Rd w0 F a0_2_A (ii a0_2)) (h : impl_CountLive.f K a0_0 a0_1 a0_2 = some r1) :
    Calls Try.prog 42 (List.toArray [.agg (List.toArray [.slice a0_0_A a0_0_n a0_0_c, .slice a0_1_A a0_1_n a0_1_c, .slice a0_2_A a0_2_n a0_2_c])]) w fun e w' => ∃ x : Unit, e = .returned (i6 r1) ∧ Mem w0 (F) w' := by
  unfold impl_CountLive.f at h
  refine calls_of_J (n := 18) Try.func42 rfl rfl rfl hm ?_
  refine j_seq ?_
  refine j_region ?_
  refine r_do (a_box rfl rfl) rfl rfl (fun x1 => ?_)
  refine r_q (q_assign rfl rfl) rfl rfl ?_
  refine r_nil ?_
  refine j_then ?_
  refine j_seq ?_
  refine j_region ?_
  refine r_q (q_assign rfl rfl) rfl rfl ?_
  refine r_nil ?_
  refine j_then ?_
  refine j_seq ?_
  refine j_seq ?_
  refine j_region ?_
  refine r_q (q_loadb_agg 0 rfl ag27 sz27 rfl rfl rfl rfl) rfl rfl ?_
  obtain ⟨v1, hb1, h⟩ := of_b1 h
  refine r_do (a_call ok37 rfl rfl rfl rfl (fun w hm => impl_Reachable.calls K a0_0 a0_0_A a0_0_n a0_0_c a0_1 a0_1_A a0_1_n a0_1_c a0_2 a0_2_A a0_2_n a0_2_c hm a0_0_h (Rd.drop 1 a0_0_R) a0_1_h (Rd.drop 1 a0_1_R) a0_2_h (Rd.drop 1 a0_2_R) hb1)) rfl rfl (fun x2 => ?_)
  refine r_q (q_lenX v1 x2.h un52 rfl rfl rfl rfl rfl) rfl rfl ?_
  refine r_q (q_move rfl rfl) rfl rfl ?_
  refine r_nil ?_
  refine j_then ?_
  obtain ⟨κ0, h, hκ0⟩ := ex_k (g := fun κ => impl_CountLive.loop0 K κ v1 K (0:Int) (0:Int) = some r1) h
  refine j_cut (σ := Int) (fun s => [(3, (i6 s))]) (fun s => F) (fun s => κ0 s = some r1) ?_ ?_
  · refine j_block ?_
    refine j_loop (σ := Int × Int) (fun s => [(3, (i6 s.1)), (7, (.slice x2.A x2.n x2.c)), (8, (i6 (v1.length : Int))), (9, (i6 s.2))]) (fun s => .row x2.A x2.c 4 1 (bls v1) :: F) (fun m s => impl_CountLive.loop0 K κ0 v1 m s.1 s.2 = some r1) K ((0:Int), (0:Int)) h (fun a he => he.sub ⟨rfl, rfl, rfl, rfl, trivial⟩) (fun w h => h.pick 2 [0] rfl) ?_
    rintro m ⟨p3, p4⟩ h
    cases m with
    | zero => exact absurd h (by rw [impl_CountLive.loop0]; exact nofun)
    | succ m =>
      rw [impl_CountLive.loop0] at h
      show J _ _ [(3, (i6 p3)), (7, (.slice x2.A x2.n x2.c)), (8, (i6 (v1.length : Int))), (9, (i6 p4))] _ (.row x2.A x2.c 4 1 (bls v1) :: F)
      refine j_seq ?_
      refine j_region ?_
      refine r_q (q_lss rfl rfl rfl) rfl rfl ?_
      refine r_nil ?_
      refine j_then ?_
      refine j_seq ?_
      rcases of_if h with ⟨c10, h⟩ | ⟨c10, h⟩
      · refine j_true rfl (decide_eq_true c10) ?_
        refine j_skip ?_
        refine j_then ?_
        refine j_seq ?_
        refine j_block ?_
        refine j_seq ?_
        refine j_region ?_
        obtain ⟨c11, h⟩ := of_guard h
        refine r_q (q_ix (Rd.row 0 rfl) (bls_len1 v1) (by decide) x2.h c11 un52 sz4 rfl rfl rfl) rfl rfl ?_
        refine r_q (q_ldB (Rd.row 0 rfl) c11 ag4 rfl rfl) rfl rfl ?_
        refine r_q (q_assign rfl rfl) rfl rfl ?_
        refine r_nil ?_
        refine j_then ?_
        refine j_seq ?_
        refine j_region ?_
        refine r_q (q_move rfl rfl) rfl rfl ?_
        refine r_nil ?_
        refine j_then ?_
        rcases of_if h with ⟨c12, h⟩ | ⟨c12, h⟩
        · refine j_true rfl c12 ?_
          refine j_region ?_
          refine r_q (q_move rfl rfl) rfl rfl ?_
          refine r_q (q_add rfl rfl rfl) rfl rfl ?_
          refine r_q (q_assign rfl rfl) rfl rfl ?_
          refine r_nil ?_
          refine j_in ?_
          refine j_then ?_
          refine j_region ?_
          refine r_q (q_add rfl rfl rfl) rfl rfl ?_
          refine r_q (q_move rfl rfl) rfl rfl ?_
          refine r_nil ?_
          refine j_then ?_
          exact j_again m ((wrap64 (p3 + (1:Int))), (wrap64 (p4 + (1:Int)))) (Nat.lt_succ_self m) h (fun a he => he.sub ⟨rfl, rfl, rfl, rfl, trivial⟩) (fun w h => h)
        · refine j_false rfl (var_f c12) ?_
          refine j_skip ?_
          refine j_in ?_
          refine j_then ?_
          refine j_region ?_
          refine r_q (q_add rfl rfl rfl) rfl rfl ?_
          refine r_q (q_move rfl rfl) rfl rfl ?_
          refine r_nil ?_
          refine j_then ?_
          exact j_again m (p3, (wrap64 (p4 + (1:Int)))) (Nat.lt_succ_self m) h (fun a he => he.sub ⟨rfl, rfl, rfl, rfl, trivial⟩) (fun w h => h)
      · refine j_false rfl (decide_eq_false c10) ?_
        refine j_exit ?_
        refine j_then_exit ?_
        refine j_then_exit ?_
        refine j_in_exit ?_
        refine j_then ?_
        exact j_meet p3 h (fun a he => he.sub ⟨rfl, trivial⟩) (fun w h => h.tail)
  · rintro p5 h
    subst hκ0
    show J _ _ [(3, (i6 p5))] _ (F)
    refine j_then ?_
    refine j_seq ?_
    refine j_region ?_
    refine r_q (q_move rfl rfl) rfl rfl ?_
    refine r_q (q_assign rfl rfl) rfl rfl ?_
    refine r_nil ?_
    refine j_then ?_
    refine j_ret ?_
    cases h
    exact j_return rfl (ResOf.tmp rfl ResOf.nil) rfl (fun w h => ⟨(), rfl, h⟩)

theorem laws_FnLeakedOf.calls (K : Nat) (a0 : List Int) (a0_A : Option Addr) (a0_n a0_c : Nat) {w0 w : World} {F : List Res} {r1 : Bool} (hm : Mem w0 (F) w) (a0_h : a0.length = a0_n) (a0_R : Rd w0 F a0_A (ints .u8 a0)) (a0_k : a0.length ≤ a0_c) (h : laws_FnLeakedOf.f K a0 = some r1) :
    Calls Try.prog 9 (List.toArray [.slice a0_A a0_n a0_c]) w fun e w' => ∃ x : Unit, e = .returned (.bool r1) ∧ Mem w0 (F) w' := by
  unfold laws_FnLeakedOf.f at h
  refine calls_of_J (n := 59) Try.func9 rfl rfl rfl hm ?_
  refine j_seq ?_
  refine j_region ?_
  refine r_q (q_assign rfl rfl) rfl rfl ?_
  refine r_nil ?_
  refine j_then ?_
  refine j_seq ?_
  refine j_seq ?_
  refine j_region ?_
  refine r_q (q_move rfl rfl) rfl rfl ?_
  refine r_q (q_lenX a0 a0_h un22 rfl rfl rfl rfl rfl) rfl rfl ?_
  refine r_q (q_gtr rfl rfl rfl) rfl rfl ?_
  refine r_nil ?_
  refine j_then ?_
  rcases of_if h with ⟨c1, h⟩ | ⟨c1, h⟩
  · refine j_true rfl (decide_eq_true c1) ?_
    refine j_seq ?_
    refine j_region ?_
    refine r_q (q_assign rfl rfl) rfl rfl ?_
    refine r_nil ?_
    refine j_then ?_
    refine j_ret ?_
    refine j_then_ret ?_
    cases h
    exact j_return rfl (ResOf.tmp rfl ResOf.nil) rfl (fun w h => ⟨(), rfl, h⟩)
  · refine j_false rfl (decide_eq_false c1) ?_
    refine j_skip ?_
    refine j_then ?_
    refine j_seq ?_
    refine j_region ?_
    refine r_q (q_move rfl rfl) rfl rfl ?_
    obtain ⟨v1, v2, v3, v4, hb1, h⟩ := of_b4 h
    refine r_do (a_call ok40 rfl rfl rfl rfl (fun w hm => spec_DrawLeakedOf.calls K a0 a0_A a0_n a0_c hm a0_h a0_R a0_k hb1)) rfl rfl (fun x1 => ?_)
    refine r_do (a_alloc zr29 rfl) rfl rfl (fun x2 => ?_)
    refine r_do (a_storeb 0 rfl sz29 rfl rfl rfl rfl (Nat.le_of_ble_eq_true rfl) rfl) rfl rfl (fun _ => ?_)
    refine j_b0 [(.slice x1.1.A x1.1.n x1.1.c), (.slice x1.2.1.A x1.2.1.n x1.2.1.c), (.slice x1.2.2.1.A x1.2.2.1.n x1.2.2.1.c), (.slice x1.2.2.2.A x1.2.2.2.n x1.2.2.2.c)] rfl ?_
    refine r_nil ?_
    refine j_then ?_
    refine j_seq ?_
    refine j_region ?_
    refine r_q (q_loadb_agg 0 rfl ag29 sz29 rfl rfl rfl rfl) rfl rfl ?_
    obtain ⟨v5, hb2, h⟩ := of_b1 h
    refine r_do (a_call ok20 rfl rfl rfl rfl (fun w hm => impl_LeakedOf.calls K v1 x1.1.A x1.1.n x1.1.c v2 x1.2.1.A x1.2.1.n x1.2.1.c v3 x1.2.2.1.A x1.2.2.1.n x1.2.2.1.c v4 x1.2.2.2.A x1.2.2.2.n x1.2.2.2.c hm x1.1.h (Rd.row 1 rfl) x1.2.1.h (Rd.row 2 rfl) x1.2.2.1.h (Rd.row 3 rfl) x1.2.2.2.h (Rd.row 4 rfl) (hm.roomI 4 rfl) hb2)) rfl rfl (fun x3 => ?_)
    refine r_q (q_assign rfl rfl) rfl rfl ?_
    refine r_nil ?_
    refine j_then ?_
    refine j_seq ?_
    refine j_seq ?_
    refine j_region ?_
    refine r_q (q_move rfl rfl) rfl rfl ?_
    refine r_q (q_loadb_agg 1 rfl ag29 sz29 rfl rfl rfl rfl) rfl rfl ?_
    obtain ⟨v6, hb3, h⟩ := of_b1 h
    refine r_do (a_call ok30 rfl rfl rfl rfl (fun w hm => spec_LeakedOf.calls K v1 x1.1.A x1.1.n x1.1.c v2 x1.2.1.A x1.2.1.n x1.2.1.c v3 x1.2.2.1.A x1.2.2.1.n x1.2.2.1.c v4 x1.2.2.2.A x1.2.2.2.n x1.2.2.2.c hm x1.1.h (Rd.row 2 rfl) x1.2.1.h (Rd.row 3 rfl) x1.2.2.1.h (Rd.row 4 rfl) x1.2.2.2.h (Rd.row 5 rfl) (hm.roomI 5 rfl) hb3)) rfl rfl (fun x4 => ?_)
    obtain ⟨v7, hb4, h⟩ := of_b1 h
    refine r_do (a_call ok41 rfl rfl rfl rfl (fun w hm => laws_ccInts.calls K v5 x3.A x3.n x3.c v6 x4.A x4.n x4.c hm x3.h (Rd.row 1 rfl) x4.h (Rd.row 0 rfl) hb4)) rfl rfl (fun x5 => ?_)
    refine r_q (q_not rfl rfl) rfl rfl ?_
    refine r_q (q_move rfl rfl) rfl rfl ?_
    rcases of_if h with ⟨c2, h⟩ | ⟨c2, h⟩
    · refine r_qon (q_loadb_agg 2 rfl ag29 sz29 rfl rfl rfl rfl) rfl rfl rfl rfl (not_f c2) rfl ?_
      obtain ⟨v8, hb5, h⟩ := of_b1 h
      refine r_on (a_call ok22 rfl rfl rfl rfl (fun w hm => impl_StoreValid.calls K v1 x1.1.A x1.1.n x1.1.c v2 x1.2.1.A x1.2.1.n x1.2.1.c v3 x1.2.2.1.A x1.2.2.1.n x1.2.2.1.c v4 x1.2.2.2.A x1.2.2.2.n x1.2.2.2.c hm x1.1.h (Rd.row 3 rfl) x1.2.1.h (Rd.row 4 rfl) x1.2.2.1.h (Rd.row 5 rfl) x1.2.2.2.h (Rd.row 6 rfl) (hm.roomI 6 rfl) hb5)) rfl rfl rfl rfl (not_f c2) rfl (fun x6 => ?_)
      refine r_qon (q_not rfl rfl) rfl rfl rfl rfl (not_f c2) rfl ?_
      refine r_q (q_pick_f rfl rfl (not_f c2) rfl) rfl rfl ?_
      refine r_nil ?_
      refine j_then ?_
      rcases of_if h with ⟨c3, h⟩ | ⟨c3, h⟩
      · refine j_false rfl (not_f c3) ?_
        refine j_skip ?_
        refine j_then ?_
        refine j_seq ?_
        refine j_seq ?_
        refine j_region ?_
        refine r_q (q_assign rfl rfl) rfl rfl ?_
        refine r_nil ?_
        refine j_then ?_
        obtain ⟨κ0, h, hκ0⟩ := ex_k (g := fun κ => laws_FnLeakedOf.loop0 K κ v1 v2 v3 v4 v5 K (0:Int) = some r1) h
        refine j_cut (σ := Unit) (fun s => [(3, (pt x2)), (4, (.slice x3.A x3.n x3.c))]) (fun s => .box x2 29 [(.slice x1.1.A x1.1.n x1.1.c), (.slice x1.2.1.A x1.2.1.n x1.2.1.c), (.slice x1.2.2.1.A x1.2.2.1.n x1.2.2.1.c), (.slice x1.2.2.2.A x1.2.2.2.n x1.2.2.2.c)] :: .row x3.A x3.c 3 1 (ii v5) :: .row x1.1.A x1.1.c 3 1 (ii v1) :: .row x1.2.1.A x1.2.1.c 3 1 (ii v2) :: .row x1.2.2.1.A x1.2.2.1.c 3 1 (ii v3) :: .row x1.2.2.2.A x1.2.2.2.c 3 1 (ii v4) :: F) (fun s => κ0 () = some r1) ?_ ?_
        · refine j_block ?_
          refine j_loop (σ := Int) (fun s => [(3, (pt x2)), (4, (.slice x3.A x3.n x3.c)), (5, (i6 s))]) (fun s => .box x2 29 [(.slice x1.1.A x1.1.n x1.1.c), (.slice x1.2.1.A x1.2.1.n x1.2.1.c), (.slice x1.2.2.1.A x1.2.2.1.n x1.2.2.1.c), (.slice x1.2.2.2.A x1.2.2.2.n x1.2.2.2.c)] :: .row x3.A x3.c 3 1 (ii v5) :: .row x1.1.A x1.1.c 3 1 (ii v1) :: .row x1.2.1.A x1.2.1.c 3 1 (ii v2) :: .row x1.2.2.1.A x1.2.2.1.c 3 1 (ii v3) :: .row x1.2.2.2.A x1.2.2.2.c 3 1 (ii v4) :: F) (fun m s => laws_FnLeakedOf.loop0 K κ0 v1 v2 v3 v4 v5 m s = some r1) K (0:Int) h (fun a he => he.sub ⟨rfl, rfl, rfl, trivial⟩) (fun w h => h.pick 7 [2, 1, 3, 4, 5, 6] rfl) ?_
          rintro m p2 h
          cases m with
          | zero => exact absurd h (by rw [laws_FnLeakedOf.loop0]; exact nofun)
          | succ m =>
            rw [laws_FnLeakedOf.loop0] at h
            show J _ _ [(3, (pt x2)), (4, (.slice x3.A x3.n x3.c)), (5, (i6 p2))] _ (.box x2 29 [(.slice x1.1.A x1.1.n x1.1.c), (.slice x1.2.1.A x1.2.1.n x1.2.1.c), (.slice x1.2.2.1.A x1.2.2.1.n x1.2.2.1.c), (.slice x1.2.2.2.A x1.2.2.2.n x1.2.2.2.c)] :: .row x3.A x3.c 3 1 (ii v5) :: .row x1.1.A x1.1.c 3 1 (ii v1) :: .row x1.2.1.A x1.2.1.c 3 1 (ii v2) :: .row x1.2.2.1.A x1.2.2.1.c 3 1 (ii v3) :: .row x1.2.2.2.A x1.2.2.2.c 3 1 (ii v4) :: F)
            refine j_seq ?_
            refine j_seq ?_
            refine j_region ?_
            refine r_q (q_move rfl rfl) rfl rfl ?_
            refine r_q (q_move rfl rfl) rfl rfl ?_
            refine r_q (q_lenX v5 x3.h un25 rfl rfl rfl rfl rfl) rfl rfl ?_
            refine r_q (q_lss rfl rfl rfl) rfl rfl ?_
            refine r_nil ?_
            refine j_then ?_
            rcases of_if h with ⟨c13, h⟩ | ⟨c13, h⟩
            · refine j_true rfl (decide_eq_true c13) ?_
              refine j_skip ?_
              refine j_then ?_
              refine j_seq ?_
              refine j_block ?_
              refine j_seq ?_
              obtain ⟨c14, h⟩ := of_guard h
              obtain ⟨v12, hb9, h⟩ := of_b1 h
              refine j_draw (.box x2 29 [(.slice x1.1.A x1.1.n x1.1.c), (.slice x1.2.1.A x1.2.1.n x1.2.1.c), (.slice x1.2.2.1.A x1.2.2.1.n x1.2.2.1.c), (.slice x1.2.2.2.A x1.2.2.2.n x1.2.2.2.c)] :: .row x3.A x3.c 3 1 (ii v5) :: .row x1.1.A x1.1.c 3 1 (ii v1) :: .row x1.2.1.A x1.2.1.c 3 1 (ii v2) :: .row x1.2.2.1.A x1.2.2.1.c 3 1 (ii v3) :: .row x1.2.2.2.A x1.2.2.2.c 3 1 (ii v4) :: F) 6 follows_any rfl ?_
              refine d_take 0 rfl (q_loadb_agg 0 rfl ag29 sz29 rfl rfl rfl rfl) rfl rfl (by kernel_rfl) (by kernel_rfl) (by kernel_rfl) (fun w h => h) ?_
              refine d_take 1 rfl (q_move rfl rfl) rfl rfl (by kernel_rfl) (by kernel_rfl) (by kernel_rfl) (fun w h => h) ?_
              refine d_take 2 rfl (q_move rfl rfl) rfl rfl (by kernel_rfl) (by kernel_rfl) (by kernel_rfl) (fun w h => h) ?_
              refine d_take 3 rfl (q_ix (Rd.row 1 rfl) (ints_len1 _ v5) (by decide) x3.h c14 un25 sz3 rfl rfl rfl) rfl rfl (by kernel_rfl) (by kernel_rfl) (by kernel_rfl) (fun w h => h) ?_
              refine d_take 4 rfl (q_ldI (Rd.row 1 rfl) c14 ag3 rfl rfl) rfl rfl (by kernel_rfl) (by kernel_rfl) (by kernel_rfl) (fun w h => h) ?_
              refine d_one 5 (by kernel_rfl) ?_
              refine o_do rfl (a_call ok35 rfl rfl rfl rfl (fun w hm => impl_IsFree.calls K v1 x1.1.A x1.1.n x1.1.c v2 x1.2.1.A x1.2.1.n x1.2.1.c v3 x1.2.2.1.A x1.2.2.1.n x1.2.2.1.c v4 x1.2.2.2.A x1.2.2.2.n x1.2.2.2.c (rd v5 p2) hm x1.1.h (Rd.row 2 rfl) x1.2.1.h (Rd.row 3 rfl) x1.2.2.1.h (Rd.row 4 rfl) x1.2.2.2.h (Rd.row 5 rfl) (hm.roomI 5 rfl) hb9)) rfl rfl (fun x7 w h => h) (fun x7 => ?_)
              refine d_done (by kernel_rfl) ?_
              refine j_then ?_
              rcases of_if h with ⟨c15, h⟩ | ⟨c15, h⟩
              · refine j_true rfl c15 ?_
                refine j_seq ?_
                refine j_region ?_
                refine r_q (q_assign rfl rfl) rfl rfl ?_
                refine r_nil ?_
                refine j_then ?_
                refine j_ret ?_
                refine j_in_ret ?_
                refine j_then_ret ?_
                refine j_then_ret ?_
                refine j_in_ret ?_
                refine j_then_ret ?_
                refine j_then_ret ?_
                cases h
                exact j_return rfl (ResOf.tmp rfl ResOf.nil) rfl (fun w h => ⟨(), rfl, (h.drop 6)⟩)
              · refine j_false rfl (var_f c15) ?_
                refine j_skip ?_
                refine j_in ?_
                refine j_then ?_
                refine j_region ?_
                refine r_q (q_move rfl rfl) rfl rfl ?_
                refine r_q (q_add rfl rfl rfl) rfl rfl ?_
                refine r_q (q_assign rfl rfl) rfl rfl ?_
                refine r_nil ?_
                refine j_then ?_
                exact j_again m (wrap64 (p2 + (1:Int))) (Nat.lt_succ_self m) h (fun a he => he.sub ⟨rfl, rfl, rfl, trivial⟩) (fun w h => h)
            · refine j_false rfl (decide_eq_false c13) ?_
              refine j_exit ?_
              refine j_then_exit ?_
              refine j_then_exit ?_
              refine j_in_exit ?_
              refine j_then ?_
              exact j_meet () h (fun a he => he.sub ⟨rfl, rfl, trivial⟩) (fun w h => h)
        · rintro _ h
          subst hκ0
          show J _ _ [(3, (pt x2)), (4, (.slice x3.A x3.n x3.c))] _ (.box x2 29 [(.slice x1.1.A x1.1.n x1.1.c), (.slice x1.2.1.A x1.2.1.n x1.2.1.c), (.slice x1.2.2.1.A x1.2.2.1.n x1.2.2.1.c), (.slice x1.2.2.2.A x1.2.2.2.n x1.2.2.2.c)] :: .row x3.A x3.c 3 1 (ii v5) :: .row x1.1.A x1.1.c 3 1 (ii v1) :: .row x1.2.1.A x1.2.1.c 3 1 (ii v2) :: .row x1.2.2.1.A x1.2.2.1.c 3 1 (ii v3) :: .row x1.2.2.2.A x1.2.2.2.c 3 1 (ii v4) :: F)
          refine j_then ?_
          refine j_seq ?_
          obtain ⟨v13, hb10, h⟩ := of_b1 h
          refine j_draw (.box x2 29 [(.slice x1.1.A x1.1.n x1.1.c), (.slice x1.2.1.A x1.2.1.n x1.2.1.c), (.slice x1.2.2.1.A x1.2.2.1.n x1.2.2.1.c), (.slice x1.2.2.2.A x1.2.2.2.n x1.2.2.2.c)] :: .row x3.A x3.c 3 1 (ii v5) :: .row x1.1.A x1.1.c 3 1 (ii v1) :: .row x1.2.1.A x1.2.1.c 3 1 (ii v2) :: .row x1.2.2.1.A x1.2.2.1.c 3 1 (ii v3) :: .row x1.2.2.2.A x1.2.2.2.c 3 1 (ii v4) :: F) 16 follows_any rfl ?_
          refine d_take 0 rfl (q_move rfl rfl) rfl rfl (by kernel_rfl) (by kernel_rfl) (by kernel_rfl) (fun w h => h) ?_
          refine d_take 1 rfl (q_lenX v5 x3.h un25 rfl rfl rfl rfl rfl) rfl rfl (by kernel_rfl) (by kernel_rfl) (by kernel_rfl) (fun w h => h) ?_
          refine d_take 2 rfl (q_fieldAddr fi29_1 sz25 rfl rfl rfl) rfl rfl (by kernel_rfl) (by kernel_rfl) (by kernel_rfl) (fun w h => h) ?_
          refine d_take 3 rfl (q_loadb 0 rfl ag25 rfl rfl rfl) rfl rfl (by kernel_rfl) (by kernel_rfl) (by kernel_rfl) (fun w h => h) ?_
          refine d_take 4 rfl (q_lenX v4 x1.2.2.2.h un25 rfl rfl rfl rfl rfl) rfl rfl (by kernel_rfl) (by kernel_rfl) (by kernel_rfl) (fun w h => h) ?_
          refine d_take 5 rfl (q_add rfl rfl rfl) rfl rfl (by kernel_rfl) (by kernel_rfl) (by kernel_rfl) (fun w h => h) ?_
          refine d_take 6 rfl (q_fieldAddr fi29_0 sz27 rfl rfl rfl) rfl rfl (by kernel_rfl) (by kernel_rfl) (by kernel_rfl) (fun w h => h) ?_
          refine d_take 7 rfl (q_loadb_agg 0 rfl ag27 sz27 rfl rfl rfl rfl) rfl rfl (by kernel_rfl) (by kernel_rfl) (by kernel_rfl) (fun w h => h) ?_
          refine d_take 10 rfl (q_fieldAddr fi29_0 sz27 rfl rfl rfl) rfl rfl (by kernel_rfl) (by kernel_rfl) (by kernel_rfl) (fun w h => h) ?_
          refine d_take 11 rfl (q_fieldAddr fi27_0 sz25 rfl rfl rfl) rfl rfl (by kernel_rfl) (by kernel_rfl) (by kernel_rfl) (fun w h => h) ?_
          refine d_take 12 rfl (q_loadb 0 rfl ag25 rfl rfl rfl) rfl rfl (by kernel_rfl) (by kernel_rfl) (by kernel_rfl) (fun w h => h) ?_
          refine d_take 13 rfl (q_lenX v1 x1.1.h un25 rfl rfl rfl rfl rfl) rfl rfl (by kernel_rfl) (by kernel_rfl) (by kernel_rfl) (fun w h => h) ?_
          refine d_one 8 (by kernel_rfl) ?_
          refine o_do rfl (a_call ok42 rfl rfl rfl rfl (fun w hm => impl_CountLive.calls K v1 x1.1.A x1.1.n x1.1.c v2 x1.2.1.A x1.2.1.n x1.2.1.c v3 x1.2.2.1.A x1.2.2.1.n x1.2.2.1.c hm x1.1.h (Rd.row 2 rfl) x1.2.1.h (Rd.row 3 rfl) x1.2.2.1.h (Rd.row 4 rfl) hb10)) rfl rfl (fun x8 w h => h) (fun x8 => ?_)
          refine d_take 9 rfl (q_add rfl rfl rfl) rfl rfl (by kernel_rfl) (by kernel_rfl) (by kernel_rfl) (fun w h => h) ?_
          refine d_take 14 rfl (q_eql rfl rfl rfl) rfl rfl (by kernel_rfl) (by kernel_rfl) (by kernel_rfl) (fun w h => h) ?_
          refine d_take 15 rfl (q_assign rfl rfl) rfl rfl (by kernel_rfl) (by kernel_rfl) (by kernel_rfl) (fun w h => h) ?_
          refine d_done (by kernel_rfl) ?_
          refine j_then ?_
          refine j_ret ?_
          cases h
          exact j_return rfl (ResOf.tmp rfl ResOf.nil) rfl (fun w h => ⟨(), rfl, (h.drop 6)⟩)
      · refine j_true rfl (not_t (var_f c3)) ?_
        refine j_seq ?_
        refine j_region ?_
        refine r_q (q_move rfl rfl) rfl rfl ?_
        refine r_q (q_loadb_agg 2 rfl ag29 sz29 rfl rfl rfl rfl) rfl rfl ?_
        obtain ⟨v14, hb11, h⟩ := of_b1 h
        refine r_do (a_call ok30 rfl rfl rfl rfl (fun w hm => spec_LeakedOf.calls K v1 x1.1.A x1.1.n x1.1.c v2 x1.2.1.A x1.2.1.n x1.2.1.c v3 x1.2.2.1.A x1.2.2.1.n x1.2.2.1.c v4 x1.2.2.2.A x1.2.2.2.n x1.2.2.2.c hm x1.1.h (Rd.row 3 rfl) x1.2.1.h (Rd.row 4 rfl) x1.2.2.1.h (Rd.row 5 rfl) x1.2.2.2.h (Rd.row 6 rfl) (hm.roomI 6 rfl) hb11)) rfl rfl (fun x9 => ?_)
        obtain ⟨v15, hb12, h⟩ := of_b1 h
        refine r_do (a_call ok41 rfl rfl rfl rfl (fun w hm => laws_ccInts.calls K v5 x3.A x3.n x3.c v14 x9.A x9.n x9.c hm x3.h (Rd.row 2 rfl) x9.h (Rd.row 0 rfl) hb12)) rfl rfl (fun x10 => ?_)
        refine r_q (q_move rfl rfl) rfl rfl ?_
        rcases of_if h with ⟨c16, h⟩ | ⟨c16, h⟩
        · refine r_qon (q_move rfl rfl) rfl rfl rfl rfl c16 rfl ?_
          refine r_qon (q_lenX v5 x3.h un25 rfl rfl rfl rfl rfl) rfl rfl rfl rfl c16 rfl ?_
          refine r_qon (q_eql rfl rfl rfl) rfl rfl rfl rfl c16 rfl ?_
          refine r_q (q_pick_t rfl rfl c16 rfl) rfl rfl ?_
          refine r_q (q_assign rfl rfl) rfl rfl ?_
          refine r_nil ?_
          refine j_then ?_
          refine j_ret ?_
          refine j_then_ret ?_
          cases h
          exact j_return rfl (ResOf.tmp rfl ResOf.nil) rfl (fun w h => ⟨(), rfl, (h.drop 8)⟩)
        · refine r_off rfl rfl rfl rfl (var_f c16) rfl ?_
          refine r_off rfl rfl rfl rfl (var_f c16) rfl ?_
          refine r_off rfl rfl rfl rfl (var_f c16) rfl ?_
          refine r_q (q_pick_f rfl rfl (var_f c16) rfl) rfl rfl ?_
          refine r_q (q_assign rfl rfl) rfl rfl ?_
          refine r_nil ?_
          refine j_then ?_
          refine j_ret ?_
          refine j_then_ret ?_
          cases h
          exact j_return rfl (ResOf.tmp rfl ResOf.nil) rfl (fun w h => ⟨(), rfl, (h.drop 8)⟩)
    · refine r_off rfl rfl rfl rfl (not_t (var_f c2)) rfl ?_
      refine r_off rfl rfl rfl rfl (not_t (var_f c2)) rfl ?_
      refine r_off rfl rfl rfl rfl (not_t (var_f c2)) rfl ?_
      refine r_q (q_pick_t rfl rfl (not_t (var_f c2)) rfl) rfl rfl ?_
      refine r_nil ?_
      refine j_then ?_
      refine j_true rfl rfl ?_
      refine j_seq ?_
      refine j_region ?_
      refine r_q (q_move rfl rfl) rfl rfl ?_
      refine r_q (q_loadb_agg 2 rfl ag29 sz29 rfl rfl rfl rfl) rfl rfl ?_
      obtain ⟨v16, hb13, h⟩ := of_b1 h
      refine r_do (a_call ok30 rfl rfl rfl rfl (fun w hm => spec_LeakedOf.calls K v1 x1.1.A x1.1.n x1.1.c v2 x1.2.1.A x1.2.1.n x1.2.1.c v3 x1.2.2.1.A x1.2.2.1.n x1.2.2.1.c v4 x1.2.2.2.A x1.2.2.2.n x1.2.2.2.c hm x1.1.h (Rd.row 3 rfl) x1.2.1.h (Rd.row 4 rfl) x1.2.2.1.h (Rd.row 5 rfl) x1.2.2.2.h (Rd.row 6 rfl) (hm.roomI 6 rfl) hb13)) rfl rfl (fun x9 => ?_)
      obtain ⟨v17, hb14, h⟩ := of_b1 h
      refine r_do (a_call ok41 rfl rfl rfl rfl (fun w hm => laws_ccInts.calls K v5 x3.A x3.n x3.c v16 x9.A x9.n x9.c hm x3.h (Rd.row 2 rfl) x9.h (Rd.row 0 rfl) hb14)) rfl rfl (fun x10 => ?_)
      refine r_q (q_move rfl rfl) rfl rfl ?_
      rcases of_if h with ⟨c17, h⟩ | ⟨c17, h⟩
      · refine r_qon (q_move rfl rfl) rfl rfl rfl rfl c17 rfl ?_
        refine r_qon (q_lenX v5 x3.h un25 rfl rfl rfl rfl rfl) rfl rfl rfl rfl c17 rfl ?_
        refine r_qon (q_eql rfl rfl rfl) rfl rfl rfl rfl c17 rfl ?_
        refine r_q (q_pick_t rfl rfl c17 rfl) rfl rfl ?_
        refine r_q (q_assign rfl rfl) rfl rfl ?_
        refine r_nil ?_
        refine j_then ?_
        refine j_ret ?_
        refine j_then_ret ?_
        cases h
        exact j_return rfl (ResOf.tmp rfl ResOf.nil) rfl (fun w h => ⟨(), rfl, (h.drop 8)⟩)
      · refine r_off rfl rfl rfl rfl (var_f c17) rfl ?_
        refine r_off rfl rfl rfl rfl (var_f c17) rfl ?_
        refine r_off rfl rfl rfl rfl (var_f c17) rfl ?_
        refine r_q (q_pick_f rfl rfl (var_f c17) rfl) rfl rfl ?_
        refine r_q (q_assign rfl rfl) rfl rfl ?_
        refine r_nil ?_
        refine j_then ?_
        refine j_ret ?_
        refine j_then_ret ?_
        cases h
        exact j_return rfl (ResOf.tmp rfl ResOf.nil) rfl (fun w h => ⟨(), rfl, (h.drop 8)⟩)

end Go.Proofs.Ytigidjhdcplplaa.F
