/- The program computes these pure functions, printed by the generator of wip/gen. -/
import Derived.Test.YtigidjhdcplplaaFa
import Derived.Test.YtigidjhdcplplaaFg
import Derived.Test.YtigidjhdcplplaaFb
import Derived.Test.YtigidjhdcplplaaC0
import Derived.Test.YtigidjhdcplplaaC1
import Derived.Test.YtigidjhdcplplaaC2
import Derived.Test.YtigidjhdcplplaaC3
import Derived.Test.YtigidjhdcplplaaC4
import Derived.Test.YtigidjhdcplplaaC6
import Derived.Test.YtigidjhdcplplaaC7
import Derived.Test.YtigidjhdcplplaaC8
import Derived.Test.YtigidjhdcplplaaC9
import Derived.Test.YtigidjhdcplplaaC10
import Derived.Test.YtigidjhdcplplaaC11
import Derived.Test.YtigidjhdcplplaaC16
namespace Go.Proofs.Ytigidjhdcplplaa.F
open Go Go.RowKit Go.Proofs.Ytigidjhdcplplaa.S
set_option linter.unusedVariables false
set_option maxRecDepth 100000
theorem spec_DrawIsFree.calls (K : Nat) (a0 : List Int) (a0_A : Option Addr) (a0_n a0_c : Nat) {w0 w : World} {F : List Res} {r1 : List Int} {r2 : List Int} {r3 : List Int} {r4 : List Int} {r5 : Int} (hm : Mem w0 (F) w) (a0_h : a0.length = a0_n) (a0_R : Rd w0 F a0_A (ints .u8 a0)) (a0_k : a0.length ≤ a0_c) (h : spec_DrawIsFree.f K a0 = some (r1, r2, r3, r4, r5)) :
    Calls Try.prog 34 (List.toArray [.slice a0_A a0_n a0_c]) w fun e w' => ∃ x : (Sl r1.length) × (Sl r2.length) × (Sl r3.length) × (Sl r4.length), e = .returned (.tuple (List.toArray [.agg (List.toArray [.slice x.1.A x.1.n x.1.c, .slice x.2.1.A x.2.1.n x.2.1.c, .slice x.2.2.1.A x.2.2.1.n x.2.2.1.c, .slice x.2.2.2.A x.2.2.2.n x.2.2.2.c]), i6 r5])) ∧ Mem w0 (.row x.1.A x.1.c 3 1 (ii r1) :: .row x.2.1.A x.2.1.c 3 1 (ii r2) :: .row x.2.2.1.A x.2.2.1.c 3 1 (ii r3) :: .row x.2.2.2.A x.2.2.2.c 3 1 (ii r4) :: F) w' := by
  unfold spec_DrawIsFree.f at h
  refine calls_of_J (n := 8) Try.func34 rfl rfl rfl hm ?_
  refine j_seq ?_
  refine j_region ?_
  refine r_do (a_alloc zr29 rfl) rfl rfl (fun x1 => ?_)
  refine r_q (q_assign rfl rfl) rfl rfl ?_
  refine r_nil ?_
  refine j_then ?_
  refine j_seq ?_
  refine j_region ?_
  refine r_q (q_move rfl rfl) rfl rfl ?_
  obtain ⟨v1, v2, v3, v4, v5, hb1, h⟩ := of_b5 h
  refine r_do (a_call ok75 rfl rfl rfl rfl (fun w hm => spec_l4Case.calls K a0 a0_A a0_n a0_c hm a0_h (Rd.drop 1 a0_R) a0_k hb1)) rfl rfl (fun x2 => ?_)
  refine r_q (q_extract rfl rfl rfl) rfl rfl ?_
  refine r_q (q_extract rfl rfl rfl) rfl rfl ?_
  refine r_do (a_storeb 4 rfl sz29 rfl rfl rfl rfl (Nat.le_of_ble_eq_true rfl) rfl) rfl rfl (fun _ => ?_)
  refine j_b4 [(.slice x2.1.A x2.1.n x2.1.c), (.slice x2.2.1.A x2.2.1.n x2.2.1.c), (.slice x2.2.2.1.A x2.2.2.1.n x2.2.2.1.c), (.slice x2.2.2.2.A x2.2.2.2.n x2.2.2.2.c)] rfl ?_
  refine r_q (q_assign rfl rfl) rfl rfl ?_
  refine r_nil ?_
  refine j_then ?_
  refine j_ret ?_
  cases h
  exact j_return rfl (ResOf.cell 4 rfl rfl ag29 sz29 (ResOf.tmp rfl ResOf.nil)) rfl (fun w h => ⟨(⟨x2.1.A, x2.1.n, x2.1.c, x2.1.h⟩, ⟨x2.2.1.A, x2.2.1.n, x2.2.1.c, x2.2.1.h⟩, ⟨x2.2.2.1.A, x2.2.2.1.n, x2.2.2.1.c, x2.2.2.1.h⟩, ⟨x2.2.2.2.A, x2.2.2.2.n, x2.2.2.2.c, x2.2.2.2.h⟩), rfl, h.pick 5 [0, 1, 2, 3] rfl⟩)

theorem spec_IsFree.calls (K : Nat) (a0_0 : List Int) (a0_0_A : Option Addr) (a0_0_n a0_0_c : Nat) (a0_1 : List Int) (a0_1_A : Option Addr) (a0_1_n a0_1_c : Nat) (a0_2 : List Int) (a0_2_A : Option Addr) (a0_2_n a0_2_c : Nat) (a0_3 : List Int) (a0_3_A : Option Addr) (a0_3_n a0_3_c : Nat) (a1 : Int) {w0 w : World} {F : List Res} {r1 : Bool} (hm : Mem w0 (F) w) (a0_0_h : a0_0.length = a0_0_n) (a0_0_R : Rd w0 F a0_0_A (ii a0_0)) (a0_1_h : a0_1.length = a0_1_n) (a0_1_R : Rd w0 F a0_1_A (ii a0_1)) (a0_2_h : a0_2.length = a0_2_n) (a0_2_R : Rd w0 F a0_2_A (ii a0_2)) (a0_3_h : a0_3.length = a0_3_n) (a0_3_R : Rd w0 F a0_3_A (ii a0_3)) (a0_3_k : a0_3.length ≤ a0_3_c) (h : spec_IsFree.f K a0_0 a0_1 a0_2 a0_3 a1 = some r1) :
    Calls Try.prog 36 (List.toArray [.agg (List.toArray [.slice a0_0_A a0_0_n a0_0_c, .slice a0_1_A a0_1_n a0_1_c, .slice a0_2_A a0_2_n a0_2_c, .slice a0_3_A a0_3_n a0_3_c]), i6 a1]) w fun e w' => ∃ x : Unit, e = .returned (.bool r1) ∧ Mem w0 (F) w' := by
  unfold spec_IsFree.f at h
  refine calls_of_J (n := 14) Try.func36 rfl rfl rfl hm ?_
  refine j_seq ?_
  refine j_region ?_
  refine r_do (a_box rfl rfl) rfl rfl (fun x1 => ?_)
  refine r_q (q_assign rfl rfl) rfl rfl ?_
  refine r_nil ?_
  refine j_then ?_
  refine j_seq ?_
  refine j_region ?_
  refine r_q (q_loadb_agg 0 rfl ag29 sz29 rfl rfl rfl rfl) rfl rfl ?_
  obtain ⟨v1, hb1, h⟩ := of_b1 h
  refine r_do (a_call ok23 rfl rfl rfl rfl (fun w hm => spec_StoreValid.calls K a0_0 a0_0_A a0_0_n a0_0_c a0_1 a0_1_A a0_1_n a0_1_c a0_2 a0_2_A a0_2_n a0_2_c a0_3 a0_3_A a0_3_n a0_3_c hm a0_0_h (Rd.drop 1 a0_0_R) a0_1_h (Rd.drop 1 a0_1_R) a0_2_h (Rd.drop 1 a0_2_R) a0_3_h (Rd.drop 1 a0_3_R) a0_3_k hb1)) rfl rfl (fun x2 => ?_)
  refine r_q (q_move rfl rfl) rfl rfl ?_
  rcases of_if h with ⟨c1, h⟩ | ⟨c1, h⟩
  · refine r_qon (q_fieldAddr fi29_1 sz25 rfl rfl rfl) rfl rfl rfl rfl c1 rfl ?_
    refine r_qon (q_loadb 0 rfl ag25 rfl rfl rfl) rfl rfl rfl rfl c1 rfl ?_
    refine r_qon (q_move rfl rfl) rfl rfl rfl rfl c1 rfl ?_
    obtain ⟨v2, hb2, h⟩ := of_b1 h
    refine r_on (a_call ok65 rfl rfl rfl rfl (fun w hm => spec_l4At.calls K a0_3 a0_3_A a0_3_n a0_3_c a1 hm a0_3_h (Rd.drop 1 a0_3_R) hb2)) rfl rfl rfl rfl c1 rfl (fun x3 => ?_)
    refine r_qon (q_geq rfl rfl rfl) rfl rfl rfl rfl c1 rfl ?_
    refine r_q (q_pick_t rfl rfl c1 rfl) rfl rfl ?_
    refine r_q (q_assign rfl rfl) rfl rfl ?_
    refine r_nil ?_
    refine j_then ?_
    refine j_ret ?_
    cases h
    exact j_return rfl (ResOf.tmp rfl ResOf.nil) rfl (fun w h => ⟨(), rfl, h.tail⟩)
  · refine r_off rfl rfl rfl rfl (var_f c1) rfl ?_
    refine r_off rfl rfl rfl rfl (var_f c1) rfl ?_
    refine r_off rfl rfl rfl rfl (var_f c1) rfl ?_
    refine r_off rfl rfl rfl rfl (var_f c1) rfl ?_
    refine r_off rfl rfl rfl rfl (var_f c1) rfl ?_
    refine r_q (q_pick_f rfl rfl (var_f c1) rfl) rfl rfl ?_
    refine r_q (q_assign rfl rfl) rfl rfl ?_
    refine r_nil ?_
    refine j_then ?_
    refine j_ret ?_
    cases h
    exact j_return rfl (ResOf.tmp rfl ResOf.nil) rfl (fun w h => ⟨(), rfl, h.tail⟩)

theorem impl_has.calls (K : Nat) (a0_0 : List Int) (a0_0_A : Option Addr) (a0_0_n a0_0_c : Nat) (a0_1 : List Int) (a0_1_A : Option Addr) (a0_1_n a0_1_c : Nat) (a0_2 : List Int) (a0_2_A : Option Addr) (a0_2_n a0_2_c : Nat) (a1 : Int) {w0 w : World} {F : List Res} {r1 : Bool} (hm : Mem w0 (F) w) (a0_0_h : a0_0.length = a0_0_n) (a0_0_R : Rd w0 F a0_0_A (ii a0_0)) (a0_1_h : a0_1.length = a0_1_n) (a0_1_R : Rd w0 F a0_1_A (ii a0_1)) (a0_2_h : a0_2.length = a0_2_n) (a0_2_R : Rd w0 F a0_2_A (ii a0_2)) (h : impl_has.f K a0_0 a0_1 a0_2 a1 = some r1) :
    Calls Try.prog 77 (List.toArray [.agg (List.toArray [.slice a0_0_A a0_0_n a0_0_c, .slice a0_1_A a0_1_n a0_1_c, .slice a0_2_A a0_2_n a0_2_c]), i6 a1]) w fun e w' => ∃ x : Unit, e = .returned (.bool r1) ∧ Mem w0 (F) w' := by
  unfold impl_has.f at h
  refine calls_of_J (n := 18) Try.func77 rfl rfl rfl hm ?_
  refine j_seq ?_
  refine j_region ?_
  refine r_do (a_box rfl rfl) rfl rfl (fun x1 => ?_)
  refine r_q (q_assign rfl rfl) rfl rfl ?_
  refine r_nil ?_
  refine j_then ?_
  refine j_seq ?_
  refine j_region ?_
  refine r_q (q_loadb_agg 0 rfl ag27 sz27 rfl rfl rfl rfl) rfl rfl ?_
  obtain ⟨v1, hb1, h⟩ := of_b1 h
  refine r_do (a_call ok61 rfl rfl rfl rfl (fun w hm => impl_HeapValid.calls K a0_0 a0_0_A a0_0_n a0_0_c a0_1 a0_1_A a0_1_n a0_1_c a0_2 a0_2_A a0_2_n a0_2_c hm a0_0_h (Rd.drop 1 a0_0_R) a0_1_h (Rd.drop 1 a0_1_R) a0_2_h (Rd.drop 1 a0_2_R) hb1)) rfl rfl (fun x2 => ?_)
  refine r_q (q_move rfl rfl) rfl rfl ?_
  rcases of_if h with ⟨c1, h⟩ | ⟨c1, h⟩
  · refine r_qon (q_move rfl rfl) rfl rfl rfl rfl c1 rfl ?_
    refine r_qon (q_geq rfl rfl rfl) rfl rfl rfl rfl c1 rfl ?_
    refine r_q (q_pick_t rfl rfl c1 rfl) rfl rfl ?_
    refine r_q (q_move rfl rfl) rfl rfl ?_
    rcases of_if h with ⟨c2, h⟩ | ⟨c2, h⟩
    · refine r_qon (q_move rfl rfl) rfl rfl rfl rfl (decide_eq_true c2) rfl ?_
      refine r_qon (q_fieldAddr fi27_0 sz25 rfl rfl rfl) rfl rfl rfl rfl (decide_eq_true c2) rfl ?_
      refine r_qon (q_loadb 0 rfl ag25 rfl rfl rfl) rfl rfl rfl rfl (decide_eq_true c2) rfl ?_
      refine r_qon (q_lenX a0_0 a0_0_h un25 rfl rfl rfl rfl rfl) rfl rfl rfl rfl (decide_eq_true c2) rfl ?_
      refine r_qon (q_lss rfl rfl rfl) rfl rfl rfl rfl (decide_eq_true c2) rfl ?_
      refine r_q (q_pick_t rfl rfl (decide_eq_true c2) rfl) rfl rfl ?_
      refine r_q (q_assign rfl rfl) rfl rfl ?_
      refine r_nil ?_
      refine j_then ?_
      refine j_ret ?_
      cases h
      exact j_return rfl (ResOf.tmp rfl ResOf.nil) rfl (fun w h => ⟨(), rfl, h.tail⟩)
    · refine r_off rfl rfl rfl rfl (decide_eq_false c2) rfl ?_
      refine r_off rfl rfl rfl rfl (decide_eq_false c2) rfl ?_
      refine r_off rfl rfl rfl rfl (decide_eq_false c2) rfl ?_
      refine r_off rfl rfl rfl rfl (decide_eq_false c2) rfl ?_
      refine r_off rfl rfl rfl rfl (decide_eq_false c2) rfl ?_
      refine r_q (q_pick_f rfl rfl (decide_eq_false c2) rfl) rfl rfl ?_
      refine r_q (q_assign rfl rfl) rfl rfl ?_
      refine r_nil ?_
      refine j_then ?_
      refine j_ret ?_
      cases h
      exact j_return rfl (ResOf.tmp rfl ResOf.nil) rfl (fun w h => ⟨(), rfl, h.tail⟩)
  · refine r_off rfl rfl rfl rfl (var_f c1) rfl ?_
    refine r_off rfl rfl rfl rfl (var_f c1) rfl ?_
    refine r_q (q_pick_f rfl rfl (var_f c1) rfl) rfl rfl ?_
    refine r_q (q_move rfl rfl) rfl rfl ?_
    refine r_off rfl rfl rfl rfl rfl rfl ?_
    refine r_off rfl rfl rfl rfl rfl rfl ?_
    refine r_off rfl rfl rfl rfl rfl rfl ?_
    refine r_off rfl rfl rfl rfl rfl rfl ?_
    refine r_off rfl rfl rfl rfl rfl rfl ?_
    refine r_q (q_pick_f rfl rfl rfl rfl) rfl rfl ?_
    refine r_q (q_assign rfl rfl) rfl rfl ?_
    refine r_nil ?_
    refine j_then ?_
    refine j_ret ?_
    cases h
    exact j_return rfl (ResOf.tmp rfl ResOf.nil) rfl (fun w h => ⟨(), rfl, h.tail⟩)

theorem impl_SourcesOf.calls (K : Nat) (a0_0 : List Int) (a0_0_A : Option Addr) (a0_0_n a0_0_c : Nat) (a0_1 : List Int) (a0_1_A : Option Addr) (a0_1_n a0_1_c : Nat) (a0_2 : List Int) (a0_2_A : Option Addr) (a0_2_n a0_2_c : Nat) (a1 : Int) {w0 w : World} {F : List Res} {r1 : List Int} (hm : Mem w0 (F) w) (a0_0_h : a0_0.length = a0_0_n) (a0_0_R : Rd w0 F a0_0_A (ii a0_0)) (a0_1_h : a0_1.length = a0_1_n) (a0_1_R : Rd w0 F a0_1_A (ii a0_1)) (a0_2_h : a0_2.length = a0_2_n) (a0_2_R : Rd w0 F a0_2_A (ii a0_2)) (h : impl_SourcesOf.f K a0_0 a0_1 a0_2 a1 = some r1) :
    Calls Try.prog 38 (List.toArray [.agg (List.toArray [.slice a0_0_A a0_0_n a0_0_c, .slice a0_1_A a0_1_n a0_1_c, .slice a0_2_A a0_2_n a0_2_c]), i6 a1]) w fun e w' => ∃ x : (Sl r1.length), e = .returned (.slice x.A x.n x.c) ∧ Mem w0 (.row x.A x.c 3 1 (ii r1) :: F) w' := by
  unfold impl_SourcesOf.f at h
  refine calls_of_J (n := 40) Try.func38 rfl rfl rfl hm ?_
  refine j_seq ?_
  refine j_region ?_
  refine r_do (a_box rfl rfl) rfl rfl (fun x1 => ?_)
  refine r_q (q_assign rfl rfl) rfl rfl ?_
  refine r_nil ?_
  refine j_then ?_
  refine j_seq ?_
  refine j_seq ?_
  refine j_region ?_
  refine r_q (q_loadb_agg 0 rfl ag27 sz27 rfl rfl rfl rfl) rfl rfl ?_
  refine r_q (q_move rfl rfl) rfl rfl ?_
  obtain ⟨v1, hb1, h⟩ := of_b1 h
  refine r_do (a_call ok77 rfl rfl rfl rfl (fun w hm => impl_has.calls K a0_0 a0_0_A a0_0_n a0_0_c a0_1 a0_1_A a0_1_n a0_1_c a0_2 a0_2_A a0_2_n a0_2_c a1 hm a0_0_h (Rd.drop 1 a0_0_R) a0_1_h (Rd.drop 1 a0_1_R) a0_2_h (Rd.drop 1 a0_2_R) hb1)) rfl rfl (fun x2 => ?_)
  refine r_q (q_not rfl rfl) rfl rfl ?_
  refine r_nil ?_
  refine j_then ?_
  rcases of_if h with ⟨c1, h⟩ | ⟨c1, h⟩
  · refine j_false rfl (not_f c1) ?_
    refine j_skip ?_
    refine j_then ?_
    refine j_seq ?_
    refine j_region ?_
    refine r_do (a_litX (vs := []) (ii ([] : List Int)) un25 sz3 zr3 rfl rfl rfl rfl rfl rfl rfl rfl rfl) rfl rfl (fun x3 => ?_)
    refine r_q (q_assign rfl rfl) rfl rfl ?_
    refine r_nil ?_
    refine j_then ?_
    refine j_seq ?_
    refine j_seq ?_
    refine j_region ?_
    refine r_q (q_fieldAddr fi27_0 sz25 rfl rfl rfl) rfl rfl ?_
    refine r_q (q_loadb 1 rfl ag25 rfl rfl rfl) rfl rfl ?_
    refine r_q (q_lenX a0_0 a0_0_h un25 rfl rfl rfl rfl rfl) rfl rfl ?_
    refine r_q (q_move rfl rfl) rfl rfl ?_
    refine r_nil ?_
    refine j_then ?_
    obtain ⟨κ0, h, hκ0⟩ := ex_k (g := fun κ => impl_SourcesOf.loop0 K κ a0_0 a0_1 a1 K ([] : List Int) (0:Int) = some r1) h
    refine j_cut (σ := (Option Addr) × Nat × Nat × (List Int)) (fun s => [(5, (.slice s.1 s.2.1 s.2.2.1))]) (fun s => .row s.1 s.2.2.1 3 1 (ii s.2.2.2) :: F) (fun s => κ0 s.2.2.2 = some r1 ∧ (s.2.2.2.length = s.2.1)) ?_ ?_
    · refine j_block ?_
      refine j_loop (σ := (Option Addr) × Nat × Nat × (List Int) × Int) (fun s => [(1, (i6 a1)), (2, (pt x1)), (5, (.slice s.1 s.2.1 s.2.2.1)), (14, (i6 (a0_0.length : Int))), (15, (i6 s.2.2.2.2))]) (fun s => .box x1 27 [(.slice a0_0_A a0_0_n a0_0_c), (.slice a0_1_A a0_1_n a0_1_c), (.slice a0_2_A a0_2_n a0_2_c)] :: .row s.1 s.2.2.1 3 1 (ii s.2.2.2.1) :: F) (fun m s => impl_SourcesOf.loop0 K κ0 a0_0 a0_1 a1 m s.2.2.2.1 s.2.2.2.2 = some r1 ∧ (s.2.2.2.1.length = s.2.1)) K (x3, 0, 0, ([] : List Int), (0:Int)) ⟨h, rfl⟩ (fun a he => he.sub ⟨rfl, rfl, rfl, rfl, rfl, trivial⟩) (fun w h => h.pick 2 [1, 0] rfl) ?_
      rintro m ⟨A2, n2, d2, l2, p2⟩ ⟨h, q2⟩
      cases m with
      | zero => exact absurd h (by rw [impl_SourcesOf.loop0]; exact nofun)
      | succ m =>
        rw [impl_SourcesOf.loop0] at h
        show J _ _ [(1, (i6 a1)), (2, (pt x1)), (5, (.slice A2 n2 d2)), (14, (i6 (a0_0.length : Int))), (15, (i6 p2))] _ (.box x1 27 [(.slice a0_0_A a0_0_n a0_0_c), (.slice a0_1_A a0_1_n a0_1_c), (.slice a0_2_A a0_2_n a0_2_c)] :: .row A2 d2 3 1 (ii l2) :: F)
        refine j_seq ?_
        refine j_region ?_
        refine r_q (q_lss rfl rfl rfl) rfl rfl ?_
        refine r_nil ?_
        refine j_then ?_
        refine j_seq ?_
        rcases of_if h with ⟨c23, h⟩ | ⟨c23, h⟩
        · refine j_true rfl (decide_eq_true c23) ?_
          refine j_skip ?_
          refine j_then ?_
          refine j_seq ?_
          refine j_block ?_
          refine j_seq ?_
          refine j_region ?_
          refine r_q (q_move rfl rfl) rfl rfl ?_
          refine r_q (q_assign rfl rfl) rfl rfl ?_
          refine r_nil ?_
          refine j_then ?_
          refine j_seq ?_
          refine j_region ?_
          refine r_q (q_fieldAddr fi27_0 sz25 rfl rfl rfl) rfl rfl ?_
          refine r_q (q_loadb 0 rfl ag25 rfl rfl rfl) rfl rfl ?_
          refine r_q (q_move rfl rfl) rfl rfl ?_
          obtain ⟨c24, h⟩ := of_guard h
          refine r_q (q_ix (Rd.drop 2 a0_0_R) (ints_len1 _ a0_0) (by decide) a0_0_h c24 un25 sz3 rfl rfl rfl) rfl rfl ?_
          refine r_q (q_ldI (Rd.drop 2 a0_0_R) c24 ag3 rfl rfl) rfl rfl ?_
          refine r_q (q_move rfl rfl) rfl rfl ?_
          refine r_q (q_eql rfl rfl rfl) rfl rfl ?_
          refine r_q (q_move rfl rfl) rfl rfl ?_
          rcases of_if h with ⟨c25, h⟩ | ⟨c25, h⟩
          · refine r_off rfl rfl rfl rfl (beq_t c25) rfl ?_
            refine r_off rfl rfl rfl rfl (beq_t c25) rfl ?_
            refine r_off rfl rfl rfl rfl (beq_t c25) rfl ?_
            refine r_off rfl rfl rfl rfl (beq_t c25) rfl ?_
            refine r_off rfl rfl rfl rfl (beq_t c25) rfl ?_
            refine r_off rfl rfl rfl rfl (beq_t c25) rfl ?_
            refine r_off rfl rfl rfl rfl (beq_t c25) rfl ?_
            refine r_q (q_pick_t rfl rfl (beq_t c25) rfl) rfl rfl ?_
            refine r_nil ?_
            refine j_then ?_
            refine j_true rfl rfl ?_
            refine j_region ?_
            refine r_q (q_move rfl rfl) rfl rfl ?_
            refine r_q (q_move rfl rfl) rfl rfl ?_
            refine r_do (a_litX (vs := [(i6 p2)]) (ii ([p2] : List Int)) un25 sz3 zr3 rfl rfl rfl rfl rfl rfl rfl rfl rfl) rfl rfl (fun x4 => ?_)
            obtain ⟨c26, h⟩ := of_guard h
            refine r_do (a_appI (xs := l2) (ys := ([p2] : List Int)) 2 un25 un25 sz3 by3 zr3 rfl rfl rfl rfl rfl rfl rfl rfl rfl q2 rfl (Rd.row 0 rfl) c26) rfl rfl (fun x5 => ?_)
            refine j_s2 ?_
            refine r_q (q_assign rfl rfl) rfl rfl ?_
            refine r_nil ?_
            refine j_in ?_
            refine j_then ?_
            refine j_region ?_
            refine r_q (q_add rfl rfl rfl) rfl rfl ?_
            refine r_q (q_move rfl rfl) rfl rfl ?_
            refine r_nil ?_
            refine j_then ?_
            exact j_again m (x5.1, (n2 + 1), x5.2, (l2 ++ ([p2] : List Int)), (wrap64 (p2 + (1:Int)))) (Nat.lt_succ_self m) ⟨h, (app_len q2 rfl)⟩ (fun a he => he.sub ⟨rfl, rfl, rfl, rfl, rfl, trivial⟩) (fun w h => h.tail)
          · refine r_qon (q_fieldAddr fi27_1 sz25 rfl rfl rfl) rfl rfl rfl rfl (beq_f c25) rfl ?_
            refine r_qon (q_loadb 0 rfl ag25 rfl rfl rfl) rfl rfl rfl rfl (beq_f c25) rfl ?_
            refine r_qon (q_move rfl rfl) rfl rfl rfl rfl (beq_f c25) rfl ?_
            obtain ⟨c27, h⟩ := of_guard h
            refine r_qon (q_ix (Rd.drop 2 a0_1_R) (ints_len1 _ a0_1) (by decide) a0_1_h c27 un25 sz3 rfl rfl rfl) rfl rfl rfl rfl (beq_f c25) rfl ?_
            refine r_qon (q_ldI (Rd.drop 2 a0_1_R) c27 ag3 rfl rfl) rfl rfl rfl rfl (beq_f c25) rfl ?_
            refine r_qon (q_move rfl rfl) rfl rfl rfl rfl (beq_f c25) rfl ?_
            refine r_qon (q_eql rfl rfl rfl) rfl rfl rfl rfl (beq_f c25) rfl ?_
            refine r_q (q_pick_f rfl rfl (beq_f c25) rfl) rfl rfl ?_
            refine r_nil ?_
            refine j_then ?_
            rcases of_if h with ⟨c28, h⟩ | ⟨c28, h⟩
            · refine j_true rfl (beq_t c28) ?_
              refine j_region ?_
              refine r_q (q_move rfl rfl) rfl rfl ?_
              refine r_q (q_move rfl rfl) rfl rfl ?_
              refine r_do (a_litX (vs := [(i6 p2)]) (ii ([p2] : List Int)) un25 sz3 zr3 rfl rfl rfl rfl rfl rfl rfl rfl rfl) rfl rfl (fun x4 => ?_)
              obtain ⟨c29, h⟩ := of_guard h
              refine r_do (a_appI (xs := l2) (ys := ([p2] : List Int)) 2 un25 un25 sz3 by3 zr3 rfl rfl rfl rfl rfl rfl rfl rfl rfl q2 rfl (Rd.row 0 rfl) c29) rfl rfl (fun x5 => ?_)
              refine j_s2 ?_
              refine r_q (q_assign rfl rfl) rfl rfl ?_
              refine r_nil ?_
              refine j_in ?_
              refine j_then ?_
              refine j_region ?_
              refine r_q (q_add rfl rfl rfl) rfl rfl ?_
              refine r_q (q_move rfl rfl) rfl rfl ?_
              refine r_nil ?_
              refine j_then ?_
              exact j_again m (x5.1, (n2 + 1), x5.2, (l2 ++ ([p2] : List Int)), (wrap64 (p2 + (1:Int)))) (Nat.lt_succ_self m) ⟨h, (app_len q2 rfl)⟩ (fun a he => he.sub ⟨rfl, rfl, rfl, rfl, rfl, trivial⟩) (fun w h => h.tail)
            · refine j_false rfl (beq_f c28) ?_
              refine j_skip ?_
              refine j_in ?_
              refine j_then ?_
              refine j_region ?_
              refine r_q (q_add rfl rfl rfl) rfl rfl ?_
              refine r_q (q_move rfl rfl) rfl rfl ?_
              refine r_nil ?_
              refine j_then ?_
              exact j_again m (A2, n2, d2, l2, (wrap64 (p2 + (1:Int)))) (Nat.lt_succ_self m) ⟨h, q2⟩ (fun a he => he.sub ⟨rfl, rfl, rfl, rfl, rfl, trivial⟩) (fun w h => h)
        · refine j_false rfl (decide_eq_false c23) ?_
          refine j_exit ?_
          refine j_then_exit ?_
          refine j_then_exit ?_
          refine j_in_exit ?_
          refine j_then ?_
          exact j_meet (A2, n2, d2, l2) ⟨h, q2⟩ (fun a he => he.sub ⟨rfl, trivial⟩) (fun w h => h.tail)
    · rintro ⟨A3, n3, d3, l3⟩ ⟨h, q3⟩
      subst hκ0
      show J _ _ [(5, (.slice A3 n3 d3))] _ (.row A3 d3 3 1 (ii l3) :: F)
      refine j_then ?_
      refine j_seq ?_
      refine j_region ?_
      refine r_q (q_move rfl rfl) rfl rfl ?_
      refine r_q (q_assign rfl rfl) rfl rfl ?_
      refine r_nil ?_
      refine j_then ?_
      refine j_ret ?_
      cases h
      exact j_return rfl (ResOf.tmp rfl ResOf.nil) rfl (fun w h => ⟨⟨A3, n3, d3, q3⟩, rfl, h⟩)
  · refine j_true rfl (not_t (var_f c1)) ?_
    refine j_seq ?_
    refine j_region ?_
    refine r_q (q_assign rfl rfl) rfl rfl ?_
    refine r_nil ?_
    refine j_then ?_
    refine j_ret ?_
    refine j_then_ret ?_
    refine j_nil 3 1 ?_
    cases h
    exact j_return rfl (ResOf.tmp rfl ResOf.nil) rfl (fun w h => ⟨⟨none, 0, 0, rfl⟩, rfl, h.pick 2 [0] rfl⟩)

theorem laws_FnIsFree.calls (K : Nat) (a0 : List Int) (a0_A : Option Addr) (a0_n a0_c : Nat) {w0 w : World} {F : List Res} {r1 : Bool} (hm : Mem w0 (F) w) (a0_h : a0.length = a0_n) (a0_R : Rd w0 F a0_A (ints .u8 a0)) (a0_k : a0.length ≤ a0_c) (h : laws_FnIsFree.f K a0 = some r1) :
    Calls Try.prog 7 (List.toArray [.slice a0_A a0_n a0_c]) w fun e w' => ∃ x : Unit, e = .returned (.bool r1) ∧ Mem w0 (F) w' := by
  unfold laws_FnIsFree.f at h
  refine calls_of_J (n := 66) Try.func7 rfl rfl rfl hm ?_
  refine j_seq ?_
  refine j_region ?_
  refine r_q (q_assign rfl rfl) rfl rfl ?_
  refine r_nil ?_
  refine j_then ?_
  refine j_seq ?_
  refine j_seq ?_
  refine j_region ?_
  refine r_q (q_move rfl rfl) rfl rfl ?_
  refine r_q (q_lenX a0 a0_h un22 rfl rfl rfl rfl rfl) rfl rfl ?_
  refine r_q (q_gtr rfl rfl rfl) rfl rfl ?_
  refine r_nil ?_
  refine j_then ?_
  rcases of_if h with ⟨c1, h⟩ | ⟨c1, h⟩
  · refine j_true rfl (decide_eq_true c1) ?_
    refine j_seq ?_
    refine j_region ?_
    refine r_q (q_assign rfl rfl) rfl rfl ?_
    refine r_nil ?_
    refine j_then ?_
    refine j_ret ?_
    refine j_then_ret ?_
    cases h
    exact j_return rfl (ResOf.tmp rfl ResOf.nil) rfl (fun w h => ⟨(), rfl, h⟩)
  · refine j_false rfl (decide_eq_false c1) ?_
    refine j_skip ?_
    refine j_then ?_
    refine j_seq ?_
    refine j_region ?_
    refine r_q (q_move rfl rfl) rfl rfl ?_
    obtain ⟨v1, v2, v3, v4, v5, hb1, h⟩ := of_b5 h
    refine r_do (a_call ok34 rfl rfl rfl rfl (fun w hm => spec_DrawIsFree.calls K a0 a0_A a0_n a0_c hm a0_h a0_R a0_k hb1)) rfl rfl (fun x1 => ?_)
    refine r_q (q_move rfl rfl) rfl rfl ?_
    refine r_q (q_extract rfl rfl rfl) rfl rfl ?_
    refine r_q (q_extract rfl rfl rfl) rfl rfl ?_
    refine r_do (a_alloc zr29 rfl) rfl rfl (fun x2 => ?_)
    refine r_do (a_storeb 0 rfl sz29 rfl rfl rfl rfl (Nat.le_of_ble_eq_true rfl) rfl) rfl rfl (fun _ => ?_)
    refine j_b0 [(.slice x1.1.A x1.1.n x1.1.c), (.slice x1.2.1.A x1.2.1.n x1.2.1.c), (.slice x1.2.2.1.A x1.2.2.1.n x1.2.2.1.c), (.slice x1.2.2.2.A x1.2.2.2.n x1.2.2.2.c)] rfl ?_
    refine r_q (q_assign rfl rfl) rfl rfl ?_
    refine r_nil ?_
    refine j_then ?_
    refine j_seq ?_
    refine j_region ?_
    refine r_q (q_loadb_agg 0 rfl ag29 sz29 rfl rfl rfl rfl) rfl rfl ?_
    refine r_q (q_move rfl rfl) rfl rfl ?_
    obtain ⟨v6, hb2, h⟩ := of_b1 h
    refine r_do (a_call ok35 rfl rfl rfl rfl (fun w hm => impl_IsFree.calls K v1 x1.1.A x1.1.n x1.1.c v2 x1.2.1.A x1.2.1.n x1.2.1.c v3 x1.2.2.1.A x1.2.2.1.n x1.2.2.1.c v4 x1.2.2.2.A x1.2.2.2.n x1.2.2.2.c v5 hm x1.1.h (Rd.row 1 rfl) x1.2.1.h (Rd.row 2 rfl) x1.2.2.1.h (Rd.row 3 rfl) x1.2.2.2.h (Rd.row 4 rfl) (hm.roomI 4 rfl) hb2)) rfl rfl (fun x3 => ?_)
    refine r_q (q_assign rfl rfl) rfl rfl ?_
    refine r_nil ?_
    refine j_then ?_
    refine j_seq ?_
    refine j_seq ?_
    refine j_region ?_
    refine r_q (q_move rfl rfl) rfl rfl ?_
    refine r_q (q_loadb_agg 0 rfl ag29 sz29 rfl rfl rfl rfl) rfl rfl ?_
    refine r_q (q_move rfl rfl) rfl rfl ?_
    obtain ⟨v7, hb3, h⟩ := of_b1 h
    refine r_do (a_call ok36 rfl rfl rfl rfl (fun w hm => spec_IsFree.calls K v1 x1.1.A x1.1.n x1.1.c v2 x1.2.1.A x1.2.1.n x1.2.1.c v3 x1.2.2.1.A x1.2.2.1.n x1.2.2.1.c v4 x1.2.2.2.A x1.2.2.2.n x1.2.2.2.c v5 hm x1.1.h (Rd.row 1 rfl) x1.2.1.h (Rd.row 2 rfl) x1.2.2.1.h (Rd.row 3 rfl) x1.2.2.2.h (Rd.row 4 rfl) (hm.roomI 4 rfl) hb3)) rfl rfl (fun x4 => ?_)
    refine r_q (q_bneq un4 rfl rfl rfl) rfl rfl ?_
    refine r_q (q_move rfl rfl) rfl rfl ?_
    rcases of_if h with ⟨c2, h⟩ | ⟨c2, h⟩
    · refine r_qon (q_move rfl rfl) rfl rfl rfl rfl (bne_f c2) rfl ?_
      refine r_qon (q_not rfl rfl) rfl rfl rfl rfl (bne_f c2) rfl ?_
      refine r_q (q_pick_f rfl rfl (bne_f c2) rfl) rfl rfl ?_
      refine r_nil ?_
      refine j_then ?_
      rcases of_if h with ⟨c3, h⟩ | ⟨c3, h⟩
      · refine j_false rfl (not_f c3) ?_
        refine j_skip ?_
        refine j_then ?_
        refine j_seq ?_
        refine j_region ?_
        refine r_q (q_fieldAddr fi29_0 sz27 rfl rfl rfl) rfl rfl ?_
        refine r_q (q_loadb_agg 0 rfl ag27 sz27 rfl rfl rfl rfl) rfl rfl ?_
        obtain ⟨v8, hb4, h⟩ := of_b1 h
        refine r_do (a_call ok37 rfl rfl rfl rfl (fun w hm => impl_Reachable.calls K v1 x1.1.A x1.1.n x1.1.c v2 x1.2.1.A x1.2.1.n x1.2.1.c v3 x1.2.2.1.A x1.2.2.1.n x1.2.2.1.c hm x1.1.h (Rd.row 1 rfl) x1.2.1.h (Rd.row 2 rfl) x1.2.2.1.h (Rd.row 3 rfl) hb4)) rfl rfl (fun x5 => ?_)
        refine r_q (q_assign rfl rfl) rfl rfl ?_
        refine r_nil ?_
        refine j_then ?_
        refine j_seq ?_
        refine j_region ?_
        refine r_q (q_move rfl rfl) rfl rfl ?_
        refine r_q (q_move rfl rfl) rfl rfl ?_
        obtain ⟨c4, h⟩ := of_guard h
        refine r_q (q_ix (Rd.row 0 rfl) (bls_len1 v8) (by decide) x5.h c4 un52 sz4 rfl rfl rfl) rfl rfl ?_
        refine r_q (q_ldB (Rd.row 0 rfl) c4 ag4 rfl rfl) rfl rfl ?_
        refine r_q (q_not rfl rfl) rfl rfl ?_
        refine r_q (q_move rfl rfl) rfl rfl ?_
        rcases of_if h with ⟨c5, h⟩ | ⟨c5, h⟩
        · refine r_off rfl rfl rfl rfl (not_f c5) rfl ?_
          refine r_off rfl rfl rfl rfl (not_f c5) rfl ?_
          refine r_off rfl rfl rfl rfl (not_f c5) rfl ?_
          refine r_off rfl rfl rfl rfl (not_f c5) rfl ?_
          refine r_off rfl rfl rfl rfl (not_f c5) rfl ?_
          refine r_off rfl rfl rfl rfl (not_f c5) rfl ?_
          refine r_off rfl rfl rfl rfl (not_f c5) rfl ?_
          refine r_q (q_pick_f rfl rfl (not_f c5) rfl) rfl rfl ?_
          refine r_q (q_move rfl rfl) rfl rfl ?_
          refine r_off rfl rfl rfl rfl rfl rfl ?_
          refine r_off rfl rfl rfl rfl rfl rfl ?_
          refine r_off rfl rfl rfl rfl rfl rfl ?_
          refine r_off rfl rfl rfl rfl rfl rfl ?_
          refine r_off rfl rfl rfl rfl rfl rfl ?_
          refine r_off rfl rfl rfl rfl rfl rfl ?_
          refine r_off rfl rfl rfl rfl rfl rfl ?_
          refine r_q (q_pick_f rfl rfl rfl rfl) rfl rfl ?_
          refine r_q (q_move rfl rfl) rfl rfl ?_
          refine r_off rfl rfl rfl rfl rfl rfl ?_
          refine r_off rfl rfl rfl rfl rfl rfl ?_
          refine r_off rfl rfl rfl rfl rfl rfl ?_
          refine r_off rfl rfl rfl rfl rfl rfl ?_
          refine r_off rfl rfl rfl rfl rfl rfl ?_
          refine r_off rfl rfl rfl rfl rfl rfl ?_
          refine r_q (q_pick_f rfl rfl rfl rfl) rfl rfl ?_
          refine r_q (q_assign rfl rfl) rfl rfl ?_
          refine r_nil ?_
          refine j_then ?_
          refine j_ret ?_
          cases h
          exact j_return rfl (ResOf.tmp rfl ResOf.nil) rfl (fun w h => ⟨(), rfl, (h.drop 6)⟩)
        · refine r_qon (q_fieldAddr fi29_0 sz27 rfl rfl rfl) rfl rfl rfl rfl (not_t (var_f c5)) rfl ?_
          refine r_qon (q_fieldAddr fi27_0 sz25 rfl rfl rfl) rfl rfl rfl rfl (not_t (var_f c5)) rfl ?_
          refine r_qon (q_loadb 1 rfl ag25 rfl rfl rfl) rfl rfl rfl rfl (not_t (var_f c5)) rfl ?_
          refine r_qon (q_move rfl rfl) rfl rfl rfl rfl (not_t (var_f c5)) rfl ?_
          obtain ⟨c6, h⟩ := of_guard h
          refine r_qon (q_ix (Rd.row 2 rfl) (ints_len1 _ v1) (by decide) x1.1.h c6 un25 sz3 rfl rfl rfl) rfl rfl rfl rfl (not_t (var_f c5)) rfl ?_
          refine r_qon (q_ldI (Rd.row 2 rfl) c6 ag3 rfl rfl) rfl rfl rfl rfl (not_t (var_f c5)) rfl ?_
          refine r_qon (q_eql rfl rfl rfl) rfl rfl rfl rfl (not_t (var_f c5)) rfl ?_
          refine r_q (q_pick_t rfl rfl (not_t (var_f c5)) rfl) rfl rfl ?_
          refine r_q (q_move rfl rfl) rfl rfl ?_
          rcases of_if h with ⟨c7, h⟩ | ⟨c7, h⟩
          · refine r_qon (q_fieldAddr fi29_0 sz27 rfl rfl rfl) rfl rfl rfl rfl (beq_t c7) rfl ?_
            refine r_qon (q_fieldAddr fi27_1 sz25 rfl rfl rfl) rfl rfl rfl rfl (beq_t c7) rfl ?_
            refine r_qon (q_loadb 1 rfl ag25 rfl rfl rfl) rfl rfl rfl rfl (beq_t c7) rfl ?_
            refine r_qon (q_move rfl rfl) rfl rfl rfl rfl (beq_t c7) rfl ?_
            obtain ⟨c8, h⟩ := of_guard h
            refine r_qon (q_ix (Rd.row 3 rfl) (ints_len1 _ v2) (by decide) x1.2.1.h c8 un25 sz3 rfl rfl rfl) rfl rfl rfl rfl (beq_t c7) rfl ?_
            refine r_qon (q_ldI (Rd.row 3 rfl) c8 ag3 rfl rfl) rfl rfl rfl rfl (beq_t c7) rfl ?_
            refine r_qon (q_eql rfl rfl rfl) rfl rfl rfl rfl (beq_t c7) rfl ?_
            refine r_q (q_pick_t rfl rfl (beq_t c7) rfl) rfl rfl ?_
            refine r_q (q_move rfl rfl) rfl rfl ?_
            rcases of_if h with ⟨c9, h⟩ | ⟨c9, h⟩
            · refine r_qon (q_fieldAddr fi29_0 sz27 rfl rfl rfl) rfl rfl rfl rfl (beq_t c9) rfl ?_
              refine r_qon (q_loadb_agg 1 rfl ag27 sz27 rfl rfl rfl rfl) rfl rfl rfl rfl (beq_t c9) rfl ?_
              refine r_qon (q_move rfl rfl) rfl rfl rfl rfl (beq_t c9) rfl ?_
              obtain ⟨v9, hb5, h⟩ := of_b1 h
              refine r_on (a_call ok38 rfl rfl rfl rfl (fun w hm => impl_SourcesOf.calls K v1 x1.1.A x1.1.n x1.1.c v2 x1.2.1.A x1.2.1.n x1.2.1.c v3 x1.2.2.1.A x1.2.2.1.n x1.2.2.1.c v5 hm x1.1.h (Rd.row 2 rfl) x1.2.1.h (Rd.row 3 rfl) x1.2.2.1.h (Rd.row 4 rfl) hb5)) rfl rfl rfl rfl (beq_t c9) rfl (fun x6 => ?_)
              refine r_qon (q_lenX v9 x6.h un25 rfl rfl rfl rfl rfl) rfl rfl rfl rfl (beq_t c9) rfl ?_
              refine r_qon (q_eql rfl rfl rfl) rfl rfl rfl rfl (beq_t c9) rfl ?_
              refine r_q (q_pick_t rfl rfl (beq_t c9) rfl) rfl rfl ?_
              refine r_q (q_assign rfl rfl) rfl rfl ?_
              refine r_nil ?_
              refine j_then ?_
              refine j_ret ?_
              cases h
              exact j_return rfl (ResOf.tmp rfl ResOf.nil) rfl (fun w h => ⟨(), rfl, (h.drop 7)⟩)
            · refine r_off rfl rfl rfl rfl (beq_f c9) rfl ?_
              refine r_off rfl rfl rfl rfl (beq_f c9) rfl ?_
              refine r_off rfl rfl rfl rfl (beq_f c9) rfl ?_
              refine r_off rfl rfl rfl rfl (beq_f c9) rfl ?_
              refine r_off rfl rfl rfl rfl (beq_f c9) rfl ?_
              refine r_off rfl rfl rfl rfl (beq_f c9) rfl ?_
              refine r_q (q_pick_f rfl rfl (beq_f c9) rfl) rfl rfl ?_
              refine r_q (q_assign rfl rfl) rfl rfl ?_
              refine r_nil ?_
              refine j_then ?_
              refine j_ret ?_
              cases h
              exact j_return rfl (ResOf.tmp rfl ResOf.nil) rfl (fun w h => ⟨(), rfl, (h.drop 6)⟩)
          · refine r_off rfl rfl rfl rfl (beq_f c7) rfl ?_
            refine r_off rfl rfl rfl rfl (beq_f c7) rfl ?_
            refine r_off rfl rfl rfl rfl (beq_f c7) rfl ?_
            refine r_off rfl rfl rfl rfl (beq_f c7) rfl ?_
            refine r_off rfl rfl rfl rfl (beq_f c7) rfl ?_
            refine r_off rfl rfl rfl rfl (beq_f c7) rfl ?_
            refine r_off rfl rfl rfl rfl (beq_f c7) rfl ?_
            refine r_q (q_pick_f rfl rfl (beq_f c7) rfl) rfl rfl ?_
            refine r_q (q_move rfl rfl) rfl rfl ?_
            refine r_off rfl rfl rfl rfl rfl rfl ?_
            refine r_off rfl rfl rfl rfl rfl rfl ?_
            refine r_off rfl rfl rfl rfl rfl rfl ?_
            refine r_off rfl rfl rfl rfl rfl rfl ?_
            refine r_off rfl rfl rfl rfl rfl rfl ?_
            refine r_off rfl rfl rfl rfl rfl rfl ?_
            refine r_q (q_pick_f rfl rfl rfl rfl) rfl rfl ?_
            refine r_q (q_assign rfl rfl) rfl rfl ?_
            refine r_nil ?_
            refine j_then ?_
            refine j_ret ?_
            cases h
            exact j_return rfl (ResOf.tmp rfl ResOf.nil) rfl (fun w h => ⟨(), rfl, (h.drop 6)⟩)
      · refine j_true rfl (not_t (var_f c3)) ?_
        refine j_seq ?_
        refine j_region ?_
        refine r_q (q_move rfl rfl) rfl rfl ?_
        refine r_q (q_loadb_agg 0 rfl ag29 sz29 rfl rfl rfl rfl) rfl rfl ?_
        refine r_q (q_move rfl rfl) rfl rfl ?_
        obtain ⟨v10, hb6, h⟩ := of_b1 h
        refine r_do (a_call ok36 rfl rfl rfl rfl (fun w hm => spec_IsFree.calls K v1 x1.1.A x1.1.n x1.1.c v2 x1.2.1.A x1.2.1.n x1.2.1.c v3 x1.2.2.1.A x1.2.2.1.n x1.2.2.1.c v4 x1.2.2.2.A x1.2.2.2.n x1.2.2.2.c v5 hm x1.1.h (Rd.row 1 rfl) x1.2.1.h (Rd.row 2 rfl) x1.2.2.1.h (Rd.row 3 rfl) x1.2.2.2.h (Rd.row 4 rfl) (hm.roomI 4 rfl) hb6)) rfl rfl (fun x7 => ?_)
        refine r_q (q_beql un4 rfl rfl rfl) rfl rfl ?_
        refine r_q (q_assign rfl rfl) rfl rfl ?_
        refine r_nil ?_
        refine j_then ?_
        refine j_ret ?_
        refine j_then_ret ?_
        cases h
        exact j_return rfl (ResOf.tmp rfl ResOf.nil) rfl (fun w h => ⟨(), rfl, (h.drop 5)⟩)
    · refine r_off rfl rfl rfl rfl (bne_t c2) rfl ?_
      refine r_off rfl rfl rfl rfl (bne_t c2) rfl ?_
      refine r_q (q_pick_t rfl rfl (bne_t c2) rfl) rfl rfl ?_
      refine r_nil ?_
      refine j_then ?_
      refine j_true rfl rfl ?_
      refine j_seq ?_
      refine j_region ?_
      refine r_q (q_move rfl rfl) rfl rfl ?_
      refine r_q (q_loadb_agg 0 rfl ag29 sz29 rfl rfl rfl rfl) rfl rfl ?_
      refine r_q (q_move rfl rfl) rfl rfl ?_
      obtain ⟨v11, hb7, h⟩ := of_b1 h
      refine r_do (a_call ok36 rfl rfl rfl rfl (fun w hm => spec_IsFree.calls K v1 x1.1.A x1.1.n x1.1.c v2 x1.2.1.A x1.2.1.n x1.2.1.c v3 x1.2.2.1.A x1.2.2.1.n x1.2.2.1.c v4 x1.2.2.2.A x1.2.2.2.n x1.2.2.2.c v5 hm x1.1.h (Rd.row 1 rfl) x1.2.1.h (Rd.row 2 rfl) x1.2.2.1.h (Rd.row 3 rfl) x1.2.2.2.h (Rd.row 4 rfl) (hm.roomI 4 rfl) hb7)) rfl rfl (fun x7 => ?_)
      refine r_q (q_beql un4 rfl rfl rfl) rfl rfl ?_
      refine r_q (q_assign rfl rfl) rfl rfl ?_
      refine r_nil ?_
      refine j_then ?_
      refine j_ret ?_
      refine j_then_ret ?_
      cases h
      exact j_return rfl (ResOf.tmp rfl ResOf.nil) rfl (fun w h => ⟨(), rfl, (h.drop 5)⟩)

end Go.Proofs.Ytigidjhdcplplaa.F
