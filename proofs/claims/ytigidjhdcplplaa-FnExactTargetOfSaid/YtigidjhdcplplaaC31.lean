/- The program computes these pure functions, printed by the generator of wip/gen. -/
import Derived.Test.YtigidjhdcplplaaFa
import Derived.Test.YtigidjhdcplplaaFg
import Derived.Test.YtigidjhdcplplaaFb
import Derived.Test.YtigidjhdcplplaaC0
import Derived.Test.YtigidjhdcplplaaC1
import Derived.Test.YtigidjhdcplplaaC13
import Derived.Test.YtigidjhdcplplaaC15
import Derived.Test.YtigidjhdcplplaaC22
import Derived.Test.YtigidjhdcplplaaC24
namespace Go.Proofs.Ytigidjhdcplplaa.F
open Go Go.RowKit Go.Proofs.Ytigidjhdcplplaa.S
set_option linter.unusedVariables false
set_option maxRecDepth 100000
theorem laws_FnExactTargetOf.calls (K : Nat) (a0_0 : List Int) (a0_0_A : Option Addr) (a0_0_n a0_0_c : Nat) (a0_1 : List Int) (a0_1_A : Option Addr) (a0_1_n a0_1_c : Nat) (a0_2 : List Int) (a0_2_A : Option Addr) (a0_2_n a0_2_c : Nat) (a0_3 : List Int) (a0_3_A : Option Addr) (a0_3_n a0_3_c : Nat) (a1_0 : Int) (a1_1 : Int) (a1_2 : Int) {w0 w : World} {F : List Res} {r1 : Bool} (hm : Mem w0 (F) w) (a0_0_h : a0_0.length = a0_0_n) (a0_0_R : Rd w0 F a0_0_A (ii a0_0)) (a0_1_h : a0_1.length = a0_1_n) (a0_1_R : Rd w0 F a0_1_A (ii a0_1)) (a0_2_h : a0_2.length = a0_2_n) (a0_2_R : Rd w0 F a0_2_A (ii a0_2)) (a0_3_h : a0_3.length = a0_3_n) (a0_3_R : Rd w0 F a0_3_A (ii a0_3)) (h : laws_FnExactTargetOf.f K a0_0 a0_1 a0_2 a0_3 a1_0 a1_1 a1_2 = some r1) :
    Calls Try.prog 12 (List.toArray [.agg (List.toArray [.slice a0_0_A a0_0_n a0_0_c, .slice a0_1_A a0_1_n a0_1_c, .slice a0_2_A a0_2_n a0_2_c, .slice a0_3_A a0_3_n a0_3_c]), .agg (List.toArray [i6 a1_0, i6 a1_1, i6 a1_2])]) w fun e w' => ∃ x : Unit, e = .returned (.bool r1) ∧ Mem w0 (F) w' := by
  unfold laws_FnExactTargetOf.f at h
  refine calls_of_J (n := 33) Try.func12 rfl rfl rfl hm ?_
  refine j_seq ?_
  refine j_region ?_
  refine r_do (a_box rfl rfl) rfl rfl (fun x1 => ?_)
  refine r_do (a_box rfl rfl) rfl rfl (fun x2 => ?_)
  refine r_q (q_assign rfl rfl) rfl rfl ?_
  refine r_nil ?_
  refine j_then ?_
  refine j_seq ?_
  refine j_region ?_
  refine r_q (q_assign rfl rfl) rfl rfl ?_
  refine r_nil ?_
  refine j_then ?_
  refine j_seq ?_
  refine j_region ?_
  refine r_q (q_loadb_agg 1 rfl ag41 sz41 rfl rfl rfl rfl) rfl rfl ?_
  refine r_q (q_move rfl rfl) rfl rfl ?_
  obtain ⟨v1, hb1, h⟩ := of_b1 h
  refine r_do (a_call ok24 rfl rfl rfl rfl (fun w hm => laws_szStore.calls K a0_0 a0_0_A a0_0_n a0_0_c a0_1 a0_1_A a0_1_n a0_1_c a0_2 a0_2_A a0_2_n a0_2_c a0_3 a0_3_A a0_3_n a0_3_c (1048576:Int) hm a0_0_h (Rd.drop 2 a0_0_R) a0_1_h (Rd.drop 2 a0_1_R) a0_2_h (Rd.drop 2 a0_2_R) a0_3_h (Rd.drop 2 a0_3_R) hb1)) rfl rfl (fun x3 => ?_)
  refine r_q (q_assign rfl rfl) rfl rfl ?_
  refine r_nil ?_
  refine j_then ?_
  refine j_seq ?_
  refine j_seq ?_
  refine j_region ?_
  refine r_q (q_move rfl rfl) rfl rfl ?_
  refine r_q (q_lss rfl rfl rfl) rfl rfl ?_
  refine r_nil ?_
  refine j_then ?_
  rcases of_if h with ⟨c1, h⟩ | ⟨c1, h⟩
  · refine j_true rfl (decide_eq_true c1) ?_
    refine j_seq ?_
    refine j_region ?_
    refine r_q (q_assign rfl rfl) rfl rfl ?_
    refine r_nil ?_
    refine j_then ?_
    refine j_ret ?_
    refine j_then_ret ?_
    cases h
    exact j_return rfl (ResOf.tmp rfl ResOf.nil) rfl (fun w h => ⟨(), rfl, (h.drop 2)⟩)
  · refine j_false rfl (decide_eq_false c1) ?_
    refine j_skip ?_
    refine j_then ?_
    refine j_seq ?_
    obtain ⟨v2, v3, v4, v5, hb2, h⟩ := of_b4 h
    obtain ⟨v6, v7, v8, hb3, h⟩ := of_b3 h
    obtain ⟨v9, hb4, h⟩ := of_b1 h
    refine j_draw (.box x2 62 [(i6 a1_0), (i6 a1_1), (i6 a1_2)] :: .box x1 41 [(.slice a0_0_A a0_0_n a0_0_c), (.slice a0_1_A a0_1_n a0_1_c), (.slice a0_2_A a0_2_n a0_2_c), (.slice a0_3_A a0_3_n a0_3_c)] :: F) 6 follows_any rfl ?_
    refine d_take 0 rfl (q_loadb_agg 1 rfl ag41 sz41 rfl rfl rfl rfl) rfl rfl (by kernel_rfl) (by kernel_rfl) (by kernel_rfl) (fun w h => h) ?_
    refine d_take 2 rfl (q_loadb_agg 0 rfl ag62 sz62 rfl rfl rfl rfl) rfl rfl (by kernel_rfl) (by kernel_rfl) (by kernel_rfl) (fun w h => h) ?_
    refine d_one 1 (by kernel_rfl) ?_
    refine o_do rfl (a_call ok26 rfl rfl rfl rfl (fun w hm => laws_toStore.calls K a0_0 a0_0_A a0_0_n a0_0_c a0_1 a0_1_A a0_1_n a0_1_c a0_2 a0_2_A a0_2_n a0_2_c a0_3 a0_3_A a0_3_n a0_3_c hm a0_0_h (Rd.drop 2 a0_0_R) a0_1_h (Rd.drop 2 a0_1_R) a0_2_h (Rd.drop 2 a0_2_R) a0_3_h (Rd.drop 2 a0_3_R) hb2)) rfl rfl (fun x4 w h => (h.drop 4)) (fun x4 => ?_)
    refine d_one 3 (by kernel_rfl) ?_
    refine o_do rfl (a_call ok47 rfl rfl rfl rfl (fun w hm => laws_toOp.calls K a1_0 a1_1 a1_2 hm hb3)) rfl rfl (fun x5 w h => (h.drop 4)) (fun x5 => ?_)
    refine d_one 4 (by kernel_rfl) ?_
    refine o_do rfl (a_call ok45 rfl rfl rfl rfl (fun w hm => spec_TargetOf.calls K v2 x4.1.A x4.1.n x4.1.c v3 x4.2.1.A x4.2.1.n x4.2.1.c v4 x4.2.2.1.A x4.2.2.1.n x4.2.2.1.c v5 x4.2.2.2.A x4.2.2.2.n x4.2.2.2.c v6 v7 v8 hm x4.1.h (Rd.row 0 rfl) x4.2.1.h (Rd.row 1 rfl) x4.2.2.1.h (Rd.row 2 rfl) x4.2.2.2.h (Rd.row 3 rfl) (hm.roomI 3 rfl) hb4)) rfl rfl (fun x6 w h => (h.drop 4)) (fun x6 => ?_)
    refine d_take 5 rfl (q_assign rfl rfl) rfl rfl (by kernel_rfl) (by kernel_rfl) (by kernel_rfl) (fun w h => (h.drop 4)) ?_
    refine d_done (by kernel_rfl) ?_
    refine j_then ?_
    refine j_seq ?_
    refine j_region ?_
    refine r_q (q_loadb_agg 5 rfl ag41 sz41 rfl rfl rfl rfl) rfl rfl ?_
    obtain ⟨v10, v11, v12, v13, hb5, h⟩ := of_b4 h
    refine r_do (a_call ok26 rfl rfl rfl rfl (fun w hm => laws_toStore.calls K a0_0 a0_0_A a0_0_n a0_0_c a0_1 a0_1_A a0_1_n a0_1_c a0_2 a0_2_A a0_2_n a0_2_c a0_3 a0_3_A a0_3_n a0_3_c hm a0_0_h (Rd.drop 6 a0_0_R) a0_1_h (Rd.drop 6 a0_1_R) a0_2_h (Rd.drop 6 a0_2_R) a0_3_h (Rd.drop 6 a0_3_R) hb5)) rfl rfl (fun x7 => ?_)
    refine r_do (a_alloc zr29 rfl) rfl rfl (fun x8 => ?_)
    refine r_do (a_storeb 0 rfl sz29 rfl rfl rfl rfl (Nat.le_of_ble_eq_true rfl) rfl) rfl rfl (fun _ => ?_)
    refine j_b0 [(.slice x7.1.A x7.1.n x7.1.c), (.slice x7.2.1.A x7.2.1.n x7.2.1.c), (.slice x7.2.2.1.A x7.2.2.1.n x7.2.2.1.c), (.slice x7.2.2.2.A x7.2.2.2.n x7.2.2.2.c)] rfl ?_
    refine r_nil ?_
    refine j_then ?_
    refine j_seq ?_
    obtain ⟨v14, v15, v16, hb6, h⟩ := of_b3 h
    obtain ⟨v17, hb7, h⟩ := of_b1 h
    refine j_draw (.box x8 29 [(.slice x7.1.A x7.1.n x7.1.c), (.slice x7.2.1.A x7.2.1.n x7.2.1.c), (.slice x7.2.2.1.A x7.2.2.1.n x7.2.2.1.c), (.slice x7.2.2.2.A x7.2.2.2.n x7.2.2.2.c)] :: .row x7.1.A x7.1.c 3 1 (ii v10) :: .row x7.2.1.A x7.2.1.c 3 1 (ii v11) :: .row x7.2.2.1.A x7.2.2.1.c 3 1 (ii v12) :: .row x7.2.2.2.A x7.2.2.2.c 3 1 (ii v13) :: .row x4.1.A x4.1.c 3 1 (ii v2) :: .row x4.2.1.A x4.2.1.c 3 1 (ii v3) :: .row x4.2.2.1.A x4.2.2.1.c 3 1 (ii v4) :: .row x4.2.2.2.A x4.2.2.2.c 3 1 (ii v5) :: .box x2 62 [(i6 a1_0), (i6 a1_1), (i6 a1_2)] :: .box x1 41 [(.slice a0_0_A a0_0_n a0_0_c), (.slice a0_1_A a0_1_n a0_1_c), (.slice a0_2_A a0_2_n a0_2_c), (.slice a0_3_A a0_3_n a0_3_c)] :: F) 5 follows_any rfl ?_
    refine d_take 0 rfl (q_loadb_agg 0 rfl ag29 sz29 rfl rfl rfl rfl) rfl rfl (by kernel_rfl) (by kernel_rfl) (by kernel_rfl) (fun w h => h) ?_
    refine d_take 1 rfl (q_loadb_agg 9 rfl ag62 sz62 rfl rfl rfl rfl) rfl rfl (by kernel_rfl) (by kernel_rfl) (by kernel_rfl) (fun w h => h) ?_
    refine d_one 2 (by kernel_rfl) ?_
    refine o_do rfl (a_call ok47 rfl rfl rfl rfl (fun w hm => laws_toOp.calls K a1_0 a1_1 a1_2 hm hb6)) rfl rfl (fun x9 w h => h) (fun x9 => ?_)
    refine d_one 3 (by kernel_rfl) ?_
    refine o_do rfl (a_call ok44 rfl rfl rfl rfl (fun w hm => impl_TargetOf.calls K v10 x7.1.A x7.1.n x7.1.c v11 x7.2.1.A x7.2.1.n x7.2.1.c v12 x7.2.2.1.A x7.2.2.1.n x7.2.2.1.c v13 x7.2.2.2.A x7.2.2.2.n x7.2.2.2.c v14 v15 v16 hm x7.1.h (Rd.row 1 rfl) x7.2.1.h (Rd.row 2 rfl) x7.2.2.1.h (Rd.row 3 rfl) x7.2.2.2.h (Rd.row 4 rfl) (hm.roomI 4 rfl) hb7)) rfl rfl (fun x10 w h => h) (fun x10 => ?_)
    refine d_take 4 rfl (q_assign rfl rfl) rfl rfl (by kernel_rfl) (by kernel_rfl) (by kernel_rfl) (fun w h => h) ?_
    refine d_done (by kernel_rfl) ?_
    refine j_then ?_
    refine j_seq ?_
    refine j_seq ?_
    refine j_region ?_
    refine r_q (q_move rfl rfl) rfl rfl ?_
    refine r_q (q_move rfl rfl) rfl rfl ?_
    refine r_q (q_neq rfl rfl rfl) rfl rfl ?_
    refine r_nil ?_
    refine j_then ?_
    rcases of_if h with ⟨c2, h⟩ | ⟨c2, h⟩
    · refine j_false rfl (bne_f c2) ?_
      refine j_skip ?_
      refine j_then ?_
      refine j_seq ?_
      refine j_seq ?_
      obtain ⟨v18, v19, v20, v21, hb8, h⟩ := of_b4 h
      obtain ⟨v22, hb9, h⟩ := of_b1 h
      refine j_draw (.box x8 29 [(.slice x7.1.A x7.1.n x7.1.c), (.slice x7.2.1.A x7.2.1.n x7.2.1.c), (.slice x7.2.2.1.A x7.2.2.1.n x7.2.2.1.c), (.slice x7.2.2.2.A x7.2.2.2.n x7.2.2.2.c)] :: .row x7.1.A x7.1.c 3 1 (ii v10) :: .row x7.2.1.A x7.2.1.c 3 1 (ii v11) :: .row x7.2.2.1.A x7.2.2.1.c 3 1 (ii v12) :: .row x7.2.2.2.A x7.2.2.2.c 3 1 (ii v13) :: .row x4.1.A x4.1.c 3 1 (ii v2) :: .row x4.2.1.A x4.2.1.c 3 1 (ii v3) :: .row x4.2.2.1.A x4.2.2.1.c 3 1 (ii v4) :: .row x4.2.2.2.A x4.2.2.2.c 3 1 (ii v5) :: .box x2 62 [(i6 a1_0), (i6 a1_1), (i6 a1_2)] :: .box x1 41 [(.slice a0_0_A a0_0_n a0_0_c), (.slice a0_1_A a0_1_n a0_1_c), (.slice a0_2_A a0_2_n a0_2_c), (.slice a0_3_A a0_3_n a0_3_c)] :: F) 5 follows_any rfl ?_
      refine d_take 0 rfl (q_loadb_agg 0 rfl ag29 sz29 rfl rfl rfl rfl) rfl rfl (by kernel_rfl) (by kernel_rfl) (by kernel_rfl) (fun w h => h) ?_
      refine d_take 1 rfl (q_loadb_agg 10 rfl ag41 sz41 rfl rfl rfl rfl) rfl rfl (by kernel_rfl) (by kernel_rfl) (by kernel_rfl) (fun w h => h) ?_
      refine d_one 2 (by kernel_rfl) ?_
      refine o_do rfl (a_call ok26 rfl rfl rfl rfl (fun w hm => laws_toStore.calls K a0_0 a0_0_A a0_0_n a0_0_c a0_1 a0_1_A a0_1_n a0_1_c a0_2 a0_2_A a0_2_n a0_2_c a0_3 a0_3_A a0_3_n a0_3_c hm a0_0_h (Rd.drop 11 a0_0_R) a0_1_h (Rd.drop 11 a0_1_R) a0_2_h (Rd.drop 11 a0_2_R) a0_3_h (Rd.drop 11 a0_3_R) hb8)) rfl rfl (fun x11 w h => (h.drop 4)) (fun x11 => ?_)
      refine d_one 3 (by kernel_rfl) ?_
      refine o_do rfl (a_call ok27 rfl rfl rfl rfl (fun w hm => laws_eqStore.calls K v10 x7.1.A x7.1.n x7.1.c v11 x7.2.1.A x7.2.1.n x7.2.1.c v12 x7.2.2.1.A x7.2.2.1.n x7.2.2.1.c v13 x7.2.2.2.A x7.2.2.2.n x7.2.2.2.c v18 x11.1.A x11.1.n x11.1.c v19 x11.2.1.A x11.2.1.n x11.2.1.c v20 x11.2.2.1.A x11.2.2.1.n x11.2.2.1.c v21 x11.2.2.2.A x11.2.2.2.n x11.2.2.2.c hm x7.1.h (Rd.row 5 rfl) x7.2.1.h (Rd.row 6 rfl) x7.2.2.1.h (Rd.row 7 rfl) x7.2.2.2.h (Rd.row 8 rfl) x11.1.h (Rd.row 0 rfl) x11.2.1.h (Rd.row 1 rfl) x11.2.2.1.h (Rd.row 2 rfl) x11.2.2.2.h (Rd.row 3 rfl) hb9)) rfl rfl (fun x12 w h => (h.drop 4)) (fun x12 => ?_)
      refine d_take 4 rfl (q_not rfl rfl) rfl rfl (by kernel_rfl) (by kernel_rfl) (by kernel_rfl) (fun w h => (h.drop 4)) ?_
      refine d_done (by kernel_rfl) ?_
      refine j_then ?_
      rcases of_if h with ⟨c3, h⟩ | ⟨c3, h⟩
      · refine j_false rfl (not_f c3) ?_
        refine j_skip ?_
        refine j_then ?_
        refine j_seq ?_
        refine j_region ?_
        refine r_q (q_assign rfl rfl) rfl rfl ?_
        refine r_nil ?_
        refine j_then ?_
        refine j_ret ?_
        cases h
        exact j_return rfl (ResOf.tmp rfl ResOf.nil) rfl (fun w h => ⟨(), rfl, (h.drop 15)⟩)
      · refine j_true rfl (not_t (var_f c3)) ?_
        refine j_seq ?_
        refine j_region ?_
        refine r_q (q_assign rfl rfl) rfl rfl ?_
        refine r_nil ?_
        refine j_then ?_
        refine j_ret ?_
        refine j_then_ret ?_
        cases h
        exact j_return rfl (ResOf.tmp rfl ResOf.nil) rfl (fun w h => ⟨(), rfl, (h.drop 15)⟩)
    · refine j_true rfl (bne_t c2) ?_
      refine j_seq ?_
      refine j_region ?_
      refine r_q (q_assign rfl rfl) rfl rfl ?_
      refine r_nil ?_
      refine j_then ?_
      refine j_ret ?_
      refine j_then_ret ?_
      cases h
      exact j_return rfl (ResOf.tmp rfl ResOf.nil) rfl (fun w h => ⟨(), rfl, (h.drop 11)⟩)

end Go.Proofs.Ytigidjhdcplplaa.F
