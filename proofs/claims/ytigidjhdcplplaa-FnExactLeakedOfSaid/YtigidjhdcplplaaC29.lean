/- The program computes these pure functions, printed by the generator of wip/gen. -/
import Derived.Test.YtigidjhdcplplaaFa
import Derived.Test.YtigidjhdcplplaaFg
import Derived.Test.YtigidjhdcplplaaFb
import Derived.Test.YtigidjhdcplplaaC0
import Derived.Test.YtigidjhdcplplaaC1
import Derived.Test.YtigidjhdcplplaaC3
import Derived.Test.YtigidjhdcplplaaC7
import Derived.Test.YtigidjhdcplplaaC8
import Derived.Test.YtigidjhdcplplaaC9
import Derived.Test.YtigidjhdcplplaaC10
import Derived.Test.YtigidjhdcplplaaC13
import Derived.Test.YtigidjhdcplplaaC14
import Derived.Test.YtigidjhdcplplaaC17
namespace Go.Proofs.Ytigidjhdcplplaa.F
open Go Go.RowKit Go.Proofs.Ytigidjhdcplplaa.S
set_option linter.unusedVariables false
set_option maxRecDepth 100000
theorem laws_FnExactLeakedOf.calls (K : Nat) (a0_0 : List Int) (a0_0_A : Option Addr) (a0_0_n a0_0_c : Nat) (a0_1 : List Int) (a0_1_A : Option Addr) (a0_1_n a0_1_c : Nat) (a0_2 : List Int) (a0_2_A : Option Addr) (a0_2_n a0_2_c : Nat) (a0_3 : List Int) (a0_3_A : Option Addr) (a0_3_n a0_3_c : Nat) {w0 w : World} {F : List Res} {r1 : Bool} (hm : Mem w0 (F) w) (a0_0_h : a0_0.length = a0_0_n) (a0_0_R : Rd w0 F a0_0_A (ii a0_0)) (a0_1_h : a0_1.length = a0_1_n) (a0_1_R : Rd w0 F a0_1_A (ii a0_1)) (a0_2_h : a0_2.length = a0_2_n) (a0_2_R : Rd w0 F a0_2_A (ii a0_2)) (a0_3_h : a0_3.length = a0_3_n) (a0_3_R : Rd w0 F a0_3_A (ii a0_3)) (h : laws_FnExactLeakedOf.f K a0_0 a0_1 a0_2 a0_3 = some r1) :
    Calls Try.prog 6 (List.toArray [.agg (List.toArray [.slice a0_0_A a0_0_n a0_0_c, .slice a0_1_A a0_1_n a0_1_c, .slice a0_2_A a0_2_n a0_2_c, .slice a0_3_A a0_3_n a0_3_c])]) w fun e w' => ∃ x : Unit, e = .returned (.bool r1) ∧ Mem w0 (F) w' := by
  unfold laws_FnExactLeakedOf.f at h
  refine calls_of_J (n := 69) Try.func6 rfl rfl rfl hm ?_
  refine j_seq ?_
  refine j_region ?_
  refine r_do (a_box rfl rfl) rfl rfl (fun x1 => ?_)
  refine r_q (q_assign rfl rfl) rfl rfl ?_
  refine r_nil ?_
  refine j_then ?_
  refine j_seq ?_
  refine j_region ?_
  refine r_q (q_assign rfl rfl) rfl rfl ?_
  refine r_nil ?_
  refine j_then ?_
  refine j_seq ?_
  refine j_region ?_
  refine r_q (q_loadb_agg 0 rfl ag41 sz41 rfl rfl rfl rfl) rfl rfl ?_
  refine r_q (q_move rfl rfl) rfl rfl ?_
  obtain ⟨v1, hb1, h⟩ := of_b1 h
  refine r_do (a_call ok24 rfl rfl rfl rfl (fun w hm => laws_szStore.calls K a0_0 a0_0_A a0_0_n a0_0_c a0_1 a0_1_A a0_1_n a0_1_c a0_2 a0_2_A a0_2_n a0_2_c a0_3 a0_3_A a0_3_n a0_3_c (1048576:Int) hm a0_0_h (Rd.drop 1 a0_0_R) a0_1_h (Rd.drop 1 a0_1_R) a0_2_h (Rd.drop 1 a0_2_R) a0_3_h (Rd.drop 1 a0_3_R) hb1)) rfl rfl (fun x2 => ?_)
  refine r_q (q_assign rfl rfl) rfl rfl ?_
  refine r_nil ?_
  refine j_then ?_
  refine j_seq ?_
  refine j_seq ?_
  refine j_region ?_
  refine r_q (q_move rfl rfl) rfl rfl ?_
  refine r_q (q_lss rfl rfl rfl) rfl rfl ?_
  refine r_nil ?_
  refine j_then ?_
  rcases of_if h with ⟨c1, h⟩ | ⟨c1, h⟩
  · refine j_true rfl (decide_eq_true c1) ?_
    refine j_seq ?_
    refine j_region ?_
    refine r_q (q_assign rfl rfl) rfl rfl ?_
    refine r_nil ?_
    refine j_then ?_
    refine j_ret ?_
    refine j_then_ret ?_
    cases h
    exact j_return rfl (ResOf.tmp rfl ResOf.nil) rfl (fun w h => ⟨(), rfl, h.tail⟩)
  · refine j_false rfl (decide_eq_false c1) ?_
    refine j_skip ?_
    refine j_then ?_
    refine j_seq ?_
    refine j_region ?_
    refine r_q (q_loadb_agg 0 rfl ag41 sz41 rfl rfl rfl rfl) rfl rfl ?_
    obtain ⟨v2, v3, v4, v5, hb2, h⟩ := of_b4 h
    refine r_do (a_call ok26 rfl rfl rfl rfl (fun w hm => laws_toStore.calls K a0_0 a0_0_A a0_0_n a0_0_c a0_1 a0_1_A a0_1_n a0_1_c a0_2 a0_2_A a0_2_n a0_2_c a0_3 a0_3_A a0_3_n a0_3_c hm a0_0_h (Rd.drop 1 a0_0_R) a0_1_h (Rd.drop 1 a0_1_R) a0_2_h (Rd.drop 1 a0_2_R) a0_3_h (Rd.drop 1 a0_3_R) hb2)) rfl rfl (fun x3 => ?_)
    obtain ⟨v6, hb3, h⟩ := of_b1 h
    refine r_do (a_call ok30 rfl rfl rfl rfl (fun w hm => spec_LeakedOf.calls K v2 x3.1.A x3.1.n x3.1.c v3 x3.2.1.A x3.2.1.n x3.2.1.c v4 x3.2.2.1.A x3.2.2.1.n x3.2.2.1.c v5 x3.2.2.2.A x3.2.2.2.n x3.2.2.2.c hm x3.1.h (Rd.row 0 rfl) x3.2.1.h (Rd.row 1 rfl) x3.2.2.1.h (Rd.row 2 rfl) x3.2.2.2.h (Rd.row 3 rfl) (hm.roomI 3 rfl) hb3)) rfl rfl (fun x4 => ?_)
    refine r_q (q_assign rfl rfl) rfl rfl ?_
    refine r_nil ?_
    refine j_then ?_
    refine j_seq ?_
    refine j_region ?_
    refine r_q (q_loadb_agg 5 rfl ag41 sz41 rfl rfl rfl rfl) rfl rfl ?_
    obtain ⟨v7, v8, v9, v10, hb4, h⟩ := of_b4 h
    refine r_do (a_call ok26 rfl rfl rfl rfl (fun w hm => laws_toStore.calls K a0_0 a0_0_A a0_0_n a0_0_c a0_1 a0_1_A a0_1_n a0_1_c a0_2 a0_2_A a0_2_n a0_2_c a0_3 a0_3_A a0_3_n a0_3_c hm a0_0_h (Rd.drop 6 a0_0_R) a0_1_h (Rd.drop 6 a0_1_R) a0_2_h (Rd.drop 6 a0_2_R) a0_3_h (Rd.drop 6 a0_3_R) hb4)) rfl rfl (fun x5 => ?_)
    refine r_do (a_alloc zr29 rfl) rfl rfl (fun x6 => ?_)
    refine r_do (a_storeb 0 rfl sz29 rfl rfl rfl rfl (Nat.le_of_ble_eq_true rfl) rfl) rfl rfl (fun _ => ?_)
    refine j_b0 [(.slice x5.1.A x5.1.n x5.1.c), (.slice x5.2.1.A x5.2.1.n x5.2.1.c), (.slice x5.2.2.1.A x5.2.2.1.n x5.2.2.1.c), (.slice x5.2.2.2.A x5.2.2.2.n x5.2.2.2.c)] rfl ?_
    refine r_nil ?_
    refine j_then ?_
    refine j_seq ?_
    refine j_region ?_
    refine r_q (q_loadb_agg 0 rfl ag29 sz29 rfl rfl rfl rfl) rfl rfl ?_
    obtain ⟨v11, hb5, h⟩ := of_b1 h
    refine r_do (a_call ok20 rfl rfl rfl rfl (fun w hm => impl_LeakedOf.calls K v7 x5.1.A x5.1.n x5.1.c v8 x5.2.1.A x5.2.1.n x5.2.1.c v9 x5.2.2.1.A x5.2.2.1.n x5.2.2.1.c v10 x5.2.2.2.A x5.2.2.2.n x5.2.2.2.c hm x5.1.h (Rd.row 1 rfl) x5.2.1.h (Rd.row 2 rfl) x5.2.2.1.h (Rd.row 3 rfl) x5.2.2.2.h (Rd.row 4 rfl) (hm.roomI 4 rfl) hb5)) rfl rfl (fun x7 => ?_)
    refine r_q (q_assign rfl rfl) rfl rfl ?_
    refine r_nil ?_
    refine j_then ?_
    refine j_seq ?_
    refine j_seq ?_
    refine j_region ?_
    refine r_q (q_move rfl rfl) rfl rfl ?_
    refine r_q (q_move rfl rfl) rfl rfl ?_
    obtain ⟨v12, hb6, h⟩ := of_b1 h
    refine r_do (a_call ok31 rfl rfl rfl rfl (fun w hm => laws_eqIntS.calls K v11 x7.A x7.n x7.c v6 x4.A x4.n x4.c hm x7.h (Rd.row 0 rfl) x4.h (Rd.row 6 rfl) hb6)) rfl rfl (fun x8 => ?_)
    refine r_q (q_not rfl rfl) rfl rfl ?_
    refine r_nil ?_
    refine j_then ?_
    rcases of_if h with ⟨c2, h⟩ | ⟨c2, h⟩
    · refine j_false rfl (not_f c2) ?_
      refine j_skip ?_
      refine j_then ?_
      refine j_seq ?_
      refine j_seq ?_
      obtain ⟨v13, v14, v15, v16, hb7, h⟩ := of_b4 h
      obtain ⟨v17, hb8, h⟩ := of_b1 h
      refine j_draw (.row x7.A x7.c 3 1 (ii v11) :: .box x6 29 [(.slice x5.1.A x5.1.n x5.1.c), (.slice x5.2.1.A x5.2.1.n x5.2.1.c), (.slice x5.2.2.1.A x5.2.2.1.n x5.2.2.1.c), (.slice x5.2.2.2.A x5.2.2.2.n x5.2.2.2.c)] :: .row x5.1.A x5.1.c 3 1 (ii v7) :: .row x5.2.1.A x5.2.1.c 3 1 (ii v8) :: .row x5.2.2.1.A x5.2.2.1.c 3 1 (ii v9) :: .row x5.2.2.2.A x5.2.2.2.c 3 1 (ii v10) :: .row x4.A x4.c 3 1 (ii v6) :: .row x3.1.A x3.1.c 3 1 (ii v2) :: .row x3.2.1.A x3.2.1.c 3 1 (ii v3) :: .row x3.2.2.1.A x3.2.2.1.c 3 1 (ii v4) :: .row x3.2.2.2.A x3.2.2.2.c 3 1 (ii v5) :: .box x1 41 [(.slice a0_0_A a0_0_n a0_0_c), (.slice a0_1_A a0_1_n a0_1_c), (.slice a0_2_A a0_2_n a0_2_c), (.slice a0_3_A a0_3_n a0_3_c)] :: F) 5 follows_any rfl ?_
      refine d_take 0 rfl (q_loadb_agg 1 rfl ag29 sz29 rfl rfl rfl rfl) rfl rfl (by kernel_rfl) (by kernel_rfl) (by kernel_rfl) (fun w h => h) ?_
      refine d_take 1 rfl (q_loadb_agg 11 rfl ag41 sz41 rfl rfl rfl rfl) rfl rfl (by kernel_rfl) (by kernel_rfl) (by kernel_rfl) (fun w h => h) ?_
      refine d_one 2 (by kernel_rfl) ?_
      refine o_do rfl (a_call ok26 rfl rfl rfl rfl (fun w hm => laws_toStore.calls K a0_0 a0_0_A a0_0_n a0_0_c a0_1 a0_1_A a0_1_n a0_1_c a0_2 a0_2_A a0_2_n a0_2_c a0_3 a0_3_A a0_3_n a0_3_c hm a0_0_h (Rd.drop 12 a0_0_R) a0_1_h (Rd.drop 12 a0_1_R) a0_2_h (Rd.drop 12 a0_2_R) a0_3_h (Rd.drop 12 a0_3_R) hb7)) rfl rfl (fun x9 w h => (h.drop 4)) (fun x9 => ?_)
      refine d_one 3 (by kernel_rfl) ?_
      refine o_do rfl (a_call ok27 rfl rfl rfl rfl (fun w hm => laws_eqStore.calls K v7 x5.1.A x5.1.n x5.1.c v8 x5.2.1.A x5.2.1.n x5.2.1.c v9 x5.2.2.1.A x5.2.2.1.n x5.2.2.1.c v10 x5.2.2.2.A x5.2.2.2.n x5.2.2.2.c v13 x9.1.A x9.1.n x9.1.c v14 x9.2.1.A x9.2.1.n x9.2.1.c v15 x9.2.2.1.A x9.2.2.1.n x9.2.2.1.c v16 x9.2.2.2.A x9.2.2.2.n x9.2.2.2.c hm x5.1.h (Rd.row 6 rfl) x5.2.1.h (Rd.row 7 rfl) x5.2.2.1.h (Rd.row 8 rfl) x5.2.2.2.h (Rd.row 9 rfl) x9.1.h (Rd.row 0 rfl) x9.2.1.h (Rd.row 1 rfl) x9.2.2.1.h (Rd.row 2 rfl) x9.2.2.2.h (Rd.row 3 rfl) hb8)) rfl rfl (fun x10 w h => (h.drop 4)) (fun x10 => ?_)
      refine d_take 4 rfl (q_not rfl rfl) rfl rfl (by kernel_rfl) (by kernel_rfl) (by kernel_rfl) (fun w h => (h.drop 4)) ?_
      refine d_done (by kernel_rfl) ?_
      refine j_then ?_
      rcases of_if h with ⟨c3, h⟩ | ⟨c3, h⟩
      · refine j_false rfl (not_f c3) ?_
        refine j_skip ?_
        refine j_then ?_
        refine j_seq ?_
        refine j_region ?_
        refine r_q (q_assign rfl rfl) rfl rfl ?_
        refine r_nil ?_
        refine j_then ?_
        refine j_seq ?_
        refine j_region ?_
        refine r_q (q_loadb_agg 5 rfl ag29 sz29 rfl rfl rfl rfl) rfl rfl ?_
        refine r_q (q_move rfl rfl) rfl rfl ?_
        obtain ⟨v18, v19, v20, v21, v22, hb9, h⟩ := of_b5 h
        refine j_rs (.row x5.1.A x5.1.c 3 1 (ii v7) :: .row x5.2.1.A x5.2.1.c 3 1 (ii v8) :: .row x5.2.2.1.A x5.2.2.1.c 3 1 (ii v9) :: .row x5.2.2.2.A x5.2.2.2.c 3 1 (ii v10) :: .row x9.1.A x9.1.c 3 1 (ii v13) :: .row x9.2.1.A x9.2.1.c 3 1 (ii v14) :: .row x9.2.2.1.A x9.2.2.1.c 3 1 (ii v15) :: .row x9.2.2.2.A x9.2.2.2.c 3 1 (ii v16) :: .row x7.A x7.c 3 1 (ii v11) :: .box x6 29 [(.slice x5.1.A x5.1.n x5.1.c), (.slice x5.2.1.A x5.2.1.n x5.2.1.c), (.slice x5.2.2.1.A x5.2.2.1.n x5.2.2.1.c), (.slice x5.2.2.2.A x5.2.2.2.n x5.2.2.2.c)] :: .row x4.A x4.c 3 1 (ii v6) :: .row x3.1.A x3.1.c 3 1 (ii v2) :: .row x3.2.1.A x3.2.1.c 3 1 (ii v3) :: .row x3.2.2.1.A x3.2.2.1.c 3 1 (ii v4) :: .row x3.2.2.2.A x3.2.2.2.c 3 1 (ii v5) :: .box x1 41 [(.slice a0_0_A a0_0_n a0_0_c), (.slice a0_1_A a0_1_n a0_1_c), (.slice a0_2_A a0_2_n a0_2_c), (.slice a0_3_A a0_3_n a0_3_c)] :: F) (fun _ h => h.pick 16 [6, 7, 8, 9, 0, 1, 2, 3, 4, 5, 10, 11, 12, 13, 14, 15] rfl) ?_
        refine r_do (a_call ok28 rfl rfl rfl rfl (fun w hm => laws_markStore.calls K v7 x5.1.A x5.1.n x5.1.c v8 x5.2.1.A x5.2.1.n x5.2.1.c v9 x5.2.2.1.A x5.2.2.1.n x5.2.2.1.c v10 x5.2.2.2.A x5.2.2.2.n x5.2.2.2.c (1:Int) hm x5.1.h x5.2.1.h x5.2.2.1.h x5.2.2.2.h hb9)) rfl rfl (fun x11 => ?_)
        refine r_q (q_assign rfl rfl) rfl rfl ?_
        refine r_nil ?_
        refine j_then ?_
        refine j_seq ?_
        refine j_seq ?_
        refine j_region ?_
        refine r_q (q_move rfl rfl) rfl rfl ?_
        refine r_q (q_lss rfl rfl rfl) rfl rfl ?_
        refine r_q (q_move rfl rfl) rfl rfl ?_
        rcases of_if h with ⟨c4, h⟩ | ⟨c4, h⟩
        · refine r_off rfl rfl rfl rfl (decide_eq_true c4) rfl ?_
          refine r_off rfl rfl rfl rfl (decide_eq_true c4) rfl ?_
          refine r_off rfl rfl rfl rfl (decide_eq_true c4) rfl ?_
          refine r_off rfl rfl rfl rfl (decide_eq_true c4) rfl ?_
          refine r_q (q_pick_t rfl rfl (decide_eq_true c4) rfl) rfl rfl ?_
          refine r_nil ?_
          refine j_then ?_
          refine j_true rfl rfl ?_
          refine j_seq ?_
          refine j_region ?_
          refine r_q (q_assign rfl rfl) rfl rfl ?_
          refine r_nil ?_
          refine j_then ?_
          refine j_ret ?_
          refine j_then_ret ?_
          cases h
          exact j_return rfl (ResOf.tmp rfl ResOf.nil) rfl (fun w h => ⟨(), rfl, (h.drop 16)⟩)
        · refine r_qon (q_move rfl rfl) rfl rfl rfl rfl (decide_eq_false c4) rfl ?_
          refine r_qon (q_move rfl rfl) rfl rfl rfl rfl (decide_eq_false c4) rfl ?_
          obtain ⟨v23, hb10, h⟩ := of_b1 h
          refine r_on (a_call ok31 rfl rfl rfl rfl (fun w hm => laws_eqIntS.calls K v11 x7.A x7.n x7.c v6 x4.A x4.n x4.c hm x7.h (Rd.row 8 rfl) x4.h (Rd.row 10 rfl) hb10)) rfl rfl rfl rfl (decide_eq_false c4) rfl (fun x12 => ?_)
          refine r_qon (q_not rfl rfl) rfl rfl rfl rfl (decide_eq_false c4) rfl ?_
          refine r_q (q_pick_f rfl rfl (decide_eq_false c4) rfl) rfl rfl ?_
          refine r_nil ?_
          refine j_then ?_
          rcases of_if h with ⟨c5, h⟩ | ⟨c5, h⟩
          · refine j_false rfl (not_f c5) ?_
            refine j_skip ?_
            refine j_then ?_
            refine j_seq ?_
            refine j_region ?_
            refine r_q (q_assign rfl rfl) rfl rfl ?_
            refine r_nil ?_
            refine j_then ?_
            refine j_seq ?_
            refine j_region ?_
            refine r_q (q_move rfl rfl) rfl rfl ?_
            refine r_q (q_move rfl rfl) rfl rfl ?_
            obtain ⟨v24, v25, hb11, h⟩ := of_b2 h
            refine j_rs (.row x7.A x7.c 3 1 (ii v11) :: .row x5.1.A x5.1.c 3 1 (ii v19) :: .row x5.2.1.A x5.2.1.c 3 1 (ii v20) :: .row x5.2.2.1.A x5.2.2.1.c 3 1 (ii v21) :: .row x5.2.2.2.A x5.2.2.2.c 3 1 (ii v22) :: .row x9.1.A x9.1.c 3 1 (ii v13) :: .row x9.2.1.A x9.2.1.c 3 1 (ii v14) :: .row x9.2.2.1.A x9.2.2.1.c 3 1 (ii v15) :: .row x9.2.2.2.A x9.2.2.2.c 3 1 (ii v16) :: .box x6 29 [(.slice x5.1.A x5.1.n x5.1.c), (.slice x5.2.1.A x5.2.1.n x5.2.1.c), (.slice x5.2.2.1.A x5.2.2.1.n x5.2.2.1.c), (.slice x5.2.2.2.A x5.2.2.2.n x5.2.2.2.c)] :: .row x4.A x4.c 3 1 (ii v6) :: .row x3.1.A x3.1.c 3 1 (ii v2) :: .row x3.2.1.A x3.2.1.c 3 1 (ii v3) :: .row x3.2.2.1.A x3.2.2.1.c 3 1 (ii v4) :: .row x3.2.2.2.A x3.2.2.2.c 3 1 (ii v5) :: .box x1 41 [(.slice a0_0_A a0_0_n a0_0_c), (.slice a0_1_A a0_1_n a0_1_c), (.slice a0_2_A a0_2_n a0_2_c), (.slice a0_3_A a0_3_n a0_3_c)] :: F) (fun _ h => h.pick 16 [8, 0, 1, 2, 3, 4, 5, 6, 7, 9, 10, 11, 12, 13, 14, 15] rfl) ?_
            refine r_do (a_call ok32 rfl rfl rfl rfl (fun w hm => laws_markIntS.calls K v11 x7.A x7.n x7.c (1:Int) hm x7.h hb11)) rfl rfl (fun x13 => ?_)
            refine r_q (q_assign rfl rfl) rfl rfl ?_
            refine r_nil ?_
            refine j_then ?_
            refine j_seq ?_
            refine j_region ?_
            refine r_q (q_assign rfl rfl) rfl rfl ?_
            refine r_nil ?_
            refine j_then ?_
            refine j_seq ?_
            refine j_region ?_
            refine r_q (q_move rfl rfl) rfl rfl ?_
            refine r_q (q_move rfl rfl) rfl rfl ?_
            obtain ⟨v26, hb12, h⟩ := of_b1 h
            refine r_do (a_call ok33 rfl rfl rfl rfl (fun w hm => laws_heldIntS.calls K v25 x7.A x7.n x7.c (1:Int) hm (x13.h.trans x7.h) (Rd.row 0 rfl) hb12)) rfl rfl (fun x14 => ?_)
            refine r_q (q_assign rfl rfl) rfl rfl ?_
            refine r_nil ?_
            refine j_then ?_
            refine j_seq ?_
            refine j_seq ?_
            refine j_region ?_
            refine r_q (q_move rfl rfl) rfl rfl ?_
            refine r_q (q_lss rfl rfl rfl) rfl rfl ?_
            refine r_nil ?_
            refine j_then ?_
            rcases of_if h with ⟨c6, h⟩ | ⟨c6, h⟩
            · refine j_true rfl (decide_eq_true c6) ?_
              refine j_seq ?_
              refine j_region ?_
              refine r_q (q_assign rfl rfl) rfl rfl ?_
              refine r_nil ?_
              refine j_then ?_
              refine j_ret ?_
              refine j_then_ret ?_
              cases h
              exact j_return rfl (ResOf.tmp rfl ResOf.nil) rfl (fun w h => ⟨(), rfl, (h.drop 16)⟩)
            · refine j_false rfl (decide_eq_false c6) ?_
              refine j_skip ?_
              refine j_then ?_
              refine j_seq ?_
              refine j_seq ?_
              refine j_region ?_
              refine r_q (q_move rfl rfl) rfl rfl ?_
              refine r_q (q_move rfl rfl) rfl rfl ?_
              refine r_q (q_neq rfl rfl rfl) rfl rfl ?_
              refine r_nil ?_
              refine j_then ?_
              rcases of_if h with ⟨c7, h⟩ | ⟨c7, h⟩
              · refine j_false rfl (bne_f c7) ?_
                refine j_skip ?_
                refine j_then ?_
                refine j_seq ?_
                refine j_region ?_
                refine r_q (q_loadb_agg 15 rfl ag41 sz41 rfl rfl rfl rfl) rfl rfl ?_
                obtain ⟨v27, v28, v29, v30, hb13, h⟩ := of_b4 h
                refine r_do (a_call ok26 rfl rfl rfl rfl (fun w hm => laws_toStore.calls K a0_0 a0_0_A a0_0_n a0_0_c a0_1 a0_1_A a0_1_n a0_1_c a0_2 a0_2_A a0_2_n a0_2_c a0_3 a0_3_A a0_3_n a0_3_c hm a0_0_h (Rd.drop 16 a0_0_R) a0_1_h (Rd.drop 16 a0_1_R) a0_2_h (Rd.drop 16 a0_2_R) a0_3_h (Rd.drop 16 a0_3_R) hb13)) rfl rfl (fun x15 => ?_)
                obtain ⟨v31, hb14, h⟩ := of_b1 h
                refine r_do (a_call ok20 rfl rfl rfl rfl (fun w hm => impl_LeakedOf.calls K v27 x15.1.A x15.1.n x15.1.c v28 x15.2.1.A x15.2.1.n x15.2.1.c v29 x15.2.2.1.A x15.2.2.1.n x15.2.2.1.c v30 x15.2.2.2.A x15.2.2.2.n x15.2.2.2.c hm x15.1.h (Rd.row 0 rfl) x15.2.1.h (Rd.row 1 rfl) x15.2.2.1.h (Rd.row 2 rfl) x15.2.2.2.h (Rd.row 3 rfl) (hm.roomI 3 rfl) hb14)) rfl rfl (fun x16 => ?_)
                refine r_q (q_assign rfl rfl) rfl rfl ?_
                refine r_nil ?_
                refine j_then ?_
                refine j_seq ?_
                refine j_seq ?_
                refine j_region ?_
                refine r_q (q_move rfl rfl) rfl rfl ?_
                refine r_q (q_move rfl rfl) rfl rfl ?_
                obtain ⟨v32, hb15, h⟩ := of_b1 h
                refine r_do (a_call ok31 rfl rfl rfl rfl (fun w hm => laws_eqIntS.calls K v31 x16.A x16.n x16.c v6 x4.A x4.n x4.c hm x16.h (Rd.row 0 rfl) x4.h (Rd.row 15 rfl) hb15)) rfl rfl (fun x17 => ?_)
                refine r_q (q_not rfl rfl) rfl rfl ?_
                refine r_nil ?_
                refine j_then ?_
                rcases of_if h with ⟨c8, h⟩ | ⟨c8, h⟩
                · refine j_false rfl (not_f c8) ?_
                  refine j_skip ?_
                  refine j_then ?_
                  refine j_seq ?_
                  refine j_region ?_
                  refine r_q (q_assign rfl rfl) rfl rfl ?_
                  refine r_nil ?_
                  refine j_then ?_
                  refine j_seq ?_
                  refine j_region ?_
                  refine r_q (q_move rfl rfl) rfl rfl ?_
                  refine r_q (q_move rfl rfl) rfl rfl ?_
                  obtain ⟨v33, hb16, h⟩ := of_b1 h
                  refine r_do (a_call ok33 rfl rfl rfl rfl (fun w hm => laws_heldIntS.calls K v25 x7.A x7.n x7.c (1:Int) hm (x13.h.trans x7.h) (Rd.row 5 rfl) hb16)) rfl rfl (fun x18 => ?_)
                  refine r_q (q_assign rfl rfl) rfl rfl ?_
                  refine r_nil ?_
                  refine j_then ?_
                  refine j_seq ?_
                  refine j_seq ?_
                  refine j_region ?_
                  refine r_q (q_move rfl rfl) rfl rfl ?_
                  refine r_q (q_lss rfl rfl rfl) rfl rfl ?_
                  refine r_nil ?_
                  refine j_then ?_
                  rcases of_if h with ⟨c9, h⟩ | ⟨c9, h⟩
                  · refine j_true rfl (decide_eq_true c9) ?_
                    refine j_seq ?_
                    refine j_region ?_
                    refine r_q (q_assign rfl rfl) rfl rfl ?_
                    refine r_nil ?_
                    refine j_then ?_
                    refine j_ret ?_
                    refine j_then_ret ?_
                    cases h
                    exact j_return rfl (ResOf.tmp rfl ResOf.nil) rfl (fun w h => ⟨(), rfl, (h.drop 21)⟩)
                  · refine j_false rfl (decide_eq_false c9) ?_
                    refine j_skip ?_
                    refine j_then ?_
                    refine j_seq ?_
                    refine j_seq ?_
                    refine j_region ?_
                    refine r_q (q_move rfl rfl) rfl rfl ?_
                    refine r_q (q_move rfl rfl) rfl rfl ?_
                    refine r_q (q_neq rfl rfl rfl) rfl rfl ?_
                    refine r_nil ?_
                    refine j_then ?_
                    rcases of_if h with ⟨c10, h⟩ | ⟨c10, h⟩
                    · refine j_false rfl (bne_f c10) ?_
                      refine j_skip ?_
                      refine j_then ?_
                      refine j_seq ?_
                      refine j_region ?_
                      refine r_q (q_assign rfl rfl) rfl rfl ?_
                      refine r_nil ?_
                      refine j_then ?_
                      refine j_ret ?_
                      cases h
                      exact j_return rfl (ResOf.tmp rfl ResOf.nil) rfl (fun w h => ⟨(), rfl, (h.drop 21)⟩)
                    · refine j_true rfl (bne_t c10) ?_
                      refine j_seq ?_
                      refine j_region ?_
                      refine r_q (q_assign rfl rfl) rfl rfl ?_
                      refine r_nil ?_
                      refine j_then ?_
                      refine j_ret ?_
                      refine j_then_ret ?_
                      cases h
                      exact j_return rfl (ResOf.tmp rfl ResOf.nil) rfl (fun w h => ⟨(), rfl, (h.drop 21)⟩)
                · refine j_true rfl (not_t (var_f c8)) ?_
                  refine j_seq ?_
                  refine j_region ?_
                  refine r_q (q_assign rfl rfl) rfl rfl ?_
                  refine r_nil ?_
                  refine j_then ?_
                  refine j_ret ?_
                  refine j_then_ret ?_
                  cases h
                  exact j_return rfl (ResOf.tmp rfl ResOf.nil) rfl (fun w h => ⟨(), rfl, (h.drop 21)⟩)
              · refine j_true rfl (bne_t c7) ?_
                refine j_seq ?_
                refine j_region ?_
                refine r_q (q_assign rfl rfl) rfl rfl ?_
                refine r_nil ?_
                refine j_then ?_
                refine j_ret ?_
                refine j_then_ret ?_
                cases h
                exact j_return rfl (ResOf.tmp rfl ResOf.nil) rfl (fun w h => ⟨(), rfl, (h.drop 16)⟩)
          · refine j_true rfl (not_t (var_f c5)) ?_
            refine j_seq ?_
            refine j_region ?_
            refine r_q (q_assign rfl rfl) rfl rfl ?_
            refine r_nil ?_
            refine j_then ?_
            refine j_ret ?_
            refine j_then_ret ?_
            cases h
            exact j_return rfl (ResOf.tmp rfl ResOf.nil) rfl (fun w h => ⟨(), rfl, (h.drop 16)⟩)
      · refine j_true rfl (not_t (var_f c3)) ?_
        refine j_seq ?_
        refine j_region ?_
        refine r_q (q_assign rfl rfl) rfl rfl ?_
        refine r_nil ?_
        refine j_then ?_
        refine j_ret ?_
        refine j_then_ret ?_
        cases h
        exact j_return rfl (ResOf.tmp rfl ResOf.nil) rfl (fun w h => ⟨(), rfl, (h.drop 16)⟩)
    · refine j_true rfl (not_t (var_f c2)) ?_
      refine j_seq ?_
      refine j_region ?_
      refine r_q (q_assign rfl rfl) rfl rfl ?_
      refine r_nil ?_
      refine j_then ?_
      refine j_ret ?_
      refine j_then_ret ?_
      cases h
      exact j_return rfl (ResOf.tmp rfl ResOf.nil) rfl (fun w h => ⟨(), rfl, (h.drop 12)⟩)

end Go.Proofs.Ytigidjhdcplplaa.F
