/- The program computes these pure functions, printed by the generator of wip/gen. -/
import Derived.Test.YtcdcikmphonkfaaFa
import Derived.Test.YtcdcikmphonkfaaFi
import Derived.Test.YtcdcikmphonkfaaFb
import Derived.Test.YtcdcikmphonkfaaC0
import Derived.Test.YtcdcikmphonkfaaC2
import Derived.Test.YtcdcikmphonkfaaC3
import Derived.Test.YtcdcikmphonkfaaC4
import Derived.Test.YtcdcikmphonkfaaC6
import Derived.Test.YtcdcikmphonkfaaC8
import Derived.Test.YtcdcikmphonkfaaC11
import Derived.Test.YtcdcikmphonkfaaC13
import Derived.Test.YtcdcikmphonkfaaC15
import Derived.Test.YtcdcikmphonkfaaC17
namespace Go.Proofs.Ytcdcikmphonkfaa.F
open Go Go.RowKit Go.Proofs.Ytcdcikmphonkfaa.S
set_option linter.unusedVariables false
set_option maxRecDepth 100000
theorem spec_DrawShadeCell.calls (K : Nat) (a0 : List Int) (a0_A : Option Addr) (a0_n a0_c : Nat) {w0 w : World} {F : List Res} {r1 : List Int} {r2 : List Int} {r3 : List Int} {r4 : List Int} {r5 : Int} (hm : Mem w0 (F) w) (a0_h : a0.length = a0_n) (a0_R : Rd w0 F a0_A (ints .u8 a0)) (a0_k : a0.length ≤ a0_c) (h : spec_DrawShadeCell.f K a0 = some (r1, r2, r3, r4, r5)) :
    Calls Try.prog 15 (List.toArray [.slice a0_A a0_n a0_c]) w fun e w' => ∃ x : (Sl r1.length) × (Sl r2.length) × (Sl r3.length) × (Sl r4.length), e = .returned (.tuple (List.toArray [.agg (List.toArray [.slice x.1.A x.1.n x.1.c, .slice x.2.1.A x.2.1.n x.2.1.c, .slice x.2.2.1.A x.2.2.1.n x.2.2.1.c, .slice x.2.2.2.A x.2.2.2.n x.2.2.2.c]), i6 r5])) ∧ Mem w0 (.row x.1.A x.1.c 3 1 (ii r1) :: .row x.2.1.A x.2.1.c 3 1 (ii r2) :: .row x.2.2.1.A x.2.2.1.c 3 1 (ii r3) :: .row x.2.2.2.A x.2.2.2.c 3 1 (ii r4) :: F) w' := by
  unfold spec_DrawShadeCell.f at h
  refine calls_of_J (n := 10) Try.func15 rfl rfl rfl hm ?_
  refine j_seq ?_
  refine j_region ?_
  refine r_do (a_alloc zr27 rfl) rfl rfl (fun x1 => ?_)
  refine r_q (q_assign rfl rfl) rfl rfl ?_
  refine r_nil ?_
  refine j_then ?_
  refine j_seq ?_
  refine j_region ?_
  refine r_q (q_move rfl rfl) rfl rfl ?_
  obtain ⟨v1, v2, v3, v4, hb1, h⟩ := of_b4 h
  refine r_do (a_call ok53 rfl rfl rfl rfl (fun w hm => spec_l3Case.calls K a0 a0_A a0_n a0_c hm a0_h (Rd.drop 1 a0_R) a0_k hb1)) rfl rfl (fun x2 => ?_)
  refine r_q (q_move rfl rfl) rfl rfl ?_
  obtain ⟨_, hb2, h⟩ := of_b1 h
  refine r_do (a_call ok54 rfl rfl rfl rfl (fun w hm => spec_l13Open.calls K a0 a0_A a0_n a0_c hm a0_h (Rd.drop 5 a0_R) a0_k hb2)) rfl rfl (fun x3 => ?_)
  refine r_do (a_litX (vs := [(i6 (0:Int)), (i6 (1:Int)), (i6 (2:Int)), (i6 (3:Int)), (i6 (8:Int)), (i6 (-1:Int))]) (ii ([(0:Int), (1:Int), (2:Int), (3:Int), (8:Int), (-1:Int)] : List Int)) un23 sz3 zr3 rfl rfl rfl rfl rfl rfl rfl rfl rfl) rfl rfl (fun x4 => ?_)
  obtain ⟨v5, v6, hb3, h⟩ := of_b2 h
  refine j_rs (.box x3 94 [(.slice a0_A (a0.take 2000).length a0_c), (i6 (0:Int))] :: .row x4 6 3 1 (ii ([(0:Int), (1:Int), (2:Int), (3:Int), (8:Int), (-1:Int)] : List Int)) :: .row x2.1.A x2.1.c 3 1 (ii v1) :: .row x2.2.1.A x2.2.1.c 3 1 (ii v2) :: .row x2.2.2.1.A x2.2.2.1.c 3 1 (ii v3) :: .row x2.2.2.2.A x2.2.2.2.c 3 1 (ii v4) :: .box x1 27 [(.slice none 0 0), (.slice none 0 0), (.slice none 0 0), (.slice none 0 0)] :: F) (fun _ h => h.pick 7 [1, 0, 2, 3, 4, 5, 6] rfl) ?_
  refine r_do (a_call ok55 rfl rfl rfl rfl (fun w hm => spec_l13Rd_num.calls K x3 (a0.take 2000) a0_A (a0.take 2000).length a0_c (0:Int) ([(0:Int), (1:Int), (2:Int), (3:Int), (8:Int), (-1:Int)] : List Int) x4 6 6 hm rfl (rd_hiI (Rd.drop 6 a0_R) 2000) rfl (Rd.row 0 rfl) hb3)) rfl rfl (fun x5 => ?_)
  refine r_do (a_storeb 6 rfl sz27 rfl rfl rfl rfl (Nat.le_of_ble_eq_true rfl) rfl) rfl rfl (fun _ => ?_)
  refine j_b6 [(.slice x2.1.A x2.1.n x2.1.c), (.slice x2.2.1.A x2.2.1.n x2.2.1.c), (.slice x2.2.2.1.A x2.2.2.1.n x2.2.2.1.c), (.slice x2.2.2.2.A x2.2.2.2.n x2.2.2.2.c)] rfl ?_
  refine r_q (q_assign rfl rfl) rfl rfl ?_
  refine r_nil ?_
  refine j_then ?_
  refine j_ret ?_
  cases h
  exact j_return rfl (ResOf.cell 6 rfl rfl ag27 sz27 (ResOf.tmp rfl ResOf.nil)) rfl (fun w h => ⟨(⟨x2.1.A, x2.1.n, x2.1.c, x2.1.h⟩, ⟨x2.2.1.A, x2.2.1.n, x2.2.1.c, x2.2.1.h⟩, ⟨x2.2.2.1.A, x2.2.2.1.n, x2.2.2.1.c, x2.2.2.1.h⟩, ⟨x2.2.2.2.A, x2.2.2.2.n, x2.2.2.2.c, x2.2.2.2.h⟩), rfl, h.pick 7 [2, 3, 4, 5] rfl⟩)

theorem impl_ShadeCell.calls (K : Nat) (a0_0 : List Int) (a0_0_A : Option Addr) (a0_0_n a0_0_c : Nat) (a0_1 : List Int) (a0_1_A : Option Addr) (a0_1_n a0_1_c : Nat) (a0_2 : List Int) (a0_2_A : Option Addr) (a0_2_n a0_2_c : Nat) (a0_3 : List Int) (a0_3_A : Option Addr) (a0_3_n a0_3_c : Nat) (a1 : Int) {w0 w : World} {F : List Res} {r1 : List Int} {r2 : List Int} {r3 : List Int} {r4 : List Int} {r5 : Bool} (hm : Mem w0 (F) w) (a0_0_h : a0_0.length = a0_0_n) (a0_0_R : Rd w0 F a0_0_A (ii a0_0)) (a0_1_h : a0_1.length = a0_1_n) (a0_1_R : Rd w0 F a0_1_A (ii a0_1)) (a0_2_h : a0_2.length = a0_2_n) (a0_2_R : Rd w0 F a0_2_A (ii a0_2)) (a0_3_h : a0_3.length = a0_3_n) (a0_3_R : Rd w0 F a0_3_A (ii a0_3)) (h : impl_ShadeCell.f K a0_0 a0_1 a0_2 a0_3 a1 = some (r1, r2, r3, r4, r5)) :
    Calls Try.prog 16 (List.toArray [.agg (List.toArray [.slice a0_0_A a0_0_n a0_0_c, .slice a0_1_A a0_1_n a0_1_c, .slice a0_2_A a0_2_n a0_2_c, .slice a0_3_A a0_3_n a0_3_c]), i6 a1]) w fun e w' => ∃ x : (Sl r1.length) × (Sl r2.length) × (Sl r3.length) × (Sl r4.length), e = .returned (.tuple (List.toArray [.agg (List.toArray [.slice x.1.A x.1.n x.1.c, .slice x.2.1.A x.2.1.n x.2.1.c, .slice x.2.2.1.A x.2.2.1.n x.2.2.1.c, .slice x.2.2.2.A x.2.2.2.n x.2.2.2.c]), .bool r5])) ∧ Mem w0 (.row x.1.A x.1.c 3 1 (ii r1) :: .row x.2.1.A x.2.1.c 3 1 (ii r2) :: .row x.2.2.1.A x.2.2.1.c 3 1 (ii r3) :: .row x.2.2.2.A x.2.2.2.c 3 1 (ii r4) :: F) w' := by
  unfold impl_ShadeCell.f at h
  refine calls_of_J (n := 24) Try.func16 rfl rfl rfl hm ?_
  refine j_seq ?_
  refine j_region ?_
  refine r_do (a_box rfl rfl) rfl rfl (fun x1 => ?_)
  refine r_do (a_alloc zr27 rfl) rfl rfl (fun x2 => ?_)
  refine r_q (q_assign rfl rfl) rfl rfl ?_
  refine r_nil ?_
  refine j_then ?_
  refine j_seq ?_
  refine j_seq ?_
  refine j_region ?_
  refine r_q (q_loadb_agg 1 rfl ag27 sz27 rfl rfl rfl rfl) rfl rfl ?_
  obtain ⟨v1, hb1, h⟩ := of_b1 h
  refine r_do (a_call ok30 rfl rfl rfl rfl (fun w hm => impl_ColoredValid.calls K a0_0 a0_0_A a0_0_n a0_0_c a0_1 a0_1_A a0_1_n a0_1_c a0_2 a0_2_A a0_2_n a0_2_c a0_3 a0_3_A a0_3_n a0_3_c hm a0_0_h (Rd.drop 2 a0_0_R) a0_1_h (Rd.drop 2 a0_1_R) a0_2_h (Rd.drop 2 a0_2_R) a0_3_h (Rd.drop 2 a0_3_R) hb1)) rfl rfl (fun x3 => ?_)
  refine r_q (q_not rfl rfl) rfl rfl ?_
  refine r_q (q_move rfl rfl) rfl rfl ?_
  rcases of_if h with ⟨c1, h⟩ | ⟨c1, h⟩
  · refine r_qon (q_fieldAddr fi27_0 sz25 rfl rfl rfl) rfl rfl rfl rfl (not_f c1) rfl ?_
    refine r_qon (q_loadb_agg 1 rfl ag25 sz25 rfl rfl rfl rfl) rfl rfl rfl rfl (not_f c1) rfl ?_
    refine r_qon (q_move rfl rfl) rfl rfl rfl rfl (not_f c1) rfl ?_
    obtain ⟨v2, hb2, h⟩ := of_b1 h
    refine r_on (a_call ok56 rfl rfl rfl rfl (fun w hm => impl_has.calls K a0_0 a0_0_A a0_0_n a0_0_c a0_1 a0_1_A a0_1_n a0_1_c a0_2 a0_2_A a0_2_n a0_2_c a1 hm a0_0_h (Rd.drop 2 a0_0_R) a0_1_h (Rd.drop 2 a0_1_R) a0_2_h (Rd.drop 2 a0_2_R) hb2)) rfl rfl rfl rfl (not_f c1) rfl (fun x4 => ?_)
    refine r_qon (q_not rfl rfl) rfl rfl rfl rfl (not_f c1) rfl ?_
    refine r_q (q_pick_f rfl rfl (not_f c1) rfl) rfl rfl ?_
    refine r_nil ?_
    refine j_then ?_
    rcases of_if h with ⟨c2, h⟩ | ⟨c2, h⟩
    · refine j_false rfl (not_f c2) ?_
      refine j_skip ?_
      refine j_then ?_
      refine j_seq ?_
      refine j_region ?_
      refine r_q (q_loadb_agg 1 rfl ag27 sz27 rfl rfl rfl rfl) rfl rfl ?_
      obtain ⟨v3, v4, v5, v6, hb3, h⟩ := of_b4 h
      refine r_do (a_call ok57 rfl rfl rfl rfl (fun w hm => impl_fresh.calls K a0_0 a0_0_A a0_0_n a0_0_c a0_1 a0_1_A a0_1_n a0_1_c a0_2 a0_2_A a0_2_n a0_2_c a0_3 a0_3_A a0_3_n a0_3_c hm a0_0_h (Rd.drop 2 a0_0_R) a0_1_h (Rd.drop 2 a0_1_R) a0_2_h (Rd.drop 2 a0_2_R) a0_3_h (Rd.drop 2 a0_3_R) hb3)) rfl rfl (fun x5 => ?_)
      refine r_do (a_storeb 5 rfl sz27 rfl rfl rfl rfl (Nat.le_of_ble_eq_true rfl) rfl) rfl rfl (fun _ => ?_)
      refine j_b5 [(.slice x5.1.A x5.1.n x5.1.c), (.slice x5.2.1.A x5.2.1.n x5.2.1.c), (.slice x5.2.2.1.A x5.2.2.1.n x5.2.2.1.c), (.slice x5.2.2.2.A x5.2.2.2.n x5.2.2.2.c)] rfl ?_
      refine r_nil ?_
      refine j_then ?_
      refine j_seq ?_
      refine j_region ?_
      refine r_q (q_fieldAddr fi27_1 sz23 rfl rfl rfl) rfl rfl ?_
      refine r_q (q_loadb 5 rfl ag23 rfl rfl rfl) rfl rfl ?_
      refine r_q (q_move rfl rfl) rfl rfl ?_
      obtain ⟨v7, hb4, h⟩ := of_b1 h
      refine j_rs (.row x5.2.2.2.A x5.2.2.2.c 3 1 (ii v6) :: .row x5.1.A x5.1.c 3 1 (ii v3) :: .row x5.2.1.A x5.2.1.c 3 1 (ii v4) :: .row x5.2.2.1.A x5.2.2.1.c 3 1 (ii v5) :: .box x2 27 [(.slice none 0 0), (.slice none 0 0), (.slice none 0 0), (.slice none 0 0)] :: .box x1 27 [(.slice x5.1.A x5.1.n x5.1.c), (.slice x5.2.1.A x5.2.1.n x5.2.1.c), (.slice x5.2.2.1.A x5.2.2.1.n x5.2.2.1.c), (.slice x5.2.2.2.A x5.2.2.2.n x5.2.2.2.c)] :: F) (fun _ h => h.pick 6 [3, 0, 1, 2, 4, 5] rfl) ?_
      refine r_do (a_call ok58 rfl rfl rfl rfl (fun w hm => impl_shade.calls K v6 x5.2.2.2.A x5.2.2.2.n x5.2.2.2.c a1 hm x5.2.2.2.h hb4)) rfl rfl (fun x6 => ?_)
      refine r_nil ?_
      refine j_then ?_
      refine j_seq ?_
      refine j_region ?_
      refine r_q (q_loadb_agg 5 rfl ag27 sz27 rfl rfl rfl rfl) rfl rfl ?_
      refine r_do (a_storeb 4 rfl sz27 rfl rfl rfl rfl (Nat.le_of_ble_eq_true rfl) rfl) rfl rfl (fun _ => ?_)
      refine j_b4 [(.slice x5.1.A x5.1.n x5.1.c), (.slice x5.2.1.A x5.2.1.n x5.2.1.c), (.slice x5.2.2.1.A x5.2.2.1.n x5.2.2.1.c), (.slice x5.2.2.2.A x5.2.2.2.n x5.2.2.2.c)] rfl ?_
      refine r_q (q_assign rfl rfl) rfl rfl ?_
      refine r_nil ?_
      refine j_then ?_
      refine j_ret ?_
      cases h
      exact j_return rfl (ResOf.cell 4 rfl rfl ag27 sz27 (ResOf.tmp rfl ResOf.nil)) rfl (fun w h => ⟨(⟨x5.1.A, x5.1.n, x5.1.c, x5.1.h⟩, ⟨x5.2.1.A, x5.2.1.n, x5.2.1.c, x5.2.1.h⟩, ⟨x5.2.2.1.A, x5.2.2.1.n, x5.2.2.1.c, x5.2.2.1.h⟩, ⟨x5.2.2.2.A, x5.2.2.2.n, x5.2.2.2.c, (x6.h.trans x5.2.2.2.h)⟩), rfl, h.pick 6 [1, 2, 3, 0] rfl⟩)
    · refine j_true rfl (not_t (var_f c2)) ?_
      refine j_seq ?_
      refine j_region ?_
      refine r_q (q_build (cs := [(.slice none 0 0), (.slice none 0 0), (.slice none 0 0), (.slice none 0 0)]) zr27 pl27 rfl rfl rfl rfl) rfl rfl ?_
      refine r_do (a_storeb 0 rfl sz27 rfl rfl rfl rfl (Nat.le_of_ble_eq_true rfl) rfl) rfl rfl (fun _ => ?_)
      refine j_b0 [(.slice none 0 0), (.slice none 0 0), (.slice none 0 0), (.slice none 0 0)] rfl ?_
      refine r_q (q_assign rfl rfl) rfl rfl ?_
      refine r_nil ?_
      refine j_then ?_
      refine j_ret ?_
      refine j_then_ret ?_
      refine j_nil 3 1 ?_
      refine j_nil 3 1 ?_
      refine j_nil 3 1 ?_
      refine j_nil 3 1 ?_
      cases h
      exact j_return rfl (ResOf.cell 4 rfl rfl ag27 sz27 (ResOf.tmp rfl ResOf.nil)) rfl (fun w h => ⟨(⟨none, 0, 0, rfl⟩, ⟨none, 0, 0, rfl⟩, ⟨none, 0, 0, rfl⟩, ⟨none, 0, 0, rfl⟩), rfl, h.pick 6 [3, 2, 1, 0] rfl⟩)
  · refine r_off rfl rfl rfl rfl (not_t (var_f c1)) rfl ?_
    refine r_off rfl rfl rfl rfl (not_t (var_f c1)) rfl ?_
    refine r_off rfl rfl rfl rfl (not_t (var_f c1)) rfl ?_
    refine r_off rfl rfl rfl rfl (not_t (var_f c1)) rfl ?_
    refine r_off rfl rfl rfl rfl (not_t (var_f c1)) rfl ?_
    refine r_q (q_pick_t rfl rfl (not_t (var_f c1)) rfl) rfl rfl ?_
    refine r_nil ?_
    refine j_then ?_
    refine j_true rfl rfl ?_
    refine j_seq ?_
    refine j_region ?_
    refine r_q (q_build (cs := [(.slice none 0 0), (.slice none 0 0), (.slice none 0 0), (.slice none 0 0)]) zr27 pl27 rfl rfl rfl rfl) rfl rfl ?_
    refine r_do (a_storeb 0 rfl sz27 rfl rfl rfl rfl (Nat.le_of_ble_eq_true rfl) rfl) rfl rfl (fun _ => ?_)
    refine j_b0 [(.slice none 0 0), (.slice none 0 0), (.slice none 0 0), (.slice none 0 0)] rfl ?_
    refine r_q (q_assign rfl rfl) rfl rfl ?_
    refine r_nil ?_
    refine j_then ?_
    refine j_ret ?_
    refine j_then_ret ?_
    refine j_nil 3 1 ?_
    refine j_nil 3 1 ?_
    refine j_nil 3 1 ?_
    refine j_nil 3 1 ?_
    cases h
    exact j_return rfl (ResOf.cell 4 rfl rfl ag27 sz27 (ResOf.tmp rfl ResOf.nil)) rfl (fun w h => ⟨(⟨none, 0, 0, rfl⟩, ⟨none, 0, 0, rfl⟩, ⟨none, 0, 0, rfl⟩, ⟨none, 0, 0, rfl⟩), rfl, h.pick 6 [3, 2, 1, 0] rfl⟩)

theorem spec_ShadeCell.calls (K : Nat) (a0_0 : List Int) (a0_0_A : Option Addr) (a0_0_n a0_0_c : Nat) (a0_1 : List Int) (a0_1_A : Option Addr) (a0_1_n a0_1_c : Nat) (a0_2 : List Int) (a0_2_A : Option Addr) (a0_2_n a0_2_c : Nat) (a0_3 : List Int) (a0_3_A : Option Addr) (a0_3_n a0_3_c : Nat) (a1 : Int) {w0 w : World} {F : List Res} {r1 : List Int} {r2 : List Int} {r3 : List Int} {r4 : List Int} {r5 : Bool} (hm : Mem w0 (F) w) (a0_0_h : a0_0.length = a0_0_n) (a0_0_R : Rd w0 F a0_0_A (ii a0_0)) (a0_1_h : a0_1.length = a0_1_n) (a0_1_R : Rd w0 F a0_1_A (ii a0_1)) (a0_2_h : a0_2.length = a0_2_n) (a0_2_R : Rd w0 F a0_2_A (ii a0_2)) (a0_3_h : a0_3.length = a0_3_n) (a0_3_R : Rd w0 F a0_3_A (ii a0_3)) (h : spec_ShadeCell.f K a0_0 a0_1 a0_2 a0_3 a1 = some (r1, r2, r3, r4, r5)) :
    Calls Try.prog 17 (List.toArray [.agg (List.toArray [.slice a0_0_A a0_0_n a0_0_c, .slice a0_1_A a0_1_n a0_1_c, .slice a0_2_A a0_2_n a0_2_c, .slice a0_3_A a0_3_n a0_3_c]), i6 a1]) w fun e w' => ∃ x : (Sl r1.length) × (Sl r2.length) × (Sl r3.length) × (Sl r4.length), e = .returned (.tuple (List.toArray [.agg (List.toArray [.slice x.1.A x.1.n x.1.c, .slice x.2.1.A x.2.1.n x.2.1.c, .slice x.2.2.1.A x.2.2.1.n x.2.2.1.c, .slice x.2.2.2.A x.2.2.2.n x.2.2.2.c]), .bool r5])) ∧ Mem w0 (.row x.1.A x.1.c 3 1 (ii r1) :: .row x.2.1.A x.2.1.c 3 1 (ii r2) :: .row x.2.2.1.A x.2.2.1.c 3 1 (ii r3) :: .row x.2.2.2.A x.2.2.2.c 3 1 (ii r4) :: F) w' := by
  unfold spec_ShadeCell.f at h
  refine calls_of_J (n := 26) Try.func17 rfl rfl rfl hm ?_
  refine j_seq ?_
  refine j_region ?_
  refine r_do (a_box rfl rfl) rfl rfl (fun x1 => ?_)
  refine r_do (a_alloc zr27 rfl) rfl rfl (fun x2 => ?_)
  refine r_q (q_assign rfl rfl) rfl rfl ?_
  refine r_nil ?_
  refine j_then ?_
  refine j_seq ?_
  refine j_seq ?_
  refine j_region ?_
  refine r_q (q_loadb_agg 1 rfl ag27 sz27 rfl rfl rfl rfl) rfl rfl ?_
  obtain ⟨v1, hb1, h⟩ := of_b1 h
  refine r_do (a_call ok59 rfl rfl rfl rfl (fun w hm => spec_ColoredValid.calls K a0_0 a0_0_A a0_0_n a0_0_c a0_1 a0_1_A a0_1_n a0_1_c a0_2 a0_2_A a0_2_n a0_2_c a0_3 a0_3_A a0_3_n a0_3_c hm a0_0_h (Rd.drop 2 a0_0_R) a0_1_h (Rd.drop 2 a0_1_R) a0_2_h (Rd.drop 2 a0_2_R) a0_3_h (Rd.drop 2 a0_3_R) hb1)) rfl rfl (fun x3 => ?_)
  refine r_q (q_not rfl rfl) rfl rfl ?_
  refine r_q (q_move rfl rfl) rfl rfl ?_
  rcases of_if h with ⟨c1, h⟩ | ⟨c1, h⟩
  · refine r_qon (q_fieldAddr fi27_0 sz25 rfl rfl rfl) rfl rfl rfl rfl (not_f c1) rfl ?_
    refine r_qon (q_loadb_agg 1 rfl ag25 sz25 rfl rfl rfl rfl) rfl rfl rfl rfl (not_f c1) rfl ?_
    refine r_qon (q_move rfl rfl) rfl rfl rfl rfl (not_f c1) rfl ?_
    obtain ⟨v2, hb2, h⟩ := of_b1 h
    refine r_on (a_call ok60 rfl rfl rfl rfl (fun w hm => spec_l1Cell.calls K a0_0 a0_0_A a0_0_n a0_0_c a0_1 a0_1_A a0_1_n a0_1_c a0_2 a0_2_A a0_2_n a0_2_c a1 hm a0_0_h (Rd.drop 2 a0_0_R) a0_1_h (Rd.drop 2 a0_1_R) a0_2_h (Rd.drop 2 a0_2_R) hb2)) rfl rfl rfl rfl (not_f c1) rfl (fun x4 => ?_)
    refine r_qon (q_not rfl rfl) rfl rfl rfl rfl (not_f c1) rfl ?_
    refine r_q (q_pick_f rfl rfl (not_f c1) rfl) rfl rfl ?_
    refine r_nil ?_
    refine j_then ?_
    rcases of_if h with ⟨c2, h⟩ | ⟨c2, h⟩
    · refine j_false rfl (not_f c2) ?_
      refine j_skip ?_
      refine j_then ?_
      refine j_seq ?_
      refine j_region ?_
      refine r_q (q_loadb_agg 1 rfl ag27 sz27 rfl rfl rfl rfl) rfl rfl ?_
      obtain ⟨v3, v4, v5, v6, hb3, h⟩ := of_b4 h
      refine r_do (a_call ok61 rfl rfl rfl rfl (fun w hm => spec_l3Copy.calls K a0_0 a0_0_A a0_0_n a0_0_c a0_1 a0_1_A a0_1_n a0_1_c a0_2 a0_2_A a0_2_n a0_2_c a0_3 a0_3_A a0_3_n a0_3_c hm a0_0_h (Rd.drop 2 a0_0_R) a0_1_h (Rd.drop 2 a0_1_R) a0_2_h (Rd.drop 2 a0_2_R) a0_3_h (Rd.drop 2 a0_3_R) hb3)) rfl rfl (fun x5 => ?_)
      refine r_do (a_alloc zr27 rfl) rfl rfl (fun x6 => ?_)
      refine r_do (a_storeb 0 rfl sz27 rfl rfl rfl rfl (Nat.le_of_ble_eq_true rfl) rfl) rfl rfl (fun _ => ?_)
      refine j_b0 [(.slice x5.1.A x5.1.n x5.1.c), (.slice x5.2.1.A x5.2.1.n x5.2.1.c), (.slice x5.2.2.1.A x5.2.2.1.n x5.2.2.1.c), (.slice x5.2.2.2.A x5.2.2.2.n x5.2.2.2.c)] rfl ?_
      refine r_nil ?_
      refine j_then ?_
      refine j_seq ?_
      refine j_region ?_
      refine r_q (q_fieldAddr fi27_1 sz23 rfl rfl rfl) rfl rfl ?_
      refine r_q (q_loadb 0 rfl ag23 rfl rfl rfl) rfl rfl ?_
      refine r_q (q_move rfl rfl) rfl rfl ?_
      obtain ⟨v7, hb4, h⟩ := of_b1 h
      refine j_rs (.row x5.2.2.2.A x5.2.2.2.c 3 1 (ii v6) :: .box x6 27 [(.slice x5.1.A x5.1.n x5.1.c), (.slice x5.2.1.A x5.2.1.n x5.2.1.c), (.slice x5.2.2.1.A x5.2.2.1.n x5.2.2.1.c), (.slice x5.2.2.2.A x5.2.2.2.n x5.2.2.2.c)] :: .row x5.1.A x5.1.c 3 1 (ii v3) :: .row x5.2.1.A x5.2.1.c 3 1 (ii v4) :: .row x5.2.2.1.A x5.2.2.1.c 3 1 (ii v5) :: .box x2 27 [(.slice none 0 0), (.slice none 0 0), (.slice none 0 0), (.slice none 0 0)] :: .box x1 27 [(.slice a0_0_A a0_0_n a0_0_c), (.slice a0_1_A a0_1_n a0_1_c), (.slice a0_2_A a0_2_n a0_2_c), (.slice a0_3_A a0_3_n a0_3_c)] :: F) (fun _ h => h.pick 7 [4, 0, 1, 2, 3, 5, 6] rfl) ?_
      refine r_do (a_call ok62 rfl rfl rfl rfl (fun w hm => spec_l3Shade.calls K v6 x5.2.2.2.A x5.2.2.2.n x5.2.2.2.c a1 hm x5.2.2.2.h hb4)) rfl rfl (fun x7 => ?_)
      refine r_q (q_fieldAddr fi27_1 sz23 rfl rfl rfl) rfl rfl ?_
      refine r_do (a_storeb 1 rfl sz23 rfl rfl rfl rfl (Nat.le_of_ble_eq_true rfl) rfl) rfl rfl (fun _ => ?_)
      refine j_b1 [(.slice x5.1.A x5.1.n x5.1.c), (.slice x5.2.1.A x5.2.1.n x5.2.1.c), (.slice x5.2.2.1.A x5.2.2.1.n x5.2.2.1.c), (.slice x5.2.2.2.A x5.2.2.2.n x5.2.2.2.c)] rfl ?_
      refine r_nil ?_
      refine j_then ?_
      refine j_seq ?_
      refine j_region ?_
      refine r_q (q_loadb_agg 1 rfl ag27 sz27 rfl rfl rfl rfl) rfl rfl ?_
      refine r_do (a_storeb 5 rfl sz27 rfl rfl rfl rfl (Nat.le_of_ble_eq_true rfl) rfl) rfl rfl (fun _ => ?_)
      refine j_b5 [(.slice x5.1.A x5.1.n x5.1.c), (.slice x5.2.1.A x5.2.1.n x5.2.1.c), (.slice x5.2.2.1.A x5.2.2.1.n x5.2.2.1.c), (.slice x5.2.2.2.A x5.2.2.2.n x5.2.2.2.c)] rfl ?_
      refine r_q (q_assign rfl rfl) rfl rfl ?_
      refine r_nil ?_
      refine j_then ?_
      refine j_ret ?_
      cases h
      exact j_return rfl (ResOf.cell 5 rfl rfl ag27 sz27 (ResOf.tmp rfl ResOf.nil)) rfl (fun w h => ⟨(⟨x5.1.A, x5.1.n, x5.1.c, x5.1.h⟩, ⟨x5.2.1.A, x5.2.1.n, x5.2.1.c, x5.2.1.h⟩, ⟨x5.2.2.1.A, x5.2.2.1.n, x5.2.2.1.c, x5.2.2.1.h⟩, ⟨x5.2.2.2.A, x5.2.2.2.n, x5.2.2.2.c, (x7.h.trans x5.2.2.2.h)⟩), rfl, h.pick 7 [2, 3, 4, 0] rfl⟩)
    · refine j_true rfl (not_t (var_f c2)) ?_
      refine j_seq ?_
      refine j_region ?_
      refine r_q (q_build (cs := [(.slice none 0 0), (.slice none 0 0), (.slice none 0 0), (.slice none 0 0)]) zr27 pl27 rfl rfl rfl rfl) rfl rfl ?_
      refine r_do (a_storeb 0 rfl sz27 rfl rfl rfl rfl (Nat.le_of_ble_eq_true rfl) rfl) rfl rfl (fun _ => ?_)
      refine j_b0 [(.slice none 0 0), (.slice none 0 0), (.slice none 0 0), (.slice none 0 0)] rfl ?_
      refine r_q (q_assign rfl rfl) rfl rfl ?_
      refine r_nil ?_
      refine j_then ?_
      refine j_ret ?_
      refine j_then_ret ?_
      refine j_nil 3 1 ?_
      refine j_nil 3 1 ?_
      refine j_nil 3 1 ?_
      refine j_nil 3 1 ?_
      cases h
      exact j_return rfl (ResOf.cell 4 rfl rfl ag27 sz27 (ResOf.tmp rfl ResOf.nil)) rfl (fun w h => ⟨(⟨none, 0, 0, rfl⟩, ⟨none, 0, 0, rfl⟩, ⟨none, 0, 0, rfl⟩, ⟨none, 0, 0, rfl⟩), rfl, h.pick 6 [3, 2, 1, 0] rfl⟩)
  · refine r_off rfl rfl rfl rfl (not_t (var_f c1)) rfl ?_
    refine r_off rfl rfl rfl rfl (not_t (var_f c1)) rfl ?_
    refine r_off rfl rfl rfl rfl (not_t (var_f c1)) rfl ?_
    refine r_off rfl rfl rfl rfl (not_t (var_f c1)) rfl ?_
    refine r_off rfl rfl rfl rfl (not_t (var_f c1)) rfl ?_
    refine r_q (q_pick_t rfl rfl (not_t (var_f c1)) rfl) rfl rfl ?_
    refine r_nil ?_
    refine j_then ?_
    refine j_true rfl rfl ?_
    refine j_seq ?_
    refine j_region ?_
    refine r_q (q_build (cs := [(.slice none 0 0), (.slice none 0 0), (.slice none 0 0), (.slice none 0 0)]) zr27 pl27 rfl rfl rfl rfl) rfl rfl ?_
    refine r_do (a_storeb 0 rfl sz27 rfl rfl rfl rfl (Nat.le_of_ble_eq_true rfl) rfl) rfl rfl (fun _ => ?_)
    refine j_b0 [(.slice none 0 0), (.slice none 0 0), (.slice none 0 0), (.slice none 0 0)] rfl ?_
    refine r_q (q_assign rfl rfl) rfl rfl ?_
    refine r_nil ?_
    refine j_then ?_
    refine j_ret ?_
    refine j_then_ret ?_
    refine j_nil 3 1 ?_
    refine j_nil 3 1 ?_
    refine j_nil 3 1 ?_
    refine j_nil 3 1 ?_
    cases h
    exact j_return rfl (ResOf.cell 4 rfl rfl ag27 sz27 (ResOf.tmp rfl ResOf.nil)) rfl (fun w h => ⟨(⟨none, 0, 0, rfl⟩, ⟨none, 0, 0, rfl⟩, ⟨none, 0, 0, rfl⟩, ⟨none, 0, 0, rfl⟩), rfl, h.pick 6 [3, 2, 1, 0] rfl⟩)

theorem laws_FnShadeCell.calls (K : Nat) (a0 : List Int) (a0_A : Option Addr) (a0_n a0_c : Nat) {w0 w : World} {F : List Res} {r1 : Bool} (hm : Mem w0 (F) w) (a0_h : a0.length = a0_n) (a0_R : Rd w0 F a0_A (ints .u8 a0)) (a0_k : a0.length ≤ a0_c) (h : laws_FnShadeCell.f K a0 = some r1) :
    Calls Try.prog 3 (List.toArray [.slice a0_A a0_n a0_c]) w fun e w' => ∃ x : Unit, e = .returned (.bool r1) ∧ Mem w0 (F) w' := by
  unfold laws_FnShadeCell.f at h
  refine calls_of_J (n := 81) Try.func3 rfl rfl rfl hm ?_
  refine j_seq ?_
  refine j_region ?_
  refine r_q (q_assign rfl rfl) rfl rfl ?_
  refine r_nil ?_
  refine j_then ?_
  refine j_seq ?_
  refine j_seq ?_
  refine j_region ?_
  refine r_q (q_move rfl rfl) rfl rfl ?_
  refine r_q (q_lenX a0 a0_h un22 rfl rfl rfl rfl rfl) rfl rfl ?_
  refine r_q (q_gtr rfl rfl rfl) rfl rfl ?_
  refine r_nil ?_
  refine j_then ?_
  rcases of_if h with ⟨c1, h⟩ | ⟨c1, h⟩
  · refine j_true rfl (decide_eq_true c1) ?_
    refine j_seq ?_
    refine j_region ?_
    refine r_q (q_assign rfl rfl) rfl rfl ?_
    refine r_nil ?_
    refine j_then ?_
    refine j_ret ?_
    refine j_then_ret ?_
    cases h
    exact j_return rfl (ResOf.tmp rfl ResOf.nil) rfl (fun w h => ⟨(), rfl, h⟩)
  · refine j_false rfl (decide_eq_false c1) ?_
    refine j_skip ?_
    refine j_then ?_
    refine j_seq ?_
    refine j_region ?_
    refine r_q (q_move rfl rfl) rfl rfl ?_
    obtain ⟨v1, v2, v3, v4, v5, hb1, h⟩ := of_b5 h
    refine r_do (a_call ok15 rfl rfl rfl rfl (fun w hm => spec_DrawShadeCell.calls K a0 a0_A a0_n a0_c hm a0_h a0_R a0_k hb1)) rfl rfl (fun x1 => ?_)
    refine r_q (q_move rfl rfl) rfl rfl ?_
    refine r_q (q_extract rfl rfl rfl) rfl rfl ?_
    refine r_q (q_extract rfl rfl rfl) rfl rfl ?_
    refine r_do (a_alloc zr27 rfl) rfl rfl (fun x2 => ?_)
    refine r_do (a_storeb 0 rfl sz27 rfl rfl rfl rfl (Nat.le_of_ble_eq_true rfl) rfl) rfl rfl (fun _ => ?_)
    refine j_b0 [(.slice x1.1.A x1.1.n x1.1.c), (.slice x1.2.1.A x1.2.1.n x1.2.1.c), (.slice x1.2.2.1.A x1.2.2.1.n x1.2.2.1.c), (.slice x1.2.2.2.A x1.2.2.2.n x1.2.2.2.c)] rfl ?_
    refine r_q (q_assign rfl rfl) rfl rfl ?_
    refine r_nil ?_
    refine j_then ?_
    refine j_seq ?_
    refine j_region ?_
    refine r_q (q_loadb_agg 0 rfl ag27 sz27 rfl rfl rfl rfl) rfl rfl ?_
    refine r_q (q_move rfl rfl) rfl rfl ?_
    obtain ⟨v6, v7, v8, v9, v10, hb2, h⟩ := of_b5 h
    refine r_do (a_call ok16 rfl rfl rfl rfl (fun w hm => impl_ShadeCell.calls K v1 x1.1.A x1.1.n x1.1.c v2 x1.2.1.A x1.2.1.n x1.2.1.c v3 x1.2.2.1.A x1.2.2.1.n x1.2.2.1.c v4 x1.2.2.2.A x1.2.2.2.n x1.2.2.2.c v5 hm x1.1.h (Rd.row 1 rfl) x1.2.1.h (Rd.row 2 rfl) x1.2.2.1.h (Rd.row 3 rfl) x1.2.2.2.h (Rd.row 4 rfl) hb2)) rfl rfl (fun x3 => ?_)
    refine r_q (q_move rfl rfl) rfl rfl ?_
    refine r_q (q_extract rfl rfl rfl) rfl rfl ?_
    refine r_q (q_extract rfl rfl rfl) rfl rfl ?_
    refine r_do (a_alloc zr27 rfl) rfl rfl (fun x4 => ?_)
    refine r_do (a_storeb 0 rfl sz27 rfl rfl rfl rfl (Nat.le_of_ble_eq_true rfl) rfl) rfl rfl (fun _ => ?_)
    refine j_b0 [(.slice x3.1.A x3.1.n x3.1.c), (.slice x3.2.1.A x3.2.1.n x3.2.1.c), (.slice x3.2.2.1.A x3.2.2.1.n x3.2.2.1.c), (.slice x3.2.2.2.A x3.2.2.2.n x3.2.2.2.c)] rfl ?_
    refine r_q (q_assign rfl rfl) rfl rfl ?_
    refine r_nil ?_
    refine j_then ?_
    refine j_seq ?_
    refine j_region ?_
    refine r_q (q_loadb_agg 5 rfl ag27 sz27 rfl rfl rfl rfl) rfl rfl ?_
    refine r_q (q_move rfl rfl) rfl rfl ?_
    obtain ⟨v11, v12, v13, v14, v15, hb3, h⟩ := of_b5 h
    refine r_do (a_call ok17 rfl rfl rfl rfl (fun w hm => spec_ShadeCell.calls K v1 x1.1.A x1.1.n x1.1.c v2 x1.2.1.A x1.2.1.n x1.2.1.c v3 x1.2.2.1.A x1.2.2.1.n x1.2.2.1.c v4 x1.2.2.2.A x1.2.2.2.n x1.2.2.2.c v5 hm x1.1.h (Rd.row 6 rfl) x1.2.1.h (Rd.row 7 rfl) x1.2.2.1.h (Rd.row 8 rfl) x1.2.2.2.h (Rd.row 9 rfl) hb3)) rfl rfl (fun x5 => ?_)
    refine r_q (q_move rfl rfl) rfl rfl ?_
    refine r_q (q_extract rfl rfl rfl) rfl rfl ?_
    refine r_q (q_extract rfl rfl rfl) rfl rfl ?_
    refine r_do (a_alloc zr27 rfl) rfl rfl (fun x6 => ?_)
    refine r_do (a_storeb 0 rfl sz27 rfl rfl rfl rfl (Nat.le_of_ble_eq_true rfl) rfl) rfl rfl (fun _ => ?_)
    refine j_b0 [(.slice x5.1.A x5.1.n x5.1.c), (.slice x5.2.1.A x5.2.1.n x5.2.1.c), (.slice x5.2.2.1.A x5.2.2.1.n x5.2.2.1.c), (.slice x5.2.2.2.A x5.2.2.2.n x5.2.2.2.c)] rfl ?_
    refine r_q (q_assign rfl rfl) rfl rfl ?_
    refine r_nil ?_
    refine j_then ?_
    refine j_seq ?_
    refine j_seq ?_
    refine j_region ?_
    refine r_q (q_loadb_agg 5 rfl ag27 sz27 rfl rfl rfl rfl) rfl rfl ?_
    refine r_q (q_loadb_agg 0 rfl ag27 sz27 rfl rfl rfl rfl) rfl rfl ?_
    obtain ⟨v16, hb4, h⟩ := of_b1 h
    refine r_do (a_call ok18 rfl rfl rfl rfl (fun w hm => impl_ColoredSame.calls K v6 x3.1.A x3.1.n x3.1.c v7 x3.2.1.A x3.2.1.n x3.2.1.c v8 x3.2.2.1.A x3.2.2.1.n x3.2.2.1.c v9 x3.2.2.2.A x3.2.2.2.n x3.2.2.2.c v11 x5.1.A x5.1.n x5.1.c v12 x5.2.1.A x5.2.1.n x5.2.1.c v13 x5.2.2.1.A x5.2.2.1.n x5.2.2.1.c v14 x5.2.2.2.A x5.2.2.2.n x5.2.2.2.c hm x3.1.h (Rd.row 6 rfl) x3.2.1.h (Rd.row 7 rfl) x3.2.2.1.h (Rd.row 8 rfl) x3.2.2.2.h (Rd.row 9 rfl) x5.1.h (Rd.row 1 rfl) x5.2.1.h (Rd.row 2 rfl) x5.2.2.1.h (Rd.row 3 rfl) x5.2.2.2.h (Rd.row 4 rfl) hb4)) rfl rfl (fun x7 => ?_)
    refine r_q (q_not rfl rfl) rfl rfl ?_
    refine r_q (q_move rfl rfl) rfl rfl ?_
    rcases of_if h with ⟨c2, h⟩ | ⟨c2, h⟩
    · refine r_qon (q_move rfl rfl) rfl rfl rfl rfl (not_f c2) rfl ?_
      refine r_qon (q_move rfl rfl) rfl rfl rfl rfl (not_f c2) rfl ?_
      refine r_qon (q_bneq un4 rfl rfl rfl) rfl rfl rfl rfl (not_f c2) rfl ?_
      refine r_q (q_pick_f rfl rfl (not_f c2) rfl) rfl rfl ?_
      refine r_q (q_move rfl rfl) rfl rfl ?_
      rcases of_if h with ⟨c3, h⟩ | ⟨c3, h⟩
      · refine r_qon (q_move rfl rfl) rfl rfl rfl rfl (bne_f c3) rfl ?_
        refine r_qon (q_not rfl rfl) rfl rfl rfl rfl (bne_f c3) rfl ?_
        refine r_q (q_pick_f rfl rfl (bne_f c3) rfl) rfl rfl ?_
        refine r_nil ?_
        refine j_then ?_
        rcases of_if h with ⟨c4, h⟩ | ⟨c4, h⟩
        · refine j_false rfl (not_f c4) ?_
          refine j_skip ?_
          refine j_then ?_
          refine j_seq ?_
          obtain ⟨v17, hb5, h⟩ := of_b1 h
          obtain ⟨v18, hb6, h⟩ := of_b1 h
          refine j_draw (.box x6 27 [(.slice x5.1.A x5.1.n x5.1.c), (.slice x5.2.1.A x5.2.1.n x5.2.1.c), (.slice x5.2.2.1.A x5.2.2.1.n x5.2.2.1.c), (.slice x5.2.2.2.A x5.2.2.2.n x5.2.2.2.c)] :: .row x5.1.A x5.1.c 3 1 (ii v11) :: .row x5.2.1.A x5.2.1.c 3 1 (ii v12) :: .row x5.2.2.1.A x5.2.2.1.c 3 1 (ii v13) :: .row x5.2.2.2.A x5.2.2.2.c 3 1 (ii v14) :: .box x4 27 [(.slice x3.1.A x3.1.n x3.1.c), (.slice x3.2.1.A x3.2.1.n x3.2.1.c), (.slice x3.2.2.1.A x3.2.2.1.n x3.2.2.1.c), (.slice x3.2.2.2.A x3.2.2.2.n x3.2.2.2.c)] :: .row x3.1.A x3.1.c 3 1 (ii v6) :: .row x3.2.1.A x3.2.1.c 3 1 (ii v7) :: .row x3.2.2.1.A x3.2.2.1.c 3 1 (ii v8) :: .row x3.2.2.2.A x3.2.2.2.c 3 1 (ii v9) :: .box x2 27 [(.slice x1.1.A x1.1.n x1.1.c), (.slice x1.2.1.A x1.2.1.n x1.2.1.c), (.slice x1.2.2.1.A x1.2.2.1.n x1.2.2.1.c), (.slice x1.2.2.2.A x1.2.2.2.n x1.2.2.2.c)] :: .row x1.1.A x1.1.c 3 1 (ii v1) :: .row x1.2.1.A x1.2.1.c 3 1 (ii v2) :: .row x1.2.2.1.A x1.2.2.1.c 3 1 (ii v3) :: .row x1.2.2.2.A x1.2.2.2.c 3 1 (ii v4) :: F) 6 follows_any rfl ?_
          refine d_take 0 rfl (q_loadb_agg 5 rfl ag27 sz27 rfl rfl rfl rfl) rfl rfl (by kernel_rfl) (by kernel_rfl) (by kernel_rfl) (fun w h => h) ?_
          refine d_take 2 rfl (q_loadb_agg 10 rfl ag27 sz27 rfl rfl rfl rfl) rfl rfl (by kernel_rfl) (by kernel_rfl) (by kernel_rfl) (fun w h => h) ?_
          refine d_one 1 (by kernel_rfl) ?_
          refine o_do rfl (a_call ok19 rfl rfl rfl rfl (fun w hm => impl_CountColor.calls K v6 x3.1.A x3.1.n x3.1.c v7 x3.2.1.A x3.2.1.n x3.2.1.c v8 x3.2.2.1.A x3.2.2.1.n x3.2.2.1.c v9 x3.2.2.2.A x3.2.2.2.n x3.2.2.2.c (1:Int) hm x3.1.h (Rd.row 6 rfl) x3.2.1.h (Rd.row 7 rfl) x3.2.2.1.h (Rd.row 8 rfl) x3.2.2.2.h (Rd.row 9 rfl) hb5)) rfl rfl (fun x8 w h => h) (fun x8 => ?_)
          refine d_one 3 (by kernel_rfl) ?_
          refine o_do rfl (a_call ok19 rfl rfl rfl rfl (fun w hm => impl_CountColor.calls K v1 x1.1.A x1.1.n x1.1.c v2 x1.2.1.A x1.2.1.n x1.2.1.c v3 x1.2.2.1.A x1.2.2.1.n x1.2.2.1.c v4 x1.2.2.2.A x1.2.2.2.n x1.2.2.2.c (1:Int) hm x1.1.h (Rd.row 11 rfl) x1.2.1.h (Rd.row 12 rfl) x1.2.2.1.h (Rd.row 13 rfl) x1.2.2.2.h (Rd.row 14 rfl) hb6)) rfl rfl (fun x9 w h => h) (fun x9 => ?_)
          refine d_take 4 rfl (q_sub rfl rfl rfl) rfl rfl (by kernel_rfl) (by kernel_rfl) (by kernel_rfl) (fun w h => h) ?_
          refine d_take 5 rfl (q_assign rfl rfl) rfl rfl (by kernel_rfl) (by kernel_rfl) (by kernel_rfl) (fun w h => h) ?_
          refine d_done (by kernel_rfl) ?_
          refine j_then ?_
          refine j_seq ?_
          refine j_region ?_
          refine r_q (q_fieldAddr fi27_1 sz23 rfl rfl rfl) rfl rfl ?_
          refine r_q (q_loadb 5 rfl ag23 rfl rfl rfl) rfl rfl ?_
          refine r_q (q_move rfl rfl) rfl rfl ?_
          obtain ⟨c5, h⟩ := of_guard h
          refine r_q (q_ix (Rd.row 9 rfl) (ints_len1 _ v9) (by decide) x3.2.2.2.h c5 un23 sz3 rfl rfl rfl) rfl rfl ?_
          refine r_q (q_ldI (Rd.row 9 rfl) c5 ag3 rfl rfl) rfl rfl ?_
          refine r_q (q_neq rfl rfl rfl) rfl rfl ?_
          refine r_q (q_move rfl rfl) rfl rfl ?_
          rcases of_if h with ⟨c6, h⟩ | ⟨c6, h⟩
          · refine r_off rfl rfl rfl rfl (bne_f c6) rfl ?_
            refine r_off rfl rfl rfl rfl (bne_f c6) rfl ?_
            refine r_off rfl rfl rfl rfl (bne_f c6) rfl ?_
            refine r_off rfl rfl rfl rfl (bne_f c6) rfl ?_
            refine r_off rfl rfl rfl rfl (bne_f c6) rfl ?_
            refine r_off rfl rfl rfl rfl (bne_f c6) rfl ?_
            refine r_off rfl rfl rfl rfl (bne_f c6) rfl ?_
            refine r_off rfl rfl rfl rfl (bne_f c6) rfl ?_
            refine r_off rfl rfl rfl rfl (bne_f c6) rfl ?_
            refine r_q (q_pick_f rfl rfl (bne_f c6) rfl) rfl rfl ?_
            refine r_q (q_move rfl rfl) rfl rfl ?_
            refine r_off rfl rfl rfl rfl rfl rfl ?_
            refine r_off rfl rfl rfl rfl rfl rfl ?_
            refine r_off rfl rfl rfl rfl rfl rfl ?_
            refine r_offu rfl rfl rfl rfl rfl ?_
            refine r_offu rfl rfl rfl rfl rfl ?_
            refine r_off rfl rfl rfl rfl rfl rfl ?_
            refine r_q (q_pick_f rfl rfl rfl rfl) rfl rfl ?_
            refine r_q (q_assign rfl rfl) rfl rfl ?_
            refine r_nil ?_
            refine j_then ?_
            refine j_ret ?_
            cases h
            exact j_return rfl (ResOf.tmp rfl ResOf.nil) rfl (fun w h => ⟨(), rfl, (h.drop 15)⟩)
          · refine r_qon (q_move rfl rfl) rfl rfl rfl rfl (bne_t c6) rfl ?_
            refine r_qon (q_eql rfl rfl rfl) rfl rfl rfl rfl (bne_t c6) rfl ?_
            refine r_qon (q_fieldAddr fi27_1 sz23 rfl rfl rfl) rfl rfl rfl rfl (bne_t c6) rfl ?_
            refine r_qon (q_loadb 10 rfl ag23 rfl rfl rfl) rfl rfl rfl rfl (bne_t c6) rfl ?_
            refine r_qon (q_move rfl rfl) rfl rfl rfl rfl (bne_t c6) rfl ?_
            obtain ⟨c7, h⟩ := of_guard h
            refine r_qon (q_ix (Rd.row 14 rfl) (ints_len1 _ v4) (by decide) x1.2.2.2.h c7 un23 sz3 rfl rfl rfl) rfl rfl rfl rfl (bne_t c6) rfl ?_
            refine r_qon (q_ldI (Rd.row 14 rfl) c7 ag3 rfl rfl) rfl rfl rfl rfl (bne_t c6) rfl ?_
            refine r_qon (q_eql rfl rfl rfl) rfl rfl rfl rfl (bne_t c6) rfl ?_
            refine r_qon (q_beql un4 rfl rfl rfl) rfl rfl rfl rfl (bne_t c6) rfl ?_
            refine r_q (q_pick_t rfl rfl (bne_t c6) rfl) rfl rfl ?_
            refine r_q (q_move rfl rfl) rfl rfl ?_
            rcases of_if h with ⟨c8, h⟩ | ⟨c8, h⟩
            · refine r_qon (q_move rfl rfl) rfl rfl rfl rfl (beq_t c8) rfl ?_
              refine r_qon (q_eql rfl rfl rfl) rfl rfl rfl rfl (beq_t c8) rfl ?_
              refine r_qon (q_move rfl rfl) rfl rfl rfl rfl (beq_t c8) rfl ?_
              rcases of_if h with ⟨c9, h⟩ | ⟨c9, h⟩
              · refine r_off rfl rfl rfl rfl (beq_t c9) rfl ?_
                refine r_off rfl rfl rfl rfl (beq_t c9) rfl ?_
                refine r_qon (q_pick_t rfl rfl (beq_t c9) rfl) rfl rfl rfl rfl (beq_t c8) rfl ?_
                refine r_q (q_pick_t rfl rfl (beq_t c8) rfl) rfl rfl ?_
                refine r_q (q_assign rfl rfl) rfl rfl ?_
                refine r_nil ?_
                refine j_then ?_
                refine j_ret ?_
                cases h
                exact j_return rfl (ResOf.tmp rfl ResOf.nil) rfl (fun w h => ⟨(), rfl, (h.drop 15)⟩)
              · refine r_qon (q_move rfl rfl) rfl rfl rfl rfl (beq_f c9) rfl ?_
                refine r_qon (q_eql rfl rfl rfl) rfl rfl rfl rfl (beq_f c9) rfl ?_
                refine r_qon (q_pick_f rfl rfl (beq_f c9) rfl) rfl rfl rfl rfl (beq_t c8) rfl ?_
                refine r_q (q_pick_t rfl rfl (beq_t c8) rfl) rfl rfl ?_
                refine r_q (q_assign rfl rfl) rfl rfl ?_
                refine r_nil ?_
                refine j_then ?_
                refine j_ret ?_
                cases h
                exact j_return rfl (ResOf.tmp rfl ResOf.nil) rfl (fun w h => ⟨(), rfl, (h.drop 15)⟩)
            · refine r_off rfl rfl rfl rfl (beq_f c8) rfl ?_
              refine r_off rfl rfl rfl rfl (beq_f c8) rfl ?_
              refine r_off rfl rfl rfl rfl (beq_f c8) rfl ?_
              refine r_offu rfl rfl rfl rfl rfl ?_
              refine r_offu rfl rfl rfl rfl rfl ?_
              refine r_off rfl rfl rfl rfl (beq_f c8) rfl ?_
              refine r_q (q_pick_f rfl rfl (beq_f c8) rfl) rfl rfl ?_
              refine r_q (q_assign rfl rfl) rfl rfl ?_
              refine r_nil ?_
              refine j_then ?_
              refine j_ret ?_
              cases h
              exact j_return rfl (ResOf.tmp rfl ResOf.nil) rfl (fun w h => ⟨(), rfl, (h.drop 15)⟩)
        · refine j_true rfl (not_t (var_f c4)) ?_
          refine j_seq ?_
          refine j_region ?_
          refine r_q (q_loadb_agg 5 rfl ag27 sz27 rfl rfl rfl rfl) rfl rfl ?_
          refine r_q (q_loadb_agg 0 rfl ag27 sz27 rfl rfl rfl rfl) rfl rfl ?_
          obtain ⟨v19, hb7, h⟩ := of_b1 h
          refine r_do (a_call ok18 rfl rfl rfl rfl (fun w hm => impl_ColoredSame.calls K v6 x3.1.A x3.1.n x3.1.c v7 x3.2.1.A x3.2.1.n x3.2.1.c v8 x3.2.2.1.A x3.2.2.1.n x3.2.2.1.c v9 x3.2.2.2.A x3.2.2.2.n x3.2.2.2.c v11 x5.1.A x5.1.n x5.1.c v12 x5.2.1.A x5.2.1.n x5.2.1.c v13 x5.2.2.1.A x5.2.2.1.n x5.2.2.1.c v14 x5.2.2.2.A x5.2.2.2.n x5.2.2.2.c hm x3.1.h (Rd.row 6 rfl) x3.2.1.h (Rd.row 7 rfl) x3.2.2.1.h (Rd.row 8 rfl) x3.2.2.2.h (Rd.row 9 rfl) x5.1.h (Rd.row 1 rfl) x5.2.1.h (Rd.row 2 rfl) x5.2.2.1.h (Rd.row 3 rfl) x5.2.2.2.h (Rd.row 4 rfl) hb7)) rfl rfl (fun x10 => ?_)
          refine r_q (q_move rfl rfl) rfl rfl ?_
          rcases of_if h with ⟨c10, h⟩ | ⟨c10, h⟩
          · refine r_qon (q_move rfl rfl) rfl rfl rfl rfl c10 rfl ?_
            refine r_qon (q_move rfl rfl) rfl rfl rfl rfl c10 rfl ?_
            refine r_qon (q_beql un4 rfl rfl rfl) rfl rfl rfl rfl c10 rfl ?_
            refine r_q (q_pick_t rfl rfl c10 rfl) rfl rfl ?_
            refine r_q (q_assign rfl rfl) rfl rfl ?_
            refine r_nil ?_
            refine j_then ?_
            refine j_ret ?_
            refine j_then_ret ?_
            cases h
            exact j_return rfl (ResOf.tmp rfl ResOf.nil) rfl (fun w h => ⟨(), rfl, (h.drop 15)⟩)
          · refine r_off rfl rfl rfl rfl (var_f c10) rfl ?_
            refine r_off rfl rfl rfl rfl (var_f c10) rfl ?_
            refine r_off rfl rfl rfl rfl (var_f c10) rfl ?_
            refine r_q (q_pick_f rfl rfl (var_f c10) rfl) rfl rfl ?_
            refine r_q (q_assign rfl rfl) rfl rfl ?_
            refine r_nil ?_
            refine j_then ?_
            refine j_ret ?_
            refine j_then_ret ?_
            cases h
            exact j_return rfl (ResOf.tmp rfl ResOf.nil) rfl (fun w h => ⟨(), rfl, (h.drop 15)⟩)
      · refine r_off rfl rfl rfl rfl (bne_t c3) rfl ?_
        refine r_off rfl rfl rfl rfl (bne_t c3) rfl ?_
        refine r_q (q_pick_t rfl rfl (bne_t c3) rfl) rfl rfl ?_
        refine r_nil ?_
        refine j_then ?_
        refine j_true rfl rfl ?_
        refine j_seq ?_
        refine j_region ?_
        refine r_q (q_loadb_agg 5 rfl ag27 sz27 rfl rfl rfl rfl) rfl rfl ?_
        refine r_q (q_loadb_agg 0 rfl ag27 sz27 rfl rfl rfl rfl) rfl rfl ?_
        obtain ⟨v20, hb8, h⟩ := of_b1 h
        refine r_do (a_call ok18 rfl rfl rfl rfl (fun w hm => impl_ColoredSame.calls K v6 x3.1.A x3.1.n x3.1.c v7 x3.2.1.A x3.2.1.n x3.2.1.c v8 x3.2.2.1.A x3.2.2.1.n x3.2.2.1.c v9 x3.2.2.2.A x3.2.2.2.n x3.2.2.2.c v11 x5.1.A x5.1.n x5.1.c v12 x5.2.1.A x5.2.1.n x5.2.1.c v13 x5.2.2.1.A x5.2.2.1.n x5.2.2.1.c v14 x5.2.2.2.A x5.2.2.2.n x5.2.2.2.c hm x3.1.h (Rd.row 6 rfl) x3.2.1.h (Rd.row 7 rfl) x3.2.2.1.h (Rd.row 8 rfl) x3.2.2.2.h (Rd.row 9 rfl) x5.1.h (Rd.row 1 rfl) x5.2.1.h (Rd.row 2 rfl) x5.2.2.1.h (Rd.row 3 rfl) x5.2.2.2.h (Rd.row 4 rfl) hb8)) rfl rfl (fun x10 => ?_)
        refine r_q (q_move rfl rfl) rfl rfl ?_
        rcases of_if h with ⟨c11, h⟩ | ⟨c11, h⟩
        · refine r_qon (q_move rfl rfl) rfl rfl rfl rfl c11 rfl ?_
          refine r_qon (q_move rfl rfl) rfl rfl rfl rfl c11 rfl ?_
          refine r_qon (q_beql un4 rfl rfl rfl) rfl rfl rfl rfl c11 rfl ?_
          refine r_q (q_pick_t rfl rfl c11 rfl) rfl rfl ?_
          refine r_q (q_assign rfl rfl) rfl rfl ?_
          refine r_nil ?_
          refine j_then ?_
          refine j_ret ?_
          refine j_then_ret ?_
          cases h
          exact j_return rfl (ResOf.tmp rfl ResOf.nil) rfl (fun w h => ⟨(), rfl, (h.drop 15)⟩)
        · refine r_off rfl rfl rfl rfl (var_f c11) rfl ?_
          refine r_off rfl rfl rfl rfl (var_f c11) rfl ?_
          refine r_off rfl rfl rfl rfl (var_f c11) rfl ?_
          refine r_q (q_pick_f rfl rfl (var_f c11) rfl) rfl rfl ?_
          refine r_q (q_assign rfl rfl) rfl rfl ?_
          refine r_nil ?_
          refine j_then ?_
          refine j_ret ?_
          refine j_then_ret ?_
          cases h
          exact j_return rfl (ResOf.tmp rfl ResOf.nil) rfl (fun w h => ⟨(), rfl, (h.drop 15)⟩)
    · refine r_off rfl rfl rfl rfl (not_t (var_f c2)) rfl ?_
      refine r_off rfl rfl rfl rfl (not_t (var_f c2)) rfl ?_
      refine r_off rfl rfl rfl rfl (not_t (var_f c2)) rfl ?_
      refine r_q (q_pick_t rfl rfl (not_t (var_f c2)) rfl) rfl rfl ?_
      refine r_q (q_move rfl rfl) rfl rfl ?_
      refine r_off rfl rfl rfl rfl rfl rfl ?_
      refine r_off rfl rfl rfl rfl rfl rfl ?_
      refine r_q (q_pick_t rfl rfl rfl rfl) rfl rfl ?_
      refine r_nil ?_
      refine j_then ?_
      refine j_true rfl rfl ?_
      refine j_seq ?_
      refine j_region ?_
      refine r_q (q_loadb_agg 5 rfl ag27 sz27 rfl rfl rfl rfl) rfl rfl ?_
      refine r_q (q_loadb_agg 0 rfl ag27 sz27 rfl rfl rfl rfl) rfl rfl ?_
      obtain ⟨v21, hb9, h⟩ := of_b1 h
      refine r_do (a_call ok18 rfl rfl rfl rfl (fun w hm => impl_ColoredSame.calls K v6 x3.1.A x3.1.n x3.1.c v7 x3.2.1.A x3.2.1.n x3.2.1.c v8 x3.2.2.1.A x3.2.2.1.n x3.2.2.1.c v9 x3.2.2.2.A x3.2.2.2.n x3.2.2.2.c v11 x5.1.A x5.1.n x5.1.c v12 x5.2.1.A x5.2.1.n x5.2.1.c v13 x5.2.2.1.A x5.2.2.1.n x5.2.2.1.c v14 x5.2.2.2.A x5.2.2.2.n x5.2.2.2.c hm x3.1.h (Rd.row 6 rfl) x3.2.1.h (Rd.row 7 rfl) x3.2.2.1.h (Rd.row 8 rfl) x3.2.2.2.h (Rd.row 9 rfl) x5.1.h (Rd.row 1 rfl) x5.2.1.h (Rd.row 2 rfl) x5.2.2.1.h (Rd.row 3 rfl) x5.2.2.2.h (Rd.row 4 rfl) hb9)) rfl rfl (fun x10 => ?_)
      refine r_q (q_move rfl rfl) rfl rfl ?_
      rcases of_if h with ⟨c12, h⟩ | ⟨c12, h⟩
      · refine r_qon (q_move rfl rfl) rfl rfl rfl rfl c12 rfl ?_
        refine r_qon (q_move rfl rfl) rfl rfl rfl rfl c12 rfl ?_
        refine r_qon (q_beql un4 rfl rfl rfl) rfl rfl rfl rfl c12 rfl ?_
        refine r_q (q_pick_t rfl rfl c12 rfl) rfl rfl ?_
        refine r_q (q_assign rfl rfl) rfl rfl ?_
        refine r_nil ?_
        refine j_then ?_
        refine j_ret ?_
        refine j_then_ret ?_
        cases h
        exact j_return rfl (ResOf.tmp rfl ResOf.nil) rfl (fun w h => ⟨(), rfl, (h.drop 15)⟩)
      · refine r_off rfl rfl rfl rfl (var_f c12) rfl ?_
        refine r_off rfl rfl rfl rfl (var_f c12) rfl ?_
        refine r_off rfl rfl rfl rfl (var_f c12) rfl ?_
        refine r_q (q_pick_f rfl rfl (var_f c12) rfl) rfl rfl ?_
        refine r_q (q_assign rfl rfl) rfl rfl ?_
        refine r_nil ?_
        refine j_then ?_
        refine j_ret ?_
        refine j_then_ret ?_
        cases h
        exact j_return rfl (ResOf.tmp rfl ResOf.nil) rfl (fun w h => ⟨(), rfl, (h.drop 15)⟩)

end Go.Proofs.Ytcdcikmphonkfaa.F
