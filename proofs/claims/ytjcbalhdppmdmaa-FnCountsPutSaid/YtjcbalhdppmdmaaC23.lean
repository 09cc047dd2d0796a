/- The program computes these pure functions, printed by the generator of wip/gen. -/
import Derived.Test.YtjcbalhdppmdmaaFa
import Derived.Test.YtjcbalhdppmdmaaFb
import Derived.Test.YtjcbalhdppmdmaaC1
import Derived.Test.YtjcbalhdppmdmaaC4
import Derived.Test.YtjcbalhdppmdmaaC7
import Derived.Test.YtjcbalhdppmdmaaC8
import Derived.Test.YtjcbalhdppmdmaaC9
import Derived.Test.YtjcbalhdppmdmaaC11
import Derived.Test.YtjcbalhdppmdmaaC15
import Derived.Test.YtjcbalhdppmdmaaC17
namespace Go.Proofs.Ytjcbalhdppmdmaa.F
open Go Go.RowKit Go.Proofs.Ytjcbalhdppmdmaa.S
set_option linter.unusedVariables false
set_option maxRecDepth 100000
theorem spec_l1Case.calls (K : Nat) (a0 : List Int) (a0_A : Option Addr) (a0_n a0_c : Nat) {w0 w : World} {F : List Res} {r1 : List Int} {r2 : List Int} {r3 : List Int} {r4 : Int} {r5 : Int} (hm : Mem w0 (F) w) (a0_h : a0.length = a0_n) (a0_R : Rd w0 F a0_A (ints .u8 a0)) (a0_k : a0.length ≤ a0_c) (h : spec_l1Case.f K a0 = some (r1, r2, r3, r4, r5)) :
    Calls Try.prog 88 (List.toArray [.slice a0_A a0_n a0_c]) w fun e w' => ∃ x : (Sl r1.length) × (Sl r2.length) × (Sl r3.length), e = .returned (.tuple (List.toArray [.agg (List.toArray [.slice x.1.A x.1.n x.1.c, .slice x.2.1.A x.2.1.n x.2.1.c, .slice x.2.2.A x.2.2.n x.2.2.c]), i6 r4, i6 r5])) ∧ Mem w0 (.row x.1.A x.1.c 3 1 (ii r1) :: .row x.2.1.A x.2.1.c 3 1 (ii r2) :: .row x.2.2.A x.2.2.c 3 1 (ii r3) :: F) w' := by
  unfold spec_l1Case.f at h
  refine calls_of_J (n := 18) Try.func88 rfl rfl rfl hm ?_
  refine j_seq ?_
  refine j_region ?_
  refine r_do (a_alloc zr46 rfl) rfl rfl (fun x1 => ?_)
  refine r_q (q_assign rfl rfl) rfl rfl ?_
  refine r_q (q_assign rfl rfl) rfl rfl ?_
  refine j_rs (.box x1 46 [(.slice none 0 0), (.slice none 0 0), (.slice none 0 0)] :: F) (fun _ h => h) ?_
  refine r_nil ?_
  refine j_then ?_
  refine j_seq ?_
  refine j_region ?_
  refine r_q (q_move rfl rfl) rfl rfl ?_
  obtain ⟨_, hb1, h⟩ := of_b1 h
  refine r_do (a_call ok66 rfl rfl rfl rfl (fun w hm => spec_l13Open.calls K a0 a0_A a0_n a0_c hm a0_h (Rd.drop 1 a0_R) a0_k hb1)) rfl rfl (fun x2 => ?_)
  refine r_q (q_assign rfl rfl) rfl rfl ?_
  refine j_rs (.box x2 106 [(.slice a0_A (a0.take 2000).length a0_c), (i6 (0:Int))] :: .box x1 46 [(.slice none 0 0), (.slice none 0 0), (.slice none 0 0)] :: F) (fun _ h => h) ?_
  refine r_nil ?_
  refine j_then ?_
  refine j_seq ?_
  refine j_region ?_
  refine r_q (q_move rfl rfl) rfl rfl ?_
  refine r_q (q_move rfl rfl) rfl rfl ?_
  obtain ⟨v1, v2, v3, v4, hb2, h⟩ := of_b4 h
  refine r_do (a_call ok108 rfl rfl rfl rfl (fun w hm => spec_l1Draw.calls K x2 (a0.take 2000) a0_A (a0.take 2000).length a0_c (0:Int) hm rfl (rd_hiI (Rd.drop 1 a0_R) 2000) hb2)) rfl rfl (fun x3 => ?_)
  obtain ⟨v5, v6, v7, v8, hb3, h⟩ := of_b4 h
  refine j_rs (.box x2 106 [(.slice a0_A (a0.take 2000).length a0_c), (i6 v4)] :: .row x3.1.A x3.1.c 3 1 (ii v1) :: .row x3.2.1.A x3.2.1.c 3 1 (ii v2) :: .row x3.2.2.A x3.2.2.c 3 1 (ii v3) :: .box x1 46 [(.slice none 0 0), (.slice none 0 0), (.slice none 0 0)] :: F) (fun _ h => h.pick 5 [3, 0, 1, 2, 4] rfl) ?_
  refine r_do (a_call ok107 rfl rfl rfl rfl (fun w hm => spec_l1Wrong.calls K x2 (a0.take 2000) a0_A (a0.take 2000).length a0_c v4 v1 x3.1.A x3.1.n x3.1.c v2 x3.2.1.A x3.2.1.n x3.2.1.c v3 x3.2.2.A x3.2.2.n x3.2.2.c hm rfl (rd_hiI (Rd.drop 4 a0_R) 2000) x3.1.h (Rd.row 0 rfl) x3.2.1.h (Rd.row 1 rfl) x3.2.2.h (Rd.row 2 rfl) hb3)) rfl rfl (fun x4 => ?_)
  refine r_q (q_move rfl rfl) rfl rfl ?_
  refine r_do (a_litX (vs := [(i6 (0:Int)), (i6 (1:Int)), (i6 (2:Int)), (i6 (3:Int)), (i6 (0:Int)), (i6 (8:Int)), (i6 (-1:Int))]) (ii ([(0:Int), (1:Int), (2:Int), (3:Int), (0:Int), (8:Int), (-1:Int)] : List Int)) un32 sz3 zr3 rfl rfl rfl rfl rfl rfl rfl rfl rfl) rfl rfl (fun x5 => ?_)
  obtain ⟨v9, v10, hb4, h⟩ := of_b2 h
  refine j_rs (.box x2 106 [(.slice a0_A (a0.take 2000).length a0_c), (i6 v8)] :: .row x5 7 3 1 (ii ([(0:Int), (1:Int), (2:Int), (3:Int), (0:Int), (8:Int), (-1:Int)] : List Int)) :: .row x4.1.A x4.1.c 3 1 (ii v5) :: .row x4.2.1.A x4.2.1.c 3 1 (ii v6) :: .row x4.2.2.A x4.2.2.c 3 1 (ii v7) :: .row x3.1.A x3.1.c 3 1 (ii v1) :: .row x3.2.1.A x3.2.1.c 3 1 (ii v2) :: .row x3.2.2.A x3.2.2.c 3 1 (ii v3) :: .box x1 46 [(.slice none 0 0), (.slice none 0 0), (.slice none 0 0)] :: F) (fun _ h => h.pick 9 [4, 0, 1, 2, 3, 5, 6, 7, 8] rfl) ?_
  refine r_do (a_call ok69 rfl rfl rfl rfl (fun w hm => spec_l13Rd_num.calls K x2 (a0.take 2000) a0_A (a0.take 2000).length a0_c v8 ([(0:Int), (1:Int), (2:Int), (3:Int), (0:Int), (8:Int), (-1:Int)] : List Int) x5 7 7 hm rfl (rd_hiI (Rd.drop 8 a0_R) 2000) rfl (Rd.row 0 rfl) hb4)) rfl rfl (fun x6 => ?_)
  refine r_q (q_move rfl rfl) rfl rfl ?_
  refine r_do (a_litX (vs := [(i6 (1:Int)), (i6 (0:Int)), (i6 (2:Int)), (i6 (-1:Int)), (i6 (3:Int)), (i6 (8:Int)), (i6 (-2:Int))]) (ii ([(1:Int), (0:Int), (2:Int), (-1:Int), (3:Int), (8:Int), (-2:Int)] : List Int)) un32 sz3 zr3 rfl rfl rfl rfl rfl rfl rfl rfl rfl) rfl rfl (fun x7 => ?_)
  obtain ⟨v11, v12, hb5, h⟩ := of_b2 h
  refine j_rs (.box x2 106 [(.slice a0_A (a0.take 2000).length a0_c), (i6 v10)] :: .row x7 7 3 1 (ii ([(1:Int), (0:Int), (2:Int), (-1:Int), (3:Int), (8:Int), (-2:Int)] : List Int)) :: .row x5 7 3 1 (ii ([(0:Int), (1:Int), (2:Int), (3:Int), (0:Int), (8:Int), (-1:Int)] : List Int)) :: .row x4.1.A x4.1.c 3 1 (ii v5) :: .row x4.2.1.A x4.2.1.c 3 1 (ii v6) :: .row x4.2.2.A x4.2.2.c 3 1 (ii v7) :: .row x3.1.A x3.1.c 3 1 (ii v1) :: .row x3.2.1.A x3.2.1.c 3 1 (ii v2) :: .row x3.2.2.A x3.2.2.c 3 1 (ii v3) :: .box x1 46 [(.slice none 0 0), (.slice none 0 0), (.slice none 0 0)] :: F) (fun _ h => h.pick 10 [1, 0, 2, 3, 4, 5, 6, 7, 8, 9] rfl) ?_
  refine r_do (a_call ok69 rfl rfl rfl rfl (fun w hm => spec_l13Rd_num.calls K x2 (a0.take 2000) a0_A (a0.take 2000).length a0_c v10 ([(1:Int), (0:Int), (2:Int), (-1:Int), (3:Int), (8:Int), (-2:Int)] : List Int) x7 7 7 hm rfl (rd_hiI (Rd.drop 9 a0_R) 2000) rfl (Rd.row 0 rfl) hb5)) rfl rfl (fun x8 => ?_)
  refine r_do (a_storeb 9 rfl sz46 rfl rfl rfl rfl (Nat.le_of_ble_eq_true rfl) rfl) rfl rfl (fun _ => ?_)
  refine r_q (q_assign rfl rfl) rfl rfl ?_
  refine r_q (q_assign rfl rfl) rfl rfl ?_
  refine j_rs (.box x2 106 [(.slice a0_A (a0.take 2000).length a0_c), (i6 v12)] :: .row x7 7 3 1 (ii ([(1:Int), (0:Int), (2:Int), (-1:Int), (3:Int), (8:Int), (-2:Int)] : List Int)) :: .row x5 7 3 1 (ii ([(0:Int), (1:Int), (2:Int), (3:Int), (0:Int), (8:Int), (-1:Int)] : List Int)) :: .row x4.1.A x4.1.c 3 1 (ii v5) :: .row x4.2.1.A x4.2.1.c 3 1 (ii v6) :: .row x4.2.2.A x4.2.2.c 3 1 (ii v7) :: .row x3.1.A x3.1.c 3 1 (ii v1) :: .row x3.2.1.A x3.2.1.c 3 1 (ii v2) :: .row x3.2.2.A x3.2.2.c 3 1 (ii v3) :: .box x1 46 [(.slice x4.1.A x4.1.n x4.1.c), (.slice x4.2.1.A x4.2.1.n x4.2.1.c), (.slice x4.2.2.A x4.2.2.n x4.2.2.c)] :: F) (fun _ h => h) ?_
  refine r_nil ?_
  refine j_then ?_
  refine j_ret ?_
  cases h
  exact j_return rfl (ResOf.cell 9 rfl rfl ag46 sz46 (ResOf.tmp rfl (ResOf.tmp rfl ResOf.nil))) rfl (fun w h => ⟨(⟨x4.1.A, x4.1.n, x4.1.c, x4.1.h⟩, ⟨x4.2.1.A, x4.2.1.n, x4.2.1.c, x4.2.1.h⟩, ⟨x4.2.2.A, x4.2.2.n, x4.2.2.c, x4.2.2.h⟩), rfl, h.pick 10 [3, 4, 5] rfl⟩)

theorem spec_DrawPutRight.calls (K : Nat) (a0 : List Int) (a0_A : Option Addr) (a0_n a0_c : Nat) {w0 w : World} {F : List Res} {r1 : List Int} {r2 : List Int} {r3 : List Int} {r4 : Int} {r5 : Int} (hm : Mem w0 (F) w) (a0_h : a0.length = a0_n) (a0_R : Rd w0 F a0_A (ints .u8 a0)) (a0_k : a0.length ≤ a0_c) (h : spec_DrawPutRight.f K a0 = some (r1, r2, r3, r4, r5)) :
    Calls Try.prog 51 (List.toArray [.slice a0_A a0_n a0_c]) w fun e w' => ∃ x : (Sl r1.length) × (Sl r2.length) × (Sl r3.length), e = .returned (.tuple (List.toArray [.agg (List.toArray [.slice x.1.A x.1.n x.1.c, .slice x.2.1.A x.2.1.n x.2.1.c, .slice x.2.2.A x.2.2.n x.2.2.c]), i6 r4, i6 r5])) ∧ Mem w0 (.row x.1.A x.1.c 3 1 (ii r1) :: .row x.2.1.A x.2.1.c 3 1 (ii r2) :: .row x.2.2.A x.2.2.c 3 1 (ii r3) :: F) w' := by
  unfold spec_DrawPutRight.f at h
  refine calls_of_J (n := 10) Try.func51 rfl rfl rfl hm ?_
  refine j_seq ?_
  refine j_region ?_
  refine r_do (a_alloc zr46 rfl) rfl rfl (fun x1 => ?_)
  refine r_q (q_assign rfl rfl) rfl rfl ?_
  refine r_q (q_assign rfl rfl) rfl rfl ?_
  refine j_rs (.box x1 46 [(.slice none 0 0), (.slice none 0 0), (.slice none 0 0)] :: F) (fun _ h => h) ?_
  refine r_nil ?_
  refine j_then ?_
  refine j_seq ?_
  refine j_region ?_
  refine r_q (q_move rfl rfl) rfl rfl ?_
  obtain ⟨v1, v2, v3, v4, v5, hb1, h⟩ := of_b5 h
  refine r_do (a_call ok88 rfl rfl rfl rfl (fun w hm => spec_l1Case.calls K a0 a0_A a0_n a0_c hm a0_h (Rd.drop 1 a0_R) a0_k hb1)) rfl rfl (fun x2 => ?_)
  refine r_q (q_extract rfl rfl rfl) rfl rfl ?_
  refine r_q (q_extract rfl rfl rfl) rfl rfl ?_
  refine r_q (q_extract rfl rfl rfl) rfl rfl ?_
  refine r_do (a_storeb 3 rfl sz46 rfl rfl rfl rfl (Nat.le_of_ble_eq_true rfl) rfl) rfl rfl (fun _ => ?_)
  refine r_q (q_assign rfl rfl) rfl rfl ?_
  refine r_q (q_assign rfl rfl) rfl rfl ?_
  refine j_rs (.row x2.1.A x2.1.c 3 1 (ii v1) :: .row x2.2.1.A x2.2.1.c 3 1 (ii v2) :: .row x2.2.2.A x2.2.2.c 3 1 (ii v3) :: .box x1 46 [(.slice x2.1.A x2.1.n x2.1.c), (.slice x2.2.1.A x2.2.1.n x2.2.1.c), (.slice x2.2.2.A x2.2.2.n x2.2.2.c)] :: F) (fun _ h => h) ?_
  refine r_nil ?_
  refine j_then ?_
  refine j_ret ?_
  cases h
  exact j_return rfl (ResOf.cell 3 rfl rfl ag46 sz46 (ResOf.tmp rfl (ResOf.tmp rfl ResOf.nil))) rfl (fun w h => ⟨(⟨x2.1.A, x2.1.n, x2.1.c, x2.1.h⟩, ⟨x2.2.1.A, x2.2.1.n, x2.2.1.c, x2.2.1.h⟩, ⟨x2.2.2.A, x2.2.2.n, x2.2.2.c, x2.2.2.h⟩), rfl, h.pick 4 [0, 1, 2] rfl⟩)

theorem impl_pointer.calls (K : Nat) (a0_0 : List Int) (a0_0_A : Option Addr) (a0_0_n a0_0_c : Nat) (a0_1_A : Option Addr) (a0_1_n a0_1_c : Nat) (a0_2_A : Option Addr) (a0_2_n a0_2_c : Nat) (a1 : Int) {w0 w : World} {F : List Res} {r1 : Bool} (hm : Mem w0 (F) w) (a0_0_h : a0_0.length = a0_0_n) (a0_0_R : Rd w0 F a0_0_A (ii a0_0)) (h : impl_pointer.f K a0_0 a1 = some r1) :
    Calls Try.prog 90 (List.toArray [.agg (List.toArray [.slice a0_0_A a0_0_n a0_0_c, .slice a0_1_A a0_1_n a0_1_c, .slice a0_2_A a0_2_n a0_2_c]), i6 a1]) w fun e w' => ∃ x : Unit, e = .returned (.bool r1) ∧ Mem w0 (F) w' := by
  unfold impl_pointer.f at h
  refine calls_of_J (n := 14) Try.func90 rfl rfl rfl hm ?_
  refine j_seq ?_
  refine j_region ?_
  refine r_do (a_box rfl rfl) rfl rfl (fun x1 => ?_)
  refine r_q (q_assign rfl rfl) rfl rfl ?_
  refine j_rs (.box x1 46 [(.slice a0_0_A a0_0_n a0_0_c), (.slice a0_1_A a0_1_n a0_1_c), (.slice a0_2_A a0_2_n a0_2_c)] :: F) (fun _ h => h) ?_
  refine r_nil ?_
  refine j_then ?_
  refine j_seq ?_
  refine j_region ?_
  refine r_q (q_move rfl rfl) rfl rfl ?_
  refine r_q (q_geq rfl rfl rfl) rfl rfl ?_
  refine r_q (q_move rfl rfl) rfl rfl ?_
  rcases of_if h with ⟨c1, h⟩ | ⟨c1, h⟩
  · refine r_qon (q_move rfl rfl) rfl rfl rfl rfl (decide_eq_true c1) rfl ?_
    refine r_qon (q_fieldAddr fi46_0 sz32 rfl rfl rfl) rfl rfl rfl rfl (decide_eq_true c1) rfl ?_
    refine r_qon (q_loadb 0 rfl ag32 rfl rfl rfl) rfl rfl rfl rfl (decide_eq_true c1) rfl ?_
    refine r_qon (q_lenX a0_0 a0_0_h un32 rfl rfl rfl rfl rfl) rfl rfl rfl rfl (decide_eq_true c1) rfl ?_
    refine r_qon (q_lss rfl rfl rfl) rfl rfl rfl rfl (decide_eq_true c1) rfl ?_
    refine r_q (q_pick_t rfl rfl (decide_eq_true c1) rfl) rfl rfl ?_
    refine r_q (q_assign rfl rfl) rfl rfl ?_
    refine r_nil ?_
    refine j_then ?_
    refine j_ret ?_
    cases h
    exact j_return rfl (ResOf.tmp rfl ResOf.nil) rfl (fun w h => ⟨(), rfl, h.tail⟩)
  · refine r_off rfl rfl rfl rfl (decide_eq_false c1) rfl ?_
    refine r_off rfl rfl rfl rfl (decide_eq_false c1) rfl ?_
    refine r_off rfl rfl rfl rfl (decide_eq_false c1) rfl ?_
    refine r_off rfl rfl rfl rfl (decide_eq_false c1) rfl ?_
    refine r_off rfl rfl rfl rfl (decide_eq_false c1) rfl ?_
    refine r_q (q_pick_f rfl rfl (decide_eq_false c1) rfl) rfl rfl ?_
    refine r_q (q_assign rfl rfl) rfl rfl ?_
    refine r_nil ?_
    refine j_then ?_
    refine j_ret ?_
    cases h
    exact j_return rfl (ResOf.tmp rfl ResOf.nil) rfl (fun w h => ⟨(), rfl, h.tail⟩)

theorem impl_PutRight.calls (K : Nat) (a0_0 : List Int) (a0_0_A : Option Addr) (a0_0_n a0_0_c : Nat) (a0_1 : List Int) (a0_1_A : Option Addr) (a0_1_n a0_1_c : Nat) (a0_2 : List Int) (a0_2_A : Option Addr) (a0_2_n a0_2_c : Nat) (a1 : Int) (a2 : Int) {w0 w : World} {F : List Res} {r1 : List Int} {r2 : List Int} {r3 : List Int} {r4 : Bool} (hm : Mem w0 (F) w) (a0_0_h : a0_0.length = a0_0_n) (a0_0_R : Rd w0 F a0_0_A (ii a0_0)) (a0_1_h : a0_1.length = a0_1_n) (a0_1_R : Rd w0 F a0_1_A (ii a0_1)) (a0_2_h : a0_2.length = a0_2_n) (a0_2_R : Rd w0 F a0_2_A (ii a0_2)) (h : impl_PutRight.f K a0_0 a0_1 a0_2 a1 a2 = some (r1, r2, r3, r4)) :
    Calls Try.prog 52 (List.toArray [.agg (List.toArray [.slice a0_0_A a0_0_n a0_0_c, .slice a0_1_A a0_1_n a0_1_c, .slice a0_2_A a0_2_n a0_2_c]), i6 a1, i6 a2]) w fun e w' => ∃ x : (Sl r1.length) × (Sl r2.length) × (Sl r3.length), e = .returned (.tuple (List.toArray [.agg (List.toArray [.slice x.1.A x.1.n x.1.c, .slice x.2.1.A x.2.1.n x.2.1.c, .slice x.2.2.A x.2.2.n x.2.2.c]), .bool r4])) ∧ Mem w0 (.row x.1.A x.1.c 3 1 (ii r1) :: .row x.2.1.A x.2.1.c 3 1 (ii r2) :: .row x.2.2.A x.2.2.c 3 1 (ii r3) :: F) w' := by
  unfold impl_PutRight.f at h
  refine calls_of_J (n := 27) Try.func52 rfl rfl rfl hm ?_
  refine j_seq ?_
  refine j_region ?_
  refine r_do (a_box rfl rfl) rfl rfl (fun x1 => ?_)
  refine r_do (a_alloc zr46 rfl) rfl rfl (fun x2 => ?_)
  refine r_q (q_assign rfl rfl) rfl rfl ?_
  refine j_rs (.box x2 46 [(.slice none 0 0), (.slice none 0 0), (.slice none 0 0)] :: .box x1 46 [(.slice a0_0_A a0_0_n a0_0_c), (.slice a0_1_A a0_1_n a0_1_c), (.slice a0_2_A a0_2_n a0_2_c)] :: F) (fun _ h => h) ?_
  refine r_nil ?_
  refine j_then ?_
  refine j_seq ?_
  refine j_seq ?_
  refine j_region ?_
  refine r_q (q_loadb_agg 1 rfl ag46 sz46 rfl rfl rfl rfl) rfl rfl ?_
  refine r_q (q_move rfl rfl) rfl rfl ?_
  obtain ⟨v1, hb1, h⟩ := of_b1 h
  refine r_do (a_call ok89 rfl rfl rfl rfl (fun w hm => impl_has.calls K a0_0 a0_0_A a0_0_n a0_0_c a0_1 a0_1_A a0_1_n a0_1_c a0_2 a0_2_A a0_2_n a0_2_c a1 hm a0_0_h (Rd.drop 2 a0_0_R) a0_1_h (Rd.drop 2 a0_1_R) a0_2_h (Rd.drop 2 a0_2_R) hb1)) rfl rfl (fun x3 => ?_)
  refine r_q (q_not rfl rfl) rfl rfl ?_
  refine r_q (q_move rfl rfl) rfl rfl ?_
  rcases of_if h with ⟨c1, h⟩ | ⟨c1, h⟩
  · refine r_qon (q_loadb_agg 1 rfl ag46 sz46 rfl rfl rfl rfl) rfl rfl rfl rfl (not_f c1) rfl ?_
    refine r_qon (q_move rfl rfl) rfl rfl rfl rfl (not_f c1) rfl ?_
    obtain ⟨v2, hb2, h⟩ := of_b1 h
    refine r_on (a_call ok90 rfl rfl rfl rfl (fun w hm => impl_pointer.calls K a0_0 a0_0_A a0_0_n a0_0_c a0_1_A a0_1_n a0_1_c a0_2_A a0_2_n a0_2_c a2 hm a0_0_h (Rd.drop 2 a0_0_R) hb2)) rfl rfl rfl rfl (not_f c1) rfl (fun x4 => ?_)
    refine r_qon (q_not rfl rfl) rfl rfl rfl rfl (not_f c1) rfl ?_
    refine r_q (q_pick_f rfl rfl (not_f c1) rfl) rfl rfl ?_
    refine j_rs (.box x2 46 [(.slice none 0 0), (.slice none 0 0), (.slice none 0 0)] :: .box x1 46 [(.slice a0_0_A a0_0_n a0_0_c), (.slice a0_1_A a0_1_n a0_1_c), (.slice a0_2_A a0_2_n a0_2_c)] :: F) (fun _ h => h) ?_
    refine r_nil ?_
    refine j_then ?_
    rcases of_if h with ⟨c2, h⟩ | ⟨c2, h⟩
    · refine j_false rfl (not_f c2) ?_
      refine j_skip ?_
      refine j_then ?_
      refine j_seq ?_
      refine j_region ?_
      refine r_q (q_loadb_agg 1 rfl ag46 sz46 rfl rfl rfl rfl) rfl rfl ?_
      obtain ⟨v3, v4, v5, hb3, h⟩ := of_b3 h
      refine r_do (a_call ok91 rfl rfl rfl rfl (fun w hm => impl_copied.calls K a0_0 a0_0_A a0_0_n a0_0_c a0_1 a0_1_A a0_1_n a0_1_c a0_2 a0_2_A a0_2_n a0_2_c hm a0_0_h (Rd.drop 2 a0_0_R) a0_1_h (Rd.drop 2 a0_1_R) a0_2_h (Rd.drop 2 a0_2_R) hb3)) rfl rfl (fun x5 => ?_)
      refine r_do (a_storeb 4 rfl sz46 rfl rfl rfl rfl (Nat.le_of_ble_eq_true rfl) rfl) rfl rfl (fun _ => ?_)
      refine j_rs (.row x5.1.A x5.1.c 3 1 (ii v3) :: .row x5.2.1.A x5.2.1.c 3 1 (ii v4) :: .row x5.2.2.A x5.2.2.c 3 1 (ii v5) :: .box x2 46 [(.slice none 0 0), (.slice none 0 0), (.slice none 0 0)] :: .box x1 46 [(.slice x5.1.A x5.1.n x5.1.c), (.slice x5.2.1.A x5.2.1.n x5.2.1.c), (.slice x5.2.2.A x5.2.2.n x5.2.2.c)] :: F) (fun _ h => h) ?_
      refine r_nil ?_
      refine j_then ?_
      refine j_seq ?_
      refine j_region ?_
      refine r_q (q_fieldAddr fi46_1 sz32 rfl rfl rfl) rfl rfl ?_
      refine r_q (q_loadb 4 rfl ag32 rfl rfl rfl) rfl rfl ?_
      refine r_q (q_move rfl rfl) rfl rfl ?_
      refine r_q (q_move rfl rfl) rfl rfl ?_
      obtain ⟨c3, h⟩ := of_guard h
      refine r_q (q_ix (Rd.row 1 rfl) (ints_len1 _ v4) (by decide) x5.2.1.h c3 un32 sz3 rfl rfl rfl) rfl rfl ?_
      refine r_do (a_stI 1 rfl c3 sz3 rfl rfl rfl) rfl rfl (fun _ => ?_)
      refine j_rs (.row x5.1.A x5.1.c 3 1 (ii v3) :: .row x5.2.1.A x5.2.1.c 3 1 (ii (v4.set a1.toNat a2)) :: .row x5.2.2.A x5.2.2.c 3 1 (ii v5) :: .box x2 46 [(.slice none 0 0), (.slice none 0 0), (.slice none 0 0)] :: .box x1 46 [(.slice x5.1.A x5.1.n x5.1.c), (.slice x5.2.1.A x5.2.1.n x5.2.1.c), (.slice x5.2.2.A x5.2.2.n x5.2.2.c)] :: F) (fun _ h => h) ?_
      refine r_nil ?_
      refine j_then ?_
      refine j_seq ?_
      refine j_region ?_
      refine r_q (q_loadb_agg 4 rfl ag46 sz46 rfl rfl rfl rfl) rfl rfl ?_
      refine r_do (a_storeb 3 rfl sz46 rfl rfl rfl rfl (Nat.le_of_ble_eq_true rfl) rfl) rfl rfl (fun _ => ?_)
      refine r_q (q_assign rfl rfl) rfl rfl ?_
      refine j_rs (.row x5.1.A x5.1.c 3 1 (ii v3) :: .row x5.2.1.A x5.2.1.c 3 1 (ii (v4.set a1.toNat a2)) :: .row x5.2.2.A x5.2.2.c 3 1 (ii v5) :: .box x2 46 [(.slice x5.1.A x5.1.n x5.1.c), (.slice x5.2.1.A x5.2.1.n x5.2.1.c), (.slice x5.2.2.A x5.2.2.n x5.2.2.c)] :: .box x1 46 [(.slice x5.1.A x5.1.n x5.1.c), (.slice x5.2.1.A x5.2.1.n x5.2.1.c), (.slice x5.2.2.A x5.2.2.n x5.2.2.c)] :: F) (fun _ h => h) ?_
      refine r_nil ?_
      refine j_then ?_
      refine j_ret ?_
      cases h
      exact j_return rfl (ResOf.cell 3 rfl rfl ag46 sz46 (ResOf.tmp rfl ResOf.nil)) rfl (fun w h => ⟨(⟨x5.1.A, x5.1.n, x5.1.c, x5.1.h⟩, ⟨x5.2.1.A, x5.2.1.n, x5.2.1.c, (set_len x5.2.1.h _ _)⟩, ⟨x5.2.2.A, x5.2.2.n, x5.2.2.c, x5.2.2.h⟩), rfl, h.pick 5 [0, 1, 2] rfl⟩)
    · refine j_true rfl (not_t (var_f c2)) ?_
      refine j_seq ?_
      refine j_region ?_
      refine r_q (q_build (cs := [(.slice none 0 0), (.slice none 0 0), (.slice none 0 0)]) zr46 pl46 rfl rfl rfl rfl) rfl rfl ?_
      refine r_do (a_storeb 0 rfl sz46 rfl rfl rfl rfl (Nat.le_of_ble_eq_true rfl) rfl) rfl rfl (fun _ => ?_)
      refine r_q (q_assign rfl rfl) rfl rfl ?_
      refine j_rs (.box x2 46 [(.slice none 0 0), (.slice none 0 0), (.slice none 0 0)] :: .box x1 46 [(.slice a0_0_A a0_0_n a0_0_c), (.slice a0_1_A a0_1_n a0_1_c), (.slice a0_2_A a0_2_n a0_2_c)] :: F) (fun _ h => h) ?_
      refine r_nil ?_
      refine j_then ?_
      refine j_ret ?_
      refine j_then_ret ?_
      refine j_nil 3 1 ?_
      refine j_nil 3 1 ?_
      refine j_nil 3 1 ?_
      cases h
      exact j_return rfl (ResOf.cell 3 rfl rfl ag46 sz46 (ResOf.tmp rfl ResOf.nil)) rfl (fun w h => ⟨(⟨none, 0, 0, rfl⟩, ⟨none, 0, 0, rfl⟩, ⟨none, 0, 0, rfl⟩), rfl, h.pick 5 [2, 1, 0] rfl⟩)
  · refine r_off rfl rfl rfl rfl (not_t (var_f c1)) rfl ?_
    refine r_off rfl rfl rfl rfl (not_t (var_f c1)) rfl ?_
    refine r_off rfl rfl rfl rfl (not_t (var_f c1)) rfl ?_
    refine r_off rfl rfl rfl rfl (not_t (var_f c1)) rfl ?_
    refine r_q (q_pick_t rfl rfl (not_t (var_f c1)) rfl) rfl rfl ?_
    refine j_rs (.box x2 46 [(.slice none 0 0), (.slice none 0 0), (.slice none 0 0)] :: .box x1 46 [(.slice a0_0_A a0_0_n a0_0_c), (.slice a0_1_A a0_1_n a0_1_c), (.slice a0_2_A a0_2_n a0_2_c)] :: F) (fun _ h => h) ?_
    refine r_nil ?_
    refine j_then ?_
    refine j_true rfl rfl ?_
    refine j_seq ?_
    refine j_region ?_
    refine r_q (q_build (cs := [(.slice none 0 0), (.slice none 0 0), (.slice none 0 0)]) zr46 pl46 rfl rfl rfl rfl) rfl rfl ?_
    refine r_do (a_storeb 0 rfl sz46 rfl rfl rfl rfl (Nat.le_of_ble_eq_true rfl) rfl) rfl rfl (fun _ => ?_)
    refine r_q (q_assign rfl rfl) rfl rfl ?_
    refine j_rs (.box x2 46 [(.slice none 0 0), (.slice none 0 0), (.slice none 0 0)] :: .box x1 46 [(.slice a0_0_A a0_0_n a0_0_c), (.slice a0_1_A a0_1_n a0_1_c), (.slice a0_2_A a0_2_n a0_2_c)] :: F) (fun _ h => h) ?_
    refine r_nil ?_
    refine j_then ?_
    refine j_ret ?_
    refine j_then_ret ?_
    refine j_nil 3 1 ?_
    refine j_nil 3 1 ?_
    refine j_nil 3 1 ?_
    cases h
    exact j_return rfl (ResOf.cell 3 rfl rfl ag46 sz46 (ResOf.tmp rfl ResOf.nil)) rfl (fun w h => ⟨(⟨none, 0, 0, rfl⟩, ⟨none, 0, 0, rfl⟩, ⟨none, 0, 0, rfl⟩), rfl, h.pick 5 [2, 1, 0] rfl⟩)

theorem spec_l1Cell.calls (K : Nat) (a0_0 : List Int) (a0_0_A : Option Addr) (a0_0_n a0_0_c : Nat) (a0_1 : List Int) (a0_1_A : Option Addr) (a0_1_n a0_1_c : Nat) (a0_2 : List Int) (a0_2_A : Option Addr) (a0_2_n a0_2_c : Nat) (a1 : Int) {w0 w : World} {F : List Res} {r1 : Bool} (hm : Mem w0 (F) w) (a0_0_h : a0_0.length = a0_0_n) (a0_0_R : Rd w0 F a0_0_A (ii a0_0)) (a0_1_h : a0_1.length = a0_1_n) (a0_1_R : Rd w0 F a0_1_A (ii a0_1)) (a0_2_h : a0_2.length = a0_2_n) (a0_2_R : Rd w0 F a0_2_A (ii a0_2)) (h : spec_l1Cell.f K a0_0 a0_1 a0_2 a1 = some r1) :
    Calls Try.prog 92 (List.toArray [.agg (List.toArray [.slice a0_0_A a0_0_n a0_0_c, .slice a0_1_A a0_1_n a0_1_c, .slice a0_2_A a0_2_n a0_2_c]), i6 a1]) w fun e w' => ∃ x : Unit, e = .returned (.bool r1) ∧ Mem w0 (F) w' := by
  unfold spec_l1Cell.f at h
  refine calls_of_J (n := 18) Try.func92 rfl rfl rfl hm ?_
  refine j_seq ?_
  refine j_region ?_
  refine r_do (a_box rfl rfl) rfl rfl (fun x1 => ?_)
  refine r_q (q_assign rfl rfl) rfl rfl ?_
  refine j_rs (.box x1 46 [(.slice a0_0_A a0_0_n a0_0_c), (.slice a0_1_A a0_1_n a0_1_c), (.slice a0_2_A a0_2_n a0_2_c)] :: F) (fun _ h => h) ?_
  refine r_nil ?_
  refine j_then ?_
  refine j_seq ?_
  refine j_region ?_
  refine r_q (q_loadb_agg 0 rfl ag46 sz46 rfl rfl rfl rfl) rfl rfl ?_
  obtain ⟨v1, hb1, h⟩ := of_b1 h
  refine r_do (a_call ok75 rfl rfl rfl rfl (fun w hm => spec_HeapValid.calls K a0_0 a0_0_A a0_0_n a0_0_c a0_1 a0_1_A a0_1_n a0_1_c a0_2 a0_2_A a0_2_n a0_2_c hm a0_0_h (Rd.drop 1 a0_0_R) a0_1_h (Rd.drop 1 a0_1_R) a0_2_h (Rd.drop 1 a0_2_R) hb1)) rfl rfl (fun x2 => ?_)
  refine r_q (q_move rfl rfl) rfl rfl ?_
  rcases of_if h with ⟨c1, h⟩ | ⟨c1, h⟩
  · refine r_qon (q_move rfl rfl) rfl rfl rfl rfl c1 rfl ?_
    refine r_qon (q_geq rfl rfl rfl) rfl rfl rfl rfl c1 rfl ?_
    refine r_q (q_pick_t rfl rfl c1 rfl) rfl rfl ?_
    refine r_q (q_move rfl rfl) rfl rfl ?_
    rcases of_if h with ⟨c2, h⟩ | ⟨c2, h⟩
    · refine r_qon (q_move rfl rfl) rfl rfl rfl rfl (decide_eq_true c2) rfl ?_
      refine r_qon (q_fieldAddr fi46_0 sz32 rfl rfl rfl) rfl rfl rfl rfl (decide_eq_true c2) rfl ?_
      refine r_qon (q_loadb 0 rfl ag32 rfl rfl rfl) rfl rfl rfl rfl (decide_eq_true c2) rfl ?_
      refine r_qon (q_lenX a0_0 a0_0_h un32 rfl rfl rfl rfl rfl) rfl rfl rfl rfl (decide_eq_true c2) rfl ?_
      refine r_qon (q_lss rfl rfl rfl) rfl rfl rfl rfl (decide_eq_true c2) rfl ?_
      refine r_q (q_pick_t rfl rfl (decide_eq_true c2) rfl) rfl rfl ?_
      refine r_q (q_assign rfl rfl) rfl rfl ?_
      refine j_rs (.box x1 46 [(.slice a0_0_A a0_0_n a0_0_c), (.slice a0_1_A a0_1_n a0_1_c), (.slice a0_2_A a0_2_n a0_2_c)] :: F) (fun _ h => h) ?_
      refine r_nil ?_
      refine j_then ?_
      refine j_ret ?_
      cases h
      exact j_return rfl (ResOf.tmp rfl ResOf.nil) rfl (fun w h => ⟨(), rfl, h.tail⟩)
    · refine r_off rfl rfl rfl rfl (decide_eq_false c2) rfl ?_
      refine r_off rfl rfl rfl rfl (decide_eq_false c2) rfl ?_
      refine r_off rfl rfl rfl rfl (decide_eq_false c2) rfl ?_
      refine r_off rfl rfl rfl rfl (decide_eq_false c2) rfl ?_
      refine r_off rfl rfl rfl rfl (decide_eq_false c2) rfl ?_
      refine r_q (q_pick_f rfl rfl (decide_eq_false c2) rfl) rfl rfl ?_
      refine r_q (q_assign rfl rfl) rfl rfl ?_
      refine j_rs (.box x1 46 [(.slice a0_0_A a0_0_n a0_0_c), (.slice a0_1_A a0_1_n a0_1_c), (.slice a0_2_A a0_2_n a0_2_c)] :: F) (fun _ h => h) ?_
      refine r_nil ?_
      refine j_then ?_
      refine j_ret ?_
      cases h
      exact j_return rfl (ResOf.tmp rfl ResOf.nil) rfl (fun w h => ⟨(), rfl, h.tail⟩)
  · refine r_off rfl rfl rfl rfl (var_f c1) rfl ?_
    refine r_off rfl rfl rfl rfl (var_f c1) rfl ?_
    refine r_q (q_pick_f rfl rfl (var_f c1) rfl) rfl rfl ?_
    refine r_q (q_move rfl rfl) rfl rfl ?_
    refine r_off rfl rfl rfl rfl rfl rfl ?_
    refine r_off rfl rfl rfl rfl rfl rfl ?_
    refine r_off rfl rfl rfl rfl rfl rfl ?_
    refine r_off rfl rfl rfl rfl rfl rfl ?_
    refine r_off rfl rfl rfl rfl rfl rfl ?_
    refine r_q (q_pick_f rfl rfl rfl rfl) rfl rfl ?_
    refine r_q (q_assign rfl rfl) rfl rfl ?_
    refine j_rs (.box x1 46 [(.slice a0_0_A a0_0_n a0_0_c), (.slice a0_1_A a0_1_n a0_1_c), (.slice a0_2_A a0_2_n a0_2_c)] :: F) (fun _ h => h) ?_
    refine r_nil ?_
    refine j_then ?_
    refine j_ret ?_
    cases h
    exact j_return rfl (ResOf.tmp rfl ResOf.nil) rfl (fun w h => ⟨(), rfl, h.tail⟩)

theorem spec_PutRight.calls (K : Nat) (a0_0 : List Int) (a0_0_A : Option Addr) (a0_0_n a0_0_c : Nat) (a0_1 : List Int) (a0_1_A : Option Addr) (a0_1_n a0_1_c : Nat) (a0_2 : List Int) (a0_2_A : Option Addr) (a0_2_n a0_2_c : Nat) (a1 : Int) (a2 : Int) {w0 w : World} {F : List Res} {r1 : List Int} {r2 : List Int} {r3 : List Int} {r4 : Bool} (hm : Mem w0 (F) w) (a0_0_h : a0_0.length = a0_0_n) (a0_0_R : Rd w0 F a0_0_A (ii a0_0)) (a0_1_h : a0_1.length = a0_1_n) (a0_1_R : Rd w0 F a0_1_A (ii a0_1)) (a0_2_h : a0_2.length = a0_2_n) (a0_2_R : Rd w0 F a0_2_A (ii a0_2)) (h : spec_PutRight.f K a0_0 a0_1 a0_2 a1 a2 = some (r1, r2, r3, r4)) :
    Calls Try.prog 53 (List.toArray [.agg (List.toArray [.slice a0_0_A a0_0_n a0_0_c, .slice a0_1_A a0_1_n a0_1_c, .slice a0_2_A a0_2_n a0_2_c]), i6 a1, i6 a2]) w fun e w' => ∃ x : (Sl r1.length) × (Sl r2.length) × (Sl r3.length), e = .returned (.tuple (List.toArray [.agg (List.toArray [.slice x.1.A x.1.n x.1.c, .slice x.2.1.A x.2.1.n x.2.1.c, .slice x.2.2.A x.2.2.n x.2.2.c]), .bool r4])) ∧ Mem w0 (.row x.1.A x.1.c 3 1 (ii r1) :: .row x.2.1.A x.2.1.c 3 1 (ii r2) :: .row x.2.2.A x.2.2.c 3 1 (ii r3) :: F) w' := by
  unfold spec_PutRight.f at h
  refine calls_of_J (n := 30) Try.func53 rfl rfl rfl hm ?_
  refine j_seq ?_
  refine j_region ?_
  refine r_do (a_box rfl rfl) rfl rfl (fun x1 => ?_)
  refine r_do (a_alloc zr46 rfl) rfl rfl (fun x2 => ?_)
  refine r_q (q_assign rfl rfl) rfl rfl ?_
  refine j_rs (.box x2 46 [(.slice none 0 0), (.slice none 0 0), (.slice none 0 0)] :: .box x1 46 [(.slice a0_0_A a0_0_n a0_0_c), (.slice a0_1_A a0_1_n a0_1_c), (.slice a0_2_A a0_2_n a0_2_c)] :: F) (fun _ h => h) ?_
  refine r_nil ?_
  refine j_then ?_
  refine j_seq ?_
  refine j_seq ?_
  refine j_region ?_
  refine r_q (q_loadb_agg 1 rfl ag46 sz46 rfl rfl rfl rfl) rfl rfl ?_
  refine r_q (q_move rfl rfl) rfl rfl ?_
  obtain ⟨v1, hb1, h⟩ := of_b1 h
  refine r_do (a_call ok92 rfl rfl rfl rfl (fun w hm => spec_l1Cell.calls K a0_0 a0_0_A a0_0_n a0_0_c a0_1 a0_1_A a0_1_n a0_1_c a0_2 a0_2_A a0_2_n a0_2_c a1 hm a0_0_h (Rd.drop 2 a0_0_R) a0_1_h (Rd.drop 2 a0_1_R) a0_2_h (Rd.drop 2 a0_2_R) hb1)) rfl rfl (fun x3 => ?_)
  refine r_q (q_not rfl rfl) rfl rfl ?_
  refine r_q (q_move rfl rfl) rfl rfl ?_
  rcases of_if h with ⟨c1, h⟩ | ⟨c1, h⟩
  · refine r_qon (q_move rfl rfl) rfl rfl rfl rfl (not_f c1) rfl ?_
    refine r_qon (q_fieldAddr fi46_0 sz32 rfl rfl rfl) rfl rfl rfl rfl (not_f c1) rfl ?_
    refine r_qon (q_loadb 1 rfl ag32 rfl rfl rfl) rfl rfl rfl rfl (not_f c1) rfl ?_
    refine r_qon (q_lenX a0_0 a0_0_h un32 rfl rfl rfl rfl rfl) rfl rfl rfl rfl (not_f c1) rfl ?_
    obtain ⟨v2, hb2, h⟩ := of_b1 h
    refine r_on (a_call ok93 rfl rfl rfl rfl (fun w hm => spec_l1Points.calls K a2 (a0_0.length : Int) hm hb2)) rfl rfl rfl rfl (not_f c1) rfl (fun x4 => ?_)
    refine r_qon (q_not rfl rfl) rfl rfl rfl rfl (not_f c1) rfl ?_
    refine r_q (q_pick_f rfl rfl (not_f c1) rfl) rfl rfl ?_
    refine j_rs (.box x2 46 [(.slice none 0 0), (.slice none 0 0), (.slice none 0 0)] :: .box x1 46 [(.slice a0_0_A a0_0_n a0_0_c), (.slice a0_1_A a0_1_n a0_1_c), (.slice a0_2_A a0_2_n a0_2_c)] :: F) (fun _ h => h) ?_
    refine r_nil ?_
    refine j_then ?_
    rcases of_if h with ⟨c2, h⟩ | ⟨c2, h⟩
    · refine j_false rfl (not_f c2) ?_
      refine j_skip ?_
      refine j_then ?_
      refine j_seq ?_
      refine j_region ?_
      refine r_q (q_loadb_agg 1 rfl ag46 sz46 rfl rfl rfl rfl) rfl rfl ?_
      obtain ⟨v3, v4, v5, hb3, h⟩ := of_b3 h
      refine r_do (a_call ok94 rfl rfl rfl rfl (fun w hm => spec_l1Copy.calls K a0_0 a0_0_A a0_0_n a0_0_c a0_1 a0_1_A a0_1_n a0_1_c a0_2 a0_2_A a0_2_n a0_2_c hm a0_0_h (Rd.drop 2 a0_0_R) a0_1_h (Rd.drop 2 a0_1_R) a0_2_h (Rd.drop 2 a0_2_R) hb3)) rfl rfl (fun x5 => ?_)
      refine r_do (a_alloc zr46 rfl) rfl rfl (fun x6 => ?_)
      refine r_do (a_storeb 0 rfl sz46 rfl rfl rfl rfl (Nat.le_of_ble_eq_true rfl) rfl) rfl rfl (fun _ => ?_)
      refine j_rs (.box x6 46 [(.slice x5.1.A x5.1.n x5.1.c), (.slice x5.2.1.A x5.2.1.n x5.2.1.c), (.slice x5.2.2.A x5.2.2.n x5.2.2.c)] :: .row x5.1.A x5.1.c 3 1 (ii v3) :: .row x5.2.1.A x5.2.1.c 3 1 (ii v4) :: .row x5.2.2.A x5.2.2.c 3 1 (ii v5) :: .box x2 46 [(.slice none 0 0), (.slice none 0 0), (.slice none 0 0)] :: .box x1 46 [(.slice a0_0_A a0_0_n a0_0_c), (.slice a0_1_A a0_1_n a0_1_c), (.slice a0_2_A a0_2_n a0_2_c)] :: F) (fun _ h => h) ?_
      refine r_nil ?_
      refine j_then ?_
      refine j_seq ?_
      refine j_region ?_
      refine r_q (q_fieldAddr fi46_1 sz32 rfl rfl rfl) rfl rfl ?_
      refine r_q (q_loadb 0 rfl ag32 rfl rfl rfl) rfl rfl ?_
      refine r_q (q_move rfl rfl) rfl rfl ?_
      refine r_q (q_move rfl rfl) rfl rfl ?_
      obtain ⟨c3, h⟩ := of_guard h
      refine r_q (q_ix (Rd.row 2 rfl) (ints_len1 _ v4) (by decide) x5.2.1.h c3 un32 sz3 rfl rfl rfl) rfl rfl ?_
      refine r_do (a_stI 2 rfl c3 sz3 rfl rfl rfl) rfl rfl (fun _ => ?_)
      refine j_rs (.box x6 46 [(.slice x5.1.A x5.1.n x5.1.c), (.slice x5.2.1.A x5.2.1.n x5.2.1.c), (.slice x5.2.2.A x5.2.2.n x5.2.2.c)] :: .row x5.1.A x5.1.c 3 1 (ii v3) :: .row x5.2.1.A x5.2.1.c 3 1 (ii (v4.set a1.toNat a2)) :: .row x5.2.2.A x5.2.2.c 3 1 (ii v5) :: .box x2 46 [(.slice none 0 0), (.slice none 0 0), (.slice none 0 0)] :: .box x1 46 [(.slice a0_0_A a0_0_n a0_0_c), (.slice a0_1_A a0_1_n a0_1_c), (.slice a0_2_A a0_2_n a0_2_c)] :: F) (fun _ h => h) ?_
      refine r_nil ?_
      refine j_then ?_
      refine j_seq ?_
      refine j_region ?_
      refine r_q (q_loadb_agg 0 rfl ag46 sz46 rfl rfl rfl rfl) rfl rfl ?_
      refine r_do (a_storeb 4 rfl sz46 rfl rfl rfl rfl (Nat.le_of_ble_eq_true rfl) rfl) rfl rfl (fun _ => ?_)
      refine r_q (q_assign rfl rfl) rfl rfl ?_
      refine j_rs (.box x6 46 [(.slice x5.1.A x5.1.n x5.1.c), (.slice x5.2.1.A x5.2.1.n x5.2.1.c), (.slice x5.2.2.A x5.2.2.n x5.2.2.c)] :: .row x5.1.A x5.1.c 3 1 (ii v3) :: .row x5.2.1.A x5.2.1.c 3 1 (ii (v4.set a1.toNat a2)) :: .row x5.2.2.A x5.2.2.c 3 1 (ii v5) :: .box x2 46 [(.slice x5.1.A x5.1.n x5.1.c), (.slice x5.2.1.A x5.2.1.n x5.2.1.c), (.slice x5.2.2.A x5.2.2.n x5.2.2.c)] :: .box x1 46 [(.slice a0_0_A a0_0_n a0_0_c), (.slice a0_1_A a0_1_n a0_1_c), (.slice a0_2_A a0_2_n a0_2_c)] :: F) (fun _ h => h) ?_
      refine r_nil ?_
      refine j_then ?_
      refine j_ret ?_
      cases h
      exact j_return rfl (ResOf.cell 4 rfl rfl ag46 sz46 (ResOf.tmp rfl ResOf.nil)) rfl (fun w h => ⟨(⟨x5.1.A, x5.1.n, x5.1.c, x5.1.h⟩, ⟨x5.2.1.A, x5.2.1.n, x5.2.1.c, (set_len x5.2.1.h _ _)⟩, ⟨x5.2.2.A, x5.2.2.n, x5.2.2.c, x5.2.2.h⟩), rfl, h.pick 6 [1, 2, 3] rfl⟩)
    · refine j_true rfl (not_t (var_f c2)) ?_
      refine j_seq ?_
      refine j_region ?_
      refine r_q (q_build (cs := [(.slice none 0 0), (.slice none 0 0), (.slice none 0 0)]) zr46 pl46 rfl rfl rfl rfl) rfl rfl ?_
      refine r_do (a_storeb 0 rfl sz46 rfl rfl rfl rfl (Nat.le_of_ble_eq_true rfl) rfl) rfl rfl (fun _ => ?_)
      refine r_q (q_assign rfl rfl) rfl rfl ?_
      refine j_rs (.box x2 46 [(.slice none 0 0), (.slice none 0 0), (.slice none 0 0)] :: .box x1 46 [(.slice a0_0_A a0_0_n a0_0_c), (.slice a0_1_A a0_1_n a0_1_c), (.slice a0_2_A a0_2_n a0_2_c)] :: F) (fun _ h => h) ?_
      refine r_nil ?_
      refine j_then ?_
      refine j_ret ?_
      refine j_then_ret ?_
      refine j_nil 3 1 ?_
      refine j_nil 3 1 ?_
      refine j_nil 3 1 ?_
      cases h
      exact j_return rfl (ResOf.cell 3 rfl rfl ag46 sz46 (ResOf.tmp rfl ResOf.nil)) rfl (fun w h => ⟨(⟨none, 0, 0, rfl⟩, ⟨none, 0, 0, rfl⟩, ⟨none, 0, 0, rfl⟩), rfl, h.pick 5 [2, 1, 0] rfl⟩)
  · refine r_off rfl rfl rfl rfl (not_t (var_f c1)) rfl ?_
    refine r_off rfl rfl rfl rfl (not_t (var_f c1)) rfl ?_
    refine r_off rfl rfl rfl rfl (not_t (var_f c1)) rfl ?_
    refine r_off rfl rfl rfl rfl (not_t (var_f c1)) rfl ?_
    refine r_off rfl rfl rfl rfl (not_t (var_f c1)) rfl ?_
    refine r_off rfl rfl rfl rfl (not_t (var_f c1)) rfl ?_
    refine r_q (q_pick_t rfl rfl (not_t (var_f c1)) rfl) rfl rfl ?_
    refine j_rs (.box x2 46 [(.slice none 0 0), (.slice none 0 0), (.slice none 0 0)] :: .box x1 46 [(.slice a0_0_A a0_0_n a0_0_c), (.slice a0_1_A a0_1_n a0_1_c), (.slice a0_2_A a0_2_n a0_2_c)] :: F) (fun _ h => h) ?_
    refine r_nil ?_
    refine j_then ?_
    refine j_true rfl rfl ?_
    refine j_seq ?_
    refine j_region ?_
    refine r_q (q_build (cs := [(.slice none 0 0), (.slice none 0 0), (.slice none 0 0)]) zr46 pl46 rfl rfl rfl rfl) rfl rfl ?_
    refine r_do (a_storeb 0 rfl sz46 rfl rfl rfl rfl (Nat.le_of_ble_eq_true rfl) rfl) rfl rfl (fun _ => ?_)
    refine r_q (q_assign rfl rfl) rfl rfl ?_
    refine j_rs (.box x2 46 [(.slice none 0 0), (.slice none 0 0), (.slice none 0 0)] :: .box x1 46 [(.slice a0_0_A a0_0_n a0_0_c), (.slice a0_1_A a0_1_n a0_1_c), (.slice a0_2_A a0_2_n a0_2_c)] :: F) (fun _ h => h) ?_
    refine r_nil ?_
    refine j_then ?_
    refine j_ret ?_
    refine j_then_ret ?_
    refine j_nil 3 1 ?_
    refine j_nil 3 1 ?_
    refine j_nil 3 1 ?_
    cases h
    exact j_return rfl (ResOf.cell 3 rfl rfl ag46 sz46 (ResOf.tmp rfl ResOf.nil)) rfl (fun w h => ⟨(⟨none, 0, 0, rfl⟩, ⟨none, 0, 0, rfl⟩, ⟨none, 0, 0, rfl⟩), rfl, h.pick 5 [2, 1, 0] rfl⟩)

theorem laws_FnCountsPut.calls (K : Nat) (a0 : List Int) (a0_A : Option Addr) (a0_n a0_c : Nat) {w0 w : World} {F : List Res} {r1 : Bool} (hm : Mem w0 (F) w) (a0_h : a0.length = a0_n) (a0_R : Rd w0 F a0_A (ints .u8 a0)) (a0_k : a0.length ≤ a0_c) (h : laws_FnCountsPut.f K a0 = some r1) :
    Calls Try.prog 11 (List.toArray [.slice a0_A a0_n a0_c]) w fun e w' => ∃ x : Unit, e = .returned (.bool r1) ∧ Mem w0 (F) w' := by
  unfold laws_FnCountsPut.f at h
  refine calls_of_J (n := 90) Try.func11 rfl rfl rfl hm ?_
  refine j_seq ?_
  refine j_region ?_
  refine r_q (q_assign rfl rfl) rfl rfl ?_
  refine r_nil ?_
  refine j_then ?_
  refine j_seq ?_
  refine j_seq ?_
  refine j_region ?_
  refine r_q (q_move rfl rfl) rfl rfl ?_
  refine r_q (q_lenX a0 a0_h un28 rfl rfl rfl rfl rfl) rfl rfl ?_
  refine r_q (q_gtr rfl rfl rfl) rfl rfl ?_
  refine r_nil ?_
  refine j_then ?_
  rcases of_if h with ⟨c1, h⟩ | ⟨c1, h⟩
  · refine j_true rfl (decide_eq_true c1) ?_
    refine j_seq ?_
    refine j_region ?_
    refine r_q (q_assign rfl rfl) rfl rfl ?_
    refine r_nil ?_
    refine j_then ?_
    refine j_ret ?_
    refine j_then_ret ?_
    cases h
    exact j_return rfl (ResOf.tmp rfl ResOf.nil) rfl (fun w h => ⟨(), rfl, h⟩)
  · refine j_false rfl (decide_eq_false c1) ?_
    refine j_skip ?_
    refine j_then ?_
    refine j_seq ?_
    refine j_region ?_
    refine r_q (q_move rfl rfl) rfl rfl ?_
    obtain ⟨v1, v2, v3, v4, v5, hb1, h⟩ := of_b5 h
    refine r_do (a_call ok51 rfl rfl rfl rfl (fun w hm => spec_DrawPutRight.calls K a0 a0_A a0_n a0_c hm a0_h a0_R a0_k hb1)) rfl rfl (fun x1 => ?_)
    refine r_q (q_move rfl rfl) rfl rfl ?_
    refine r_q (q_extract rfl rfl rfl) rfl rfl ?_
    refine r_q (q_extract rfl rfl rfl) rfl rfl ?_
    refine r_q (q_extract rfl rfl rfl) rfl rfl ?_
    refine r_do (a_alloc zr46 rfl) rfl rfl (fun x2 => ?_)
    refine r_do (a_storeb 0 rfl sz46 rfl rfl rfl rfl (Nat.le_of_ble_eq_true rfl) rfl) rfl rfl (fun _ => ?_)
    refine r_q (q_assign rfl rfl) rfl rfl ?_
    refine r_q (q_assign rfl rfl) rfl rfl ?_
    refine j_rs (.box x2 46 [(.slice x1.1.A x1.1.n x1.1.c), (.slice x1.2.1.A x1.2.1.n x1.2.1.c), (.slice x1.2.2.A x1.2.2.n x1.2.2.c)] :: .row x1.1.A x1.1.c 3 1 (ii v1) :: .row x1.2.1.A x1.2.1.c 3 1 (ii v2) :: .row x1.2.2.A x1.2.2.c 3 1 (ii v3) :: F) (fun _ h => h) ?_
    refine r_nil ?_
    refine j_then ?_
    refine j_seq ?_
    refine j_region ?_
    refine r_q (q_loadb_agg 0 rfl ag46 sz46 rfl rfl rfl rfl) rfl rfl ?_
    refine r_q (q_move rfl rfl) rfl rfl ?_
    refine r_q (q_move rfl rfl) rfl rfl ?_
    obtain ⟨v6, v7, v8, v9, hb2, h⟩ := of_b4 h
    refine r_do (a_call ok52 rfl rfl rfl rfl (fun w hm => impl_PutRight.calls K v1 x1.1.A x1.1.n x1.1.c v2 x1.2.1.A x1.2.1.n x1.2.1.c v3 x1.2.2.A x1.2.2.n x1.2.2.c v4 v5 hm x1.1.h (Rd.row 1 rfl) x1.2.1.h (Rd.row 2 rfl) x1.2.2.h (Rd.row 3 rfl) hb2)) rfl rfl (fun x3 => ?_)
    refine r_q (q_move rfl rfl) rfl rfl ?_
    refine r_q (q_extract rfl rfl rfl) rfl rfl ?_
    refine r_q (q_extract rfl rfl rfl) rfl rfl ?_
    refine r_do (a_alloc zr46 rfl) rfl rfl (fun x4 => ?_)
    refine r_do (a_storeb 0 rfl sz46 rfl rfl rfl rfl (Nat.le_of_ble_eq_true rfl) rfl) rfl rfl (fun _ => ?_)
    refine r_q (q_assign rfl rfl) rfl rfl ?_
    refine j_rs (.box x4 46 [(.slice x3.1.A x3.1.n x3.1.c), (.slice x3.2.1.A x3.2.1.n x3.2.1.c), (.slice x3.2.2.A x3.2.2.n x3.2.2.c)] :: .row x3.1.A x3.1.c 3 1 (ii v6) :: .row x3.2.1.A x3.2.1.c 3 1 (ii v7) :: .row x3.2.2.A x3.2.2.c 3 1 (ii v8) :: .box x2 46 [(.slice x1.1.A x1.1.n x1.1.c), (.slice x1.2.1.A x1.2.1.n x1.2.1.c), (.slice x1.2.2.A x1.2.2.n x1.2.2.c)] :: .row x1.1.A x1.1.c 3 1 (ii v1) :: .row x1.2.1.A x1.2.1.c 3 1 (ii v2) :: .row x1.2.2.A x1.2.2.c 3 1 (ii v3) :: F) (fun _ h => h) ?_
    refine r_nil ?_
    refine j_then ?_
    refine j_seq ?_
    refine j_region ?_
    refine r_q (q_loadb_agg 4 rfl ag46 sz46 rfl rfl rfl rfl) rfl rfl ?_
    refine r_q (q_move rfl rfl) rfl rfl ?_
    refine r_q (q_move rfl rfl) rfl rfl ?_
    obtain ⟨v10, v11, v12, v13, hb3, h⟩ := of_b4 h
    refine r_do (a_call ok53 rfl rfl rfl rfl (fun w hm => spec_PutRight.calls K v1 x1.1.A x1.1.n x1.1.c v2 x1.2.1.A x1.2.1.n x1.2.1.c v3 x1.2.2.A x1.2.2.n x1.2.2.c v4 v5 hm x1.1.h (Rd.row 5 rfl) x1.2.1.h (Rd.row 6 rfl) x1.2.2.h (Rd.row 7 rfl) hb3)) rfl rfl (fun x5 => ?_)
    refine r_q (q_move rfl rfl) rfl rfl ?_
    refine r_q (q_extract rfl rfl rfl) rfl rfl ?_
    refine r_q (q_extract rfl rfl rfl) rfl rfl ?_
    refine r_do (a_alloc zr46 rfl) rfl rfl (fun x6 => ?_)
    refine r_do (a_storeb 0 rfl sz46 rfl rfl rfl rfl (Nat.le_of_ble_eq_true rfl) rfl) rfl rfl (fun _ => ?_)
    refine r_q (q_assign rfl rfl) rfl rfl ?_
    refine j_rs (.box x6 46 [(.slice x5.1.A x5.1.n x5.1.c), (.slice x5.2.1.A x5.2.1.n x5.2.1.c), (.slice x5.2.2.A x5.2.2.n x5.2.2.c)] :: .row x5.1.A x5.1.c 3 1 (ii v10) :: .row x5.2.1.A x5.2.1.c 3 1 (ii v11) :: .row x5.2.2.A x5.2.2.c 3 1 (ii v12) :: .box x4 46 [(.slice x3.1.A x3.1.n x3.1.c), (.slice x3.2.1.A x3.2.1.n x3.2.1.c), (.slice x3.2.2.A x3.2.2.n x3.2.2.c)] :: .row x3.1.A x3.1.c 3 1 (ii v6) :: .row x3.2.1.A x3.2.1.c 3 1 (ii v7) :: .row x3.2.2.A x3.2.2.c 3 1 (ii v8) :: .box x2 46 [(.slice x1.1.A x1.1.n x1.1.c), (.slice x1.2.1.A x1.2.1.n x1.2.1.c), (.slice x1.2.2.A x1.2.2.n x1.2.2.c)] :: .row x1.1.A x1.1.c 3 1 (ii v1) :: .row x1.2.1.A x1.2.1.c 3 1 (ii v2) :: .row x1.2.2.A x1.2.2.c 3 1 (ii v3) :: F) (fun _ h => h) ?_
    refine r_nil ?_
    refine j_then ?_
    refine j_seq ?_
    refine j_seq ?_
    refine j_region ?_
    refine r_q (q_loadb_agg 4 rfl ag46 sz46 rfl rfl rfl rfl) rfl rfl ?_
    refine r_q (q_loadb_agg 0 rfl ag46 sz46 rfl rfl rfl rfl) rfl rfl ?_
    obtain ⟨v14, hb4, h⟩ := of_b1 h
    refine r_do (a_call ok54 rfl rfl rfl rfl (fun w hm => impl_HeapSame.calls K v6 x3.1.A x3.1.n x3.1.c v7 x3.2.1.A x3.2.1.n x3.2.1.c v8 x3.2.2.A x3.2.2.n x3.2.2.c v10 x5.1.A x5.1.n x5.1.c v11 x5.2.1.A x5.2.1.n x5.2.1.c v12 x5.2.2.A x5.2.2.n x5.2.2.c hm x3.1.h (Rd.row 5 rfl) x3.2.1.h (Rd.row 6 rfl) x3.2.2.h (Rd.row 7 rfl) x5.1.h (Rd.row 1 rfl) x5.2.1.h (Rd.row 2 rfl) x5.2.2.h (Rd.row 3 rfl) hb4)) rfl rfl (fun x7 => ?_)
    refine r_q (q_not rfl rfl) rfl rfl ?_
    refine r_q (q_move rfl rfl) rfl rfl ?_
    rcases of_if h with ⟨c2, h⟩ | ⟨c2, h⟩
    · refine r_qon (q_move rfl rfl) rfl rfl rfl rfl (not_f c2) rfl ?_
      refine r_qon (q_move rfl rfl) rfl rfl rfl rfl (not_f c2) rfl ?_
      refine r_qon (q_bneq un4 rfl rfl rfl) rfl rfl rfl rfl (not_f c2) rfl ?_
      refine r_q (q_pick_f rfl rfl (not_f c2) rfl) rfl rfl ?_
      refine r_q (q_move rfl rfl) rfl rfl ?_
      rcases of_if h with ⟨c3, h⟩ | ⟨c3, h⟩
      · refine r_qon (q_move rfl rfl) rfl rfl rfl rfl (bne_f c3) rfl ?_
        refine r_qon (q_not rfl rfl) rfl rfl rfl rfl (bne_f c3) rfl ?_
        refine r_q (q_pick_f rfl rfl (bne_f c3) rfl) rfl rfl ?_
        refine j_rs (.box x6 46 [(.slice x5.1.A x5.1.n x5.1.c), (.slice x5.2.1.A x5.2.1.n x5.2.1.c), (.slice x5.2.2.A x5.2.2.n x5.2.2.c)] :: .row x5.1.A x5.1.c 3 1 (ii v10) :: .row x5.2.1.A x5.2.1.c 3 1 (ii v11) :: .row x5.2.2.A x5.2.2.c 3 1 (ii v12) :: .box x4 46 [(.slice x3.1.A x3.1.n x3.1.c), (.slice x3.2.1.A x3.2.1.n x3.2.1.c), (.slice x3.2.2.A x3.2.2.n x3.2.2.c)] :: .row x3.1.A x3.1.c 3 1 (ii v6) :: .row x3.2.1.A x3.2.1.c 3 1 (ii v7) :: .row x3.2.2.A x3.2.2.c 3 1 (ii v8) :: .box x2 46 [(.slice x1.1.A x1.1.n x1.1.c), (.slice x1.2.1.A x1.2.1.n x1.2.1.c), (.slice x1.2.2.A x1.2.2.n x1.2.2.c)] :: .row x1.1.A x1.1.c 3 1 (ii v1) :: .row x1.2.1.A x1.2.1.c 3 1 (ii v2) :: .row x1.2.2.A x1.2.2.c 3 1 (ii v3) :: F) (fun _ h => h) ?_
        refine r_nil ?_
        refine j_then ?_
        rcases of_if h with ⟨c4, h⟩ | ⟨c4, h⟩
        · refine j_false rfl (not_f c4) ?_
          refine j_skip ?_
          refine j_then ?_
          refine j_seq ?_
          refine j_region ?_
          refine r_q (q_loadb_agg 8 rfl ag46 sz46 rfl rfl rfl rfl) rfl rfl ?_
          obtain ⟨v15, hb5, h⟩ := of_b1 h
          refine r_do (a_call ok37 rfl rfl rfl rfl (fun w hm => impl_CountsOf.calls K v1 x1.1.A x1.1.n x1.1.c v2 x1.2.1.A x1.2.1.n x1.2.1.c v3 x1.2.2.A x1.2.2.n x1.2.2.c hm x1.1.h (Rd.row 9 rfl) x1.2.1.h (Rd.row 10 rfl) x1.2.2.h (Rd.row 11 rfl) hb5)) rfl rfl (fun x8 => ?_)
          refine r_q (q_assign rfl rfl) rfl rfl ?_
          refine j_rs (.row x8.A x8.c 3 1 (ii v15) :: .box x6 46 [(.slice x5.1.A x5.1.n x5.1.c), (.slice x5.2.1.A x5.2.1.n x5.2.1.c), (.slice x5.2.2.A x5.2.2.n x5.2.2.c)] :: .row x5.1.A x5.1.c 3 1 (ii v10) :: .row x5.2.1.A x5.2.1.c 3 1 (ii v11) :: .row x5.2.2.A x5.2.2.c 3 1 (ii v12) :: .box x4 46 [(.slice x3.1.A x3.1.n x3.1.c), (.slice x3.2.1.A x3.2.1.n x3.2.1.c), (.slice x3.2.2.A x3.2.2.n x3.2.2.c)] :: .row x3.1.A x3.1.c 3 1 (ii v6) :: .row x3.2.1.A x3.2.1.c 3 1 (ii v7) :: .row x3.2.2.A x3.2.2.c 3 1 (ii v8) :: .box x2 46 [(.slice x1.1.A x1.1.n x1.1.c), (.slice x1.2.1.A x1.2.1.n x1.2.1.c), (.slice x1.2.2.A x1.2.2.n x1.2.2.c)] :: .row x1.1.A x1.1.c 3 1 (ii v1) :: .row x1.2.1.A x1.2.1.c 3 1 (ii v2) :: .row x1.2.2.A x1.2.2.c 3 1 (ii v3) :: F) (fun _ h => h) ?_
          refine r_nil ?_
          refine j_then ?_
          refine j_seq ?_
          refine j_region ?_
          refine r_q (q_loadb_agg 5 rfl ag46 sz46 rfl rfl rfl rfl) rfl rfl ?_
          obtain ⟨v16, hb6, h⟩ := of_b1 h
          refine r_do (a_call ok37 rfl rfl rfl rfl (fun w hm => impl_CountsOf.calls K v6 x3.1.A x3.1.n x3.1.c v7 x3.2.1.A x3.2.1.n x3.2.1.c v8 x3.2.2.A x3.2.2.n x3.2.2.c hm x3.1.h (Rd.row 6 rfl) x3.2.1.h (Rd.row 7 rfl) x3.2.2.h (Rd.row 8 rfl) hb6)) rfl rfl (fun x9 => ?_)
          refine r_q (q_assign rfl rfl) rfl rfl ?_
          refine j_rs (.row x9.A x9.c 3 1 (ii v16) :: .row x8.A x8.c 3 1 (ii v15) :: .box x6 46 [(.slice x5.1.A x5.1.n x5.1.c), (.slice x5.2.1.A x5.2.1.n x5.2.1.c), (.slice x5.2.2.A x5.2.2.n x5.2.2.c)] :: .row x5.1.A x5.1.c 3 1 (ii v10) :: .row x5.2.1.A x5.2.1.c 3 1 (ii v11) :: .row x5.2.2.A x5.2.2.c 3 1 (ii v12) :: .box x4 46 [(.slice x3.1.A x3.1.n x3.1.c), (.slice x3.2.1.A x3.2.1.n x3.2.1.c), (.slice x3.2.2.A x3.2.2.n x3.2.2.c)] :: .row x3.1.A x3.1.c 3 1 (ii v6) :: .row x3.2.1.A x3.2.1.c 3 1 (ii v7) :: .row x3.2.2.A x3.2.2.c 3 1 (ii v8) :: .box x2 46 [(.slice x1.1.A x1.1.n x1.1.c), (.slice x1.2.1.A x1.2.1.n x1.2.1.c), (.slice x1.2.2.A x1.2.2.n x1.2.2.c)] :: .row x1.1.A x1.1.c 3 1 (ii v1) :: .row x1.2.1.A x1.2.1.c 3 1 (ii v2) :: .row x1.2.2.A x1.2.2.c 3 1 (ii v3) :: F) (fun _ h => h) ?_
          refine r_nil ?_
          refine j_then ?_
          refine j_seq ?_
          refine j_region ?_
          refine r_q (q_assign rfl rfl) rfl rfl ?_
          refine r_nil ?_
          refine j_then ?_
          refine j_seq ?_
          refine j_seq ?_
          refine j_region ?_
          refine r_q (q_assign rfl rfl) rfl rfl ?_
          refine r_nil ?_
          refine j_then ?_
          obtain ⟨κ0, h, hκ0⟩ := ex_k (g := fun κ => laws_FnCountsPut.loop0 K κ v15 v16 K (0:Int) (0:Int) = some r1) h
          refine j_cut (σ := Int) (fun s => [(12, (i6 s))]) (fun s => F) (fun s => κ0 s = some r1) ?_ ?_
          · refine j_block ?_
            refine j_loop (σ := Int × Int) (fun s => [(10, (.slice x8.A x8.n x8.c)), (11, (.slice x9.A x9.n x9.c)), (12, (i6 s.1)), (13, (i6 s.2))]) (fun s => .row x8.A x8.c 3 1 (ii v15) :: .row x9.A x9.c 3 1 (ii v16) :: F) (fun m s => laws_FnCountsPut.loop0 K κ0 v15 v16 m s.1 s.2 = some r1) K ((0:Int), (0:Int)) h (fun a he => he.sub ⟨rfl, rfl, rfl, rfl, trivial⟩) (fun w h => h.pick 14 [1, 0] rfl) ?_
            rintro m ⟨p3, p4⟩ h
            cases m with
            | zero => exact absurd h (by rw [laws_FnCountsPut.loop0]; exact nofun)
            | succ m =>
              rw [laws_FnCountsPut.loop0] at h
              show J _ _ [(10, (.slice x8.A x8.n x8.c)), (11, (.slice x9.A x9.n x9.c)), (12, (i6 p3)), (13, (i6 p4))] _ (.row x8.A x8.c 3 1 (ii v15) :: .row x9.A x9.c 3 1 (ii v16) :: F)
              refine j_seq ?_
              refine j_seq ?_
              refine j_region ?_
              refine r_q (q_move rfl rfl) rfl rfl ?_
              refine r_q (q_move rfl rfl) rfl rfl ?_
              refine r_q (q_lenX v15 x8.h un32 rfl rfl rfl rfl rfl) rfl rfl ?_
              refine r_q (q_lss rfl rfl rfl) rfl rfl ?_
              refine r_nil ?_
              refine j_then ?_
              rcases of_if h with ⟨c23, h⟩ | ⟨c23, h⟩
              · refine j_true rfl (decide_eq_true c23) ?_
                refine j_skip ?_
                refine j_then ?_
                refine j_seq ?_
                refine j_block ?_
                refine j_seq ?_
                obtain ⟨c24, h⟩ := of_guard h
                obtain ⟨c25, h⟩ := of_guard h
                refine j_draw (.row x8.A x8.c 3 1 (ii v15) :: .row x9.A x9.c 3 1 (ii v16) :: F) 10 follows_any rfl ?_
                refine d_take 0 rfl (q_move rfl rfl) rfl rfl (by kernel_rfl) (by kernel_rfl) (by kernel_rfl) (fun w h => h) ?_
                refine d_take 1 rfl (q_move rfl rfl) rfl rfl (by kernel_rfl) (by kernel_rfl) (by kernel_rfl) (fun w h => h) ?_
                refine d_take 2 rfl (q_ix (Rd.row 1 rfl) (ints_len1 _ v16) (by decide) x9.h c24 un32 sz3 rfl rfl rfl) rfl rfl (by kernel_rfl) (by kernel_rfl) (by kernel_rfl) (fun w h => h) ?_
                refine d_take 3 rfl (q_ldI (Rd.row 1 rfl) c24 ag3 rfl rfl) rfl rfl (by kernel_rfl) (by kernel_rfl) (by kernel_rfl) (fun w h => h) ?_
                refine d_take 4 rfl (q_move rfl rfl) rfl rfl (by kernel_rfl) (by kernel_rfl) (by kernel_rfl) (fun w h => h) ?_
                refine d_take 5 rfl (q_move rfl rfl) rfl rfl (by kernel_rfl) (by kernel_rfl) (by kernel_rfl) (fun w h => h) ?_
                refine d_take 6 rfl (q_ix (Rd.row 0 rfl) (ints_len1 _ v15) (by decide) x8.h c25 un32 sz3 rfl rfl rfl) rfl rfl (by kernel_rfl) (by kernel_rfl) (by kernel_rfl) (fun w h => h) ?_
                refine d_take 7 rfl (q_ldI (Rd.row 0 rfl) c25 ag3 rfl rfl) rfl rfl (by kernel_rfl) (by kernel_rfl) (by kernel_rfl) (fun w h => h) ?_
                refine d_take 8 rfl (q_sub rfl rfl rfl) rfl rfl (by kernel_rfl) (by kernel_rfl) (by kernel_rfl) (fun w h => h) ?_
                refine d_take 9 rfl (q_assign rfl rfl) rfl rfl (by kernel_rfl) (by kernel_rfl) (by kernel_rfl) (fun w h => h) ?_
                refine d_done (by kernel_rfl) ?_
                refine j_then ?_
                refine j_seq ?_
                refine j_seq ?_
                refine j_region ?_
                refine r_q (q_move rfl rfl) rfl rfl ?_
                refine r_q (q_lss rfl rfl rfl) rfl rfl ?_
                refine r_q (q_move rfl rfl) rfl rfl ?_
                rcases of_if h with ⟨c26, h⟩ | ⟨c26, h⟩
                · refine r_off rfl rfl rfl rfl (decide_eq_true c26) rfl ?_
                  refine r_off rfl rfl rfl rfl (decide_eq_true c26) rfl ?_
                  refine r_q (q_pick_t rfl rfl (decide_eq_true c26) rfl) rfl rfl ?_
                  refine r_nil ?_
                  refine j_then ?_
                  refine j_true rfl rfl ?_
                  refine j_seq ?_
                  refine j_region ?_
                  refine r_q (q_assign rfl rfl) rfl rfl ?_
                  refine r_nil ?_
                  refine j_then ?_
                  refine j_ret ?_
                  refine j_then_ret ?_
                  refine j_in_ret ?_
                  refine j_then_ret ?_
                  refine j_then_ret ?_
                  refine j_in_ret ?_
                  refine j_then_ret ?_
                  refine j_then_ret ?_
                  cases h
                  exact j_return rfl (ResOf.tmp rfl ResOf.nil) rfl (fun w h => ⟨(), rfl, (h.drop 2)⟩)
                · refine r_qon (q_move rfl rfl) rfl rfl rfl rfl (decide_eq_false c26) rfl ?_
                  refine r_qon (q_gtr rfl rfl rfl) rfl rfl rfl rfl (decide_eq_false c26) rfl ?_
                  refine r_q (q_pick_f rfl rfl (decide_eq_false c26) rfl) rfl rfl ?_
                  refine r_nil ?_
                  refine j_then ?_
                  rcases of_if h with ⟨c27, h⟩ | ⟨c27, h⟩
                  · refine j_true rfl (decide_eq_true c27) ?_
                    refine j_seq ?_
                    refine j_region ?_
                    refine r_q (q_assign rfl rfl) rfl rfl ?_
                    refine r_nil ?_
                    refine j_then ?_
                    refine j_ret ?_
                    refine j_then_ret ?_
                    refine j_in_ret ?_
                    refine j_then_ret ?_
                    refine j_then_ret ?_
                    refine j_in_ret ?_
                    refine j_then_ret ?_
                    refine j_then_ret ?_
                    cases h
                    exact j_return rfl (ResOf.tmp rfl ResOf.nil) rfl (fun w h => ⟨(), rfl, (h.drop 2)⟩)
                  · refine j_false rfl (decide_eq_false c27) ?_
                    refine j_skip ?_
                    refine j_then ?_
                    refine j_seq ?_
                    refine j_region ?_
                    refine r_q (q_move rfl rfl) rfl rfl ?_
                    refine r_q (q_neq rfl rfl rfl) rfl rfl ?_
                    refine r_nil ?_
                    refine j_then ?_
                    rcases of_if h with ⟨c28, h⟩ | ⟨c28, h⟩
                    · refine j_false rfl (bne_f c28) ?_
                      refine j_skip ?_
                      refine j_in ?_
                      refine j_then ?_
                      refine j_region ?_
                      refine r_q (q_move rfl rfl) rfl rfl ?_
                      refine r_q (q_add rfl rfl rfl) rfl rfl ?_
                      refine r_q (q_assign rfl rfl) rfl rfl ?_
                      refine r_nil ?_
                      refine j_then ?_
                      exact j_again m (p3, (wrap64 (p4 + (1:Int)))) (Nat.lt_succ_self m) h (fun a he => he.sub ⟨rfl, rfl, rfl, rfl, trivial⟩) (fun w h => h)
                    · refine j_true rfl (bne_t c28) ?_
                      refine j_region ?_
                      refine r_q (q_move rfl rfl) rfl rfl ?_
                      refine r_q (q_add rfl rfl rfl) rfl rfl ?_
                      refine r_q (q_assign rfl rfl) rfl rfl ?_
                      refine r_nil ?_
                      refine j_in ?_
                      refine j_then ?_
                      refine j_region ?_
                      refine r_q (q_move rfl rfl) rfl rfl ?_
                      refine r_q (q_add rfl rfl rfl) rfl rfl ?_
                      refine r_q (q_assign rfl rfl) rfl rfl ?_
                      refine r_nil ?_
                      refine j_then ?_
                      exact j_again m ((wrap64 (p3 + (1:Int))), (wrap64 (p4 + (1:Int)))) (Nat.lt_succ_self m) h (fun a he => he.sub ⟨rfl, rfl, rfl, rfl, trivial⟩) (fun w h => h)
              · refine j_false rfl (decide_eq_false c23) ?_
                refine j_exit ?_
                refine j_then_exit ?_
                refine j_then_exit ?_
                refine j_in_exit ?_
                refine j_then ?_
                exact j_meet p3 h (fun a he => he.sub ⟨rfl, trivial⟩) (fun w h => (h.drop 2))
          · rintro p5 h
            subst hκ0
            show J _ _ [(12, (i6 p5))] _ (F)
            refine j_then ?_
            refine j_seq ?_
            refine j_region ?_
            refine r_q (q_move rfl rfl) rfl rfl ?_
            refine r_q (q_leq rfl rfl rfl) rfl rfl ?_
            refine r_q (q_assign rfl rfl) rfl rfl ?_
            refine r_nil ?_
            refine j_then ?_
            refine j_ret ?_
            cases h
            exact j_return rfl (ResOf.tmp rfl ResOf.nil) rfl (fun w h => ⟨(), rfl, h⟩)
        · refine j_true rfl (not_t (var_f c4)) ?_
          refine j_seq ?_
          refine j_region ?_
          refine r_q (q_loadb_agg 4 rfl ag46 sz46 rfl rfl rfl rfl) rfl rfl ?_
          refine r_q (q_loadb_agg 0 rfl ag46 sz46 rfl rfl rfl rfl) rfl rfl ?_
          obtain ⟨v17, hb7, h⟩ := of_b1 h
          refine r_do (a_call ok54 rfl rfl rfl rfl (fun w hm => impl_HeapSame.calls K v6 x3.1.A x3.1.n x3.1.c v7 x3.2.1.A x3.2.1.n x3.2.1.c v8 x3.2.2.A x3.2.2.n x3.2.2.c v10 x5.1.A x5.1.n x5.1.c v11 x5.2.1.A x5.2.1.n x5.2.1.c v12 x5.2.2.A x5.2.2.n x5.2.2.c hm x3.1.h (Rd.row 5 rfl) x3.2.1.h (Rd.row 6 rfl) x3.2.2.h (Rd.row 7 rfl) x5.1.h (Rd.row 1 rfl) x5.2.1.h (Rd.row 2 rfl) x5.2.2.h (Rd.row 3 rfl) hb7)) rfl rfl (fun x10 => ?_)
          refine r_q (q_move rfl rfl) rfl rfl ?_
          rcases of_if h with ⟨c29, h⟩ | ⟨c29, h⟩
          · refine r_qon (q_move rfl rfl) rfl rfl rfl rfl c29 rfl ?_
            refine r_qon (q_move rfl rfl) rfl rfl rfl rfl c29 rfl ?_
            refine r_qon (q_beql un4 rfl rfl rfl) rfl rfl rfl rfl c29 rfl ?_
            refine r_q (q_pick_t rfl rfl c29 rfl) rfl rfl ?_
            refine r_q (q_assign rfl rfl) rfl rfl ?_
            refine j_rs (.box x6 46 [(.slice x5.1.A x5.1.n x5.1.c), (.slice x5.2.1.A x5.2.1.n x5.2.1.c), (.slice x5.2.2.A x5.2.2.n x5.2.2.c)] :: .row x5.1.A x5.1.c 3 1 (ii v10) :: .row x5.2.1.A x5.2.1.c 3 1 (ii v11) :: .row x5.2.2.A x5.2.2.c 3 1 (ii v12) :: .box x4 46 [(.slice x3.1.A x3.1.n x3.1.c), (.slice x3.2.1.A x3.2.1.n x3.2.1.c), (.slice x3.2.2.A x3.2.2.n x3.2.2.c)] :: .row x3.1.A x3.1.c 3 1 (ii v6) :: .row x3.2.1.A x3.2.1.c 3 1 (ii v7) :: .row x3.2.2.A x3.2.2.c 3 1 (ii v8) :: .box x2 46 [(.slice x1.1.A x1.1.n x1.1.c), (.slice x1.2.1.A x1.2.1.n x1.2.1.c), (.slice x1.2.2.A x1.2.2.n x1.2.2.c)] :: .row x1.1.A x1.1.c 3 1 (ii v1) :: .row x1.2.1.A x1.2.1.c 3 1 (ii v2) :: .row x1.2.2.A x1.2.2.c 3 1 (ii v3) :: F) (fun _ h => h) ?_
            refine r_nil ?_
            refine j_then ?_
            refine j_ret ?_
            refine j_then_ret ?_
            cases h
            exact j_return rfl (ResOf.tmp rfl ResOf.nil) rfl (fun w h => ⟨(), rfl, (h.drop 12)⟩)
          · refine r_off rfl rfl rfl rfl (var_f c29) rfl ?_
            refine r_off rfl rfl rfl rfl (var_f c29) rfl ?_
            refine r_off rfl rfl rfl rfl (var_f c29) rfl ?_
            refine r_q (q_pick_f rfl rfl (var_f c29) rfl) rfl rfl ?_
            refine r_q (q_assign rfl rfl) rfl rfl ?_
            refine j_rs (.box x6 46 [(.slice x5.1.A x5.1.n x5.1.c), (.slice x5.2.1.A x5.2.1.n x5.2.1.c), (.slice x5.2.2.A x5.2.2.n x5.2.2.c)] :: .row x5.1.A x5.1.c 3 1 (ii v10) :: .row x5.2.1.A x5.2.1.c 3 1 (ii v11) :: .row x5.2.2.A x5.2.2.c 3 1 (ii v12) :: .box x4 46 [(.slice x3.1.A x3.1.n x3.1.c), (.slice x3.2.1.A x3.2.1.n x3.2.1.c), (.slice x3.2.2.A x3.2.2.n x3.2.2.c)] :: .row x3.1.A x3.1.c 3 1 (ii v6) :: .row x3.2.1.A x3.2.1.c 3 1 (ii v7) :: .row x3.2.2.A x3.2.2.c 3 1 (ii v8) :: .box x2 46 [(.slice x1.1.A x1.1.n x1.1.c), (.slice x1.2.1.A x1.2.1.n x1.2.1.c), (.slice x1.2.2.A x1.2.2.n x1.2.2.c)] :: .row x1.1.A x1.1.c 3 1 (ii v1) :: .row x1.2.1.A x1.2.1.c 3 1 (ii v2) :: .row x1.2.2.A x1.2.2.c 3 1 (ii v3) :: F) (fun _ h => h) ?_
            refine r_nil ?_
            refine j_then ?_
            refine j_ret ?_
            refine j_then_ret ?_
            cases h
            exact j_return rfl (ResOf.tmp rfl ResOf.nil) rfl (fun w h => ⟨(), rfl, (h.drop 12)⟩)
      · refine r_off rfl rfl rfl rfl (bne_t c3) rfl ?_
        refine r_off rfl rfl rfl rfl (bne_t c3) rfl ?_
        refine r_q (q_pick_t rfl rfl (bne_t c3) rfl) rfl rfl ?_
        refine j_rs (.box x6 46 [(.slice x5.1.A x5.1.n x5.1.c), (.slice x5.2.1.A x5.2.1.n x5.2.1.c), (.slice x5.2.2.A x5.2.2.n x5.2.2.c)] :: .row x5.1.A x5.1.c 3 1 (ii v10) :: .row x5.2.1.A x5.2.1.c 3 1 (ii v11) :: .row x5.2.2.A x5.2.2.c 3 1 (ii v12) :: .box x4 46 [(.slice x3.1.A x3.1.n x3.1.c), (.slice x3.2.1.A x3.2.1.n x3.2.1.c), (.slice x3.2.2.A x3.2.2.n x3.2.2.c)] :: .row x3.1.A x3.1.c 3 1 (ii v6) :: .row x3.2.1.A x3.2.1.c 3 1 (ii v7) :: .row x3.2.2.A x3.2.2.c 3 1 (ii v8) :: .box x2 46 [(.slice x1.1.A x1.1.n x1.1.c), (.slice x1.2.1.A x1.2.1.n x1.2.1.c), (.slice x1.2.2.A x1.2.2.n x1.2.2.c)] :: .row x1.1.A x1.1.c 3 1 (ii v1) :: .row x1.2.1.A x1.2.1.c 3 1 (ii v2) :: .row x1.2.2.A x1.2.2.c 3 1 (ii v3) :: F) (fun _ h => h) ?_
        refine r_nil ?_
        refine j_then ?_
        refine j_true rfl rfl ?_
        refine j_seq ?_
        refine j_region ?_
        refine r_q (q_loadb_agg 4 rfl ag46 sz46 rfl rfl rfl rfl) rfl rfl ?_
        refine r_q (q_loadb_agg 0 rfl ag46 sz46 rfl rfl rfl rfl) rfl rfl ?_
        obtain ⟨v18, hb8, h⟩ := of_b1 h
        refine r_do (a_call ok54 rfl rfl rfl rfl (fun w hm => impl_HeapSame.calls K v6 x3.1.A x3.1.n x3.1.c v7 x3.2.1.A x3.2.1.n x3.2.1.c v8 x3.2.2.A x3.2.2.n x3.2.2.c v10 x5.1.A x5.1.n x5.1.c v11 x5.2.1.A x5.2.1.n x5.2.1.c v12 x5.2.2.A x5.2.2.n x5.2.2.c hm x3.1.h (Rd.row 5 rfl) x3.2.1.h (Rd.row 6 rfl) x3.2.2.h (Rd.row 7 rfl) x5.1.h (Rd.row 1 rfl) x5.2.1.h (Rd.row 2 rfl) x5.2.2.h (Rd.row 3 rfl) hb8)) rfl rfl (fun x10 => ?_)
        refine r_q (q_move rfl rfl) rfl rfl ?_
        rcases of_if h with ⟨c30, h⟩ | ⟨c30, h⟩
        · refine r_qon (q_move rfl rfl) rfl rfl rfl rfl c30 rfl ?_
          refine r_qon (q_move rfl rfl) rfl rfl rfl rfl c30 rfl ?_
          refine r_qon (q_beql un4 rfl rfl rfl) rfl rfl rfl rfl c30 rfl ?_
          refine r_q (q_pick_t rfl rfl c30 rfl) rfl rfl ?_
          refine r_q (q_assign rfl rfl) rfl rfl ?_
          refine j_rs (.box x6 46 [(.slice x5.1.A x5.1.n x5.1.c), (.slice x5.2.1.A x5.2.1.n x5.2.1.c), (.slice x5.2.2.A x5.2.2.n x5.2.2.c)] :: .row x5.1.A x5.1.c 3 1 (ii v10) :: .row x5.2.1.A x5.2.1.c 3 1 (ii v11) :: .row x5.2.2.A x5.2.2.c 3 1 (ii v12) :: .box x4 46 [(.slice x3.1.A x3.1.n x3.1.c), (.slice x3.2.1.A x3.2.1.n x3.2.1.c), (.slice x3.2.2.A x3.2.2.n x3.2.2.c)] :: .row x3.1.A x3.1.c 3 1 (ii v6) :: .row x3.2.1.A x3.2.1.c 3 1 (ii v7) :: .row x3.2.2.A x3.2.2.c 3 1 (ii v8) :: .box x2 46 [(.slice x1.1.A x1.1.n x1.1.c), (.slice x1.2.1.A x1.2.1.n x1.2.1.c), (.slice x1.2.2.A x1.2.2.n x1.2.2.c)] :: .row x1.1.A x1.1.c 3 1 (ii v1) :: .row x1.2.1.A x1.2.1.c 3 1 (ii v2) :: .row x1.2.2.A x1.2.2.c 3 1 (ii v3) :: F) (fun _ h => h) ?_
          refine r_nil ?_
          refine j_then ?_
          refine j_ret ?_
          refine j_then_ret ?_
          cases h
          exact j_return rfl (ResOf.tmp rfl ResOf.nil) rfl (fun w h => ⟨(), rfl, (h.drop 12)⟩)
        · refine r_off rfl rfl rfl rfl (var_f c30) rfl ?_
          refine r_off rfl rfl rfl rfl (var_f c30) rfl ?_
          refine r_off rfl rfl rfl rfl (var_f c30) rfl ?_
          refine r_q (q_pick_f rfl rfl (var_f c30) rfl) rfl rfl ?_
          refine r_q (q_assign rfl rfl) rfl rfl ?_
          refine j_rs (.box x6 46 [(.slice x5.1.A x5.1.n x5.1.c), (.slice x5.2.1.A x5.2.1.n x5.2.1.c), (.slice x5.2.2.A x5.2.2.n x5.2.2.c)] :: .row x5.1.A x5.1.c 3 1 (ii v10) :: .row x5.2.1.A x5.2.1.c 3 1 (ii v11) :: .row x5.2.2.A x5.2.2.c 3 1 (ii v12) :: .box x4 46 [(.slice x3.1.A x3.1.n x3.1.c), (.slice x3.2.1.A x3.2.1.n x3.2.1.c), (.slice x3.2.2.A x3.2.2.n x3.2.2.c)] :: .row x3.1.A x3.1.c 3 1 (ii v6) :: .row x3.2.1.A x3.2.1.c 3 1 (ii v7) :: .row x3.2.2.A x3.2.2.c 3 1 (ii v8) :: .box x2 46 [(.slice x1.1.A x1.1.n x1.1.c), (.slice x1.2.1.A x1.2.1.n x1.2.1.c), (.slice x1.2.2.A x1.2.2.n x1.2.2.c)] :: .row x1.1.A x1.1.c 3 1 (ii v1) :: .row x1.2.1.A x1.2.1.c 3 1 (ii v2) :: .row x1.2.2.A x1.2.2.c 3 1 (ii v3) :: F) (fun _ h => h) ?_
          refine r_nil ?_
          refine j_then ?_
          refine j_ret ?_
          refine j_then_ret ?_
          cases h
          exact j_return rfl (ResOf.tmp rfl ResOf.nil) rfl (fun w h => ⟨(), rfl, (h.drop 12)⟩)
    · refine r_off rfl rfl rfl rfl (not_t (var_f c2)) rfl ?_
      refine r_off rfl rfl rfl rfl (not_t (var_f c2)) rfl ?_
      refine r_off rfl rfl rfl rfl (not_t (var_f c2)) rfl ?_
      refine r_q (q_pick_t rfl rfl (not_t (var_f c2)) rfl) rfl rfl ?_
      refine r_q (q_move rfl rfl) rfl rfl ?_
      refine r_off rfl rfl rfl rfl rfl rfl ?_
      refine r_off rfl rfl rfl rfl rfl rfl ?_
      refine r_q (q_pick_t rfl rfl rfl rfl) rfl rfl ?_
      refine j_rs (.box x6 46 [(.slice x5.1.A x5.1.n x5.1.c), (.slice x5.2.1.A x5.2.1.n x5.2.1.c), (.slice x5.2.2.A x5.2.2.n x5.2.2.c)] :: .row x5.1.A x5.1.c 3 1 (ii v10) :: .row x5.2.1.A x5.2.1.c 3 1 (ii v11) :: .row x5.2.2.A x5.2.2.c 3 1 (ii v12) :: .box x4 46 [(.slice x3.1.A x3.1.n x3.1.c), (.slice x3.2.1.A x3.2.1.n x3.2.1.c), (.slice x3.2.2.A x3.2.2.n x3.2.2.c)] :: .row x3.1.A x3.1.c 3 1 (ii v6) :: .row x3.2.1.A x3.2.1.c 3 1 (ii v7) :: .row x3.2.2.A x3.2.2.c 3 1 (ii v8) :: .box x2 46 [(.slice x1.1.A x1.1.n x1.1.c), (.slice x1.2.1.A x1.2.1.n x1.2.1.c), (.slice x1.2.2.A x1.2.2.n x1.2.2.c)] :: .row x1.1.A x1.1.c 3 1 (ii v1) :: .row x1.2.1.A x1.2.1.c 3 1 (ii v2) :: .row x1.2.2.A x1.2.2.c 3 1 (ii v3) :: F) (fun _ h => h) ?_
      refine r_nil ?_
      refine j_then ?_
      refine j_true rfl rfl ?_
      refine j_seq ?_
      refine j_region ?_
      refine r_q (q_loadb_agg 4 rfl ag46 sz46 rfl rfl rfl rfl) rfl rfl ?_
      refine r_q (q_loadb_agg 0 rfl ag46 sz46 rfl rfl rfl rfl) rfl rfl ?_
      obtain ⟨v19, hb9, h⟩ := of_b1 h
      refine r_do (a_call ok54 rfl rfl rfl rfl (fun w hm => impl_HeapSame.calls K v6 x3.1.A x3.1.n x3.1.c v7 x3.2.1.A x3.2.1.n x3.2.1.c v8 x3.2.2.A x3.2.2.n x3.2.2.c v10 x5.1.A x5.1.n x5.1.c v11 x5.2.1.A x5.2.1.n x5.2.1.c v12 x5.2.2.A x5.2.2.n x5.2.2.c hm x3.1.h (Rd.row 5 rfl) x3.2.1.h (Rd.row 6 rfl) x3.2.2.h (Rd.row 7 rfl) x5.1.h (Rd.row 1 rfl) x5.2.1.h (Rd.row 2 rfl) x5.2.2.h (Rd.row 3 rfl) hb9)) rfl rfl (fun x10 => ?_)
      refine r_q (q_move rfl rfl) rfl rfl ?_
      rcases of_if h with ⟨c31, h⟩ | ⟨c31, h⟩
      · refine r_qon (q_move rfl rfl) rfl rfl rfl rfl c31 rfl ?_
        refine r_qon (q_move rfl rfl) rfl rfl rfl rfl c31 rfl ?_
        refine r_qon (q_beql un4 rfl rfl rfl) rfl rfl rfl rfl c31 rfl ?_
        refine r_q (q_pick_t rfl rfl c31 rfl) rfl rfl ?_
        refine r_q (q_assign rfl rfl) rfl rfl ?_
        refine j_rs (.box x6 46 [(.slice x5.1.A x5.1.n x5.1.c), (.slice x5.2.1.A x5.2.1.n x5.2.1.c), (.slice x5.2.2.A x5.2.2.n x5.2.2.c)] :: .row x5.1.A x5.1.c 3 1 (ii v10) :: .row x5.2.1.A x5.2.1.c 3 1 (ii v11) :: .row x5.2.2.A x5.2.2.c 3 1 (ii v12) :: .box x4 46 [(.slice x3.1.A x3.1.n x3.1.c), (.slice x3.2.1.A x3.2.1.n x3.2.1.c), (.slice x3.2.2.A x3.2.2.n x3.2.2.c)] :: .row x3.1.A x3.1.c 3 1 (ii v6) :: .row x3.2.1.A x3.2.1.c 3 1 (ii v7) :: .row x3.2.2.A x3.2.2.c 3 1 (ii v8) :: .box x2 46 [(.slice x1.1.A x1.1.n x1.1.c), (.slice x1.2.1.A x1.2.1.n x1.2.1.c), (.slice x1.2.2.A x1.2.2.n x1.2.2.c)] :: .row x1.1.A x1.1.c 3 1 (ii v1) :: .row x1.2.1.A x1.2.1.c 3 1 (ii v2) :: .row x1.2.2.A x1.2.2.c 3 1 (ii v3) :: F) (fun _ h => h) ?_
        refine r_nil ?_
        refine j_then ?_
        refine j_ret ?_
        refine j_then_ret ?_
        cases h
        exact j_return rfl (ResOf.tmp rfl ResOf.nil) rfl (fun w h => ⟨(), rfl, (h.drop 12)⟩)
      · refine r_off rfl rfl rfl rfl (var_f c31) rfl ?_
        refine r_off rfl rfl rfl rfl (var_f c31) rfl ?_
        refine r_off rfl rfl rfl rfl (var_f c31) rfl ?_
        refine r_q (q_pick_f rfl rfl (var_f c31) rfl) rfl rfl ?_
        refine r_q (q_assign rfl rfl) rfl rfl ?_
        refine j_rs (.box x6 46 [(.slice x5.1.A x5.1.n x5.1.c), (.slice x5.2.1.A x5.2.1.n x5.2.1.c), (.slice x5.2.2.A x5.2.2.n x5.2.2.c)] :: .row x5.1.A x5.1.c 3 1 (ii v10) :: .row x5.2.1.A x5.2.1.c 3 1 (ii v11) :: .row x5.2.2.A x5.2.2.c 3 1 (ii v12) :: .box x4 46 [(.slice x3.1.A x3.1.n x3.1.c), (.slice x3.2.1.A x3.2.1.n x3.2.1.c), (.slice x3.2.2.A x3.2.2.n x3.2.2.c)] :: .row x3.1.A x3.1.c 3 1 (ii v6) :: .row x3.2.1.A x3.2.1.c 3 1 (ii v7) :: .row x3.2.2.A x3.2.2.c 3 1 (ii v8) :: .box x2 46 [(.slice x1.1.A x1.1.n x1.1.c), (.slice x1.2.1.A x1.2.1.n x1.2.1.c), (.slice x1.2.2.A x1.2.2.n x1.2.2.c)] :: .row x1.1.A x1.1.c 3 1 (ii v1) :: .row x1.2.1.A x1.2.1.c 3 1 (ii v2) :: .row x1.2.2.A x1.2.2.c 3 1 (ii v3) :: F) (fun _ h => h) ?_
        refine r_nil ?_
        refine j_then ?_
        refine j_ret ?_
        refine j_then_ret ?_
        cases h
        exact j_return rfl (ResOf.tmp rfl ResOf.nil) rfl (fun w h => ⟨(), rfl, (h.drop 12)⟩)

end Go.Proofs.Ytjcbalhdppmdmaa.F
