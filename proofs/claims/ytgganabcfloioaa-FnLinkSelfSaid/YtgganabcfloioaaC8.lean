/- The program computes these pure functions, printed by the generator of wip/gen. -/
import Derived.Test.YtgganabcfloioaaFa
import Derived.Test.YtgganabcfloioaaFh
import Derived.Test.YtgganabcfloioaaFb
import Derived.Test.YtgganabcfloioaaC0
import Derived.Test.YtgganabcfloioaaC1
import Derived.Test.YtgganabcfloioaaC2
import Derived.Test.YtgganabcfloioaaC3
import Derived.Test.YtgganabcfloioaaC4
import Derived.Test.YtgganabcfloioaaC5
import Derived.Test.YtgganabcfloioaaC7
namespace Go.Proofs.Ytgganabcfloioaa.F
open Go Go.RowKit Go.Proofs.Ytgganabcfloioaa.S
set_option linter.unusedVariables false
set_option maxRecDepth 100000
theorem spec_l9Case.calls (K : Nat) (a0 : List Int) (a0_A : Option Addr) (a0_n a0_c : Nat) {w0 w : World} {F : List Res} {r1 : List Int} {r2 : List Int} {r3 : List Int} {r4 : List Int} {r5 : List Int} {r6 : Int} {r7 : Int} (hm : Mem w0 (F) w) (a0_h : a0.length = a0_n) (a0_R : Rd w0 F a0_A (ints .u8 a0)) (a0_k : a0.length ≤ a0_c) (h : spec_l9Case.f K a0 = some (r1, r2, r3, r4, r5, r6, r7)) :
    Calls Try.prog 55 (List.toArray [.slice a0_A a0_n a0_c]) w fun e w' => ∃ x : (Sl r1.length) × (Sl r2.length) × (Sl r3.length) × (Sl r4.length) × (Sl r5.length), e = .returned (.tuple (List.toArray [.agg (List.toArray [.slice x.1.A x.1.n x.1.c, .slice x.2.1.A x.2.1.n x.2.1.c, .slice x.2.2.1.A x.2.2.1.n x.2.2.1.c, .slice x.2.2.2.1.A x.2.2.2.1.n x.2.2.2.1.c, .slice x.2.2.2.2.A x.2.2.2.2.n x.2.2.2.2.c]), i6 r6, i6 r7])) ∧ Mem w0 (.row x.1.A x.1.c 3 1 (ii r1) :: .row x.2.1.A x.2.1.c 3 1 (ii r2) :: .row x.2.2.1.A x.2.2.1.c 3 1 (ii r3) :: .row x.2.2.2.1.A x.2.2.2.1.c 3 1 (ii r4) :: .row x.2.2.2.2.A x.2.2.2.2.c 3 1 (ii r5) :: F) w' := by
  unfold spec_l9Case.f at h
  refine calls_of_J (n := 18) Try.func55 rfl rfl rfl hm ?_
  refine j_seq ?_
  refine j_region ?_
  refine r_do (a_alloc zr29 rfl) rfl rfl (fun x1 => ?_)
  refine r_q (q_assign rfl rfl) rfl rfl ?_
  refine r_q (q_assign rfl rfl) rfl rfl ?_
  refine r_nil ?_
  refine j_then ?_
  refine j_seq ?_
  refine j_region ?_
  refine r_q (q_move rfl rfl) rfl rfl ?_
  obtain ⟨_, hb1, h⟩ := of_b1 h
  refine r_do (a_call ok57 rfl rfl rfl rfl (fun w hm => spec_l13Open.calls K a0 a0_A a0_n a0_c hm a0_h (Rd.drop 1 a0_R) a0_k hb1)) rfl rfl (fun x2 => ?_)
  refine r_q (q_assign rfl rfl) rfl rfl ?_
  refine r_nil ?_
  refine j_then ?_
  refine j_seq ?_
  refine j_region ?_
  refine r_q (q_move rfl rfl) rfl rfl ?_
  refine r_q (q_move rfl rfl) rfl rfl ?_
  obtain ⟨v1, v2, v3, v4, v5, v6, hb2, h⟩ := of_b6 h
  refine r_do (a_call ok59 rfl rfl rfl rfl (fun w hm => spec_l9Draw.calls K x2 (a0.take 2000) a0_A (a0.take 2000).length a0_c (0:Int) hm rfl (rd_hiI (Rd.drop 1 a0_R) 2000) hb2)) rfl rfl (fun x3 => ?_)
  obtain ⟨v7, v8, v9, v10, v11, v12, hb3, h⟩ := of_b6 h
  refine j_rs (.box x2 84 [(.slice a0_A (a0.take 2000).length a0_c), (i6 v6)] :: .row x3.1.A x3.1.c 3 1 (ii v1) :: .row x3.2.1.A x3.2.1.c 3 1 (ii v2) :: .row x3.2.2.1.A x3.2.2.1.c 3 1 (ii v3) :: .row x3.2.2.2.1.A x3.2.2.2.1.c 3 1 (ii v4) :: .row x3.2.2.2.2.A x3.2.2.2.2.c 3 1 (ii v5) :: .box x1 29 [(.slice none 0 0), (.slice none 0 0), (.slice none 0 0), (.slice none 0 0), (.slice none 0 0)] :: F) (fun _ h => h.pick 7 [5, 0, 1, 2, 3, 4, 6] rfl) ?_
  refine r_do (a_call ok58 rfl rfl rfl rfl (fun w hm => spec_l9Wrong.calls K x2 (a0.take 2000) a0_A (a0.take 2000).length a0_c v6 v1 x3.1.A x3.1.n x3.1.c v2 x3.2.1.A x3.2.1.n x3.2.1.c v3 x3.2.2.1.A x3.2.2.1.n x3.2.2.1.c v4 x3.2.2.2.1.A x3.2.2.2.1.n x3.2.2.2.1.c v5 x3.2.2.2.2.A x3.2.2.2.2.n x3.2.2.2.2.c hm rfl (rd_hiI (Rd.drop 6 a0_R) 2000) x3.1.h (Rd.row 0 rfl) x3.2.1.h (Rd.row 1 rfl) x3.2.2.1.h (Rd.row 2 rfl) x3.2.2.2.1.h (Rd.row 3 rfl) x3.2.2.2.2.h (Rd.row 4 rfl) hb3)) rfl rfl (fun x4 => ?_)
  refine r_q (q_move rfl rfl) rfl rfl ?_
  refine r_do (a_litX (vs := [(i6 (0:Int)), (i6 (1:Int)), (i6 (0:Int)), (i6 (2:Int)), (i6 (3:Int)), (i6 (-1:Int))]) (ii ([(0:Int), (1:Int), (0:Int), (2:Int), (3:Int), (-1:Int)] : List Int)) un23 sz3 zr3 rfl rfl rfl rfl rfl rfl rfl rfl rfl) rfl rfl (fun x5 => ?_)
  obtain ⟨v13, v14, hb4, h⟩ := of_b2 h
  refine j_rs (.box x2 84 [(.slice a0_A (a0.take 2000).length a0_c), (i6 v12)] :: .row x5 6 3 1 (ii ([(0:Int), (1:Int), (0:Int), (2:Int), (3:Int), (-1:Int)] : List Int)) :: .row x4.1.A x4.1.c 3 1 (ii v7) :: .row x4.2.1.A x4.2.1.c 3 1 (ii v8) :: .row x4.2.2.1.A x4.2.2.1.c 3 1 (ii v9) :: .row x4.2.2.2.1.A x4.2.2.2.1.c 3 1 (ii v10) :: .row x4.2.2.2.2.A x4.2.2.2.2.c 3 1 (ii v11) :: .row x3.1.A x3.1.c 3 1 (ii v1) :: .row x3.2.1.A x3.2.1.c 3 1 (ii v2) :: .row x3.2.2.1.A x3.2.2.1.c 3 1 (ii v3) :: .row x3.2.2.2.1.A x3.2.2.2.1.c 3 1 (ii v4) :: .row x3.2.2.2.2.A x3.2.2.2.2.c 3 1 (ii v5) :: .box x1 29 [(.slice none 0 0), (.slice none 0 0), (.slice none 0 0), (.slice none 0 0), (.slice none 0 0)] :: F) (fun _ h => h.pick 13 [6, 0, 1, 2, 3, 4, 5, 7, 8, 9, 10, 11, 12] rfl) ?_
  refine r_do (a_call ok80 rfl rfl rfl rfl (fun w hm => spec_l13Rd_num.calls K x2 (a0.take 2000) a0_A (a0.take 2000).length a0_c v12 ([(0:Int), (1:Int), (0:Int), (2:Int), (3:Int), (-1:Int)] : List Int) x5 6 6 hm rfl (rd_hiI (Rd.drop 12 a0_R) 2000) rfl (Rd.row 0 rfl) hb4)) rfl rfl (fun x6 => ?_)
  refine r_q (q_move rfl rfl) rfl rfl ?_
  refine r_do (a_litX (vs := [(i6 (1:Int)), (i6 (0:Int)), (i6 (2:Int)), (i6 (3:Int))]) (ii ([(1:Int), (0:Int), (2:Int), (3:Int)] : List Int)) un23 sz3 zr3 rfl rfl rfl rfl rfl rfl rfl rfl rfl) rfl rfl (fun x7 => ?_)
  obtain ⟨v15, v16, hb5, h⟩ := of_b2 h
  refine j_rs (.box x2 84 [(.slice a0_A (a0.take 2000).length a0_c), (i6 v14)] :: .row x7 4 3 1 (ii ([(1:Int), (0:Int), (2:Int), (3:Int)] : List Int)) :: .row x5 6 3 1 (ii ([(0:Int), (1:Int), (0:Int), (2:Int), (3:Int), (-1:Int)] : List Int)) :: .row x4.1.A x4.1.c 3 1 (ii v7) :: .row x4.2.1.A x4.2.1.c 3 1 (ii v8) :: .row x4.2.2.1.A x4.2.2.1.c 3 1 (ii v9) :: .row x4.2.2.2.1.A x4.2.2.2.1.c 3 1 (ii v10) :: .row x4.2.2.2.2.A x4.2.2.2.2.c 3 1 (ii v11) :: .row x3.1.A x3.1.c 3 1 (ii v1) :: .row x3.2.1.A x3.2.1.c 3 1 (ii v2) :: .row x3.2.2.1.A x3.2.2.1.c 3 1 (ii v3) :: .row x3.2.2.2.1.A x3.2.2.2.1.c 3 1 (ii v4) :: .row x3.2.2.2.2.A x3.2.2.2.2.c 3 1 (ii v5) :: .box x1 29 [(.slice none 0 0), (.slice none 0 0), (.slice none 0 0), (.slice none 0 0), (.slice none 0 0)] :: F) (fun _ h => h.pick 14 [1, 0, 2, 3, 4, 5, 6, 7, 8, 9, 10, 11, 12, 13] rfl) ?_
  refine r_do (a_call ok80 rfl rfl rfl rfl (fun w hm => spec_l13Rd_num.calls K x2 (a0.take 2000) a0_A (a0.take 2000).length a0_c v14 ([(1:Int), (0:Int), (2:Int), (3:Int)] : List Int) x7 4 4 hm rfl (rd_hiI (Rd.drop 13 a0_R) 2000) rfl (Rd.row 0 rfl) hb5)) rfl rfl (fun x8 => ?_)
  refine r_do (a_storeb 13 rfl sz29 rfl rfl rfl rfl (Nat.le_of_ble_eq_true rfl) rfl) rfl rfl (fun _ => ?_)
  refine j_b13 [(.slice x4.1.A x4.1.n x4.1.c), (.slice x4.2.1.A x4.2.1.n x4.2.1.c), (.slice x4.2.2.1.A x4.2.2.1.n x4.2.2.1.c), (.slice x4.2.2.2.1.A x4.2.2.2.1.n x4.2.2.2.1.c), (.slice x4.2.2.2.2.A x4.2.2.2.2.n x4.2.2.2.2.c)] rfl ?_
  refine r_q (q_assign rfl rfl) rfl rfl ?_
  refine r_q (q_assign rfl rfl) rfl rfl ?_
  refine r_nil ?_
  refine j_then ?_
  refine j_ret ?_
  cases h
  exact j_return rfl (ResOf.cell 13 rfl rfl ag29 sz29 (ResOf.tmp rfl (ResOf.tmp rfl ResOf.nil))) rfl (fun w h => ⟨(⟨x4.1.A, x4.1.n, x4.1.c, x4.1.h⟩, ⟨x4.2.1.A, x4.2.1.n, x4.2.1.c, x4.2.1.h⟩, ⟨x4.2.2.1.A, x4.2.2.1.n, x4.2.2.1.c, x4.2.2.1.h⟩, ⟨x4.2.2.2.1.A, x4.2.2.2.1.n, x4.2.2.2.1.c, x4.2.2.2.1.h⟩, ⟨x4.2.2.2.2.A, x4.2.2.2.2.n, x4.2.2.2.2.c, x4.2.2.2.2.h⟩), rfl, h.pick 14 [3, 4, 5, 6, 7] rfl⟩)

theorem impl_rooted.calls (K : Nat) (a0_0 : List Int) (a0_0_A : Option Addr) (a0_0_n a0_0_c : Nat) (a0_1 : List Int) (a0_1_A : Option Addr) (a0_1_n a0_1_c : Nat) (a0_2 : List Int) (a0_2_A : Option Addr) (a0_2_n a0_2_c : Nat) (a0_3 : List Int) (a0_3_A : Option Addr) (a0_3_n a0_3_c : Nat) (a0_4 : List Int) (a0_4_A : Option Addr) (a0_4_n a0_4_c : Nat) (a1 : Int) {w0 w : World} {F : List Res} {r1 : Bool} (hm : Mem w0 (F) w) (a0_0_h : a0_0.length = a0_0_n) (a0_0_R : Rd w0 F a0_0_A (ii a0_0)) (a0_1_h : a0_1.length = a0_1_n) (a0_1_R : Rd w0 F a0_1_A (ii a0_1)) (a0_2_h : a0_2.length = a0_2_n) (a0_2_R : Rd w0 F a0_2_A (ii a0_2)) (a0_3_h : a0_3.length = a0_3_n) (a0_3_R : Rd w0 F a0_3_A (ii a0_3)) (a0_3_k : a0_3.length ≤ a0_3_c) (a0_4_h : a0_4.length = a0_4_n) (a0_4_R : Rd w0 F a0_4_A (ii a0_4)) (h : impl_rooted.f K a0_0 a0_1 a0_2 a0_3 a0_4 a1 = some r1) :
    Calls Try.prog 48 (List.toArray [.agg (List.toArray [.slice a0_0_A a0_0_n a0_0_c, .slice a0_1_A a0_1_n a0_1_c, .slice a0_2_A a0_2_n a0_2_c, .slice a0_3_A a0_3_n a0_3_c, .slice a0_4_A a0_4_n a0_4_c]), i6 a1]) w fun e w' => ∃ x : Unit, e = .returned (.bool r1) ∧ Mem w0 (F) w' := by
  unfold impl_rooted.f at h
  refine calls_of_J (n := 20) Try.func48 rfl rfl rfl hm ?_
  refine j_seq ?_
  refine j_region ?_
  refine r_do (a_box rfl rfl) rfl rfl (fun x1 => ?_)
  refine r_q (q_assign rfl rfl) rfl rfl ?_
  refine r_nil ?_
  refine j_then ?_
  refine j_seq ?_
  refine j_region ?_
  refine r_q (q_loadb_agg 0 rfl ag29 sz29 rfl rfl rfl rfl) rfl rfl ?_
  obtain ⟨v1, hb1, h⟩ := of_b1 h
  refine r_do (a_call ok22 rfl rfl rfl rfl (fun w hm => impl_CountedValid.calls K a0_0 a0_0_A a0_0_n a0_0_c a0_1 a0_1_A a0_1_n a0_1_c a0_2 a0_2_A a0_2_n a0_2_c a0_3 a0_3_A a0_3_n a0_3_c a0_4 a0_4_A a0_4_n a0_4_c hm a0_0_h (Rd.drop 1 a0_0_R) a0_1_h (Rd.drop 1 a0_1_R) a0_2_h (Rd.drop 1 a0_2_R) a0_3_h (Rd.drop 1 a0_3_R) a0_3_k a0_4_h (Rd.drop 1 a0_4_R) hb1)) rfl rfl (fun x2 => ?_)
  refine r_q (q_move rfl rfl) rfl rfl ?_
  rcases of_if h with ⟨c1, h⟩ | ⟨c1, h⟩
  · refine r_qon (q_move rfl rfl) rfl rfl rfl rfl c1 rfl ?_
    refine r_qon (q_geq rfl rfl rfl) rfl rfl rfl rfl c1 rfl ?_
    refine r_q (q_pick_t rfl rfl c1 rfl) rfl rfl ?_
    refine r_q (q_move rfl rfl) rfl rfl ?_
    rcases of_if h with ⟨c2, h⟩ | ⟨c2, h⟩
    · refine r_qon (q_move rfl rfl) rfl rfl rfl rfl (decide_eq_true c2) rfl ?_
      refine r_qon (q_fieldAddr fi29_0 sz27 rfl rfl rfl) rfl rfl rfl rfl (decide_eq_true c2) rfl ?_
      refine r_qon (q_fieldAddr fi27_0 sz25 rfl rfl rfl) rfl rfl rfl rfl (decide_eq_true c2) rfl ?_
      refine r_qon (q_fieldAddr fi25_2 sz23 rfl rfl rfl) rfl rfl rfl rfl (decide_eq_true c2) rfl ?_
      refine r_qon (q_loadb 0 rfl ag23 rfl rfl rfl) rfl rfl rfl rfl (decide_eq_true c2) rfl ?_
      refine r_qon (q_lenX a0_2 a0_2_h un23 rfl rfl rfl rfl rfl) rfl rfl rfl rfl (decide_eq_true c2) rfl ?_
      refine r_qon (q_lss rfl rfl rfl) rfl rfl rfl rfl (decide_eq_true c2) rfl ?_
      refine r_q (q_pick_t rfl rfl (decide_eq_true c2) rfl) rfl rfl ?_
      refine r_q (q_assign rfl rfl) rfl rfl ?_
      refine r_nil ?_
      refine j_then ?_
      refine j_ret ?_
      cases h
      exact j_return rfl (ResOf.tmp rfl ResOf.nil) rfl (fun w h => ⟨(), rfl, h.tail⟩)
    · refine r_off rfl rfl rfl rfl (decide_eq_false c2) rfl ?_
      refine r_off rfl rfl rfl rfl (decide_eq_false c2) rfl ?_
      refine r_off rfl rfl rfl rfl (decide_eq_false c2) rfl ?_
      refine r_off rfl rfl rfl rfl (decide_eq_false c2) rfl ?_
      refine r_off rfl rfl rfl rfl (decide_eq_false c2) rfl ?_
      refine r_off rfl rfl rfl rfl (decide_eq_false c2) rfl ?_
      refine r_off rfl rfl rfl rfl (decide_eq_false c2) rfl ?_
      refine r_q (q_pick_f rfl rfl (decide_eq_false c2) rfl) rfl rfl ?_
      refine r_q (q_assign rfl rfl) rfl rfl ?_
      refine r_nil ?_
      refine j_then ?_
      refine j_ret ?_
      cases h
      exact j_return rfl (ResOf.tmp rfl ResOf.nil) rfl (fun w h => ⟨(), rfl, h.tail⟩)
  · refine r_off rfl rfl rfl rfl (var_f c1) rfl ?_
    refine r_off rfl rfl rfl rfl (var_f c1) rfl ?_
    refine r_q (q_pick_f rfl rfl (var_f c1) rfl) rfl rfl ?_
    refine r_q (q_move rfl rfl) rfl rfl ?_
    refine r_off rfl rfl rfl rfl rfl rfl ?_
    refine r_off rfl rfl rfl rfl rfl rfl ?_
    refine r_off rfl rfl rfl rfl rfl rfl ?_
    refine r_off rfl rfl rfl rfl rfl rfl ?_
    refine r_off rfl rfl rfl rfl rfl rfl ?_
    refine r_off rfl rfl rfl rfl rfl rfl ?_
    refine r_off rfl rfl rfl rfl rfl rfl ?_
    refine r_q (q_pick_f rfl rfl rfl rfl) rfl rfl ?_
    refine r_q (q_assign rfl rfl) rfl rfl ?_
    refine r_nil ?_
    refine j_then ?_
    refine j_ret ?_
    cases h
    exact j_return rfl (ResOf.tmp rfl ResOf.nil) rfl (fun w h => ⟨(), rfl, h.tail⟩)

theorem impl_counted.calls (K : Nat) (a0_0 : List Int) (a0_0_A : Option Addr) (a0_0_n a0_0_c : Nat) (a0_1 : List Int) (a0_1_A : Option Addr) (a0_1_n a0_1_c : Nat) (a0_2 : List Int) (a0_2_A : Option Addr) (a0_2_n a0_2_c : Nat) (a0_3 : List Int) (a0_3_A : Option Addr) (a0_3_n a0_3_c : Nat) (a0_4 : List Int) (a0_4_A : Option Addr) (a0_4_n a0_4_c : Nat) {w0 w : World} {F : List Res} {r1 : List Int} {r2 : List Int} {r3 : List Int} {r4 : List Int} {r5 : List Int} (hm : Mem w0 (F) w) (a0_0_h : a0_0.length = a0_0_n) (a0_0_R : Rd w0 F a0_0_A (ii a0_0)) (a0_1_h : a0_1.length = a0_1_n) (a0_1_R : Rd w0 F a0_1_A (ii a0_1)) (a0_2_h : a0_2.length = a0_2_n) (a0_2_R : Rd w0 F a0_2_A (ii a0_2)) (a0_3_h : a0_3.length = a0_3_n) (a0_3_R : Rd w0 F a0_3_A (ii a0_3)) (a0_4_h : a0_4.length = a0_4_n) (a0_4_R : Rd w0 F a0_4_A (ii a0_4)) (h : impl_counted.f K a0_0 a0_1 a0_2 a0_3 a0_4 = some (r1, r2, r3, r4, r5)) :
    Calls Try.prog 49 (List.toArray [.agg (List.toArray [.slice a0_0_A a0_0_n a0_0_c, .slice a0_1_A a0_1_n a0_1_c, .slice a0_2_A a0_2_n a0_2_c, .slice a0_3_A a0_3_n a0_3_c, .slice a0_4_A a0_4_n a0_4_c])]) w fun e w' => ∃ x : (Sl r1.length) × (Sl r2.length) × (Sl r3.length) × (Sl r4.length) × (Sl r5.length), e = .returned (.agg (List.toArray [.slice x.1.A x.1.n x.1.c, .slice x.2.1.A x.2.1.n x.2.1.c, .slice x.2.2.1.A x.2.2.1.n x.2.2.1.c, .slice x.2.2.2.1.A x.2.2.2.1.n x.2.2.2.1.c, .slice x.2.2.2.2.A x.2.2.2.2.n x.2.2.2.2.c])) ∧ Mem w0 (.row x.1.A x.1.c 3 1 (ii r1) :: .row x.2.1.A x.2.1.c 3 1 (ii r2) :: .row x.2.2.1.A x.2.2.1.c 3 1 (ii r3) :: .row x.2.2.2.1.A x.2.2.2.1.c 3 1 (ii r4) :: .row x.2.2.2.2.A x.2.2.2.2.c 3 1 (ii r5) :: F) w' := by
  unfold impl_counted.f at h
  refine calls_of_J (n := 10) Try.func49 rfl rfl rfl hm ?_
  refine j_seq ?_
  refine j_region ?_
  refine r_do (a_box rfl rfl) rfl rfl (fun x1 => ?_)
  refine r_do (a_alloc zr29 rfl) rfl rfl (fun x2 => ?_)
  refine r_nil ?_
  refine j_then ?_
  refine j_seq ?_
  obtain ⟨v1, v2, v3, v4, hb1, h⟩ := of_b4 h
  obtain ⟨v5, hb2, h⟩ := of_b1 h
  refine j_draw (.box x1 29 [(.slice a0_0_A a0_0_n a0_0_c), (.slice a0_1_A a0_1_n a0_1_c), (.slice a0_2_A a0_2_n a0_2_c), (.slice a0_3_A a0_3_n a0_3_c), (.slice a0_4_A a0_4_n a0_4_c)] :: F) 8 follows_any rfl ?_
  refine d_take 0 rfl (q_fieldAddr fi29_0 sz27 rfl rfl rfl) rfl rfl (by kernel_rfl) (by kernel_rfl) (by kernel_rfl) (fun w h => h.tail) ?_
  refine d_take 1 rfl (q_loadb_agg 0 rfl ag27 sz27 rfl rfl rfl rfl) rfl rfl (by kernel_rfl) (by kernel_rfl) (by kernel_rfl) (fun w h => h.tail) ?_
  refine d_take 3 rfl (q_fieldAddr fi29_1 sz23 rfl rfl rfl) rfl rfl (by kernel_rfl) (by kernel_rfl) (by kernel_rfl) (fun w h => h.tail) ?_
  refine d_take 4 rfl (q_loadb 0 rfl ag23 rfl rfl rfl) rfl rfl (by kernel_rfl) (by kernel_rfl) (by kernel_rfl) (fun w h => h.tail) ?_
  refine d_one 2 (by kernel_rfl) ?_
  refine o_do rfl (a_call ok65 rfl rfl rfl rfl (fun w hm => impl_again.calls K a0_0 a0_0_A a0_0_n a0_0_c a0_1 a0_1_A a0_1_n a0_1_c a0_2 a0_2_A a0_2_n a0_2_c a0_3 a0_3_A a0_3_n a0_3_c hm a0_0_h (Rd.drop 2 a0_0_R) a0_1_h (Rd.drop 2 a0_1_R) a0_2_h (Rd.drop 2 a0_2_R) a0_3_h (Rd.drop 2 a0_3_R) hb1)) rfl rfl (fun x3 w h => (h.drop 5)) (fun x3 => ?_)
  refine d_one 5 (by kernel_rfl) ?_
  refine o_do rfl (a_call ok79 rfl rfl rfl rfl (fun w hm => slices_Clone_int.calls K a0_4 a0_4_A a0_4_n a0_4_c hm a0_4_h (Rd.drop 6 a0_4_R) hb2)) rfl rfl (fun x4 w h => (h.drop 6)) (fun x4 => ?_)
  refine d_take 6 rfl (q_build (cs := [(.slice x3.1.A x3.1.n x3.1.c), (.slice x3.2.1.A x3.2.1.n x3.2.1.c), (.slice x3.2.2.1.A x3.2.2.1.n x3.2.2.1.c), (.slice x3.2.2.2.A x3.2.2.2.n x3.2.2.2.c), (.slice x4.A x4.n x4.c)]) zr29 pl29 rfl rfl rfl rfl) rfl rfl (by kernel_rfl) (by kernel_rfl) (by kernel_rfl) (fun w h => (h.drop 6)) ?_
  refine d_one 7 (by kernel_rfl) ?_
  refine o_do rfl (a_storeb 5 rfl sz29 rfl rfl rfl rfl (Nat.le_of_ble_eq_true rfl) rfl) rfl rfl (fun _ w h => (h.drop 6)) (fun _ => ?_)
  refine j_b5 [(.slice x3.1.A x3.1.n x3.1.c), (.slice x3.2.1.A x3.2.1.n x3.2.1.c), (.slice x3.2.2.1.A x3.2.2.1.n x3.2.2.1.c), (.slice x3.2.2.2.A x3.2.2.2.n x3.2.2.2.c), (.slice x4.A x4.n x4.c)] rfl ?_
  refine d_done (by kernel_rfl) ?_
  refine j_then ?_
  refine j_ret ?_
  cases h
  exact j_return rfl (ResOf.cell 5 rfl rfl ag29 sz29 ResOf.nil) rfl (fun w h => ⟨(⟨x3.1.A, x3.1.n, x3.1.c, x3.1.h⟩, ⟨x3.2.1.A, x3.2.1.n, x3.2.1.c, x3.2.1.h⟩, ⟨x3.2.2.1.A, x3.2.2.1.n, x3.2.2.1.c, x3.2.2.1.h⟩, ⟨x3.2.2.2.A, x3.2.2.2.n, x3.2.2.2.c, x3.2.2.2.h⟩, ⟨x4.A, x4.n, x4.c, x4.h⟩), rfl, h.pick 7 [1, 2, 3, 4, 0] rfl⟩)

theorem impl_Counted_giveUp.calls (K : Nat) (a0_g : Nat) (a0_0 : List Int) (a0_0_A : Option Addr) (a0_0_n a0_0_c : Nat) (a0_1 : List Int) (a0_1_A : Option Addr) (a0_1_n a0_1_c : Nat) (a0_2_A : Option Addr) (a0_2_n a0_2_c : Nat) (a0_3 : List Int) (a0_3_A : Option Addr) (a0_3_n a0_3_c : Nat) (a0_4 : List Int) (a0_4_A : Option Addr) (a0_4_n a0_4_c : Nat) (a1 : Int) {w0 w : World} {F : List Res} {r1 : List Int} {r2 : List Int} {r3 : List Int} {r4 : List Int} (hm : Mem w0 (.box a0_g 29 [.slice a0_0_A a0_0_n a0_0_c, .slice a0_1_A a0_1_n a0_1_c, .slice a0_2_A a0_2_n a0_2_c, .slice a0_3_A a0_3_n a0_3_c, .slice a0_4_A a0_4_n a0_4_c] :: .row a0_0_A a0_0_c 3 1 (ii a0_0) :: .row a0_1_A a0_1_c 3 1 (ii a0_1) :: .row a0_3_A a0_3_c 3 1 (ii a0_3) :: .row a0_4_A a0_4_c 3 1 (ii a0_4) :: F) w) (a0_0_h : a0_0.length = a0_0_n) (a0_1_h : a0_1.length = a0_1_n) (a0_3_h : a0_3.length = a0_3_n) (a0_4_h : a0_4.length = a0_4_n) (h : impl_Counted_giveUp.f K a0_0 a0_1 a0_3 a0_4 a1 = some (r1, r2, r3, r4)) :
    Calls Try.prog 50 (List.toArray [pt a0_g, i6 a1]) w fun e w' => ∃ x : (Ln r1.length a0_0.length) × (Ln r2.length a0_1.length) × (Sl r3.length) × (Ln r4.length a0_4.length), e = .returned (.tuple (List.toArray [])) ∧ Mem w0 (.box a0_g 29 [.slice a0_0_A a0_0_n a0_0_c, .slice a0_1_A a0_1_n a0_1_c, .slice a0_2_A a0_2_n a0_2_c, .slice x.2.2.1.A x.2.2.1.n x.2.2.1.c, .slice a0_4_A a0_4_n a0_4_c] :: .row a0_0_A a0_0_c 3 1 (ii r1) :: .row a0_1_A a0_1_c 3 1 (ii r2) :: .row x.2.2.1.A x.2.2.1.c 3 1 (ii r3) :: .row a0_4_A a0_4_c 3 1 (ii r4) :: F) w' := by
  unfold impl_Counted_giveUp.f at h
  refine calls_of_J (n := 77) Try.func50 rfl rfl rfl hm ?_
  refine j_seq ?_
  refine j_region ?_
  refine r_q (q_move rfl rfl) rfl rfl ?_
  refine r_q (q_nilCheck rfl rfl) rfl rfl ?_
  refine r_q (q_fieldAddr fi29_0 sz27 rfl rfl rfl) rfl rfl ?_
  refine r_q (q_fieldAddr fi27_0 sz25 rfl rfl rfl) rfl rfl ?_
  refine r_q (q_loadb_agg 0 rfl ag25 sz25 rfl rfl rfl rfl) rfl rfl ?_
  refine r_do (a_alloc zr25 rfl) rfl rfl (fun x1 => ?_)
  refine r_do (a_storeb 0 rfl sz25 rfl rfl rfl rfl (Nat.le_of_ble_eq_true rfl) rfl) rfl rfl (fun _ => ?_)
  refine j_b0 [(.slice a0_0_A a0_0_n a0_0_c), (.slice a0_1_A a0_1_n a0_1_c), (.slice a0_2_A a0_2_n a0_2_c)] rfl ?_
  refine r_nil ?_
  refine j_then ?_
  refine j_seq ?_
  refine j_region ?_
  refine r_q (q_move rfl rfl) rfl rfl ?_
  refine r_do (a_litX (vs := [(i6 a1)]) (ii ([a1] : List Int)) un23 sz3 zr3 rfl rfl rfl rfl rfl rfl rfl rfl rfl) rfl rfl (fun x2 => ?_)
  refine r_q (q_assign rfl rfl) rfl rfl ?_
  refine r_nil ?_
  refine j_then ?_
  refine j_seq ?_
  refine j_region ?_
  refine r_q (q_assign rfl rfl) rfl rfl ?_
  refine r_nil ?_
  refine j_then ?_
  obtain ⟨κ0, h, hκ0⟩ := ex_k (g := fun κ => impl_Counted_giveUp.loop0 K κ K ([a1] : List Int) (0:Int) a0_3 a0_0 a0_1 a0_4 = some (r1, r2, r3, r4)) h
  refine j_cut (σ := (Option Addr) × Nat × Nat × (List Int) × (List Int) × (List Int) × (List Int)) (fun s => []) (fun s => .box a0_g 29 [(.slice a0_0_A a0_0_n a0_0_c), (.slice a0_1_A a0_1_n a0_1_c), (.slice a0_2_A a0_2_n a0_2_c), (.slice s.1 s.2.1 s.2.2.1), (.slice a0_4_A a0_4_n a0_4_c)] :: .row a0_0_A a0_0_c 3 1 (ii s.2.2.2.2.1) :: .row a0_1_A a0_1_c 3 1 (ii s.2.2.2.2.2.1) :: .row a0_4_A a0_4_c 3 1 (ii s.2.2.2.2.2.2) :: .row s.1 s.2.2.1 3 1 (ii s.2.2.2.1) :: F) (fun s => κ0 s.2.2.2.1 s.2.2.2.2.1 s.2.2.2.2.2.1 s.2.2.2.2.2.2 = some (r1, r2, r3, r4) ∧ (s.2.2.2.1.length = s.2.1) ∧ (s.2.2.2.2.1.length = a0_0_n) ∧ (s.2.2.2.2.2.1.length = a0_1_n) ∧ (s.2.2.2.2.2.2.length = a0_4_n)) ?_ ?_
  · refine j_block ?_
    refine j_loop (σ := (Option Addr) × Nat × Nat × (List Int) × Int × (Option Addr) × Nat × Nat × (List Int) × (List Int) × (List Int) × (List Int)) (fun s => [(0, (pt a0_g)), (4, (pt x1)), (5, (.slice s.1 s.2.1 s.2.2.1)), (6, (i6 s.2.2.2.2.1))]) (fun s => .box a0_g 29 [(.slice a0_0_A a0_0_n a0_0_c), (.slice a0_1_A a0_1_n a0_1_c), (.slice a0_2_A a0_2_n a0_2_c), (.slice s.2.2.2.2.2.1 s.2.2.2.2.2.2.1 s.2.2.2.2.2.2.2.1), (.slice a0_4_A a0_4_n a0_4_c)] :: .box x1 25 [(.slice a0_0_A a0_0_n a0_0_c), (.slice a0_1_A a0_1_n a0_1_c), (.slice a0_2_A a0_2_n a0_2_c)] :: .row a0_0_A a0_0_c 3 1 (ii s.2.2.2.2.2.2.2.2.2.1) :: .row a0_1_A a0_1_c 3 1 (ii s.2.2.2.2.2.2.2.2.2.2.1) :: .row a0_4_A a0_4_c 3 1 (ii s.2.2.2.2.2.2.2.2.2.2.2) :: .row s.1 s.2.2.1 3 1 (ii s.2.2.2.1) :: .row s.2.2.2.2.2.1 s.2.2.2.2.2.2.2.1 3 1 (ii s.2.2.2.2.2.2.2.2.1) :: F) (fun m s => impl_Counted_giveUp.loop0 K κ0 m s.2.2.2.1 s.2.2.2.2.1 s.2.2.2.2.2.2.2.2.1 s.2.2.2.2.2.2.2.2.2.1 s.2.2.2.2.2.2.2.2.2.2.1 s.2.2.2.2.2.2.2.2.2.2.2 = some (r1, r2, r3, r4) ∧ (s.2.2.2.1.length = s.2.1) ∧ (s.2.2.2.2.2.2.2.2.1.length = s.2.2.2.2.2.2.1) ∧ (s.2.2.2.2.2.2.2.2.2.1.length = a0_0_n) ∧ (s.2.2.2.2.2.2.2.2.2.2.1.length = a0_1_n) ∧ (s.2.2.2.2.2.2.2.2.2.2.2.length = a0_4_n)) K (x2, 1, 1, ([a1] : List Int), (0:Int), a0_3_A, a0_3_n, a0_3_c, a0_3, a0_0, a0_1, a0_4) ⟨h, rfl, a0_3_h, a0_0_h, a0_1_h, a0_4_h⟩ (fun a he => he.sub ⟨rfl, rfl, rfl, rfl, trivial⟩) (fun w h => h.pick 7 [2, 1, 3, 4, 6, 0, 5] rfl) ?_
    rintro m ⟨A3, n3, d3, l6, p2, A4, n4, d4, l7, l8, l9, l10⟩ ⟨h, q6, q7, q8, q9, q10⟩
    cases m with
    | zero => exact absurd h (by rw [impl_Counted_giveUp.loop0]; exact nofun)
    | succ m =>
      rw [impl_Counted_giveUp.loop0] at h
      show J _ _ [(0, (pt a0_g)), (4, (pt x1)), (5, (.slice A3 n3 d3)), (6, (i6 p2))] _ (.box a0_g 29 [(.slice a0_0_A a0_0_n a0_0_c), (.slice a0_1_A a0_1_n a0_1_c), (.slice a0_2_A a0_2_n a0_2_c), (.slice A4 n4 d4), (.slice a0_4_A a0_4_n a0_4_c)] :: .box x1 25 [(.slice a0_0_A a0_0_n a0_0_c), (.slice a0_1_A a0_1_n a0_1_c), (.slice a0_2_A a0_2_n a0_2_c)] :: .row a0_0_A a0_0_c 3 1 (ii l8) :: .row a0_1_A a0_1_c 3 1 (ii l9) :: .row a0_4_A a0_4_c 3 1 (ii l10) :: .row A3 d3 3 1 (ii l6) :: .row A4 d4 3 1 (ii l7) :: F)
      refine j_seq ?_
      refine j_seq ?_
      refine j_region ?_
      refine r_q (q_move rfl rfl) rfl rfl ?_
      refine r_q (q_move rfl rfl) rfl rfl ?_
      refine r_q (q_lenX l6 q6 un23 rfl rfl rfl rfl rfl) rfl rfl ?_
      refine r_q (q_lss rfl rfl rfl) rfl rfl ?_
      refine r_nil ?_
      refine j_then ?_
      rcases of_if h with ⟨c31, h⟩ | ⟨c31, h⟩
      · refine j_true rfl (decide_eq_true c31) ?_
        refine j_skip ?_
        refine j_then ?_
        refine j_seq ?_
        refine j_block ?_
        refine j_seq ?_
        refine j_region ?_
        refine r_q (q_move rfl rfl) rfl rfl ?_
        refine r_q (q_move rfl rfl) rfl rfl ?_
        obtain ⟨c32, h⟩ := of_guard h
        refine r_q (q_ix (Rd.row 5 rfl) (ints_len1 _ l6) (by decide) q6 c32 un23 sz3 rfl rfl rfl) rfl rfl ?_
        refine r_q (q_ldI (Rd.row 5 rfl) c32 ag3 rfl rfl) rfl rfl ?_
        refine r_q (q_assign rfl rfl) rfl rfl ?_
        refine r_nil ?_
        refine j_then ?_
        refine j_seq ?_
        refine j_seq ?_
        refine j_region ?_
        refine r_q (q_move rfl rfl) rfl rfl ?_
        refine r_q (q_eql rfl rfl rfl) rfl rfl ?_
        refine r_nil ?_
        refine j_then ?_
        rcases of_if h with ⟨c33, h⟩ | ⟨c33, h⟩
        · refine j_true rfl (beq_t c33) ?_
          refine j_exit ?_
          refine j_then_exit ?_
          refine j_in_exit ?_
          refine j_then ?_
          refine j_region ?_
          refine r_q (q_move rfl rfl) rfl rfl ?_
          refine r_q (q_add rfl rfl rfl) rfl rfl ?_
          refine r_q (q_assign rfl rfl) rfl rfl ?_
          refine r_nil ?_
          refine j_then ?_
          exact j_again m (A3, n3, d3, l6, (wrap64 (p2 + (1:Int))), A4, n4, d4, l7, l8, l9, l10) (Nat.lt_succ_self m) ⟨h, q6, q7, q8, q9, q10⟩ (fun a he => he.sub ⟨rfl, rfl, rfl, rfl, trivial⟩) (fun w h => h)
        · refine j_false rfl (beq_f c33) ?_
          refine j_skip ?_
          refine j_then ?_
          refine j_seq ?_
          refine j_seq ?_
          refine j_region ?_
          refine r_q (q_move rfl rfl) rfl rfl ?_
          refine r_q (q_nilCheck rfl rfl) rfl rfl ?_
          refine r_q (q_fieldAddr fi29_1 sz23 rfl rfl rfl) rfl rfl ?_
          refine r_q (q_loadb 0 rfl ag23 rfl rfl rfl) rfl rfl ?_
          refine r_q (q_move rfl rfl) rfl rfl ?_
          obtain ⟨c34, h⟩ := of_guard h
          refine r_q (q_ix (Rd.row 4 rfl) (ints_len1 _ l10) (by decide) q10 c34 un23 sz3 rfl rfl rfl) rfl rfl ?_
          refine r_q (q_ldI (Rd.row 4 rfl) c34 ag3 rfl rfl) rfl rfl ?_
          refine r_q (q_sub rfl rfl rfl) rfl rfl ?_
          refine r_q (q_ix (Rd.row 4 rfl) (ints_len1 _ l10) (by decide) q10 c34 un23 sz3 rfl rfl rfl) rfl rfl ?_
          refine r_do (a_stI 4 rfl c34 sz3 rfl rfl rfl) rfl rfl (fun _ => ?_)
          refine j_s4 ?_
          refine r_nil ?_
          refine j_then ?_
          refine j_seq ?_
          refine j_region ?_
          refine r_q (q_move rfl rfl) rfl rfl ?_
          refine r_q (q_nilCheck rfl rfl) rfl rfl ?_
          refine r_q (q_fieldAddr fi29_1 sz23 rfl rfl rfl) rfl rfl ?_
          refine r_q (q_loadb 0 rfl ag23 rfl rfl rfl) rfl rfl ?_
          refine r_q (q_move rfl rfl) rfl rfl ?_
          obtain ⟨c35, h⟩ := of_guard h
          refine r_q (q_ix (Rd.row 4 rfl) (ints_len1 _ (l10.set (rd l6 p2).toNat (wrap64 ((rd l10 (rd l6 p2)) - (1:Int))))) (by decide) (set_len q10 _ _) c35 un23 sz3 rfl rfl rfl) rfl rfl ?_
          refine r_q (q_ldI (Rd.row 4 rfl) c35 ag3 rfl rfl) rfl rfl ?_
          refine r_q (q_gtr rfl rfl rfl) rfl rfl ?_
          refine r_nil ?_
          refine j_then ?_
          rcases of_if h with ⟨c36, h⟩ | ⟨c36, h⟩
          · refine j_true rfl (decide_eq_true c36) ?_
            refine j_exit ?_
            refine j_then_exit ?_
            refine j_in_exit ?_
            refine j_then ?_
            refine j_region ?_
            refine r_q (q_move rfl rfl) rfl rfl ?_
            refine r_q (q_add rfl rfl rfl) rfl rfl ?_
            refine r_q (q_assign rfl rfl) rfl rfl ?_
            refine r_nil ?_
            refine j_then ?_
            exact j_again m (A3, n3, d3, l6, (wrap64 (p2 + (1:Int))), A4, n4, d4, l7, l8, l9, (l10.set (rd l6 p2).toNat (wrap64 ((rd l10 (rd l6 p2)) - (1:Int))))) (Nat.lt_succ_self m) ⟨h, q6, q7, q8, q9, (set_len q10 _ _)⟩ (fun a he => he.sub ⟨rfl, rfl, rfl, rfl, trivial⟩) (fun w h => h)
          · refine j_false rfl (decide_eq_false c36) ?_
            refine j_skip ?_
            refine j_then ?_
            refine j_seq ?_
            obtain ⟨c37, h⟩ := of_guard h
            obtain ⟨c38, h⟩ := of_guard h
            obtain ⟨c39, h⟩ := of_guard h
            refine j_draw (.box a0_g 29 [(.slice a0_0_A a0_0_n a0_0_c), (.slice a0_1_A a0_1_n a0_1_c), (.slice a0_2_A a0_2_n a0_2_c), (.slice A4 n4 d4), (.slice a0_4_A a0_4_n a0_4_c)] :: .box x1 25 [(.slice a0_0_A a0_0_n a0_0_c), (.slice a0_1_A a0_1_n a0_1_c), (.slice a0_2_A a0_2_n a0_2_c)] :: .row a0_0_A a0_0_c 3 1 (ii l8) :: .row a0_1_A a0_1_c 3 1 (ii l9) :: .row a0_4_A a0_4_c 3 1 (ii (l10.set (rd l6 p2).toNat (wrap64 ((rd l10 (rd l6 p2)) - (1:Int))))) :: .row A4 d4 3 1 (ii l7) :: F) 14 follows_any rfl ?_
            refine d_take 0 rfl (q_move rfl rfl) rfl rfl (by kernel_rfl) (by kernel_rfl) (by kernel_rfl) (fun w h => h.pick 7 [0, 1, 2, 3, 4, 6] rfl) ?_
            refine d_take 1 rfl (q_fieldAddr fi25_0 sz23 rfl rfl rfl) rfl rfl (by kernel_rfl) (by kernel_rfl) (by kernel_rfl) (fun w h => h.pick 7 [0, 1, 2, 3, 4, 6] rfl) ?_
            refine d_take 2 rfl (q_loadb 1 rfl ag23 rfl rfl rfl) rfl rfl (by kernel_rfl) (by kernel_rfl) (by kernel_rfl) (fun w h => h.pick 7 [0, 1, 2, 3, 4, 6] rfl) ?_
            refine d_take 3 rfl (q_move rfl rfl) rfl rfl (by kernel_rfl) (by kernel_rfl) (by kernel_rfl) (fun w h => h.pick 7 [0, 1, 2, 3, 4, 6] rfl) ?_
            refine d_take 4 rfl (q_ix (Rd.row 2 rfl) (ints_len1 _ l8) (by decide) q8 c37 un23 sz3 rfl rfl rfl) rfl rfl (by kernel_rfl) (by kernel_rfl) (by kernel_rfl) (fun w h => h.pick 7 [0, 1, 2, 3, 4, 6] rfl) ?_
            refine d_take 5 rfl (q_ldI (Rd.row 2 rfl) c37 ag3 rfl rfl) rfl rfl (by kernel_rfl) (by kernel_rfl) (by kernel_rfl) (fun w h => h.pick 7 [0, 1, 2, 3, 4, 6] rfl) ?_
            refine d_take 6 rfl (q_fieldAddr fi25_1 sz23 rfl rfl rfl) rfl rfl (by kernel_rfl) (by kernel_rfl) (by kernel_rfl) (fun w h => h.pick 7 [0, 1, 2, 3, 4, 6] rfl) ?_
            refine d_take 7 rfl (q_loadb 1 rfl ag23 rfl rfl rfl) rfl rfl (by kernel_rfl) (by kernel_rfl) (by kernel_rfl) (fun w h => h.pick 7 [0, 1, 2, 3, 4, 6] rfl) ?_
            refine d_take 8 rfl (q_move rfl rfl) rfl rfl (by kernel_rfl) (by kernel_rfl) (by kernel_rfl) (fun w h => h.pick 7 [0, 1, 2, 3, 4, 6] rfl) ?_
            refine d_take 9 rfl (q_ix (Rd.row 3 rfl) (ints_len1 _ l9) (by decide) q9 c38 un23 sz3 rfl rfl rfl) rfl rfl (by kernel_rfl) (by kernel_rfl) (by kernel_rfl) (fun w h => h.pick 7 [0, 1, 2, 3, 4, 6] rfl) ?_
            refine d_take 10 rfl (q_ldI (Rd.row 3 rfl) c38 ag3 rfl rfl) rfl rfl (by kernel_rfl) (by kernel_rfl) (by kernel_rfl) (fun w h => h.pick 7 [0, 1, 2, 3, 4, 6] rfl) ?_
            refine d_one 11 (by kernel_rfl) ?_
            refine o_do rfl (a_litX (vs := [(i6 (rd l8 (rd l6 p2))), (i6 (rd l9 (rd l6 p2)))]) (ii ([(rd l8 (rd l6 p2)), (rd l9 (rd l6 p2))] : List Int)) un23 sz3 zr3 rfl rfl rfl rfl rfl rfl rfl rfl rfl) rfl rfl (fun x3 w h => h.pick 8 [1, 2, 3, 4, 5, 7] rfl) (fun x3 => ?_)
            refine d_one 12 (by kernel_rfl) ?_
            refine o_do rfl (a_appI (xs := l6) (ys := ([(rd l8 (rd l6 p2)), (rd l9 (rd l6 p2))] : List Int)) 6 un23 un23 sz3 by3 zr3 rfl rfl rfl rfl rfl rfl rfl rfl rfl q6 rfl (Rd.row 0 rfl) c39) rfl rfl (fun x4 w h => h.pick 8 [1, 2, 3, 4, 5, 7] rfl) (fun x4 => ?_)
            refine j_s6 ?_
            refine d_take 13 rfl (q_assign rfl rfl) rfl rfl (by kernel_rfl) (by kernel_rfl) (by kernel_rfl) (fun w h => h.pick 8 [1, 2, 3, 4, 5, 7] rfl) ?_
            refine d_done (by kernel_rfl) ?_
            refine j_then ?_
            refine j_seq ?_
            refine j_draw (.row x3 2 3 1 (ii ([(rd l8 (rd l6 p2)), (rd l9 (rd l6 p2))] : List Int)) :: .box a0_g 29 [(.slice a0_0_A a0_0_n a0_0_c), (.slice a0_1_A a0_1_n a0_1_c), (.slice a0_2_A a0_2_n a0_2_c), (.slice A4 n4 d4), (.slice a0_4_A a0_4_n a0_4_c)] :: .box x1 25 [(.slice a0_0_A a0_0_n a0_0_c), (.slice a0_1_A a0_1_n a0_1_c), (.slice a0_2_A a0_2_n a0_2_c)] :: .row a0_4_A a0_4_c 3 1 (ii (l10.set (rd l6 p2).toNat (wrap64 ((rd l10 (rd l6 p2)) - (1:Int))))) :: .row x4.1 x4.2 3 1 (ii (l6 ++ ([(rd l8 (rd l6 p2)), (rd l9 (rd l6 p2))] : List Int))) :: .row A4 d4 3 1 (ii l7) :: F) 10 follows_any rfl ?_
            refine d_take 0 rfl (q_fieldAddr fi25_0 sz23 rfl rfl rfl) rfl rfl (by kernel_rfl) (by kernel_rfl) (by kernel_rfl) (fun w h => h.pick 8 [0, 1, 2, 5, 6, 7] rfl) ?_
            refine d_take 1 rfl (q_loadb 2 rfl ag23 rfl rfl rfl) rfl rfl (by kernel_rfl) (by kernel_rfl) (by kernel_rfl) (fun w h => h.pick 8 [0, 1, 2, 5, 6, 7] rfl) ?_
            refine d_take 2 rfl (q_move rfl rfl) rfl rfl (by kernel_rfl) (by kernel_rfl) (by kernel_rfl) (fun w h => h.pick 8 [0, 1, 2, 5, 6, 7] rfl) ?_
            refine d_take 3 rfl (q_fieldAddr fi25_1 sz23 rfl rfl rfl) rfl rfl (by kernel_rfl) (by kernel_rfl) (by kernel_rfl) (fun w h => h.pick 8 [0, 1, 2, 5, 6, 7] rfl) ?_
            refine d_take 4 rfl (q_loadb 2 rfl ag23 rfl rfl rfl) rfl rfl (by kernel_rfl) (by kernel_rfl) (by kernel_rfl) (fun w h => h.pick 8 [0, 1, 2, 5, 6, 7] rfl) ?_
            refine d_take 5 rfl (q_move rfl rfl) rfl rfl (by kernel_rfl) (by kernel_rfl) (by kernel_rfl) (fun w h => h.pick 8 [0, 1, 2, 5, 6, 7] rfl) ?_
            refine d_one 6 (by kernel_rfl) ?_
            refine o_do rfl ((q_ix (Rd.row 3 rfl) (ints_len1 _ l8) (by decide) q8 c37 un23 sz3 rfl rfl rfl)).acts rfl rfl (fun _ w h => h.pick 8 [0, 1, 2, 5, 6, 7] rfl) (fun _ => ?_)
            refine d_one 7 (by kernel_rfl) ?_
            refine o_do rfl (a_stI 3 rfl c37 sz3 rfl rfl rfl) rfl rfl (fun _ w h => h.pick 8 [0, 1, 2, 5, 6, 7] rfl) (fun _ => ?_)
            refine j_s3 ?_
            refine d_one 8 (by kernel_rfl) ?_
            refine o_do rfl ((q_ix (Rd.row 4 rfl) (ints_len1 _ l9) (by decide) q9 c38 un23 sz3 rfl rfl rfl)).acts rfl rfl (fun _ w h => h.pick 8 [0, 1, 2, 5, 6, 7] rfl) (fun _ => ?_)
            refine d_one 9 (by kernel_rfl) ?_
            refine o_do rfl (a_stI 4 rfl c38 sz3 rfl rfl rfl) rfl rfl (fun _ w h => h.pick 8 [0, 1, 2, 5, 6, 7] rfl) (fun _ => ?_)
            refine j_s4 ?_
            refine d_done (by kernel_rfl) ?_
            refine j_then ?_
            refine j_region ?_
            refine r_q (q_move rfl rfl) rfl rfl ?_
            refine r_q (q_move rfl rfl) rfl rfl ?_
            refine r_q (q_nilCheck rfl rfl) rfl rfl ?_
            refine r_q (q_fieldAddr fi29_0 sz27 rfl rfl rfl) rfl rfl ?_
            refine r_q (q_fieldAddr fi27_1 sz23 rfl rfl rfl) rfl rfl ?_
            refine r_q (q_loadb 1 rfl ag23 rfl rfl rfl) rfl rfl ?_
            refine r_q (q_move rfl rfl) rfl rfl ?_
            refine r_do (a_litX (vs := [(i6 (rd l6 p2))]) (ii ([(rd l6 p2)] : List Int)) un23 sz3 zr3 rfl rfl rfl rfl rfl rfl rfl rfl rfl) rfl rfl (fun x5 => ?_)
            obtain ⟨c40, h⟩ := of_guard h
            refine r_do (a_appI (xs := l7) (ys := ([(rd l6 p2)] : List Int)) 8 un23 un23 sz3 by3 zr3 rfl rfl rfl rfl rfl rfl rfl rfl rfl q7 rfl (Rd.row 0 rfl) c40) rfl rfl (fun x6 => ?_)
            refine j_s8 ?_
            refine r_q (q_nilCheck rfl rfl) rfl rfl ?_
            refine r_q (q_fieldAddr fi29_0 sz27 rfl rfl rfl) rfl rfl ?_
            refine r_q (q_fieldAddr fi27_1 sz23 rfl rfl rfl) rfl rfl ?_
            refine r_do (a_storeb 2 rfl sz23 rfl rfl rfl rfl (Nat.le_of_ble_eq_true rfl) rfl) rfl rfl (fun _ => ?_)
            refine j_b2 [(.slice a0_0_A a0_0_n a0_0_c), (.slice a0_1_A a0_1_n a0_1_c), (.slice a0_2_A a0_2_n a0_2_c), (.slice x6.1 (n4 + 1) x6.2), (.slice a0_4_A a0_4_n a0_4_c)] rfl ?_
            refine r_nil ?_
            refine j_in ?_
            refine j_then ?_
            refine j_region ?_
            refine r_q (q_move rfl rfl) rfl rfl ?_
            refine r_q (q_add rfl rfl rfl) rfl rfl ?_
            refine r_q (q_assign rfl rfl) rfl rfl ?_
            refine r_nil ?_
            refine j_then ?_
            exact j_again m (x4.1, (n3 + 2), x4.2, (l6 ++ ([(rd l8 (rd l6 p2)), (rd l9 (rd l6 p2))] : List Int)), (wrap64 (p2 + (1:Int))), x6.1, (n4 + 1), x6.2, (l7 ++ ([(rd l6 p2)] : List Int)), (l8.set (rd l6 p2).toNat (-1:Int)), (l9.set (rd l6 p2).toNat (-1:Int)), (l10.set (rd l6 p2).toNat (wrap64 ((rd l10 (rd l6 p2)) - (1:Int))))) (Nat.lt_succ_self m) ⟨h, (app_len q6 rfl), (app_len q7 rfl), (set_len q8 _ _), (set_len q9 _ _), (set_len q10 _ _)⟩ (fun a he => he.sub ⟨rfl, rfl, rfl, rfl, trivial⟩) (fun w h => (h.drop 2))
      · refine j_false rfl (decide_eq_false c31) ?_
        refine j_exit ?_
        refine j_then_exit ?_
        refine j_then_exit ?_
        refine j_in_exit ?_
        refine j_then ?_
        exact j_meet (A4, n4, d4, l7, l8, l9, l10) ⟨h, q7, q8, q9, q10⟩ (fun a he => he.sub trivial) (fun w h => h.pick 7 [0, 2, 3, 4, 6] rfl)
  · rintro ⟨A5, n5, d5, l11, l12, l13, l14⟩ ⟨h, q11, q12, q13, q14⟩
    subst hκ0
    show J _ _ [] _ (.box a0_g 29 [(.slice a0_0_A a0_0_n a0_0_c), (.slice a0_1_A a0_1_n a0_1_c), (.slice a0_2_A a0_2_n a0_2_c), (.slice A5 n5 d5), (.slice a0_4_A a0_4_n a0_4_c)] :: .row a0_0_A a0_0_c 3 1 (ii l12) :: .row a0_1_A a0_1_c 3 1 (ii l13) :: .row a0_4_A a0_4_c 3 1 (ii l14) :: .row A5 d5 3 1 (ii l11) :: F)
    cases h
    exact j_return_end rfl ResOf.nil rfl (fun w h => ⟨(⟨Eq.trans q12 a0_0_h.symm⟩, ⟨Eq.trans q13 a0_1_h.symm⟩, ⟨A5, n5, d5, q11⟩, ⟨Eq.trans q14 a0_4_h.symm⟩), rfl, h.pick 5 [0, 1, 2, 4, 3] rfl⟩)

end Go.Proofs.Ytgganabcfloioaa.F
