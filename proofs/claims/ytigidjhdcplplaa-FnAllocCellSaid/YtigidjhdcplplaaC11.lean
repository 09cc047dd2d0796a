/- The program computes these pure functions, printed by the generator of wip/gen. -/
import Derived.Test.YtigidjhdcplplaaFa
import Derived.Test.YtigidjhdcplplaaFb
import Derived.Test.YtigidjhdcplplaaC1
import Derived.Test.YtigidjhdcplplaaC2
import Derived.Test.YtigidjhdcplplaaC3
import Derived.Test.YtigidjhdcplplaaC4
import Derived.Test.YtigidjhdcplplaaC6
import Derived.Test.YtigidjhdcplplaaC10
namespace Go.Proofs.Ytigidjhdcplplaa.F
open Go Go.RowKit Go.Proofs.Ytigidjhdcplplaa.S
set_option linter.unusedVariables false
set_option maxRecDepth 100000
theorem spec_l4Case.calls (K : Nat) (a0 : List Int) (a0_A : Option Addr) (a0_n a0_c : Nat) {w0 w : World} {F : List Res} {r1 : List Int} {r2 : List Int} {r3 : List Int} {r4 : List Int} {r5 : Int} (hm : Mem w0 (F) w) (a0_h : a0.length = a0_n) (a0_R : Rd w0 F a0_A (ints .u8 a0)) (a0_k : a0.length ≤ a0_c) (h : spec_l4Case.f K a0 = some (r1, r2, r3, r4, r5)) :
    Calls Try.prog 75 (List.toArray [.slice a0_A a0_n a0_c]) w fun e w' => ∃ x : (Sl r1.length) × (Sl r2.length) × (Sl r3.length) × (Sl r4.length), e = .returned (.tuple (List.toArray [.agg (List.toArray [.slice x.1.A x.1.n x.1.c, .slice x.2.1.A x.2.1.n x.2.1.c, .slice x.2.2.1.A x.2.2.1.n x.2.2.1.c, .slice x.2.2.2.A x.2.2.2.n x.2.2.2.c]), i6 r5])) ∧ Mem w0 (.row x.1.A x.1.c 3 1 (ii r1) :: .row x.2.1.A x.2.1.c 3 1 (ii r2) :: .row x.2.2.1.A x.2.2.1.c 3 1 (ii r3) :: .row x.2.2.2.A x.2.2.2.c 3 1 (ii r4) :: F) w' := by
  unfold spec_l4Case.f at h
  refine calls_of_J (n := 36) Try.func75 rfl rfl rfl hm ?_
  refine j_seq ?_
  refine j_region ?_
  refine r_do (a_alloc zr29 rfl) rfl rfl (fun x1 => ?_)
  refine r_q (q_assign rfl rfl) rfl rfl ?_
  refine r_nil ?_
  refine j_then ?_
  refine j_seq ?_
  refine j_region ?_
  refine r_q (q_move rfl rfl) rfl rfl ?_
  obtain ⟨_, hb1, h⟩ := of_b1 h
  refine r_do (a_call ok58 rfl rfl rfl rfl (fun w hm => spec_l13Open.calls K a0 a0_A a0_n a0_c hm a0_h (Rd.drop 1 a0_R) a0_k hb1)) rfl rfl (fun x2 => ?_)
  refine r_q (q_assign rfl rfl) rfl rfl ?_
  refine r_nil ?_
  refine j_then ?_
  refine j_seq ?_
  refine j_region ?_
  refine r_q (q_move rfl rfl) rfl rfl ?_
  refine r_q (q_move rfl rfl) rfl rfl ?_
  obtain ⟨v1, v2, v3, v4, v5, hb2, h⟩ := of_b5 h
  refine r_do (a_call ok60 rfl rfl rfl rfl (fun w hm => spec_l4Draw.calls K x2 (a0.take 2000) a0_A (a0.take 2000).length a0_c (0:Int) hm rfl (rd_hiI (Rd.drop 1 a0_R) 2000) hb2)) rfl rfl (fun x3 => ?_)
  obtain ⟨v6, v7, v8, v9, v10, hb3, h⟩ := of_b5 h
  refine j_rs (.box x2 89 [(.slice a0_A (a0.take 2000).length a0_c), (i6 v5)] :: .row x3.1.A x3.1.c 3 1 (ii v1) :: .row x3.2.1.A x3.2.1.c 3 1 (ii v2) :: .row x3.2.2.1.A x3.2.2.1.c 3 1 (ii v3) :: .row x3.2.2.2.A x3.2.2.2.c 3 1 (ii v4) :: .box x1 29 [(.slice none 0 0), (.slice none 0 0), (.slice none 0 0), (.slice none 0 0)] :: F) (fun _ h => h.pick 6 [4, 0, 1, 2, 3, 5] rfl) ?_
  refine r_do (a_call ok59 rfl rfl rfl rfl (fun w hm => spec_l4Wrong.calls K x2 (a0.take 2000) a0_A (a0.take 2000).length a0_c v5 v1 x3.1.A x3.1.n x3.1.c v2 x3.2.1.A x3.2.1.n x3.2.1.c v3 x3.2.2.1.A x3.2.2.1.n x3.2.2.1.c v4 x3.2.2.2.A x3.2.2.2.n x3.2.2.2.c hm rfl (rd_hiI (Rd.drop 5 a0_R) 2000) x3.1.h (Rd.row 0 rfl) x3.2.1.h (Rd.row 1 rfl) x3.2.2.1.h (Rd.row 2 rfl) x3.2.2.2.h (Rd.row 3 rfl) hb3)) rfl rfl (fun x4 => ?_)
  refine r_do (a_alloc zr29 rfl) rfl rfl (fun x5 => ?_)
  refine r_do (a_storeb 0 rfl sz29 rfl rfl rfl rfl (Nat.le_of_ble_eq_true rfl) rfl) rfl rfl (fun _ => ?_)
  refine j_b0 [(.slice x4.1.A x4.1.n x4.1.c), (.slice x4.2.1.A x4.2.1.n x4.2.1.c), (.slice x4.2.2.1.A x4.2.2.1.n x4.2.2.1.c), (.slice x4.2.2.2.A x4.2.2.2.n x4.2.2.2.c)] rfl ?_
  refine r_nil ?_
  refine j_then ?_
  refine j_seq ?_
  refine j_region ?_
  refine r_q (q_move rfl rfl) rfl rfl ?_
  refine r_do (a_litX (vs := [(i6 (0:Int)), (i6 (1:Int)), (i6 (2:Int)), (i6 (3:Int)), (i6 (8:Int)), (i6 (-1:Int))]) (ii ([(0:Int), (1:Int), (2:Int), (3:Int), (8:Int), (-1:Int)] : List Int)) un25 sz3 zr3 rfl rfl rfl rfl rfl rfl rfl rfl rfl) rfl rfl (fun x6 => ?_)
  obtain ⟨v11, v12, hb4, h⟩ := of_b2 h
  refine j_rs (.box x2 89 [(.slice a0_A (a0.take 2000).length a0_c), (i6 v10)] :: .row x6 6 3 1 (ii ([(0:Int), (1:Int), (2:Int), (3:Int), (8:Int), (-1:Int)] : List Int)) :: .box x5 29 [(.slice x4.1.A x4.1.n x4.1.c), (.slice x4.2.1.A x4.2.1.n x4.2.1.c), (.slice x4.2.2.1.A x4.2.2.1.n x4.2.2.1.c), (.slice x4.2.2.2.A x4.2.2.2.n x4.2.2.2.c)] :: .row x4.1.A x4.1.c 3 1 (ii v6) :: .row x4.2.1.A x4.2.1.c 3 1 (ii v7) :: .row x4.2.2.1.A x4.2.2.1.c 3 1 (ii v8) :: .row x4.2.2.2.A x4.2.2.2.c 3 1 (ii v9) :: .row x3.1.A x3.1.c 3 1 (ii v1) :: .row x3.2.1.A x3.2.1.c 3 1 (ii v2) :: .row x3.2.2.1.A x3.2.2.1.c 3 1 (ii v3) :: .row x3.2.2.2.A x3.2.2.2.c 3 1 (ii v4) :: .box x1 29 [(.slice none 0 0), (.slice none 0 0), (.slice none 0 0), (.slice none 0 0)] :: F) (fun _ h => h.pick 12 [6, 0, 1, 2, 3, 4, 5, 7, 8, 9, 10, 11] rfl) ?_
  refine r_do (a_call ok78 rfl rfl rfl rfl (fun w hm => spec_l13Rd_num.calls K x2 (a0.take 2000) a0_A (a0.take 2000).length a0_c v10 ([(0:Int), (1:Int), (2:Int), (3:Int), (8:Int), (-1:Int)] : List Int) x6 6 6 hm rfl (rd_hiI (Rd.drop 11 a0_R) 2000) rfl (Rd.row 0 rfl) hb4)) rfl rfl (fun x7 => ?_)
  refine r_q (q_assign rfl rfl) rfl rfl ?_
  refine r_nil ?_
  refine j_then ?_
  refine j_seq ?_
  refine j_region ?_
  refine r_q (q_loadb_agg 2 rfl ag29 sz29 rfl rfl rfl rfl) rfl rfl ?_
  obtain ⟨v13, hb5, h⟩ := of_b1 h
  refine r_do (a_call ok30 rfl rfl rfl rfl (fun w hm => spec_LeakedOf.calls K v6 x4.1.A x4.1.n x4.1.c v7 x4.2.1.A x4.2.1.n x4.2.1.c v8 x4.2.2.1.A x4.2.2.1.n x4.2.2.1.c v9 x4.2.2.2.A x4.2.2.2.n x4.2.2.2.c hm x4.1.h (Rd.row 3 rfl) x4.2.1.h (Rd.row 4 rfl) x4.2.2.1.h (Rd.row 5 rfl) x4.2.2.2.h (Rd.row 6 rfl) (hm.roomI 6 rfl) hb5)) rfl rfl (fun x8 => ?_)
  refine r_q (q_assign rfl rfl) rfl rfl ?_
  refine r_nil ?_
  refine j_then ?_
  refine j_seq ?_
  refine j_seq ?_
  refine j_region ?_
  refine r_q (q_move rfl rfl) rfl rfl ?_
  refine r_q (q_lenX v13 x8.h un25 rfl rfl rfl rfl rfl) rfl rfl ?_
  refine r_q (q_gtr rfl rfl rfl) rfl rfl ?_
  refine r_q (q_move rfl rfl) rfl rfl ?_
  rcases of_if h with ⟨c1, h⟩ | ⟨c1, h⟩
  · refine r_qon (q_move rfl rfl) rfl rfl rfl rfl (decide_eq_true c1) rfl ?_
    obtain ⟨v14, v15, hb6, h⟩ := of_b2 h
    refine j_rs (.box x2 89 [(.slice a0_A (a0.take 2000).length a0_c), (i6 v12)] :: .row x8.A x8.c 3 1 (ii v13) :: .row x6 6 3 1 (ii ([(0:Int), (1:Int), (2:Int), (3:Int), (8:Int), (-1:Int)] : List Int)) :: .box x5 29 [(.slice x4.1.A x4.1.n x4.1.c), (.slice x4.2.1.A x4.2.1.n x4.2.1.c), (.slice x4.2.2.1.A x4.2.2.1.n x4.2.2.1.c), (.slice x4.2.2.2.A x4.2.2.2.n x4.2.2.2.c)] :: .row x4.1.A x4.1.c 3 1 (ii v6) :: .row x4.2.1.A x4.2.1.c 3 1 (ii v7) :: .row x4.2.2.1.A x4.2.2.1.c 3 1 (ii v8) :: .row x4.2.2.2.A x4.2.2.2.c 3 1 (ii v9) :: .row x3.1.A x3.1.c 3 1 (ii v1) :: .row x3.2.1.A x3.2.1.c 3 1 (ii v2) :: .row x3.2.2.1.A x3.2.2.1.c 3 1 (ii v3) :: .row x3.2.2.2.A x3.2.2.2.c 3 1 (ii v4) :: .box x1 29 [(.slice none 0 0), (.slice none 0 0), (.slice none 0 0), (.slice none 0 0)] :: F) (fun _ h => h.pick 13 [1, 0, 2, 3, 4, 5, 6, 7, 8, 9, 10, 11, 12] rfl) ?_
    refine r_on (a_call ok88 rfl rfl rfl rfl (fun w hm => spec_l13Rd_pick.calls K x2 (a0.take 2000) a0_A (a0.take 2000).length a0_c v12 (2:Int) hm rfl (rd_hiI (Rd.drop 12 a0_R) 2000) hb6)) rfl rfl rfl rfl (decide_eq_true c1) rfl (fun x9 => ?_)
    refine r_qon (q_eql rfl rfl rfl) rfl rfl rfl rfl (decide_eq_true c1) rfl ?_
    refine r_q (q_pick_t rfl rfl (decide_eq_true c1) rfl) rfl rfl ?_
    refine r_nil ?_
    refine j_then ?_
    rcases of_if h with ⟨c2, h⟩ | ⟨c2, h⟩
    · refine j_true rfl (beq_t c2) ?_
      refine j_region ?_
      refine r_q (q_move rfl rfl) rfl rfl ?_
      refine r_q (q_move rfl rfl) rfl rfl ?_
      refine r_q (q_move rfl rfl) rfl rfl ?_
      refine r_q (q_lenX v13 x8.h un25 rfl rfl rfl rfl rfl) rfl rfl ?_
      obtain ⟨v16, v17, hb7, h⟩ := of_b2 h
      refine r_do (a_call ok88 rfl rfl rfl rfl (fun w hm => spec_l13Rd_pick.calls K x2 (a0.take 2000) a0_A (a0.take 2000).length a0_c v15 (v13.length : Int) hm rfl (rd_hiI (Rd.drop 12 a0_R) 2000) hb7)) rfl rfl (fun x10 => ?_)
      obtain ⟨c3, h⟩ := of_guard h
      refine r_q (q_ix (Rd.row 1 rfl) (ints_len1 _ v13) (by decide) x8.h c3 un25 sz3 rfl rfl rfl) rfl rfl ?_
      refine r_q (q_ldI (Rd.row 1 rfl) c3 ag3 rfl rfl) rfl rfl ?_
      refine r_q (q_assign rfl rfl) rfl rfl ?_
      refine r_nil ?_
      refine j_then ?_
      refine j_seq ?_
      refine j_region ?_
      refine r_q (q_loadb_agg 3 rfl ag29 sz29 rfl rfl rfl rfl) rfl rfl ?_
      refine r_q (q_move rfl rfl) rfl rfl ?_
      refine r_do (a_storeb 12 rfl sz29 rfl rfl rfl rfl (Nat.le_of_ble_eq_true rfl) rfl) rfl rfl (fun _ => ?_)
      refine j_b12 [(.slice x4.1.A x4.1.n x4.1.c), (.slice x4.2.1.A x4.2.1.n x4.2.1.c), (.slice x4.2.2.1.A x4.2.2.1.n x4.2.2.1.c), (.slice x4.2.2.2.A x4.2.2.2.n x4.2.2.2.c)] rfl ?_
      refine r_q (q_assign rfl rfl) rfl rfl ?_
      refine r_nil ?_
      refine j_then ?_
      refine j_ret ?_
      cases h
      exact j_return rfl (ResOf.cell 12 rfl rfl ag29 sz29 (ResOf.tmp rfl ResOf.nil)) rfl (fun w h => ⟨(⟨x4.1.A, x4.1.n, x4.1.c, x4.1.h⟩, ⟨x4.2.1.A, x4.2.1.n, x4.2.1.c, x4.2.1.h⟩, ⟨x4.2.2.1.A, x4.2.2.1.n, x4.2.2.1.c, x4.2.2.1.h⟩, ⟨x4.2.2.2.A, x4.2.2.2.n, x4.2.2.2.c, x4.2.2.2.h⟩), rfl, h.pick 13 [4, 5, 6, 7] rfl⟩)
    · refine j_false rfl (beq_f c2) ?_
      refine j_skip ?_
      refine j_then ?_
      refine j_seq ?_
      refine j_region ?_
      refine r_q (q_loadb_agg 3 rfl ag29 sz29 rfl rfl rfl rfl) rfl rfl ?_
      refine r_q (q_move rfl rfl) rfl rfl ?_
      refine r_do (a_storeb 12 rfl sz29 rfl rfl rfl rfl (Nat.le_of_ble_eq_true rfl) rfl) rfl rfl (fun _ => ?_)
      refine j_b12 [(.slice x4.1.A x4.1.n x4.1.c), (.slice x4.2.1.A x4.2.1.n x4.2.1.c), (.slice x4.2.2.1.A x4.2.2.1.n x4.2.2.1.c), (.slice x4.2.2.2.A x4.2.2.2.n x4.2.2.2.c)] rfl ?_
      refine r_q (q_assign rfl rfl) rfl rfl ?_
      refine r_nil ?_
      refine j_then ?_
      refine j_ret ?_
      cases h
      exact j_return rfl (ResOf.cell 12 rfl rfl ag29 sz29 (ResOf.tmp rfl ResOf.nil)) rfl (fun w h => ⟨(⟨x4.1.A, x4.1.n, x4.1.c, x4.1.h⟩, ⟨x4.2.1.A, x4.2.1.n, x4.2.1.c, x4.2.1.h⟩, ⟨x4.2.2.1.A, x4.2.2.1.n, x4.2.2.1.c, x4.2.2.1.h⟩, ⟨x4.2.2.2.A, x4.2.2.2.n, x4.2.2.2.c, x4.2.2.2.h⟩), rfl, h.pick 13 [4, 5, 6, 7] rfl⟩)
  · refine r_off rfl rfl rfl rfl (decide_eq_false c1) rfl ?_
    refine r_off rfl rfl rfl rfl (decide_eq_false c1) rfl ?_
    refine r_off rfl rfl rfl rfl (decide_eq_false c1) rfl ?_
    refine r_q (q_pick_f rfl rfl (decide_eq_false c1) rfl) rfl rfl ?_
    refine r_nil ?_
    refine j_then ?_
    refine j_false rfl rfl ?_
    refine j_skip ?_
    refine j_then ?_
    refine j_seq ?_
    refine j_region ?_
    refine r_q (q_loadb_agg 3 rfl ag29 sz29 rfl rfl rfl rfl) rfl rfl ?_
    refine r_q (q_move rfl rfl) rfl rfl ?_
    refine r_do (a_storeb 12 rfl sz29 rfl rfl rfl rfl (Nat.le_of_ble_eq_true rfl) rfl) rfl rfl (fun _ => ?_)
    refine j_b12 [(.slice x4.1.A x4.1.n x4.1.c), (.slice x4.2.1.A x4.2.1.n x4.2.1.c), (.slice x4.2.2.1.A x4.2.2.1.n x4.2.2.1.c), (.slice x4.2.2.2.A x4.2.2.2.n x4.2.2.2.c)] rfl ?_
    refine r_q (q_assign rfl rfl) rfl rfl ?_
    refine r_nil ?_
    refine j_then ?_
    refine j_ret ?_
    cases h
    exact j_return rfl (ResOf.cell 12 rfl rfl ag29 sz29 (ResOf.tmp rfl ResOf.nil)) rfl (fun w h => ⟨(⟨x4.1.A, x4.1.n, x4.1.c, x4.1.h⟩, ⟨x4.2.1.A, x4.2.1.n, x4.2.1.c, x4.2.1.h⟩, ⟨x4.2.2.1.A, x4.2.2.1.n, x4.2.2.1.c, x4.2.2.1.h⟩, ⟨x4.2.2.2.A, x4.2.2.2.n, x4.2.2.2.c, x4.2.2.2.h⟩), rfl, h.pick 13 [4, 5, 6, 7] rfl⟩)

end Go.Proofs.Ytigidjhdcplplaa.F
