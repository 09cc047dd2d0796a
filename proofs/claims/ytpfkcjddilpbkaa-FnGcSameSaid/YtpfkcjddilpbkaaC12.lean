/- The program computes these pure functions, printed by the generator of wip/gen. -/
import Derived.Test.YtpfkcjddilpbkaaFa
import Derived.Test.YtpfkcjddilpbkaaFi
import Derived.Test.YtpfkcjddilpbkaaFj
import Derived.Test.YtpfkcjddilpbkaaFb
import Derived.Test.YtpfkcjddilpbkaaC0
import Derived.Test.YtpfkcjddilpbkaaC1
import Derived.Test.YtpfkcjddilpbkaaC3
import Derived.Test.YtpfkcjddilpbkaaC5
import Derived.Test.YtpfkcjddilpbkaaC9
namespace Go.Proofs.Ytpfkcjddilpbkaa.F
open Go Go.RowKit Go.Proofs.Ytpfkcjddilpbkaa.S
set_option linter.unusedVariables false
set_option maxRecDepth 100000
theorem spec_DrawGcSame.calls (K : Nat) (a0 : List Int) (a0_A : Option Addr) (a0_n a0_c : Nat) {w0 w : World} {F : List Res} {r1 : Int} {r2 : List Int} {r3 : Int} {r4 : Int} {r5 : List Int} {r6 : Int} (hm : Mem w0 (F) w) (a0_h : a0.length = a0_n) (a0_R : Rd w0 F a0_A (ints .u8 a0)) (a0_k : a0.length ≤ a0_c) (h : spec_DrawGcSame.f K a0 = some (r1, r2, r3, r4, r5, r6)) :
    Calls Try.prog 13 (List.toArray [.slice a0_A a0_n a0_c]) w fun e w' => ∃ x : (Sl r2.length) × (Sl r5.length), e = .returned (.tuple (List.toArray [.agg (List.toArray [i6 r1, .slice x.1.A x.1.n x.1.c, i6 r3]), .agg (List.toArray [i6 r4, .slice x.2.A x.2.n x.2.c, i6 r6])])) ∧ Mem w0 (.row x.1.A x.1.c 3 1 (ii r2) :: .row x.2.A x.2.c 3 1 (ii r5) :: F) w' := by
  unfold spec_DrawGcSame.f at h
  refine calls_of_J (n := 22) Try.func13 rfl rfl rfl hm ?_
  refine j_seq ?_
  refine j_region ?_
  refine r_do (a_alloc zr37 rfl) rfl rfl (fun x1 => ?_)
  refine r_do (a_alloc zr37 rfl) rfl rfl (fun x2 => ?_)
  refine r_nil ?_
  refine j_then ?_
  refine j_seq ?_
  refine j_region ?_
  refine r_q (q_move rfl rfl) rfl rfl ?_
  obtain ⟨_, hb1, h⟩ := of_b1 h
  refine r_do (a_call ok40 rfl rfl rfl rfl (fun w hm => spec_l13Open.calls K a0 a0_A a0_n a0_c hm a0_h (Rd.drop 2 a0_R) a0_k hb1)) rfl rfl (fun x3 => ?_)
  refine r_q (q_assign rfl rfl) rfl rfl ?_
  refine r_nil ?_
  refine j_then ?_
  refine j_seq ?_
  refine j_region ?_
  refine r_q (q_move rfl rfl) rfl rfl ?_
  obtain ⟨v1, v2, v3, v4, v5, v6, v7, v8, hb2, h⟩ := of_b8 h
  refine r_do (a_call ok41 rfl rfl rfl rfl (fun w hm => spec_l6Draw.calls K x3 (a0.take 2000) a0_A (a0.take 2000).length a0_c (0:Int) hm rfl (rd_hiI (Rd.drop 2 a0_R) 2000) hb2)) rfl rfl (fun x4 => ?_)
  refine r_q (q_move rfl rfl) rfl rfl ?_
  refine r_q (q_extract rfl rfl rfl) rfl rfl ?_
  refine r_q (q_extract rfl rfl rfl) rfl rfl ?_
  refine r_do (a_alloc zr36 rfl) rfl rfl (fun x5 => ?_)
  refine r_do (a_alloc zr37 rfl) rfl rfl (fun x6 => ?_)
  refine r_do (a_storeb 1 rfl sz36 rfl rfl rfl rfl (Nat.le_of_ble_eq_true rfl) rfl) rfl rfl (fun _ => ?_)
  refine j_b1 [(.slice x4.1.A x4.1.n x4.1.c), (.slice x4.2.1.A x4.2.1.n x4.2.1.c), (.slice x4.2.2.1.A x4.2.2.1.n x4.2.2.1.c), (.slice x4.2.2.2.1.A x4.2.2.2.1.n x4.2.2.2.1.c)] rfl ?_
  refine r_do (a_storeb 0 rfl sz37 rfl rfl rfl rfl (Nat.le_of_ble_eq_true rfl) rfl) rfl rfl (fun _ => ?_)
  refine j_b0 [(i6 v5), (.slice x4.2.2.2.2.A x4.2.2.2.2.n x4.2.2.2.2.c), (i6 v7)] rfl ?_
  refine r_nil ?_
  refine j_then ?_
  refine j_seq ?_
  obtain ⟨v9, v10, v11, v12, hb3, h⟩ := of_b4 h
  obtain ⟨v13, v14, v15, v16, hb4, h⟩ := of_b4 h
  obtain ⟨v17, v18, v19, v20, hb5, h⟩ := of_b4 h
  refine j_draw (.box x6 37 [(i6 v5), (.slice x4.2.2.2.2.A x4.2.2.2.2.n x4.2.2.2.2.c), (i6 v7)] :: .box x5 36 [(.slice x4.1.A x4.1.n x4.1.c), (.slice x4.2.1.A x4.2.1.n x4.2.1.c), (.slice x4.2.2.1.A x4.2.2.1.n x4.2.2.1.c), (.slice x4.2.2.2.1.A x4.2.2.2.1.n x4.2.2.2.1.c)] :: .row x4.1.A x4.1.c 3 1 (ii v1) :: .row x4.2.1.A x4.2.1.c 3 1 (ii v2) :: .row x4.2.2.1.A x4.2.2.1.c 3 1 (ii v3) :: .row x4.2.2.2.1.A x4.2.2.2.1.c 3 1 (ii v4) :: .row x4.2.2.2.2.A x4.2.2.2.2.c 3 1 (ii v6) :: F) 10 follows_any rfl ?_
  refine d_take 0 rfl (q_loadb_agg 0 rfl ag37 sz37 rfl rfl rfl rfl) rfl rfl (by kernel_rfl) (by kernel_rfl) (by kernel_rfl) (fun w h => h.pick 10 [0, 1, 2, 3, 4, 5, 6] rfl) ?_
  refine d_take 1 rfl (q_move rfl rfl) rfl rfl (by kernel_rfl) (by kernel_rfl) (by kernel_rfl) (fun w h => h.pick 10 [0, 1, 2, 3, 4, 5, 6] rfl) ?_
  refine d_take 2 rfl (q_move rfl rfl) rfl rfl (by kernel_rfl) (by kernel_rfl) (by kernel_rfl) (fun w h => h.pick 10 [0, 1, 2, 3, 4, 5, 6] rfl) ?_
  refine d_take 3 rfl (q_move rfl rfl) rfl rfl (by kernel_rfl) (by kernel_rfl) (by kernel_rfl) (fun w h => h.pick 10 [0, 1, 2, 3, 4, 5, 6] rfl) ?_
  refine d_take 4 rfl (q_loadb_agg 0 rfl ag37 sz37 rfl rfl rfl rfl) rfl rfl (by kernel_rfl) (by kernel_rfl) (by kernel_rfl) (fun w h => h.pick 10 [0, 1, 2, 3, 4, 5, 6] rfl) ?_
  refine d_one 5 (by kernel_rfl) ?_
  refine j_rs (.box x3 92 [(.slice a0_A (a0.take 2000).length a0_c), (i6 v8)] :: .box x6 37 [(i6 v5), (.slice x4.2.2.2.2.A x4.2.2.2.2.n x4.2.2.2.2.c), (i6 v7)] :: .box x5 36 [(.slice x4.1.A x4.1.n x4.1.c), (.slice x4.2.1.A x4.2.1.n x4.2.1.c), (.slice x4.2.2.1.A x4.2.2.1.n x4.2.2.1.c), (.slice x4.2.2.2.1.A x4.2.2.2.1.n x4.2.2.2.1.c)] :: .row x4.1.A x4.1.c 3 1 (ii v1) :: .row x4.2.1.A x4.2.1.c 3 1 (ii v2) :: .row x4.2.2.1.A x4.2.2.1.c 3 1 (ii v3) :: .row x4.2.2.2.1.A x4.2.2.2.1.c 3 1 (ii v4) :: .row x4.2.2.2.2.A x4.2.2.2.2.c 3 1 (ii v6) :: .box x2 37 [(i6 (0:Int)), (.slice none 0 0), (i6 (0:Int))] :: .box x1 37 [(i6 (0:Int)), (.slice none 0 0), (i6 (0:Int))] :: F) (fun _ h => h.pick 10 [7, 0, 1, 2, 3, 4, 5, 6, 8, 9] rfl) ?_
  refine o_do rfl (a_call ok42 rfl rfl rfl rfl (fun w hm => spec_l6Wrong.calls K x3 (a0.take 2000) a0_A (a0.take 2000).length a0_c v8 v5 v6 x4.2.2.2.2.A x4.2.2.2.2.n x4.2.2.2.2.c v7 hm rfl (rd_hiI (Rd.drop 9 a0_R) 2000) x4.2.2.2.2.h (Rd.row 6 rfl) hb3)) rfl rfl (fun x7 w h => h.pick 11 [2, 3, 4, 5, 6, 7, 8] rfl) (fun x7 => ?_)
  refine d_one 6 (by kernel_rfl) ?_
  refine j_rs (.box x3 92 [(.slice a0_A (a0.take 2000).length a0_c), (i6 v12)] :: .row x7.A x7.c 3 1 (ii v10) :: .box x6 37 [(i6 v5), (.slice x4.2.2.2.2.A x4.2.2.2.2.n x4.2.2.2.2.c), (i6 v7)] :: .box x5 36 [(.slice x4.1.A x4.1.n x4.1.c), (.slice x4.2.1.A x4.2.1.n x4.2.1.c), (.slice x4.2.2.1.A x4.2.2.1.n x4.2.2.1.c), (.slice x4.2.2.2.1.A x4.2.2.2.1.n x4.2.2.2.1.c)] :: .row x4.1.A x4.1.c 3 1 (ii v1) :: .row x4.2.1.A x4.2.1.c 3 1 (ii v2) :: .row x4.2.2.1.A x4.2.2.1.c 3 1 (ii v3) :: .row x4.2.2.2.1.A x4.2.2.2.1.c 3 1 (ii v4) :: .row x4.2.2.2.2.A x4.2.2.2.2.c 3 1 (ii v6) :: .box x2 37 [(i6 (0:Int)), (.slice none 0 0), (i6 (0:Int))] :: .box x1 37 [(i6 (0:Int)), (.slice none 0 0), (i6 (0:Int))] :: F) (fun _ h => h.pick 11 [1, 0, 2, 3, 4, 5, 6, 7, 8, 9, 10] rfl) ?_
  refine o_do rfl (a_call ok42 rfl rfl rfl rfl (fun w hm => spec_l6Wrong.calls K x3 (a0.take 2000) a0_A (a0.take 2000).length a0_c v12 v9 v10 x7.A x7.n x7.c v11 hm rfl (rd_hiI (Rd.drop 10 a0_R) 2000) x7.h (Rd.row 0 rfl) hb4)) rfl rfl (fun x8 w h => h.pick 12 [3, 4, 5, 6, 7, 8, 9] rfl) (fun x8 => ?_)
  refine d_one 7 (by kernel_rfl) ?_
  refine j_rs (.box x3 92 [(.slice a0_A (a0.take 2000).length a0_c), (i6 v16)] :: .row x8.A x8.c 3 1 (ii v14) :: .row x7.A x7.c 3 1 (ii v10) :: .box x6 37 [(i6 v5), (.slice x4.2.2.2.2.A x4.2.2.2.2.n x4.2.2.2.2.c), (i6 v7)] :: .box x5 36 [(.slice x4.1.A x4.1.n x4.1.c), (.slice x4.2.1.A x4.2.1.n x4.2.1.c), (.slice x4.2.2.1.A x4.2.2.1.n x4.2.2.1.c), (.slice x4.2.2.2.1.A x4.2.2.2.1.n x4.2.2.2.1.c)] :: .row x4.1.A x4.1.c 3 1 (ii v1) :: .row x4.2.1.A x4.2.1.c 3 1 (ii v2) :: .row x4.2.2.1.A x4.2.2.1.c 3 1 (ii v3) :: .row x4.2.2.2.1.A x4.2.2.2.1.c 3 1 (ii v4) :: .row x4.2.2.2.2.A x4.2.2.2.2.c 3 1 (ii v6) :: .box x2 37 [(i6 (0:Int)), (.slice none 0 0), (i6 (0:Int))] :: .box x1 37 [(i6 (0:Int)), (.slice none 0 0), (i6 (0:Int))] :: F) (fun _ h => h.pick 12 [1, 0, 2, 3, 4, 5, 6, 7, 8, 9, 10, 11] rfl) ?_
  refine o_do rfl (a_call ok42 rfl rfl rfl rfl (fun w hm => spec_l6Wrong.calls K x3 (a0.take 2000) a0_A (a0.take 2000).length a0_c v16 v13 v14 x8.A x8.n x8.c v15 hm rfl (rd_hiI (Rd.drop 11 a0_R) 2000) x8.h (Rd.row 0 rfl) hb5)) rfl rfl (fun x9 w h => h.pick 13 [4, 5, 6, 7, 8, 9, 10] rfl) (fun x9 => ?_)
  refine d_one 8 (by kernel_rfl) ?_
  refine o_do rfl (a_storeb 12 rfl sz37 rfl rfl rfl rfl (Nat.le_of_ble_eq_true rfl) rfl) rfl rfl (fun _ w h => h.pick 13 [4, 5, 6, 7, 8, 9, 10] rfl) (fun _ => ?_)
  refine j_b12 [(i6 v5), (.slice x4.2.2.2.2.A x4.2.2.2.2.n x4.2.2.2.2.c), (i6 v7)] rfl ?_
  refine d_one 9 (by kernel_rfl) ?_
  refine o_do rfl (a_storeb 11 rfl sz37 rfl rfl rfl rfl (Nat.le_of_ble_eq_true rfl) rfl) rfl rfl (fun _ w h => h.pick 13 [4, 5, 6, 7, 8, 9, 10] rfl) (fun _ => ?_)
  refine j_b11 [(i6 v17), (.slice x9.A x9.n x9.c), (i6 v19)] rfl ?_
  refine d_done (by kernel_rfl) ?_
  refine j_then ?_
  refine j_ret ?_
  cases h
  exact j_return rfl (ResOf.cell 12 rfl rfl ag37 sz37 (ResOf.cell 11 rfl rfl ag37 sz37 ResOf.nil)) rfl (fun w h => ⟨(⟨x4.2.2.2.2.A, x4.2.2.2.2.n, x4.2.2.2.2.c, x4.2.2.2.2.h⟩, ⟨x9.A, x9.n, x9.c, x9.h⟩), rfl, h.pick 13 [10, 0] rfl⟩)

theorem laws_FnGcSame.calls (K : Nat) (a0 : List Int) (a0_A : Option Addr) (a0_n a0_c : Nat) {w0 w : World} {F : List Res} {r1 : Bool} (hm : Mem w0 (F) w) (a0_h : a0.length = a0_n) (a0_R : Rd w0 F a0_A (ints .u8 a0)) (a0_k : a0.length ≤ a0_c) (h : laws_FnGcSame.f K a0 = some r1) :
    Calls Try.prog 4 (List.toArray [.slice a0_A a0_n a0_c]) w fun e w' => ∃ x : Unit, e = .returned (.bool r1) ∧ Mem w0 (F) w' := by
  unfold laws_FnGcSame.f at h
  refine calls_of_J (n := 45) Try.func4 rfl rfl rfl hm ?_
  refine j_seq ?_
  refine j_region ?_
  refine r_q (q_assign rfl rfl) rfl rfl ?_
  refine r_nil ?_
  refine j_then ?_
  refine j_seq ?_
  refine j_seq ?_
  refine j_region ?_
  refine r_q (q_move rfl rfl) rfl rfl ?_
  refine r_q (q_lenX a0 a0_h un43 rfl rfl rfl rfl rfl) rfl rfl ?_
  refine r_q (q_gtr rfl rfl rfl) rfl rfl ?_
  refine r_nil ?_
  refine j_then ?_
  rcases of_if h with ⟨c1, h⟩ | ⟨c1, h⟩
  · refine j_true rfl (decide_eq_true c1) ?_
    refine j_seq ?_
    refine j_region ?_
    refine r_q (q_assign rfl rfl) rfl rfl ?_
    refine r_nil ?_
    refine j_then ?_
    refine j_ret ?_
    refine j_then_ret ?_
    cases h
    exact j_return rfl (ResOf.tmp rfl ResOf.nil) rfl (fun w h => ⟨(), rfl, h⟩)
  · refine j_false rfl (decide_eq_false c1) ?_
    refine j_skip ?_
    refine j_then ?_
    refine j_seq ?_
    refine j_region ?_
    refine r_q (q_move rfl rfl) rfl rfl ?_
    obtain ⟨v1, v2, v3, v4, v5, v6, hb1, h⟩ := of_b6 h
    refine r_do (a_call ok13 rfl rfl rfl rfl (fun w hm => spec_DrawGcSame.calls K a0 a0_A a0_n a0_c hm a0_h a0_R a0_k hb1)) rfl rfl (fun x1 => ?_)
    refine r_q (q_move rfl rfl) rfl rfl ?_
    refine r_q (q_extract rfl rfl rfl) rfl rfl ?_
    refine r_q (q_extract rfl rfl rfl) rfl rfl ?_
    refine r_do (a_alloc zr37 rfl) rfl rfl (fun x2 => ?_)
    refine r_do (a_alloc zr37 rfl) rfl rfl (fun x3 => ?_)
    refine r_do (a_storeb 1 rfl sz37 rfl rfl rfl rfl (Nat.le_of_ble_eq_true rfl) rfl) rfl rfl (fun _ => ?_)
    refine j_b1 [(i6 v1), (.slice x1.1.A x1.1.n x1.1.c), (i6 v3)] rfl ?_
    refine r_do (a_storeb 0 rfl sz37 rfl rfl rfl rfl (Nat.le_of_ble_eq_true rfl) rfl) rfl rfl (fun _ => ?_)
    refine j_b0 [(i6 v4), (.slice x1.2.A x1.2.n x1.2.c), (i6 v6)] rfl ?_
    refine r_nil ?_
    refine j_then ?_
    refine j_seq ?_
    refine j_region ?_
    refine r_q (q_loadb_agg 1 rfl ag37 sz37 rfl rfl rfl rfl) rfl rfl ?_
    refine r_q (q_loadb_agg 0 rfl ag37 sz37 rfl rfl rfl rfl) rfl rfl ?_
    obtain ⟨v7, hb2, h⟩ := of_b1 h
    refine r_do (a_call ok14 rfl rfl rfl rfl (fun w hm => impl_GcSame.calls K v1 v2 x1.1.A x1.1.n x1.1.c v3 v4 v5 x1.2.A x1.2.n x1.2.c v6 hm x1.1.h (Rd.row 2 rfl) x1.2.h (Rd.row 3 rfl) hb2)) rfl rfl (fun x4 => ?_)
    refine r_q (q_assign rfl rfl) rfl rfl ?_
    refine r_nil ?_
    refine j_then ?_
    refine j_seq ?_
    refine j_region ?_
    refine r_q (q_move rfl rfl) rfl rfl ?_
    refine r_q (q_loadb_agg 1 rfl ag37 sz37 rfl rfl rfl rfl) rfl rfl ?_
    refine r_q (q_loadb_agg 0 rfl ag37 sz37 rfl rfl rfl rfl) rfl rfl ?_
    obtain ⟨v8, hb3, h⟩ := of_b1 h
    refine r_do (a_call ok15 rfl rfl rfl rfl (fun w hm => spec_GcSame.calls K v1 v2 x1.1.A x1.1.n x1.1.c v3 v4 v5 x1.2.A x1.2.n x1.2.c v6 hm x1.1.h (Rd.row 2 rfl) x1.2.h (Rd.row 3 rfl) hb3)) rfl rfl (fun x5 => ?_)
    refine r_q (q_beql un4 rfl rfl rfl) rfl rfl ?_
    refine r_q (q_move rfl rfl) rfl rfl ?_
    rcases of_if h with ⟨c2, h⟩ | ⟨c2, h⟩
    · refine r_qon (q_move rfl rfl) rfl rfl rfl rfl (beq_t c2) rfl ?_
      refine r_qon (q_loadb_agg 0 rfl ag37 sz37 rfl rfl rfl rfl) rfl rfl rfl rfl (beq_t c2) rfl ?_
      refine r_qon (q_loadb_agg 1 rfl ag37 sz37 rfl rfl rfl rfl) rfl rfl rfl rfl (beq_t c2) rfl ?_
      obtain ⟨v9, hb4, h⟩ := of_b1 h
      refine r_on (a_call ok14 rfl rfl rfl rfl (fun w hm => impl_GcSame.calls K v4 v5 x1.2.A x1.2.n x1.2.c v6 v1 v2 x1.1.A x1.1.n x1.1.c v3 hm x1.2.h (Rd.row 3 rfl) x1.1.h (Rd.row 2 rfl) hb4)) rfl rfl rfl rfl (beq_t c2) rfl (fun x6 => ?_)
      refine r_qon (q_beql un4 rfl rfl rfl) rfl rfl rfl rfl (beq_t c2) rfl ?_
      refine r_q (q_pick_t rfl rfl (beq_t c2) rfl) rfl rfl ?_
      refine r_q (q_move rfl rfl) rfl rfl ?_
      rcases of_if h with ⟨c3, h⟩ | ⟨c3, h⟩
      · refine r_qon (q_loadb_agg 1 rfl ag37 sz37 rfl rfl rfl rfl) rfl rfl rfl rfl (beq_t c3) rfl ?_
        refine r_qon (q_loadb_agg 1 rfl ag37 sz37 rfl rfl rfl rfl) rfl rfl rfl rfl (beq_t c3) rfl ?_
        obtain ⟨v10, hb5, h⟩ := of_b1 h
        refine r_on (a_call ok14 rfl rfl rfl rfl (fun w hm => impl_GcSame.calls K v1 v2 x1.1.A x1.1.n x1.1.c v3 v1 v2 x1.1.A x1.1.n x1.1.c v3 hm x1.1.h (Rd.row 2 rfl) x1.1.h (Rd.row 2 rfl) hb5)) rfl rfl rfl rfl (beq_t c3) rfl (fun x7 => ?_)
        refine r_q (q_pick_t rfl rfl (beq_t c3) rfl) rfl rfl ?_
        refine r_q (q_move rfl rfl) rfl rfl ?_
        rcases of_if h with ⟨c4, h⟩ | ⟨c4, h⟩
        · refine r_qon (q_move rfl rfl) rfl rfl rfl rfl c4 rfl ?_
          refine r_qon (q_not rfl rfl) rfl rfl rfl rfl c4 rfl ?_
          refine r_qon (q_move rfl rfl) rfl rfl rfl rfl c4 rfl ?_
          rcases of_if h with ⟨c5, h⟩ | ⟨c5, h⟩
          · refine r_qon (q_fieldAddr fi37_0 sz3 rfl rfl rfl) rfl rfl rfl rfl (not_f c5) rfl ?_
            refine r_qon (q_loadb 1 rfl ag3 rfl rfl rfl) rfl rfl rfl rfl (not_f c5) rfl ?_
            refine r_qon (q_fieldAddr fi37_0 sz3 rfl rfl rfl) rfl rfl rfl rfl (not_f c5) rfl ?_
            refine r_qon (q_loadb 0 rfl ag3 rfl rfl rfl) rfl rfl rfl rfl (not_f c5) rfl ?_
            refine r_qon (q_eql rfl rfl rfl) rfl rfl rfl rfl (not_f c5) rfl ?_
            refine r_qon (q_pick_f rfl rfl (not_f c5) rfl) rfl rfl rfl rfl c4 rfl ?_
            refine r_q (q_pick_t rfl rfl c4 rfl) rfl rfl ?_
            refine r_q (q_assign rfl rfl) rfl rfl ?_
            refine r_nil ?_
            refine j_then ?_
            refine j_ret ?_
            cases h
            exact j_return rfl (ResOf.tmp rfl ResOf.nil) rfl (fun w h => ⟨(), rfl, (h.drop 4)⟩)
          · refine r_off rfl rfl rfl rfl (not_t (var_f c5)) rfl ?_
            refine r_off rfl rfl rfl rfl (not_t (var_f c5)) rfl ?_
            refine r_off rfl rfl rfl rfl (not_t (var_f c5)) rfl ?_
            refine r_off rfl rfl rfl rfl (not_t (var_f c5)) rfl ?_
            refine r_off rfl rfl rfl rfl (not_t (var_f c5)) rfl ?_
            refine r_qon (q_pick_t rfl rfl (not_t (var_f c5)) rfl) rfl rfl rfl rfl c4 rfl ?_
            refine r_q (q_pick_t rfl rfl c4 rfl) rfl rfl ?_
            refine r_q (q_assign rfl rfl) rfl rfl ?_
            refine r_nil ?_
            refine j_then ?_
            refine j_ret ?_
            cases h
            exact j_return rfl (ResOf.tmp rfl ResOf.nil) rfl (fun w h => ⟨(), rfl, (h.drop 4)⟩)
        · refine r_off rfl rfl rfl rfl (var_f c4) rfl ?_
          refine r_off rfl rfl rfl rfl (var_f c4) rfl ?_
          refine r_off rfl rfl rfl rfl (var_f c4) rfl ?_
          refine r_offu rfl rfl rfl rfl rfl ?_
          refine r_offu rfl rfl rfl rfl rfl ?_
          refine r_offu rfl rfl rfl rfl rfl ?_
          refine r_offu rfl rfl rfl rfl rfl ?_
          refine r_offu rfl rfl rfl rfl rfl ?_
          refine r_off rfl rfl rfl rfl (var_f c4) rfl ?_
          refine r_q (q_pick_f rfl rfl (var_f c4) rfl) rfl rfl ?_
          refine r_q (q_assign rfl rfl) rfl rfl ?_
          refine r_nil ?_
          refine j_then ?_
          refine j_ret ?_
          cases h
          exact j_return rfl (ResOf.tmp rfl ResOf.nil) rfl (fun w h => ⟨(), rfl, (h.drop 4)⟩)
      · refine r_off rfl rfl rfl rfl (beq_f c3) rfl ?_
        refine r_off rfl rfl rfl rfl (beq_f c3) rfl ?_
        refine r_off rfl rfl rfl rfl (beq_f c3) rfl ?_
        refine r_q (q_pick_f rfl rfl (beq_f c3) rfl) rfl rfl ?_
        refine r_q (q_move rfl rfl) rfl rfl ?_
        refine r_off rfl rfl rfl rfl rfl rfl ?_
        refine r_off rfl rfl rfl rfl rfl rfl ?_
        refine r_off rfl rfl rfl rfl rfl rfl ?_
        refine r_offu rfl rfl rfl rfl rfl ?_
        refine r_offu rfl rfl rfl rfl rfl ?_
        refine r_offu rfl rfl rfl rfl rfl ?_
        refine r_offu rfl rfl rfl rfl rfl ?_
        refine r_offu rfl rfl rfl rfl rfl ?_
        refine r_off rfl rfl rfl rfl rfl rfl ?_
        refine r_q (q_pick_f rfl rfl rfl rfl) rfl rfl ?_
        refine r_q (q_assign rfl rfl) rfl rfl ?_
        refine r_nil ?_
        refine j_then ?_
        refine j_ret ?_
        cases h
        exact j_return rfl (ResOf.tmp rfl ResOf.nil) rfl (fun w h => ⟨(), rfl, (h.drop 4)⟩)
    · refine r_off rfl rfl rfl rfl (beq_f c2) rfl ?_
      refine r_off rfl rfl rfl rfl (beq_f c2) rfl ?_
      refine r_off rfl rfl rfl rfl (beq_f c2) rfl ?_
      refine r_off rfl rfl rfl rfl (beq_f c2) rfl ?_
      refine r_off rfl rfl rfl rfl (beq_f c2) rfl ?_
      refine r_q (q_pick_f rfl rfl (beq_f c2) rfl) rfl rfl ?_
      refine r_q (q_move rfl rfl) rfl rfl ?_
      refine r_off rfl rfl rfl rfl rfl rfl ?_
      refine r_off rfl rfl rfl rfl rfl rfl ?_
      refine r_off rfl rfl rfl rfl rfl rfl ?_
      refine r_q (q_pick_f rfl rfl rfl rfl) rfl rfl ?_
      refine r_q (q_move rfl rfl) rfl rfl ?_
      refine r_off rfl rfl rfl rfl rfl rfl ?_
      refine r_off rfl rfl rfl rfl rfl rfl ?_
      refine r_off rfl rfl rfl rfl rfl rfl ?_
      refine r_offu rfl rfl rfl rfl rfl ?_
      refine r_offu rfl rfl rfl rfl rfl ?_
      refine r_offu rfl rfl rfl rfl rfl ?_
      refine r_offu rfl rfl rfl rfl rfl ?_
      refine r_offu rfl rfl rfl rfl rfl ?_
      refine r_off rfl rfl rfl rfl rfl rfl ?_
      refine r_q (q_pick_f rfl rfl rfl rfl) rfl rfl ?_
      refine r_q (q_assign rfl rfl) rfl rfl ?_
      refine r_nil ?_
      refine j_then ?_
      refine j_ret ?_
      cases h
      exact j_return rfl (ResOf.tmp rfl ResOf.nil) rfl (fun w h => ⟨(), rfl, (h.drop 4)⟩)

end Go.Proofs.Ytpfkcjddilpbkaa.F
