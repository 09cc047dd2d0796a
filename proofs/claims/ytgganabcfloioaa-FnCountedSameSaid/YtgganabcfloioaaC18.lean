/- The program computes these pure functions, printed by the generator of wip/gen. -/
import Derived.Test.YtgganabcfloioaaFa
import Derived.Test.YtgganabcfloioaaFh
import Derived.Test.YtgganabcfloioaaFb
import Derived.Test.YtgganabcfloioaaC0
import Derived.Test.YtgganabcfloioaaC1
import Derived.Test.YtgganabcfloioaaC2
import Derived.Test.YtgganabcfloioaaC3
import Derived.Test.YtgganabcfloioaaC4
import Derived.Test.YtgganabcfloioaaC5
import Derived.Test.YtgganabcfloioaaC6
namespace Go.Proofs.Ytgganabcfloioaa.F
open Go Go.RowKit Go.Proofs.Ytgganabcfloioaa.S
set_option linter.unusedVariables false
set_option maxRecDepth 100000
theorem spec_DrawCountedSame.calls (K : Nat) (a0 : List Int) (a0_A : Option Addr) (a0_n a0_c : Nat) {w0 w : World} {F : List Res} {r1 : List Int} {r2 : List Int} {r3 : List Int} {r4 : List Int} {r5 : List Int} {r6 : List Int} {r7 : List Int} {r8 : List Int} {r9 : List Int} {r10 : List Int} (hm : Mem w0 (F) w) (a0_h : a0.length = a0_n) (a0_R : Rd w0 F a0_A (ints .u8 a0)) (a0_k : a0.length ≤ a0_c) (h : spec_DrawCountedSame.f K a0 = some (r1, r2, r3, r4, r5, r6, r7, r8, r9, r10)) :
    Calls Try.prog 31 (List.toArray [.slice a0_A a0_n a0_c]) w fun e w' => ∃ x : (Sl r1.length) × (Sl r2.length) × (Sl r3.length) × (Sl r4.length) × (Sl r5.length) × (Sl r6.length) × (Sl r7.length) × (Sl r8.length) × (Sl r9.length) × (Sl r10.length), e = .returned (.tuple (List.toArray [.agg (List.toArray [.slice x.1.A x.1.n x.1.c, .slice x.2.1.A x.2.1.n x.2.1.c, .slice x.2.2.1.A x.2.2.1.n x.2.2.1.c, .slice x.2.2.2.1.A x.2.2.2.1.n x.2.2.2.1.c, .slice x.2.2.2.2.1.A x.2.2.2.2.1.n x.2.2.2.2.1.c]), .agg (List.toArray [.slice x.2.2.2.2.2.1.A x.2.2.2.2.2.1.n x.2.2.2.2.2.1.c, .slice x.2.2.2.2.2.2.1.A x.2.2.2.2.2.2.1.n x.2.2.2.2.2.2.1.c, .slice x.2.2.2.2.2.2.2.1.A x.2.2.2.2.2.2.2.1.n x.2.2.2.2.2.2.2.1.c, .slice x.2.2.2.2.2.2.2.2.1.A x.2.2.2.2.2.2.2.2.1.n x.2.2.2.2.2.2.2.2.1.c, .slice x.2.2.2.2.2.2.2.2.2.A x.2.2.2.2.2.2.2.2.2.n x.2.2.2.2.2.2.2.2.2.c])])) ∧ Mem w0 (.row x.1.A x.1.c 3 1 (ii r1) :: .row x.2.1.A x.2.1.c 3 1 (ii r2) :: .row x.2.2.1.A x.2.2.1.c 3 1 (ii r3) :: .row x.2.2.2.1.A x.2.2.2.1.c 3 1 (ii r4) :: .row x.2.2.2.2.1.A x.2.2.2.2.1.c 3 1 (ii r5) :: .row x.2.2.2.2.2.1.A x.2.2.2.2.2.1.c 3 1 (ii r6) :: .row x.2.2.2.2.2.2.1.A x.2.2.2.2.2.2.1.c 3 1 (ii r7) :: .row x.2.2.2.2.2.2.2.1.A x.2.2.2.2.2.2.2.1.c 3 1 (ii r8) :: .row x.2.2.2.2.2.2.2.2.1.A x.2.2.2.2.2.2.2.2.1.c 3 1 (ii r9) :: .row x.2.2.2.2.2.2.2.2.2.A x.2.2.2.2.2.2.2.2.2.c 3 1 (ii r10) :: F) w' := by
  unfold spec_DrawCountedSame.f at h
  refine calls_of_J (n := 18) Try.func31 rfl rfl rfl hm ?_
  refine j_seq ?_
  refine j_region ?_
  refine r_do (a_alloc zr29 rfl) rfl rfl (fun x1 => ?_)
  refine r_do (a_alloc zr29 rfl) rfl rfl (fun x2 => ?_)
  refine r_nil ?_
  refine j_then ?_
  refine j_seq ?_
  refine j_region ?_
  refine r_q (q_move rfl rfl) rfl rfl ?_
  obtain ⟨_, hb1, h⟩ := of_b1 h
  refine r_do (a_call ok57 rfl rfl rfl rfl (fun w hm => spec_l13Open.calls K a0 a0_A a0_n a0_c hm a0_h (Rd.drop 2 a0_R) a0_k hb1)) rfl rfl (fun x3 => ?_)
  refine r_q (q_assign rfl rfl) rfl rfl ?_
  refine r_nil ?_
  refine j_then ?_
  refine j_seq ?_
  refine j_region ?_
  refine r_q (q_move rfl rfl) rfl rfl ?_
  obtain ⟨v1, v2, v3, v4, v5, v6, hb2, h⟩ := of_b6 h
  refine r_do (a_call ok59 rfl rfl rfl rfl (fun w hm => spec_l9Draw.calls K x3 (a0.take 2000) a0_A (a0.take 2000).length a0_c (0:Int) hm rfl (rd_hiI (Rd.drop 2 a0_R) 2000) hb2)) rfl rfl (fun x4 => ?_)
  refine r_do (a_alloc zr29 rfl) rfl rfl (fun x5 => ?_)
  refine r_do (a_storeb 0 rfl sz29 rfl rfl rfl rfl (Nat.le_of_ble_eq_true rfl) rfl) rfl rfl (fun _ => ?_)
  refine j_b0 [(.slice x4.1.A x4.1.n x4.1.c), (.slice x4.2.1.A x4.2.1.n x4.2.1.c), (.slice x4.2.2.1.A x4.2.2.1.n x4.2.2.1.c), (.slice x4.2.2.2.1.A x4.2.2.2.1.n x4.2.2.2.1.c), (.slice x4.2.2.2.2.A x4.2.2.2.2.n x4.2.2.2.2.c)] rfl ?_
  refine r_nil ?_
  refine j_then ?_
  refine j_seq ?_
  obtain ⟨v7, v8, v9, v10, v11, v12, hb3, h⟩ := of_b6 h
  obtain ⟨v13, v14, v15, v16, v17, v18, hb4, h⟩ := of_b6 h
  obtain ⟨v19, v20, v21, v22, v23, v24, hb5, h⟩ := of_b6 h
  refine j_draw (.box x5 29 [(.slice x4.1.A x4.1.n x4.1.c), (.slice x4.2.1.A x4.2.1.n x4.2.1.c), (.slice x4.2.2.1.A x4.2.2.1.n x4.2.2.1.c), (.slice x4.2.2.2.1.A x4.2.2.2.1.n x4.2.2.2.1.c), (.slice x4.2.2.2.2.A x4.2.2.2.2.n x4.2.2.2.2.c)] :: .row x4.1.A x4.1.c 3 1 (ii v1) :: .row x4.2.1.A x4.2.1.c 3 1 (ii v2) :: .row x4.2.2.1.A x4.2.2.1.c 3 1 (ii v3) :: .row x4.2.2.2.1.A x4.2.2.2.1.c 3 1 (ii v4) :: .row x4.2.2.2.2.A x4.2.2.2.2.c 3 1 (ii v5) :: F) 10 follows_any rfl ?_
  refine d_take 0 rfl (q_loadb_agg 0 rfl ag29 sz29 rfl rfl rfl rfl) rfl rfl (by kernel_rfl) (by kernel_rfl) (by kernel_rfl) (fun w h => h.pick 9 [0, 1, 2, 3, 4, 5] rfl) ?_
  refine d_take 1 rfl (q_move rfl rfl) rfl rfl (by kernel_rfl) (by kernel_rfl) (by kernel_rfl) (fun w h => h.pick 9 [0, 1, 2, 3, 4, 5] rfl) ?_
  refine d_take 2 rfl (q_move rfl rfl) rfl rfl (by kernel_rfl) (by kernel_rfl) (by kernel_rfl) (fun w h => h.pick 9 [0, 1, 2, 3, 4, 5] rfl) ?_
  refine d_take 3 rfl (q_move rfl rfl) rfl rfl (by kernel_rfl) (by kernel_rfl) (by kernel_rfl) (fun w h => h.pick 9 [0, 1, 2, 3, 4, 5] rfl) ?_
  refine d_take 4 rfl (q_loadb_agg 0 rfl ag29 sz29 rfl rfl rfl rfl) rfl rfl (by kernel_rfl) (by kernel_rfl) (by kernel_rfl) (fun w h => h.pick 9 [0, 1, 2, 3, 4, 5] rfl) ?_
  refine d_one 5 (by kernel_rfl) ?_
  refine j_rs (.box x3 84 [(.slice a0_A (a0.take 2000).length a0_c), (i6 v6)] :: .box x5 29 [(.slice x4.1.A x4.1.n x4.1.c), (.slice x4.2.1.A x4.2.1.n x4.2.1.c), (.slice x4.2.2.1.A x4.2.2.1.n x4.2.2.1.c), (.slice x4.2.2.2.1.A x4.2.2.2.1.n x4.2.2.2.1.c), (.slice x4.2.2.2.2.A x4.2.2.2.2.n x4.2.2.2.2.c)] :: .row x4.1.A x4.1.c 3 1 (ii v1) :: .row x4.2.1.A x4.2.1.c 3 1 (ii v2) :: .row x4.2.2.1.A x4.2.2.1.c 3 1 (ii v3) :: .row x4.2.2.2.1.A x4.2.2.2.1.c 3 1 (ii v4) :: .row x4.2.2.2.2.A x4.2.2.2.2.c 3 1 (ii v5) :: .box x2 29 [(.slice none 0 0), (.slice none 0 0), (.slice none 0 0), (.slice none 0 0), (.slice none 0 0)] :: .box x1 29 [(.slice none 0 0), (.slice none 0 0), (.slice none 0 0), (.slice none 0 0), (.slice none 0 0)] :: F) (fun _ h => h.pick 9 [6, 0, 1, 2, 3, 4, 5, 7, 8] rfl) ?_
  refine o_do rfl (a_call ok58 rfl rfl rfl rfl (fun w hm => spec_l9Wrong.calls K x3 (a0.take 2000) a0_A (a0.take 2000).length a0_c v6 v1 x4.1.A x4.1.n x4.1.c v2 x4.2.1.A x4.2.1.n x4.2.1.c v3 x4.2.2.1.A x4.2.2.1.n x4.2.2.1.c v4 x4.2.2.2.1.A x4.2.2.2.1.n x4.2.2.2.1.c v5 x4.2.2.2.2.A x4.2.2.2.2.n x4.2.2.2.2.c hm rfl (rd_hiI (Rd.drop 8 a0_R) 2000) x4.1.h (Rd.row 1 rfl) x4.2.1.h (Rd.row 2 rfl) x4.2.2.1.h (Rd.row 3 rfl) x4.2.2.2.1.h (Rd.row 4 rfl) x4.2.2.2.2.h (Rd.row 5 rfl) hb3)) rfl rfl (fun x6 w h => h.pick 14 [6, 7, 8, 9, 10, 11] rfl) (fun x6 => ?_)
  refine d_one 6 (by kernel_rfl) ?_
  refine j_rs (.box x3 84 [(.slice a0_A (a0.take 2000).length a0_c), (i6 v12)] :: .row x6.1.A x6.1.c 3 1 (ii v7) :: .row x6.2.1.A x6.2.1.c 3 1 (ii v8) :: .row x6.2.2.1.A x6.2.2.1.c 3 1 (ii v9) :: .row x6.2.2.2.1.A x6.2.2.2.1.c 3 1 (ii v10) :: .row x6.2.2.2.2.A x6.2.2.2.2.c 3 1 (ii v11) :: .box x5 29 [(.slice x4.1.A x4.1.n x4.1.c), (.slice x4.2.1.A x4.2.1.n x4.2.1.c), (.slice x4.2.2.1.A x4.2.2.1.n x4.2.2.1.c), (.slice x4.2.2.2.1.A x4.2.2.2.1.n x4.2.2.2.1.c), (.slice x4.2.2.2.2.A x4.2.2.2.2.n x4.2.2.2.2.c)] :: .row x4.1.A x4.1.c 3 1 (ii v1) :: .row x4.2.1.A x4.2.1.c 3 1 (ii v2) :: .row x4.2.2.1.A x4.2.2.1.c 3 1 (ii v3) :: .row x4.2.2.2.1.A x4.2.2.2.1.c 3 1 (ii v4) :: .row x4.2.2.2.2.A x4.2.2.2.2.c 3 1 (ii v5) :: .box x2 29 [(.slice none 0 0), (.slice none 0 0), (.slice none 0 0), (.slice none 0 0), (.slice none 0 0)] :: .box x1 29 [(.slice none 0 0), (.slice none 0 0), (.slice none 0 0), (.slice none 0 0), (.slice none 0 0)] :: F) (fun _ h => h.pick 14 [5, 0, 1, 2, 3, 4, 6, 7, 8, 9, 10, 11, 12, 13] rfl) ?_
  refine o_do rfl (a_call ok58 rfl rfl rfl rfl (fun w hm => spec_l9Wrong.calls K x3 (a0.take 2000) a0_A (a0.take 2000).length a0_c v12 v7 x6.1.A x6.1.n x6.1.c v8 x6.2.1.A x6.2.1.n x6.2.1.c v9 x6.2.2.1.A x6.2.2.1.n x6.2.2.1.c v10 x6.2.2.2.1.A x6.2.2.2.1.n x6.2.2.2.1.c v11 x6.2.2.2.2.A x6.2.2.2.2.n x6.2.2.2.2.c hm rfl (rd_hiI (Rd.drop 13 a0_R) 2000) x6.1.h (Rd.row 0 rfl) x6.2.1.h (Rd.row 1 rfl) x6.2.2.1.h (Rd.row 2 rfl) x6.2.2.2.1.h (Rd.row 3 rfl) x6.2.2.2.2.h (Rd.row 4 rfl) hb4)) rfl rfl (fun x7 w h => h.pick 19 [11, 12, 13, 14, 15, 16] rfl) (fun x7 => ?_)
  refine d_one 7 (by kernel_rfl) ?_
  refine j_rs (.box x3 84 [(.slice a0_A (a0.take 2000).length a0_c), (i6 v18)] :: .row x7.1.A x7.1.c 3 1 (ii v13) :: .row x7.2.1.A x7.2.1.c 3 1 (ii v14) :: .row x7.2.2.1.A x7.2.2.1.c 3 1 (ii v15) :: .row x7.2.2.2.1.A x7.2.2.2.1.c 3 1 (ii v16) :: .row x7.2.2.2.2.A x7.2.2.2.2.c 3 1 (ii v17) :: .row x6.1.A x6.1.c 3 1 (ii v7) :: .row x6.2.1.A x6.2.1.c 3 1 (ii v8) :: .row x6.2.2.1.A x6.2.2.1.c 3 1 (ii v9) :: .row x6.2.2.2.1.A x6.2.2.2.1.c 3 1 (ii v10) :: .row x6.2.2.2.2.A x6.2.2.2.2.c 3 1 (ii v11) :: .box x5 29 [(.slice x4.1.A x4.1.n x4.1.c), (.slice x4.2.1.A x4.2.1.n x4.2.1.c), (.slice x4.2.2.1.A x4.2.2.1.n x4.2.2.1.c), (.slice x4.2.2.2.1.A x4.2.2.2.1.n x4.2.2.2.1.c), (.slice x4.2.2.2.2.A x4.2.2.2.2.n x4.2.2.2.2.c)] :: .row x4.1.A x4.1.c 3 1 (ii v1) :: .row x4.2.1.A x4.2.1.c 3 1 (ii v2) :: .row x4.2.2.1.A x4.2.2.1.c 3 1 (ii v3) :: .row x4.2.2.2.1.A x4.2.2.2.1.c 3 1 (ii v4) :: .row x4.2.2.2.2.A x4.2.2.2.2.c 3 1 (ii v5) :: .box x2 29 [(.slice none 0 0), (.slice none 0 0), (.slice none 0 0), (.slice none 0 0), (.slice none 0 0)] :: .box x1 29 [(.slice none 0 0), (.slice none 0 0), (.slice none 0 0), (.slice none 0 0), (.slice none 0 0)] :: F) (fun _ h => h.pick 19 [5, 0, 1, 2, 3, 4, 6, 7, 8, 9, 10, 11, 12, 13, 14, 15, 16, 17, 18] rfl) ?_
  refine o_do rfl (a_call ok58 rfl rfl rfl rfl (fun w hm => spec_l9Wrong.calls K x3 (a0.take 2000) a0_A (a0.take 2000).length a0_c v18 v13 x7.1.A x7.1.n x7.1.c v14 x7.2.1.A x7.2.1.n x7.2.1.c v15 x7.2.2.1.A x7.2.2.1.n x7.2.2.1.c v16 x7.2.2.2.1.A x7.2.2.2.1.n x7.2.2.2.1.c v17 x7.2.2.2.2.A x7.2.2.2.2.n x7.2.2.2.2.c hm rfl (rd_hiI (Rd.drop 18 a0_R) 2000) x7.1.h (Rd.row 0 rfl) x7.2.1.h (Rd.row 1 rfl) x7.2.2.1.h (Rd.row 2 rfl) x7.2.2.2.1.h (Rd.row 3 rfl) x7.2.2.2.2.h (Rd.row 4 rfl) hb5)) rfl rfl (fun x8 w h => h.pick 24 [16, 17, 18, 19, 20, 21] rfl) (fun x8 => ?_)
  refine d_one 8 (by kernel_rfl) ?_
  refine o_do rfl (a_storeb 23 rfl sz29 rfl rfl rfl rfl (Nat.le_of_ble_eq_true rfl) rfl) rfl rfl (fun _ w h => h.pick 24 [16, 17, 18, 19, 20, 21] rfl) (fun _ => ?_)
  refine j_b23 [(.slice x4.1.A x4.1.n x4.1.c), (.slice x4.2.1.A x4.2.1.n x4.2.1.c), (.slice x4.2.2.1.A x4.2.2.1.n x4.2.2.1.c), (.slice x4.2.2.2.1.A x4.2.2.2.1.n x4.2.2.2.1.c), (.slice x4.2.2.2.2.A x4.2.2.2.2.n x4.2.2.2.2.c)] rfl ?_
  refine d_one 9 (by kernel_rfl) ?_
  refine o_do rfl (a_storeb 22 rfl sz29 rfl rfl rfl rfl (Nat.le_of_ble_eq_true rfl) rfl) rfl rfl (fun _ w h => h.pick 24 [16, 17, 18, 19, 20, 21] rfl) (fun _ => ?_)
  refine j_b22 [(.slice x8.1.A x8.1.n x8.1.c), (.slice x8.2.1.A x8.2.1.n x8.2.1.c), (.slice x8.2.2.1.A x8.2.2.1.n x8.2.2.1.c), (.slice x8.2.2.2.1.A x8.2.2.2.1.n x8.2.2.2.1.c), (.slice x8.2.2.2.2.A x8.2.2.2.2.n x8.2.2.2.2.c)] rfl ?_
  refine d_done (by kernel_rfl) ?_
  refine j_then ?_
  refine j_ret ?_
  cases h
  exact j_return rfl (ResOf.cell 23 rfl rfl ag29 sz29 (ResOf.cell 22 rfl rfl ag29 sz29 ResOf.nil)) rfl (fun w h => ⟨(⟨x4.1.A, x4.1.n, x4.1.c, x4.1.h⟩, ⟨x4.2.1.A, x4.2.1.n, x4.2.1.c, x4.2.1.h⟩, ⟨x4.2.2.1.A, x4.2.2.1.n, x4.2.2.1.c, x4.2.2.1.h⟩, ⟨x4.2.2.2.1.A, x4.2.2.2.1.n, x4.2.2.2.1.c, x4.2.2.2.1.h⟩, ⟨x4.2.2.2.2.A, x4.2.2.2.2.n, x4.2.2.2.2.c, x4.2.2.2.2.h⟩, ⟨x8.1.A, x8.1.n, x8.1.c, x8.1.h⟩, ⟨x8.2.1.A, x8.2.1.n, x8.2.1.c, x8.2.1.h⟩, ⟨x8.2.2.1.A, x8.2.2.1.n, x8.2.2.1.c, x8.2.2.1.h⟩, ⟨x8.2.2.2.1.A, x8.2.2.2.1.n, x8.2.2.2.1.c, x8.2.2.2.1.h⟩, ⟨x8.2.2.2.2.A, x8.2.2.2.2.n, x8.2.2.2.2.c, x8.2.2.2.2.h⟩), rfl, h.pick 24 [17, 18, 19, 20, 21, 0, 1, 2, 3, 4] rfl⟩)

theorem spec_HeapSame.calls (K : Nat) (a0_0 : List Int) (a0_0_A : Option Addr) (a0_0_n a0_0_c : Nat) (a0_1 : List Int) (a0_1_A : Option Addr) (a0_1_n a0_1_c : Nat) (a0_2 : List Int) (a0_2_A : Option Addr) (a0_2_n a0_2_c : Nat) (a1_0 : List Int) (a1_0_A : Option Addr) (a1_0_n a1_0_c : Nat) (a1_1 : List Int) (a1_1_A : Option Addr) (a1_1_n a1_1_c : Nat) (a1_2 : List Int) (a1_2_A : Option Addr) (a1_2_n a1_2_c : Nat) {w0 w : World} {F : List Res} {r1 : Bool} (hm : Mem w0 (F) w) (a0_0_h : a0_0.length = a0_0_n) (a0_0_R : Rd w0 F a0_0_A (ii a0_0)) (a0_1_h : a0_1.length = a0_1_n) (a0_1_R : Rd w0 F a0_1_A (ii a0_1)) (a0_2_h : a0_2.length = a0_2_n) (a0_2_R : Rd w0 F a0_2_A (ii a0_2)) (a1_0_h : a1_0.length = a1_0_n) (a1_0_R : Rd w0 F a1_0_A (ii a1_0)) (a1_1_h : a1_1.length = a1_1_n) (a1_1_R : Rd w0 F a1_1_A (ii a1_1)) (a1_2_h : a1_2.length = a1_2_n) (a1_2_R : Rd w0 F a1_2_A (ii a1_2)) (h : spec_HeapSame.f K a0_0 a0_1 a0_2 a1_0 a1_1 a1_2 = some r1) :
    Calls Try.prog 88 (List.toArray [.agg (List.toArray [.slice a0_0_A a0_0_n a0_0_c, .slice a0_1_A a0_1_n a0_1_c, .slice a0_2_A a0_2_n a0_2_c]), .agg (List.toArray [.slice a1_0_A a1_0_n a1_0_c, .slice a1_1_A a1_1_n a1_1_c, .slice a1_2_A a1_2_n a1_2_c])]) w fun e w' => ∃ x : Unit, e = .returned (.bool r1) ∧ Mem w0 (F) w' := by
  unfold spec_HeapSame.f at h
  refine calls_of_J (n := 24) Try.func88 rfl rfl rfl hm ?_
  refine j_seq ?_
  refine j_region ?_
  refine r_do (a_box rfl rfl) rfl rfl (fun x1 => ?_)
  refine r_do (a_box rfl rfl) rfl rfl (fun x2 => ?_)
  refine r_q (q_assign rfl rfl) rfl rfl ?_
  refine r_nil ?_
  refine j_then ?_
  refine j_seq ?_
  refine j_region ?_
  refine r_q (q_fieldAddr fi25_0 sz23 rfl rfl rfl) rfl rfl ?_
  refine r_q (q_loadb 1 rfl ag23 rfl rfl rfl) rfl rfl ?_
  refine r_q (q_fieldAddr fi25_0 sz23 rfl rfl rfl) rfl rfl ?_
  refine r_q (q_loadb 0 rfl ag23 rfl rfl rfl) rfl rfl ?_
  obtain ⟨v1, hb1, h⟩ := of_b1 h
  refine r_do (a_call ok61 rfl rfl rfl rfl (fun w hm => spec_l1Ints.calls K a0_0 a0_0_A a0_0_n a0_0_c a1_0 a1_0_A a1_0_n a1_0_c hm a0_0_h (Rd.drop 2 a0_0_R) a1_0_h (Rd.drop 2 a1_0_R) hb1)) rfl rfl (fun x3 => ?_)
  refine r_q (q_move rfl rfl) rfl rfl ?_
  rcases of_if h with ⟨c1, h⟩ | ⟨c1, h⟩
  · refine r_qon (q_fieldAddr fi25_1 sz23 rfl rfl rfl) rfl rfl rfl rfl c1 rfl ?_
    refine r_qon (q_loadb 1 rfl ag23 rfl rfl rfl) rfl rfl rfl rfl c1 rfl ?_
    refine r_qon (q_fieldAddr fi25_1 sz23 rfl rfl rfl) rfl rfl rfl rfl c1 rfl ?_
    refine r_qon (q_loadb 0 rfl ag23 rfl rfl rfl) rfl rfl rfl rfl c1 rfl ?_
    obtain ⟨v2, hb2, h⟩ := of_b1 h
    refine r_on (a_call ok61 rfl rfl rfl rfl (fun w hm => spec_l1Ints.calls K a0_1 a0_1_A a0_1_n a0_1_c a1_1 a1_1_A a1_1_n a1_1_c hm a0_1_h (Rd.drop 2 a0_1_R) a1_1_h (Rd.drop 2 a1_1_R) hb2)) rfl rfl rfl rfl c1 rfl (fun x4 => ?_)
    refine r_q (q_pick_t rfl rfl c1 rfl) rfl rfl ?_
    refine r_q (q_move rfl rfl) rfl rfl ?_
    rcases of_if h with ⟨c2, h⟩ | ⟨c2, h⟩
    · refine r_qon (q_fieldAddr fi25_2 sz23 rfl rfl rfl) rfl rfl rfl rfl c2 rfl ?_
      refine r_qon (q_loadb 1 rfl ag23 rfl rfl rfl) rfl rfl rfl rfl c2 rfl ?_
      refine r_qon (q_fieldAddr fi25_2 sz23 rfl rfl rfl) rfl rfl rfl rfl c2 rfl ?_
      refine r_qon (q_loadb 0 rfl ag23 rfl rfl rfl) rfl rfl rfl rfl c2 rfl ?_
      obtain ⟨v3, hb3, h⟩ := of_b1 h
      refine r_on (a_call ok61 rfl rfl rfl rfl (fun w hm => spec_l1Ints.calls K a0_2 a0_2_A a0_2_n a0_2_c a1_2 a1_2_A a1_2_n a1_2_c hm a0_2_h (Rd.drop 2 a0_2_R) a1_2_h (Rd.drop 2 a1_2_R) hb3)) rfl rfl rfl rfl c2 rfl (fun x5 => ?_)
      refine r_q (q_pick_t rfl rfl c2 rfl) rfl rfl ?_
      refine r_q (q_assign rfl rfl) rfl rfl ?_
      refine r_nil ?_
      refine j_then ?_
      refine j_ret ?_
      cases h
      exact j_return rfl (ResOf.tmp rfl ResOf.nil) rfl (fun w h => ⟨(), rfl, (h.drop 2)⟩)
    · refine r_off rfl rfl rfl rfl (var_f c2) rfl ?_
      refine r_off rfl rfl rfl rfl (var_f c2) rfl ?_
      refine r_off rfl rfl rfl rfl (var_f c2) rfl ?_
      refine r_off rfl rfl rfl rfl (var_f c2) rfl ?_
      refine r_off rfl rfl rfl rfl (var_f c2) rfl ?_
      refine r_q (q_pick_f rfl rfl (var_f c2) rfl) rfl rfl ?_
      refine r_q (q_assign rfl rfl) rfl rfl ?_
      refine r_nil ?_
      refine j_then ?_
      refine j_ret ?_
      cases h
      exact j_return rfl (ResOf.tmp rfl ResOf.nil) rfl (fun w h => ⟨(), rfl, (h.drop 2)⟩)
  · refine r_off rfl rfl rfl rfl (var_f c1) rfl ?_
    refine r_off rfl rfl rfl rfl (var_f c1) rfl ?_
    refine r_off rfl rfl rfl rfl (var_f c1) rfl ?_
    refine r_off rfl rfl rfl rfl (var_f c1) rfl ?_
    refine r_off rfl rfl rfl rfl (var_f c1) rfl ?_
    refine r_q (q_pick_f rfl rfl (var_f c1) rfl) rfl rfl ?_
    refine r_q (q_move rfl rfl) rfl rfl ?_
    refine r_off rfl rfl rfl rfl rfl rfl ?_
    refine r_off rfl rfl rfl rfl rfl rfl ?_
    refine r_off rfl rfl rfl rfl rfl rfl ?_
    refine r_off rfl rfl rfl rfl rfl rfl ?_
    refine r_off rfl rfl rfl rfl rfl rfl ?_
    refine r_q (q_pick_f rfl rfl rfl rfl) rfl rfl ?_
    refine r_q (q_assign rfl rfl) rfl rfl ?_
    refine r_nil ?_
    refine j_then ?_
    refine j_ret ?_
    cases h
    exact j_return rfl (ResOf.tmp rfl ResOf.nil) rfl (fun w h => ⟨(), rfl, (h.drop 2)⟩)

theorem spec_StoreSame.calls (K : Nat) (a0_0 : List Int) (a0_0_A : Option Addr) (a0_0_n a0_0_c : Nat) (a0_1 : List Int) (a0_1_A : Option Addr) (a0_1_n a0_1_c : Nat) (a0_2 : List Int) (a0_2_A : Option Addr) (a0_2_n a0_2_c : Nat) (a0_3 : List Int) (a0_3_A : Option Addr) (a0_3_n a0_3_c : Nat) (a1_0 : List Int) (a1_0_A : Option Addr) (a1_0_n a1_0_c : Nat) (a1_1 : List Int) (a1_1_A : Option Addr) (a1_1_n a1_1_c : Nat) (a1_2 : List Int) (a1_2_A : Option Addr) (a1_2_n a1_2_c : Nat) (a1_3 : List Int) (a1_3_A : Option Addr) (a1_3_n a1_3_c : Nat) {w0 w : World} {F : List Res} {r1 : Bool} (hm : Mem w0 (F) w) (a0_0_h : a0_0.length = a0_0_n) (a0_0_R : Rd w0 F a0_0_A (ii a0_0)) (a0_1_h : a0_1.length = a0_1_n) (a0_1_R : Rd w0 F a0_1_A (ii a0_1)) (a0_2_h : a0_2.length = a0_2_n) (a0_2_R : Rd w0 F a0_2_A (ii a0_2)) (a0_3_h : a0_3.length = a0_3_n) (a0_3_R : Rd w0 F a0_3_A (ii a0_3)) (a1_0_h : a1_0.length = a1_0_n) (a1_0_R : Rd w0 F a1_0_A (ii a1_0)) (a1_1_h : a1_1.length = a1_1_n) (a1_1_R : Rd w0 F a1_1_A (ii a1_1)) (a1_2_h : a1_2.length = a1_2_n) (a1_2_R : Rd w0 F a1_2_A (ii a1_2)) (a1_3_h : a1_3.length = a1_3_n) (a1_3_R : Rd w0 F a1_3_A (ii a1_3)) (h : spec_StoreSame.f K a0_0 a0_1 a0_2 a0_3 a1_0 a1_1 a1_2 a1_3 = some r1) :
    Calls Try.prog 64 (List.toArray [.agg (List.toArray [.slice a0_0_A a0_0_n a0_0_c, .slice a0_1_A a0_1_n a0_1_c, .slice a0_2_A a0_2_n a0_2_c, .slice a0_3_A a0_3_n a0_3_c]), .agg (List.toArray [.slice a1_0_A a1_0_n a1_0_c, .slice a1_1_A a1_1_n a1_1_c, .slice a1_2_A a1_2_n a1_2_c, .slice a1_3_A a1_3_n a1_3_c])]) w fun e w' => ∃ x : Unit, e = .returned (.bool r1) ∧ Mem w0 (F) w' := by
  unfold spec_StoreSame.f at h
  refine calls_of_J (n := 17) Try.func64 rfl rfl rfl hm ?_
  refine j_seq ?_
  refine j_region ?_
  refine r_do (a_box rfl rfl) rfl rfl (fun x1 => ?_)
  refine r_do (a_box rfl rfl) rfl rfl (fun x2 => ?_)
  refine r_q (q_assign rfl rfl) rfl rfl ?_
  refine r_nil ?_
  refine j_then ?_
  refine j_seq ?_
  refine j_region ?_
  refine r_q (q_fieldAddr fi27_0 sz25 rfl rfl rfl) rfl rfl ?_
  refine r_q (q_loadb_agg 1 rfl ag25 sz25 rfl rfl rfl rfl) rfl rfl ?_
  refine r_q (q_fieldAddr fi27_0 sz25 rfl rfl rfl) rfl rfl ?_
  refine r_q (q_loadb_agg 0 rfl ag25 sz25 rfl rfl rfl rfl) rfl rfl ?_
  obtain ⟨v1, hb1, h⟩ := of_b1 h
  refine r_do (a_call ok88 rfl rfl rfl rfl (fun w hm => spec_HeapSame.calls K a0_0 a0_0_A a0_0_n a0_0_c a0_1 a0_1_A a0_1_n a0_1_c a0_2 a0_2_A a0_2_n a0_2_c a1_0 a1_0_A a1_0_n a1_0_c a1_1 a1_1_A a1_1_n a1_1_c a1_2 a1_2_A a1_2_n a1_2_c hm a0_0_h (Rd.drop 2 a0_0_R) a0_1_h (Rd.drop 2 a0_1_R) a0_2_h (Rd.drop 2 a0_2_R) a1_0_h (Rd.drop 2 a1_0_R) a1_1_h (Rd.drop 2 a1_1_R) a1_2_h (Rd.drop 2 a1_2_R) hb1)) rfl rfl (fun x3 => ?_)
  refine r_q (q_move rfl rfl) rfl rfl ?_
  rcases of_if h with ⟨c1, h⟩ | ⟨c1, h⟩
  · refine r_qon (q_fieldAddr fi27_1 sz23 rfl rfl rfl) rfl rfl rfl rfl c1 rfl ?_
    refine r_qon (q_loadb 1 rfl ag23 rfl rfl rfl) rfl rfl rfl rfl c1 rfl ?_
    refine r_qon (q_fieldAddr fi27_1 sz23 rfl rfl rfl) rfl rfl rfl rfl c1 rfl ?_
    refine r_qon (q_loadb 0 rfl ag23 rfl rfl rfl) rfl rfl rfl rfl c1 rfl ?_
    obtain ⟨v2, hb2, h⟩ := of_b1 h
    refine r_on (a_call ok61 rfl rfl rfl rfl (fun w hm => spec_l1Ints.calls K a0_3 a0_3_A a0_3_n a0_3_c a1_3 a1_3_A a1_3_n a1_3_c hm a0_3_h (Rd.drop 2 a0_3_R) a1_3_h (Rd.drop 2 a1_3_R) hb2)) rfl rfl rfl rfl c1 rfl (fun x4 => ?_)
    refine r_q (q_pick_t rfl rfl c1 rfl) rfl rfl ?_
    refine r_q (q_assign rfl rfl) rfl rfl ?_
    refine r_nil ?_
    refine j_then ?_
    refine j_ret ?_
    cases h
    exact j_return rfl (ResOf.tmp rfl ResOf.nil) rfl (fun w h => ⟨(), rfl, (h.drop 2)⟩)
  · refine r_off rfl rfl rfl rfl (var_f c1) rfl ?_
    refine r_off rfl rfl rfl rfl (var_f c1) rfl ?_
    refine r_off rfl rfl rfl rfl (var_f c1) rfl ?_
    refine r_off rfl rfl rfl rfl (var_f c1) rfl ?_
    refine r_off rfl rfl rfl rfl (var_f c1) rfl ?_
    refine r_q (q_pick_f rfl rfl (var_f c1) rfl) rfl rfl ?_
    refine r_q (q_assign rfl rfl) rfl rfl ?_
    refine r_nil ?_
    refine j_then ?_
    refine j_ret ?_
    cases h
    exact j_return rfl (ResOf.tmp rfl ResOf.nil) rfl (fun w h => ⟨(), rfl, (h.drop 2)⟩)

theorem spec_CountedSame.calls (K : Nat) (a0_0 : List Int) (a0_0_A : Option Addr) (a0_0_n a0_0_c : Nat) (a0_1 : List Int) (a0_1_A : Option Addr) (a0_1_n a0_1_c : Nat) (a0_2 : List Int) (a0_2_A : Option Addr) (a0_2_n a0_2_c : Nat) (a0_3 : List Int) (a0_3_A : Option Addr) (a0_3_n a0_3_c : Nat) (a0_4 : List Int) (a0_4_A : Option Addr) (a0_4_n a0_4_c : Nat) (a1_0 : List Int) (a1_0_A : Option Addr) (a1_0_n a1_0_c : Nat) (a1_1 : List Int) (a1_1_A : Option Addr) (a1_1_n a1_1_c : Nat) (a1_2 : List Int) (a1_2_A : Option Addr) (a1_2_n a1_2_c : Nat) (a1_3 : List Int) (a1_3_A : Option Addr) (a1_3_n a1_3_c : Nat) (a1_4 : List Int) (a1_4_A : Option Addr) (a1_4_n a1_4_c : Nat) {w0 w : World} {F : List Res} {r1 : Bool} (hm : Mem w0 (F) w) (a0_0_h : a0_0.length = a0_0_n) (a0_0_R : Rd w0 F a0_0_A (ii a0_0)) (a0_1_h : a0_1.length = a0_1_n) (a0_1_R : Rd w0 F a0_1_A (ii a0_1)) (a0_2_h : a0_2.length = a0_2_n) (a0_2_R : Rd w0 F a0_2_A (ii a0_2)) (a0_3_h : a0_3.length = a0_3_n) (a0_3_R : Rd w0 F a0_3_A (ii a0_3)) (a0_4_h : a0_4.length = a0_4_n) (a0_4_R : Rd w0 F a0_4_A (ii a0_4)) (a1_0_h : a1_0.length = a1_0_n) (a1_0_R : Rd w0 F a1_0_A (ii a1_0)) (a1_1_h : a1_1.length = a1_1_n) (a1_1_R : Rd w0 F a1_1_A (ii a1_1)) (a1_2_h : a1_2.length = a1_2_n) (a1_2_R : Rd w0 F a1_2_A (ii a1_2)) (a1_3_h : a1_3.length = a1_3_n) (a1_3_R : Rd w0 F a1_3_A (ii a1_3)) (a1_4_h : a1_4.length = a1_4_n) (a1_4_R : Rd w0 F a1_4_A (ii a1_4)) (h : spec_CountedSame.f K a0_0 a0_1 a0_2 a0_3 a0_4 a1_0 a1_1 a1_2 a1_3 a1_4 = some r1) :
    Calls Try.prog 32 (List.toArray [.agg (List.toArray [.slice a0_0_A a0_0_n a0_0_c, .slice a0_1_A a0_1_n a0_1_c, .slice a0_2_A a0_2_n a0_2_c, .slice a0_3_A a0_3_n a0_3_c, .slice a0_4_A a0_4_n a0_4_c]), .agg (List.toArray [.slice a1_0_A a1_0_n a1_0_c, .slice a1_1_A a1_1_n a1_1_c, .slice a1_2_A a1_2_n a1_2_c, .slice a1_3_A a1_3_n a1_3_c, .slice a1_4_A a1_4_n a1_4_c])]) w fun e w' => ∃ x : Unit, e = .returned (.bool r1) ∧ Mem w0 (F) w' := by
  unfold spec_CountedSame.f at h
  refine calls_of_J (n := 17) Try.func32 rfl rfl rfl hm ?_
  refine j_seq ?_
  refine j_region ?_
  refine r_do (a_box rfl rfl) rfl rfl (fun x1 => ?_)
  refine r_do (a_box rfl rfl) rfl rfl (fun x2 => ?_)
  refine r_q (q_assign rfl rfl) rfl rfl ?_
  refine r_nil ?_
  refine j_then ?_
  refine j_seq ?_
  refine j_region ?_
  refine r_q (q_fieldAddr fi29_0 sz27 rfl rfl rfl) rfl rfl ?_
  refine r_q (q_loadb_agg 1 rfl ag27 sz27 rfl rfl rfl rfl) rfl rfl ?_
  refine r_q (q_fieldAddr fi29_0 sz27 rfl rfl rfl) rfl rfl ?_
  refine r_q (q_loadb_agg 0 rfl ag27 sz27 rfl rfl rfl rfl) rfl rfl ?_
  obtain ⟨v1, hb1, h⟩ := of_b1 h
  refine r_do (a_call ok64 rfl rfl rfl rfl (fun w hm => spec_StoreSame.calls K a0_0 a0_0_A a0_0_n a0_0_c a0_1 a0_1_A a0_1_n a0_1_c a0_2 a0_2_A a0_2_n a0_2_c a0_3 a0_3_A a0_3_n a0_3_c a1_0 a1_0_A a1_0_n a1_0_c a1_1 a1_1_A a1_1_n a1_1_c a1_2 a1_2_A a1_2_n a1_2_c a1_3 a1_3_A a1_3_n a1_3_c hm a0_0_h (Rd.drop 2 a0_0_R) a0_1_h (Rd.drop 2 a0_1_R) a0_2_h (Rd.drop 2 a0_2_R) a0_3_h (Rd.drop 2 a0_3_R) a1_0_h (Rd.drop 2 a1_0_R) a1_1_h (Rd.drop 2 a1_1_R) a1_2_h (Rd.drop 2 a1_2_R) a1_3_h (Rd.drop 2 a1_3_R) hb1)) rfl rfl (fun x3 => ?_)
  refine r_q (q_move rfl rfl) rfl rfl ?_
  rcases of_if h with ⟨c1, h⟩ | ⟨c1, h⟩
  · refine r_qon (q_fieldAddr fi29_1 sz23 rfl rfl rfl) rfl rfl rfl rfl c1 rfl ?_
    refine r_qon (q_loadb 1 rfl ag23 rfl rfl rfl) rfl rfl rfl rfl c1 rfl ?_
    refine r_qon (q_fieldAddr fi29_1 sz23 rfl rfl rfl) rfl rfl rfl rfl c1 rfl ?_
    refine r_qon (q_loadb 0 rfl ag23 rfl rfl rfl) rfl rfl rfl rfl c1 rfl ?_
    obtain ⟨v2, hb2, h⟩ := of_b1 h
    refine r_on (a_call ok61 rfl rfl rfl rfl (fun w hm => spec_l1Ints.calls K a0_4 a0_4_A a0_4_n a0_4_c a1_4 a1_4_A a1_4_n a1_4_c hm a0_4_h (Rd.drop 2 a0_4_R) a1_4_h (Rd.drop 2 a1_4_R) hb2)) rfl rfl rfl rfl c1 rfl (fun x4 => ?_)
    refine r_q (q_pick_t rfl rfl c1 rfl) rfl rfl ?_
    refine r_q (q_assign rfl rfl) rfl rfl ?_
    refine r_nil ?_
    refine j_then ?_
    refine j_ret ?_
    cases h
    exact j_return rfl (ResOf.tmp rfl ResOf.nil) rfl (fun w h => ⟨(), rfl, (h.drop 2)⟩)
  · refine r_off rfl rfl rfl rfl (var_f c1) rfl ?_
    refine r_off rfl rfl rfl rfl (var_f c1) rfl ?_
    refine r_off rfl rfl rfl rfl (var_f c1) rfl ?_
    refine r_off rfl rfl rfl rfl (var_f c1) rfl ?_
    refine r_off rfl rfl rfl rfl (var_f c1) rfl ?_
    refine r_q (q_pick_f rfl rfl (var_f c1) rfl) rfl rfl ?_
    refine r_q (q_assign rfl rfl) rfl rfl ?_
    refine r_nil ?_
    refine j_then ?_
    refine j_ret ?_
    cases h
    exact j_return rfl (ResOf.tmp rfl ResOf.nil) rfl (fun w h => ⟨(), rfl, (h.drop 2)⟩)

theorem laws_FnCountedSame.calls (K : Nat) (a0 : List Int) (a0_A : Option Addr) (a0_n a0_c : Nat) {w0 w : World} {F : List Res} {r1 : Bool} (hm : Mem w0 (F) w) (a0_h : a0.length = a0_n) (a0_R : Rd w0 F a0_A (ints .u8 a0)) (a0_k : a0.length ≤ a0_c) (h : laws_FnCountedSame.f K a0 = some r1) :
    Calls Try.prog 10 (List.toArray [.slice a0_A a0_n a0_c]) w fun e w' => ∃ x : Unit, e = .returned (.bool r1) ∧ Mem w0 (F) w' := by
  unfold laws_FnCountedSame.f at h
  refine calls_of_J (n := 45) Try.func10 rfl rfl rfl hm ?_
  refine j_seq ?_
  refine j_region ?_
  refine r_q (q_assign rfl rfl) rfl rfl ?_
  refine r_nil ?_
  refine j_then ?_
  refine j_seq ?_
  refine j_seq ?_
  refine j_region ?_
  refine r_q (q_move rfl rfl) rfl rfl ?_
  refine r_q (q_lenX a0 a0_h un22 rfl rfl rfl rfl rfl) rfl rfl ?_
  refine r_q (q_gtr rfl rfl rfl) rfl rfl ?_
  refine r_nil ?_
  refine j_then ?_
  rcases of_if h with ⟨c1, h⟩ | ⟨c1, h⟩
  · refine j_true rfl (decide_eq_true c1) ?_
    refine j_seq ?_
    refine j_region ?_
    refine r_q (q_assign rfl rfl) rfl rfl ?_
    refine r_nil ?_
    refine j_then ?_
    refine j_ret ?_
    refine j_then_ret ?_
    cases h
    exact j_return rfl (ResOf.tmp rfl ResOf.nil) rfl (fun w h => ⟨(), rfl, h⟩)
  · refine j_false rfl (decide_eq_false c1) ?_
    refine j_skip ?_
    refine j_then ?_
    refine j_seq ?_
    refine j_region ?_
    refine r_q (q_move rfl rfl) rfl rfl ?_
    obtain ⟨v1, v2, v3, v4, v5, v6, v7, v8, v9, v10, hb1, h⟩ := of_b10 h
    refine r_do (a_call ok31 rfl rfl rfl rfl (fun w hm => spec_DrawCountedSame.calls K a0 a0_A a0_n a0_c hm a0_h a0_R a0_k hb1)) rfl rfl (fun x1 => ?_)
    refine r_q (q_move rfl rfl) rfl rfl ?_
    refine r_q (q_extract rfl rfl rfl) rfl rfl ?_
    refine r_q (q_extract rfl rfl rfl) rfl rfl ?_
    refine r_do (a_alloc zr29 rfl) rfl rfl (fun x2 => ?_)
    refine r_do (a_alloc zr29 rfl) rfl rfl (fun x3 => ?_)
    refine r_do (a_storeb 1 rfl sz29 rfl rfl rfl rfl (Nat.le_of_ble_eq_true rfl) rfl) rfl rfl (fun _ => ?_)
    refine j_b1 [(.slice x1.1.A x1.1.n x1.1.c), (.slice x1.2.1.A x1.2.1.n x1.2.1.c), (.slice x1.2.2.1.A x1.2.2.1.n x1.2.2.1.c), (.slice x1.2.2.2.1.A x1.2.2.2.1.n x1.2.2.2.1.c), (.slice x1.2.2.2.2.1.A x1.2.2.2.2.1.n x1.2.2.2.2.1.c)] rfl ?_
    refine r_do (a_storeb 0 rfl sz29 rfl rfl rfl rfl (Nat.le_of_ble_eq_true rfl) rfl) rfl rfl (fun _ => ?_)
    refine j_b0 [(.slice x1.2.2.2.2.2.1.A x1.2.2.2.2.2.1.n x1.2.2.2.2.2.1.c), (.slice x1.2.2.2.2.2.2.1.A x1.2.2.2.2.2.2.1.n x1.2.2.2.2.2.2.1.c), (.slice x1.2.2.2.2.2.2.2.1.A x1.2.2.2.2.2.2.2.1.n x1.2.2.2.2.2.2.2.1.c), (.slice x1.2.2.2.2.2.2.2.2.1.A x1.2.2.2.2.2.2.2.2.1.n x1.2.2.2.2.2.2.2.2.1.c), (.slice x1.2.2.2.2.2.2.2.2.2.A x1.2.2.2.2.2.2.2.2.2.n x1.2.2.2.2.2.2.2.2.2.c)] rfl ?_
    refine r_nil ?_
    refine j_then ?_
    refine j_seq ?_
    refine j_region ?_
    refine r_q (q_loadb_agg 1 rfl ag29 sz29 rfl rfl rfl rfl) rfl rfl ?_
    refine r_q (q_loadb_agg 0 rfl ag29 sz29 rfl rfl rfl rfl) rfl rfl ?_
    obtain ⟨v11, hb2, h⟩ := of_b1 h
    refine r_do (a_call ok18 rfl rfl rfl rfl (fun w hm => impl_CountedSame.calls K v1 x1.1.A x1.1.n x1.1.c v2 x1.2.1.A x1.2.1.n x1.2.1.c v3 x1.2.2.1.A x1.2.2.1.n x1.2.2.1.c v4 x1.2.2.2.1.A x1.2.2.2.1.n x1.2.2.2.1.c v5 x1.2.2.2.2.1.A x1.2.2.2.2.1.n x1.2.2.2.2.1.c v6 x1.2.2.2.2.2.1.A x1.2.2.2.2.2.1.n x1.2.2.2.2.2.1.c v7 x1.2.2.2.2.2.2.1.A x1.2.2.2.2.2.2.1.n x1.2.2.2.2.2.2.1.c v8 x1.2.2.2.2.2.2.2.1.A x1.2.2.2.2.2.2.2.1.n x1.2.2.2.2.2.2.2.1.c v9 x1.2.2.2.2.2.2.2.2.1.A x1.2.2.2.2.2.2.2.2.1.n x1.2.2.2.2.2.2.2.2.1.c v10 x1.2.2.2.2.2.2.2.2.2.A x1.2.2.2.2.2.2.2.2.2.n x1.2.2.2.2.2.2.2.2.2.c hm x1.1.h (Rd.row 2 rfl) x1.2.1.h (Rd.row 3 rfl) x1.2.2.1.h (Rd.row 4 rfl) x1.2.2.2.1.h (Rd.row 5 rfl) x1.2.2.2.2.1.h (Rd.row 6 rfl) x1.2.2.2.2.2.1.h (Rd.row 7 rfl) x1.2.2.2.2.2.2.1.h (Rd.row 8 rfl) x1.2.2.2.2.2.2.2.1.h (Rd.row 9 rfl) x1.2.2.2.2.2.2.2.2.1.h (Rd.row 10 rfl) x1.2.2.2.2.2.2.2.2.2.h (Rd.row 11 rfl) hb2)) rfl rfl (fun x4 => ?_)
    refine r_q (q_assign rfl rfl) rfl rfl ?_
    refine r_nil ?_
    refine j_then ?_
    refine j_seq ?_
    obtain ⟨v12, hb3, h⟩ := of_b1 h
    rcases of_if h with ⟨c2, h⟩ | ⟨c2, h⟩
    · obtain ⟨v13, hb4, h⟩ := of_b1 h
      rcases of_if h with ⟨c3, h⟩ | ⟨c3, h⟩
      · obtain ⟨v14, hb5, h⟩ := of_b1 h
        rcases of_if h with ⟨c4, h⟩ | ⟨c4, h⟩
        · rcases of_if h with ⟨c5, h⟩ | ⟨c5, h⟩
          · obtain ⟨v15, hb6, h⟩ := of_b1 h
            obtain ⟨v16, hb7, h⟩ := of_b1 h
            refine j_draw (.box x3 29 [(.slice x1.2.2.2.2.2.1.A x1.2.2.2.2.2.1.n x1.2.2.2.2.2.1.c), (.slice x1.2.2.2.2.2.2.1.A x1.2.2.2.2.2.2.1.n x1.2.2.2.2.2.2.1.c), (.slice x1.2.2.2.2.2.2.2.1.A x1.2.2.2.2.2.2.2.1.n x1.2.2.2.2.2.2.2.1.c), (.slice x1.2.2.2.2.2.2.2.2.1.A x1.2.2.2.2.2.2.2.2.1.n x1.2.2.2.2.2.2.2.2.1.c), (.slice x1.2.2.2.2.2.2.2.2.2.A x1.2.2.2.2.2.2.2.2.2.n x1.2.2.2.2.2.2.2.2.2.c)] :: .box x2 29 [(.slice x1.1.A x1.1.n x1.1.c), (.slice x1.2.1.A x1.2.1.n x1.2.1.c), (.slice x1.2.2.1.A x1.2.2.1.n x1.2.2.1.c), (.slice x1.2.2.2.1.A x1.2.2.2.1.n x1.2.2.2.1.c), (.slice x1.2.2.2.2.1.A x1.2.2.2.2.1.n x1.2.2.2.2.1.c)] :: .row x1.1.A x1.1.c 3 1 (ii v1) :: .row x1.2.1.A x1.2.1.c 3 1 (ii v2) :: .row x1.2.2.1.A x1.2.2.1.c 3 1 (ii v3) :: .row x1.2.2.2.1.A x1.2.2.2.1.c 3 1 (ii v4) :: .row x1.2.2.2.2.1.A x1.2.2.2.2.1.c 3 1 (ii v5) :: .row x1.2.2.2.2.2.1.A x1.2.2.2.2.2.1.c 3 1 (ii v6) :: .row x1.2.2.2.2.2.2.1.A x1.2.2.2.2.2.2.1.c 3 1 (ii v7) :: .row x1.2.2.2.2.2.2.2.1.A x1.2.2.2.2.2.2.2.1.c 3 1 (ii v8) :: .row x1.2.2.2.2.2.2.2.2.1.A x1.2.2.2.2.2.2.2.2.1.c 3 1 (ii v9) :: .row x1.2.2.2.2.2.2.2.2.2.A x1.2.2.2.2.2.2.2.2.2.c 3 1 (ii v10) :: F) 29 follows_any rfl ?_
            refine d_take 0 rfl (q_move rfl rfl) rfl rfl (by kernel_rfl) (by kernel_rfl) (by kernel_rfl) (fun w h => h) ?_
            refine d_take 1 rfl (q_loadb_agg 1 rfl ag29 sz29 rfl rfl rfl rfl) rfl rfl (by kernel_rfl) (by kernel_rfl) (by kernel_rfl) (fun w h => h) ?_
            refine d_take 2 rfl (q_loadb_agg 0 rfl ag29 sz29 rfl rfl rfl rfl) rfl rfl (by kernel_rfl) (by kernel_rfl) (by kernel_rfl) (fun w h => h) ?_
            refine d_one 3 (by kernel_rfl) ?_
            refine o_do rfl (a_call ok32 rfl rfl rfl rfl (fun w hm => spec_CountedSame.calls K v1 x1.1.A x1.1.n x1.1.c v2 x1.2.1.A x1.2.1.n x1.2.1.c v3 x1.2.2.1.A x1.2.2.1.n x1.2.2.1.c v4 x1.2.2.2.1.A x1.2.2.2.1.n x1.2.2.2.1.c v5 x1.2.2.2.2.1.A x1.2.2.2.2.1.n x1.2.2.2.2.1.c v6 x1.2.2.2.2.2.1.A x1.2.2.2.2.2.1.n x1.2.2.2.2.2.1.c v7 x1.2.2.2.2.2.2.1.A x1.2.2.2.2.2.2.1.n x1.2.2.2.2.2.2.1.c v8 x1.2.2.2.2.2.2.2.1.A x1.2.2.2.2.2.2.2.1.n x1.2.2.2.2.2.2.2.1.c v9 x1.2.2.2.2.2.2.2.2.1.A x1.2.2.2.2.2.2.2.2.1.n x1.2.2.2.2.2.2.2.2.1.c v10 x1.2.2.2.2.2.2.2.2.2.A x1.2.2.2.2.2.2.2.2.2.n x1.2.2.2.2.2.2.2.2.2.c hm x1.1.h (Rd.row 2 rfl) x1.2.1.h (Rd.row 3 rfl) x1.2.2.1.h (Rd.row 4 rfl) x1.2.2.2.1.h (Rd.row 5 rfl) x1.2.2.2.2.1.h (Rd.row 6 rfl) x1.2.2.2.2.2.1.h (Rd.row 7 rfl) x1.2.2.2.2.2.2.1.h (Rd.row 8 rfl) x1.2.2.2.2.2.2.2.1.h (Rd.row 9 rfl) x1.2.2.2.2.2.2.2.2.1.h (Rd.row 10 rfl) x1.2.2.2.2.2.2.2.2.2.h (Rd.row 11 rfl) hb3)) rfl rfl (fun x5 w h => h) (fun x5 => ?_)
            refine d_take 4 rfl (q_beql un4 rfl rfl rfl) rfl rfl (by kernel_rfl) (by kernel_rfl) (by kernel_rfl) (fun w h => h) ?_
            refine d_take 5 rfl (q_move rfl rfl) rfl rfl (by kernel_rfl) (by kernel_rfl) (by kernel_rfl) (fun w h => h) ?_
            refine d_take_on 6 rfl (q_move rfl rfl) rfl rfl rfl rfl (beq_t c2) rfl (by kernel_rfl) (by kernel_rfl) (by kernel_rfl) (fun w h => h) ?_
            refine d_take_on 7 rfl (q_loadb_agg 0 rfl ag29 sz29 rfl rfl rfl rfl) rfl rfl rfl rfl (beq_t c2) rfl (by kernel_rfl) (by kernel_rfl) (by kernel_rfl) (fun w h => h) ?_
            refine d_take_on 8 rfl (q_loadb_agg 1 rfl ag29 sz29 rfl rfl rfl rfl) rfl rfl rfl rfl (beq_t c2) rfl (by kernel_rfl) (by kernel_rfl) (by kernel_rfl) (fun w h => h) ?_
            refine d_one 9 (by kernel_rfl) ?_
            refine o_on rfl (a_call ok18 rfl rfl rfl rfl (fun w hm => impl_CountedSame.calls K v6 x1.2.2.2.2.2.1.A x1.2.2.2.2.2.1.n x1.2.2.2.2.2.1.c v7 x1.2.2.2.2.2.2.1.A x1.2.2.2.2.2.2.1.n x1.2.2.2.2.2.2.1.c v8 x1.2.2.2.2.2.2.2.1.A x1.2.2.2.2.2.2.2.1.n x1.2.2.2.2.2.2.2.1.c v9 x1.2.2.2.2.2.2.2.2.1.A x1.2.2.2.2.2.2.2.2.1.n x1.2.2.2.2.2.2.2.2.1.c v10 x1.2.2.2.2.2.2.2.2.2.A x1.2.2.2.2.2.2.2.2.2.n x1.2.2.2.2.2.2.2.2.2.c v1 x1.1.A x1.1.n x1.1.c v2 x1.2.1.A x1.2.1.n x1.2.1.c v3 x1.2.2.1.A x1.2.2.1.n x1.2.2.1.c v4 x1.2.2.2.1.A x1.2.2.2.1.n x1.2.2.2.1.c v5 x1.2.2.2.2.1.A x1.2.2.2.2.1.n x1.2.2.2.2.1.c hm x1.2.2.2.2.2.1.h (Rd.row 7 rfl) x1.2.2.2.2.2.2.1.h (Rd.row 8 rfl) x1.2.2.2.2.2.2.2.1.h (Rd.row 9 rfl) x1.2.2.2.2.2.2.2.2.1.h (Rd.row 10 rfl) x1.2.2.2.2.2.2.2.2.2.h (Rd.row 11 rfl) x1.1.h (Rd.row 2 rfl) x1.2.1.h (Rd.row 3 rfl) x1.2.2.1.h (Rd.row 4 rfl) x1.2.2.2.1.h (Rd.row 5 rfl) x1.2.2.2.2.1.h (Rd.row 6 rfl) hb4)) rfl rfl rfl rfl (beq_t c2) rfl (fun x6 w h => h) (fun x6 => ?_)
            refine d_take_on 10 rfl (q_beql un4 rfl rfl rfl) rfl rfl rfl rfl (beq_t c2) rfl (by kernel_rfl) (by kernel_rfl) (by kernel_rfl) (fun w h => h) ?_
            refine d_take 11 rfl (q_pick_t rfl rfl (beq_t c2) rfl) rfl rfl (by kernel_rfl) (by kernel_rfl) (by kernel_rfl) (fun w h => h) ?_
            refine d_take 12 rfl (q_move rfl rfl) rfl rfl (by kernel_rfl) (by kernel_rfl) (by kernel_rfl) (fun w h => h) ?_
            refine d_take_on 13 rfl (q_loadb_agg 1 rfl ag29 sz29 rfl rfl rfl rfl) rfl rfl rfl rfl (beq_t c3) rfl (by kernel_rfl) (by kernel_rfl) (by kernel_rfl) (fun w h => h) ?_
            refine d_take_on 14 rfl (q_loadb_agg 1 rfl ag29 sz29 rfl rfl rfl rfl) rfl rfl rfl rfl (beq_t c3) rfl (by kernel_rfl) (by kernel_rfl) (by kernel_rfl) (fun w h => h) ?_
            refine d_one 15 (by kernel_rfl) ?_
            refine o_on rfl (a_call ok18 rfl rfl rfl rfl (fun w hm => impl_CountedSame.calls K v1 x1.1.A x1.1.n x1.1.c v2 x1.2.1.A x1.2.1.n x1.2.1.c v3 x1.2.2.1.A x1.2.2.1.n x1.2.2.1.c v4 x1.2.2.2.1.A x1.2.2.2.1.n x1.2.2.2.1.c v5 x1.2.2.2.2.1.A x1.2.2.2.2.1.n x1.2.2.2.2.1.c v1 x1.1.A x1.1.n x1.1.c v2 x1.2.1.A x1.2.1.n x1.2.1.c v3 x1.2.2.1.A x1.2.2.1.n x1.2.2.1.c v4 x1.2.2.2.1.A x1.2.2.2.1.n x1.2.2.2.1.c v5 x1.2.2.2.2.1.A x1.2.2.2.2.1.n x1.2.2.2.2.1.c hm x1.1.h (Rd.row 2 rfl) x1.2.1.h (Rd.row 3 rfl) x1.2.2.1.h (Rd.row 4 rfl) x1.2.2.2.1.h (Rd.row 5 rfl) x1.2.2.2.2.1.h (Rd.row 6 rfl) x1.1.h (Rd.row 2 rfl) x1.2.1.h (Rd.row 3 rfl) x1.2.2.1.h (Rd.row 4 rfl) x1.2.2.2.1.h (Rd.row 5 rfl) x1.2.2.2.2.1.h (Rd.row 6 rfl) hb5)) rfl rfl rfl rfl (beq_t c3) rfl (fun x7 w h => h) (fun x7 => ?_)
            refine d_take 16 rfl (q_pick_t rfl rfl (beq_t c3) rfl) rfl rfl (by kernel_rfl) (by kernel_rfl) (by kernel_rfl) (fun w h => h) ?_
            refine d_take 17 rfl (q_move rfl rfl) rfl rfl (by kernel_rfl) (by kernel_rfl) (by kernel_rfl) (fun w h => h) ?_
            refine d_take_on 18 rfl (q_move rfl rfl) rfl rfl rfl rfl c4 rfl (by kernel_rfl) (by kernel_rfl) (by kernel_rfl) (fun w h => h) ?_
            refine d_take_on 19 rfl (q_not rfl rfl) rfl rfl rfl rfl c4 rfl (by kernel_rfl) (by kernel_rfl) (by kernel_rfl) (fun w h => h) ?_
            refine d_take_on 20 rfl (q_move rfl rfl) rfl rfl rfl rfl c4 rfl (by kernel_rfl) (by kernel_rfl) (by kernel_rfl) (fun w h => h) ?_
            refine d_take_on 21 rfl (q_loadb_agg 1 rfl ag29 sz29 rfl rfl rfl rfl) rfl rfl rfl rfl (not_f c5) rfl (by kernel_rfl) (by kernel_rfl) (by kernel_rfl) (fun w h => h) ?_
            refine d_take_on 23 rfl (q_loadb_agg 0 rfl ag29 sz29 rfl rfl rfl rfl) rfl rfl rfl rfl (not_f c5) rfl (by kernel_rfl) (by kernel_rfl) (by kernel_rfl) (fun w h => h) ?_
            refine d_one 22 (by kernel_rfl) ?_
            refine o_on rfl (a_call ok22 rfl rfl rfl rfl (fun w hm => impl_CountedValid.calls K v1 x1.1.A x1.1.n x1.1.c v2 x1.2.1.A x1.2.1.n x1.2.1.c v3 x1.2.2.1.A x1.2.2.1.n x1.2.2.1.c v4 x1.2.2.2.1.A x1.2.2.2.1.n x1.2.2.2.1.c v5 x1.2.2.2.2.1.A x1.2.2.2.2.1.n x1.2.2.2.2.1.c hm x1.1.h (Rd.row 2 rfl) x1.2.1.h (Rd.row 3 rfl) x1.2.2.1.h (Rd.row 4 rfl) x1.2.2.2.1.h (Rd.row 5 rfl) (hm.roomI 5 rfl) x1.2.2.2.2.1.h (Rd.row 6 rfl) hb6)) rfl rfl rfl rfl (not_f c5) rfl (fun x8 w h => h) (fun x8 => ?_)
            refine d_one 24 (by kernel_rfl) ?_
            refine o_on rfl (a_call ok22 rfl rfl rfl rfl (fun w hm => impl_CountedValid.calls K v6 x1.2.2.2.2.2.1.A x1.2.2.2.2.2.1.n x1.2.2.2.2.2.1.c v7 x1.2.2.2.2.2.2.1.A x1.2.2.2.2.2.2.1.n x1.2.2.2.2.2.2.1.c v8 x1.2.2.2.2.2.2.2.1.A x1.2.2.2.2.2.2.2.1.n x1.2.2.2.2.2.2.2.1.c v9 x1.2.2.2.2.2.2.2.2.1.A x1.2.2.2.2.2.2.2.2.1.n x1.2.2.2.2.2.2.2.2.1.c v10 x1.2.2.2.2.2.2.2.2.2.A x1.2.2.2.2.2.2.2.2.2.n x1.2.2.2.2.2.2.2.2.2.c hm x1.2.2.2.2.2.1.h (Rd.row 7 rfl) x1.2.2.2.2.2.2.1.h (Rd.row 8 rfl) x1.2.2.2.2.2.2.2.1.h (Rd.row 9 rfl) x1.2.2.2.2.2.2.2.2.1.h (Rd.row 10 rfl) (hm.roomI 10 rfl) x1.2.2.2.2.2.2.2.2.2.h (Rd.row 11 rfl) hb7)) rfl rfl rfl rfl (not_f c5) rfl (fun x9 w h => h) (fun x9 => ?_)
            refine d_take_on 25 rfl (q_beql un4 rfl rfl rfl) rfl rfl rfl rfl (not_f c5) rfl (by kernel_rfl) (by kernel_rfl) (by kernel_rfl) (fun w h => h) ?_
            refine d_take_on 26 rfl (q_pick_f rfl rfl (not_f c5) rfl) rfl rfl rfl rfl c4 rfl (by kernel_rfl) (by kernel_rfl) (by kernel_rfl) (fun w h => h) ?_
            refine d_take 27 rfl (q_pick_t rfl rfl c4 rfl) rfl rfl (by kernel_rfl) (by kernel_rfl) (by kernel_rfl) (fun w h => h) ?_
            refine d_take 28 rfl (q_assign rfl rfl) rfl rfl (by kernel_rfl) (by kernel_rfl) (by kernel_rfl) (fun w h => h) ?_
            refine d_done (by kernel_rfl) ?_
            refine j_then ?_
            refine j_ret ?_
            cases h
            exact j_return rfl (ResOf.tmp rfl ResOf.nil) rfl (fun w h => ⟨(), rfl, (h.drop 12)⟩)
          · refine j_draw (.box x3 29 [(.slice x1.2.2.2.2.2.1.A x1.2.2.2.2.2.1.n x1.2.2.2.2.2.1.c), (.slice x1.2.2.2.2.2.2.1.A x1.2.2.2.2.2.2.1.n x1.2.2.2.2.2.2.1.c), (.slice x1.2.2.2.2.2.2.2.1.A x1.2.2.2.2.2.2.2.1.n x1.2.2.2.2.2.2.2.1.c), (.slice x1.2.2.2.2.2.2.2.2.1.A x1.2.2.2.2.2.2.2.2.1.n x1.2.2.2.2.2.2.2.2.1.c), (.slice x1.2.2.2.2.2.2.2.2.2.A x1.2.2.2.2.2.2.2.2.2.n x1.2.2.2.2.2.2.2.2.2.c)] :: .box x2 29 [(.slice x1.1.A x1.1.n x1.1.c), (.slice x1.2.1.A x1.2.1.n x1.2.1.c), (.slice x1.2.2.1.A x1.2.2.1.n x1.2.2.1.c), (.slice x1.2.2.2.1.A x1.2.2.2.1.n x1.2.2.2.1.c), (.slice x1.2.2.2.2.1.A x1.2.2.2.2.1.n x1.2.2.2.2.1.c)] :: .row x1.1.A x1.1.c 3 1 (ii v1) :: .row x1.2.1.A x1.2.1.c 3 1 (ii v2) :: .row x1.2.2.1.A x1.2.2.1.c 3 1 (ii v3) :: .row x1.2.2.2.1.A x1.2.2.2.1.c 3 1 (ii v4) :: .row x1.2.2.2.2.1.A x1.2.2.2.2.1.c 3 1 (ii v5) :: .row x1.2.2.2.2.2.1.A x1.2.2.2.2.2.1.c 3 1 (ii v6) :: .row x1.2.2.2.2.2.2.1.A x1.2.2.2.2.2.2.1.c 3 1 (ii v7) :: .row x1.2.2.2.2.2.2.2.1.A x1.2.2.2.2.2.2.2.1.c 3 1 (ii v8) :: .row x1.2.2.2.2.2.2.2.2.1.A x1.2.2.2.2.2.2.2.2.1.c 3 1 (ii v9) :: .row x1.2.2.2.2.2.2.2.2.2.A x1.2.2.2.2.2.2.2.2.2.c 3 1 (ii v10) :: F) 29 follows_any rfl ?_
            refine d_take 0 rfl (q_move rfl rfl) rfl rfl (by kernel_rfl) (by kernel_rfl) (by kernel_rfl) (fun w h => h) ?_
            refine d_take 1 rfl (q_loadb_agg 1 rfl ag29 sz29 rfl rfl rfl rfl) rfl rfl (by kernel_rfl) (by kernel_rfl) (by kernel_rfl) (fun w h => h) ?_
            refine d_take 2 rfl (q_loadb_agg 0 rfl ag29 sz29 rfl rfl rfl rfl) rfl rfl (by kernel_rfl) (by kernel_rfl) (by kernel_rfl) (fun w h => h) ?_
            refine d_one 3 (by kernel_rfl) ?_
            refine o_do rfl (a_call ok32 rfl rfl rfl rfl (fun w hm => spec_CountedSame.calls K v1 x1.1.A x1.1.n x1.1.c v2 x1.2.1.A x1.2.1.n x1.2.1.c v3 x1.2.2.1.A x1.2.2.1.n x1.2.2.1.c v4 x1.2.2.2.1.A x1.2.2.2.1.n x1.2.2.2.1.c v5 x1.2.2.2.2.1.A x1.2.2.2.2.1.n x1.2.2.2.2.1.c v6 x1.2.2.2.2.2.1.A x1.2.2.2.2.2.1.n x1.2.2.2.2.2.1.c v7 x1.2.2.2.2.2.2.1.A x1.2.2.2.2.2.2.1.n x1.2.2.2.2.2.2.1.c v8 x1.2.2.2.2.2.2.2.1.A x1.2.2.2.2.2.2.2.1.n x1.2.2.2.2.2.2.2.1.c v9 x1.2.2.2.2.2.2.2.2.1.A x1.2.2.2.2.2.2.2.2.1.n x1.2.2.2.2.2.2.2.2.1.c v10 x1.2.2.2.2.2.2.2.2.2.A x1.2.2.2.2.2.2.2.2.2.n x1.2.2.2.2.2.2.2.2.2.c hm x1.1.h (Rd.row 2 rfl) x1.2.1.h (Rd.row 3 rfl) x1.2.2.1.h (Rd.row 4 rfl) x1.2.2.2.1.h (Rd.row 5 rfl) x1.2.2.2.2.1.h (Rd.row 6 rfl) x1.2.2.2.2.2.1.h (Rd.row 7 rfl) x1.2.2.2.2.2.2.1.h (Rd.row 8 rfl) x1.2.2.2.2.2.2.2.1.h (Rd.row 9 rfl) x1.2.2.2.2.2.2.2.2.1.h (Rd.row 10 rfl) x1.2.2.2.2.2.2.2.2.2.h (Rd.row 11 rfl) hb3)) rfl rfl (fun x5 w h => h) (fun x5 => ?_)
            refine d_take 4 rfl (q_beql un4 rfl rfl rfl) rfl rfl (by kernel_rfl) (by kernel_rfl) (by kernel_rfl) (fun w h => h) ?_
            refine d_take 5 rfl (q_move rfl rfl) rfl rfl (by kernel_rfl) (by kernel_rfl) (by kernel_rfl) (fun w h => h) ?_
            refine d_take_on 6 rfl (q_move rfl rfl) rfl rfl rfl rfl (beq_t c2) rfl (by kernel_rfl) (by kernel_rfl) (by kernel_rfl) (fun w h => h) ?_
            refine d_take_on 7 rfl (q_loadb_agg 0 rfl ag29 sz29 rfl rfl rfl rfl) rfl rfl rfl rfl (beq_t c2) rfl (by kernel_rfl) (by kernel_rfl) (by kernel_rfl) (fun w h => h) ?_
            refine d_take_on 8 rfl (q_loadb_agg 1 rfl ag29 sz29 rfl rfl rfl rfl) rfl rfl rfl rfl (beq_t c2) rfl (by kernel_rfl) (by kernel_rfl) (by kernel_rfl) (fun w h => h) ?_
            refine d_one 9 (by kernel_rfl) ?_
            refine o_on rfl (a_call ok18 rfl rfl rfl rfl (fun w hm => impl_CountedSame.calls K v6 x1.2.2.2.2.2.1.A x1.2.2.2.2.2.1.n x1.2.2.2.2.2.1.c v7 x1.2.2.2.2.2.2.1.A x1.2.2.2.2.2.2.1.n x1.2.2.2.2.2.2.1.c v8 x1.2.2.2.2.2.2.2.1.A x1.2.2.2.2.2.2.2.1.n x1.2.2.2.2.2.2.2.1.c v9 x1.2.2.2.2.2.2.2.2.1.A x1.2.2.2.2.2.2.2.2.1.n x1.2.2.2.2.2.2.2.2.1.c v10 x1.2.2.2.2.2.2.2.2.2.A x1.2.2.2.2.2.2.2.2.2.n x1.2.2.2.2.2.2.2.2.2.c v1 x1.1.A x1.1.n x1.1.c v2 x1.2.1.A x1.2.1.n x1.2.1.c v3 x1.2.2.1.A x1.2.2.1.n x1.2.2.1.c v4 x1.2.2.2.1.A x1.2.2.2.1.n x1.2.2.2.1.c v5 x1.2.2.2.2.1.A x1.2.2.2.2.1.n x1.2.2.2.2.1.c hm x1.2.2.2.2.2.1.h (Rd.row 7 rfl) x1.2.2.2.2.2.2.1.h (Rd.row 8 rfl) x1.2.2.2.2.2.2.2.1.h (Rd.row 9 rfl) x1.2.2.2.2.2.2.2.2.1.h (Rd.row 10 rfl) x1.2.2.2.2.2.2.2.2.2.h (Rd.row 11 rfl) x1.1.h (Rd.row 2 rfl) x1.2.1.h (Rd.row 3 rfl) x1.2.2.1.h (Rd.row 4 rfl) x1.2.2.2.1.h (Rd.row 5 rfl) x1.2.2.2.2.1.h (Rd.row 6 rfl) hb4)) rfl rfl rfl rfl (beq_t c2) rfl (fun x6 w h => h) (fun x6 => ?_)
            refine d_take_on 10 rfl (q_beql un4 rfl rfl rfl) rfl rfl rfl rfl (beq_t c2) rfl (by kernel_rfl) (by kernel_rfl) (by kernel_rfl) (fun w h => h) ?_
            refine d_take 11 rfl (q_pick_t rfl rfl (beq_t c2) rfl) rfl rfl (by kernel_rfl) (by kernel_rfl) (by kernel_rfl) (fun w h => h) ?_
            refine d_take 12 rfl (q_move rfl rfl) rfl rfl (by kernel_rfl) (by kernel_rfl) (by kernel_rfl) (fun w h => h) ?_
            refine d_take_on 13 rfl (q_loadb_agg 1 rfl ag29 sz29 rfl rfl rfl rfl) rfl rfl rfl rfl (beq_t c3) rfl (by kernel_rfl) (by kernel_rfl) (by kernel_rfl) (fun w h => h) ?_
            refine d_take_on 14 rfl (q_loadb_agg 1 rfl ag29 sz29 rfl rfl rfl rfl) rfl rfl rfl rfl (beq_t c3) rfl (by kernel_rfl) (by kernel_rfl) (by kernel_rfl) (fun w h => h) ?_
            refine d_one 15 (by kernel_rfl) ?_
            refine o_on rfl (a_call ok18 rfl rfl rfl rfl (fun w hm => impl_CountedSame.calls K v1 x1.1.A x1.1.n x1.1.c v2 x1.2.1.A x1.2.1.n x1.2.1.c v3 x1.2.2.1.A x1.2.2.1.n x1.2.2.1.c v4 x1.2.2.2.1.A x1.2.2.2.1.n x1.2.2.2.1.c v5 x1.2.2.2.2.1.A x1.2.2.2.2.1.n x1.2.2.2.2.1.c v1 x1.1.A x1.1.n x1.1.c v2 x1.2.1.A x1.2.1.n x1.2.1.c v3 x1.2.2.1.A x1.2.2.1.n x1.2.2.1.c v4 x1.2.2.2.1.A x1.2.2.2.1.n x1.2.2.2.1.c v5 x1.2.2.2.2.1.A x1.2.2.2.2.1.n x1.2.2.2.2.1.c hm x1.1.h (Rd.row 2 rfl) x1.2.1.h (Rd.row 3 rfl) x1.2.2.1.h (Rd.row 4 rfl) x1.2.2.2.1.h (Rd.row 5 rfl) x1.2.2.2.2.1.h (Rd.row 6 rfl) x1.1.h (Rd.row 2 rfl) x1.2.1.h (Rd.row 3 rfl) x1.2.2.1.h (Rd.row 4 rfl) x1.2.2.2.1.h (Rd.row 5 rfl) x1.2.2.2.2.1.h (Rd.row 6 rfl) hb5)) rfl rfl rfl rfl (beq_t c3) rfl (fun x7 w h => h) (fun x7 => ?_)
            refine d_take 16 rfl (q_pick_t rfl rfl (beq_t c3) rfl) rfl rfl (by kernel_rfl) (by kernel_rfl) (by kernel_rfl) (fun w h => h) ?_
            refine d_take 17 rfl (q_move rfl rfl) rfl rfl (by kernel_rfl) (by kernel_rfl) (by kernel_rfl) (fun w h => h) ?_
            refine d_take_on 18 rfl (q_move rfl rfl) rfl rfl rfl rfl c4 rfl (by kernel_rfl) (by kernel_rfl) (by kernel_rfl) (fun w h => h) ?_
            refine d_take_on 19 rfl (q_not rfl rfl) rfl rfl rfl rfl c4 rfl (by kernel_rfl) (by kernel_rfl) (by kernel_rfl) (fun w h => h) ?_
            refine d_take_on 20 rfl (q_move rfl rfl) rfl rfl rfl rfl c4 rfl (by kernel_rfl) (by kernel_rfl) (by kernel_rfl) (fun w h => h) ?_
            refine d_take_off 21 rfl rfl rfl rfl rfl (not_t (var_f c5)) rfl (by kernel_rfl) (by kernel_rfl) (by kernel_rfl) (fun w h => h) ?_
            refine d_take_off 22 rfl rfl rfl rfl rfl (not_t (var_f c5)) rfl (by kernel_rfl) (by kernel_rfl) (by kernel_rfl) (fun w h => h) ?_
            refine d_take_off 23 rfl rfl rfl rfl rfl (not_t (var_f c5)) rfl (by kernel_rfl) (by kernel_rfl) (by kernel_rfl) (fun w h => h) ?_
            refine d_take_off 24 rfl rfl rfl rfl rfl (not_t (var_f c5)) rfl (by kernel_rfl) (by kernel_rfl) (by kernel_rfl) (fun w h => h) ?_
            refine d_take_off 25 rfl rfl rfl rfl rfl (not_t (var_f c5)) rfl (by kernel_rfl) (by kernel_rfl) (by kernel_rfl) (fun w h => h) ?_
            refine d_take_on 26 rfl (q_pick_t rfl rfl (not_t (var_f c5)) rfl) rfl rfl rfl rfl c4 rfl (by kernel_rfl) (by kernel_rfl) (by kernel_rfl) (fun w h => h) ?_
            refine d_take 27 rfl (q_pick_t rfl rfl c4 rfl) rfl rfl (by kernel_rfl) (by kernel_rfl) (by kernel_rfl) (fun w h => h) ?_
            refine d_take 28 rfl (q_assign rfl rfl) rfl rfl (by kernel_rfl) (by kernel_rfl) (by kernel_rfl) (fun w h => h) ?_
            refine d_done (by kernel_rfl) ?_
            refine j_then ?_
            refine j_ret ?_
            cases h
            exact j_return rfl (ResOf.tmp rfl ResOf.nil) rfl (fun w h => ⟨(), rfl, (h.drop 12)⟩)
        · refine j_draw (.box x3 29 [(.slice x1.2.2.2.2.2.1.A x1.2.2.2.2.2.1.n x1.2.2.2.2.2.1.c), (.slice x1.2.2.2.2.2.2.1.A x1.2.2.2.2.2.2.1.n x1.2.2.2.2.2.2.1.c), (.slice x1.2.2.2.2.2.2.2.1.A x1.2.2.2.2.2.2.2.1.n x1.2.2.2.2.2.2.2.1.c), (.slice x1.2.2.2.2.2.2.2.2.1.A x1.2.2.2.2.2.2.2.2.1.n x1.2.2.2.2.2.2.2.2.1.c), (.slice x1.2.2.2.2.2.2.2.2.2.A x1.2.2.2.2.2.2.2.2.2.n x1.2.2.2.2.2.2.2.2.2.c)] :: .box x2 29 [(.slice x1.1.A x1.1.n x1.1.c), (.slice x1.2.1.A x1.2.1.n x1.2.1.c), (.slice x1.2.2.1.A x1.2.2.1.n x1.2.2.1.c), (.slice x1.2.2.2.1.A x1.2.2.2.1.n x1.2.2.2.1.c), (.slice x1.2.2.2.2.1.A x1.2.2.2.2.1.n x1.2.2.2.2.1.c)] :: .row x1.1.A x1.1.c 3 1 (ii v1) :: .row x1.2.1.A x1.2.1.c 3 1 (ii v2) :: .row x1.2.2.1.A x1.2.2.1.c 3 1 (ii v3) :: .row x1.2.2.2.1.A x1.2.2.2.1.c 3 1 (ii v4) :: .row x1.2.2.2.2.1.A x1.2.2.2.2.1.c 3 1 (ii v5) :: .row x1.2.2.2.2.2.1.A x1.2.2.2.2.2.1.c 3 1 (ii v6) :: .row x1.2.2.2.2.2.2.1.A x1.2.2.2.2.2.2.1.c 3 1 (ii v7) :: .row x1.2.2.2.2.2.2.2.1.A x1.2.2.2.2.2.2.2.1.c 3 1 (ii v8) :: .row x1.2.2.2.2.2.2.2.2.1.A x1.2.2.2.2.2.2.2.2.1.c 3 1 (ii v9) :: .row x1.2.2.2.2.2.2.2.2.2.A x1.2.2.2.2.2.2.2.2.2.c 3 1 (ii v10) :: F) 29 follows_any rfl ?_
          refine d_take 0 rfl (q_move rfl rfl) rfl rfl (by kernel_rfl) (by kernel_rfl) (by kernel_rfl) (fun w h => h) ?_
          refine d_take 1 rfl (q_loadb_agg 1 rfl ag29 sz29 rfl rfl rfl rfl) rfl rfl (by kernel_rfl) (by kernel_rfl) (by kernel_rfl) (fun w h => h) ?_
          refine d_take 2 rfl (q_loadb_agg 0 rfl ag29 sz29 rfl rfl rfl rfl) rfl rfl (by kernel_rfl) (by kernel_rfl) (by kernel_rfl) (fun w h => h) ?_
          refine d_one 3 (by kernel_rfl) ?_
          refine o_do rfl (a_call ok32 rfl rfl rfl rfl (fun w hm => spec_CountedSame.calls K v1 x1.1.A x1.1.n x1.1.c v2 x1.2.1.A x1.2.1.n x1.2.1.c v3 x1.2.2.1.A x1.2.2.1.n x1.2.2.1.c v4 x1.2.2.2.1.A x1.2.2.2.1.n x1.2.2.2.1.c v5 x1.2.2.2.2.1.A x1.2.2.2.2.1.n x1.2.2.2.2.1.c v6 x1.2.2.2.2.2.1.A x1.2.2.2.2.2.1.n x1.2.2.2.2.2.1.c v7 x1.2.2.2.2.2.2.1.A x1.2.2.2.2.2.2.1.n x1.2.2.2.2.2.2.1.c v8 x1.2.2.2.2.2.2.2.1.A x1.2.2.2.2.2.2.2.1.n x1.2.2.2.2.2.2.2.1.c v9 x1.2.2.2.2.2.2.2.2.1.A x1.2.2.2.2.2.2.2.2.1.n x1.2.2.2.2.2.2.2.2.1.c v10 x1.2.2.2.2.2.2.2.2.2.A x1.2.2.2.2.2.2.2.2.2.n x1.2.2.2.2.2.2.2.2.2.c hm x1.1.h (Rd.row 2 rfl) x1.2.1.h (Rd.row 3 rfl) x1.2.2.1.h (Rd.row 4 rfl) x1.2.2.2.1.h (Rd.row 5 rfl) x1.2.2.2.2.1.h (Rd.row 6 rfl) x1.2.2.2.2.2.1.h (Rd.row 7 rfl) x1.2.2.2.2.2.2.1.h (Rd.row 8 rfl) x1.2.2.2.2.2.2.2.1.h (Rd.row 9 rfl) x1.2.2.2.2.2.2.2.2.1.h (Rd.row 10 rfl) x1.2.2.2.2.2.2.2.2.2.h (Rd.row 11 rfl) hb3)) rfl rfl (fun x5 w h => h) (fun x5 => ?_)
          refine d_take 4 rfl (q_beql un4 rfl rfl rfl) rfl rfl (by kernel_rfl) (by kernel_rfl) (by kernel_rfl) (fun w h => h) ?_
          refine d_take 5 rfl (q_move rfl rfl) rfl rfl (by kernel_rfl) (by kernel_rfl) (by kernel_rfl) (fun w h => h) ?_
          refine d_take_on 6 rfl (q_move rfl rfl) rfl rfl rfl rfl (beq_t c2) rfl (by kernel_rfl) (by kernel_rfl) (by kernel_rfl) (fun w h => h) ?_
          refine d_take_on 7 rfl (q_loadb_agg 0 rfl ag29 sz29 rfl rfl rfl rfl) rfl rfl rfl rfl (beq_t c2) rfl (by kernel_rfl) (by kernel_rfl) (by kernel_rfl) (fun w h => h) ?_
          refine d_take_on 8 rfl (q_loadb_agg 1 rfl ag29 sz29 rfl rfl rfl rfl) rfl rfl rfl rfl (beq_t c2) rfl (by kernel_rfl) (by kernel_rfl) (by kernel_rfl) (fun w h => h) ?_
          refine d_one 9 (by kernel_rfl) ?_
          refine o_on rfl (a_call ok18 rfl rfl rfl rfl (fun w hm => impl_CountedSame.calls K v6 x1.2.2.2.2.2.1.A x1.2.2.2.2.2.1.n x1.2.2.2.2.2.1.c v7 x1.2.2.2.2.2.2.1.A x1.2.2.2.2.2.2.1.n x1.2.2.2.2.2.2.1.c v8 x1.2.2.2.2.2.2.2.1.A x1.2.2.2.2.2.2.2.1.n x1.2.2.2.2.2.2.2.1.c v9 x1.2.2.2.2.2.2.2.2.1.A x1.2.2.2.2.2.2.2.2.1.n x1.2.2.2.2.2.2.2.2.1.c v10 x1.2.2.2.2.2.2.2.2.2.A x1.2.2.2.2.2.2.2.2.2.n x1.2.2.2.2.2.2.2.2.2.c v1 x1.1.A x1.1.n x1.1.c v2 x1.2.1.A x1.2.1.n x1.2.1.c v3 x1.2.2.1.A x1.2.2.1.n x1.2.2.1.c v4 x1.2.2.2.1.A x1.2.2.2.1.n x1.2.2.2.1.c v5 x1.2.2.2.2.1.A x1.2.2.2.2.1.n x1.2.2.2.2.1.c hm x1.2.2.2.2.2.1.h (Rd.row 7 rfl) x1.2.2.2.2.2.2.1.h (Rd.row 8 rfl) x1.2.2.2.2.2.2.2.1.h (Rd.row 9 rfl) x1.2.2.2.2.2.2.2.2.1.h (Rd.row 10 rfl) x1.2.2.2.2.2.2.2.2.2.h (Rd.row 11 rfl) x1.1.h (Rd.row 2 rfl) x1.2.1.h (Rd.row 3 rfl) x1.2.2.1.h (Rd.row 4 rfl) x1.2.2.2.1.h (Rd.row 5 rfl) x1.2.2.2.2.1.h (Rd.row 6 rfl) hb4)) rfl rfl rfl rfl (beq_t c2) rfl (fun x6 w h => h) (fun x6 => ?_)
          refine d_take_on 10 rfl (q_beql un4 rfl rfl rfl) rfl rfl rfl rfl (beq_t c2) rfl (by kernel_rfl) (by kernel_rfl) (by kernel_rfl) (fun w h => h) ?_
          refine d_take 11 rfl (q_pick_t rfl rfl (beq_t c2) rfl) rfl rfl (by kernel_rfl) (by kernel_rfl) (by kernel_rfl) (fun w h => h) ?_
          refine d_take 12 rfl (q_move rfl rfl) rfl rfl (by kernel_rfl) (by kernel_rfl) (by kernel_rfl) (fun w h => h) ?_
          refine d_take_on 13 rfl (q_loadb_agg 1 rfl ag29 sz29 rfl rfl rfl rfl) rfl rfl rfl rfl (beq_t c3) rfl (by kernel_rfl) (by kernel_rfl) (by kernel_rfl) (fun w h => h) ?_
          refine d_take_on 14 rfl (q_loadb_agg 1 rfl ag29 sz29 rfl rfl rfl rfl) rfl rfl rfl rfl (beq_t c3) rfl (by kernel_rfl) (by kernel_rfl) (by kernel_rfl) (fun w h => h) ?_
          refine d_one 15 (by kernel_rfl) ?_
          refine o_on rfl (a_call ok18 rfl rfl rfl rfl (fun w hm => impl_CountedSame.calls K v1 x1.1.A x1.1.n x1.1.c v2 x1.2.1.A x1.2.1.n x1.2.1.c v3 x1.2.2.1.A x1.2.2.1.n x1.2.2.1.c v4 x1.2.2.2.1.A x1.2.2.2.1.n x1.2.2.2.1.c v5 x1.2.2.2.2.1.A x1.2.2.2.2.1.n x1.2.2.2.2.1.c v1 x1.1.A x1.1.n x1.1.c v2 x1.2.1.A x1.2.1.n x1.2.1.c v3 x1.2.2.1.A x1.2.2.1.n x1.2.2.1.c v4 x1.2.2.2.1.A x1.2.2.2.1.n x1.2.2.2.1.c v5 x1.2.2.2.2.1.A x1.2.2.2.2.1.n x1.2.2.2.2.1.c hm x1.1.h (Rd.row 2 rfl) x1.2.1.h (Rd.row 3 rfl) x1.2.2.1.h (Rd.row 4 rfl) x1.2.2.2.1.h (Rd.row 5 rfl) x1.2.2.2.2.1.h (Rd.row 6 rfl) x1.1.h (Rd.row 2 rfl) x1.2.1.h (Rd.row 3 rfl) x1.2.2.1.h (Rd.row 4 rfl) x1.2.2.2.1.h (Rd.row 5 rfl) x1.2.2.2.2.1.h (Rd.row 6 rfl) hb5)) rfl rfl rfl rfl (beq_t c3) rfl (fun x7 w h => h) (fun x7 => ?_)
          refine d_take 16 rfl (q_pick_t rfl rfl (beq_t c3) rfl) rfl rfl (by kernel_rfl) (by kernel_rfl) (by kernel_rfl) (fun w h => h) ?_
          refine d_take 17 rfl (q_move rfl rfl) rfl rfl (by kernel_rfl) (by kernel_rfl) (by kernel_rfl) (fun w h => h) ?_
          refine d_take_off 18 rfl rfl rfl rfl rfl (var_f c4) rfl (by kernel_rfl) (by kernel_rfl) (by kernel_rfl) (fun w h => h) ?_
          refine d_take_off 19 rfl rfl rfl rfl rfl (var_f c4) rfl (by kernel_rfl) (by kernel_rfl) (by kernel_rfl) (fun w h => h) ?_
          refine d_take_off 20 rfl rfl rfl rfl rfl (var_f c4) rfl (by kernel_rfl) (by kernel_rfl) (by kernel_rfl) (fun w h => h) ?_
          refine d_take_offu 21 rfl rfl rfl rfl rfl rfl (by kernel_rfl) (by kernel_rfl) (by kernel_rfl) (fun w h => h) ?_
          refine d_take_offu 22 rfl rfl rfl rfl rfl rfl (by kernel_rfl) (by kernel_rfl) (by kernel_rfl) (fun w h => h) ?_
          refine d_take_offu 23 rfl rfl rfl rfl rfl rfl (by kernel_rfl) (by kernel_rfl) (by kernel_rfl) (fun w h => h) ?_
          refine d_take_offu 24 rfl rfl rfl rfl rfl rfl (by kernel_rfl) (by kernel_rfl) (by kernel_rfl) (fun w h => h) ?_
          refine d_take_offu 25 rfl rfl rfl rfl rfl rfl (by kernel_rfl) (by kernel_rfl) (by kernel_rfl) (fun w h => h) ?_
          refine d_take_off 26 rfl rfl rfl rfl rfl (var_f c4) rfl (by kernel_rfl) (by kernel_rfl) (by kernel_rfl) (fun w h => h) ?_
          refine d_take 27 rfl (q_pick_f rfl rfl (var_f c4) rfl) rfl rfl (by kernel_rfl) (by kernel_rfl) (by kernel_rfl) (fun w h => h) ?_
          refine d_take 28 rfl (q_assign rfl rfl) rfl rfl (by kernel_rfl) (by kernel_rfl) (by kernel_rfl) (fun w h => h) ?_
          refine d_done (by kernel_rfl) ?_
          refine j_then ?_
          refine j_ret ?_
          cases h
          exact j_return rfl (ResOf.tmp rfl ResOf.nil) rfl (fun w h => ⟨(), rfl, (h.drop 12)⟩)
      · refine j_draw (.box x3 29 [(.slice x1.2.2.2.2.2.1.A x1.2.2.2.2.2.1.n x1.2.2.2.2.2.1.c), (.slice x1.2.2.2.2.2.2.1.A x1.2.2.2.2.2.2.1.n x1.2.2.2.2.2.2.1.c), (.slice x1.2.2.2.2.2.2.2.1.A x1.2.2.2.2.2.2.2.1.n x1.2.2.2.2.2.2.2.1.c), (.slice x1.2.2.2.2.2.2.2.2.1.A x1.2.2.2.2.2.2.2.2.1.n x1.2.2.2.2.2.2.2.2.1.c), (.slice x1.2.2.2.2.2.2.2.2.2.A x1.2.2.2.2.2.2.2.2.2.n x1.2.2.2.2.2.2.2.2.2.c)] :: .box x2 29 [(.slice x1.1.A x1.1.n x1.1.c), (.slice x1.2.1.A x1.2.1.n x1.2.1.c), (.slice x1.2.2.1.A x1.2.2.1.n x1.2.2.1.c), (.slice x1.2.2.2.1.A x1.2.2.2.1.n x1.2.2.2.1.c), (.slice x1.2.2.2.2.1.A x1.2.2.2.2.1.n x1.2.2.2.2.1.c)] :: .row x1.1.A x1.1.c 3 1 (ii v1) :: .row x1.2.1.A x1.2.1.c 3 1 (ii v2) :: .row x1.2.2.1.A x1.2.2.1.c 3 1 (ii v3) :: .row x1.2.2.2.1.A x1.2.2.2.1.c 3 1 (ii v4) :: .row x1.2.2.2.2.1.A x1.2.2.2.2.1.c 3 1 (ii v5) :: .row x1.2.2.2.2.2.1.A x1.2.2.2.2.2.1.c 3 1 (ii v6) :: .row x1.2.2.2.2.2.2.1.A x1.2.2.2.2.2.2.1.c 3 1 (ii v7) :: .row x1.2.2.2.2.2.2.2.1.A x1.2.2.2.2.2.2.2.1.c 3 1 (ii v8) :: .row x1.2.2.2.2.2.2.2.2.1.A x1.2.2.2.2.2.2.2.2.1.c 3 1 (ii v9) :: .row x1.2.2.2.2.2.2.2.2.2.A x1.2.2.2.2.2.2.2.2.2.c 3 1 (ii v10) :: F) 29 follows_any rfl ?_
        refine d_take 0 rfl (q_move rfl rfl) rfl rfl (by kernel_rfl) (by kernel_rfl) (by kernel_rfl) (fun w h => h) ?_
        refine d_take 1 rfl (q_loadb_agg 1 rfl ag29 sz29 rfl rfl rfl rfl) rfl rfl (by kernel_rfl) (by kernel_rfl) (by kernel_rfl) (fun w h => h) ?_
        refine d_take 2 rfl (q_loadb_agg 0 rfl ag29 sz29 rfl rfl rfl rfl) rfl rfl (by kernel_rfl) (by kernel_rfl) (by kernel_rfl) (fun w h => h) ?_
        refine d_one 3 (by kernel_rfl) ?_
        refine o_do rfl (a_call ok32 rfl rfl rfl rfl (fun w hm => spec_CountedSame.calls K v1 x1.1.A x1.1.n x1.1.c v2 x1.2.1.A x1.2.1.n x1.2.1.c v3 x1.2.2.1.A x1.2.2.1.n x1.2.2.1.c v4 x1.2.2.2.1.A x1.2.2.2.1.n x1.2.2.2.1.c v5 x1.2.2.2.2.1.A x1.2.2.2.2.1.n x1.2.2.2.2.1.c v6 x1.2.2.2.2.2.1.A x1.2.2.2.2.2.1.n x1.2.2.2.2.2.1.c v7 x1.2.2.2.2.2.2.1.A x1.2.2.2.2.2.2.1.n x1.2.2.2.2.2.2.1.c v8 x1.2.2.2.2.2.2.2.1.A x1.2.2.2.2.2.2.2.1.n x1.2.2.2.2.2.2.2.1.c v9 x1.2.2.2.2.2.2.2.2.1.A x1.2.2.2.2.2.2.2.2.1.n x1.2.2.2.2.2.2.2.2.1.c v10 x1.2.2.2.2.2.2.2.2.2.A x1.2.2.2.2.2.2.2.2.2.n x1.2.2.2.2.2.2.2.2.2.c hm x1.1.h (Rd.row 2 rfl) x1.2.1.h (Rd.row 3 rfl) x1.2.2.1.h (Rd.row 4 rfl) x1.2.2.2.1.h (Rd.row 5 rfl) x1.2.2.2.2.1.h (Rd.row 6 rfl) x1.2.2.2.2.2.1.h (Rd.row 7 rfl) x1.2.2.2.2.2.2.1.h (Rd.row 8 rfl) x1.2.2.2.2.2.2.2.1.h (Rd.row 9 rfl) x1.2.2.2.2.2.2.2.2.1.h (Rd.row 10 rfl) x1.2.2.2.2.2.2.2.2.2.h (Rd.row 11 rfl) hb3)) rfl rfl (fun x5 w h => h) (fun x5 => ?_)
        refine d_take 4 rfl (q_beql un4 rfl rfl rfl) rfl rfl (by kernel_rfl) (by kernel_rfl) (by kernel_rfl) (fun w h => h) ?_
        refine d_take 5 rfl (q_move rfl rfl) rfl rfl (by kernel_rfl) (by kernel_rfl) (by kernel_rfl) (fun w h => h) ?_
        refine d_take_on 6 rfl (q_move rfl rfl) rfl rfl rfl rfl (beq_t c2) rfl (by kernel_rfl) (by kernel_rfl) (by kernel_rfl) (fun w h => h) ?_
        refine d_take_on 7 rfl (q_loadb_agg 0 rfl ag29 sz29 rfl rfl rfl rfl) rfl rfl rfl rfl (beq_t c2) rfl (by kernel_rfl) (by kernel_rfl) (by kernel_rfl) (fun w h => h) ?_
        refine d_take_on 8 rfl (q_loadb_agg 1 rfl ag29 sz29 rfl rfl rfl rfl) rfl rfl rfl rfl (beq_t c2) rfl (by kernel_rfl) (by kernel_rfl) (by kernel_rfl) (fun w h => h) ?_
        refine d_one 9 (by kernel_rfl) ?_
        refine o_on rfl (a_call ok18 rfl rfl rfl rfl (fun w hm => impl_CountedSame.calls K v6 x1.2.2.2.2.2.1.A x1.2.2.2.2.2.1.n x1.2.2.2.2.2.1.c v7 x1.2.2.2.2.2.2.1.A x1.2.2.2.2.2.2.1.n x1.2.2.2.2.2.2.1.c v8 x1.2.2.2.2.2.2.2.1.A x1.2.2.2.2.2.2.2.1.n x1.2.2.2.2.2.2.2.1.c v9 x1.2.2.2.2.2.2.2.2.1.A x1.2.2.2.2.2.2.2.2.1.n x1.2.2.2.2.2.2.2.2.1.c v10 x1.2.2.2.2.2.2.2.2.2.A x1.2.2.2.2.2.2.2.2.2.n x1.2.2.2.2.2.2.2.2.2.c v1 x1.1.A x1.1.n x1.1.c v2 x1.2.1.A x1.2.1.n x1.2.1.c v3 x1.2.2.1.A x1.2.2.1.n x1.2.2.1.c v4 x1.2.2.2.1.A x1.2.2.2.1.n x1.2.2.2.1.c v5 x1.2.2.2.2.1.A x1.2.2.2.2.1.n x1.2.2.2.2.1.c hm x1.2.2.2.2.2.1.h (Rd.row 7 rfl) x1.2.2.2.2.2.2.1.h (Rd.row 8 rfl) x1.2.2.2.2.2.2.2.1.h (Rd.row 9 rfl) x1.2.2.2.2.2.2.2.2.1.h (Rd.row 10 rfl) x1.2.2.2.2.2.2.2.2.2.h (Rd.row 11 rfl) x1.1.h (Rd.row 2 rfl) x1.2.1.h (Rd.row 3 rfl) x1.2.2.1.h (Rd.row 4 rfl) x1.2.2.2.1.h (Rd.row 5 rfl) x1.2.2.2.2.1.h (Rd.row 6 rfl) hb4)) rfl rfl rfl rfl (beq_t c2) rfl (fun x6 w h => h) (fun x6 => ?_)
        refine d_take_on 10 rfl (q_beql un4 rfl rfl rfl) rfl rfl rfl rfl (beq_t c2) rfl (by kernel_rfl) (by kernel_rfl) (by kernel_rfl) (fun w h => h) ?_
        refine d_take 11 rfl (q_pick_t rfl rfl (beq_t c2) rfl) rfl rfl (by kernel_rfl) (by kernel_rfl) (by kernel_rfl) (fun w h => h) ?_
        refine d_take 12 rfl (q_move rfl rfl) rfl rfl (by kernel_rfl) (by kernel_rfl) (by kernel_rfl) (fun w h => h) ?_
        refine d_take_off 13 rfl rfl rfl rfl rfl (beq_f c3) rfl (by kernel_rfl) (by kernel_rfl) (by kernel_rfl) (fun w h => h) ?_
        refine d_take_off 14 rfl rfl rfl rfl rfl (beq_f c3) rfl (by kernel_rfl) (by kernel_rfl) (by kernel_rfl) (fun w h => h) ?_
        refine d_take_off 15 rfl rfl rfl rfl rfl (beq_f c3) rfl (by kernel_rfl) (by kernel_rfl) (by kernel_rfl) (fun w h => h) ?_
        refine d_take 16 rfl (q_pick_f rfl rfl (beq_f c3) rfl) rfl rfl (by kernel_rfl) (by kernel_rfl) (by kernel_rfl) (fun w h => h) ?_
        refine d_take 17 rfl (q_move rfl rfl) rfl rfl (by kernel_rfl) (by kernel_rfl) (by kernel_rfl) (fun w h => h) ?_
        refine d_take_off 18 rfl rfl rfl rfl rfl rfl rfl (by kernel_rfl) (by kernel_rfl) (by kernel_rfl) (fun w h => h) ?_
        refine d_take_off 19 rfl rfl rfl rfl rfl rfl rfl (by kernel_rfl) (by kernel_rfl) (by kernel_rfl) (fun w h => h) ?_
        refine d_take_off 20 rfl rfl rfl rfl rfl rfl rfl (by kernel_rfl) (by kernel_rfl) (by kernel_rfl) (fun w h => h) ?_
        refine d_take_offu 21 rfl rfl rfl rfl rfl rfl (by kernel_rfl) (by kernel_rfl) (by kernel_rfl) (fun w h => h) ?_
        refine d_take_offu 22 rfl rfl rfl rfl rfl rfl (by kernel_rfl) (by kernel_rfl) (by kernel_rfl) (fun w h => h) ?_
        refine d_take_offu 23 rfl rfl rfl rfl rfl rfl (by kernel_rfl) (by kernel_rfl) (by kernel_rfl) (fun w h => h) ?_
        refine d_take_offu 24 rfl rfl rfl rfl rfl rfl (by kernel_rfl) (by kernel_rfl) (by kernel_rfl) (fun w h => h) ?_
        refine d_take_offu 25 rfl rfl rfl rfl rfl rfl (by kernel_rfl) (by kernel_rfl) (by kernel_rfl) (fun w h => h) ?_
        refine d_take_off 26 rfl rfl rfl rfl rfl rfl rfl (by kernel_rfl) (by kernel_rfl) (by kernel_rfl) (fun w h => h) ?_
        refine d_take 27 rfl (q_pick_f rfl rfl rfl rfl) rfl rfl (by kernel_rfl) (by kernel_rfl) (by kernel_rfl) (fun w h => h) ?_
        refine d_take 28 rfl (q_assign rfl rfl) rfl rfl (by kernel_rfl) (by kernel_rfl) (by kernel_rfl) (fun w h => h) ?_
        refine d_done (by kernel_rfl) ?_
        refine j_then ?_
        refine j_ret ?_
        cases h
        exact j_return rfl (ResOf.tmp rfl ResOf.nil) rfl (fun w h => ⟨(), rfl, (h.drop 12)⟩)
    · refine j_draw (.box x3 29 [(.slice x1.2.2.2.2.2.1.A x1.2.2.2.2.2.1.n x1.2.2.2.2.2.1.c), (.slice x1.2.2.2.2.2.2.1.A x1.2.2.2.2.2.2.1.n x1.2.2.2.2.2.2.1.c), (.slice x1.2.2.2.2.2.2.2.1.A x1.2.2.2.2.2.2.2.1.n x1.2.2.2.2.2.2.2.1.c), (.slice x1.2.2.2.2.2.2.2.2.1.A x1.2.2.2.2.2.2.2.2.1.n x1.2.2.2.2.2.2.2.2.1.c), (.slice x1.2.2.2.2.2.2.2.2.2.A x1.2.2.2.2.2.2.2.2.2.n x1.2.2.2.2.2.2.2.2.2.c)] :: .box x2 29 [(.slice x1.1.A x1.1.n x1.1.c), (.slice x1.2.1.A x1.2.1.n x1.2.1.c), (.slice x1.2.2.1.A x1.2.2.1.n x1.2.2.1.c), (.slice x1.2.2.2.1.A x1.2.2.2.1.n x1.2.2.2.1.c), (.slice x1.2.2.2.2.1.A x1.2.2.2.2.1.n x1.2.2.2.2.1.c)] :: .row x1.1.A x1.1.c 3 1 (ii v1) :: .row x1.2.1.A x1.2.1.c 3 1 (ii v2) :: .row x1.2.2.1.A x1.2.2.1.c 3 1 (ii v3) :: .row x1.2.2.2.1.A x1.2.2.2.1.c 3 1 (ii v4) :: .row x1.2.2.2.2.1.A x1.2.2.2.2.1.c 3 1 (ii v5) :: .row x1.2.2.2.2.2.1.A x1.2.2.2.2.2.1.c 3 1 (ii v6) :: .row x1.2.2.2.2.2.2.1.A x1.2.2.2.2.2.2.1.c 3 1 (ii v7) :: .row x1.2.2.2.2.2.2.2.1.A x1.2.2.2.2.2.2.2.1.c 3 1 (ii v8) :: .row x1.2.2.2.2.2.2.2.2.1.A x1.2.2.2.2.2.2.2.2.1.c 3 1 (ii v9) :: .row x1.2.2.2.2.2.2.2.2.2.A x1.2.2.2.2.2.2.2.2.2.c 3 1 (ii v10) :: F) 29 follows_any rfl ?_
      refine d_take 0 rfl (q_move rfl rfl) rfl rfl (by kernel_rfl) (by kernel_rfl) (by kernel_rfl) (fun w h => h) ?_
      refine d_take 1 rfl (q_loadb_agg 1 rfl ag29 sz29 rfl rfl rfl rfl) rfl rfl (by kernel_rfl) (by kernel_rfl) (by kernel_rfl) (fun w h => h) ?_
      refine d_take 2 rfl (q_loadb_agg 0 rfl ag29 sz29 rfl rfl rfl rfl) rfl rfl (by kernel_rfl) (by kernel_rfl) (by kernel_rfl) (fun w h => h) ?_
      refine d_one 3 (by kernel_rfl) ?_
      refine o_do rfl (a_call ok32 rfl rfl rfl rfl (fun w hm => spec_CountedSame.calls K v1 x1.1.A x1.1.n x1.1.c v2 x1.2.1.A x1.2.1.n x1.2.1.c v3 x1.2.2.1.A x1.2.2.1.n x1.2.2.1.c v4 x1.2.2.2.1.A x1.2.2.2.1.n x1.2.2.2.1.c v5 x1.2.2.2.2.1.A x1.2.2.2.2.1.n x1.2.2.2.2.1.c v6 x1.2.2.2.2.2.1.A x1.2.2.2.2.2.1.n x1.2.2.2.2.2.1.c v7 x1.2.2.2.2.2.2.1.A x1.2.2.2.2.2.2.1.n x1.2.2.2.2.2.2.1.c v8 x1.2.2.2.2.2.2.2.1.A x1.2.2.2.2.2.2.2.1.n x1.2.2.2.2.2.2.2.1.c v9 x1.2.2.2.2.2.2.2.2.1.A x1.2.2.2.2.2.2.2.2.1.n x1.2.2.2.2.2.2.2.2.1.c v10 x1.2.2.2.2.2.2.2.2.2.A x1.2.2.2.2.2.2.2.2.2.n x1.2.2.2.2.2.2.2.2.2.c hm x1.1.h (Rd.row 2 rfl) x1.2.1.h (Rd.row 3 rfl) x1.2.2.1.h (Rd.row 4 rfl) x1.2.2.2.1.h (Rd.row 5 rfl) x1.2.2.2.2.1.h (Rd.row 6 rfl) x1.2.2.2.2.2.1.h (Rd.row 7 rfl) x1.2.2.2.2.2.2.1.h (Rd.row 8 rfl) x1.2.2.2.2.2.2.2.1.h (Rd.row 9 rfl) x1.2.2.2.2.2.2.2.2.1.h (Rd.row 10 rfl) x1.2.2.2.2.2.2.2.2.2.h (Rd.row 11 rfl) hb3)) rfl rfl (fun x5 w h => h) (fun x5 => ?_)
      refine d_take 4 rfl (q_beql un4 rfl rfl rfl) rfl rfl (by kernel_rfl) (by kernel_rfl) (by kernel_rfl) (fun w h => h) ?_
      refine d_take 5 rfl (q_move rfl rfl) rfl rfl (by kernel_rfl) (by kernel_rfl) (by kernel_rfl) (fun w h => h) ?_
      refine d_take_off 6 rfl rfl rfl rfl rfl (beq_f c2) rfl (by kernel_rfl) (by kernel_rfl) (by kernel_rfl) (fun w h => h) ?_
      refine d_take_off 7 rfl rfl rfl rfl rfl (beq_f c2) rfl (by kernel_rfl) (by kernel_rfl) (by kernel_rfl) (fun w h => h) ?_
      refine d_take_off 8 rfl rfl rfl rfl rfl (beq_f c2) rfl (by kernel_rfl) (by kernel_rfl) (by kernel_rfl) (fun w h => h) ?_
      refine d_take_off 9 rfl rfl rfl rfl rfl (beq_f c2) rfl (by kernel_rfl) (by kernel_rfl) (by kernel_rfl) (fun w h => h) ?_
      refine d_take_off 10 rfl rfl rfl rfl rfl (beq_f c2) rfl (by kernel_rfl) (by kernel_rfl) (by kernel_rfl) (fun w h => h) ?_
      refine d_take 11 rfl (q_pick_f rfl rfl (beq_f c2) rfl) rfl rfl (by kernel_rfl) (by kernel_rfl) (by kernel_rfl) (fun w h => h) ?_
      refine d_take 12 rfl (q_move rfl rfl) rfl rfl (by kernel_rfl) (by kernel_rfl) (by kernel_rfl) (fun w h => h) ?_
      refine d_take_off 13 rfl rfl rfl rfl rfl rfl rfl (by kernel_rfl) (by kernel_rfl) (by kernel_rfl) (fun w h => h) ?_
      refine d_take_off 14 rfl rfl rfl rfl rfl rfl rfl (by kernel_rfl) (by kernel_rfl) (by kernel_rfl) (fun w h => h) ?_
      refine d_take_off 15 rfl rfl rfl rfl rfl rfl rfl (by kernel_rfl) (by kernel_rfl) (by kernel_rfl) (fun w h => h) ?_
      refine d_take 16 rfl (q_pick_f rfl rfl rfl rfl) rfl rfl (by kernel_rfl) (by kernel_rfl) (by kernel_rfl) (fun w h => h) ?_
      refine d_take 17 rfl (q_move rfl rfl) rfl rfl (by kernel_rfl) (by kernel_rfl) (by kernel_rfl) (fun w h => h) ?_
      refine d_take_off 18 rfl rfl rfl rfl rfl rfl rfl (by kernel_rfl) (by kernel_rfl) (by kernel_rfl) (fun w h => h) ?_
      refine d_take_off 19 rfl rfl rfl rfl rfl rfl rfl (by kernel_rfl) (by kernel_rfl) (by kernel_rfl) (fun w h => h) ?_
      refine d_take_off 20 rfl rfl rfl rfl rfl rfl rfl (by kernel_rfl) (by kernel_rfl) (by kernel_rfl) (fun w h => h) ?_
      refine d_take_offu 21 rfl rfl rfl rfl rfl rfl (by kernel_rfl) (by kernel_rfl) (by kernel_rfl) (fun w h => h) ?_
      refine d_take_offu 22 rfl rfl rfl rfl rfl rfl (by kernel_rfl) (by kernel_rfl) (by kernel_rfl) (fun w h => h) ?_
      refine d_take_offu 23 rfl rfl rfl rfl rfl rfl (by kernel_rfl) (by kernel_rfl) (by kernel_rfl) (fun w h => h) ?_
      refine d_take_offu 24 rfl rfl rfl rfl rfl rfl (by kernel_rfl) (by kernel_rfl) (by kernel_rfl) (fun w h => h) ?_
      refine d_take_offu 25 rfl rfl rfl rfl rfl rfl (by kernel_rfl) (by kernel_rfl) (by kernel_rfl) (fun w h => h) ?_
      refine d_take_off 26 rfl rfl rfl rfl rfl rfl rfl (by kernel_rfl) (by kernel_rfl) (by kernel_rfl) (fun w h => h) ?_
      refine d_take 27 rfl (q_pick_f rfl rfl rfl rfl) rfl rfl (by kernel_rfl) (by kernel_rfl) (by kernel_rfl) (fun w h => h) ?_
      refine d_take 28 rfl (q_assign rfl rfl) rfl rfl (by kernel_rfl) (by kernel_rfl) (by kernel_rfl) (fun w h => h) ?_
      refine d_done (by kernel_rfl) ?_
      refine j_then ?_
      refine j_ret ?_
      cases h
      exact j_return rfl (ResOf.tmp rfl ResOf.nil) rfl (fun w h => ⟨(), rfl, (h.drop 12)⟩)

end Go.Proofs.Ytgganabcfloioaa.F
