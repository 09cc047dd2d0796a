/- The program computes these pure functions, printed by the generator of wip/gen. -/
import Derived.Test.YtpfkcjddilpbkaaFa
import Derived.Test.YtpfkcjddilpbkaaFi
import Derived.Test.YtpfkcjddilpbkaaFj
import Derived.Test.YtpfkcjddilpbkaaFb
import Derived.Test.YtpfkcjddilpbkaaC0
import Derived.Test.YtpfkcjddilpbkaaC2
import Derived.Test.YtpfkcjddilpbkaaC3
import Derived.Test.YtpfkcjddilpbkaaC8
import Derived.Test.YtpfkcjddilpbkaaC9
namespace Go.Proofs.Ytpfkcjddilpbkaa.F
open Go Go.RowKit Go.Proofs.Ytpfkcjddilpbkaa.S
set_option linter.unusedVariables false
set_option maxRecDepth 100000
theorem spec_l6Case.calls (K : Nat) (a0 : List Int) (a0_A : Option Addr) (a0_n a0_c : Nat) {w0 w : World} {F : List Res} {r1 : List Int} {r2 : List Int} {r3 : List Int} {r4 : List Int} {r5 : Int} {r6 : List Int} {r7 : Int} {r8 : Int} (hm : Mem w0 (F) w) (a0_h : a0.length = a0_n) (a0_R : Rd w0 F a0_A (ints .u8 a0)) (a0_k : a0.length ≤ a0_c) (h : spec_l6Case.f K a0 = some (r1, r2, r3, r4, r5, r6, r7, r8)) :
    Calls Try.prog 54 (List.toArray [.slice a0_A a0_n a0_c]) w fun e w' => ∃ x : (Sl r1.length) × (Sl r2.length) × (Sl r3.length) × (Sl r4.length) × (Sl r6.length), e = .returned (.tuple (List.toArray [.agg (List.toArray [.slice x.1.A x.1.n x.1.c, .slice x.2.1.A x.2.1.n x.2.1.c, .slice x.2.2.1.A x.2.2.1.n x.2.2.1.c, .slice x.2.2.2.1.A x.2.2.2.1.n x.2.2.2.1.c]), .agg (List.toArray [i6 r5, .slice x.2.2.2.2.A x.2.2.2.2.n x.2.2.2.2.c, i6 r7]), i6 r8])) ∧ Mem w0 (.row x.1.A x.1.c 3 1 (ii r1) :: .row x.2.1.A x.2.1.c 3 1 (ii r2) :: .row x.2.2.1.A x.2.2.1.c 3 1 (ii r3) :: .row x.2.2.2.1.A x.2.2.2.1.c 3 1 (ii r4) :: .row x.2.2.2.2.A x.2.2.2.2.c 3 1 (ii r6) :: F) w' := by
  unfold spec_l6Case.f at h
  refine calls_of_J (n := 22) Try.func54 rfl rfl rfl hm ?_
  refine j_seq ?_
  refine j_region ?_
  refine r_do (a_alloc zr36 rfl) rfl rfl (fun x1 => ?_)
  refine r_do (a_alloc zr37 rfl) rfl rfl (fun x2 => ?_)
  refine r_q (q_assign rfl rfl) rfl rfl ?_
  refine r_nil ?_
  refine j_then ?_
  refine j_seq ?_
  refine j_region ?_
  refine r_q (q_move rfl rfl) rfl rfl ?_
  obtain ⟨_, hb1, h⟩ := of_b1 h
  refine r_do (a_call ok40 rfl rfl rfl rfl (fun w hm => spec_l13Open.calls K a0 a0_A a0_n a0_c hm a0_h (Rd.drop 2 a0_R) a0_k hb1)) rfl rfl (fun x3 => ?_)
  refine r_q (q_assign rfl rfl) rfl rfl ?_
  refine r_nil ?_
  refine j_then ?_
  refine j_seq ?_
  refine j_region ?_
  refine r_q (q_move rfl rfl) rfl rfl ?_
  obtain ⟨v1, v2, v3, v4, v5, v6, v7, v8, hb2, h⟩ := of_b8 h
  refine r_do (a_call ok41 rfl rfl rfl rfl (fun w hm => spec_l6Draw.calls K x3 (a0.take 2000) a0_A (a0.take 2000).length a0_c (0:Int) hm rfl (rd_hiI (Rd.drop 2 a0_R) 2000) hb2)) rfl rfl (fun x4 => ?_)
  refine r_q (q_move rfl rfl) rfl rfl ?_
  refine r_q (q_extract rfl rfl rfl) rfl rfl ?_
  refine r_q (q_extract rfl rfl rfl) rfl rfl ?_
  refine r_do (a_alloc zr36 rfl) rfl rfl (fun x5 => ?_)
  refine r_do (a_alloc zr37 rfl) rfl rfl (fun x6 => ?_)
  refine r_do (a_storeb 1 rfl sz36 rfl rfl rfl rfl (Nat.le_of_ble_eq_true rfl) rfl) rfl rfl (fun _ => ?_)
  refine j_b1 [(.slice x4.1.A x4.1.n x4.1.c), (.slice x4.2.1.A x4.2.1.n x4.2.1.c), (.slice x4.2.2.1.A x4.2.2.1.n x4.2.2.1.c), (.slice x4.2.2.2.1.A x4.2.2.2.1.n x4.2.2.2.1.c)] rfl ?_
  refine r_do (a_storeb 0 rfl sz37 rfl rfl rfl rfl (Nat.le_of_ble_eq_true rfl) rfl) rfl rfl (fun _ => ?_)
  refine j_b0 [(i6 v5), (.slice x4.2.2.2.2.A x4.2.2.2.2.n x4.2.2.2.2.c), (i6 v7)] rfl ?_
  refine r_nil ?_
  refine j_then ?_
  refine j_seq ?_
  obtain ⟨v9, v10, v11, v12, hb3, h⟩ := of_b4 h
  obtain ⟨v13, v14, hb4, h⟩ := of_b2 h
  refine j_draw (.box x6 37 [(i6 v5), (.slice x4.2.2.2.2.A x4.2.2.2.2.n x4.2.2.2.2.c), (i6 v7)] :: .box x5 36 [(.slice x4.1.A x4.1.n x4.1.c), (.slice x4.2.1.A x4.2.1.n x4.2.1.c), (.slice x4.2.2.1.A x4.2.2.1.n x4.2.2.1.c), (.slice x4.2.2.2.1.A x4.2.2.2.1.n x4.2.2.2.1.c)] :: .row x4.1.A x4.1.c 3 1 (ii v1) :: .row x4.2.1.A x4.2.1.c 3 1 (ii v2) :: .row x4.2.2.1.A x4.2.2.1.c 3 1 (ii v3) :: .row x4.2.2.2.1.A x4.2.2.2.1.c 3 1 (ii v4) :: .row x4.2.2.2.2.A x4.2.2.2.2.c 3 1 (ii v6) :: F) 10 follows_any rfl ?_
  refine d_take 0 rfl (q_loadb_agg 1 rfl ag36 sz36 rfl rfl rfl rfl) rfl rfl (by kernel_rfl) (by kernel_rfl) (by kernel_rfl) (fun w h => h.pick 10 [0, 1, 2, 3, 4, 5, 6] rfl) ?_
  refine d_take 1 rfl (q_move rfl rfl) rfl rfl (by kernel_rfl) (by kernel_rfl) (by kernel_rfl) (fun w h => h.pick 10 [0, 1, 2, 3, 4, 5, 6] rfl) ?_
  refine d_take 2 rfl (q_loadb_agg 0 rfl ag37 sz37 rfl rfl rfl rfl) rfl rfl (by kernel_rfl) (by kernel_rfl) (by kernel_rfl) (fun w h => h.pick 10 [0, 1, 2, 3, 4, 5, 6] rfl) ?_
  refine d_take 4 rfl (q_move rfl rfl) rfl rfl (by kernel_rfl) (by kernel_rfl) (by kernel_rfl) (fun w h => h.pick 10 [0, 1, 2, 3, 4, 5, 6] rfl) ?_
  refine d_join (σ := ((Sl v10.length)) × (Option Addr) × Unit) 0 #[true, true, true, true, true, true, true, true, true, true] (fun s => [(2, (pt x1)), (3, (pt x2)), (4, (i6 v13))]) (fun s => .row s.1.A s.1.c 3 1 (ii v10) :: .row s.2.1 6 3 1 (ii ([(0:Int), (1:Int), (2:Int), (3:Int), (8:Int), (-1:Int)] : List Int)) :: .box x6 37 [(i6 v5), (.slice x4.2.2.2.2.A x4.2.2.2.2.n x4.2.2.2.2.c), (i6 v7)] :: .box x5 36 [(.slice x4.1.A x4.1.n x4.1.c), (.slice x4.2.1.A x4.2.1.n x4.2.1.c), (.slice x4.2.2.1.A x4.2.2.1.n x4.2.2.1.c), (.slice x4.2.2.2.1.A x4.2.2.2.1.n x4.2.2.2.1.c)] :: .row x4.1.A x4.1.c 3 1 (ii v1) :: .row x4.2.1.A x4.2.1.c 3 1 (ii v2) :: .row x4.2.2.1.A x4.2.2.1.c 3 1 (ii v3) :: .row x4.2.2.2.1.A x4.2.2.2.1.c 3 1 (ii v4) :: .row x4.2.2.2.2.A x4.2.2.2.2.c 3 1 (ii v6) :: .box x3 92 [(.slice a0_A (a0.take 2000).length a0_c), (i6 v14)] :: .box x2 37 [(i6 v9), (.slice s.1.A s.1.n s.1.c), (i6 v11)] :: .box x1 36 [(.slice x4.1.A x4.1.n x4.1.c), (.slice x4.2.1.A x4.2.1.n x4.2.1.c), (.slice x4.2.2.1.A x4.2.2.1.n x4.2.2.1.c), (.slice x4.2.2.2.1.A x4.2.2.2.1.n x4.2.2.2.1.c)] :: F) ?_ (fun hD1023 => ?_)
  · rintro ⟨x7, x8, x9⟩
    show J _ _ [(2, (pt x1)), (3, (pt x2)), (4, (i6 v13))] _ (.row x7.A x7.c 3 1 (ii v10) :: .row x8 6 3 1 (ii ([(0:Int), (1:Int), (2:Int), (3:Int), (8:Int), (-1:Int)] : List Int)) :: .box x6 37 [(i6 v5), (.slice x4.2.2.2.2.A x4.2.2.2.2.n x4.2.2.2.2.c), (i6 v7)] :: .box x5 36 [(.slice x4.1.A x4.1.n x4.1.c), (.slice x4.2.1.A x4.2.1.n x4.2.1.c), (.slice x4.2.2.1.A x4.2.2.1.n x4.2.2.1.c), (.slice x4.2.2.2.1.A x4.2.2.2.1.n x4.2.2.2.1.c)] :: .row x4.1.A x4.1.c 3 1 (ii v1) :: .row x4.2.1.A x4.2.1.c 3 1 (ii v2) :: .row x4.2.2.1.A x4.2.2.1.c 3 1 (ii v3) :: .row x4.2.2.2.1.A x4.2.2.2.1.c 3 1 (ii v4) :: .row x4.2.2.2.2.A x4.2.2.2.2.c 3 1 (ii v6) :: .box x3 92 [(.slice a0_A (a0.take 2000).length a0_c), (i6 v14)] :: .box x2 37 [(i6 v9), (.slice x7.A x7.n x7.c), (i6 v11)] :: .box x1 36 [(.slice x4.1.A x4.1.n x4.1.c), (.slice x4.2.1.A x4.2.1.n x4.2.1.c), (.slice x4.2.2.1.A x4.2.2.1.n x4.2.2.1.c), (.slice x4.2.2.2.1.A x4.2.2.2.1.n x4.2.2.2.1.c)] :: F)
    refine d_done (by kernel_rfl) ?_
    refine j_then ?_
    refine j_ret ?_
    cases h
    exact j_return rfl (ResOf.cell 11 rfl rfl ag36 sz36 (ResOf.cell 10 rfl rfl ag37 sz37 (ResOf.tmp rfl ResOf.nil))) rfl (fun w h => ⟨(⟨x4.1.A, x4.1.n, x4.1.c, x4.1.h⟩, ⟨x4.2.1.A, x4.2.1.n, x4.2.1.c, x4.2.1.h⟩, ⟨x4.2.2.1.A, x4.2.2.1.n, x4.2.2.1.c, x4.2.2.1.h⟩, ⟨x4.2.2.2.1.A, x4.2.2.2.1.n, x4.2.2.2.1.c, x4.2.2.2.1.h⟩, ⟨x7.A, x7.n, x7.c, x7.h⟩), rfl, h.pick 12 [4, 5, 6, 7, 0] rfl⟩)
  refine d_join (σ := ((Sl v10.length)) × (Option Addr) × Unit) 2 #[true, true, true, true, true, true, true, true, false, false] (fun s => [(2, (pt x1)), (3, (pt x2)), (4, (i6 (0:Int))), (18, (.agg (List.toArray [(i6 v9), (.slice s.1.A s.1.n s.1.c), (i6 v11)]))), (21, (i6 v13))]) (fun s => .row s.1.A s.1.c 3 1 (ii v10) :: .row s.2.1 6 3 1 (ii ([(0:Int), (1:Int), (2:Int), (3:Int), (8:Int), (-1:Int)] : List Int)) :: .box x6 37 [(i6 v5), (.slice x4.2.2.2.2.A x4.2.2.2.2.n x4.2.2.2.2.c), (i6 v7)] :: .box x5 36 [(.slice x4.1.A x4.1.n x4.1.c), (.slice x4.2.1.A x4.2.1.n x4.2.1.c), (.slice x4.2.2.1.A x4.2.2.1.n x4.2.2.1.c), (.slice x4.2.2.2.1.A x4.2.2.2.1.n x4.2.2.2.1.c)] :: .row x4.1.A x4.1.c 3 1 (ii v1) :: .row x4.2.1.A x4.2.1.c 3 1 (ii v2) :: .row x4.2.2.1.A x4.2.2.1.c 3 1 (ii v3) :: .row x4.2.2.2.1.A x4.2.2.2.1.c 3 1 (ii v4) :: .row x4.2.2.2.2.A x4.2.2.2.2.c 3 1 (ii v6) :: .box x3 92 [(.slice a0_A (a0.take 2000).length a0_c), (i6 v14)] :: .box x2 37 [(i6 (0:Int)), (.slice none 0 0), (i6 (0:Int))] :: .box x1 36 [(.slice x4.1.A x4.1.n x4.1.c), (.slice x4.2.1.A x4.2.1.n x4.2.1.c), (.slice x4.2.2.1.A x4.2.2.1.n x4.2.2.1.c), (.slice x4.2.2.2.1.A x4.2.2.2.1.n x4.2.2.2.1.c)] :: F) ?_ (fun hD255 => ?_)
  · rintro ⟨x7, x8, x9⟩
    show J _ _ [(2, (pt x1)), (3, (pt x2)), (4, (i6 (0:Int))), (18, (.agg (List.toArray [(i6 v9), (.slice x7.A x7.n x7.c), (i6 v11)]))), (21, (i6 v13))] _ (.row x7.A x7.c 3 1 (ii v10) :: .row x8 6 3 1 (ii ([(0:Int), (1:Int), (2:Int), (3:Int), (8:Int), (-1:Int)] : List Int)) :: .box x6 37 [(i6 v5), (.slice x4.2.2.2.2.A x4.2.2.2.2.n x4.2.2.2.2.c), (i6 v7)] :: .box x5 36 [(.slice x4.1.A x4.1.n x4.1.c), (.slice x4.2.1.A x4.2.1.n x4.2.1.c), (.slice x4.2.2.1.A x4.2.2.1.n x4.2.2.1.c), (.slice x4.2.2.2.1.A x4.2.2.2.1.n x4.2.2.2.1.c)] :: .row x4.1.A x4.1.c 3 1 (ii v1) :: .row x4.2.1.A x4.2.1.c 3 1 (ii v2) :: .row x4.2.2.1.A x4.2.2.1.c 3 1 (ii v3) :: .row x4.2.2.2.1.A x4.2.2.2.1.c 3 1 (ii v4) :: .row x4.2.2.2.2.A x4.2.2.2.2.c 3 1 (ii v6) :: .box x3 92 [(.slice a0_A (a0.take 2000).length a0_c), (i6 v14)] :: .box x2 37 [(i6 (0:Int)), (.slice none 0 0), (i6 (0:Int))] :: .box x1 36 [(.slice x4.1.A x4.1.n x4.1.c), (.slice x4.2.1.A x4.2.1.n x4.2.1.c), (.slice x4.2.2.1.A x4.2.2.1.n x4.2.2.1.c), (.slice x4.2.2.2.1.A x4.2.2.2.1.n x4.2.2.2.1.c)] :: F)
    refine d_one 8 (by kernel_rfl) ?_
    · refine o_do rfl (a_storeb 10 rfl sz37 rfl rfl rfl rfl (Nat.le_of_ble_eq_true rfl) rfl) rfl rfl (fun _ w h => h.pick 12 [2, 3, 4, 5, 6, 7, 8] rfl) (fun _ => ?_)
      refine j_b10 [(i6 v9), (.slice x7.A x7.n x7.c), (i6 v11)] rfl ?_
      refine d_take 9 rfl (q_assign rfl rfl) rfl rfl (by kernel_rfl) (by kernel_rfl) (by kernel_rfl) (fun w h => h.pick 12 [2, 3, 4, 5, 6, 7, 8] rfl) ?_
      refine j_rs (.row x7.A x7.c 3 1 (ii v10) :: .row x8 6 3 1 (ii ([(0:Int), (1:Int), (2:Int), (3:Int), (8:Int), (-1:Int)] : List Int)) :: .box x6 37 [(i6 v5), (.slice x4.2.2.2.2.A x4.2.2.2.2.n x4.2.2.2.2.c), (i6 v7)] :: .box x5 36 [(.slice x4.1.A x4.1.n x4.1.c), (.slice x4.2.1.A x4.2.1.n x4.2.1.c), (.slice x4.2.2.1.A x4.2.2.1.n x4.2.2.1.c), (.slice x4.2.2.2.1.A x4.2.2.2.1.n x4.2.2.2.1.c)] :: .row x4.1.A x4.1.c 3 1 (ii v1) :: .row x4.2.1.A x4.2.1.c 3 1 (ii v2) :: .row x4.2.2.1.A x4.2.2.1.c 3 1 (ii v3) :: .row x4.2.2.2.1.A x4.2.2.2.1.c 3 1 (ii v4) :: .row x4.2.2.2.2.A x4.2.2.2.2.c 3 1 (ii v6) :: .box x3 92 [(.slice a0_A (a0.take 2000).length a0_c), (i6 v14)] :: .box x2 37 [(i6 v9), (.slice x7.A x7.n x7.c), (i6 v11)] :: .box x1 36 [(.slice x4.1.A x4.1.n x4.1.c), (.slice x4.2.1.A x4.2.1.n x4.2.1.c), (.slice x4.2.2.1.A x4.2.2.1.n x4.2.2.1.c), (.slice x4.2.2.2.1.A x4.2.2.2.1.n x4.2.2.2.1.c)] :: F) (fun _ h => h) ?_
      refine j_env [(2, (pt x1)), (3, (pt x2)), (4, (i6 v13))] ⟨rfl, rfl, rfl, trivial⟩ ?_
      exact hD1023 (x7, x8, x9)
  refine d_join (σ := ((Sl v10.length)) × (Option Addr) × Unit) 3 #[true, true, true, true, true, true, true, false, false, false] (fun s => [(2, (pt x1)), (3, (pt x2)), (4, (i6 (0:Int))), (15, (.agg (List.toArray [(.slice x4.1.A x4.1.n x4.1.c), (.slice x4.2.1.A x4.2.1.n x4.2.1.c), (.slice x4.2.2.1.A x4.2.2.1.n x4.2.2.1.c), (.slice x4.2.2.2.1.A x4.2.2.2.1.n x4.2.2.2.1.c)]))), (18, (.agg (List.toArray [(i6 v9), (.slice s.1.A s.1.n s.1.c), (i6 v11)]))), (21, (i6 v13))]) (fun s => .row s.1.A s.1.c 3 1 (ii v10) :: .row s.2.1 6 3 1 (ii ([(0:Int), (1:Int), (2:Int), (3:Int), (8:Int), (-1:Int)] : List Int)) :: .box x6 37 [(i6 v5), (.slice x4.2.2.2.2.A x4.2.2.2.2.n x4.2.2.2.2.c), (i6 v7)] :: .box x5 36 [(.slice x4.1.A x4.1.n x4.1.c), (.slice x4.2.1.A x4.2.1.n x4.2.1.c), (.slice x4.2.2.1.A x4.2.2.1.n x4.2.2.1.c), (.slice x4.2.2.2.1.A x4.2.2.2.1.n x4.2.2.2.1.c)] :: .row x4.1.A x4.1.c 3 1 (ii v1) :: .row x4.2.1.A x4.2.1.c 3 1 (ii v2) :: .row x4.2.2.1.A x4.2.2.1.c 3 1 (ii v3) :: .row x4.2.2.2.1.A x4.2.2.2.1.c 3 1 (ii v4) :: .row x4.2.2.2.2.A x4.2.2.2.2.c 3 1 (ii v6) :: .box x3 92 [(.slice a0_A (a0.take 2000).length a0_c), (i6 v14)] :: .box x2 37 [(i6 (0:Int)), (.slice none 0 0), (i6 (0:Int))] :: .box x1 36 [(.slice none 0 0), (.slice none 0 0), (.slice none 0 0), (.slice none 0 0)] :: F) ?_ (fun hD127 => ?_)
  · rintro ⟨x7, x8, x9⟩
    show J _ _ [(2, (pt x1)), (3, (pt x2)), (4, (i6 (0:Int))), (15, (.agg (List.toArray [(.slice x4.1.A x4.1.n x4.1.c), (.slice x4.2.1.A x4.2.1.n x4.2.1.c), (.slice x4.2.2.1.A x4.2.2.1.n x4.2.2.1.c), (.slice x4.2.2.2.1.A x4.2.2.2.1.n x4.2.2.2.1.c)]))), (18, (.agg (List.toArray [(i6 v9), (.slice x7.A x7.n x7.c), (i6 v11)]))), (21, (i6 v13))] _ (.row x7.A x7.c 3 1 (ii v10) :: .row x8 6 3 1 (ii ([(0:Int), (1:Int), (2:Int), (3:Int), (8:Int), (-1:Int)] : List Int)) :: .box x6 37 [(i6 v5), (.slice x4.2.2.2.2.A x4.2.2.2.2.n x4.2.2.2.2.c), (i6 v7)] :: .box x5 36 [(.slice x4.1.A x4.1.n x4.1.c), (.slice x4.2.1.A x4.2.1.n x4.2.1.c), (.slice x4.2.2.1.A x4.2.2.1.n x4.2.2.1.c), (.slice x4.2.2.2.1.A x4.2.2.2.1.n x4.2.2.2.1.c)] :: .row x4.1.A x4.1.c 3 1 (ii v1) :: .row x4.2.1.A x4.2.1.c 3 1 (ii v2) :: .row x4.2.2.1.A x4.2.2.1.c 3 1 (ii v3) :: .row x4.2.2.2.1.A x4.2.2.2.1.c 3 1 (ii v4) :: .row x4.2.2.2.2.A x4.2.2.2.2.c 3 1 (ii v6) :: .box x3 92 [(.slice a0_A (a0.take 2000).length a0_c), (i6 v14)] :: .box x2 37 [(i6 (0:Int)), (.slice none 0 0), (i6 (0:Int))] :: .box x1 36 [(.slice none 0 0), (.slice none 0 0), (.slice none 0 0), (.slice none 0 0)] :: F)
    refine d_one 7 (by kernel_rfl) ?_
    · refine o_do rfl (a_storeb 11 rfl sz36 rfl rfl rfl rfl (Nat.le_of_ble_eq_true rfl) rfl) rfl rfl (fun _ w h => h.pick 12 [2, 3, 4, 5, 6, 7, 8] rfl) (fun _ => ?_)
      refine j_b11 [(.slice x4.1.A x4.1.n x4.1.c), (.slice x4.2.1.A x4.2.1.n x4.2.1.c), (.slice x4.2.2.1.A x4.2.2.1.n x4.2.2.1.c), (.slice x4.2.2.2.1.A x4.2.2.2.1.n x4.2.2.2.1.c)] rfl ?_
      refine j_rs (.row x7.A x7.c 3 1 (ii v10) :: .row x8 6 3 1 (ii ([(0:Int), (1:Int), (2:Int), (3:Int), (8:Int), (-1:Int)] : List Int)) :: .box x6 37 [(i6 v5), (.slice x4.2.2.2.2.A x4.2.2.2.2.n x4.2.2.2.2.c), (i6 v7)] :: .box x5 36 [(.slice x4.1.A x4.1.n x4.1.c), (.slice x4.2.1.A x4.2.1.n x4.2.1.c), (.slice x4.2.2.1.A x4.2.2.1.n x4.2.2.1.c), (.slice x4.2.2.2.1.A x4.2.2.2.1.n x4.2.2.2.1.c)] :: .row x4.1.A x4.1.c 3 1 (ii v1) :: .row x4.2.1.A x4.2.1.c 3 1 (ii v2) :: .row x4.2.2.1.A x4.2.2.1.c 3 1 (ii v3) :: .row x4.2.2.2.1.A x4.2.2.2.1.c 3 1 (ii v4) :: .row x4.2.2.2.2.A x4.2.2.2.2.c 3 1 (ii v6) :: .box x3 92 [(.slice a0_A (a0.take 2000).length a0_c), (i6 v14)] :: .box x2 37 [(i6 (0:Int)), (.slice none 0 0), (i6 (0:Int))] :: .box x1 36 [(.slice x4.1.A x4.1.n x4.1.c), (.slice x4.2.1.A x4.2.1.n x4.2.1.c), (.slice x4.2.2.1.A x4.2.2.1.n x4.2.2.1.c), (.slice x4.2.2.2.1.A x4.2.2.2.1.n x4.2.2.2.1.c)] :: F) (fun _ h => h) ?_
      refine j_env [(2, (pt x1)), (3, (pt x2)), (4, (i6 (0:Int))), (18, (.agg (List.toArray [(i6 v9), (.slice x7.A x7.n x7.c), (i6 v11)]))), (21, (i6 v13))] ⟨rfl, rfl, rfl, rfl, rfl, trivial⟩ ?_
      exact hD255 (x7, x8, x9)
  refine d_join (σ := ((Sl v10.length)) × (Option Addr)) 4 #[true, true, true, true, true, true, false, false, false, false] (fun s => [(2, (pt x1)), (3, (pt x2)), (4, (i6 (0:Int))), (15, (.agg (List.toArray [(.slice x4.1.A x4.1.n x4.1.c), (.slice x4.2.1.A x4.2.1.n x4.2.1.c), (.slice x4.2.2.1.A x4.2.2.1.n x4.2.2.1.c), (.slice x4.2.2.2.1.A x4.2.2.2.1.n x4.2.2.2.1.c)]))), (18, (.agg (List.toArray [(i6 v9), (.slice s.1.A s.1.n s.1.c), (i6 v11)]))), (19, (pt x3)), (20, (.slice s.2 6 6))]) (fun s => .row s.1.A s.1.c 3 1 (ii v10) :: .row s.2 6 3 1 (ii ([(0:Int), (1:Int), (2:Int), (3:Int), (8:Int), (-1:Int)] : List Int)) :: .box x6 37 [(i6 v5), (.slice x4.2.2.2.2.A x4.2.2.2.2.n x4.2.2.2.2.c), (i6 v7)] :: .box x5 36 [(.slice x4.1.A x4.1.n x4.1.c), (.slice x4.2.1.A x4.2.1.n x4.2.1.c), (.slice x4.2.2.1.A x4.2.2.1.n x4.2.2.1.c), (.slice x4.2.2.2.1.A x4.2.2.2.1.n x4.2.2.2.1.c)] :: .row x4.1.A x4.1.c 3 1 (ii v1) :: .row x4.2.1.A x4.2.1.c 3 1 (ii v2) :: .row x4.2.2.1.A x4.2.2.1.c 3 1 (ii v3) :: .row x4.2.2.2.1.A x4.2.2.2.1.c 3 1 (ii v4) :: .row x4.2.2.2.2.A x4.2.2.2.2.c 3 1 (ii v6) :: .box x3 92 [(.slice a0_A (a0.take 2000).length a0_c), (i6 v12)] :: .box x2 37 [(i6 (0:Int)), (.slice none 0 0), (i6 (0:Int))] :: .box x1 36 [(.slice none 0 0), (.slice none 0 0), (.slice none 0 0), (.slice none 0 0)] :: F) ?_ (fun hD63 => ?_)
  · rintro ⟨x7, x8⟩
    show J _ _ [(2, (pt x1)), (3, (pt x2)), (4, (i6 (0:Int))), (15, (.agg (List.toArray [(.slice x4.1.A x4.1.n x4.1.c), (.slice x4.2.1.A x4.2.1.n x4.2.1.c), (.slice x4.2.2.1.A x4.2.2.1.n x4.2.2.1.c), (.slice x4.2.2.2.1.A x4.2.2.2.1.n x4.2.2.2.1.c)]))), (18, (.agg (List.toArray [(i6 v9), (.slice x7.A x7.n x7.c), (i6 v11)]))), (19, (pt x3)), (20, (.slice x8 6 6))] _ (.row x7.A x7.c 3 1 (ii v10) :: .row x8 6 3 1 (ii ([(0:Int), (1:Int), (2:Int), (3:Int), (8:Int), (-1:Int)] : List Int)) :: .box x6 37 [(i6 v5), (.slice x4.2.2.2.2.A x4.2.2.2.2.n x4.2.2.2.2.c), (i6 v7)] :: .box x5 36 [(.slice x4.1.A x4.1.n x4.1.c), (.slice x4.2.1.A x4.2.1.n x4.2.1.c), (.slice x4.2.2.1.A x4.2.2.1.n x4.2.2.1.c), (.slice x4.2.2.2.1.A x4.2.2.2.1.n x4.2.2.2.1.c)] :: .row x4.1.A x4.1.c 3 1 (ii v1) :: .row x4.2.1.A x4.2.1.c 3 1 (ii v2) :: .row x4.2.2.1.A x4.2.2.1.c 3 1 (ii v3) :: .row x4.2.2.2.1.A x4.2.2.2.1.c 3 1 (ii v4) :: .row x4.2.2.2.2.A x4.2.2.2.2.c 3 1 (ii v6) :: .box x3 92 [(.slice a0_A (a0.take 2000).length a0_c), (i6 v12)] :: .box x2 37 [(i6 (0:Int)), (.slice none 0 0), (i6 (0:Int))] :: .box x1 36 [(.slice none 0 0), (.slice none 0 0), (.slice none 0 0), (.slice none 0 0)] :: F)
    refine d_one 6 (by kernel_rfl) ?_
    · refine j_rs (.box x3 92 [(.slice a0_A (a0.take 2000).length a0_c), (i6 v12)] :: .row x7.A x7.c 3 1 (ii v10) :: .row x8 6 3 1 (ii ([(0:Int), (1:Int), (2:Int), (3:Int), (8:Int), (-1:Int)] : List Int)) :: .box x6 37 [(i6 v5), (.slice x4.2.2.2.2.A x4.2.2.2.2.n x4.2.2.2.2.c), (i6 v7)] :: .box x5 36 [(.slice x4.1.A x4.1.n x4.1.c), (.slice x4.2.1.A x4.2.1.n x4.2.1.c), (.slice x4.2.2.1.A x4.2.2.1.n x4.2.2.1.c), (.slice x4.2.2.2.1.A x4.2.2.2.1.n x4.2.2.2.1.c)] :: .row x4.1.A x4.1.c 3 1 (ii v1) :: .row x4.2.1.A x4.2.1.c 3 1 (ii v2) :: .row x4.2.2.1.A x4.2.2.1.c 3 1 (ii v3) :: .row x4.2.2.2.1.A x4.2.2.2.1.c 3 1 (ii v4) :: .row x4.2.2.2.2.A x4.2.2.2.2.c 3 1 (ii v6) :: .box x2 37 [(i6 (0:Int)), (.slice none 0 0), (i6 (0:Int))] :: .box x1 36 [(.slice none 0 0), (.slice none 0 0), (.slice none 0 0), (.slice none 0 0)] :: F) (fun _ h => h.pick 12 [9, 0, 1, 2, 3, 4, 5, 6, 7, 8, 10, 11] rfl) ?_
      refine o_do rfl (a_call ok70 rfl rfl rfl rfl (fun w hm => spec_l13Rd_num.calls K x3 (a0.take 2000) a0_A (a0.take 2000).length a0_c v12 ([(0:Int), (1:Int), (2:Int), (3:Int), (8:Int), (-1:Int)] : List Int) x8 6 6 hm rfl (rd_hiI (Rd.drop 11 a0_R) 2000) rfl (Rd.row 1 rfl) hb4)) rfl rfl (fun x9 w h => h.pick 12 [3, 4, 5, 6, 7, 8, 9] rfl) (fun x9 => ?_)
      refine j_rs (.row x7.A x7.c 3 1 (ii v10) :: .row x8 6 3 1 (ii ([(0:Int), (1:Int), (2:Int), (3:Int), (8:Int), (-1:Int)] : List Int)) :: .box x6 37 [(i6 v5), (.slice x4.2.2.2.2.A x4.2.2.2.2.n x4.2.2.2.2.c), (i6 v7)] :: .box x5 36 [(.slice x4.1.A x4.1.n x4.1.c), (.slice x4.2.1.A x4.2.1.n x4.2.1.c), (.slice x4.2.2.1.A x4.2.2.1.n x4.2.2.1.c), (.slice x4.2.2.2.1.A x4.2.2.2.1.n x4.2.2.2.1.c)] :: .row x4.1.A x4.1.c 3 1 (ii v1) :: .row x4.2.1.A x4.2.1.c 3 1 (ii v2) :: .row x4.2.2.1.A x4.2.2.1.c 3 1 (ii v3) :: .row x4.2.2.2.1.A x4.2.2.2.1.c 3 1 (ii v4) :: .row x4.2.2.2.2.A x4.2.2.2.2.c 3 1 (ii v6) :: .box x3 92 [(.slice a0_A (a0.take 2000).length a0_c), (i6 v14)] :: .box x2 37 [(i6 (0:Int)), (.slice none 0 0), (i6 (0:Int))] :: .box x1 36 [(.slice none 0 0), (.slice none 0 0), (.slice none 0 0), (.slice none 0 0)] :: F) (fun _ h => h.pick 12 [1, 2, 3, 4, 5, 6, 7, 8, 9, 0, 10, 11] rfl) ?_
      refine j_env [(2, (pt x1)), (3, (pt x2)), (4, (i6 (0:Int))), (15, (.agg (List.toArray [(.slice x4.1.A x4.1.n x4.1.c), (.slice x4.2.1.A x4.2.1.n x4.2.1.c), (.slice x4.2.2.1.A x4.2.2.1.n x4.2.2.1.c), (.slice x4.2.2.2.1.A x4.2.2.2.1.n x4.2.2.2.1.c)]))), (18, (.agg (List.toArray [(i6 v9), (.slice x7.A x7.n x7.c), (i6 v11)]))), (21, (i6 v13))] ⟨rfl, rfl, rfl, rfl, rfl, rfl, trivial⟩ ?_
      exact hD127 (x7, x8, x9)
  refine d_join (σ := ((Sl v10.length))) 5 #[true, true, true, true, true, false, false, false, false, false] (fun s => [(2, (pt x1)), (3, (pt x2)), (4, (i6 (0:Int))), (15, (.agg (List.toArray [(.slice x4.1.A x4.1.n x4.1.c), (.slice x4.2.1.A x4.2.1.n x4.2.1.c), (.slice x4.2.2.1.A x4.2.2.1.n x4.2.2.1.c), (.slice x4.2.2.2.1.A x4.2.2.2.1.n x4.2.2.2.1.c)]))), (18, (.agg (List.toArray [(i6 v9), (.slice s.A s.n s.c), (i6 v11)]))), (19, (pt x3))]) (fun s => .row s.A s.c 3 1 (ii v10) :: .box x6 37 [(i6 v5), (.slice x4.2.2.2.2.A x4.2.2.2.2.n x4.2.2.2.2.c), (i6 v7)] :: .box x5 36 [(.slice x4.1.A x4.1.n x4.1.c), (.slice x4.2.1.A x4.2.1.n x4.2.1.c), (.slice x4.2.2.1.A x4.2.2.1.n x4.2.2.1.c), (.slice x4.2.2.2.1.A x4.2.2.2.1.n x4.2.2.2.1.c)] :: .row x4.1.A x4.1.c 3 1 (ii v1) :: .row x4.2.1.A x4.2.1.c 3 1 (ii v2) :: .row x4.2.2.1.A x4.2.2.1.c 3 1 (ii v3) :: .row x4.2.2.2.1.A x4.2.2.2.1.c 3 1 (ii v4) :: .row x4.2.2.2.2.A x4.2.2.2.2.c 3 1 (ii v6) :: .box x3 92 [(.slice a0_A (a0.take 2000).length a0_c), (i6 v12)] :: .box x2 37 [(i6 (0:Int)), (.slice none 0 0), (i6 (0:Int))] :: .box x1 36 [(.slice none 0 0), (.slice none 0 0), (.slice none 0 0), (.slice none 0 0)] :: F) ?_ (fun hD31 => ?_)
  · rintro x7
    show J _ _ [(2, (pt x1)), (3, (pt x2)), (4, (i6 (0:Int))), (15, (.agg (List.toArray [(.slice x4.1.A x4.1.n x4.1.c), (.slice x4.2.1.A x4.2.1.n x4.2.1.c), (.slice x4.2.2.1.A x4.2.2.1.n x4.2.2.1.c), (.slice x4.2.2.2.1.A x4.2.2.2.1.n x4.2.2.2.1.c)]))), (18, (.agg (List.toArray [(i6 v9), (.slice x7.A x7.n x7.c), (i6 v11)]))), (19, (pt x3))] _ (.row x7.A x7.c 3 1 (ii v10) :: .box x6 37 [(i6 v5), (.slice x4.2.2.2.2.A x4.2.2.2.2.n x4.2.2.2.2.c), (i6 v7)] :: .box x5 36 [(.slice x4.1.A x4.1.n x4.1.c), (.slice x4.2.1.A x4.2.1.n x4.2.1.c), (.slice x4.2.2.1.A x4.2.2.1.n x4.2.2.1.c), (.slice x4.2.2.2.1.A x4.2.2.2.1.n x4.2.2.2.1.c)] :: .row x4.1.A x4.1.c 3 1 (ii v1) :: .row x4.2.1.A x4.2.1.c 3 1 (ii v2) :: .row x4.2.2.1.A x4.2.2.1.c 3 1 (ii v3) :: .row x4.2.2.2.1.A x4.2.2.2.1.c 3 1 (ii v4) :: .row x4.2.2.2.2.A x4.2.2.2.2.c 3 1 (ii v6) :: .box x3 92 [(.slice a0_A (a0.take 2000).length a0_c), (i6 v12)] :: .box x2 37 [(i6 (0:Int)), (.slice none 0 0), (i6 (0:Int))] :: .box x1 36 [(.slice none 0 0), (.slice none 0 0), (.slice none 0 0), (.slice none 0 0)] :: F)
    refine d_one 5 (by kernel_rfl) ?_
    · refine o_do rfl (a_litX (vs := [(i6 (0:Int)), (i6 (1:Int)), (i6 (2:Int)), (i6 (3:Int)), (i6 (8:Int)), (i6 (-1:Int))]) (ii ([(0:Int), (1:Int), (2:Int), (3:Int), (8:Int), (-1:Int)] : List Int)) un22 sz3 zr3 rfl rfl rfl rfl rfl rfl rfl rfl rfl) rfl rfl (fun x8 w h => h.pick 12 [2, 3, 4, 5, 6, 7, 8] rfl) (fun x8 => ?_)
      refine j_rs (.row x7.A x7.c 3 1 (ii v10) :: .row x8 6 3 1 (ii ([(0:Int), (1:Int), (2:Int), (3:Int), (8:Int), (-1:Int)] : List Int)) :: .box x6 37 [(i6 v5), (.slice x4.2.2.2.2.A x4.2.2.2.2.n x4.2.2.2.2.c), (i6 v7)] :: .box x5 36 [(.slice x4.1.A x4.1.n x4.1.c), (.slice x4.2.1.A x4.2.1.n x4.2.1.c), (.slice x4.2.2.1.A x4.2.2.1.n x4.2.2.1.c), (.slice x4.2.2.2.1.A x4.2.2.2.1.n x4.2.2.2.1.c)] :: .row x4.1.A x4.1.c 3 1 (ii v1) :: .row x4.2.1.A x4.2.1.c 3 1 (ii v2) :: .row x4.2.2.1.A x4.2.2.1.c 3 1 (ii v3) :: .row x4.2.2.2.1.A x4.2.2.2.1.c 3 1 (ii v4) :: .row x4.2.2.2.2.A x4.2.2.2.2.c 3 1 (ii v6) :: .box x3 92 [(.slice a0_A (a0.take 2000).length a0_c), (i6 v12)] :: .box x2 37 [(i6 (0:Int)), (.slice none 0 0), (i6 (0:Int))] :: .box x1 36 [(.slice none 0 0), (.slice none 0 0), (.slice none 0 0), (.slice none 0 0)] :: F) (fun _ h => h.pick 12 [1, 0, 2, 3, 4, 5, 6, 7, 8, 9, 10, 11] rfl) ?_
      refine j_env [(2, (pt x1)), (3, (pt x2)), (4, (i6 (0:Int))), (15, (.agg (List.toArray [(.slice x4.1.A x4.1.n x4.1.c), (.slice x4.2.1.A x4.2.1.n x4.2.1.c), (.slice x4.2.2.1.A x4.2.2.1.n x4.2.2.1.c), (.slice x4.2.2.2.1.A x4.2.2.2.1.n x4.2.2.2.1.c)]))), (18, (.agg (List.toArray [(i6 v9), (.slice x7.A x7.n x7.c), (i6 v11)]))), (19, (pt x3)), (20, (.slice x8 6 6))] ⟨rfl, rfl, rfl, rfl, rfl, rfl, rfl, trivial⟩ ?_
      exact hD63 (x7, x8)
  refine d_join (σ := (Option Addr)) 5 #[true, true, true, false, true, true, false, false, false, false] (fun s => [(2, (pt x1)), (3, (pt x2)), (4, (i6 (0:Int))), (15, (.agg (List.toArray [(.slice x4.1.A x4.1.n x4.1.c), (.slice x4.2.1.A x4.2.1.n x4.2.1.c), (.slice x4.2.2.1.A x4.2.2.1.n x4.2.2.1.c), (.slice x4.2.2.2.1.A x4.2.2.2.1.n x4.2.2.2.1.c)]))), (16, (pt x3)), (17, (.agg (List.toArray [(i6 v5), (.slice x4.2.2.2.2.A x4.2.2.2.2.n x4.2.2.2.2.c), (i6 v7)]))), (19, (pt x3)), (20, (.slice s 6 6))]) (fun s => .row s 6 3 1 (ii ([(0:Int), (1:Int), (2:Int), (3:Int), (8:Int), (-1:Int)] : List Int)) :: .box x6 37 [(i6 v5), (.slice x4.2.2.2.2.A x4.2.2.2.2.n x4.2.2.2.2.c), (i6 v7)] :: .box x5 36 [(.slice x4.1.A x4.1.n x4.1.c), (.slice x4.2.1.A x4.2.1.n x4.2.1.c), (.slice x4.2.2.1.A x4.2.2.1.n x4.2.2.1.c), (.slice x4.2.2.2.1.A x4.2.2.2.1.n x4.2.2.2.1.c)] :: .row x4.1.A x4.1.c 3 1 (ii v1) :: .row x4.2.1.A x4.2.1.c 3 1 (ii v2) :: .row x4.2.2.1.A x4.2.2.1.c 3 1 (ii v3) :: .row x4.2.2.2.1.A x4.2.2.2.1.c 3 1 (ii v4) :: .row x4.2.2.2.2.A x4.2.2.2.2.c 3 1 (ii v6) :: .box x3 92 [(.slice a0_A (a0.take 2000).length a0_c), (i6 v8)] :: .box x2 37 [(i6 (0:Int)), (.slice none 0 0), (i6 (0:Int))] :: .box x1 36 [(.slice none 0 0), (.slice none 0 0), (.slice none 0 0), (.slice none 0 0)] :: F) ?_ (fun hD55 => ?_)
  · rintro x8
    show J _ _ [(2, (pt x1)), (3, (pt x2)), (4, (i6 (0:Int))), (15, (.agg (List.toArray [(.slice x4.1.A x4.1.n x4.1.c), (.slice x4.2.1.A x4.2.1.n x4.2.1.c), (.slice x4.2.2.1.A x4.2.2.1.n x4.2.2.1.c), (.slice x4.2.2.2.1.A x4.2.2.2.1.n x4.2.2.2.1.c)]))), (16, (pt x3)), (17, (.agg (List.toArray [(i6 v5), (.slice x4.2.2.2.2.A x4.2.2.2.2.n x4.2.2.2.2.c), (i6 v7)]))), (19, (pt x3)), (20, (.slice x8 6 6))] _ (.row x8 6 3 1 (ii ([(0:Int), (1:Int), (2:Int), (3:Int), (8:Int), (-1:Int)] : List Int)) :: .box x6 37 [(i6 v5), (.slice x4.2.2.2.2.A x4.2.2.2.2.n x4.2.2.2.2.c), (i6 v7)] :: .box x5 36 [(.slice x4.1.A x4.1.n x4.1.c), (.slice x4.2.1.A x4.2.1.n x4.2.1.c), (.slice x4.2.2.1.A x4.2.2.1.n x4.2.2.1.c), (.slice x4.2.2.2.1.A x4.2.2.2.1.n x4.2.2.2.1.c)] :: .row x4.1.A x4.1.c 3 1 (ii v1) :: .row x4.2.1.A x4.2.1.c 3 1 (ii v2) :: .row x4.2.2.1.A x4.2.2.1.c 3 1 (ii v3) :: .row x4.2.2.2.1.A x4.2.2.2.1.c 3 1 (ii v4) :: .row x4.2.2.2.2.A x4.2.2.2.2.c 3 1 (ii v6) :: .box x3 92 [(.slice a0_A (a0.take 2000).length a0_c), (i6 v8)] :: .box x2 37 [(i6 (0:Int)), (.slice none 0 0), (i6 (0:Int))] :: .box x1 36 [(.slice none 0 0), (.slice none 0 0), (.slice none 0 0), (.slice none 0 0)] :: F)
    refine d_one 3 (by kernel_rfl) ?_
    · refine j_rs (.box x3 92 [(.slice a0_A (a0.take 2000).length a0_c), (i6 v8)] :: .row x8 6 3 1 (ii ([(0:Int), (1:Int), (2:Int), (3:Int), (8:Int), (-1:Int)] : List Int)) :: .box x6 37 [(i6 v5), (.slice x4.2.2.2.2.A x4.2.2.2.2.n x4.2.2.2.2.c), (i6 v7)] :: .box x5 36 [(.slice x4.1.A x4.1.n x4.1.c), (.slice x4.2.1.A x4.2.1.n x4.2.1.c), (.slice x4.2.2.1.A x4.2.2.1.n x4.2.2.1.c), (.slice x4.2.2.2.1.A x4.2.2.2.1.n x4.2.2.2.1.c)] :: .row x4.1.A x4.1.c 3 1 (ii v1) :: .row x4.2.1.A x4.2.1.c 3 1 (ii v2) :: .row x4.2.2.1.A x4.2.2.1.c 3 1 (ii v3) :: .row x4.2.2.2.1.A x4.2.2.2.1.c 3 1 (ii v4) :: .row x4.2.2.2.2.A x4.2.2.2.2.c 3 1 (ii v6) :: .box x2 37 [(i6 (0:Int)), (.slice none 0 0), (i6 (0:Int))] :: .box x1 36 [(.slice none 0 0), (.slice none 0 0), (.slice none 0 0), (.slice none 0 0)] :: F) (fun _ h => h.pick 11 [8, 0, 1, 2, 3, 4, 5, 6, 7, 9, 10] rfl) ?_
      refine o_do rfl (a_call ok42 rfl rfl rfl rfl (fun w hm => spec_l6Wrong.calls K x3 (a0.take 2000) a0_A (a0.take 2000).length a0_c v8 v5 v6 x4.2.2.2.2.A x4.2.2.2.2.n x4.2.2.2.2.c v7 hm rfl (rd_hiI (Rd.drop 10 a0_R) 2000) x4.2.2.2.2.h (Rd.row 7 rfl) hb3)) rfl rfl (fun x7 w h => h.pick 12 [3, 4, 5, 6, 7, 8, 9] rfl) (fun x7 => ?_)
      refine j_rs (.row x7.A x7.c 3 1 (ii v10) :: .row x8 6 3 1 (ii ([(0:Int), (1:Int), (2:Int), (3:Int), (8:Int), (-1:Int)] : List Int)) :: .box x6 37 [(i6 v5), (.slice x4.2.2.2.2.A x4.2.2.2.2.n x4.2.2.2.2.c), (i6 v7)] :: .box x5 36 [(.slice x4.1.A x4.1.n x4.1.c), (.slice x4.2.1.A x4.2.1.n x4.2.1.c), (.slice x4.2.2.1.A x4.2.2.1.n x4.2.2.1.c), (.slice x4.2.2.2.1.A x4.2.2.2.1.n x4.2.2.2.1.c)] :: .row x4.1.A x4.1.c 3 1 (ii v1) :: .row x4.2.1.A x4.2.1.c 3 1 (ii v2) :: .row x4.2.2.1.A x4.2.2.1.c 3 1 (ii v3) :: .row x4.2.2.2.1.A x4.2.2.2.1.c 3 1 (ii v4) :: .row x4.2.2.2.2.A x4.2.2.2.2.c 3 1 (ii v6) :: .box x3 92 [(.slice a0_A (a0.take 2000).length a0_c), (i6 v12)] :: .box x2 37 [(i6 (0:Int)), (.slice none 0 0), (i6 (0:Int))] :: .box x1 36 [(.slice none 0 0), (.slice none 0 0), (.slice none 0 0), (.slice none 0 0)] :: F) (fun _ h => h.pick 12 [0, 2, 3, 4, 5, 6, 7, 8, 9, 1, 10, 11] rfl) ?_
      refine j_env [(2, (pt x1)), (3, (pt x2)), (4, (i6 (0:Int))), (15, (.agg (List.toArray [(.slice x4.1.A x4.1.n x4.1.c), (.slice x4.2.1.A x4.2.1.n x4.2.1.c), (.slice x4.2.2.1.A x4.2.2.1.n x4.2.2.1.c), (.slice x4.2.2.2.1.A x4.2.2.2.1.n x4.2.2.2.1.c)]))), (18, (.agg (List.toArray [(i6 v9), (.slice x7.A x7.n x7.c), (i6 v11)]))), (19, (pt x3)), (20, (.slice x8 6 6))] ⟨rfl, rfl, rfl, rfl, rfl, rfl, rfl, trivial⟩ ?_
      exact hD63 (x7, x8)
  refine d_two 3 5 (by kernel_rfl) ?_ ?_
  · refine j_rs (.box x3 92 [(.slice a0_A (a0.take 2000).length a0_c), (i6 v8)] :: .box x6 37 [(i6 v5), (.slice x4.2.2.2.2.A x4.2.2.2.2.n x4.2.2.2.2.c), (i6 v7)] :: .box x5 36 [(.slice x4.1.A x4.1.n x4.1.c), (.slice x4.2.1.A x4.2.1.n x4.2.1.c), (.slice x4.2.2.1.A x4.2.2.1.n x4.2.2.1.c), (.slice x4.2.2.2.1.A x4.2.2.2.1.n x4.2.2.2.1.c)] :: .row x4.1.A x4.1.c 3 1 (ii v1) :: .row x4.2.1.A x4.2.1.c 3 1 (ii v2) :: .row x4.2.2.1.A x4.2.2.1.c 3 1 (ii v3) :: .row x4.2.2.2.1.A x4.2.2.2.1.c 3 1 (ii v4) :: .row x4.2.2.2.2.A x4.2.2.2.2.c 3 1 (ii v6) :: .box x2 37 [(i6 (0:Int)), (.slice none 0 0), (i6 (0:Int))] :: .box x1 36 [(.slice none 0 0), (.slice none 0 0), (.slice none 0 0), (.slice none 0 0)] :: F) (fun _ h => h.pick 10 [7, 0, 1, 2, 3, 4, 5, 6, 8, 9] rfl) ?_
    refine o_do rfl (a_call ok42 rfl rfl rfl rfl (fun w hm => spec_l6Wrong.calls K x3 (a0.take 2000) a0_A (a0.take 2000).length a0_c v8 v5 v6 x4.2.2.2.2.A x4.2.2.2.2.n x4.2.2.2.2.c v7 hm rfl (rd_hiI (Rd.drop 9 a0_R) 2000) x4.2.2.2.2.h (Rd.row 6 rfl) hb3)) rfl rfl (fun x7 w h => h.pick 11 [2, 3, 4, 5, 6, 7, 8] rfl) (fun x7 => ?_)
    refine j_rs (.row x7.A x7.c 3 1 (ii v10) :: .box x6 37 [(i6 v5), (.slice x4.2.2.2.2.A x4.2.2.2.2.n x4.2.2.2.2.c), (i6 v7)] :: .box x5 36 [(.slice x4.1.A x4.1.n x4.1.c), (.slice x4.2.1.A x4.2.1.n x4.2.1.c), (.slice x4.2.2.1.A x4.2.2.1.n x4.2.2.1.c), (.slice x4.2.2.2.1.A x4.2.2.2.1.n x4.2.2.2.1.c)] :: .row x4.1.A x4.1.c 3 1 (ii v1) :: .row x4.2.1.A x4.2.1.c 3 1 (ii v2) :: .row x4.2.2.1.A x4.2.2.1.c 3 1 (ii v3) :: .row x4.2.2.2.1.A x4.2.2.2.1.c 3 1 (ii v4) :: .row x4.2.2.2.2.A x4.2.2.2.2.c 3 1 (ii v6) :: .box x3 92 [(.slice a0_A (a0.take 2000).length a0_c), (i6 v12)] :: .box x2 37 [(i6 (0:Int)), (.slice none 0 0), (i6 (0:Int))] :: .box x1 36 [(.slice none 0 0), (.slice none 0 0), (.slice none 0 0), (.slice none 0 0)] :: F) (fun _ h => h.pick 11 [0, 2, 3, 4, 5, 6, 7, 8, 1, 9, 10] rfl) ?_
    refine j_env [(2, (pt x1)), (3, (pt x2)), (4, (i6 (0:Int))), (15, (.agg (List.toArray [(.slice x4.1.A x4.1.n x4.1.c), (.slice x4.2.1.A x4.2.1.n x4.2.1.c), (.slice x4.2.2.1.A x4.2.2.1.n x4.2.2.1.c), (.slice x4.2.2.2.1.A x4.2.2.2.1.n x4.2.2.2.1.c)]))), (18, (.agg (List.toArray [(i6 v9), (.slice x7.A x7.n x7.c), (i6 v11)]))), (19, (pt x3))] ⟨rfl, rfl, rfl, rfl, rfl, rfl, trivial⟩ ?_
    exact hD31 x7
  · refine o_do rfl (a_litX (vs := [(i6 (0:Int)), (i6 (1:Int)), (i6 (2:Int)), (i6 (3:Int)), (i6 (8:Int)), (i6 (-1:Int))]) (ii ([(0:Int), (1:Int), (2:Int), (3:Int), (8:Int), (-1:Int)] : List Int)) un22 sz3 zr3 rfl rfl rfl rfl rfl rfl rfl rfl rfl) rfl rfl (fun x8 w h => h.pick 11 [1, 2, 3, 4, 5, 6, 7] rfl) (fun x8 => ?_)
    refine j_rs (.row x8 6 3 1 (ii ([(0:Int), (1:Int), (2:Int), (3:Int), (8:Int), (-1:Int)] : List Int)) :: .box x6 37 [(i6 v5), (.slice x4.2.2.2.2.A x4.2.2.2.2.n x4.2.2.2.2.c), (i6 v7)] :: .box x5 36 [(.slice x4.1.A x4.1.n x4.1.c), (.slice x4.2.1.A x4.2.1.n x4.2.1.c), (.slice x4.2.2.1.A x4.2.2.1.n x4.2.2.1.c), (.slice x4.2.2.2.1.A x4.2.2.2.1.n x4.2.2.2.1.c)] :: .row x4.1.A x4.1.c 3 1 (ii v1) :: .row x4.2.1.A x4.2.1.c 3 1 (ii v2) :: .row x4.2.2.1.A x4.2.2.1.c 3 1 (ii v3) :: .row x4.2.2.2.1.A x4.2.2.2.1.c 3 1 (ii v4) :: .row x4.2.2.2.2.A x4.2.2.2.2.c 3 1 (ii v6) :: .box x3 92 [(.slice a0_A (a0.take 2000).length a0_c), (i6 v8)] :: .box x2 37 [(i6 (0:Int)), (.slice none 0 0), (i6 (0:Int))] :: .box x1 36 [(.slice none 0 0), (.slice none 0 0), (.slice none 0 0), (.slice none 0 0)] :: F) (fun _ h => h) ?_
    refine j_env [(2, (pt x1)), (3, (pt x2)), (4, (i6 (0:Int))), (15, (.agg (List.toArray [(.slice x4.1.A x4.1.n x4.1.c), (.slice x4.2.1.A x4.2.1.n x4.2.1.c), (.slice x4.2.2.1.A x4.2.2.1.n x4.2.2.1.c), (.slice x4.2.2.2.1.A x4.2.2.2.1.n x4.2.2.2.1.c)]))), (16, (pt x3)), (17, (.agg (List.toArray [(i6 v5), (.slice x4.2.2.2.2.A x4.2.2.2.2.n x4.2.2.2.2.c), (i6 v7)]))), (19, (pt x3)), (20, (.slice x8 6 6))] ⟨rfl, rfl, rfl, rfl, rfl, rfl, rfl, rfl, trivial⟩ ?_
    exact hD55 x8

theorem spec_DrawSweptCell.calls (K : Nat) (a0 : List Int) (a0_A : Option Addr) (a0_n a0_c : Nat) {w0 w : World} {F : List Res} {r1 : List Int} {r2 : List Int} {r3 : List Int} {r4 : List Int} {r5 : Int} {r6 : List Int} {r7 : Int} (hm : Mem w0 (F) w) (a0_h : a0.length = a0_n) (a0_R : Rd w0 F a0_A (ints .u8 a0)) (a0_k : a0.length ≤ a0_c) (h : spec_DrawSweptCell.f K a0 = some (r1, r2, r3, r4, r5, r6, r7)) :
    Calls Try.prog 22 (List.toArray [.slice a0_A a0_n a0_c]) w fun e w' => ∃ x : (Sl r1.length) × (Sl r2.length) × (Sl r3.length) × (Sl r4.length) × (Sl r6.length), e = .returned (.tuple (List.toArray [.agg (List.toArray [.slice x.1.A x.1.n x.1.c, .slice x.2.1.A x.2.1.n x.2.1.c, .slice x.2.2.1.A x.2.2.1.n x.2.2.1.c, .slice x.2.2.2.1.A x.2.2.2.1.n x.2.2.2.1.c]), .agg (List.toArray [i6 r5, .slice x.2.2.2.2.A x.2.2.2.2.n x.2.2.2.2.c, i6 r7])])) ∧ Mem w0 (.row x.1.A x.1.c 3 1 (ii r1) :: .row x.2.1.A x.2.1.c 3 1 (ii r2) :: .row x.2.2.1.A x.2.2.1.c 3 1 (ii r3) :: .row x.2.2.2.1.A x.2.2.2.1.c 3 1 (ii r4) :: .row x.2.2.2.2.A x.2.2.2.2.c 3 1 (ii r6) :: F) w' := by
  unfold spec_DrawSweptCell.f at h
  refine calls_of_J (n := 15) Try.func22 rfl rfl rfl hm ?_
  refine j_seq ?_
  refine j_region ?_
  refine r_do (a_alloc zr36 rfl) rfl rfl (fun x1 => ?_)
  refine r_do (a_alloc zr37 rfl) rfl rfl (fun x2 => ?_)
  refine r_nil ?_
  refine j_then ?_
  refine j_seq ?_
  refine j_region ?_
  refine r_q (q_move rfl rfl) rfl rfl ?_
  obtain ⟨v1, v2, v3, v4, v5, v6, v7, v8, hb1, h⟩ := of_b8 h
  refine r_do (a_call ok54 rfl rfl rfl rfl (fun w hm => spec_l6Case.calls K a0 a0_A a0_n a0_c hm a0_h (Rd.drop 2 a0_R) a0_k hb1)) rfl rfl (fun x3 => ?_)
  refine r_q (q_move rfl rfl) rfl rfl ?_
  refine r_q (q_extract rfl rfl rfl) rfl rfl ?_
  refine r_q (q_extract rfl rfl rfl) rfl rfl ?_
  refine r_q (q_extract rfl rfl rfl) rfl rfl ?_
  refine r_do (a_alloc zr36 rfl) rfl rfl (fun x4 => ?_)
  refine r_do (a_alloc zr37 rfl) rfl rfl (fun x5 => ?_)
  refine r_do (a_storeb 1 rfl sz36 rfl rfl rfl rfl (Nat.le_of_ble_eq_true rfl) rfl) rfl rfl (fun _ => ?_)
  refine j_b1 [(.slice x3.1.A x3.1.n x3.1.c), (.slice x3.2.1.A x3.2.1.n x3.2.1.c), (.slice x3.2.2.1.A x3.2.2.1.n x3.2.2.1.c), (.slice x3.2.2.2.1.A x3.2.2.2.1.n x3.2.2.2.1.c)] rfl ?_
  refine r_do (a_storeb 0 rfl sz37 rfl rfl rfl rfl (Nat.le_of_ble_eq_true rfl) rfl) rfl rfl (fun _ => ?_)
  refine j_b0 [(i6 v5), (.slice x3.2.2.2.2.A x3.2.2.2.2.n x3.2.2.2.2.c), (i6 v7)] rfl ?_
  refine r_q (q_assign rfl rfl) rfl rfl ?_
  refine r_nil ?_
  refine j_then ?_
  refine j_seq ?_
  refine j_draw (.box x5 37 [(i6 v5), (.slice x3.2.2.2.2.A x3.2.2.2.2.n x3.2.2.2.2.c), (i6 v7)] :: .box x4 36 [(.slice x3.1.A x3.1.n x3.1.c), (.slice x3.2.1.A x3.2.1.n x3.2.1.c), (.slice x3.2.2.1.A x3.2.2.1.n x3.2.2.1.c), (.slice x3.2.2.2.1.A x3.2.2.2.1.n x3.2.2.2.1.c)] :: .row x3.1.A x3.1.c 3 1 (ii v1) :: .row x3.2.1.A x3.2.1.c 3 1 (ii v2) :: .row x3.2.2.1.A x3.2.2.1.c 3 1 (ii v3) :: .row x3.2.2.2.1.A x3.2.2.2.1.c 3 1 (ii v4) :: .row x3.2.2.2.2.A x3.2.2.2.2.c 3 1 (ii v6) :: F) 4 follows_any rfl ?_
  refine d_take 0 rfl (q_loadb_agg 1 rfl ag36 sz36 rfl rfl rfl rfl) rfl rfl (by kernel_rfl) (by kernel_rfl) (by kernel_rfl) (fun w h => h.pick 9 [0, 1, 2, 3, 4, 5, 6] rfl) ?_
  refine d_take 1 rfl (q_loadb_agg 0 rfl ag37 sz37 rfl rfl rfl rfl) rfl rfl (by kernel_rfl) (by kernel_rfl) (by kernel_rfl) (fun w h => h.pick 9 [0, 1, 2, 3, 4, 5, 6] rfl) ?_
  refine d_one 2 (by kernel_rfl) ?_
  refine o_do rfl (a_storeb 8 rfl sz36 rfl rfl rfl rfl (Nat.le_of_ble_eq_true rfl) rfl) rfl rfl (fun _ w h => h.pick 9 [0, 1, 2, 3, 4, 5, 6] rfl) (fun _ => ?_)
  refine j_b8 [(.slice x3.1.A x3.1.n x3.1.c), (.slice x3.2.1.A x3.2.1.n x3.2.1.c), (.slice x3.2.2.1.A x3.2.2.1.n x3.2.2.1.c), (.slice x3.2.2.2.1.A x3.2.2.2.1.n x3.2.2.2.1.c)] rfl ?_
  refine d_one 3 (by kernel_rfl) ?_
  refine o_do rfl (a_storeb 7 rfl sz37 rfl rfl rfl rfl (Nat.le_of_ble_eq_true rfl) rfl) rfl rfl (fun _ w h => h.pick 9 [0, 1, 2, 3, 4, 5, 6] rfl) (fun _ => ?_)
  refine j_b7 [(i6 v5), (.slice x3.2.2.2.2.A x3.2.2.2.2.n x3.2.2.2.2.c), (i6 v7)] rfl ?_
  refine d_done (by kernel_rfl) ?_
  refine j_then ?_
  refine j_ret ?_
  cases h
  exact j_return rfl (ResOf.cell 8 rfl rfl ag36 sz36 (ResOf.cell 7 rfl rfl ag37 sz37 ResOf.nil)) rfl (fun w h => ⟨(⟨x3.1.A, x3.1.n, x3.1.c, x3.1.h⟩, ⟨x3.2.1.A, x3.2.1.n, x3.2.1.c, x3.2.1.h⟩, ⟨x3.2.2.1.A, x3.2.2.1.n, x3.2.2.1.c, x3.2.2.1.h⟩, ⟨x3.2.2.2.1.A, x3.2.2.2.1.n, x3.2.2.2.1.c, x3.2.2.2.1.h⟩, ⟨x3.2.2.2.2.A, x3.2.2.2.2.n, x3.2.2.2.2.c, x3.2.2.2.2.h⟩), rfl, h.pick 9 [2, 3, 4, 5, 6] rfl⟩)

theorem impl_SweptCell.calls (K : Nat) (a0_0 : List Int) (a0_0_A : Option Addr) (a0_0_n a0_0_c : Nat) (a0_1 : List Int) (a0_1_A : Option Addr) (a0_1_n a0_1_c : Nat) (a0_2 : List Int) (a0_2_A : Option Addr) (a0_2_n a0_2_c : Nat) (a0_3 : List Int) (a0_3_A : Option Addr) (a0_3_n a0_3_c : Nat) (a1_0 : Int) (a1_1 : List Int) (a1_1_A : Option Addr) (a1_1_n a1_1_c : Nat) (a1_2 : Int) {w0 w : World} {F : List Res} {r1 : Int} (hm : Mem w0 (F) w) (a0_0_h : a0_0.length = a0_0_n) (a0_0_R : Rd w0 F a0_0_A (ii a0_0)) (a0_1_h : a0_1.length = a0_1_n) (a0_1_R : Rd w0 F a0_1_A (ii a0_1)) (a0_2_h : a0_2.length = a0_2_n) (a0_2_R : Rd w0 F a0_2_A (ii a0_2)) (a0_3_h : a0_3.length = a0_3_n) (a0_3_R : Rd w0 F a0_3_A (ii a0_3)) (a0_3_k : a0_3.length ≤ a0_3_c) (a1_1_h : a1_1.length = a1_1_n) (a1_1_R : Rd w0 F a1_1_A (ii a1_1)) (h : impl_SweptCell.f K a0_0 a0_1 a0_2 a0_3 a1_0 a1_1 a1_2 = some r1) :
    Calls Try.prog 23 (List.toArray [.agg (List.toArray [.slice a0_0_A a0_0_n a0_0_c, .slice a0_1_A a0_1_n a0_1_c, .slice a0_2_A a0_2_n a0_2_c, .slice a0_3_A a0_3_n a0_3_c]), .agg (List.toArray [i6 a1_0, .slice a1_1_A a1_1_n a1_1_c, i6 a1_2])]) w fun e w' => ∃ x : Unit, e = .returned (i6 r1) ∧ Mem w0 (F) w' := by
  unfold impl_SweptCell.f at h
  refine calls_of_J (n := 32) Try.func23 rfl rfl rfl hm ?_
  refine j_seq ?_
  refine j_region ?_
  refine r_do (a_box rfl rfl) rfl rfl (fun x1 => ?_)
  refine r_do (a_box rfl rfl) rfl rfl (fun x2 => ?_)
  refine r_q (q_assign rfl rfl) rfl rfl ?_
  refine r_nil ?_
  refine j_then ?_
  refine j_seq ?_
  refine j_seq ?_
  refine j_region ?_
  refine r_q (q_loadb_agg 1 rfl ag36 sz36 rfl rfl rfl rfl) rfl rfl ?_
  refine r_q (q_loadb_agg 0 rfl ag37 sz37 rfl rfl rfl rfl) rfl rfl ?_
  obtain ⟨v1, hb1, h⟩ := of_b1 h
  refine r_do (a_call ok25 rfl rfl rfl rfl (fun w hm => impl_GcValid.calls K a0_0 a0_0_A a0_0_n a0_0_c a0_1 a0_1_A a0_1_n a0_1_c a0_2 a0_2_A a0_2_n a0_2_c a0_3 a0_3_A a0_3_n a0_3_c a1_0 a1_1 a1_1_A a1_1_n a1_1_c a1_2 hm a0_0_h (Rd.drop 2 a0_0_R) a0_1_h (Rd.drop 2 a0_1_R) a0_2_h (Rd.drop 2 a0_2_R) a0_3_h (Rd.drop 2 a0_3_R) a0_3_k a1_1_h (Rd.drop 2 a1_1_R) hb1)) rfl rfl (fun x3 => ?_)
  refine r_q (q_not rfl rfl) rfl rfl ?_
  refine r_q (q_move rfl rfl) rfl rfl ?_
  rcases of_if h with ⟨c1, h⟩ | ⟨c1, h⟩
  · refine r_qon (q_fieldAddr fi37_0 sz3 rfl rfl rfl) rfl rfl rfl rfl (not_f c1) rfl ?_
    refine r_qon (q_loadb 0 rfl ag3 rfl rfl rfl) rfl rfl rfl rfl (not_f c1) rfl ?_
    refine r_qon (q_neq rfl rfl rfl) rfl rfl rfl rfl (not_f c1) rfl ?_
    refine r_q (q_pick_f rfl rfl (not_f c1) rfl) rfl rfl ?_
    refine r_q (q_move rfl rfl) rfl rfl ?_
    rcases of_if h with ⟨c2, h⟩ | ⟨c2, h⟩
    · refine r_qon (q_fieldAddr fi37_1 sz22 rfl rfl rfl) rfl rfl rfl rfl (bne_f c2) rfl ?_
      refine r_qon (q_loadb 0 rfl ag22 rfl rfl rfl) rfl rfl rfl rfl (bne_f c2) rfl ?_
      refine r_qon (q_fieldAddr fi37_2 sz3 rfl rfl rfl) rfl rfl rfl rfl (bne_f c2) rfl ?_
      refine r_qon (q_loadb 0 rfl ag3 rfl rfl rfl) rfl rfl rfl rfl (bne_f c2) rfl ?_
      obtain ⟨c3, h⟩ := of_guard h
      refine r_qon (q_ix (Rd.drop 2 a1_1_R) (ints_len1 _ a1_1) (by decide) a1_1_h c3 un22 sz3 rfl rfl rfl) rfl rfl rfl rfl (bne_f c2) rfl ?_
      refine r_qon (q_ldI (Rd.drop 2 a1_1_R) c3 ag3 rfl rfl) rfl rfl rfl rfl (bne_f c2) rfl ?_
      refine r_qon (q_neq rfl rfl rfl) rfl rfl rfl rfl (bne_f c2) rfl ?_
      refine r_q (q_pick_f rfl rfl (bne_f c2) rfl) rfl rfl ?_
      refine r_q (q_move rfl rfl) rfl rfl ?_
      rcases of_if h with ⟨c4, h⟩ | ⟨c4, h⟩
      · refine r_qon (q_fieldAddr fi36_1 sz22 rfl rfl rfl) rfl rfl rfl rfl (bne_f c4) rfl ?_
        refine r_qon (q_loadb 1 rfl ag22 rfl rfl rfl) rfl rfl rfl rfl (bne_f c4) rfl ?_
        refine r_qon (q_fieldAddr fi37_2 sz3 rfl rfl rfl) rfl rfl rfl rfl (bne_f c4) rfl ?_
        refine r_qon (q_loadb 0 rfl ag3 rfl rfl rfl) rfl rfl rfl rfl (bne_f c4) rfl ?_
        obtain ⟨v2, hb2, h⟩ := of_b1 h
        refine r_on (a_call ok55 rfl rfl rfl rfl (fun w hm => slices_Contains_int.calls K a0_3 a0_3_A a0_3_n a0_3_c a1_2 hm a0_3_h (Rd.drop 2 a0_3_R) hb2)) rfl rfl rfl rfl (bne_f c4) rfl (fun x4 => ?_)
        refine r_q (q_pick_f rfl rfl (bne_f c4) rfl) rfl rfl ?_
        refine r_nil ?_
        refine j_then ?_
        rcases of_if h with ⟨c5, h⟩ | ⟨c5, h⟩
        · refine j_true rfl c5 ?_
          refine j_seq ?_
          refine j_region ?_
          refine r_q (q_assign rfl rfl) rfl rfl ?_
          refine r_nil ?_
          refine j_then ?_
          refine j_ret ?_
          refine j_then_ret ?_
          cases h
          exact j_return rfl (ResOf.tmp rfl ResOf.nil) rfl (fun w h => ⟨(), rfl, (h.drop 2)⟩)
        · refine j_false rfl (var_f c5) ?_
          refine j_skip ?_
          refine j_then ?_
          refine j_seq ?_
          refine j_region ?_
          refine r_q (q_fieldAddr fi37_2 sz3 rfl rfl rfl) rfl rfl ?_
          refine r_q (q_loadb 0 rfl ag3 rfl rfl rfl) rfl rfl ?_
          refine r_q (q_assign rfl rfl) rfl rfl ?_
          refine r_nil ?_
          refine j_then ?_
          refine j_ret ?_
          cases h
          exact j_return rfl (ResOf.tmp rfl ResOf.nil) rfl (fun w h => ⟨(), rfl, (h.drop 2)⟩)
      · refine r_off rfl rfl rfl rfl (bne_t c4) rfl ?_
        refine r_off rfl rfl rfl rfl (bne_t c4) rfl ?_
        refine r_off rfl rfl rfl rfl (bne_t c4) rfl ?_
        refine r_off rfl rfl rfl rfl (bne_t c4) rfl ?_
        refine r_off rfl rfl rfl rfl (bne_t c4) rfl ?_
        refine r_q (q_pick_t rfl rfl (bne_t c4) rfl) rfl rfl ?_
        refine r_nil ?_
        refine j_then ?_
        refine j_true rfl rfl ?_
        refine j_seq ?_
        refine j_region ?_
        refine r_q (q_assign rfl rfl) rfl rfl ?_
        refine r_nil ?_
        refine j_then ?_
        refine j_ret ?_
        refine j_then_ret ?_
        cases h
        exact j_return rfl (ResOf.tmp rfl ResOf.nil) rfl (fun w h => ⟨(), rfl, (h.drop 2)⟩)
    · refine r_off rfl rfl rfl rfl (bne_t c2) rfl ?_
      refine r_off rfl rfl rfl rfl (bne_t c2) rfl ?_
      refine r_off rfl rfl rfl rfl (bne_t c2) rfl ?_
      refine r_off rfl rfl rfl rfl (bne_t c2) rfl ?_
      refine r_off rfl rfl rfl rfl (bne_t c2) rfl ?_
      refine r_off rfl rfl rfl rfl (bne_t c2) rfl ?_
      refine r_off rfl rfl rfl rfl (bne_t c2) rfl ?_
      refine r_q (q_pick_t rfl rfl (bne_t c2) rfl) rfl rfl ?_
      refine r_q (q_move rfl rfl) rfl rfl ?_
      refine r_off rfl rfl rfl rfl rfl rfl ?_
      refine r_off rfl rfl rfl rfl rfl rfl ?_
      refine r_off rfl rfl rfl rfl rfl rfl ?_
      refine r_off rfl rfl rfl rfl rfl rfl ?_
      refine r_off rfl rfl rfl rfl rfl rfl ?_
      refine r_q (q_pick_t rfl rfl rfl rfl) rfl rfl ?_
      refine r_nil ?_
      refine j_then ?_
      refine j_true rfl rfl ?_
      refine j_seq ?_
      refine j_region ?_
      refine r_q (q_assign rfl rfl) rfl rfl ?_
      refine r_nil ?_
      refine j_then ?_
      refine j_ret ?_
      refine j_then_ret ?_
      cases h
      exact j_return rfl (ResOf.tmp rfl ResOf.nil) rfl (fun w h => ⟨(), rfl, (h.drop 2)⟩)
  · refine r_off rfl rfl rfl rfl (not_t (var_f c1)) rfl ?_
    refine r_off rfl rfl rfl rfl (not_t (var_f c1)) rfl ?_
    refine r_off rfl rfl rfl rfl (not_t (var_f c1)) rfl ?_
    refine r_q (q_pick_t rfl rfl (not_t (var_f c1)) rfl) rfl rfl ?_
    refine r_q (q_move rfl rfl) rfl rfl ?_
    refine r_off rfl rfl rfl rfl rfl rfl ?_
    refine r_off rfl rfl rfl rfl rfl rfl ?_
    refine r_off rfl rfl rfl rfl rfl rfl ?_
    refine r_off rfl rfl rfl rfl rfl rfl ?_
    refine r_off rfl rfl rfl rfl rfl rfl ?_
    refine r_off rfl rfl rfl rfl rfl rfl ?_
    refine r_off rfl rfl rfl rfl rfl rfl ?_
    refine r_q (q_pick_t rfl rfl rfl rfl) rfl rfl ?_
    refine r_q (q_move rfl rfl) rfl rfl ?_
    refine r_off rfl rfl rfl rfl rfl rfl ?_
    refine r_off rfl rfl rfl rfl rfl rfl ?_
    refine r_off rfl rfl rfl rfl rfl rfl ?_
    refine r_off rfl rfl rfl rfl rfl rfl ?_
    refine r_off rfl rfl rfl rfl rfl rfl ?_
    refine r_q (q_pick_t rfl rfl rfl rfl) rfl rfl ?_
    refine r_nil ?_
    refine j_then ?_
    refine j_true rfl rfl ?_
    refine j_seq ?_
    refine j_region ?_
    refine r_q (q_assign rfl rfl) rfl rfl ?_
    refine r_nil ?_
    refine j_then ?_
    refine j_ret ?_
    refine j_then_ret ?_
    cases h
    exact j_return rfl (ResOf.tmp rfl ResOf.nil) rfl (fun w h => ⟨(), rfl, (h.drop 2)⟩)

theorem spec_SweptCell.calls (K : Nat) (a0_0 : List Int) (a0_0_A : Option Addr) (a0_0_n a0_0_c : Nat) (a0_1 : List Int) (a0_1_A : Option Addr) (a0_1_n a0_1_c : Nat) (a0_2 : List Int) (a0_2_A : Option Addr) (a0_2_n a0_2_c : Nat) (a0_3 : List Int) (a0_3_A : Option Addr) (a0_3_n a0_3_c : Nat) (a1_0 : Int) (a1_1 : List Int) (a1_1_A : Option Addr) (a1_1_n a1_1_c : Nat) (a1_2 : Int) {w0 w : World} {F : List Res} {r1 : Int} (hm : Mem w0 (F) w) (a0_0_h : a0_0.length = a0_0_n) (a0_0_R : Rd w0 F a0_0_A (ii a0_0)) (a0_1_h : a0_1.length = a0_1_n) (a0_1_R : Rd w0 F a0_1_A (ii a0_1)) (a0_2_h : a0_2.length = a0_2_n) (a0_2_R : Rd w0 F a0_2_A (ii a0_2)) (a0_3_h : a0_3.length = a0_3_n) (a0_3_R : Rd w0 F a0_3_A (ii a0_3)) (a0_3_k : a0_3.length ≤ a0_3_c) (a1_1_h : a1_1.length = a1_1_n) (a1_1_R : Rd w0 F a1_1_A (ii a1_1)) (h : spec_SweptCell.f K a0_0 a0_1 a0_2 a0_3 a1_0 a1_1 a1_2 = some r1) :
    Calls Try.prog 24 (List.toArray [.agg (List.toArray [.slice a0_0_A a0_0_n a0_0_c, .slice a0_1_A a0_1_n a0_1_c, .slice a0_2_A a0_2_n a0_2_c, .slice a0_3_A a0_3_n a0_3_c]), .agg (List.toArray [i6 a1_0, .slice a1_1_A a1_1_n a1_1_c, i6 a1_2])]) w fun e w' => ∃ x : Unit, e = .returned (i6 r1) ∧ Mem w0 (F) w' := by
  unfold spec_SweptCell.f at h
  refine calls_of_J (n := 12) Try.func24 rfl rfl rfl hm ?_
  refine j_seq ?_
  refine j_region ?_
  refine r_do (a_box rfl rfl) rfl rfl (fun x1 => ?_)
  refine r_do (a_box rfl rfl) rfl rfl (fun x2 => ?_)
  refine r_q (q_assign rfl rfl) rfl rfl ?_
  refine r_nil ?_
  refine j_then ?_
  refine j_seq ?_
  refine j_seq ?_
  refine j_region ?_
  refine r_q (q_loadb_agg 1 rfl ag36 sz36 rfl rfl rfl rfl) rfl rfl ?_
  refine r_q (q_loadb_agg 0 rfl ag37 sz37 rfl rfl rfl rfl) rfl rfl ?_
  obtain ⟨v1, hb1, h⟩ := of_b1 h
  refine r_do (a_call ok56 rfl rfl rfl rfl (fun w hm => spec_GcValid.calls K a0_0 a0_0_A a0_0_n a0_0_c a0_1 a0_1_A a0_1_n a0_1_c a0_2 a0_2_A a0_2_n a0_2_c a0_3 a0_3_A a0_3_n a0_3_c a1_0 a1_1 a1_1_A a1_1_n a1_1_c a1_2 hm a0_0_h (Rd.drop 2 a0_0_R) a0_1_h (Rd.drop 2 a0_1_R) a0_2_h (Rd.drop 2 a0_2_R) a0_3_h (Rd.drop 2 a0_3_R) a0_3_k a1_1_h (Rd.drop 2 a1_1_R) hb1)) rfl rfl (fun x3 => ?_)
  refine r_q (q_not rfl rfl) rfl rfl ?_
  refine r_nil ?_
  refine j_then ?_
  rcases of_if h with ⟨c1, h⟩ | ⟨c1, h⟩
  · refine j_false rfl (not_f c1) ?_
    refine j_skip ?_
    refine j_then ?_
    refine j_seq ?_
    refine j_region ?_
    refine r_q (q_loadb_agg 1 rfl ag36 sz36 rfl rfl rfl rfl) rfl rfl ?_
    refine r_q (q_loadb_agg 0 rfl ag37 sz37 rfl rfl rfl rfl) rfl rfl ?_
    obtain ⟨v2, hb2, h⟩ := of_b1 h
    refine r_do (a_call ok57 rfl rfl rfl rfl (fun w hm => spec_l6Swept.calls K a0_0_A a0_0_n a0_0_c a0_1_A a0_1_n a0_1_c a0_2_A a0_2_n a0_2_c a0_3 a0_3_A a0_3_n a0_3_c a1_0 a1_1 a1_1_A a1_1_n a1_1_c a1_2 hm a0_3_h (Rd.drop 2 a0_3_R) a1_1_h (Rd.drop 2 a1_1_R) hb2)) rfl rfl (fun x4 => ?_)
    refine r_q (q_assign rfl rfl) rfl rfl ?_
    refine r_nil ?_
    refine j_then ?_
    refine j_ret ?_
    cases h
    exact j_return rfl (ResOf.tmp rfl ResOf.nil) rfl (fun w h => ⟨(), rfl, (h.drop 2)⟩)
  · refine j_true rfl (not_t (var_f c1)) ?_
    refine j_seq ?_
    refine j_region ?_
    refine r_q (q_assign rfl rfl) rfl rfl ?_
    refine r_nil ?_
    refine j_then ?_
    refine j_ret ?_
    refine j_then_ret ?_
    cases h
    exact j_return rfl (ResOf.tmp rfl ResOf.nil) rfl (fun w h => ⟨(), rfl, (h.drop 2)⟩)

theorem impl_IsFree.calls (K : Nat) (a0_0 : List Int) (a0_0_A : Option Addr) (a0_0_n a0_0_c : Nat) (a0_1 : List Int) (a0_1_A : Option Addr) (a0_1_n a0_1_c : Nat) (a0_2 : List Int) (a0_2_A : Option Addr) (a0_2_n a0_2_c : Nat) (a0_3 : List Int) (a0_3_A : Option Addr) (a0_3_n a0_3_c : Nat) (a1 : Int) {w0 w : World} {F : List Res} {r1 : Bool} (hm : Mem w0 (F) w) (a0_0_h : a0_0.length = a0_0_n) (a0_0_R : Rd w0 F a0_0_A (ii a0_0)) (a0_1_h : a0_1.length = a0_1_n) (a0_1_R : Rd w0 F a0_1_A (ii a0_1)) (a0_2_h : a0_2.length = a0_2_n) (a0_2_R : Rd w0 F a0_2_A (ii a0_2)) (a0_3_h : a0_3.length = a0_3_n) (a0_3_R : Rd w0 F a0_3_A (ii a0_3)) (a0_3_k : a0_3.length ≤ a0_3_c) (h : impl_IsFree.f K a0_0 a0_1 a0_2 a0_3 a1 = some r1) :
    Calls Try.prog 26 (List.toArray [.agg (List.toArray [.slice a0_0_A a0_0_n a0_0_c, .slice a0_1_A a0_1_n a0_1_c, .slice a0_2_A a0_2_n a0_2_c, .slice a0_3_A a0_3_n a0_3_c]), i6 a1]) w fun e w' => ∃ x : Unit, e = .returned (.bool r1) ∧ Mem w0 (F) w' := by
  unfold impl_IsFree.f at h
  refine calls_of_J (n := 13) Try.func26 rfl rfl rfl hm ?_
  refine j_seq ?_
  refine j_region ?_
  refine r_do (a_box rfl rfl) rfl rfl (fun x1 => ?_)
  refine r_q (q_assign rfl rfl) rfl rfl ?_
  refine r_nil ?_
  refine j_then ?_
  refine j_seq ?_
  refine j_region ?_
  refine r_q (q_loadb_agg 0 rfl ag36 sz36 rfl rfl rfl rfl) rfl rfl ?_
  obtain ⟨v1, hb1, h⟩ := of_b1 h
  refine r_do (a_call ok58 rfl rfl rfl rfl (fun w hm => impl_StoreValid.calls K a0_0 a0_0_A a0_0_n a0_0_c a0_1 a0_1_A a0_1_n a0_1_c a0_2 a0_2_A a0_2_n a0_2_c a0_3 a0_3_A a0_3_n a0_3_c hm a0_0_h (Rd.drop 1 a0_0_R) a0_1_h (Rd.drop 1 a0_1_R) a0_2_h (Rd.drop 1 a0_2_R) a0_3_h (Rd.drop 1 a0_3_R) a0_3_k hb1)) rfl rfl (fun x2 => ?_)
  refine r_q (q_move rfl rfl) rfl rfl ?_
  rcases of_if h with ⟨c1, h⟩ | ⟨c1, h⟩
  · refine r_qon (q_fieldAddr fi36_1 sz22 rfl rfl rfl) rfl rfl rfl rfl c1 rfl ?_
    refine r_qon (q_loadb 0 rfl ag22 rfl rfl rfl) rfl rfl rfl rfl c1 rfl ?_
    refine r_qon (q_move rfl rfl) rfl rfl rfl rfl c1 rfl ?_
    obtain ⟨v2, hb2, h⟩ := of_b1 h
    refine r_on (a_call ok55 rfl rfl rfl rfl (fun w hm => slices_Contains_int.calls K a0_3 a0_3_A a0_3_n a0_3_c a1 hm a0_3_h (Rd.drop 1 a0_3_R) hb2)) rfl rfl rfl rfl c1 rfl (fun x3 => ?_)
    refine r_q (q_pick_t rfl rfl c1 rfl) rfl rfl ?_
    refine r_q (q_assign rfl rfl) rfl rfl ?_
    refine r_nil ?_
    refine j_then ?_
    refine j_ret ?_
    cases h
    exact j_return rfl (ResOf.tmp rfl ResOf.nil) rfl (fun w h => ⟨(), rfl, h.tail⟩)
  · refine r_off rfl rfl rfl rfl (var_f c1) rfl ?_
    refine r_off rfl rfl rfl rfl (var_f c1) rfl ?_
    refine r_off rfl rfl rfl rfl (var_f c1) rfl ?_
    refine r_off rfl rfl rfl rfl (var_f c1) rfl ?_
    refine r_q (q_pick_f rfl rfl (var_f c1) rfl) rfl rfl ?_
    refine r_q (q_assign rfl rfl) rfl rfl ?_
    refine r_nil ?_
    refine j_then ?_
    refine j_ret ?_
    cases h
    exact j_return rfl (ResOf.tmp rfl ResOf.nil) rfl (fun w h => ⟨(), rfl, h.tail⟩)

theorem laws_FnSweptCell.calls (K : Nat) (a0 : List Int) (a0_A : Option Addr) (a0_n a0_c : Nat) {w0 w : World} {F : List Res} {r1 : Bool} (hm : Mem w0 (F) w) (a0_h : a0.length = a0_n) (a0_R : Rd w0 F a0_A (ints .u8 a0)) (a0_k : a0.length ≤ a0_c) (h : laws_FnSweptCell.f K a0 = some r1) :
    Calls Try.prog 6 (List.toArray [.slice a0_A a0_n a0_c]) w fun e w' => ∃ x : Unit, e = .returned (.bool r1) ∧ Mem w0 (F) w' := by
  unfold laws_FnSweptCell.f at h
  refine calls_of_J (n := 59) Try.func6 rfl rfl rfl hm ?_
  refine j_seq ?_
  refine j_region ?_
  refine r_q (q_assign rfl rfl) rfl rfl ?_
  refine r_nil ?_
  refine j_then ?_
  refine j_seq ?_
  refine j_seq ?_
  refine j_region ?_
  refine r_q (q_move rfl rfl) rfl rfl ?_
  refine r_q (q_lenX a0 a0_h un43 rfl rfl rfl rfl rfl) rfl rfl ?_
  refine r_q (q_gtr rfl rfl rfl) rfl rfl ?_
  refine r_nil ?_
  refine j_then ?_
  rcases of_if h with ⟨c1, h⟩ | ⟨c1, h⟩
  · refine j_true rfl (decide_eq_true c1) ?_
    refine j_seq ?_
    refine j_region ?_
    refine r_q (q_assign rfl rfl) rfl rfl ?_
    refine r_nil ?_
    refine j_then ?_
    refine j_ret ?_
    refine j_then_ret ?_
    cases h
    exact j_return rfl (ResOf.tmp rfl ResOf.nil) rfl (fun w h => ⟨(), rfl, h⟩)
  · refine j_false rfl (decide_eq_false c1) ?_
    refine j_skip ?_
    refine j_then ?_
    refine j_seq ?_
    refine j_region ?_
    refine r_q (q_move rfl rfl) rfl rfl ?_
    obtain ⟨v1, v2, v3, v4, v5, v6, v7, hb1, h⟩ := of_b7 h
    refine r_do (a_call ok22 rfl rfl rfl rfl (fun w hm => spec_DrawSweptCell.calls K a0 a0_A a0_n a0_c hm a0_h a0_R a0_k hb1)) rfl rfl (fun x1 => ?_)
    refine r_q (q_move rfl rfl) rfl rfl ?_
    refine r_q (q_extract rfl rfl rfl) rfl rfl ?_
    refine r_q (q_extract rfl rfl rfl) rfl rfl ?_
    refine r_do (a_alloc zr36 rfl) rfl rfl (fun x2 => ?_)
    refine r_do (a_alloc zr37 rfl) rfl rfl (fun x3 => ?_)
    refine r_do (a_storeb 1 rfl sz36 rfl rfl rfl rfl (Nat.le_of_ble_eq_true rfl) rfl) rfl rfl (fun _ => ?_)
    refine j_b1 [(.slice x1.1.A x1.1.n x1.1.c), (.slice x1.2.1.A x1.2.1.n x1.2.1.c), (.slice x1.2.2.1.A x1.2.2.1.n x1.2.2.1.c), (.slice x1.2.2.2.1.A x1.2.2.2.1.n x1.2.2.2.1.c)] rfl ?_
    refine r_do (a_storeb 0 rfl sz37 rfl rfl rfl rfl (Nat.le_of_ble_eq_true rfl) rfl) rfl rfl (fun _ => ?_)
    refine j_b0 [(i6 v5), (.slice x1.2.2.2.2.A x1.2.2.2.2.n x1.2.2.2.2.c), (i6 v7)] rfl ?_
    refine r_nil ?_
    refine j_then ?_
    refine j_seq ?_
    refine j_region ?_
    refine r_q (q_loadb_agg 1 rfl ag36 sz36 rfl rfl rfl rfl) rfl rfl ?_
    refine r_q (q_loadb_agg 0 rfl ag37 sz37 rfl rfl rfl rfl) rfl rfl ?_
    obtain ⟨v8, hb2, h⟩ := of_b1 h
    refine r_do (a_call ok23 rfl rfl rfl rfl (fun w hm => impl_SweptCell.calls K v1 x1.1.A x1.1.n x1.1.c v2 x1.2.1.A x1.2.1.n x1.2.1.c v3 x1.2.2.1.A x1.2.2.1.n x1.2.2.1.c v4 x1.2.2.2.1.A x1.2.2.2.1.n x1.2.2.2.1.c v5 v6 x1.2.2.2.2.A x1.2.2.2.2.n x1.2.2.2.2.c v7 hm x1.1.h (Rd.row 2 rfl) x1.2.1.h (Rd.row 3 rfl) x1.2.2.1.h (Rd.row 4 rfl) x1.2.2.2.1.h (Rd.row 5 rfl) (hm.roomI 5 rfl) x1.2.2.2.2.h (Rd.row 6 rfl) hb2)) rfl rfl (fun x4 => ?_)
    refine r_q (q_assign rfl rfl) rfl rfl ?_
    refine r_nil ?_
    refine j_then ?_
    refine j_seq ?_
    refine j_seq ?_
    refine j_region ?_
    refine r_q (q_move rfl rfl) rfl rfl ?_
    refine r_q (q_loadb_agg 1 rfl ag36 sz36 rfl rfl rfl rfl) rfl rfl ?_
    refine r_q (q_loadb_agg 0 rfl ag37 sz37 rfl rfl rfl rfl) rfl rfl ?_
    obtain ⟨v9, hb3, h⟩ := of_b1 h
    refine r_do (a_call ok24 rfl rfl rfl rfl (fun w hm => spec_SweptCell.calls K v1 x1.1.A x1.1.n x1.1.c v2 x1.2.1.A x1.2.1.n x1.2.1.c v3 x1.2.2.1.A x1.2.2.1.n x1.2.2.1.c v4 x1.2.2.2.1.A x1.2.2.2.1.n x1.2.2.2.1.c v5 v6 x1.2.2.2.2.A x1.2.2.2.2.n x1.2.2.2.2.c v7 hm x1.1.h (Rd.row 2 rfl) x1.2.1.h (Rd.row 3 rfl) x1.2.2.1.h (Rd.row 4 rfl) x1.2.2.2.1.h (Rd.row 5 rfl) (hm.roomI 5 rfl) x1.2.2.2.2.h (Rd.row 6 rfl) hb3)) rfl rfl (fun x5 => ?_)
    refine r_q (q_neq rfl rfl rfl) rfl rfl ?_
    refine r_q (q_move rfl rfl) rfl rfl ?_
    rcases of_if h with ⟨c2, h⟩ | ⟨c2, h⟩
    · refine r_qon (q_move rfl rfl) rfl rfl rfl rfl (bne_f c2) rfl ?_
      refine r_qon (q_eql rfl rfl rfl) rfl rfl rfl rfl (bne_f c2) rfl ?_
      refine r_q (q_pick_f rfl rfl (bne_f c2) rfl) rfl rfl ?_
      refine r_nil ?_
      refine j_then ?_
      rcases of_if h with ⟨c3, h⟩ | ⟨c3, h⟩
      · refine j_true rfl (beq_t c3) ?_
        refine j_seq ?_
        refine j_region ?_
        refine r_q (q_move rfl rfl) rfl rfl ?_
        refine r_q (q_loadb_agg 1 rfl ag36 sz36 rfl rfl rfl rfl) rfl rfl ?_
        refine r_q (q_loadb_agg 0 rfl ag37 sz37 rfl rfl rfl rfl) rfl rfl ?_
        obtain ⟨v10, hb4, h⟩ := of_b1 h
        refine r_do (a_call ok24 rfl rfl rfl rfl (fun w hm => spec_SweptCell.calls K v1 x1.1.A x1.1.n x1.1.c v2 x1.2.1.A x1.2.1.n x1.2.1.c v3 x1.2.2.1.A x1.2.2.1.n x1.2.2.1.c v4 x1.2.2.2.1.A x1.2.2.2.1.n x1.2.2.2.1.c v5 v6 x1.2.2.2.2.A x1.2.2.2.2.n x1.2.2.2.2.c v7 hm x1.1.h (Rd.row 2 rfl) x1.2.1.h (Rd.row 3 rfl) x1.2.2.1.h (Rd.row 4 rfl) x1.2.2.2.1.h (Rd.row 5 rfl) (hm.roomI 5 rfl) x1.2.2.2.2.h (Rd.row 6 rfl) hb4)) rfl rfl (fun x6 => ?_)
        refine r_q (q_eql rfl rfl rfl) rfl rfl ?_
        refine r_q (q_assign rfl rfl) rfl rfl ?_
        refine r_nil ?_
        refine j_then ?_
        refine j_ret ?_
        refine j_then_ret ?_
        cases h
        exact j_return rfl (ResOf.tmp rfl ResOf.nil) rfl (fun w h => ⟨(), rfl, (h.drop 7)⟩)
      · refine j_false rfl (beq_f c3) ?_
        refine j_skip ?_
        refine j_then ?_
        refine j_seq ?_
        refine j_region ?_
        refine r_q (q_loadb_agg 1 rfl ag36 sz36 rfl rfl rfl rfl) rfl rfl ?_
        refine r_q (q_loadb_agg 0 rfl ag37 sz37 rfl rfl rfl rfl) rfl rfl ?_
        obtain ⟨v11, hb5, h⟩ := of_b1 h
        refine r_do (a_call ok25 rfl rfl rfl rfl (fun w hm => impl_GcValid.calls K v1 x1.1.A x1.1.n x1.1.c v2 x1.2.1.A x1.2.1.n x1.2.1.c v3 x1.2.2.1.A x1.2.2.1.n x1.2.2.1.c v4 x1.2.2.2.1.A x1.2.2.2.1.n x1.2.2.2.1.c v5 v6 x1.2.2.2.2.A x1.2.2.2.2.n x1.2.2.2.2.c v7 hm x1.1.h (Rd.row 2 rfl) x1.2.1.h (Rd.row 3 rfl) x1.2.2.1.h (Rd.row 4 rfl) x1.2.2.2.1.h (Rd.row 5 rfl) (hm.roomI 5 rfl) x1.2.2.2.2.h (Rd.row 6 rfl) hb5)) rfl rfl (fun x7 => ?_)
        refine r_q (q_move rfl rfl) rfl rfl ?_
        rcases of_if h with ⟨c4, h⟩ | ⟨c4, h⟩
        · refine r_qon (q_fieldAddr fi37_0 sz3 rfl rfl rfl) rfl rfl rfl rfl c4 rfl ?_
          refine r_qon (q_loadb 0 rfl ag3 rfl rfl rfl) rfl rfl rfl rfl c4 rfl ?_
          refine r_qon (q_eql rfl rfl rfl) rfl rfl rfl rfl c4 rfl ?_
          refine r_q (q_pick_t rfl rfl c4 rfl) rfl rfl ?_
          refine r_q (q_move rfl rfl) rfl rfl ?_
          rcases of_if h with ⟨c5, h⟩ | ⟨c5, h⟩
          · refine r_qon (q_move rfl rfl) rfl rfl rfl rfl (beq_t c5) rfl ?_
            refine r_qon (q_fieldAddr fi37_2 sz3 rfl rfl rfl) rfl rfl rfl rfl (beq_t c5) rfl ?_
            refine r_qon (q_loadb 0 rfl ag3 rfl rfl rfl) rfl rfl rfl rfl (beq_t c5) rfl ?_
            refine r_qon (q_eql rfl rfl rfl) rfl rfl rfl rfl (beq_t c5) rfl ?_
            refine r_q (q_pick_t rfl rfl (beq_t c5) rfl) rfl rfl ?_
            refine r_q (q_move rfl rfl) rfl rfl ?_
            rcases of_if h with ⟨c6, h⟩ | ⟨c6, h⟩
            · refine r_qon (q_fieldAddr fi37_1 sz22 rfl rfl rfl) rfl rfl rfl rfl (beq_t c6) rfl ?_
              refine r_qon (q_loadb 0 rfl ag22 rfl rfl rfl) rfl rfl rfl rfl (beq_t c6) rfl ?_
              refine r_qon (q_move rfl rfl) rfl rfl rfl rfl (beq_t c6) rfl ?_
              obtain ⟨c7, h⟩ := of_guard h
              refine r_qon (q_ix (Rd.row 6 rfl) (ints_len1 _ v6) (by decide) x1.2.2.2.2.h c7 un22 sz3 rfl rfl rfl) rfl rfl rfl rfl (beq_t c6) rfl ?_
              refine r_qon (q_ldI (Rd.row 6 rfl) c7 ag3 rfl rfl) rfl rfl rfl rfl (beq_t c6) rfl ?_
              refine r_qon (q_eql rfl rfl rfl) rfl rfl rfl rfl (beq_t c6) rfl ?_
              refine r_q (q_pick_t rfl rfl (beq_t c6) rfl) rfl rfl ?_
              refine r_q (q_move rfl rfl) rfl rfl ?_
              rcases of_if h with ⟨c8, h⟩ | ⟨c8, h⟩
              · refine r_qon (q_loadb_agg 1 rfl ag36 sz36 rfl rfl rfl rfl) rfl rfl rfl rfl (beq_t c8) rfl ?_
                refine r_qon (q_move rfl rfl) rfl rfl rfl rfl (beq_t c8) rfl ?_
                obtain ⟨v12, hb6, h⟩ := of_b1 h
                refine r_on (a_call ok26 rfl rfl rfl rfl (fun w hm => impl_IsFree.calls K v1 x1.1.A x1.1.n x1.1.c v2 x1.2.1.A x1.2.1.n x1.2.1.c v3 x1.2.2.1.A x1.2.2.1.n x1.2.2.1.c v4 x1.2.2.2.1.A x1.2.2.2.1.n x1.2.2.2.1.c v8 hm x1.1.h (Rd.row 2 rfl) x1.2.1.h (Rd.row 3 rfl) x1.2.2.1.h (Rd.row 4 rfl) x1.2.2.2.1.h (Rd.row 5 rfl) (hm.roomI 5 rfl) hb6)) rfl rfl rfl rfl (beq_t c8) rfl (fun x8 => ?_)
                refine r_qon (q_not rfl rfl) rfl rfl rfl rfl (beq_t c8) rfl ?_
                refine r_q (q_pick_t rfl rfl (beq_t c8) rfl) rfl rfl ?_
                refine r_q (q_assign rfl rfl) rfl rfl ?_
                refine r_nil ?_
                refine j_then ?_
                refine j_ret ?_
                cases h
                exact j_return rfl (ResOf.tmp rfl ResOf.nil) rfl (fun w h => ⟨(), rfl, (h.drop 7)⟩)
              · refine r_off rfl rfl rfl rfl (beq_f c8) rfl ?_
                refine r_off rfl rfl rfl rfl (beq_f c8) rfl ?_
                refine r_off rfl rfl rfl rfl (beq_f c8) rfl ?_
                refine r_off rfl rfl rfl rfl (beq_f c8) rfl ?_
                refine r_q (q_pick_f rfl rfl (beq_f c8) rfl) rfl rfl ?_
                refine r_q (q_assign rfl rfl) rfl rfl ?_
                refine r_nil ?_
                refine j_then ?_
                refine j_ret ?_
                cases h
                exact j_return rfl (ResOf.tmp rfl ResOf.nil) rfl (fun w h => ⟨(), rfl, (h.drop 7)⟩)
            · refine r_off rfl rfl rfl rfl (beq_f c6) rfl ?_
              refine r_off rfl rfl rfl rfl (beq_f c6) rfl ?_
              refine r_off rfl rfl rfl rfl (beq_f c6) rfl ?_
              refine r_off rfl rfl rfl rfl (beq_f c6) rfl ?_
              refine r_off rfl rfl rfl rfl (beq_f c6) rfl ?_
              refine r_off rfl rfl rfl rfl (beq_f c6) rfl ?_
              refine r_q (q_pick_f rfl rfl (beq_f c6) rfl) rfl rfl ?_
              refine r_q (q_move rfl rfl) rfl rfl ?_
              refine r_off rfl rfl rfl rfl rfl rfl ?_
              refine r_off rfl rfl rfl rfl rfl rfl ?_
              refine r_off rfl rfl rfl rfl rfl rfl ?_
              refine r_off rfl rfl rfl rfl rfl rfl ?_
              refine r_q (q_pick_f rfl rfl rfl rfl) rfl rfl ?_
              refine r_q (q_assign rfl rfl) rfl rfl ?_
              refine r_nil ?_
              refine j_then ?_
              refine j_ret ?_
              cases h
              exact j_return rfl (ResOf.tmp rfl ResOf.nil) rfl (fun w h => ⟨(), rfl, (h.drop 7)⟩)
          · refine r_off rfl rfl rfl rfl (beq_f c5) rfl ?_
            refine r_off rfl rfl rfl rfl (beq_f c5) rfl ?_
            refine r_off rfl rfl rfl rfl (beq_f c5) rfl ?_
            refine r_off rfl rfl rfl rfl (beq_f c5) rfl ?_
            refine r_q (q_pick_f rfl rfl (beq_f c5) rfl) rfl rfl ?_
            refine r_q (q_move rfl rfl) rfl rfl ?_
            refine r_off rfl rfl rfl rfl rfl rfl ?_
            refine r_off rfl rfl rfl rfl rfl rfl ?_
            refine r_off rfl rfl rfl rfl rfl rfl ?_
            refine r_off rfl rfl rfl rfl rfl rfl ?_
            refine r_off rfl rfl rfl rfl rfl rfl ?_
            refine r_off rfl rfl rfl rfl rfl rfl ?_
            refine r_q (q_pick_f rfl rfl rfl rfl) rfl rfl ?_
            refine r_q (q_move rfl rfl) rfl rfl ?_
            refine r_off rfl rfl rfl rfl rfl rfl ?_
            refine r_off rfl rfl rfl rfl rfl rfl ?_
            refine r_off rfl rfl rfl rfl rfl rfl ?_
            refine r_off rfl rfl rfl rfl rfl rfl ?_
            refine r_q (q_pick_f rfl rfl rfl rfl) rfl rfl ?_
            refine r_q (q_assign rfl rfl) rfl rfl ?_
            refine r_nil ?_
            refine j_then ?_
            refine j_ret ?_
            cases h
            exact j_return rfl (ResOf.tmp rfl ResOf.nil) rfl (fun w h => ⟨(), rfl, (h.drop 7)⟩)
        · refine r_off rfl rfl rfl rfl (var_f c4) rfl ?_
          refine r_off rfl rfl rfl rfl (var_f c4) rfl ?_
          refine r_off rfl rfl rfl rfl (var_f c4) rfl ?_
          refine r_q (q_pick_f rfl rfl (var_f c4) rfl) rfl rfl ?_
          refine r_q (q_move rfl rfl) rfl rfl ?_
          refine r_off rfl rfl rfl rfl rfl rfl ?_
          refine r_off rfl rfl rfl rfl rfl rfl ?_
          refine r_off rfl rfl rfl rfl rfl rfl ?_
          refine r_off rfl rfl rfl rfl rfl rfl ?_
          refine r_q (q_pick_f rfl rfl rfl rfl) rfl rfl ?_
          refine r_q (q_move rfl rfl) rfl rfl ?_
          refine r_off rfl rfl rfl rfl rfl rfl ?_
          refine r_off rfl rfl rfl rfl rfl rfl ?_
          refine r_off rfl rfl rfl rfl rfl rfl ?_
          refine r_off rfl rfl rfl rfl rfl rfl ?_
          refine r_off rfl rfl rfl rfl rfl rfl ?_
          refine r_off rfl rfl rfl rfl rfl rfl ?_
          refine r_q (q_pick_f rfl rfl rfl rfl) rfl rfl ?_
          refine r_q (q_move rfl rfl) rfl rfl ?_
          refine r_off rfl rfl rfl rfl rfl rfl ?_
          refine r_off rfl rfl rfl rfl rfl rfl ?_
          refine r_off rfl rfl rfl rfl rfl rfl ?_
          refine r_off rfl rfl rfl rfl rfl rfl ?_
          refine r_q (q_pick_f rfl rfl rfl rfl) rfl rfl ?_
          refine r_q (q_assign rfl rfl) rfl rfl ?_
          refine r_nil ?_
          refine j_then ?_
          refine j_ret ?_
          cases h
          exact j_return rfl (ResOf.tmp rfl ResOf.nil) rfl (fun w h => ⟨(), rfl, (h.drop 7)⟩)
    · refine r_off rfl rfl rfl rfl (bne_t c2) rfl ?_
      refine r_off rfl rfl rfl rfl (bne_t c2) rfl ?_
      refine r_q (q_pick_t rfl rfl (bne_t c2) rfl) rfl rfl ?_
      refine r_nil ?_
      refine j_then ?_
      refine j_true rfl rfl ?_
      refine j_seq ?_
      refine j_region ?_
      refine r_q (q_move rfl rfl) rfl rfl ?_
      refine r_q (q_loadb_agg 1 rfl ag36 sz36 rfl rfl rfl rfl) rfl rfl ?_
      refine r_q (q_loadb_agg 0 rfl ag37 sz37 rfl rfl rfl rfl) rfl rfl ?_
      obtain ⟨v13, hb7, h⟩ := of_b1 h
      refine r_do (a_call ok24 rfl rfl rfl rfl (fun w hm => spec_SweptCell.calls K v1 x1.1.A x1.1.n x1.1.c v2 x1.2.1.A x1.2.1.n x1.2.1.c v3 x1.2.2.1.A x1.2.2.1.n x1.2.2.1.c v4 x1.2.2.2.1.A x1.2.2.2.1.n x1.2.2.2.1.c v5 v6 x1.2.2.2.2.A x1.2.2.2.2.n x1.2.2.2.2.c v7 hm x1.1.h (Rd.row 2 rfl) x1.2.1.h (Rd.row 3 rfl) x1.2.2.1.h (Rd.row 4 rfl) x1.2.2.2.1.h (Rd.row 5 rfl) (hm.roomI 5 rfl) x1.2.2.2.2.h (Rd.row 6 rfl) hb7)) rfl rfl (fun x6 => ?_)
      refine r_q (q_eql rfl rfl rfl) rfl rfl ?_
      refine r_q (q_assign rfl rfl) rfl rfl ?_
      refine r_nil ?_
      refine j_then ?_
      refine j_ret ?_
      refine j_then_ret ?_
      cases h
      exact j_return rfl (ResOf.tmp rfl ResOf.nil) rfl (fun w h => ⟨(), rfl, (h.drop 7)⟩)

end Go.Proofs.Ytpfkcjddilpbkaa.F
