/- The program computes these pure functions, printed by the generator of wip/gen. -/
import Derived.Test.YtigidjhdcplplaaFa
import Derived.Test.YtigidjhdcplplaaFg
import Derived.Test.YtigidjhdcplplaaFb
import Derived.Test.YtigidjhdcplplaaC0
import Derived.Test.YtigidjhdcplplaaC5
import Derived.Test.YtigidjhdcplplaaC15
namespace Go.Proofs.Ytigidjhdcplplaa.F
open Go Go.RowKit Go.Proofs.Ytigidjhdcplplaa.S
set_option linter.unusedVariables false
set_option maxRecDepth 100000
theorem impl_RunOp.calls (K : Nat) (a0_0 : List Int) (a0_0_A : Option Addr) (a0_0_n a0_0_c : Nat) (a0_1 : List Int) (a0_1_A : Option Addr) (a0_1_n a0_1_c : Nat) (a0_2 : List Int) (a0_2_A : Option Addr) (a0_2_n a0_2_c : Nat) (a0_3 : List Int) (a0_3_A : Option Addr) (a0_3_n a0_3_c : Nat) (a1_0 : Int) (a1_1 : Int) (a1_2 : Int) {w0 w : World} {F : List Res} {r1 : List Int} {r2 : List Int} {r3 : List Int} {r4 : List Int} {r5 : Int} {r6 : Bool} (hm : Mem w0 (F) w) (a0_0_h : a0_0.length = a0_0_n) (a0_0_R : Rd w0 F a0_0_A (ii a0_0)) (a0_1_h : a0_1.length = a0_1_n) (a0_1_R : Rd w0 F a0_1_A (ii a0_1)) (a0_2_h : a0_2.length = a0_2_n) (a0_2_R : Rd w0 F a0_2_A (ii a0_2)) (a0_3_h : a0_3.length = a0_3_n) (a0_3_R : Rd w0 F a0_3_A (ii a0_3)) (a0_3_k : a0_3.length ≤ a0_3_c) (h : impl_RunOp.f K a0_0 a0_1 a0_2 a0_3 a1_0 a1_1 a1_2 = some (r1, r2, r3, r4, r5, r6)) :
    Calls Try.prog 46 (List.toArray [.agg (List.toArray [.slice a0_0_A a0_0_n a0_0_c, .slice a0_1_A a0_1_n a0_1_c, .slice a0_2_A a0_2_n a0_2_c, .slice a0_3_A a0_3_n a0_3_c]), .agg (List.toArray [i6 a1_0, i6 a1_1, i6 a1_2])]) w fun e w' => ∃ x : (Sl r1.length) × (Sl r2.length) × (Sl r3.length) × (Sl r4.length), e = .returned (.tuple (List.toArray [.agg (List.toArray [.slice x.1.A x.1.n x.1.c, .slice x.2.1.A x.2.1.n x.2.1.c, .slice x.2.2.1.A x.2.2.1.n x.2.2.1.c, .slice x.2.2.2.A x.2.2.2.n x.2.2.2.c]), i6 r5, .bool r6])) ∧ Mem w0 (.row x.1.A x.1.c 3 1 (ii r1) :: .row x.2.1.A x.2.1.c 3 1 (ii r2) :: .row x.2.2.1.A x.2.2.1.c 3 1 (ii r3) :: .row x.2.2.2.A x.2.2.2.c 3 1 (ii r4) :: F) w' := by
  unfold impl_RunOp.f at h
  refine calls_of_J (n := 133) Try.func46 rfl rfl rfl hm ?_
  refine j_seq ?_
  refine j_region ?_
  refine r_do (a_box rfl rfl) rfl rfl (fun x1 => ?_)
  refine r_do (a_box rfl rfl) rfl rfl (fun x2 => ?_)
  refine r_do (a_alloc zr29 rfl) rfl rfl (fun x3 => ?_)
  refine r_q (q_assign rfl rfl) rfl rfl ?_
  refine r_q (q_assign rfl rfl) rfl rfl ?_
  refine r_nil ?_
  refine j_then ?_
  refine j_seq ?_
  refine j_seq ?_
  refine j_region ?_
  refine r_q (q_loadb_agg 2 rfl ag29 sz29 rfl rfl rfl rfl) rfl rfl ?_
  obtain ⟨v1, hb1, h⟩ := of_b1 h
  refine r_do (a_call ok22 rfl rfl rfl rfl (fun w hm => impl_StoreValid.calls K a0_0 a0_0_A a0_0_n a0_0_c a0_1 a0_1_A a0_1_n a0_1_c a0_2 a0_2_A a0_2_n a0_2_c a0_3 a0_3_A a0_3_n a0_3_c hm a0_0_h (Rd.drop 3 a0_0_R) a0_1_h (Rd.drop 3 a0_1_R) a0_2_h (Rd.drop 3 a0_2_R) a0_3_h (Rd.drop 3 a0_3_R) a0_3_k hb1)) rfl rfl (fun x4 => ?_)
  refine r_q (q_not rfl rfl) rfl rfl ?_
  refine r_q (q_move rfl rfl) rfl rfl ?_
  rcases of_if h with ⟨c1, h⟩ | ⟨c1, h⟩
  · refine r_qon (q_loadb_agg 1 rfl ag57 sz57 rfl rfl rfl rfl) rfl rfl rfl rfl (not_f c1) rfl ?_
    refine r_qon (q_fieldAddr fi29_0 sz27 rfl rfl rfl) rfl rfl rfl rfl (not_f c1) rfl ?_
    refine r_qon (q_fieldAddr fi27_2 sz25 rfl rfl rfl) rfl rfl rfl rfl (not_f c1) rfl ?_
    refine r_qon (q_loadb 2 rfl ag25 rfl rfl rfl) rfl rfl rfl rfl (not_f c1) rfl ?_
    refine r_qon (q_lenX a0_2 a0_2_h un25 rfl rfl rfl rfl rfl) rfl rfl rfl rfl (not_f c1) rfl ?_
    obtain ⟨v2, hb2, h⟩ := of_b1 h
    refine r_on (a_call ok79 rfl rfl rfl rfl (fun w hm => impl_OpValid.calls K a1_0 a1_1 a1_2 (a0_2.length : Int) hm hb2)) rfl rfl rfl rfl (not_f c1) rfl (fun x5 => ?_)
    refine r_qon (q_not rfl rfl) rfl rfl rfl rfl (not_f c1) rfl ?_
    refine r_q (q_pick_f rfl rfl (not_f c1) rfl) rfl rfl ?_
    refine r_nil ?_
    refine j_then ?_
    rcases of_if h with ⟨c2, h⟩ | ⟨c2, h⟩
    · refine j_false rfl (not_f c2) ?_
      refine j_skip ?_
      refine j_then ?_
      refine j_seq ?_
      refine j_region ?_
      refine r_q (q_loadb_agg 2 rfl ag29 sz29 rfl rfl rfl rfl) rfl rfl ?_
      obtain ⟨v3, v4, v5, v6, hb3, h⟩ := of_b4 h
      refine r_do (a_call ok55 rfl rfl rfl rfl (fun w hm => impl_again.calls K a0_0 a0_0_A a0_0_n a0_0_c a0_1 a0_1_A a0_1_n a0_1_c a0_2 a0_2_A a0_2_n a0_2_c a0_3 a0_3_A a0_3_n a0_3_c hm a0_0_h (Rd.drop 3 a0_0_R) a0_1_h (Rd.drop 3 a0_1_R) a0_2_h (Rd.drop 3 a0_2_R) a0_3_h (Rd.drop 3 a0_3_R) hb3)) rfl rfl (fun x6 => ?_)
      refine r_do (a_storeb 6 rfl sz29 rfl rfl rfl rfl (Nat.le_of_ble_eq_true rfl) rfl) rfl rfl (fun _ => ?_)
      refine j_b6 [(.slice x6.1.A x6.1.n x6.1.c), (.slice x6.2.1.A x6.2.1.n x6.2.1.c), (.slice x6.2.2.1.A x6.2.2.1.n x6.2.2.1.c), (.slice x6.2.2.2.A x6.2.2.2.n x6.2.2.2.c)] rfl ?_
      refine r_nil ?_
      refine j_then ?_
      refine j_seq ?_
      refine j_region ?_
      refine r_q (q_fieldAddr fi29_0 sz27 rfl rfl rfl) rfl rfl ?_
      refine r_q (q_fieldAddr fi27_2 sz25 rfl rfl rfl) rfl rfl ?_
      refine r_q (q_loadb 6 rfl ag25 rfl rfl rfl) rfl rfl ?_
      refine r_q (q_assign rfl rfl) rfl rfl ?_
      refine r_nil ?_
      refine j_then ?_
      refine j_seq ?_
      refine j_seq ?_
      refine j_region ?_
      refine r_q (q_fieldAddr fi57_0 sz3 rfl rfl rfl) rfl rfl ?_
      refine r_q (q_loadb 5 rfl ag3 rfl rfl rfl) rfl rfl ?_
      refine r_nil ?_
      refine j_then ?_
      refine j_block ?_
      refine j_seq ?_
      refine j_region ?_
      refine r_q (q_eql rfl rfl rfl) rfl rfl ?_
      refine r_q (q_assign rfl rfl) rfl rfl ?_
      refine r_nil ?_
      refine j_then ?_
      rcases of_if h with ⟨c3, h⟩ | ⟨c3, h⟩
      · refine j_true rfl (beq_t c3) ?_
        refine j_seq ?_
        refine j_region ?_
        refine r_q (q_loadb_agg 6 rfl ag29 sz29 rfl rfl rfl rfl) rfl rfl ?_
        refine r_q (q_fieldAddr fi57_1 sz3 rfl rfl rfl) rfl rfl ?_
        refine r_q (q_loadb 5 rfl ag3 rfl rfl rfl) rfl rfl ?_
        obtain ⟨v7, v8, v9, v10, v11, v12, hb4, h⟩ := of_b6 h
        refine r_do (a_call ok19 rfl rfl rfl rfl (fun w hm => impl_AllocCell.calls K v3 x6.1.A x6.1.n x6.1.c v4 x6.2.1.A x6.2.1.n x6.2.1.c v5 x6.2.2.1.A x6.2.2.1.n x6.2.2.1.c v6 x6.2.2.2.A x6.2.2.2.n x6.2.2.2.c a1_1 hm x6.1.h (Rd.row 0 rfl) x6.2.1.h (Rd.row 1 rfl) x6.2.2.1.h (Rd.row 2 rfl) x6.2.2.2.h (Rd.row 3 rfl) (hm.roomI 3 rfl) hb4)) rfl rfl (fun x7 => ?_)
        refine r_q (q_move rfl rfl) rfl rfl ?_
        refine r_q (q_extract rfl rfl rfl) rfl rfl ?_
        refine r_q (q_extract rfl rfl rfl) rfl rfl ?_
        refine r_q (q_extract rfl rfl rfl) rfl rfl ?_
        refine r_do (a_alloc zr29 rfl) rfl rfl (fun x8 => ?_)
        refine r_do (a_storeb 0 rfl sz29 rfl rfl rfl rfl (Nat.le_of_ble_eq_true rfl) rfl) rfl rfl (fun _ => ?_)
        refine j_b0 [(.slice x7.1.A x7.1.n x7.1.c), (.slice x7.2.1.A x7.2.1.n x7.2.1.c), (.slice x7.2.2.1.A x7.2.2.1.n x7.2.2.1.c), (.slice x7.2.2.2.A x7.2.2.2.n x7.2.2.2.c)] rfl ?_
        refine r_q (q_assign rfl rfl) rfl rfl ?_
        refine r_q (q_assign rfl rfl) rfl rfl ?_
        refine r_nil ?_
        refine j_then ?_
        refine j_seq ?_
        refine j_seq ?_
        refine j_region ?_
        refine r_q (q_move rfl rfl) rfl rfl ?_
        refine r_q (q_not rfl rfl) rfl rfl ?_
        refine r_nil ?_
        refine j_then ?_
        rcases of_if h with ⟨c4, h⟩ | ⟨c4, h⟩
        · refine j_false rfl (not_f c4) ?_
          refine j_skip ?_
          refine j_then ?_
          refine j_seq ?_
          refine j_region ?_
          refine r_q (q_loadb_agg 0 rfl ag29 sz29 rfl rfl rfl rfl) rfl rfl ?_
          refine r_do (a_storeb 9 rfl sz29 rfl rfl rfl rfl (Nat.le_of_ble_eq_true rfl) rfl) rfl rfl (fun _ => ?_)
          refine j_b9 [(.slice x7.1.A x7.1.n x7.1.c), (.slice x7.2.1.A x7.2.1.n x7.2.1.c), (.slice x7.2.2.1.A x7.2.2.1.n x7.2.2.1.c), (.slice x7.2.2.2.A x7.2.2.2.n x7.2.2.2.c)] rfl ?_
          refine r_q (q_assign rfl rfl) rfl rfl ?_
          refine r_q (q_assign rfl rfl) rfl rfl ?_
          refine r_nil ?_
          refine j_then ?_
          refine j_ret ?_
          refine j_in_ret ?_
          refine j_then_ret ?_
          cases h
          exact j_return rfl (ResOf.cell 9 rfl rfl ag29 sz29 (ResOf.tmp rfl (ResOf.tmp rfl ResOf.nil))) rfl (fun w h => ⟨(⟨x7.1.A, x7.1.n, x7.1.c, x7.1.h⟩, ⟨x7.2.1.A, x7.2.1.n, x7.2.1.c, x7.2.1.h⟩, ⟨x7.2.2.1.A, x7.2.2.1.n, x7.2.2.1.c, x7.2.2.1.h⟩, ⟨x7.2.2.2.A, x7.2.2.2.n, x7.2.2.2.c, x7.2.2.2.h⟩), rfl, h.pick 12 [1, 2, 3, 4] rfl⟩)
        · refine j_true rfl (not_t (var_f c4)) ?_
          refine j_seq ?_
          refine j_region ?_
          refine r_q (q_loadb_agg 11 rfl ag29 sz29 rfl rfl rfl rfl) rfl rfl ?_
          refine r_do (a_storeb 9 rfl sz29 rfl rfl rfl rfl (Nat.le_of_ble_eq_true rfl) rfl) rfl rfl (fun _ => ?_)
          refine j_b9 [(.slice x6.1.A x6.1.n x6.1.c), (.slice x6.2.1.A x6.2.1.n x6.2.1.c), (.slice x6.2.2.1.A x6.2.2.1.n x6.2.2.1.c), (.slice x6.2.2.2.A x6.2.2.2.n x6.2.2.2.c)] rfl ?_
          refine r_q (q_assign rfl rfl) rfl rfl ?_
          refine r_q (q_assign rfl rfl) rfl rfl ?_
          refine r_nil ?_
          refine j_then ?_
          refine j_ret ?_
          refine j_then_ret ?_
          refine j_in_ret ?_
          refine j_then_ret ?_
          cases h
          exact j_return rfl (ResOf.cell 9 rfl rfl ag29 sz29 (ResOf.tmp rfl (ResOf.tmp rfl ResOf.nil))) rfl (fun w h => ⟨(⟨x6.1.A, x6.1.n, x6.1.c, x6.1.h⟩, ⟨x6.2.1.A, x6.2.1.n, x6.2.1.c, x6.2.1.h⟩, ⟨x6.2.2.1.A, x6.2.2.1.n, x6.2.2.1.c, x6.2.2.1.h⟩, ⟨x6.2.2.2.A, x6.2.2.2.n, x6.2.2.2.c, x6.2.2.2.h⟩), rfl, h.pick 12 [5, 6, 7, 8] rfl⟩)
      · refine j_false rfl (beq_f c3) ?_
        refine j_seq ?_
        refine j_region ?_
        refine r_q (q_eql rfl rfl rfl) rfl rfl ?_
        refine r_q (q_assign rfl rfl) rfl rfl ?_
        refine r_nil ?_
        refine j_then ?_
        rcases of_if h with ⟨c5, h⟩ | ⟨c5, h⟩
        · refine j_true rfl (beq_t c5) ?_
          obtain ⟨c6, h⟩ := of_guard h
          obtain ⟨c7, h⟩ := of_guard h
          refine j_draw (.row x6.1.A x6.1.c 3 1 (ii v3) :: .row x6.2.1.A x6.2.1.c 3 1 (ii v4) :: .row x6.2.2.2.A x6.2.2.2.c 3 1 (ii v6) :: .box x3 29 [(.slice none 0 0), (.slice none 0 0), (.slice none 0 0), (.slice none 0 0)] :: .box x2 57 [(i6 a1_0), (i6 a1_1), (i6 a1_2)] :: .box x1 29 [(.slice x6.1.A x6.1.n x6.1.c), (.slice x6.2.1.A x6.2.1.n x6.2.1.c), (.slice x6.2.2.1.A x6.2.2.1.n x6.2.2.1.c), (.slice x6.2.2.2.A x6.2.2.2.n x6.2.2.2.c)] :: F) 10 follows_any rfl ?_
          refine d_take 0 rfl (q_move rfl rfl) rfl rfl (by kernel_rfl) (by kernel_rfl) (by kernel_rfl) (fun w h => h.pick 7 [0, 1, 3, 4, 5, 6] rfl) ?_
          refine d_take 1 rfl (q_fieldAddr fi57_1 sz3 rfl rfl rfl) rfl rfl (by kernel_rfl) (by kernel_rfl) (by kernel_rfl) (fun w h => h.pick 7 [0, 1, 3, 4, 5, 6] rfl) ?_
          refine d_take 2 rfl (q_loadb 4 rfl ag3 rfl rfl rfl) rfl rfl (by kernel_rfl) (by kernel_rfl) (by kernel_rfl) (fun w h => h.pick 7 [0, 1, 3, 4, 5, 6] rfl) ?_
          refine d_take 3 rfl (q_move rfl rfl) rfl rfl (by kernel_rfl) (by kernel_rfl) (by kernel_rfl) (fun w h => h.pick 7 [0, 1, 3, 4, 5, 6] rfl) ?_
          refine d_take 4 rfl (q_fieldAddr fi57_2 sz3 rfl rfl rfl) rfl rfl (by kernel_rfl) (by kernel_rfl) (by kernel_rfl) (fun w h => h.pick 7 [0, 1, 3, 4, 5, 6] rfl) ?_
          refine d_take 5 rfl (q_loadb 4 rfl ag3 rfl rfl rfl) rfl rfl (by kernel_rfl) (by kernel_rfl) (by kernel_rfl) (fun w h => h.pick 7 [0, 1, 3, 4, 5, 6] rfl) ?_
          refine d_one 6 (by kernel_rfl) ?_
          refine o_do rfl ((q_ix (Rd.row 2 rfl) (ints_len1 _ v5) (by decide) x6.2.2.1.h c6 un25 sz3 rfl rfl rfl)).acts rfl rfl (fun _ w h => h.pick 7 [0, 1, 3, 4, 5, 6] rfl) (fun _ => ?_)
          refine d_one 7 (by kernel_rfl) ?_
          refine o_do rfl ((q_ldI (Rd.row 2 rfl) c6 ag3 rfl rfl)).acts rfl rfl (fun _ w h => h.pick 7 [0, 1, 3, 4, 5, 6] rfl) (fun _ => ?_)
          refine d_one 8 (by kernel_rfl) ?_
          refine o_do rfl ((q_ix (Rd.row 2 rfl) (ints_len1 _ v5) (by decide) x6.2.2.1.h c7 un25 sz3 rfl rfl rfl)).acts rfl rfl (fun _ w h => h.pick 7 [0, 1, 3, 4, 5, 6] rfl) (fun _ => ?_)
          refine d_one 9 (by kernel_rfl) ?_
          refine o_do rfl (a_stI 2 rfl c7 sz3 rfl rfl rfl) rfl rfl (fun _ w h => h.pick 7 [0, 1, 3, 4, 5, 6] rfl) (fun _ => ?_)
          refine j_s2 ?_
          refine d_done (by kernel_rfl) ?_
          refine j_in ?_
          refine j_then ?_
          refine j_seq ?_
          refine j_region ?_
          refine r_q (q_loadb_agg 6 rfl ag29 sz29 rfl rfl rfl rfl) rfl rfl ?_
          refine r_do (a_storeb 4 rfl sz29 rfl rfl rfl rfl (Nat.le_of_ble_eq_true rfl) rfl) rfl rfl (fun _ => ?_)
          refine j_b4 [(.slice x6.1.A x6.1.n x6.1.c), (.slice x6.2.1.A x6.2.1.n x6.2.1.c), (.slice x6.2.2.1.A x6.2.2.1.n x6.2.2.1.c), (.slice x6.2.2.2.A x6.2.2.2.n x6.2.2.2.c)] rfl ?_
          refine r_q (q_assign rfl rfl) rfl rfl ?_
          refine r_q (q_assign rfl rfl) rfl rfl ?_
          refine r_nil ?_
          refine j_then ?_
          refine j_ret ?_
          cases h
          exact j_return rfl (ResOf.cell 4 rfl rfl ag29 sz29 (ResOf.tmp rfl (ResOf.tmp rfl ResOf.nil))) rfl (fun w h => ⟨(⟨x6.1.A, x6.1.n, x6.1.c, x6.1.h⟩, ⟨x6.2.1.A, x6.2.1.n, x6.2.1.c, x6.2.1.h⟩, ⟨x6.2.2.1.A, x6.2.2.1.n, x6.2.2.1.c, (set_len x6.2.2.1.h _ _)⟩, ⟨x6.2.2.2.A, x6.2.2.2.n, x6.2.2.2.c, x6.2.2.2.h⟩), rfl, h.pick 7 [0, 1, 2, 3] rfl⟩)
        · refine j_false rfl (beq_f c5) ?_
          refine j_seq ?_
          refine j_seq ?_
          refine j_region ?_
          refine r_q (q_eql rfl rfl rfl) rfl rfl ?_
          refine r_q (q_assign rfl rfl) rfl rfl ?_
          refine r_nil ?_
          refine j_then ?_
          rcases of_if h with ⟨c8, h⟩ | ⟨c8, h⟩
          · refine j_true rfl (beq_t c8) ?_
            refine j_skip ?_
            refine j_then ?_
            refine j_true rfl (beq_t c8) ?_
            refine j_seq ?_
            refine j_region ?_
            refine r_q (q_move rfl rfl) rfl rfl ?_
            refine r_q (q_fieldAddr fi57_2 sz3 rfl rfl rfl) rfl rfl ?_
            refine r_q (q_loadb 5 rfl ag3 rfl rfl rfl) rfl rfl ?_
            obtain ⟨c9, h⟩ := of_guard h
            refine r_q (q_ix (Rd.row 2 rfl) (ints_len1 _ v5) (by decide) x6.2.2.1.h c9 un25 sz3 rfl rfl rfl) rfl rfl ?_
            refine r_q (q_ldI (Rd.row 2 rfl) c9 ag3 rfl rfl) rfl rfl ?_
            refine r_q (q_assign rfl rfl) rfl rfl ?_
            refine r_nil ?_
            refine j_then ?_
            refine j_seq ?_
            refine j_seq ?_
            refine j_region ?_
            refine r_q (q_move rfl rfl) rfl rfl ?_
            refine r_q (q_eql rfl rfl rfl) rfl rfl ?_
            refine r_nil ?_
            refine j_then ?_
            rcases of_if h with ⟨c10, h⟩ | ⟨c10, h⟩
            · refine j_true rfl (beq_t c10) ?_
              refine j_seq ?_
              refine j_region ?_
              refine r_q (q_loadb_agg 6 rfl ag29 sz29 rfl rfl rfl rfl) rfl rfl ?_
              refine r_do (a_storeb 4 rfl sz29 rfl rfl rfl rfl (Nat.le_of_ble_eq_true rfl) rfl) rfl rfl (fun _ => ?_)
              refine j_b4 [(.slice x6.1.A x6.1.n x6.1.c), (.slice x6.2.1.A x6.2.1.n x6.2.1.c), (.slice x6.2.2.1.A x6.2.2.1.n x6.2.2.1.c), (.slice x6.2.2.2.A x6.2.2.2.n x6.2.2.2.c)] rfl ?_
              refine r_q (q_assign rfl rfl) rfl rfl ?_
              refine r_q (q_assign rfl rfl) rfl rfl ?_
              refine r_nil ?_
              refine j_then ?_
              refine j_ret ?_
              refine j_then_ret ?_
              refine j_in_ret ?_
              refine j_then_ret ?_
              cases h
              exact j_return rfl (ResOf.cell 4 rfl rfl ag29 sz29 (ResOf.tmp rfl (ResOf.tmp rfl ResOf.nil))) rfl (fun w h => ⟨(⟨x6.1.A, x6.1.n, x6.1.c, x6.1.h⟩, ⟨x6.2.1.A, x6.2.1.n, x6.2.1.c, x6.2.1.h⟩, ⟨x6.2.2.1.A, x6.2.2.1.n, x6.2.2.1.c, x6.2.2.1.h⟩, ⟨x6.2.2.2.A, x6.2.2.2.n, x6.2.2.2.c, x6.2.2.2.h⟩), rfl, h.pick 7 [0, 1, 2, 3] rfl⟩)
            · refine j_false rfl (beq_f c10) ?_
              refine j_skip ?_
              refine j_then ?_
              refine j_seq ?_
              obtain ⟨c11, h⟩ := of_guard h
              obtain ⟨c12, h⟩ := of_guard h
              refine j_draw (.row x6.1.A x6.1.c 3 1 (ii v3) :: .row x6.2.1.A x6.2.1.c 3 1 (ii v4) :: .row x6.2.2.2.A x6.2.2.2.c 3 1 (ii v6) :: .box x3 29 [(.slice none 0 0), (.slice none 0 0), (.slice none 0 0), (.slice none 0 0)] :: .box x2 57 [(i6 a1_0), (i6 a1_1), (i6 a1_2)] :: .box x1 29 [(.slice x6.1.A x6.1.n x6.1.c), (.slice x6.2.1.A x6.2.1.n x6.2.1.c), (.slice x6.2.2.1.A x6.2.2.1.n x6.2.2.1.c), (.slice x6.2.2.2.A x6.2.2.2.n x6.2.2.2.c)] :: F) 11 follows_any rfl ?_
              refine d_take 0 rfl (q_move rfl rfl) rfl rfl (by kernel_rfl) (by kernel_rfl) (by kernel_rfl) (fun w h => h.pick 7 [0, 1, 3, 4, 5, 6] rfl) ?_
              refine d_take 1 rfl (q_fieldAddr fi57_1 sz3 rfl rfl rfl) rfl rfl (by kernel_rfl) (by kernel_rfl) (by kernel_rfl) (fun w h => h.pick 7 [0, 1, 3, 4, 5, 6] rfl) ?_
              refine d_take 2 rfl (q_loadb 4 rfl ag3 rfl rfl rfl) rfl rfl (by kernel_rfl) (by kernel_rfl) (by kernel_rfl) (fun w h => h.pick 7 [0, 1, 3, 4, 5, 6] rfl) ?_
              refine d_take 3 rfl (q_fieldAddr fi29_0 sz27 rfl rfl rfl) rfl rfl (by kernel_rfl) (by kernel_rfl) (by kernel_rfl) (fun w h => h.pick 7 [0, 1, 3, 4, 5, 6] rfl) ?_
              refine d_take 4 rfl (q_fieldAddr fi27_0 sz25 rfl rfl rfl) rfl rfl (by kernel_rfl) (by kernel_rfl) (by kernel_rfl) (fun w h => h.pick 7 [0, 1, 3, 4, 5, 6] rfl) ?_
              refine d_take 5 rfl (q_loadb 5 rfl ag25 rfl rfl rfl) rfl rfl (by kernel_rfl) (by kernel_rfl) (by kernel_rfl) (fun w h => h.pick 7 [0, 1, 3, 4, 5, 6] rfl) ?_
              refine d_take 6 rfl (q_move rfl rfl) rfl rfl (by kernel_rfl) (by kernel_rfl) (by kernel_rfl) (fun w h => h.pick 7 [0, 1, 3, 4, 5, 6] rfl) ?_
              refine d_take 7 rfl (q_ix (Rd.row 0 rfl) (ints_len1 _ v3) (by decide) x6.1.h c11 un25 sz3 rfl rfl rfl) rfl rfl (by kernel_rfl) (by kernel_rfl) (by kernel_rfl) (fun w h => h.pick 7 [0, 1, 3, 4, 5, 6] rfl) ?_
              refine d_take 8 rfl (q_ldI (Rd.row 0 rfl) c11 ag3 rfl rfl) rfl rfl (by kernel_rfl) (by kernel_rfl) (by kernel_rfl) (fun w h => h.pick 7 [0, 1, 3, 4, 5, 6] rfl) ?_
              refine d_one 9 (by kernel_rfl) ?_
              refine o_do rfl ((q_ix (Rd.row 2 rfl) (ints_len1 _ v5) (by decide) x6.2.2.1.h c12 un25 sz3 rfl rfl rfl)).acts rfl rfl (fun _ w h => h.pick 7 [0, 1, 3, 4, 5, 6] rfl) (fun _ => ?_)
              refine d_one 10 (by kernel_rfl) ?_
              refine o_do rfl (a_stI 2 rfl c12 sz3 rfl rfl rfl) rfl rfl (fun _ w h => h.pick 7 [0, 1, 3, 4, 5, 6] rfl) (fun _ => ?_)
              refine j_s2 ?_
              refine d_done (by kernel_rfl) ?_
              refine j_then ?_
              refine j_seq ?_
              refine j_region ?_
              refine r_q (q_fieldAddr fi57_0 sz3 rfl rfl rfl) rfl rfl ?_
              refine r_q (q_loadb 5 rfl ag3 rfl rfl rfl) rfl rfl ?_
              refine r_q (q_eql rfl rfl rfl) rfl rfl ?_
              refine r_nil ?_
              refine j_then ?_
              rcases of_if h with ⟨c13, h⟩ | ⟨c13, h⟩
              · refine j_true rfl (beq_t c13) ?_
                obtain ⟨c14, h⟩ := of_guard h
                obtain ⟨c15, h⟩ := of_guard h
                refine j_draw (.row x6.1.A x6.1.c 3 1 (ii v3) :: .row x6.2.1.A x6.2.1.c 3 1 (ii v4) :: .row x6.2.2.2.A x6.2.2.2.c 3 1 (ii v6) :: .box x3 29 [(.slice none 0 0), (.slice none 0 0), (.slice none 0 0), (.slice none 0 0)] :: .box x2 57 [(i6 a1_0), (i6 a1_1), (i6 a1_2)] :: .box x1 29 [(.slice x6.1.A x6.1.n x6.1.c), (.slice x6.2.1.A x6.2.1.n x6.2.1.c), (.slice x6.2.2.1.A x6.2.2.1.n x6.2.2.1.c), (.slice x6.2.2.2.A x6.2.2.2.n x6.2.2.2.c)] :: F) 11 follows_any rfl ?_
                refine d_take 0 rfl (q_move rfl rfl) rfl rfl (by kernel_rfl) (by kernel_rfl) (by kernel_rfl) (fun w h => h.pick 7 [0, 1, 3, 4, 5, 6] rfl) ?_
                refine d_take 1 rfl (q_fieldAddr fi57_1 sz3 rfl rfl rfl) rfl rfl (by kernel_rfl) (by kernel_rfl) (by kernel_rfl) (fun w h => h.pick 7 [0, 1, 3, 4, 5, 6] rfl) ?_
                refine d_take 2 rfl (q_loadb 4 rfl ag3 rfl rfl rfl) rfl rfl (by kernel_rfl) (by kernel_rfl) (by kernel_rfl) (fun w h => h.pick 7 [0, 1, 3, 4, 5, 6] rfl) ?_
                refine d_take 3 rfl (q_fieldAddr fi29_0 sz27 rfl rfl rfl) rfl rfl (by kernel_rfl) (by kernel_rfl) (by kernel_rfl) (fun w h => h.pick 7 [0, 1, 3, 4, 5, 6] rfl) ?_
                refine d_take 4 rfl (q_fieldAddr fi27_1 sz25 rfl rfl rfl) rfl rfl (by kernel_rfl) (by kernel_rfl) (by kernel_rfl) (fun w h => h.pick 7 [0, 1, 3, 4, 5, 6] rfl) ?_
                refine d_take 5 rfl (q_loadb 5 rfl ag25 rfl rfl rfl) rfl rfl (by kernel_rfl) (by kernel_rfl) (by kernel_rfl) (fun w h => h.pick 7 [0, 1, 3, 4, 5, 6] rfl) ?_
                refine d_take 6 rfl (q_move rfl rfl) rfl rfl (by kernel_rfl) (by kernel_rfl) (by kernel_rfl) (fun w h => h.pick 7 [0, 1, 3, 4, 5, 6] rfl) ?_
                refine d_take 7 rfl (q_ix (Rd.row 1 rfl) (ints_len1 _ v4) (by decide) x6.2.1.h c14 un25 sz3 rfl rfl rfl) rfl rfl (by kernel_rfl) (by kernel_rfl) (by kernel_rfl) (fun w h => h.pick 7 [0, 1, 3, 4, 5, 6] rfl) ?_
                refine d_take 8 rfl (q_ldI (Rd.row 1 rfl) c14 ag3 rfl rfl) rfl rfl (by kernel_rfl) (by kernel_rfl) (by kernel_rfl) (fun w h => h.pick 7 [0, 1, 3, 4, 5, 6] rfl) ?_
                refine d_one 9 (by kernel_rfl) ?_
                refine o_do rfl ((q_ix (Rd.row 2 rfl) (ints_len1 _ (v5.set a1_1.toNat (rd v3 (rd v5 a1_2)))) (by decide) (set_len x6.2.2.1.h _ _) c15 un25 sz3 rfl rfl rfl)).acts rfl rfl (fun _ w h => h.pick 7 [0, 1, 3, 4, 5, 6] rfl) (fun _ => ?_)
                refine d_one 10 (by kernel_rfl) ?_
                refine o_do rfl (a_stI 2 rfl c15 sz3 rfl rfl rfl) rfl rfl (fun _ w h => h.pick 7 [0, 1, 3, 4, 5, 6] rfl) (fun _ => ?_)
                refine j_s2 ?_
                refine d_done (by kernel_rfl) ?_
                refine j_in ?_
                refine j_then ?_
                refine j_seq ?_
                refine j_region ?_
                refine r_q (q_loadb_agg 6 rfl ag29 sz29 rfl rfl rfl rfl) rfl rfl ?_
                refine r_do (a_storeb 4 rfl sz29 rfl rfl rfl rfl (Nat.le_of_ble_eq_true rfl) rfl) rfl rfl (fun _ => ?_)
                refine j_b4 [(.slice x6.1.A x6.1.n x6.1.c), (.slice x6.2.1.A x6.2.1.n x6.2.1.c), (.slice x6.2.2.1.A x6.2.2.1.n x6.2.2.1.c), (.slice x6.2.2.2.A x6.2.2.2.n x6.2.2.2.c)] rfl ?_
                refine r_q (q_assign rfl rfl) rfl rfl ?_
                refine r_q (q_assign rfl rfl) rfl rfl ?_
                refine r_nil ?_
                refine j_then ?_
                refine j_ret ?_
                cases h
                exact j_return rfl (ResOf.cell 4 rfl rfl ag29 sz29 (ResOf.tmp rfl (ResOf.tmp rfl ResOf.nil))) rfl (fun w h => ⟨(⟨x6.1.A, x6.1.n, x6.1.c, x6.1.h⟩, ⟨x6.2.1.A, x6.2.1.n, x6.2.1.c, x6.2.1.h⟩, ⟨x6.2.2.1.A, x6.2.2.1.n, x6.2.2.1.c, (set_len (set_len x6.2.2.1.h _ _) _ _)⟩, ⟨x6.2.2.2.A, x6.2.2.2.n, x6.2.2.2.c, x6.2.2.2.h⟩), rfl, h.pick 7 [0, 1, 2, 3] rfl⟩)
              · refine j_false rfl (beq_f c13) ?_
                refine j_skip ?_
                refine j_in ?_
                refine j_then ?_
                refine j_seq ?_
                refine j_region ?_
                refine r_q (q_loadb_agg 6 rfl ag29 sz29 rfl rfl rfl rfl) rfl rfl ?_
                refine r_do (a_storeb 4 rfl sz29 rfl rfl rfl rfl (Nat.le_of_ble_eq_true rfl) rfl) rfl rfl (fun _ => ?_)
                refine j_b4 [(.slice x6.1.A x6.1.n x6.1.c), (.slice x6.2.1.A x6.2.1.n x6.2.1.c), (.slice x6.2.2.1.A x6.2.2.1.n x6.2.2.1.c), (.slice x6.2.2.2.A x6.2.2.2.n x6.2.2.2.c)] rfl ?_
                refine r_q (q_assign rfl rfl) rfl rfl ?_
                refine r_q (q_assign rfl rfl) rfl rfl ?_
                refine r_nil ?_
                refine j_then ?_
                refine j_ret ?_
                cases h
                exact j_return rfl (ResOf.cell 4 rfl rfl ag29 sz29 (ResOf.tmp rfl (ResOf.tmp rfl ResOf.nil))) rfl (fun w h => ⟨(⟨x6.1.A, x6.1.n, x6.1.c, x6.1.h⟩, ⟨x6.2.1.A, x6.2.1.n, x6.2.1.c, x6.2.1.h⟩, ⟨x6.2.2.1.A, x6.2.2.1.n, x6.2.2.1.c, (set_len x6.2.2.1.h _ _)⟩, ⟨x6.2.2.2.A, x6.2.2.2.n, x6.2.2.2.c, x6.2.2.2.h⟩), rfl, h.pick 7 [0, 1, 2, 3] rfl⟩)
          · refine j_false rfl (beq_f c8) ?_
            refine j_region ?_
            refine r_q (q_eql rfl rfl rfl) rfl rfl ?_
            refine r_q (q_assign rfl rfl) rfl rfl ?_
            refine r_nil ?_
            refine j_then ?_
            rcases of_if h with ⟨c16, h⟩ | ⟨c16, h⟩
            · refine j_true rfl (beq_t c16) ?_
              refine j_seq ?_
              refine j_region ?_
              refine r_q (q_move rfl rfl) rfl rfl ?_
              refine r_q (q_fieldAddr fi57_2 sz3 rfl rfl rfl) rfl rfl ?_
              refine r_q (q_loadb 5 rfl ag3 rfl rfl rfl) rfl rfl ?_
              obtain ⟨c17, h⟩ := of_guard h
              refine r_q (q_ix (Rd.row 2 rfl) (ints_len1 _ v5) (by decide) x6.2.2.1.h c17 un25 sz3 rfl rfl rfl) rfl rfl ?_
              refine r_q (q_ldI (Rd.row 2 rfl) c17 ag3 rfl rfl) rfl rfl ?_
              refine r_q (q_assign rfl rfl) rfl rfl ?_
              refine r_nil ?_
              refine j_then ?_
              refine j_seq ?_
              refine j_seq ?_
              refine j_region ?_
              refine r_q (q_move rfl rfl) rfl rfl ?_
              refine r_q (q_eql rfl rfl rfl) rfl rfl ?_
              refine r_nil ?_
              refine j_then ?_
              rcases of_if h with ⟨c18, h⟩ | ⟨c18, h⟩
              · refine j_true rfl (beq_t c18) ?_
                refine j_seq ?_
                refine j_region ?_
                refine r_q (q_loadb_agg 6 rfl ag29 sz29 rfl rfl rfl rfl) rfl rfl ?_
                refine r_do (a_storeb 4 rfl sz29 rfl rfl rfl rfl (Nat.le_of_ble_eq_true rfl) rfl) rfl rfl (fun _ => ?_)
                refine j_b4 [(.slice x6.1.A x6.1.n x6.1.c), (.slice x6.2.1.A x6.2.1.n x6.2.1.c), (.slice x6.2.2.1.A x6.2.2.1.n x6.2.2.1.c), (.slice x6.2.2.2.A x6.2.2.2.n x6.2.2.2.c)] rfl ?_
                refine r_q (q_assign rfl rfl) rfl rfl ?_
                refine r_q (q_assign rfl rfl) rfl rfl ?_
                refine r_nil ?_
                refine j_then ?_
                refine j_ret ?_
                refine j_then_ret ?_
                refine j_in_ret ?_
                refine j_then_ret ?_
                cases h
                exact j_return rfl (ResOf.cell 4 rfl rfl ag29 sz29 (ResOf.tmp rfl (ResOf.tmp rfl ResOf.nil))) rfl (fun w h => ⟨(⟨x6.1.A, x6.1.n, x6.1.c, x6.1.h⟩, ⟨x6.2.1.A, x6.2.1.n, x6.2.1.c, x6.2.1.h⟩, ⟨x6.2.2.1.A, x6.2.2.1.n, x6.2.2.1.c, x6.2.2.1.h⟩, ⟨x6.2.2.2.A, x6.2.2.2.n, x6.2.2.2.c, x6.2.2.2.h⟩), rfl, h.pick 7 [0, 1, 2, 3] rfl⟩)
              · refine j_false rfl (beq_f c18) ?_
                refine j_skip ?_
                refine j_then ?_
                refine j_seq ?_
                obtain ⟨c19, h⟩ := of_guard h
                obtain ⟨c20, h⟩ := of_guard h
                refine j_draw (.row x6.1.A x6.1.c 3 1 (ii v3) :: .row x6.2.1.A x6.2.1.c 3 1 (ii v4) :: .row x6.2.2.2.A x6.2.2.2.c 3 1 (ii v6) :: .box x3 29 [(.slice none 0 0), (.slice none 0 0), (.slice none 0 0), (.slice none 0 0)] :: .box x2 57 [(i6 a1_0), (i6 a1_1), (i6 a1_2)] :: .box x1 29 [(.slice x6.1.A x6.1.n x6.1.c), (.slice x6.2.1.A x6.2.1.n x6.2.1.c), (.slice x6.2.2.1.A x6.2.2.1.n x6.2.2.1.c), (.slice x6.2.2.2.A x6.2.2.2.n x6.2.2.2.c)] :: F) 11 follows_any rfl ?_
                refine d_take 0 rfl (q_move rfl rfl) rfl rfl (by kernel_rfl) (by kernel_rfl) (by kernel_rfl) (fun w h => h.pick 7 [0, 1, 3, 4, 5, 6] rfl) ?_
                refine d_take 1 rfl (q_fieldAddr fi57_1 sz3 rfl rfl rfl) rfl rfl (by kernel_rfl) (by kernel_rfl) (by kernel_rfl) (fun w h => h.pick 7 [0, 1, 3, 4, 5, 6] rfl) ?_
                refine d_take 2 rfl (q_loadb 4 rfl ag3 rfl rfl rfl) rfl rfl (by kernel_rfl) (by kernel_rfl) (by kernel_rfl) (fun w h => h.pick 7 [0, 1, 3, 4, 5, 6] rfl) ?_
                refine d_take 3 rfl (q_fieldAddr fi29_0 sz27 rfl rfl rfl) rfl rfl (by kernel_rfl) (by kernel_rfl) (by kernel_rfl) (fun w h => h.pick 7 [0, 1, 3, 4, 5, 6] rfl) ?_
                refine d_take 4 rfl (q_fieldAddr fi27_0 sz25 rfl rfl rfl) rfl rfl (by kernel_rfl) (by kernel_rfl) (by kernel_rfl) (fun w h => h.pick 7 [0, 1, 3, 4, 5, 6] rfl) ?_
                refine d_take 5 rfl (q_loadb 5 rfl ag25 rfl rfl rfl) rfl rfl (by kernel_rfl) (by kernel_rfl) (by kernel_rfl) (fun w h => h.pick 7 [0, 1, 3, 4, 5, 6] rfl) ?_
                refine d_take 6 rfl (q_move rfl rfl) rfl rfl (by kernel_rfl) (by kernel_rfl) (by kernel_rfl) (fun w h => h.pick 7 [0, 1, 3, 4, 5, 6] rfl) ?_
                refine d_take 7 rfl (q_ix (Rd.row 0 rfl) (ints_len1 _ v3) (by decide) x6.1.h c19 un25 sz3 rfl rfl rfl) rfl rfl (by kernel_rfl) (by kernel_rfl) (by kernel_rfl) (fun w h => h.pick 7 [0, 1, 3, 4, 5, 6] rfl) ?_
                refine d_take 8 rfl (q_ldI (Rd.row 0 rfl) c19 ag3 rfl rfl) rfl rfl (by kernel_rfl) (by kernel_rfl) (by kernel_rfl) (fun w h => h.pick 7 [0, 1, 3, 4, 5, 6] rfl) ?_
                refine d_one 9 (by kernel_rfl) ?_
                refine o_do rfl ((q_ix (Rd.row 2 rfl) (ints_len1 _ v5) (by decide) x6.2.2.1.h c20 un25 sz3 rfl rfl rfl)).acts rfl rfl (fun _ w h => h.pick 7 [0, 1, 3, 4, 5, 6] rfl) (fun _ => ?_)
                refine d_one 10 (by kernel_rfl) ?_
                refine o_do rfl (a_stI 2 rfl c20 sz3 rfl rfl rfl) rfl rfl (fun _ w h => h.pick 7 [0, 1, 3, 4, 5, 6] rfl) (fun _ => ?_)
                refine j_s2 ?_
                refine d_done (by kernel_rfl) ?_
                refine j_then ?_
                refine j_seq ?_
                refine j_region ?_
                refine r_q (q_fieldAddr fi57_0 sz3 rfl rfl rfl) rfl rfl ?_
                refine r_q (q_loadb 5 rfl ag3 rfl rfl rfl) rfl rfl ?_
                refine r_q (q_eql rfl rfl rfl) rfl rfl ?_
                refine r_nil ?_
                refine j_then ?_
                refine j_true rfl (beq_t c16) ?_
                obtain ⟨c21, h⟩ := of_guard h
                obtain ⟨c22, h⟩ := of_guard h
                refine j_draw (.row x6.1.A x6.1.c 3 1 (ii v3) :: .row x6.2.1.A x6.2.1.c 3 1 (ii v4) :: .row x6.2.2.2.A x6.2.2.2.c 3 1 (ii v6) :: .box x3 29 [(.slice none 0 0), (.slice none 0 0), (.slice none 0 0), (.slice none 0 0)] :: .box x2 57 [(i6 a1_0), (i6 a1_1), (i6 a1_2)] :: .box x1 29 [(.slice x6.1.A x6.1.n x6.1.c), (.slice x6.2.1.A x6.2.1.n x6.2.1.c), (.slice x6.2.2.1.A x6.2.2.1.n x6.2.2.1.c), (.slice x6.2.2.2.A x6.2.2.2.n x6.2.2.2.c)] :: F) 11 follows_any rfl ?_
                refine d_take 0 rfl (q_move rfl rfl) rfl rfl (by kernel_rfl) (by kernel_rfl) (by kernel_rfl) (fun w h => h.pick 7 [0, 1, 3, 4, 5, 6] rfl) ?_
                refine d_take 1 rfl (q_fieldAddr fi57_1 sz3 rfl rfl rfl) rfl rfl (by kernel_rfl) (by kernel_rfl) (by kernel_rfl) (fun w h => h.pick 7 [0, 1, 3, 4, 5, 6] rfl) ?_
                refine d_take 2 rfl (q_loadb 4 rfl ag3 rfl rfl rfl) rfl rfl (by kernel_rfl) (by kernel_rfl) (by kernel_rfl) (fun w h => h.pick 7 [0, 1, 3, 4, 5, 6] rfl) ?_
                refine d_take 3 rfl (q_fieldAddr fi29_0 sz27 rfl rfl rfl) rfl rfl (by kernel_rfl) (by kernel_rfl) (by kernel_rfl) (fun w h => h.pick 7 [0, 1, 3, 4, 5, 6] rfl) ?_
                refine d_take 4 rfl (q_fieldAddr fi27_1 sz25 rfl rfl rfl) rfl rfl (by kernel_rfl) (by kernel_rfl) (by kernel_rfl) (fun w h => h.pick 7 [0, 1, 3, 4, 5, 6] rfl) ?_
                refine d_take 5 rfl (q_loadb 5 rfl ag25 rfl rfl rfl) rfl rfl (by kernel_rfl) (by kernel_rfl) (by kernel_rfl) (fun w h => h.pick 7 [0, 1, 3, 4, 5, 6] rfl) ?_
                refine d_take 6 rfl (q_move rfl rfl) rfl rfl (by kernel_rfl) (by kernel_rfl) (by kernel_rfl) (fun w h => h.pick 7 [0, 1, 3, 4, 5, 6] rfl) ?_
                refine d_take 7 rfl (q_ix (Rd.row 1 rfl) (ints_len1 _ v4) (by decide) x6.2.1.h c21 un25 sz3 rfl rfl rfl) rfl rfl (by kernel_rfl) (by kernel_rfl) (by kernel_rfl) (fun w h => h.pick 7 [0, 1, 3, 4, 5, 6] rfl) ?_
                refine d_take 8 rfl (q_ldI (Rd.row 1 rfl) c21 ag3 rfl rfl) rfl rfl (by kernel_rfl) (by kernel_rfl) (by kernel_rfl) (fun w h => h.pick 7 [0, 1, 3, 4, 5, 6] rfl) ?_
                refine d_one 9 (by kernel_rfl) ?_
                refine o_do rfl ((q_ix (Rd.row 2 rfl) (ints_len1 _ (v5.set a1_1.toNat (rd v3 (rd v5 a1_2)))) (by decide) (set_len x6.2.2.1.h _ _) c22 un25 sz3 rfl rfl rfl)).acts rfl rfl (fun _ w h => h.pick 7 [0, 1, 3, 4, 5, 6] rfl) (fun _ => ?_)
                refine d_one 10 (by kernel_rfl) ?_
                refine o_do rfl (a_stI 2 rfl c22 sz3 rfl rfl rfl) rfl rfl (fun _ w h => h.pick 7 [0, 1, 3, 4, 5, 6] rfl) (fun _ => ?_)
                refine j_s2 ?_
                refine d_done (by kernel_rfl) ?_
                refine j_in ?_
                refine j_then ?_
                refine j_seq ?_
                refine j_region ?_
                refine r_q (q_loadb_agg 6 rfl ag29 sz29 rfl rfl rfl rfl) rfl rfl ?_
                refine r_do (a_storeb 4 rfl sz29 rfl rfl rfl rfl (Nat.le_of_ble_eq_true rfl) rfl) rfl rfl (fun _ => ?_)
                refine j_b4 [(.slice x6.1.A x6.1.n x6.1.c), (.slice x6.2.1.A x6.2.1.n x6.2.1.c), (.slice x6.2.2.1.A x6.2.2.1.n x6.2.2.1.c), (.slice x6.2.2.2.A x6.2.2.2.n x6.2.2.2.c)] rfl ?_
                refine r_q (q_assign rfl rfl) rfl rfl ?_
                refine r_q (q_assign rfl rfl) rfl rfl ?_
                refine r_nil ?_
                refine j_then ?_
                refine j_ret ?_
                cases h
                exact j_return rfl (ResOf.cell 4 rfl rfl ag29 sz29 (ResOf.tmp rfl (ResOf.tmp rfl ResOf.nil))) rfl (fun w h => ⟨(⟨x6.1.A, x6.1.n, x6.1.c, x6.1.h⟩, ⟨x6.2.1.A, x6.2.1.n, x6.2.1.c, x6.2.1.h⟩, ⟨x6.2.2.1.A, x6.2.2.1.n, x6.2.2.1.c, (set_len (set_len x6.2.2.1.h _ _) _ _)⟩, ⟨x6.2.2.2.A, x6.2.2.2.n, x6.2.2.2.c, x6.2.2.2.h⟩), rfl, h.pick 7 [0, 1, 2, 3] rfl⟩)
            · refine j_false rfl (beq_f c16) ?_
              refine j_seq ?_
              refine j_seq ?_
              refine j_region ?_
              refine r_q (q_eql rfl rfl rfl) rfl rfl ?_
              refine r_q (q_assign rfl rfl) rfl rfl ?_
              refine r_nil ?_
              refine j_then ?_
              rcases of_if h with ⟨c23, h⟩ | ⟨c23, h⟩
              · refine j_true rfl (beq_t c23) ?_
                refine j_skip ?_
                refine j_then ?_
                refine j_true rfl (beq_t c23) ?_
                refine j_seq ?_
                refine j_region ?_
                refine r_q (q_move rfl rfl) rfl rfl ?_
                refine r_q (q_fieldAddr fi57_1 sz3 rfl rfl rfl) rfl rfl ?_
                refine r_q (q_loadb 5 rfl ag3 rfl rfl rfl) rfl rfl ?_
                obtain ⟨c24, h⟩ := of_guard h
                refine r_q (q_ix (Rd.row 2 rfl) (ints_len1 _ v5) (by decide) x6.2.2.1.h c24 un25 sz3 rfl rfl rfl) rfl rfl ?_
                refine r_q (q_ldI (Rd.row 2 rfl) c24 ag3 rfl rfl) rfl rfl ?_
                refine r_q (q_assign rfl rfl) rfl rfl ?_
                refine r_nil ?_
                refine j_then ?_
                refine j_seq ?_
                refine j_seq ?_
                refine j_region ?_
                refine r_q (q_move rfl rfl) rfl rfl ?_
                refine r_q (q_eql rfl rfl rfl) rfl rfl ?_
                refine r_nil ?_
                refine j_then ?_
                rcases of_if h with ⟨c25, h⟩ | ⟨c25, h⟩
                · refine j_true rfl (beq_t c25) ?_
                  refine j_seq ?_
                  refine j_region ?_
                  refine r_q (q_loadb_agg 6 rfl ag29 sz29 rfl rfl rfl rfl) rfl rfl ?_
                  refine r_do (a_storeb 4 rfl sz29 rfl rfl rfl rfl (Nat.le_of_ble_eq_true rfl) rfl) rfl rfl (fun _ => ?_)
                  refine j_b4 [(.slice x6.1.A x6.1.n x6.1.c), (.slice x6.2.1.A x6.2.1.n x6.2.1.c), (.slice x6.2.2.1.A x6.2.2.1.n x6.2.2.1.c), (.slice x6.2.2.2.A x6.2.2.2.n x6.2.2.2.c)] rfl ?_
                  refine r_q (q_assign rfl rfl) rfl rfl ?_
                  refine r_q (q_assign rfl rfl) rfl rfl ?_
                  refine r_nil ?_
                  refine j_then ?_
                  refine j_ret ?_
                  refine j_then_ret ?_
                  refine j_in_ret ?_
                  refine j_then_ret ?_
                  cases h
                  exact j_return rfl (ResOf.cell 4 rfl rfl ag29 sz29 (ResOf.tmp rfl (ResOf.tmp rfl ResOf.nil))) rfl (fun w h => ⟨(⟨x6.1.A, x6.1.n, x6.1.c, x6.1.h⟩, ⟨x6.2.1.A, x6.2.1.n, x6.2.1.c, x6.2.1.h⟩, ⟨x6.2.2.1.A, x6.2.2.1.n, x6.2.2.1.c, x6.2.2.1.h⟩, ⟨x6.2.2.2.A, x6.2.2.2.n, x6.2.2.2.c, x6.2.2.2.h⟩), rfl, h.pick 7 [0, 1, 2, 3] rfl⟩)
                · refine j_false rfl (beq_f c25) ?_
                  refine j_skip ?_
                  refine j_then ?_
                  refine j_seq ?_
                  refine j_region ?_
                  refine r_q (q_fieldAddr fi57_0 sz3 rfl rfl rfl) rfl rfl ?_
                  refine r_q (q_loadb 5 rfl ag3 rfl rfl rfl) rfl rfl ?_
                  refine r_q (q_eql rfl rfl rfl) rfl rfl ?_
                  refine r_nil ?_
                  refine j_then ?_
                  refine j_true rfl (beq_t c23) ?_
                  obtain ⟨c26, h⟩ := of_guard h
                  obtain ⟨c27, h⟩ := of_guard h
                  refine j_draw (.row x6.2.1.A x6.2.1.c 3 1 (ii v4) :: .row x6.2.2.1.A x6.2.2.1.c 3 1 (ii v5) :: .row x6.2.2.2.A x6.2.2.2.c 3 1 (ii v6) :: .box x3 29 [(.slice none 0 0), (.slice none 0 0), (.slice none 0 0), (.slice none 0 0)] :: .box x2 57 [(i6 a1_0), (i6 a1_1), (i6 a1_2)] :: .box x1 29 [(.slice x6.1.A x6.1.n x6.1.c), (.slice x6.2.1.A x6.2.1.n x6.2.1.c), (.slice x6.2.2.1.A x6.2.2.1.n x6.2.2.1.c), (.slice x6.2.2.2.A x6.2.2.2.n x6.2.2.2.c)] :: F) 11 follows_any rfl ?_
                  refine d_take 0 rfl (q_fieldAddr fi29_0 sz27 rfl rfl rfl) rfl rfl (by kernel_rfl) (by kernel_rfl) (by kernel_rfl) (fun w h => h.tail) ?_
                  refine d_take 1 rfl (q_fieldAddr fi27_0 sz25 rfl rfl rfl) rfl rfl (by kernel_rfl) (by kernel_rfl) (by kernel_rfl) (fun w h => h.tail) ?_
                  refine d_take 2 rfl (q_loadb 5 rfl ag25 rfl rfl rfl) rfl rfl (by kernel_rfl) (by kernel_rfl) (by kernel_rfl) (fun w h => h.tail) ?_
                  refine d_take 3 rfl (q_move rfl rfl) rfl rfl (by kernel_rfl) (by kernel_rfl) (by kernel_rfl) (fun w h => h.tail) ?_
                  refine d_take 4 rfl (q_move rfl rfl) rfl rfl (by kernel_rfl) (by kernel_rfl) (by kernel_rfl) (fun w h => h.tail) ?_
                  refine d_take 5 rfl (q_fieldAddr fi57_2 sz3 rfl rfl rfl) rfl rfl (by kernel_rfl) (by kernel_rfl) (by kernel_rfl) (fun w h => h.tail) ?_
                  refine d_take 6 rfl (q_loadb 4 rfl ag3 rfl rfl rfl) rfl rfl (by kernel_rfl) (by kernel_rfl) (by kernel_rfl) (fun w h => h.tail) ?_
                  refine d_take 7 rfl (q_ix (Rd.row 1 rfl) (ints_len1 _ v5) (by decide) x6.2.2.1.h c26 un25 sz3 rfl rfl rfl) rfl rfl (by kernel_rfl) (by kernel_rfl) (by kernel_rfl) (fun w h => h.tail) ?_
                  refine d_take 8 rfl (q_ldI (Rd.row 1 rfl) c26 ag3 rfl rfl) rfl rfl (by kernel_rfl) (by kernel_rfl) (by kernel_rfl) (fun w h => h.tail) ?_
                  refine d_one 9 (by kernel_rfl) ?_
                  refine o_do rfl ((q_ix (Rd.row 0 rfl) (ints_len1 _ v3) (by decide) x6.1.h c27 un25 sz3 rfl rfl rfl)).acts rfl rfl (fun _ w h => h.tail) (fun _ => ?_)
                  refine d_one 10 (by kernel_rfl) ?_
                  refine o_do rfl (a_stI 0 rfl c27 sz3 rfl rfl rfl) rfl rfl (fun _ w h => h.tail) (fun _ => ?_)
                  refine j_s0 ?_
                  refine d_done (by kernel_rfl) ?_
                  refine j_in ?_
                  refine j_then ?_
                  refine j_seq ?_
                  refine j_region ?_
                  refine r_q (q_loadb_agg 6 rfl ag29 sz29 rfl rfl rfl rfl) rfl rfl ?_
                  refine r_do (a_storeb 4 rfl sz29 rfl rfl rfl rfl (Nat.le_of_ble_eq_true rfl) rfl) rfl rfl (fun _ => ?_)
                  refine j_b4 [(.slice x6.1.A x6.1.n x6.1.c), (.slice x6.2.1.A x6.2.1.n x6.2.1.c), (.slice x6.2.2.1.A x6.2.2.1.n x6.2.2.1.c), (.slice x6.2.2.2.A x6.2.2.2.n x6.2.2.2.c)] rfl ?_
                  refine r_q (q_assign rfl rfl) rfl rfl ?_
                  refine r_q (q_assign rfl rfl) rfl rfl ?_
                  refine r_nil ?_
                  refine j_then ?_
                  refine j_ret ?_
                  cases h
                  exact j_return rfl (ResOf.cell 4 rfl rfl ag29 sz29 (ResOf.tmp rfl (ResOf.tmp rfl ResOf.nil))) rfl (fun w h => ⟨(⟨x6.1.A, x6.1.n, x6.1.c, (set_len x6.1.h _ _)⟩, ⟨x6.2.1.A, x6.2.1.n, x6.2.1.c, x6.2.1.h⟩, ⟨x6.2.2.1.A, x6.2.2.1.n, x6.2.2.1.c, x6.2.2.1.h⟩, ⟨x6.2.2.2.A, x6.2.2.2.n, x6.2.2.2.c, x6.2.2.2.h⟩), rfl, h.pick 7 [0, 1, 2, 3] rfl⟩)
              · refine j_false rfl (beq_f c23) ?_
                refine j_region ?_
                refine r_q (q_eql rfl rfl rfl) rfl rfl ?_
                refine r_q (q_assign rfl rfl) rfl rfl ?_
                refine r_nil ?_
                refine j_then ?_
                rcases of_if h with ⟨c28, h⟩ | ⟨c28, h⟩
                · refine j_true rfl (beq_t c28) ?_
                  refine j_seq ?_
                  refine j_region ?_
                  refine r_q (q_move rfl rfl) rfl rfl ?_
                  refine r_q (q_fieldAddr fi57_1 sz3 rfl rfl rfl) rfl rfl ?_
                  refine r_q (q_loadb 5 rfl ag3 rfl rfl rfl) rfl rfl ?_
                  obtain ⟨c29, h⟩ := of_guard h
                  refine r_q (q_ix (Rd.row 2 rfl) (ints_len1 _ v5) (by decide) x6.2.2.1.h c29 un25 sz3 rfl rfl rfl) rfl rfl ?_
                  refine r_q (q_ldI (Rd.row 2 rfl) c29 ag3 rfl rfl) rfl rfl ?_
                  refine r_q (q_assign rfl rfl) rfl rfl ?_
                  refine r_nil ?_
                  refine j_then ?_
                  refine j_seq ?_
                  refine j_seq ?_
                  refine j_region ?_
                  refine r_q (q_move rfl rfl) rfl rfl ?_
                  refine r_q (q_eql rfl rfl rfl) rfl rfl ?_
                  refine r_nil ?_
                  refine j_then ?_
                  rcases of_if h with ⟨c30, h⟩ | ⟨c30, h⟩
                  · refine j_true rfl (beq_t c30) ?_
                    refine j_seq ?_
                    refine j_region ?_
                    refine r_q (q_loadb_agg 6 rfl ag29 sz29 rfl rfl rfl rfl) rfl rfl ?_
                    refine r_do (a_storeb 4 rfl sz29 rfl rfl rfl rfl (Nat.le_of_ble_eq_true rfl) rfl) rfl rfl (fun _ => ?_)
                    refine j_b4 [(.slice x6.1.A x6.1.n x6.1.c), (.slice x6.2.1.A x6.2.1.n x6.2.1.c), (.slice x6.2.2.1.A x6.2.2.1.n x6.2.2.1.c), (.slice x6.2.2.2.A x6.2.2.2.n x6.2.2.2.c)] rfl ?_
                    refine r_q (q_assign rfl rfl) rfl rfl ?_
                    refine r_q (q_assign rfl rfl) rfl rfl ?_
                    refine r_nil ?_
                    refine j_then ?_
                    refine j_ret ?_
                    refine j_then_ret ?_
                    refine j_in_ret ?_
                    refine j_then_ret ?_
                    cases h
                    exact j_return rfl (ResOf.cell 4 rfl rfl ag29 sz29 (ResOf.tmp rfl (ResOf.tmp rfl ResOf.nil))) rfl (fun w h => ⟨(⟨x6.1.A, x6.1.n, x6.1.c, x6.1.h⟩, ⟨x6.2.1.A, x6.2.1.n, x6.2.1.c, x6.2.1.h⟩, ⟨x6.2.2.1.A, x6.2.2.1.n, x6.2.2.1.c, x6.2.2.1.h⟩, ⟨x6.2.2.2.A, x6.2.2.2.n, x6.2.2.2.c, x6.2.2.2.h⟩), rfl, h.pick 7 [0, 1, 2, 3] rfl⟩)
                  · refine j_false rfl (beq_f c30) ?_
                    refine j_skip ?_
                    refine j_then ?_
                    refine j_seq ?_
                    refine j_region ?_
                    refine r_q (q_fieldAddr fi57_0 sz3 rfl rfl rfl) rfl rfl ?_
                    refine r_q (q_loadb 5 rfl ag3 rfl rfl rfl) rfl rfl ?_
                    refine r_q (q_eql rfl rfl rfl) rfl rfl ?_
                    refine r_nil ?_
                    refine j_then ?_
                    refine j_false rfl (beq_f c23) ?_
                    obtain ⟨c31, h⟩ := of_guard h
                    obtain ⟨c32, h⟩ := of_guard h
                    refine j_draw (.row x6.1.A x6.1.c 3 1 (ii v3) :: .row x6.2.2.1.A x6.2.2.1.c 3 1 (ii v5) :: .row x6.2.2.2.A x6.2.2.2.c 3 1 (ii v6) :: .box x3 29 [(.slice none 0 0), (.slice none 0 0), (.slice none 0 0), (.slice none 0 0)] :: .box x2 57 [(i6 a1_0), (i6 a1_1), (i6 a1_2)] :: .box x1 29 [(.slice x6.1.A x6.1.n x6.1.c), (.slice x6.2.1.A x6.2.1.n x6.2.1.c), (.slice x6.2.2.1.A x6.2.2.1.n x6.2.2.1.c), (.slice x6.2.2.2.A x6.2.2.2.n x6.2.2.2.c)] :: F) 11 follows_any rfl ?_
                    refine d_take 0 rfl (q_fieldAddr fi29_0 sz27 rfl rfl rfl) rfl rfl (by kernel_rfl) (by kernel_rfl) (by kernel_rfl) (fun w h => h.pick 7 [0, 2, 3, 4, 5, 6] rfl) ?_
                    refine d_take 1 rfl (q_fieldAddr fi27_1 sz25 rfl rfl rfl) rfl rfl (by kernel_rfl) (by kernel_rfl) (by kernel_rfl) (fun w h => h.pick 7 [0, 2, 3, 4, 5, 6] rfl) ?_
                    refine d_take 2 rfl (q_loadb 5 rfl ag25 rfl rfl rfl) rfl rfl (by kernel_rfl) (by kernel_rfl) (by kernel_rfl) (fun w h => h.pick 7 [0, 2, 3, 4, 5, 6] rfl) ?_
                    refine d_take 3 rfl (q_move rfl rfl) rfl rfl (by kernel_rfl) (by kernel_rfl) (by kernel_rfl) (fun w h => h.pick 7 [0, 2, 3, 4, 5, 6] rfl) ?_
                    refine d_take 4 rfl (q_move rfl rfl) rfl rfl (by kernel_rfl) (by kernel_rfl) (by kernel_rfl) (fun w h => h.pick 7 [0, 2, 3, 4, 5, 6] rfl) ?_
                    refine d_take 5 rfl (q_fieldAddr fi57_2 sz3 rfl rfl rfl) rfl rfl (by kernel_rfl) (by kernel_rfl) (by kernel_rfl) (fun w h => h.pick 7 [0, 2, 3, 4, 5, 6] rfl) ?_
                    refine d_take 6 rfl (q_loadb 4 rfl ag3 rfl rfl rfl) rfl rfl (by kernel_rfl) (by kernel_rfl) (by kernel_rfl) (fun w h => h.pick 7 [0, 2, 3, 4, 5, 6] rfl) ?_
                    refine d_take 7 rfl (q_ix (Rd.row 1 rfl) (ints_len1 _ v5) (by decide) x6.2.2.1.h c31 un25 sz3 rfl rfl rfl) rfl rfl (by kernel_rfl) (by kernel_rfl) (by kernel_rfl) (fun w h => h.pick 7 [0, 2, 3, 4, 5, 6] rfl) ?_
                    refine d_take 8 rfl (q_ldI (Rd.row 1 rfl) c31 ag3 rfl rfl) rfl rfl (by kernel_rfl) (by kernel_rfl) (by kernel_rfl) (fun w h => h.pick 7 [0, 2, 3, 4, 5, 6] rfl) ?_
                    refine d_one 9 (by kernel_rfl) ?_
                    refine o_do rfl ((q_ix (Rd.row 1 rfl) (ints_len1 _ v4) (by decide) x6.2.1.h c32 un25 sz3 rfl rfl rfl)).acts rfl rfl (fun _ w h => h.pick 7 [0, 2, 3, 4, 5, 6] rfl) (fun _ => ?_)
                    refine d_one 10 (by kernel_rfl) ?_
                    refine o_do rfl (a_stI 1 rfl c32 sz3 rfl rfl rfl) rfl rfl (fun _ w h => h.pick 7 [0, 2, 3, 4, 5, 6] rfl) (fun _ => ?_)
                    refine j_s1 ?_
                    refine d_done (by kernel_rfl) ?_
                    refine j_in ?_
                    refine j_then ?_
                    refine j_seq ?_
                    refine j_region ?_
                    refine r_q (q_loadb_agg 6 rfl ag29 sz29 rfl rfl rfl rfl) rfl rfl ?_
                    refine r_do (a_storeb 4 rfl sz29 rfl rfl rfl rfl (Nat.le_of_ble_eq_true rfl) rfl) rfl rfl (fun _ => ?_)
                    refine j_b4 [(.slice x6.1.A x6.1.n x6.1.c), (.slice x6.2.1.A x6.2.1.n x6.2.1.c), (.slice x6.2.2.1.A x6.2.2.1.n x6.2.2.1.c), (.slice x6.2.2.2.A x6.2.2.2.n x6.2.2.2.c)] rfl ?_
                    refine r_q (q_assign rfl rfl) rfl rfl ?_
                    refine r_q (q_assign rfl rfl) rfl rfl ?_
                    refine r_nil ?_
                    refine j_then ?_
                    refine j_ret ?_
                    cases h
                    exact j_return rfl (ResOf.cell 4 rfl rfl ag29 sz29 (ResOf.tmp rfl (ResOf.tmp rfl ResOf.nil))) rfl (fun w h => ⟨(⟨x6.1.A, x6.1.n, x6.1.c, x6.1.h⟩, ⟨x6.2.1.A, x6.2.1.n, x6.2.1.c, (set_len x6.2.1.h _ _)⟩, ⟨x6.2.2.1.A, x6.2.2.1.n, x6.2.2.1.c, x6.2.2.1.h⟩, ⟨x6.2.2.2.A, x6.2.2.2.n, x6.2.2.2.c, x6.2.2.2.h⟩), rfl, h.pick 7 [0, 1, 2, 3] rfl⟩)
                · refine j_false rfl (beq_f c28) ?_
                  refine j_seq ?_
                  refine j_region ?_
                  refine r_q (q_eql rfl rfl rfl) rfl rfl ?_
                  refine r_q (q_assign rfl rfl) rfl rfl ?_
                  refine r_nil ?_
                  refine j_then ?_
                  rcases of_if h with ⟨c33, h⟩ | ⟨c33, h⟩
                  · refine j_true rfl (beq_t c33) ?_
                    refine j_region ?_
                    refine r_q (q_move rfl rfl) rfl rfl ?_
                    refine r_q (q_fieldAddr fi57_1 sz3 rfl rfl rfl) rfl rfl ?_
                    refine r_q (q_loadb 5 rfl ag3 rfl rfl rfl) rfl rfl ?_
                    obtain ⟨c34, h⟩ := of_guard h
                    refine r_q (q_ix (Rd.row 2 rfl) (ints_len1 _ v5) (by decide) x6.2.2.1.h c34 un25 sz3 rfl rfl rfl) rfl rfl ?_
                    refine r_do (a_stI 2 rfl c34 sz3 rfl rfl rfl) rfl rfl (fun _ => ?_)
                    refine j_s2 ?_
                    refine r_nil ?_
                    refine j_in ?_
                    refine j_then ?_
                    refine j_seq ?_
                    refine j_region ?_
                    refine r_q (q_loadb_agg 6 rfl ag29 sz29 rfl rfl rfl rfl) rfl rfl ?_
                    refine r_do (a_storeb 4 rfl sz29 rfl rfl rfl rfl (Nat.le_of_ble_eq_true rfl) rfl) rfl rfl (fun _ => ?_)
                    refine j_b4 [(.slice x6.1.A x6.1.n x6.1.c), (.slice x6.2.1.A x6.2.1.n x6.2.1.c), (.slice x6.2.2.1.A x6.2.2.1.n x6.2.2.1.c), (.slice x6.2.2.2.A x6.2.2.2.n x6.2.2.2.c)] rfl ?_
                    refine r_q (q_assign rfl rfl) rfl rfl ?_
                    refine r_q (q_assign rfl rfl) rfl rfl ?_
                    refine r_nil ?_
                    refine j_then ?_
                    refine j_ret ?_
                    cases h
                    exact j_return rfl (ResOf.cell 4 rfl rfl ag29 sz29 (ResOf.tmp rfl (ResOf.tmp rfl ResOf.nil))) rfl (fun w h => ⟨(⟨x6.1.A, x6.1.n, x6.1.c, x6.1.h⟩, ⟨x6.2.1.A, x6.2.1.n, x6.2.1.c, x6.2.1.h⟩, ⟨x6.2.2.1.A, x6.2.2.1.n, x6.2.2.1.c, (set_len x6.2.2.1.h _ _)⟩, ⟨x6.2.2.2.A, x6.2.2.2.n, x6.2.2.2.c, x6.2.2.2.h⟩), rfl, h.pick 7 [0, 1, 2, 3] rfl⟩)
                  · refine j_false rfl (beq_f c33) ?_
                    refine j_skip ?_
                    refine j_in ?_
                    refine j_then ?_
                    refine j_seq ?_
                    refine j_region ?_
                    refine r_q (q_loadb_agg 6 rfl ag29 sz29 rfl rfl rfl rfl) rfl rfl ?_
                    refine r_do (a_storeb 4 rfl sz29 rfl rfl rfl rfl (Nat.le_of_ble_eq_true rfl) rfl) rfl rfl (fun _ => ?_)
                    refine j_b4 [(.slice x6.1.A x6.1.n x6.1.c), (.slice x6.2.1.A x6.2.1.n x6.2.1.c), (.slice x6.2.2.1.A x6.2.2.1.n x6.2.2.1.c), (.slice x6.2.2.2.A x6.2.2.2.n x6.2.2.2.c)] rfl ?_
                    refine r_q (q_assign rfl rfl) rfl rfl ?_
                    refine r_q (q_assign rfl rfl) rfl rfl ?_
                    refine r_nil ?_
                    refine j_then ?_
                    refine j_ret ?_
                    cases h
                    exact j_return rfl (ResOf.cell 4 rfl rfl ag29 sz29 (ResOf.tmp rfl (ResOf.tmp rfl ResOf.nil))) rfl (fun w h => ⟨(⟨x6.1.A, x6.1.n, x6.1.c, x6.1.h⟩, ⟨x6.2.1.A, x6.2.1.n, x6.2.1.c, x6.2.1.h⟩, ⟨x6.2.2.1.A, x6.2.2.1.n, x6.2.2.1.c, x6.2.2.1.h⟩, ⟨x6.2.2.2.A, x6.2.2.2.n, x6.2.2.2.c, x6.2.2.2.h⟩), rfl, h.pick 7 [0, 1, 2, 3] rfl⟩)
    · refine j_true rfl (not_t (var_f c2)) ?_
      refine j_seq ?_
      refine j_region ?_
      refine r_q (q_build (cs := [(.slice none 0 0), (.slice none 0 0), (.slice none 0 0), (.slice none 0 0)]) zr29 pl29 rfl rfl rfl rfl) rfl rfl ?_
      refine r_do (a_storeb 0 rfl sz29 rfl rfl rfl rfl (Nat.le_of_ble_eq_true rfl) rfl) rfl rfl (fun _ => ?_)
      refine j_b0 [(.slice none 0 0), (.slice none 0 0), (.slice none 0 0), (.slice none 0 0)] rfl ?_
      refine r_q (q_assign rfl rfl) rfl rfl ?_
      refine r_q (q_assign rfl rfl) rfl rfl ?_
      refine r_nil ?_
      refine j_then ?_
      refine j_ret ?_
      refine j_then_ret ?_
      refine j_nil 3 1 ?_
      refine j_nil 3 1 ?_
      refine j_nil 3 1 ?_
      refine j_nil 3 1 ?_
      cases h
      exact j_return rfl (ResOf.cell 4 rfl rfl ag29 sz29 (ResOf.tmp rfl (ResOf.tmp rfl ResOf.nil))) rfl (fun w h => ⟨(⟨none, 0, 0, rfl⟩, ⟨none, 0, 0, rfl⟩, ⟨none, 0, 0, rfl⟩, ⟨none, 0, 0, rfl⟩), rfl, h.pick 7 [3, 2, 1, 0] rfl⟩)
  · refine r_off rfl rfl rfl rfl (not_t (var_f c1)) rfl ?_
    refine r_off rfl rfl rfl rfl (not_t (var_f c1)) rfl ?_
    refine r_off rfl rfl rfl rfl (not_t (var_f c1)) rfl ?_
    refine r_off rfl rfl rfl rfl (not_t (var_f c1)) rfl ?_
    refine r_off rfl rfl rfl rfl (not_t (var_f c1)) rfl ?_
    refine r_off rfl rfl rfl rfl (not_t (var_f c1)) rfl ?_
    refine r_off rfl rfl rfl rfl (not_t (var_f c1)) rfl ?_
    refine r_q (q_pick_t rfl rfl (not_t (var_f c1)) rfl) rfl rfl ?_
    refine r_nil ?_
    refine j_then ?_
    refine j_true rfl rfl ?_
    refine j_seq ?_
    refine j_region ?_
    refine r_q (q_build (cs := [(.slice none 0 0), (.slice none 0 0), (.slice none 0 0), (.slice none 0 0)]) zr29 pl29 rfl rfl rfl rfl) rfl rfl ?_
    refine r_do (a_storeb 0 rfl sz29 rfl rfl rfl rfl (Nat.le_of_ble_eq_true rfl) rfl) rfl rfl (fun _ => ?_)
    refine j_b0 [(.slice none 0 0), (.slice none 0 0), (.slice none 0 0), (.slice none 0 0)] rfl ?_
    refine r_q (q_assign rfl rfl) rfl rfl ?_
    refine r_q (q_assign rfl rfl) rfl rfl ?_
    refine r_nil ?_
    refine j_then ?_
    refine j_ret ?_
    refine j_then_ret ?_
    refine j_nil 3 1 ?_
    refine j_nil 3 1 ?_
    refine j_nil 3 1 ?_
    refine j_nil 3 1 ?_
    cases h
    exact j_return rfl (ResOf.cell 4 rfl rfl ag29 sz29 (ResOf.tmp rfl (ResOf.tmp rfl ResOf.nil))) rfl (fun w h => ⟨(⟨none, 0, 0, rfl⟩, ⟨none, 0, 0, rfl⟩, ⟨none, 0, 0, rfl⟩, ⟨none, 0, 0, rfl⟩), rfl, h.pick 7 [3, 2, 1, 0] rfl⟩)

end Go.Proofs.Ytigidjhdcplplaa.F
