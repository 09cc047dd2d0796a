/- The program computes these pure functions, printed by the generator of wip/gen. -/
import Derived.Test.YtigidjhdcplplaaFa
import Derived.Test.YtigidjhdcplplaaFg
import Derived.Test.YtigidjhdcplplaaFb
import Derived.Test.YtigidjhdcplplaaC0
import Derived.Test.YtigidjhdcplplaaC1
import Derived.Test.YtigidjhdcplplaaC2
import Derived.Test.YtigidjhdcplplaaC3
import Derived.Test.YtigidjhdcplplaaC4
import Derived.Test.YtigidjhdcplplaaC6
import Derived.Test.YtigidjhdcplplaaC7
import Derived.Test.YtigidjhdcplplaaC8
import Derived.Test.YtigidjhdcplplaaC9
import Derived.Test.YtigidjhdcplplaaC14
namespace Go.Proofs.Ytigidjhdcplplaa.F
open Go Go.RowKit Go.Proofs.Ytigidjhdcplplaa.S
set_option linter.unusedVariables false
set_option maxRecDepth 100000
theorem spec_DrawStoreValid.calls (K : Nat) (a0 : List Int) (a0_A : Option Addr) (a0_n a0_c : Nat) {w0 w : World} {F : List Res} {r1 : List Int} {r2 : List Int} {r3 : List Int} {r4 : List Int} (hm : Mem w0 (F) w) (a0_h : a0.length = a0_n) (a0_R : Rd w0 F a0_A (ints .u8 a0)) (a0_k : a0.length ≤ a0_c) (h : spec_DrawStoreValid.f K a0 = some (r1, r2, r3, r4)) :
    Calls Try.prog 21 (List.toArray [.slice a0_A a0_n a0_c]) w fun e w' => ∃ x : (Sl r1.length) × (Sl r2.length) × (Sl r3.length) × (Sl r4.length), e = .returned (.agg (List.toArray [.slice x.1.A x.1.n x.1.c, .slice x.2.1.A x.2.1.n x.2.1.c, .slice x.2.2.1.A x.2.2.1.n x.2.2.1.c, .slice x.2.2.2.A x.2.2.2.n x.2.2.2.c])) ∧ Mem w0 (.row x.1.A x.1.c 3 1 (ii r1) :: .row x.2.1.A x.2.1.c 3 1 (ii r2) :: .row x.2.2.1.A x.2.2.1.c 3 1 (ii r3) :: .row x.2.2.2.A x.2.2.2.c 3 1 (ii r4) :: F) w' := by
  unfold spec_DrawStoreValid.f at h
  refine calls_of_J (n := 12) Try.func21 rfl rfl rfl hm ?_
  refine j_seq ?_
  refine j_region ?_
  refine r_do (a_alloc zr29 rfl) rfl rfl (fun x1 => ?_)
  refine r_nil ?_
  refine j_then ?_
  refine j_seq ?_
  refine j_region ?_
  refine r_q (q_move rfl rfl) rfl rfl ?_
  obtain ⟨_, hb1, h⟩ := of_b1 h
  refine r_do (a_call ok58 rfl rfl rfl rfl (fun w hm => spec_l13Open.calls K a0 a0_A a0_n a0_c hm a0_h (Rd.drop 1 a0_R) a0_k hb1)) rfl rfl (fun x2 => ?_)
  refine r_q (q_assign rfl rfl) rfl rfl ?_
  refine r_nil ?_
  refine j_then ?_
  refine j_seq ?_
  refine j_region ?_
  refine r_q (q_move rfl rfl) rfl rfl ?_
  refine r_q (q_move rfl rfl) rfl rfl ?_
  refine r_q (q_move rfl rfl) rfl rfl ?_
  obtain ⟨v1, v2, v3, v4, v5, hb2, h⟩ := of_b5 h
  refine r_do (a_call ok60 rfl rfl rfl rfl (fun w hm => spec_l4Draw.calls K x2 (a0.take 2000) a0_A (a0.take 2000).length a0_c (0:Int) hm rfl (rd_hiI (Rd.drop 1 a0_R) 2000) hb2)) rfl rfl (fun x3 => ?_)
  obtain ⟨v6, v7, v8, v9, v10, hb3, h⟩ := of_b5 h
  refine j_rs (.box x2 89 [(.slice a0_A (a0.take 2000).length a0_c), (i6 v5)] :: .row x3.1.A x3.1.c 3 1 (ii v1) :: .row x3.2.1.A x3.2.1.c 3 1 (ii v2) :: .row x3.2.2.1.A x3.2.2.1.c 3 1 (ii v3) :: .row x3.2.2.2.A x3.2.2.2.c 3 1 (ii v4) :: .box x1 29 [(.slice none 0 0), (.slice none 0 0), (.slice none 0 0), (.slice none 0 0)] :: F) (fun _ h => h.pick 6 [4, 0, 1, 2, 3, 5] rfl) ?_
  refine r_do (a_call ok59 rfl rfl rfl rfl (fun w hm => spec_l4Wrong.calls K x2 (a0.take 2000) a0_A (a0.take 2000).length a0_c v5 v1 x3.1.A x3.1.n x3.1.c v2 x3.2.1.A x3.2.1.n x3.2.1.c v3 x3.2.2.1.A x3.2.2.1.n x3.2.2.1.c v4 x3.2.2.2.A x3.2.2.2.n x3.2.2.2.c hm rfl (rd_hiI (Rd.drop 5 a0_R) 2000) x3.1.h (Rd.row 0 rfl) x3.2.1.h (Rd.row 1 rfl) x3.2.2.1.h (Rd.row 2 rfl) x3.2.2.2.h (Rd.row 3 rfl) hb3)) rfl rfl (fun x4 => ?_)
  obtain ⟨v11, v12, v13, v14, v15, hb4, h⟩ := of_b5 h
  refine j_rs (.box x2 89 [(.slice a0_A (a0.take 2000).length a0_c), (i6 v10)] :: .row x4.1.A x4.1.c 3 1 (ii v6) :: .row x4.2.1.A x4.2.1.c 3 1 (ii v7) :: .row x4.2.2.1.A x4.2.2.1.c 3 1 (ii v8) :: .row x4.2.2.2.A x4.2.2.2.c 3 1 (ii v9) :: .row x3.1.A x3.1.c 3 1 (ii v1) :: .row x3.2.1.A x3.2.1.c 3 1 (ii v2) :: .row x3.2.2.1.A x3.2.2.1.c 3 1 (ii v3) :: .row x3.2.2.2.A x3.2.2.2.c 3 1 (ii v4) :: .box x1 29 [(.slice none 0 0), (.slice none 0 0), (.slice none 0 0), (.slice none 0 0)] :: F) (fun _ h => h.pick 10 [4, 0, 1, 2, 3, 5, 6, 7, 8, 9] rfl) ?_
  refine r_do (a_call ok59 rfl rfl rfl rfl (fun w hm => spec_l4Wrong.calls K x2 (a0.take 2000) a0_A (a0.take 2000).length a0_c v10 v6 x4.1.A x4.1.n x4.1.c v7 x4.2.1.A x4.2.1.n x4.2.1.c v8 x4.2.2.1.A x4.2.2.1.n x4.2.2.1.c v9 x4.2.2.2.A x4.2.2.2.n x4.2.2.2.c hm rfl (rd_hiI (Rd.drop 9 a0_R) 2000) x4.1.h (Rd.row 0 rfl) x4.2.1.h (Rd.row 1 rfl) x4.2.2.1.h (Rd.row 2 rfl) x4.2.2.2.h (Rd.row 3 rfl) hb4)) rfl rfl (fun x5 => ?_)
  refine r_do (a_storeb 13 rfl sz29 rfl rfl rfl rfl (Nat.le_of_ble_eq_true rfl) rfl) rfl rfl (fun _ => ?_)
  refine j_b13 [(.slice x5.1.A x5.1.n x5.1.c), (.slice x5.2.1.A x5.2.1.n x5.2.1.c), (.slice x5.2.2.1.A x5.2.2.1.n x5.2.2.1.c), (.slice x5.2.2.2.A x5.2.2.2.n x5.2.2.2.c)] rfl ?_
  refine r_nil ?_
  refine j_then ?_
  refine j_ret ?_
  cases h
  exact j_return rfl (ResOf.cell 13 rfl rfl ag29 sz29 ResOf.nil) rfl (fun w h => ⟨(⟨x5.1.A, x5.1.n, x5.1.c, x5.1.h⟩, ⟨x5.2.1.A, x5.2.1.n, x5.2.1.c, x5.2.1.h⟩, ⟨x5.2.2.1.A, x5.2.2.1.n, x5.2.2.1.c, x5.2.2.1.h⟩, ⟨x5.2.2.2.A, x5.2.2.2.n, x5.2.2.2.c, x5.2.2.2.h⟩), rfl, h.pick 14 [0, 1, 2, 3] rfl⟩)

theorem laws_FnStoreValid.calls (K : Nat) (a0 : List Int) (a0_A : Option Addr) (a0_n a0_c : Nat) {w0 w : World} {F : List Res} {r1 : Bool} (hm : Mem w0 (F) w) (a0_h : a0.length = a0_n) (a0_R : Rd w0 F a0_A (ints .u8 a0)) (a0_k : a0.length ≤ a0_c) (h : laws_FnStoreValid.f K a0 = some r1) :
    Calls Try.prog 4 (List.toArray [.slice a0_A a0_n a0_c]) w fun e w' => ∃ x : Unit, e = .returned (.bool r1) ∧ Mem w0 (F) w' := by
  unfold laws_FnStoreValid.f at h
  refine calls_of_J (n := 66) Try.func4 rfl rfl rfl hm ?_
  refine j_seq ?_
  refine j_region ?_
  refine r_q (q_assign rfl rfl) rfl rfl ?_
  refine r_nil ?_
  refine j_then ?_
  refine j_seq ?_
  refine j_seq ?_
  refine j_region ?_
  refine r_q (q_move rfl rfl) rfl rfl ?_
  refine r_q (q_lenX a0 a0_h un22 rfl rfl rfl rfl rfl) rfl rfl ?_
  refine r_q (q_gtr rfl rfl rfl) rfl rfl ?_
  refine r_nil ?_
  refine j_then ?_
  rcases of_if h with ⟨c1, h⟩ | ⟨c1, h⟩
  · refine j_true rfl (decide_eq_true c1) ?_
    refine j_seq ?_
    refine j_region ?_
    refine r_q (q_assign rfl rfl) rfl rfl ?_
    refine r_nil ?_
    refine j_then ?_
    refine j_ret ?_
    refine j_then_ret ?_
    cases h
    exact j_return rfl (ResOf.tmp rfl ResOf.nil) rfl (fun w h => ⟨(), rfl, h⟩)
  · refine j_false rfl (decide_eq_false c1) ?_
    refine j_skip ?_
    refine j_then ?_
    refine j_seq ?_
    refine j_region ?_
    refine r_q (q_move rfl rfl) rfl rfl ?_
    obtain ⟨v1, v2, v3, v4, hb1, h⟩ := of_b4 h
    refine r_do (a_call ok21 rfl rfl rfl rfl (fun w hm => spec_DrawStoreValid.calls K a0 a0_A a0_n a0_c hm a0_h a0_R a0_k hb1)) rfl rfl (fun x1 => ?_)
    refine r_do (a_alloc zr29 rfl) rfl rfl (fun x2 => ?_)
    refine r_do (a_storeb 0 rfl sz29 rfl rfl rfl rfl (Nat.le_of_ble_eq_true rfl) rfl) rfl rfl (fun _ => ?_)
    refine j_b0 [(.slice x1.1.A x1.1.n x1.1.c), (.slice x1.2.1.A x1.2.1.n x1.2.1.c), (.slice x1.2.2.1.A x1.2.2.1.n x1.2.2.1.c), (.slice x1.2.2.2.A x1.2.2.2.n x1.2.2.2.c)] rfl ?_
    refine r_nil ?_
    refine j_then ?_
    refine j_seq ?_
    refine j_region ?_
    refine r_q (q_loadb_agg 0 rfl ag29 sz29 rfl rfl rfl rfl) rfl rfl ?_
    obtain ⟨v5, hb2, h⟩ := of_b1 h
    refine r_do (a_call ok22 rfl rfl rfl rfl (fun w hm => impl_StoreValid.calls K v1 x1.1.A x1.1.n x1.1.c v2 x1.2.1.A x1.2.1.n x1.2.1.c v3 x1.2.2.1.A x1.2.2.1.n x1.2.2.1.c v4 x1.2.2.2.A x1.2.2.2.n x1.2.2.2.c hm x1.1.h (Rd.row 1 rfl) x1.2.1.h (Rd.row 2 rfl) x1.2.2.1.h (Rd.row 3 rfl) x1.2.2.2.h (Rd.row 4 rfl) (hm.roomI 4 rfl) hb2)) rfl rfl (fun x3 => ?_)
    refine r_q (q_assign rfl rfl) rfl rfl ?_
    refine r_nil ?_
    refine j_then ?_
    refine j_seq ?_
    refine j_seq ?_
    refine j_region ?_
    refine r_q (q_move rfl rfl) rfl rfl ?_
    refine r_q (q_loadb_agg 0 rfl ag29 sz29 rfl rfl rfl rfl) rfl rfl ?_
    obtain ⟨v6, hb3, h⟩ := of_b1 h
    refine r_do (a_call ok23 rfl rfl rfl rfl (fun w hm => spec_StoreValid.calls K v1 x1.1.A x1.1.n x1.1.c v2 x1.2.1.A x1.2.1.n x1.2.1.c v3 x1.2.2.1.A x1.2.2.1.n x1.2.2.1.c v4 x1.2.2.2.A x1.2.2.2.n x1.2.2.2.c hm x1.1.h (Rd.row 1 rfl) x1.2.1.h (Rd.row 2 rfl) x1.2.2.1.h (Rd.row 3 rfl) x1.2.2.2.h (Rd.row 4 rfl) (hm.roomI 4 rfl) hb3)) rfl rfl (fun x4 => ?_)
    refine r_q (q_bneq un4 rfl rfl rfl) rfl rfl ?_
    refine r_q (q_move rfl rfl) rfl rfl ?_
    rcases of_if h with ⟨c2, h⟩ | ⟨c2, h⟩
    · refine r_qon (q_move rfl rfl) rfl rfl rfl rfl (bne_f c2) rfl ?_
      refine r_qon (q_not rfl rfl) rfl rfl rfl rfl (bne_f c2) rfl ?_
      refine r_q (q_pick_f rfl rfl (bne_f c2) rfl) rfl rfl ?_
      refine r_q (q_move rfl rfl) rfl rfl ?_
      rcases of_if h with ⟨c3, h⟩ | ⟨c3, h⟩
      · refine r_qon (q_fieldAddr fi29_1 sz25 rfl rfl rfl) rfl rfl rfl rfl (not_f c3) rfl ?_
        refine r_qon (q_loadb 0 rfl ag25 rfl rfl rfl) rfl rfl rfl rfl (not_f c3) rfl ?_
        refine r_qon (q_lenX v4 x1.2.2.2.h un25 rfl rfl rfl rfl rfl) rfl rfl rfl rfl (not_f c3) rfl ?_
        refine r_qon (q_eql rfl rfl rfl) rfl rfl rfl rfl (not_f c3) rfl ?_
        refine r_q (q_pick_f rfl rfl (not_f c3) rfl) rfl rfl ?_
        refine r_nil ?_
        refine j_then ?_
        rcases of_if h with ⟨c4, h⟩ | ⟨c4, h⟩
        · refine j_true rfl (beq_t c4) ?_
          refine j_seq ?_
          refine j_region ?_
          refine r_q (q_move rfl rfl) rfl rfl ?_
          refine r_q (q_loadb_agg 0 rfl ag29 sz29 rfl rfl rfl rfl) rfl rfl ?_
          obtain ⟨v7, hb4, h⟩ := of_b1 h
          refine r_do (a_call ok23 rfl rfl rfl rfl (fun w hm => spec_StoreValid.calls K v1 x1.1.A x1.1.n x1.1.c v2 x1.2.1.A x1.2.1.n x1.2.1.c v3 x1.2.2.1.A x1.2.2.1.n x1.2.2.1.c v4 x1.2.2.2.A x1.2.2.2.n x1.2.2.2.c hm x1.1.h (Rd.row 1 rfl) x1.2.1.h (Rd.row 2 rfl) x1.2.2.1.h (Rd.row 3 rfl) x1.2.2.2.h (Rd.row 4 rfl) (hm.roomI 4 rfl) hb4)) rfl rfl (fun x5 => ?_)
          refine r_q (q_beql un4 rfl rfl rfl) rfl rfl ?_
          refine r_q (q_assign rfl rfl) rfl rfl ?_
          refine r_nil ?_
          refine j_then ?_
          refine j_ret ?_
          refine j_then_ret ?_
          cases h
          exact j_return rfl (ResOf.tmp rfl ResOf.nil) rfl (fun w h => ⟨(), rfl, (h.drop 5)⟩)
        · refine j_false rfl (beq_f c4) ?_
          refine j_skip ?_
          refine j_then ?_
          refine j_seq ?_
          refine j_region ?_
          refine r_q (q_loadb_agg 0 rfl ag29 sz29 rfl rfl rfl rfl) rfl rfl ?_
          refine r_do (a_alloc zr29 rfl) rfl rfl (fun x6 => ?_)
          refine r_do (a_storeb 0 rfl sz29 rfl rfl rfl rfl (Nat.le_of_ble_eq_true rfl) rfl) rfl rfl (fun _ => ?_)
          refine j_b0 [(.slice x1.1.A x1.1.n x1.1.c), (.slice x1.2.1.A x1.2.1.n x1.2.1.c), (.slice x1.2.2.1.A x1.2.2.1.n x1.2.2.1.c), (.slice x1.2.2.2.A x1.2.2.2.n x1.2.2.2.c)] rfl ?_
          refine r_nil ?_
          refine j_then ?_
          refine j_seq ?_
          obtain ⟨c5, h⟩ := of_guard h
          obtain ⟨c6, h⟩ := of_guard h
          obtain ⟨c7, h⟩ := of_guard h
          refine j_draw (.box x2 29 [(.slice x1.1.A x1.1.n x1.1.c), (.slice x1.2.1.A x1.2.1.n x1.2.1.c), (.slice x1.2.2.1.A x1.2.2.1.n x1.2.2.1.c), (.slice x1.2.2.2.A x1.2.2.2.n x1.2.2.2.c)] :: .row x1.1.A x1.1.c 3 1 (ii v1) :: .row x1.2.1.A x1.2.1.c 3 1 (ii v2) :: .row x1.2.2.1.A x1.2.2.1.c 3 1 (ii v3) :: .row x1.2.2.2.A x1.2.2.2.c 3 1 (ii v4) :: F) 12 follows_any rfl ?_
          refine d_take 1 rfl (q_fieldAddr fi29_1 sz25 rfl rfl rfl) rfl rfl (by kernel_rfl) (by kernel_rfl) (by kernel_rfl) (fun w h => h.tail) ?_
          refine d_take 2 rfl (q_loadb 0 rfl ag25 rfl rfl rfl) rfl rfl (by kernel_rfl) (by kernel_rfl) (by kernel_rfl) (fun w h => h.tail) ?_
          refine d_take 4 rfl (q_fieldAddr fi29_1 sz25 rfl rfl rfl) rfl rfl (by kernel_rfl) (by kernel_rfl) (by kernel_rfl) (fun w h => h.tail) ?_
          refine d_take 5 rfl (q_loadb 0 rfl ag25 rfl rfl rfl) rfl rfl (by kernel_rfl) (by kernel_rfl) (by kernel_rfl) (fun w h => h.tail) ?_
          refine d_take 6 rfl (q_ix (Rd.row 4 rfl) (ints_len1 _ v4) (by decide) x1.2.2.2.h c6 un25 sz3 rfl rfl rfl) rfl rfl (by kernel_rfl) (by kernel_rfl) (by kernel_rfl) (fun w h => h.tail) ?_
          refine d_take 7 rfl (q_ldI (Rd.row 4 rfl) c6 ag3 rfl rfl) rfl rfl (by kernel_rfl) (by kernel_rfl) (by kernel_rfl) (fun w h => h.tail) ?_
          refine d_join (σ := (Option Addr) × (Option Addr × Nat) × (Option Addr) × (Option Addr × Nat)) 0 #[true, true, true, true, true, true, true, true, true, true, true, true] (fun s => [(3, (pt x2)), (5, (pt x6))]) (fun s => .row s.2.2.2.1 s.2.2.2.2 3 1 (ii ((([] : List Int) ++ v4) ++ ([(rd v4 (0:Int))] : List Int))) :: .row s.2.2.1 1 3 1 (ii ([(rd v4 (0:Int))] : List Int)) :: .box x6 29 [(.slice x1.1.A x1.1.n x1.1.c), (.slice x1.2.1.A x1.2.1.n x1.2.1.c), (.slice x1.2.2.1.A x1.2.2.1.n x1.2.2.1.c), (.slice s.2.2.2.1 ((0 + x1.2.2.2.n) + 1) s.2.2.2.2)] :: .box x2 29 [(.slice x1.1.A x1.1.n x1.1.c), (.slice x1.2.1.A x1.2.1.n x1.2.1.c), (.slice x1.2.2.1.A x1.2.2.1.n x1.2.2.1.c), (.slice x1.2.2.2.A x1.2.2.2.n x1.2.2.2.c)] :: .row x1.1.A x1.1.c 3 1 (ii v1) :: .row x1.2.1.A x1.2.1.c 3 1 (ii v2) :: .row x1.2.2.1.A x1.2.2.1.c 3 1 (ii v3) :: .row x1.2.2.2.A x1.2.2.2.c 3 1 (ii v4) :: F) ?_ (fun hD4095 => ?_)
          · rintro ⟨x7, x8, x9, x10⟩
            show J _ _ [(3, (pt x2)), (5, (pt x6))] _ (.row x10.1 x10.2 3 1 (ii ((([] : List Int) ++ v4) ++ ([(rd v4 (0:Int))] : List Int))) :: .row x9 1 3 1 (ii ([(rd v4 (0:Int))] : List Int)) :: .box x6 29 [(.slice x1.1.A x1.1.n x1.1.c), (.slice x1.2.1.A x1.2.1.n x1.2.1.c), (.slice x1.2.2.1.A x1.2.2.1.n x1.2.2.1.c), (.slice x10.1 ((0 + x1.2.2.2.n) + 1) x10.2)] :: .box x2 29 [(.slice x1.1.A x1.1.n x1.1.c), (.slice x1.2.1.A x1.2.1.n x1.2.1.c), (.slice x1.2.2.1.A x1.2.2.1.n x1.2.2.1.c), (.slice x1.2.2.2.A x1.2.2.2.n x1.2.2.2.c)] :: .row x1.1.A x1.1.c 3 1 (ii v1) :: .row x1.2.1.A x1.2.1.c 3 1 (ii v2) :: .row x1.2.2.1.A x1.2.2.1.c 3 1 (ii v3) :: .row x1.2.2.2.A x1.2.2.2.c 3 1 (ii v4) :: F)
            refine d_done (by kernel_rfl) ?_
            refine j_then ?_
            refine j_seq ?_
            refine j_region ?_
            refine r_q (q_loadb_agg 3 rfl ag29 sz29 rfl rfl rfl rfl) rfl rfl ?_
            refine r_do (a_alloc zr29 rfl) rfl rfl (fun x11 => ?_)
            refine r_do (a_storeb 0 rfl sz29 rfl rfl rfl rfl (Nat.le_of_ble_eq_true rfl) rfl) rfl rfl (fun _ => ?_)
            refine j_b0 [(.slice x1.1.A x1.1.n x1.1.c), (.slice x1.2.1.A x1.2.1.n x1.2.1.c), (.slice x1.2.2.1.A x1.2.2.1.n x1.2.2.1.c), (.slice x1.2.2.2.A x1.2.2.2.n x1.2.2.2.c)] rfl ?_
            refine r_nil ?_
            refine j_then ?_
            refine j_seq ?_
            refine j_region ?_
            refine r_q (q_fieldAddr fi29_1 sz25 rfl rfl rfl) rfl rfl ?_
            refine r_q (q_loadb 4 rfl ag25 rfl rfl rfl) rfl rfl ?_
            obtain ⟨c8, h⟩ := of_guard h
            refine j_fact (fun w hm => (hm.roomI 8 rfl)) (fun k2 => ?_)
            refine r_q (q_lo v4 x1.2.2.2.h c8 un25 sz3 rfl rfl rfl) rfl rfl ?_
            refine r_q (q_fieldAddr fi29_1 sz25 rfl rfl rfl) rfl rfl ?_
            refine r_do (a_storeb 0 rfl sz25 rfl rfl rfl rfl (Nat.le_of_ble_eq_true rfl) rfl) rfl rfl (fun _ => ?_)
            refine j_b0 [(.slice x1.1.A x1.1.n x1.1.c), (.slice x1.2.1.A x1.2.1.n x1.2.1.c), (.slice x1.2.2.1.A x1.2.2.1.n x1.2.2.1.c), (.slice (cutA x1.2.2.2.A x1.2.2.2.c (1:Int).toNat 1) (v4.drop (1:Int).toNat).length (x1.2.2.2.c - (1:Int).toNat))] rfl ?_
            refine r_nil ?_
            refine j_then ?_
            refine j_seq ?_
            obtain ⟨v8, hb5, h⟩ := of_b1 h
            rcases of_if h with ⟨c9, h⟩ | ⟨c9, h⟩
            · refine j_draw (.box x11 29 [(.slice x1.1.A x1.1.n x1.1.c), (.slice x1.2.1.A x1.2.1.n x1.2.1.c), (.slice x1.2.2.1.A x1.2.2.1.n x1.2.2.1.c), (.slice (cutA x1.2.2.2.A x1.2.2.2.c (1:Int).toNat 1) (v4.drop (1:Int).toNat).length (x1.2.2.2.c - (1:Int).toNat))] :: .row x10.1 x10.2 3 1 (ii ((([] : List Int) ++ v4) ++ ([(rd v4 (0:Int))] : List Int))) :: .row x9 1 3 1 (ii ([(rd v4 (0:Int))] : List Int)) :: .box x6 29 [(.slice x1.1.A x1.1.n x1.1.c), (.slice x1.2.1.A x1.2.1.n x1.2.1.c), (.slice x1.2.2.1.A x1.2.2.1.n x1.2.2.1.c), (.slice x10.1 ((0 + x1.2.2.2.n) + 1) x10.2)] :: .box x2 29 [(.slice x1.1.A x1.1.n x1.1.c), (.slice x1.2.1.A x1.2.1.n x1.2.1.c), (.slice x1.2.2.1.A x1.2.2.1.n x1.2.2.1.c), (.slice x1.2.2.2.A x1.2.2.2.n x1.2.2.2.c)] :: .row x1.1.A x1.1.c 3 1 (ii v1) :: .row x1.2.1.A x1.2.1.c 3 1 (ii v2) :: .row x1.2.2.1.A x1.2.2.1.c 3 1 (ii v3) :: .row x1.2.2.2.A x1.2.2.2.c 3 1 (ii v4) :: F) 18 follows_any rfl ?_
              refine d_take 0 rfl (q_loadb_agg 3 rfl ag29 sz29 rfl rfl rfl rfl) rfl rfl (by kernel_rfl) (by kernel_rfl) (by kernel_rfl) (fun w h => h) ?_
              refine d_one 1 (by kernel_rfl) ?_
              refine o_do rfl (a_call ok22 rfl rfl rfl rfl (fun w hm => impl_StoreValid.calls K v1 x1.1.A x1.1.n x1.1.c v2 x1.2.1.A x1.2.1.n x1.2.1.c v3 x1.2.2.1.A x1.2.2.1.n x1.2.2.1.c ((([] : List Int) ++ v4) ++ ([(rd v4 (0:Int))] : List Int)) x10.1 ((0 + x1.2.2.2.n) + 1) x10.2 hm x1.1.h (Rd.row 5 rfl) x1.2.1.h (Rd.row 6 rfl) x1.2.2.1.h (Rd.row 7 rfl) (app_len (app_len rfl x1.2.2.2.h) rfl) (Rd.row 1 rfl) (hm.roomI 1 rfl) hb5)) rfl rfl (fun x12 w h => h) (fun x12 => ?_)
              refine d_take 2 rfl (q_not rfl rfl) rfl rfl (by kernel_rfl) (by kernel_rfl) (by kernel_rfl) (fun w h => h) ?_
              refine d_take 3 rfl (q_move rfl rfl) rfl rfl (by kernel_rfl) (by kernel_rfl) (by kernel_rfl) (fun w h => h) ?_
              refine d_take_off 4 rfl rfl rfl rfl rfl (not_f c9) rfl (by kernel_rfl) (by kernel_rfl) (by kernel_rfl) (fun w h => h) ?_
              refine d_take_off 5 rfl rfl rfl rfl rfl (not_f c9) rfl (by kernel_rfl) (by kernel_rfl) (by kernel_rfl) (fun w h => h) ?_
              refine d_take 6 rfl (q_pick_f rfl rfl (not_f c9) rfl) rfl rfl (by kernel_rfl) (by kernel_rfl) (by kernel_rfl) (fun w h => h) ?_
              refine d_take 7 rfl (q_move rfl rfl) rfl rfl (by kernel_rfl) (by kernel_rfl) (by kernel_rfl) (fun w h => h) ?_
              refine d_take_off 8 rfl rfl rfl rfl rfl rfl rfl (by kernel_rfl) (by kernel_rfl) (by kernel_rfl) (fun w h => h) ?_
              refine d_take_off 9 rfl rfl rfl rfl rfl rfl rfl (by kernel_rfl) (by kernel_rfl) (by kernel_rfl) (fun w h => h) ?_
              refine d_take_off 10 rfl rfl rfl rfl rfl rfl rfl (by kernel_rfl) (by kernel_rfl) (by kernel_rfl) (fun w h => h) ?_
              refine d_take_off 11 rfl rfl rfl rfl rfl rfl rfl (by kernel_rfl) (by kernel_rfl) (by kernel_rfl) (fun w h => h) ?_
              refine d_take_off 12 rfl rfl rfl rfl rfl rfl rfl (by kernel_rfl) (by kernel_rfl) (by kernel_rfl) (fun w h => h) ?_
              refine d_take_off 13 rfl rfl rfl rfl rfl rfl rfl (by kernel_rfl) (by kernel_rfl) (by kernel_rfl) (fun w h => h) ?_
              refine d_take_off 14 rfl rfl rfl rfl rfl rfl rfl (by kernel_rfl) (by kernel_rfl) (by kernel_rfl) (fun w h => h) ?_
              refine d_take_off 15 rfl rfl rfl rfl rfl rfl rfl (by kernel_rfl) (by kernel_rfl) (by kernel_rfl) (fun w h => h) ?_
              refine d_take 16 rfl (q_pick_f rfl rfl rfl rfl) rfl rfl (by kernel_rfl) (by kernel_rfl) (by kernel_rfl) (fun w h => h) ?_
              refine d_take 17 rfl (q_assign rfl rfl) rfl rfl (by kernel_rfl) (by kernel_rfl) (by kernel_rfl) (fun w h => h) ?_
              refine d_done (by kernel_rfl) ?_
              refine j_then ?_
              refine j_ret ?_
              cases h
              exact j_return rfl (ResOf.tmp rfl ResOf.nil) rfl (fun w h => ⟨(), rfl, (h.drop 9)⟩)
            · obtain ⟨v9, hb6, h⟩ := of_b1 h
              rcases of_if h with ⟨c10, h⟩ | ⟨c10, h⟩
              · obtain ⟨v10, hb7, h⟩ := of_b1 h
                obtain ⟨v11, hb8, h⟩ := of_b1 h
                refine j_draw (.box x11 29 [(.slice x1.1.A x1.1.n x1.1.c), (.slice x1.2.1.A x1.2.1.n x1.2.1.c), (.slice x1.2.2.1.A x1.2.2.1.n x1.2.2.1.c), (.slice (cutA x1.2.2.2.A x1.2.2.2.c (1:Int).toNat 1) (v4.drop (1:Int).toNat).length (x1.2.2.2.c - (1:Int).toNat))] :: .row x10.1 x10.2 3 1 (ii ((([] : List Int) ++ v4) ++ ([(rd v4 (0:Int))] : List Int))) :: .row x9 1 3 1 (ii ([(rd v4 (0:Int))] : List Int)) :: .box x6 29 [(.slice x1.1.A x1.1.n x1.1.c), (.slice x1.2.1.A x1.2.1.n x1.2.1.c), (.slice x1.2.2.1.A x1.2.2.1.n x1.2.2.1.c), (.slice x10.1 ((0 + x1.2.2.2.n) + 1) x10.2)] :: .box x2 29 [(.slice x1.1.A x1.1.n x1.1.c), (.slice x1.2.1.A x1.2.1.n x1.2.1.c), (.slice x1.2.2.1.A x1.2.2.1.n x1.2.2.1.c), (.slice x1.2.2.2.A x1.2.2.2.n x1.2.2.2.c)] :: .row x1.1.A x1.1.c 3 1 (ii v1) :: .row x1.2.1.A x1.2.1.c 3 1 (ii v2) :: .row x1.2.2.1.A x1.2.2.1.c 3 1 (ii v3) :: .row x1.2.2.2.A x1.2.2.2.c 3 1 (ii v4) :: F) 18 follows_any rfl ?_
                refine d_take 0 rfl (q_loadb_agg 3 rfl ag29 sz29 rfl rfl rfl rfl) rfl rfl (by kernel_rfl) (by kernel_rfl) (by kernel_rfl) (fun w h => h) ?_
                refine d_one 1 (by kernel_rfl) ?_
                refine o_do rfl (a_call ok22 rfl rfl rfl rfl (fun w hm => impl_StoreValid.calls K v1 x1.1.A x1.1.n x1.1.c v2 x1.2.1.A x1.2.1.n x1.2.1.c v3 x1.2.2.1.A x1.2.2.1.n x1.2.2.1.c ((([] : List Int) ++ v4) ++ ([(rd v4 (0:Int))] : List Int)) x10.1 ((0 + x1.2.2.2.n) + 1) x10.2 hm x1.1.h (Rd.row 5 rfl) x1.2.1.h (Rd.row 6 rfl) x1.2.2.1.h (Rd.row 7 rfl) (app_len (app_len rfl x1.2.2.2.h) rfl) (Rd.row 1 rfl) (hm.roomI 1 rfl) hb5)) rfl rfl (fun x12 w h => h) (fun x12 => ?_)
                refine d_take 2 rfl (q_not rfl rfl) rfl rfl (by kernel_rfl) (by kernel_rfl) (by kernel_rfl) (fun w h => h) ?_
                refine d_take 3 rfl (q_move rfl rfl) rfl rfl (by kernel_rfl) (by kernel_rfl) (by kernel_rfl) (fun w h => h) ?_
                refine d_take_on 4 rfl (q_loadb_agg 0 rfl ag29 sz29 rfl rfl rfl rfl) rfl rfl rfl rfl (not_t (var_f c9)) rfl (by kernel_rfl) (by kernel_rfl) (by kernel_rfl) (fun w h => h) ?_
                refine d_one 5 (by kernel_rfl) ?_
                refine o_on rfl (a_call ok22 rfl rfl rfl rfl (fun w hm => impl_StoreValid.calls K v1 x1.1.A x1.1.n x1.1.c v2 x1.2.1.A x1.2.1.n x1.2.1.c v3 x1.2.2.1.A x1.2.2.1.n x1.2.2.1.c (v4.drop (1:Int).toNat) (cutA x1.2.2.2.A x1.2.2.2.c (1:Int).toNat 1) (v4.drop (1:Int).toNat).length (x1.2.2.2.c - (1:Int).toNat) hm x1.1.h (Rd.row 5 rfl) x1.2.1.h (Rd.row 6 rfl) x1.2.2.1.h (Rd.row 7 rfl) rfl (rd_loI (Rd.row 8 rfl) k2 (1:Int).toNat) (cap_drop (hm.roomI 8 rfl) (1:Int).toNat) hb6)) rfl rfl rfl rfl (not_t (var_f c9)) rfl (fun x13 w h => h) (fun x13 => ?_)
                refine d_take 6 rfl (q_pick_t rfl rfl (not_t (var_f c9)) rfl) rfl rfl (by kernel_rfl) (by kernel_rfl) (by kernel_rfl) (fun w h => h) ?_
                refine d_take 7 rfl (q_move rfl rfl) rfl rfl (by kernel_rfl) (by kernel_rfl) (by kernel_rfl) (fun w h => h) ?_
                refine d_take_on 8 rfl (q_loadb_agg 0 rfl ag29 sz29 rfl rfl rfl rfl) rfl rfl rfl rfl c10 rfl (by kernel_rfl) (by kernel_rfl) (by kernel_rfl) (fun w h => h) ?_
                refine d_take_on 11 rfl (q_loadb_agg 4 rfl ag29 sz29 rfl rfl rfl rfl) rfl rfl rfl rfl c10 rfl (by kernel_rfl) (by kernel_rfl) (by kernel_rfl) (fun w h => h) ?_
                refine d_one 9 (by kernel_rfl) ?_
                refine o_on rfl (a_call ok20 rfl rfl rfl rfl (fun w hm => impl_LeakedOf.calls K v1 x1.1.A x1.1.n x1.1.c v2 x1.2.1.A x1.2.1.n x1.2.1.c v3 x1.2.2.1.A x1.2.2.1.n x1.2.2.1.c (v4.drop (1:Int).toNat) (cutA x1.2.2.2.A x1.2.2.2.c (1:Int).toNat 1) (v4.drop (1:Int).toNat).length (x1.2.2.2.c - (1:Int).toNat) hm x1.1.h (Rd.row 5 rfl) x1.2.1.h (Rd.row 6 rfl) x1.2.2.1.h (Rd.row 7 rfl) rfl (rd_loI (Rd.row 8 rfl) k2 (1:Int).toNat) (cap_drop (hm.roomI 8 rfl) (1:Int).toNat) hb7)) rfl rfl rfl rfl c10 rfl (fun x14 w h => h.tail) (fun x14 => ?_)
                refine d_take_on 10 rfl (q_lenX v10 x14.h un25 rfl rfl rfl rfl rfl) rfl rfl rfl rfl c10 rfl (by kernel_rfl) (by kernel_rfl) (by kernel_rfl) (fun w h => h.tail) ?_
                refine d_one 12 (by kernel_rfl) ?_
                refine o_on rfl (a_call ok20 rfl rfl rfl rfl (fun w hm => impl_LeakedOf.calls K v1 x1.1.A x1.1.n x1.1.c v2 x1.2.1.A x1.2.1.n x1.2.1.c v3 x1.2.2.1.A x1.2.2.1.n x1.2.2.1.c v4 x1.2.2.2.A x1.2.2.2.n x1.2.2.2.c hm x1.1.h (Rd.row 6 rfl) x1.2.1.h (Rd.row 7 rfl) x1.2.2.1.h (Rd.row 8 rfl) x1.2.2.2.h (Rd.row 9 rfl) (hm.roomI 9 rfl) hb8)) rfl rfl rfl rfl c10 rfl (fun x15 w h => (h.drop 2)) (fun x15 => ?_)
                refine d_take_on 13 rfl (q_lenX v11 x15.h un25 rfl rfl rfl rfl rfl) rfl rfl rfl rfl c10 rfl (by kernel_rfl) (by kernel_rfl) (by kernel_rfl) (fun w h => (h.drop 2)) ?_
                refine d_take_on 14 rfl (q_add rfl rfl rfl) rfl rfl rfl rfl c10 rfl (by kernel_rfl) (by kernel_rfl) (by kernel_rfl) (fun w h => (h.drop 2)) ?_
                refine d_take_on 15 rfl (q_eql rfl rfl rfl) rfl rfl rfl rfl c10 rfl (by kernel_rfl) (by kernel_rfl) (by kernel_rfl) (fun w h => (h.drop 2)) ?_
                refine d_take 16 rfl (q_pick_t rfl rfl c10 rfl) rfl rfl (by kernel_rfl) (by kernel_rfl) (by kernel_rfl) (fun w h => (h.drop 2)) ?_
                refine d_take 17 rfl (q_assign rfl rfl) rfl rfl (by kernel_rfl) (by kernel_rfl) (by kernel_rfl) (fun w h => (h.drop 2)) ?_
                refine d_done (by kernel_rfl) ?_
                refine j_then ?_
                refine j_ret ?_
                cases h
                exact j_return rfl (ResOf.tmp rfl ResOf.nil) rfl (fun w h => ⟨(), rfl, (h.drop 11)⟩)
              · refine j_draw (.box x11 29 [(.slice x1.1.A x1.1.n x1.1.c), (.slice x1.2.1.A x1.2.1.n x1.2.1.c), (.slice x1.2.2.1.A x1.2.2.1.n x1.2.2.1.c), (.slice (cutA x1.2.2.2.A x1.2.2.2.c (1:Int).toNat 1) (v4.drop (1:Int).toNat).length (x1.2.2.2.c - (1:Int).toNat))] :: .row x10.1 x10.2 3 1 (ii ((([] : List Int) ++ v4) ++ ([(rd v4 (0:Int))] : List Int))) :: .row x9 1 3 1 (ii ([(rd v4 (0:Int))] : List Int)) :: .box x6 29 [(.slice x1.1.A x1.1.n x1.1.c), (.slice x1.2.1.A x1.2.1.n x1.2.1.c), (.slice x1.2.2.1.A x1.2.2.1.n x1.2.2.1.c), (.slice x10.1 ((0 + x1.2.2.2.n) + 1) x10.2)] :: .box x2 29 [(.slice x1.1.A x1.1.n x1.1.c), (.slice x1.2.1.A x1.2.1.n x1.2.1.c), (.slice x1.2.2.1.A x1.2.2.1.n x1.2.2.1.c), (.slice x1.2.2.2.A x1.2.2.2.n x1.2.2.2.c)] :: .row x1.1.A x1.1.c 3 1 (ii v1) :: .row x1.2.1.A x1.2.1.c 3 1 (ii v2) :: .row x1.2.2.1.A x1.2.2.1.c 3 1 (ii v3) :: .row x1.2.2.2.A x1.2.2.2.c 3 1 (ii v4) :: F) 18 follows_any rfl ?_
                refine d_take 0 rfl (q_loadb_agg 3 rfl ag29 sz29 rfl rfl rfl rfl) rfl rfl (by kernel_rfl) (by kernel_rfl) (by kernel_rfl) (fun w h => h) ?_
                refine d_one 1 (by kernel_rfl) ?_
                refine o_do rfl (a_call ok22 rfl rfl rfl rfl (fun w hm => impl_StoreValid.calls K v1 x1.1.A x1.1.n x1.1.c v2 x1.2.1.A x1.2.1.n x1.2.1.c v3 x1.2.2.1.A x1.2.2.1.n x1.2.2.1.c ((([] : List Int) ++ v4) ++ ([(rd v4 (0:Int))] : List Int)) x10.1 ((0 + x1.2.2.2.n) + 1) x10.2 hm x1.1.h (Rd.row 5 rfl) x1.2.1.h (Rd.row 6 rfl) x1.2.2.1.h (Rd.row 7 rfl) (app_len (app_len rfl x1.2.2.2.h) rfl) (Rd.row 1 rfl) (hm.roomI 1 rfl) hb5)) rfl rfl (fun x12 w h => h) (fun x12 => ?_)
                refine d_take 2 rfl (q_not rfl rfl) rfl rfl (by kernel_rfl) (by kernel_rfl) (by kernel_rfl) (fun w h => h) ?_
                refine d_take 3 rfl (q_move rfl rfl) rfl rfl (by kernel_rfl) (by kernel_rfl) (by kernel_rfl) (fun w h => h) ?_
                refine d_take_on 4 rfl (q_loadb_agg 0 rfl ag29 sz29 rfl rfl rfl rfl) rfl rfl rfl rfl (not_t (var_f c9)) rfl (by kernel_rfl) (by kernel_rfl) (by kernel_rfl) (fun w h => h) ?_
                refine d_one 5 (by kernel_rfl) ?_
                refine o_on rfl (a_call ok22 rfl rfl rfl rfl (fun w hm => impl_StoreValid.calls K v1 x1.1.A x1.1.n x1.1.c v2 x1.2.1.A x1.2.1.n x1.2.1.c v3 x1.2.2.1.A x1.2.2.1.n x1.2.2.1.c (v4.drop (1:Int).toNat) (cutA x1.2.2.2.A x1.2.2.2.c (1:Int).toNat 1) (v4.drop (1:Int).toNat).length (x1.2.2.2.c - (1:Int).toNat) hm x1.1.h (Rd.row 5 rfl) x1.2.1.h (Rd.row 6 rfl) x1.2.2.1.h (Rd.row 7 rfl) rfl (rd_loI (Rd.row 8 rfl) k2 (1:Int).toNat) (cap_drop (hm.roomI 8 rfl) (1:Int).toNat) hb6)) rfl rfl rfl rfl (not_t (var_f c9)) rfl (fun x13 w h => h) (fun x13 => ?_)
                refine d_take 6 rfl (q_pick_t rfl rfl (not_t (var_f c9)) rfl) rfl rfl (by kernel_rfl) (by kernel_rfl) (by kernel_rfl) (fun w h => h) ?_
                refine d_take 7 rfl (q_move rfl rfl) rfl rfl (by kernel_rfl) (by kernel_rfl) (by kernel_rfl) (fun w h => h) ?_
                refine d_take_off 8 rfl rfl rfl rfl rfl (var_f c10) rfl (by kernel_rfl) (by kernel_rfl) (by kernel_rfl) (fun w h => h) ?_
                refine d_take_off 9 rfl rfl rfl rfl rfl (var_f c10) rfl (by kernel_rfl) (by kernel_rfl) (by kernel_rfl) (fun w h => h) ?_
                refine d_take_off 10 rfl rfl rfl rfl rfl (var_f c10) rfl (by kernel_rfl) (by kernel_rfl) (by kernel_rfl) (fun w h => h) ?_
                refine d_take_off 11 rfl rfl rfl rfl rfl (var_f c10) rfl (by kernel_rfl) (by kernel_rfl) (by kernel_rfl) (fun w h => h) ?_
                refine d_take_off 12 rfl rfl rfl rfl rfl (var_f c10) rfl (by kernel_rfl) (by kernel_rfl) (by kernel_rfl) (fun w h => h) ?_
                refine d_take_off 13 rfl rfl rfl rfl rfl (var_f c10) rfl (by kernel_rfl) (by kernel_rfl) (by kernel_rfl) (fun w h => h) ?_
                refine d_take_off 14 rfl rfl rfl rfl rfl (var_f c10) rfl (by kernel_rfl) (by kernel_rfl) (by kernel_rfl) (fun w h => h) ?_
                refine d_take_off 15 rfl rfl rfl rfl rfl (var_f c10) rfl (by kernel_rfl) (by kernel_rfl) (by kernel_rfl) (fun w h => h) ?_
                refine d_take 16 rfl (q_pick_f rfl rfl (var_f c10) rfl) rfl rfl (by kernel_rfl) (by kernel_rfl) (by kernel_rfl) (fun w h => h) ?_
                refine d_take 17 rfl (q_assign rfl rfl) rfl rfl (by kernel_rfl) (by kernel_rfl) (by kernel_rfl) (fun w h => h) ?_
                refine d_done (by kernel_rfl) ?_
                refine j_then ?_
                refine j_ret ?_
                cases h
                exact j_return rfl (ResOf.tmp rfl ResOf.nil) rfl (fun w h => ⟨(), rfl, (h.drop 9)⟩)
          refine d_join (σ := (Option Addr) × (Option Addr × Nat) × (Option Addr) × (Option Addr × Nat)) 1 #[true, true, true, true, true, true, true, true, true, true, true, false] (fun s => [(3, (pt x2)), (5, (pt x6)), (42, (.slice s.2.2.2.1 ((0 + x1.2.2.2.n) + 1) s.2.2.2.2)), (43, (.pointer (some ⟨x6, 3, none⟩)))]) (fun s => .row s.2.2.2.1 s.2.2.2.2 3 1 (ii ((([] : List Int) ++ v4) ++ ([(rd v4 (0:Int))] : List Int))) :: .row s.2.2.1 1 3 1 (ii ([(rd v4 (0:Int))] : List Int)) :: .box x6 29 [(.slice x1.1.A x1.1.n x1.1.c), (.slice x1.2.1.A x1.2.1.n x1.2.1.c), (.slice x1.2.2.1.A x1.2.2.1.n x1.2.2.1.c), (.slice x1.2.2.2.A x1.2.2.2.n x1.2.2.2.c)] :: .box x2 29 [(.slice x1.1.A x1.1.n x1.1.c), (.slice x1.2.1.A x1.2.1.n x1.2.1.c), (.slice x1.2.2.1.A x1.2.2.1.n x1.2.2.1.c), (.slice x1.2.2.2.A x1.2.2.2.n x1.2.2.2.c)] :: .row x1.1.A x1.1.c 3 1 (ii v1) :: .row x1.2.1.A x1.2.1.c 3 1 (ii v2) :: .row x1.2.2.1.A x1.2.2.1.c 3 1 (ii v3) :: .row x1.2.2.2.A x1.2.2.2.c 3 1 (ii v4) :: F) ?_ (fun hD2047 => ?_)
          · rintro ⟨x7, x8, x9, x10⟩
            show J _ _ [(3, (pt x2)), (5, (pt x6)), (42, (.slice x10.1 ((0 + x1.2.2.2.n) + 1) x10.2)), (43, (.pointer (some ⟨x6, 3, none⟩)))] _ (.row x10.1 x10.2 3 1 (ii ((([] : List Int) ++ v4) ++ ([(rd v4 (0:Int))] : List Int))) :: .row x9 1 3 1 (ii ([(rd v4 (0:Int))] : List Int)) :: .box x6 29 [(.slice x1.1.A x1.1.n x1.1.c), (.slice x1.2.1.A x1.2.1.n x1.2.1.c), (.slice x1.2.2.1.A x1.2.2.1.n x1.2.2.1.c), (.slice x1.2.2.2.A x1.2.2.2.n x1.2.2.2.c)] :: .box x2 29 [(.slice x1.1.A x1.1.n x1.1.c), (.slice x1.2.1.A x1.2.1.n x1.2.1.c), (.slice x1.2.2.1.A x1.2.2.1.n x1.2.2.1.c), (.slice x1.2.2.2.A x1.2.2.2.n x1.2.2.2.c)] :: .row x1.1.A x1.1.c 3 1 (ii v1) :: .row x1.2.1.A x1.2.1.c 3 1 (ii v2) :: .row x1.2.2.1.A x1.2.2.1.c 3 1 (ii v3) :: .row x1.2.2.2.A x1.2.2.2.c 3 1 (ii v4) :: F)
            refine d_one 11 (by kernel_rfl) ?_
            · refine o_do rfl (a_storeb 2 rfl sz25 rfl rfl rfl rfl (Nat.le_of_ble_eq_true rfl) rfl) rfl rfl (fun _ w h => (h.drop 3)) (fun _ => ?_)
              refine j_b2 [(.slice x1.1.A x1.1.n x1.1.c), (.slice x1.2.1.A x1.2.1.n x1.2.1.c), (.slice x1.2.2.1.A x1.2.2.1.n x1.2.2.1.c), (.slice x10.1 ((0 + x1.2.2.2.n) + 1) x10.2)] rfl ?_
              refine j_rs (.row x10.1 x10.2 3 1 (ii ((([] : List Int) ++ v4) ++ ([(rd v4 (0:Int))] : List Int))) :: .row x9 1 3 1 (ii ([(rd v4 (0:Int))] : List Int)) :: .box x6 29 [(.slice x1.1.A x1.1.n x1.1.c), (.slice x1.2.1.A x1.2.1.n x1.2.1.c), (.slice x1.2.2.1.A x1.2.2.1.n x1.2.2.1.c), (.slice x10.1 ((0 + x1.2.2.2.n) + 1) x10.2)] :: .box x2 29 [(.slice x1.1.A x1.1.n x1.1.c), (.slice x1.2.1.A x1.2.1.n x1.2.1.c), (.slice x1.2.2.1.A x1.2.2.1.n x1.2.2.1.c), (.slice x1.2.2.2.A x1.2.2.2.n x1.2.2.2.c)] :: .row x1.1.A x1.1.c 3 1 (ii v1) :: .row x1.2.1.A x1.2.1.c 3 1 (ii v2) :: .row x1.2.2.1.A x1.2.2.1.c 3 1 (ii v3) :: .row x1.2.2.2.A x1.2.2.2.c 3 1 (ii v4) :: F) (fun _ h => h) ?_
              refine j_env [(3, (pt x2)), (5, (pt x6))] ⟨rfl, rfl, trivial⟩ ?_
              exact hD4095 (x7, x8, x9, x10)
          refine d_join (σ := (Option Addr) × (Option Addr × Nat) × (Option Addr)) 3 #[true, true, true, true, true, true, true, true, true, false, false, false] (fun s => [(3, (pt x2)), (5, (pt x6)), (36, (.slice s.2.1.1 (0 + x1.2.2.2.n) s.2.1.2)), (41, (.slice s.2.2 1 1))]) (fun s => .row s.2.1.1 s.2.1.2 3 1 (ii (([] : List Int) ++ v4)) :: .row s.2.2 1 3 1 (ii ([(rd v4 (0:Int))] : List Int)) :: .box x6 29 [(.slice x1.1.A x1.1.n x1.1.c), (.slice x1.2.1.A x1.2.1.n x1.2.1.c), (.slice x1.2.2.1.A x1.2.2.1.n x1.2.2.1.c), (.slice x1.2.2.2.A x1.2.2.2.n x1.2.2.2.c)] :: .box x2 29 [(.slice x1.1.A x1.1.n x1.1.c), (.slice x1.2.1.A x1.2.1.n x1.2.1.c), (.slice x1.2.2.1.A x1.2.2.1.n x1.2.2.1.c), (.slice x1.2.2.2.A x1.2.2.2.n x1.2.2.2.c)] :: .row x1.1.A x1.1.c 3 1 (ii v1) :: .row x1.2.1.A x1.2.1.c 3 1 (ii v2) :: .row x1.2.2.1.A x1.2.2.1.c 3 1 (ii v3) :: .row x1.2.2.2.A x1.2.2.2.c 3 1 (ii v4) :: F) ?_ (fun hD511 => ?_)
          · rintro ⟨x7, x8, x9⟩
            show J _ _ [(3, (pt x2)), (5, (pt x6)), (36, (.slice x8.1 (0 + x1.2.2.2.n) x8.2)), (41, (.slice x9 1 1))] _ (.row x8.1 x8.2 3 1 (ii (([] : List Int) ++ v4)) :: .row x9 1 3 1 (ii ([(rd v4 (0:Int))] : List Int)) :: .box x6 29 [(.slice x1.1.A x1.1.n x1.1.c), (.slice x1.2.1.A x1.2.1.n x1.2.1.c), (.slice x1.2.2.1.A x1.2.2.1.n x1.2.2.1.c), (.slice x1.2.2.2.A x1.2.2.2.n x1.2.2.2.c)] :: .box x2 29 [(.slice x1.1.A x1.1.n x1.1.c), (.slice x1.2.1.A x1.2.1.n x1.2.1.c), (.slice x1.2.2.1.A x1.2.2.1.n x1.2.2.1.c), (.slice x1.2.2.2.A x1.2.2.2.n x1.2.2.2.c)] :: .row x1.1.A x1.1.c 3 1 (ii v1) :: .row x1.2.1.A x1.2.1.c 3 1 (ii v2) :: .row x1.2.2.1.A x1.2.2.1.c 3 1 (ii v3) :: .row x1.2.2.2.A x1.2.2.2.c 3 1 (ii v4) :: F)
            refine d_one 9 (by kernel_rfl) ?_
            · refine o_do rfl (a_appI (xs := (([] : List Int) ++ v4)) (ys := ([(rd v4 (0:Int))] : List Int)) 0 un25 un25 sz3 by3 zr3 rfl rfl rfl rfl rfl rfl rfl rfl rfl (app_len rfl x1.2.2.2.h) rfl (Rd.row 1 rfl) c7) rfl rfl (fun x10 w h => (h.drop 3)) (fun x10 => ?_)
              refine j_s0 ?_
              refine d_take 10 rfl (q_fieldAddr fi29_1 sz25 rfl rfl rfl) rfl rfl (by kernel_rfl) (by kernel_rfl) (by kernel_rfl) (fun w h => (h.drop 3)) ?_
              refine j_rs (.row x10.1 x10.2 3 1 (ii ((([] : List Int) ++ v4) ++ ([(rd v4 (0:Int))] : List Int))) :: .row x9 1 3 1 (ii ([(rd v4 (0:Int))] : List Int)) :: .box x6 29 [(.slice x1.1.A x1.1.n x1.1.c), (.slice x1.2.1.A x1.2.1.n x1.2.1.c), (.slice x1.2.2.1.A x1.2.2.1.n x1.2.2.1.c), (.slice x1.2.2.2.A x1.2.2.2.n x1.2.2.2.c)] :: .box x2 29 [(.slice x1.1.A x1.1.n x1.1.c), (.slice x1.2.1.A x1.2.1.n x1.2.1.c), (.slice x1.2.2.1.A x1.2.2.1.n x1.2.2.1.c), (.slice x1.2.2.2.A x1.2.2.2.n x1.2.2.2.c)] :: .row x1.1.A x1.1.c 3 1 (ii v1) :: .row x1.2.1.A x1.2.1.c 3 1 (ii v2) :: .row x1.2.2.1.A x1.2.2.1.c 3 1 (ii v3) :: .row x1.2.2.2.A x1.2.2.2.c 3 1 (ii v4) :: F) (fun _ h => h) ?_
              refine j_env [(3, (pt x2)), (5, (pt x6)), (42, (.slice x10.1 ((0 + x1.2.2.2.n) + 1) x10.2)), (43, (.pointer (some ⟨x6, 3, none⟩)))] ⟨rfl, rfl, rfl, rfl, trivial⟩ ?_
              exact hD2047 (x7, x8, x9, x10)
          refine d_join (σ := (Option Addr) × (Option Addr × Nat)) 4 #[true, true, true, true, true, true, true, true, false, false, false, false] (fun s => [(3, (pt x2)), (5, (pt x6)), (36, (.slice s.2.1 (0 + x1.2.2.2.n) s.2.2)), (40, (i6 (rd v4 (0:Int))))]) (fun s => .row s.2.1 s.2.2 3 1 (ii (([] : List Int) ++ v4)) :: .box x6 29 [(.slice x1.1.A x1.1.n x1.1.c), (.slice x1.2.1.A x1.2.1.n x1.2.1.c), (.slice x1.2.2.1.A x1.2.2.1.n x1.2.2.1.c), (.slice x1.2.2.2.A x1.2.2.2.n x1.2.2.2.c)] :: .box x2 29 [(.slice x1.1.A x1.1.n x1.1.c), (.slice x1.2.1.A x1.2.1.n x1.2.1.c), (.slice x1.2.2.1.A x1.2.2.1.n x1.2.2.1.c), (.slice x1.2.2.2.A x1.2.2.2.n x1.2.2.2.c)] :: .row x1.1.A x1.1.c 3 1 (ii v1) :: .row x1.2.1.A x1.2.1.c 3 1 (ii v2) :: .row x1.2.2.1.A x1.2.2.1.c 3 1 (ii v3) :: .row x1.2.2.2.A x1.2.2.2.c 3 1 (ii v4) :: F) ?_ (fun hD255 => ?_)
          · rintro ⟨x7, x8⟩
            show J _ _ [(3, (pt x2)), (5, (pt x6)), (36, (.slice x8.1 (0 + x1.2.2.2.n) x8.2)), (40, (i6 (rd v4 (0:Int))))] _ (.row x8.1 x8.2 3 1 (ii (([] : List Int) ++ v4)) :: .box x6 29 [(.slice x1.1.A x1.1.n x1.1.c), (.slice x1.2.1.A x1.2.1.n x1.2.1.c), (.slice x1.2.2.1.A x1.2.2.1.n x1.2.2.1.c), (.slice x1.2.2.2.A x1.2.2.2.n x1.2.2.2.c)] :: .box x2 29 [(.slice x1.1.A x1.1.n x1.1.c), (.slice x1.2.1.A x1.2.1.n x1.2.1.c), (.slice x1.2.2.1.A x1.2.2.1.n x1.2.2.1.c), (.slice x1.2.2.2.A x1.2.2.2.n x1.2.2.2.c)] :: .row x1.1.A x1.1.c 3 1 (ii v1) :: .row x1.2.1.A x1.2.1.c 3 1 (ii v2) :: .row x1.2.2.1.A x1.2.2.1.c 3 1 (ii v3) :: .row x1.2.2.2.A x1.2.2.2.c 3 1 (ii v4) :: F)
            refine d_one 8 (by kernel_rfl) ?_
            · refine o_do rfl (a_litX (vs := [(i6 (rd v4 (0:Int)))]) (ii ([(rd v4 (0:Int))] : List Int)) un25 sz3 zr3 rfl rfl rfl rfl rfl rfl rfl rfl rfl) rfl rfl (fun x9 w h => (h.drop 3)) (fun x9 => ?_)
              refine j_rs (.row x8.1 x8.2 3 1 (ii (([] : List Int) ++ v4)) :: .row x9 1 3 1 (ii ([(rd v4 (0:Int))] : List Int)) :: .box x6 29 [(.slice x1.1.A x1.1.n x1.1.c), (.slice x1.2.1.A x1.2.1.n x1.2.1.c), (.slice x1.2.2.1.A x1.2.2.1.n x1.2.2.1.c), (.slice x1.2.2.2.A x1.2.2.2.n x1.2.2.2.c)] :: .box x2 29 [(.slice x1.1.A x1.1.n x1.1.c), (.slice x1.2.1.A x1.2.1.n x1.2.1.c), (.slice x1.2.2.1.A x1.2.2.1.n x1.2.2.1.c), (.slice x1.2.2.2.A x1.2.2.2.n x1.2.2.2.c)] :: .row x1.1.A x1.1.c 3 1 (ii v1) :: .row x1.2.1.A x1.2.1.c 3 1 (ii v2) :: .row x1.2.2.1.A x1.2.2.1.c 3 1 (ii v3) :: .row x1.2.2.2.A x1.2.2.2.c 3 1 (ii v4) :: F) (fun _ h => h.pick 8 [1, 0, 2, 3, 4, 5, 6, 7] rfl) ?_
              refine j_env [(3, (pt x2)), (5, (pt x6)), (36, (.slice x8.1 (0 + x1.2.2.2.n) x8.2)), (41, (.slice x9 1 1))] ⟨rfl, rfl, rfl, rfl, trivial⟩ ?_
              exact hD511 (x7, x8, x9)
          refine d_join (σ := (Option Addr) × (Option Addr)) 4 #[true, true, true, false, true, true, true, true, true, false, false, false] (fun s => [(3, (pt x2)), (5, (pt x6)), (33, (.slice s.1 0 0)), (35, (.slice x1.2.2.2.A x1.2.2.2.n x1.2.2.2.c)), (41, (.slice s.2 1 1))]) (fun s => .row s.1 0 3 1 (ii ([] : List Int)) :: .row s.2 1 3 1 (ii ([(rd v4 (0:Int))] : List Int)) :: .box x6 29 [(.slice x1.1.A x1.1.n x1.1.c), (.slice x1.2.1.A x1.2.1.n x1.2.1.c), (.slice x1.2.2.1.A x1.2.2.1.n x1.2.2.1.c), (.slice x1.2.2.2.A x1.2.2.2.n x1.2.2.2.c)] :: .box x2 29 [(.slice x1.1.A x1.1.n x1.1.c), (.slice x1.2.1.A x1.2.1.n x1.2.1.c), (.slice x1.2.2.1.A x1.2.2.1.n x1.2.2.1.c), (.slice x1.2.2.2.A x1.2.2.2.n x1.2.2.2.c)] :: .row x1.1.A x1.1.c 3 1 (ii v1) :: .row x1.2.1.A x1.2.1.c 3 1 (ii v2) :: .row x1.2.2.1.A x1.2.2.1.c 3 1 (ii v3) :: .row x1.2.2.2.A x1.2.2.2.c 3 1 (ii v4) :: F) ?_ (fun hD503 => ?_)
          · rintro ⟨x7, x9⟩
            show J _ _ [(3, (pt x2)), (5, (pt x6)), (33, (.slice x7 0 0)), (35, (.slice x1.2.2.2.A x1.2.2.2.n x1.2.2.2.c)), (41, (.slice x9 1 1))] _ (.row x7 0 3 1 (ii ([] : List Int)) :: .row x9 1 3 1 (ii ([(rd v4 (0:Int))] : List Int)) :: .box x6 29 [(.slice x1.1.A x1.1.n x1.1.c), (.slice x1.2.1.A x1.2.1.n x1.2.1.c), (.slice x1.2.2.1.A x1.2.2.1.n x1.2.2.1.c), (.slice x1.2.2.2.A x1.2.2.2.n x1.2.2.2.c)] :: .box x2 29 [(.slice x1.1.A x1.1.n x1.1.c), (.slice x1.2.1.A x1.2.1.n x1.2.1.c), (.slice x1.2.2.1.A x1.2.2.1.n x1.2.2.1.c), (.slice x1.2.2.2.A x1.2.2.2.n x1.2.2.2.c)] :: .row x1.1.A x1.1.c 3 1 (ii v1) :: .row x1.2.1.A x1.2.1.c 3 1 (ii v2) :: .row x1.2.2.1.A x1.2.2.1.c 3 1 (ii v3) :: .row x1.2.2.2.A x1.2.2.2.c 3 1 (ii v4) :: F)
            refine d_one 3 (by kernel_rfl) ?_
            · refine o_do rfl (a_appI (xs := ([] : List Int)) (ys := v4) 0 un25 un25 sz3 by3 zr3 rfl rfl rfl rfl rfl rfl rfl rfl rfl rfl x1.2.2.2.h (Rd.row 7 rfl) c5) rfl rfl (fun x8 w h => (h.drop 3)) (fun x8 => ?_)
              refine j_s0 ?_
              refine j_rs (.row x8.1 x8.2 3 1 (ii (([] : List Int) ++ v4)) :: .row x9 1 3 1 (ii ([(rd v4 (0:Int))] : List Int)) :: .box x6 29 [(.slice x1.1.A x1.1.n x1.1.c), (.slice x1.2.1.A x1.2.1.n x1.2.1.c), (.slice x1.2.2.1.A x1.2.2.1.n x1.2.2.1.c), (.slice x1.2.2.2.A x1.2.2.2.n x1.2.2.2.c)] :: .box x2 29 [(.slice x1.1.A x1.1.n x1.1.c), (.slice x1.2.1.A x1.2.1.n x1.2.1.c), (.slice x1.2.2.1.A x1.2.2.1.n x1.2.2.1.c), (.slice x1.2.2.2.A x1.2.2.2.n x1.2.2.2.c)] :: .row x1.1.A x1.1.c 3 1 (ii v1) :: .row x1.2.1.A x1.2.1.c 3 1 (ii v2) :: .row x1.2.2.1.A x1.2.2.1.c 3 1 (ii v3) :: .row x1.2.2.2.A x1.2.2.2.c 3 1 (ii v4) :: F) (fun _ h => h) ?_
              refine j_env [(3, (pt x2)), (5, (pt x6)), (36, (.slice x8.1 (0 + x1.2.2.2.n) x8.2)), (41, (.slice x9 1 1))] ⟨rfl, rfl, rfl, rfl, trivial⟩ ?_
              exact hD511 (x7, x8, x9)
          refine d_join (σ := (Option Addr)) 5 #[true, true, true, false, true, true, true, true, false, false, false, false] (fun s => [(3, (pt x2)), (5, (pt x6)), (33, (.slice s 0 0)), (35, (.slice x1.2.2.2.A x1.2.2.2.n x1.2.2.2.c)), (40, (i6 (rd v4 (0:Int))))]) (fun s => .row s 0 3 1 (ii ([] : List Int)) :: .box x6 29 [(.slice x1.1.A x1.1.n x1.1.c), (.slice x1.2.1.A x1.2.1.n x1.2.1.c), (.slice x1.2.2.1.A x1.2.2.1.n x1.2.2.1.c), (.slice x1.2.2.2.A x1.2.2.2.n x1.2.2.2.c)] :: .box x2 29 [(.slice x1.1.A x1.1.n x1.1.c), (.slice x1.2.1.A x1.2.1.n x1.2.1.c), (.slice x1.2.2.1.A x1.2.2.1.n x1.2.2.1.c), (.slice x1.2.2.2.A x1.2.2.2.n x1.2.2.2.c)] :: .row x1.1.A x1.1.c 3 1 (ii v1) :: .row x1.2.1.A x1.2.1.c 3 1 (ii v2) :: .row x1.2.2.1.A x1.2.2.1.c 3 1 (ii v3) :: .row x1.2.2.2.A x1.2.2.2.c 3 1 (ii v4) :: F) ?_ (fun hD247 => ?_)
          · rintro x7
            show J _ _ [(3, (pt x2)), (5, (pt x6)), (33, (.slice x7 0 0)), (35, (.slice x1.2.2.2.A x1.2.2.2.n x1.2.2.2.c)), (40, (i6 (rd v4 (0:Int))))] _ (.row x7 0 3 1 (ii ([] : List Int)) :: .box x6 29 [(.slice x1.1.A x1.1.n x1.1.c), (.slice x1.2.1.A x1.2.1.n x1.2.1.c), (.slice x1.2.2.1.A x1.2.2.1.n x1.2.2.1.c), (.slice x1.2.2.2.A x1.2.2.2.n x1.2.2.2.c)] :: .box x2 29 [(.slice x1.1.A x1.1.n x1.1.c), (.slice x1.2.1.A x1.2.1.n x1.2.1.c), (.slice x1.2.2.1.A x1.2.2.1.n x1.2.2.1.c), (.slice x1.2.2.2.A x1.2.2.2.n x1.2.2.2.c)] :: .row x1.1.A x1.1.c 3 1 (ii v1) :: .row x1.2.1.A x1.2.1.c 3 1 (ii v2) :: .row x1.2.2.1.A x1.2.2.1.c 3 1 (ii v3) :: .row x1.2.2.2.A x1.2.2.2.c 3 1 (ii v4) :: F)
            refine d_two 3 8 (by kernel_rfl) ?_ ?_
            · refine o_do rfl (a_appI (xs := ([] : List Int)) (ys := v4) 0 un25 un25 sz3 by3 zr3 rfl rfl rfl rfl rfl rfl rfl rfl rfl rfl x1.2.2.2.h (Rd.row 6 rfl) c5) rfl rfl (fun x8 w h => (h.drop 2)) (fun x8 => ?_)
              refine j_s0 ?_
              refine j_rs (.row x8.1 x8.2 3 1 (ii (([] : List Int) ++ v4)) :: .box x6 29 [(.slice x1.1.A x1.1.n x1.1.c), (.slice x1.2.1.A x1.2.1.n x1.2.1.c), (.slice x1.2.2.1.A x1.2.2.1.n x1.2.2.1.c), (.slice x1.2.2.2.A x1.2.2.2.n x1.2.2.2.c)] :: .box x2 29 [(.slice x1.1.A x1.1.n x1.1.c), (.slice x1.2.1.A x1.2.1.n x1.2.1.c), (.slice x1.2.2.1.A x1.2.2.1.n x1.2.2.1.c), (.slice x1.2.2.2.A x1.2.2.2.n x1.2.2.2.c)] :: .row x1.1.A x1.1.c 3 1 (ii v1) :: .row x1.2.1.A x1.2.1.c 3 1 (ii v2) :: .row x1.2.2.1.A x1.2.2.1.c 3 1 (ii v3) :: .row x1.2.2.2.A x1.2.2.2.c 3 1 (ii v4) :: F) (fun _ h => h) ?_
              refine j_env [(3, (pt x2)), (5, (pt x6)), (36, (.slice x8.1 (0 + x1.2.2.2.n) x8.2)), (40, (i6 (rd v4 (0:Int))))] ⟨rfl, rfl, rfl, rfl, trivial⟩ ?_
              exact hD255 (x7, x8)
            · refine o_do rfl (a_litX (vs := [(i6 (rd v4 (0:Int)))]) (ii ([(rd v4 (0:Int))] : List Int)) un25 sz3 zr3 rfl rfl rfl rfl rfl rfl rfl rfl rfl) rfl rfl (fun x9 w h => (h.drop 3)) (fun x9 => ?_)
              refine j_rs (.row x7 0 3 1 (ii ([] : List Int)) :: .row x9 1 3 1 (ii ([(rd v4 (0:Int))] : List Int)) :: .box x6 29 [(.slice x1.1.A x1.1.n x1.1.c), (.slice x1.2.1.A x1.2.1.n x1.2.1.c), (.slice x1.2.2.1.A x1.2.2.1.n x1.2.2.1.c), (.slice x1.2.2.2.A x1.2.2.2.n x1.2.2.2.c)] :: .box x2 29 [(.slice x1.1.A x1.1.n x1.1.c), (.slice x1.2.1.A x1.2.1.n x1.2.1.c), (.slice x1.2.2.1.A x1.2.2.1.n x1.2.2.1.c), (.slice x1.2.2.2.A x1.2.2.2.n x1.2.2.2.c)] :: .row x1.1.A x1.1.c 3 1 (ii v1) :: .row x1.2.1.A x1.2.1.c 3 1 (ii v2) :: .row x1.2.2.1.A x1.2.2.1.c 3 1 (ii v3) :: .row x1.2.2.2.A x1.2.2.2.c 3 1 (ii v4) :: F) (fun _ h => h.pick 8 [1, 0, 2, 3, 4, 5, 6, 7] rfl) ?_
              refine j_env [(3, (pt x2)), (5, (pt x6)), (33, (.slice x7 0 0)), (35, (.slice x1.2.2.2.A x1.2.2.2.n x1.2.2.2.c)), (41, (.slice x9 1 1))] ⟨rfl, rfl, rfl, rfl, rfl, trivial⟩ ?_
              exact hD503 (x7, x9)
          refine d_join (σ := (Option Addr)) 5 #[false, true, true, false, true, true, true, true, true, false, false, false] (fun s => [(3, (pt x2)), (5, (pt x6)), (35, (.slice x1.2.2.2.A x1.2.2.2.n x1.2.2.2.c)), (41, (.slice s 1 1))]) (fun s => .row s 1 3 1 (ii ([(rd v4 (0:Int))] : List Int)) :: .box x6 29 [(.slice x1.1.A x1.1.n x1.1.c), (.slice x1.2.1.A x1.2.1.n x1.2.1.c), (.slice x1.2.2.1.A x1.2.2.1.n x1.2.2.1.c), (.slice x1.2.2.2.A x1.2.2.2.n x1.2.2.2.c)] :: .box x2 29 [(.slice x1.1.A x1.1.n x1.1.c), (.slice x1.2.1.A x1.2.1.n x1.2.1.c), (.slice x1.2.2.1.A x1.2.2.1.n x1.2.2.1.c), (.slice x1.2.2.2.A x1.2.2.2.n x1.2.2.2.c)] :: .row x1.1.A x1.1.c 3 1 (ii v1) :: .row x1.2.1.A x1.2.1.c 3 1 (ii v2) :: .row x1.2.2.1.A x1.2.2.1.c 3 1 (ii v3) :: .row x1.2.2.2.A x1.2.2.2.c 3 1 (ii v4) :: F) ?_ (fun hD502 => ?_)
          · rintro x9
            show J _ _ [(3, (pt x2)), (5, (pt x6)), (35, (.slice x1.2.2.2.A x1.2.2.2.n x1.2.2.2.c)), (41, (.slice x9 1 1))] _ (.row x9 1 3 1 (ii ([(rd v4 (0:Int))] : List Int)) :: .box x6 29 [(.slice x1.1.A x1.1.n x1.1.c), (.slice x1.2.1.A x1.2.1.n x1.2.1.c), (.slice x1.2.2.1.A x1.2.2.1.n x1.2.2.1.c), (.slice x1.2.2.2.A x1.2.2.2.n x1.2.2.2.c)] :: .box x2 29 [(.slice x1.1.A x1.1.n x1.1.c), (.slice x1.2.1.A x1.2.1.n x1.2.1.c), (.slice x1.2.2.1.A x1.2.2.1.n x1.2.2.1.c), (.slice x1.2.2.2.A x1.2.2.2.n x1.2.2.2.c)] :: .row x1.1.A x1.1.c 3 1 (ii v1) :: .row x1.2.1.A x1.2.1.c 3 1 (ii v2) :: .row x1.2.2.1.A x1.2.2.1.c 3 1 (ii v3) :: .row x1.2.2.2.A x1.2.2.2.c 3 1 (ii v4) :: F)
            refine d_one 0 (by kernel_rfl) ?_
            · refine o_do rfl (a_litX (vs := []) (ii ([] : List Int)) un25 sz3 zr3 rfl rfl rfl rfl rfl rfl rfl rfl rfl) rfl rfl (fun x7 w h => (h.drop 3)) (fun x7 => ?_)
              refine j_rs (.row x7 0 3 1 (ii ([] : List Int)) :: .row x9 1 3 1 (ii ([(rd v4 (0:Int))] : List Int)) :: .box x6 29 [(.slice x1.1.A x1.1.n x1.1.c), (.slice x1.2.1.A x1.2.1.n x1.2.1.c), (.slice x1.2.2.1.A x1.2.2.1.n x1.2.2.1.c), (.slice x1.2.2.2.A x1.2.2.2.n x1.2.2.2.c)] :: .box x2 29 [(.slice x1.1.A x1.1.n x1.1.c), (.slice x1.2.1.A x1.2.1.n x1.2.1.c), (.slice x1.2.2.1.A x1.2.2.1.n x1.2.2.1.c), (.slice x1.2.2.2.A x1.2.2.2.n x1.2.2.2.c)] :: .row x1.1.A x1.1.c 3 1 (ii v1) :: .row x1.2.1.A x1.2.1.c 3 1 (ii v2) :: .row x1.2.2.1.A x1.2.2.1.c 3 1 (ii v3) :: .row x1.2.2.2.A x1.2.2.2.c 3 1 (ii v4) :: F) (fun _ h => h) ?_
              refine j_env [(3, (pt x2)), (5, (pt x6)), (33, (.slice x7 0 0)), (35, (.slice x1.2.2.2.A x1.2.2.2.n x1.2.2.2.c)), (41, (.slice x9 1 1))] ⟨rfl, rfl, rfl, rfl, rfl, trivial⟩ ?_
              exact hD503 (x7, x9)
          refine d_two 0 8 (by kernel_rfl) ?_ ?_
          · refine o_do rfl (a_litX (vs := []) (ii ([] : List Int)) un25 sz3 zr3 rfl rfl rfl rfl rfl rfl rfl rfl rfl) rfl rfl (fun x7 w h => (h.drop 2)) (fun x7 => ?_)
            refine j_rs (.row x7 0 3 1 (ii ([] : List Int)) :: .box x6 29 [(.slice x1.1.A x1.1.n x1.1.c), (.slice x1.2.1.A x1.2.1.n x1.2.1.c), (.slice x1.2.2.1.A x1.2.2.1.n x1.2.2.1.c), (.slice x1.2.2.2.A x1.2.2.2.n x1.2.2.2.c)] :: .box x2 29 [(.slice x1.1.A x1.1.n x1.1.c), (.slice x1.2.1.A x1.2.1.n x1.2.1.c), (.slice x1.2.2.1.A x1.2.2.1.n x1.2.2.1.c), (.slice x1.2.2.2.A x1.2.2.2.n x1.2.2.2.c)] :: .row x1.1.A x1.1.c 3 1 (ii v1) :: .row x1.2.1.A x1.2.1.c 3 1 (ii v2) :: .row x1.2.2.1.A x1.2.2.1.c 3 1 (ii v3) :: .row x1.2.2.2.A x1.2.2.2.c 3 1 (ii v4) :: F) (fun _ h => h) ?_
            refine j_env [(3, (pt x2)), (5, (pt x6)), (33, (.slice x7 0 0)), (35, (.slice x1.2.2.2.A x1.2.2.2.n x1.2.2.2.c)), (40, (i6 (rd v4 (0:Int))))] ⟨rfl, rfl, rfl, rfl, rfl, trivial⟩ ?_
            exact hD247 x7
          · refine o_do rfl (a_litX (vs := [(i6 (rd v4 (0:Int)))]) (ii ([(rd v4 (0:Int))] : List Int)) un25 sz3 zr3 rfl rfl rfl rfl rfl rfl rfl rfl rfl) rfl rfl (fun x9 w h => (h.drop 2)) (fun x9 => ?_)
            refine j_rs (.row x9 1 3 1 (ii ([(rd v4 (0:Int))] : List Int)) :: .box x6 29 [(.slice x1.1.A x1.1.n x1.1.c), (.slice x1.2.1.A x1.2.1.n x1.2.1.c), (.slice x1.2.2.1.A x1.2.2.1.n x1.2.2.1.c), (.slice x1.2.2.2.A x1.2.2.2.n x1.2.2.2.c)] :: .box x2 29 [(.slice x1.1.A x1.1.n x1.1.c), (.slice x1.2.1.A x1.2.1.n x1.2.1.c), (.slice x1.2.2.1.A x1.2.2.1.n x1.2.2.1.c), (.slice x1.2.2.2.A x1.2.2.2.n x1.2.2.2.c)] :: .row x1.1.A x1.1.c 3 1 (ii v1) :: .row x1.2.1.A x1.2.1.c 3 1 (ii v2) :: .row x1.2.2.1.A x1.2.2.1.c 3 1 (ii v3) :: .row x1.2.2.2.A x1.2.2.2.c 3 1 (ii v4) :: F) (fun _ h => h) ?_
            refine j_env [(3, (pt x2)), (5, (pt x6)), (35, (.slice x1.2.2.2.A x1.2.2.2.n x1.2.2.2.c)), (41, (.slice x9 1 1))] ⟨rfl, rfl, rfl, rfl, trivial⟩ ?_
            exact hD502 x9
      · refine r_off rfl rfl rfl rfl (not_t (var_f c3)) rfl ?_
        refine r_off rfl rfl rfl rfl (not_t (var_f c3)) rfl ?_
        refine r_off rfl rfl rfl rfl (not_t (var_f c3)) rfl ?_
        refine r_off rfl rfl rfl rfl (not_t (var_f c3)) rfl ?_
        refine r_q (q_pick_t rfl rfl (not_t (var_f c3)) rfl) rfl rfl ?_
        refine r_nil ?_
        refine j_then ?_
        refine j_true rfl rfl ?_
        refine j_seq ?_
        refine j_region ?_
        refine r_q (q_move rfl rfl) rfl rfl ?_
        refine r_q (q_loadb_agg 0 rfl ag29 sz29 rfl rfl rfl rfl) rfl rfl ?_
        obtain ⟨v12, hb9, h⟩ := of_b1 h
        refine r_do (a_call ok23 rfl rfl rfl rfl (fun w hm => spec_StoreValid.calls K v1 x1.1.A x1.1.n x1.1.c v2 x1.2.1.A x1.2.1.n x1.2.1.c v3 x1.2.2.1.A x1.2.2.1.n x1.2.2.1.c v4 x1.2.2.2.A x1.2.2.2.n x1.2.2.2.c hm x1.1.h (Rd.row 1 rfl) x1.2.1.h (Rd.row 2 rfl) x1.2.2.1.h (Rd.row 3 rfl) x1.2.2.2.h (Rd.row 4 rfl) (hm.roomI 4 rfl) hb9)) rfl rfl (fun x5 => ?_)
        refine r_q (q_beql un4 rfl rfl rfl) rfl rfl ?_
        refine r_q (q_assign rfl rfl) rfl rfl ?_
        refine r_nil ?_
        refine j_then ?_
        refine j_ret ?_
        refine j_then_ret ?_
        cases h
        exact j_return rfl (ResOf.tmp rfl ResOf.nil) rfl (fun w h => ⟨(), rfl, (h.drop 5)⟩)
    · refine r_off rfl rfl rfl rfl (bne_t c2) rfl ?_
      refine r_off rfl rfl rfl rfl (bne_t c2) rfl ?_
      refine r_q (q_pick_t rfl rfl (bne_t c2) rfl) rfl rfl ?_
      refine r_q (q_move rfl rfl) rfl rfl ?_
      refine r_off rfl rfl rfl rfl rfl rfl ?_
      refine r_off rfl rfl rfl rfl rfl rfl ?_
      refine r_off rfl rfl rfl rfl rfl rfl ?_
      refine r_off rfl rfl rfl rfl rfl rfl ?_
      refine r_q (q_pick_t rfl rfl rfl rfl) rfl rfl ?_
      refine r_nil ?_
      refine j_then ?_
      refine j_true rfl rfl ?_
      refine j_seq ?_
      refine j_region ?_
      refine r_q (q_move rfl rfl) rfl rfl ?_
      refine r_q (q_loadb_agg 0 rfl ag29 sz29 rfl rfl rfl rfl) rfl rfl ?_
      obtain ⟨v13, hb10, h⟩ := of_b1 h
      refine r_do (a_call ok23 rfl rfl rfl rfl (fun w hm => spec_StoreValid.calls K v1 x1.1.A x1.1.n x1.1.c v2 x1.2.1.A x1.2.1.n x1.2.1.c v3 x1.2.2.1.A x1.2.2.1.n x1.2.2.1.c v4 x1.2.2.2.A x1.2.2.2.n x1.2.2.2.c hm x1.1.h (Rd.row 1 rfl) x1.2.1.h (Rd.row 2 rfl) x1.2.2.1.h (Rd.row 3 rfl) x1.2.2.2.h (Rd.row 4 rfl) (hm.roomI 4 rfl) hb10)) rfl rfl (fun x5 => ?_)
      refine r_q (q_beql un4 rfl rfl rfl) rfl rfl ?_
      refine r_q (q_assign rfl rfl) rfl rfl ?_
      refine r_nil ?_
      refine j_then ?_
      refine j_ret ?_
      refine j_then_ret ?_
      cases h
      exact j_return rfl (ResOf.tmp rfl ResOf.nil) rfl (fun w h => ⟨(), rfl, (h.drop 5)⟩)

end Go.Proofs.Ytigidjhdcplplaa.F
