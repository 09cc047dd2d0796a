/- The program computes these pure functions, printed by the generator of wip/gen. -/
import Derived.Test.YtigidjhdcplplaaFa
import Derived.Test.YtigidjhdcplplaaFg
import Derived.Test.YtigidjhdcplplaaFb
import Derived.Test.YtigidjhdcplplaaC0
import Derived.Test.YtigidjhdcplplaaC1
import Derived.Test.YtigidjhdcplplaaC2
import Derived.Test.YtigidjhdcplplaaC3
import Derived.Test.YtigidjhdcplplaaC4
import Derived.Test.YtigidjhdcplplaaC5
import Derived.Test.YtigidjhdcplplaaC6
import Derived.Test.YtigidjhdcplplaaC7
import Derived.Test.YtigidjhdcplplaaC8
import Derived.Test.YtigidjhdcplplaaC9
import Derived.Test.YtigidjhdcplplaaC10
import Derived.Test.YtigidjhdcplplaaC11
import Derived.Test.YtigidjhdcplplaaC12
import Derived.Test.YtigidjhdcplplaaC19
import Derived.Test.YtigidjhdcplplaaC20
namespace Go.Proofs.Ytigidjhdcplplaa.F
open Go Go.RowKit Go.Proofs.Ytigidjhdcplplaa.S
set_option linter.unusedVariables false
set_option maxRecDepth 100000
theorem laws_FnAllocCell.calls (K : Nat) (a0 : List Int) (a0_A : Option Addr) (a0_n a0_c : Nat) {w0 w : World} {F : List Res} {r1 : Bool} (hm : Mem w0 (F) w) (a0_h : a0.length = a0_n) (a0_R : Rd w0 F a0_A (ints .u8 a0)) (a0_k : a0.length ≤ a0_c) (h : laws_FnAllocCell.f K a0 = some r1) :
    Calls Try.prog 10 (List.toArray [.slice a0_A a0_n a0_c]) w fun e w' => ∃ x : Unit, e = .returned (.bool r1) ∧ Mem w0 (F) w' := by
  unfold laws_FnAllocCell.f at h
  refine calls_of_J (n := 102) Try.func10 rfl rfl rfl hm ?_
  refine j_seq ?_
  refine j_region ?_
  refine r_q (q_assign rfl rfl) rfl rfl ?_
  refine r_nil ?_
  refine j_then ?_
  refine j_seq ?_
  refine j_seq ?_
  refine j_region ?_
  refine r_q (q_move rfl rfl) rfl rfl ?_
  refine r_q (q_lenX a0 a0_h un22 rfl rfl rfl rfl rfl) rfl rfl ?_
  refine r_q (q_gtr rfl rfl rfl) rfl rfl ?_
  refine r_nil ?_
  refine j_then ?_
  rcases of_if h with ⟨c1, h⟩ | ⟨c1, h⟩
  · refine j_true rfl (decide_eq_true c1) ?_
    refine j_seq ?_
    refine j_region ?_
    refine r_q (q_assign rfl rfl) rfl rfl ?_
    refine r_nil ?_
    refine j_then ?_
    refine j_ret ?_
    refine j_then_ret ?_
    cases h
    exact j_return rfl (ResOf.tmp rfl ResOf.nil) rfl (fun w h => ⟨(), rfl, h⟩)
  · refine j_false rfl (decide_eq_false c1) ?_
    refine j_skip ?_
    refine j_then ?_
    refine j_seq ?_
    refine j_region ?_
    refine r_q (q_move rfl rfl) rfl rfl ?_
    obtain ⟨v1, v2, v3, v4, v5, hb1, h⟩ := of_b5 h
    refine r_do (a_call ok39 rfl rfl rfl rfl (fun w hm => spec_DrawAllocCell.calls K a0 a0_A a0_n a0_c hm a0_h a0_R a0_k hb1)) rfl rfl (fun x1 => ?_)
    refine r_q (q_move rfl rfl) rfl rfl ?_
    refine r_q (q_extract rfl rfl rfl) rfl rfl ?_
    refine r_q (q_extract rfl rfl rfl) rfl rfl ?_
    refine r_do (a_alloc zr29 rfl) rfl rfl (fun x2 => ?_)
    refine r_do (a_storeb 0 rfl sz29 rfl rfl rfl rfl (Nat.le_of_ble_eq_true rfl) rfl) rfl rfl (fun _ => ?_)
    refine j_b0 [(.slice x1.1.A x1.1.n x1.1.c), (.slice x1.2.1.A x1.2.1.n x1.2.1.c), (.slice x1.2.2.1.A x1.2.2.1.n x1.2.2.1.c), (.slice x1.2.2.2.A x1.2.2.2.n x1.2.2.2.c)] rfl ?_
    refine r_q (q_assign rfl rfl) rfl rfl ?_
    refine r_nil ?_
    refine j_then ?_
    refine j_seq ?_
    refine j_region ?_
    refine r_q (q_loadb_agg 0 rfl ag29 sz29 rfl rfl rfl rfl) rfl rfl ?_
    refine r_q (q_move rfl rfl) rfl rfl ?_
    obtain ⟨v6, v7, v8, v9, v10, v11, hb2, h⟩ := of_b6 h
    refine r_do (a_call ok19 rfl rfl rfl rfl (fun w hm => impl_AllocCell.calls K v1 x1.1.A x1.1.n x1.1.c v2 x1.2.1.A x1.2.1.n x1.2.1.c v3 x1.2.2.1.A x1.2.2.1.n x1.2.2.1.c v4 x1.2.2.2.A x1.2.2.2.n x1.2.2.2.c v5 hm x1.1.h (Rd.row 1 rfl) x1.2.1.h (Rd.row 2 rfl) x1.2.2.1.h (Rd.row 3 rfl) x1.2.2.2.h (Rd.row 4 rfl) (hm.roomI 4 rfl) hb2)) rfl rfl (fun x3 => ?_)
    refine r_q (q_move rfl rfl) rfl rfl ?_
    refine r_q (q_extract rfl rfl rfl) rfl rfl ?_
    refine r_q (q_extract rfl rfl rfl) rfl rfl ?_
    refine r_q (q_extract rfl rfl rfl) rfl rfl ?_
    refine r_do (a_alloc zr29 rfl) rfl rfl (fun x4 => ?_)
    refine r_do (a_storeb 0 rfl sz29 rfl rfl rfl rfl (Nat.le_of_ble_eq_true rfl) rfl) rfl rfl (fun _ => ?_)
    refine j_b0 [(.slice x3.1.A x3.1.n x3.1.c), (.slice x3.2.1.A x3.2.1.n x3.2.1.c), (.slice x3.2.2.1.A x3.2.2.1.n x3.2.2.1.c), (.slice x3.2.2.2.A x3.2.2.2.n x3.2.2.2.c)] rfl ?_
    refine r_q (q_assign rfl rfl) rfl rfl ?_
    refine r_q (q_assign rfl rfl) rfl rfl ?_
    refine r_nil ?_
    refine j_then ?_
    refine j_seq ?_
    refine j_region ?_
    refine r_q (q_loadb_agg 5 rfl ag29 sz29 rfl rfl rfl rfl) rfl rfl ?_
    refine r_q (q_move rfl rfl) rfl rfl ?_
    obtain ⟨v12, v13, v14, v15, v16, v17, hb3, h⟩ := of_b6 h
    refine r_do (a_call ok25 rfl rfl rfl rfl (fun w hm => spec_AllocCell.calls K v1 x1.1.A x1.1.n x1.1.c v2 x1.2.1.A x1.2.1.n x1.2.1.c v3 x1.2.2.1.A x1.2.2.1.n x1.2.2.1.c v4 x1.2.2.2.A x1.2.2.2.n x1.2.2.2.c v5 hm x1.1.h (Rd.row 6 rfl) x1.2.1.h (Rd.row 7 rfl) x1.2.2.1.h (Rd.row 8 rfl) x1.2.2.2.h (Rd.row 9 rfl) (hm.roomI 9 rfl) hb3)) rfl rfl (fun x5 => ?_)
    refine r_q (q_move rfl rfl) rfl rfl ?_
    refine r_q (q_extract rfl rfl rfl) rfl rfl ?_
    refine r_q (q_extract rfl rfl rfl) rfl rfl ?_
    refine r_q (q_extract rfl rfl rfl) rfl rfl ?_
    refine r_do (a_alloc zr29 rfl) rfl rfl (fun x6 => ?_)
    refine r_do (a_storeb 0 rfl sz29 rfl rfl rfl rfl (Nat.le_of_ble_eq_true rfl) rfl) rfl rfl (fun _ => ?_)
    refine j_b0 [(.slice x5.1.A x5.1.n x5.1.c), (.slice x5.2.1.A x5.2.1.n x5.2.1.c), (.slice x5.2.2.1.A x5.2.2.1.n x5.2.2.1.c), (.slice x5.2.2.2.A x5.2.2.2.n x5.2.2.2.c)] rfl ?_
    refine r_q (q_assign rfl rfl) rfl rfl ?_
    refine r_q (q_assign rfl rfl) rfl rfl ?_
    refine r_nil ?_
    refine j_then ?_
    refine j_seq ?_
    refine j_seq ?_
    refine j_region ?_
    refine r_q (q_loadb_agg 5 rfl ag29 sz29 rfl rfl rfl rfl) rfl rfl ?_
    refine r_q (q_loadb_agg 0 rfl ag29 sz29 rfl rfl rfl rfl) rfl rfl ?_
    obtain ⟨v18, hb4, h⟩ := of_b1 h
    refine r_do (a_call ok18 rfl rfl rfl rfl (fun w hm => impl_StoreSame.calls K v6 x3.1.A x3.1.n x3.1.c v7 x3.2.1.A x3.2.1.n x3.2.1.c v8 x3.2.2.1.A x3.2.2.1.n x3.2.2.1.c v9 x3.2.2.2.A x3.2.2.2.n x3.2.2.2.c v12 x5.1.A x5.1.n x5.1.c v13 x5.2.1.A x5.2.1.n x5.2.1.c v14 x5.2.2.1.A x5.2.2.1.n x5.2.2.1.c v15 x5.2.2.2.A x5.2.2.2.n x5.2.2.2.c hm x3.1.h (Rd.row 6 rfl) x3.2.1.h (Rd.row 7 rfl) x3.2.2.1.h (Rd.row 8 rfl) x3.2.2.2.h (Rd.row 9 rfl) x5.1.h (Rd.row 1 rfl) x5.2.1.h (Rd.row 2 rfl) x5.2.2.1.h (Rd.row 3 rfl) x5.2.2.2.h (Rd.row 4 rfl) hb4)) rfl rfl (fun x7 => ?_)
    refine r_q (q_not rfl rfl) rfl rfl ?_
    refine r_q (q_move rfl rfl) rfl rfl ?_
    rcases of_if h with ⟨c2, h⟩ | ⟨c2, h⟩
    · refine r_qon (q_move rfl rfl) rfl rfl rfl rfl (not_f c2) rfl ?_
      refine r_qon (q_move rfl rfl) rfl rfl rfl rfl (not_f c2) rfl ?_
      refine r_qon (q_neq rfl rfl rfl) rfl rfl rfl rfl (not_f c2) rfl ?_
      refine r_q (q_pick_f rfl rfl (not_f c2) rfl) rfl rfl ?_
      refine r_q (q_move rfl rfl) rfl rfl ?_
      rcases of_if h with ⟨c3, h⟩ | ⟨c3, h⟩
      · refine r_qon (q_move rfl rfl) rfl rfl rfl rfl (bne_f c3) rfl ?_
        refine r_qon (q_move rfl rfl) rfl rfl rfl rfl (bne_f c3) rfl ?_
        refine r_qon (q_bneq un4 rfl rfl rfl) rfl rfl rfl rfl (bne_f c3) rfl ?_
        refine r_q (q_pick_f rfl rfl (bne_f c3) rfl) rfl rfl ?_
        refine r_q (q_move rfl rfl) rfl rfl ?_
        rcases of_if h with ⟨c4, h⟩ | ⟨c4, h⟩
        · refine r_qon (q_move rfl rfl) rfl rfl rfl rfl (bne_f c4) rfl ?_
          refine r_qon (q_not rfl rfl) rfl rfl rfl rfl (bne_f c4) rfl ?_
          refine r_q (q_pick_f rfl rfl (bne_f c4) rfl) rfl rfl ?_
          refine r_nil ?_
          refine j_then ?_
          rcases of_if h with ⟨c5, h⟩ | ⟨c5, h⟩
          · refine j_false rfl (not_f c5) ?_
            refine j_skip ?_
            refine j_then ?_
            refine j_seq ?_
            refine j_region ?_
            refine r_q (q_fieldAddr fi29_0 sz27 rfl rfl rfl) rfl rfl ?_
            refine r_q (q_loadb_agg 5 rfl ag27 sz27 rfl rfl rfl rfl) rfl rfl ?_
            obtain ⟨v19, hb5, h⟩ := of_b1 h
            refine r_do (a_call ok37 rfl rfl rfl rfl (fun w hm => impl_Reachable.calls K v6 x3.1.A x3.1.n x3.1.c v7 x3.2.1.A x3.2.1.n x3.2.1.c v8 x3.2.2.1.A x3.2.2.1.n x3.2.2.1.c hm x3.1.h (Rd.row 6 rfl) x3.2.1.h (Rd.row 7 rfl) x3.2.2.1.h (Rd.row 8 rfl) hb5)) rfl rfl (fun x8 => ?_)
            refine r_q (q_assign rfl rfl) rfl rfl ?_
            refine r_nil ?_
            refine j_then ?_
            refine j_seq ?_
            obtain ⟨v20, hb6, h⟩ := of_b1 h
            rcases of_if h with ⟨c6, h⟩ | ⟨c6, h⟩
            · obtain ⟨c7, h⟩ := of_guard h
              rcases of_if h with ⟨c8, h⟩ | ⟨c8, h⟩
              · obtain ⟨c9, h⟩ := of_guard h
                obtain ⟨v21, hb7, h⟩ := of_b1 h
                rcases of_if h with ⟨c10, h⟩ | ⟨c10, h⟩
                · obtain ⟨c11, h⟩ := of_guard h
                  rcases of_if h with ⟨c12, h⟩ | ⟨c12, h⟩
                  · obtain ⟨c13, h⟩ := of_guard h
                    refine j_draw (.row x8.A x8.c 4 1 (bls v19) :: .box x6 29 [(.slice x5.1.A x5.1.n x5.1.c), (.slice x5.2.1.A x5.2.1.n x5.2.1.c), (.slice x5.2.2.1.A x5.2.2.1.n x5.2.2.1.c), (.slice x5.2.2.2.A x5.2.2.2.n x5.2.2.2.c)] :: .row x5.1.A x5.1.c 3 1 (ii v12) :: .row x5.2.1.A x5.2.1.c 3 1 (ii v13) :: .row x5.2.2.1.A x5.2.2.1.c 3 1 (ii v14) :: .row x5.2.2.2.A x5.2.2.2.c 3 1 (ii v15) :: .box x4 29 [(.slice x3.1.A x3.1.n x3.1.c), (.slice x3.2.1.A x3.2.1.n x3.2.1.c), (.slice x3.2.2.1.A x3.2.2.1.n x3.2.2.1.c), (.slice x3.2.2.2.A x3.2.2.2.n x3.2.2.2.c)] :: .row x3.1.A x3.1.c 3 1 (ii v6) :: .row x3.2.1.A x3.2.1.c 3 1 (ii v7) :: .row x3.2.2.1.A x3.2.2.1.c 3 1 (ii v8) :: .row x3.2.2.2.A x3.2.2.2.c 3 1 (ii v9) :: .box x2 29 [(.slice x1.1.A x1.1.n x1.1.c), (.slice x1.2.1.A x1.2.1.n x1.2.1.c), (.slice x1.2.2.1.A x1.2.2.1.n x1.2.2.1.c), (.slice x1.2.2.2.A x1.2.2.2.n x1.2.2.2.c)] :: .row x1.1.A x1.1.c 3 1 (ii v1) :: .row x1.2.1.A x1.2.1.c 3 1 (ii v2) :: .row x1.2.2.1.A x1.2.2.1.c 3 1 (ii v3) :: .row x1.2.2.2.A x1.2.2.2.c 3 1 (ii v4) :: F) 35 follows_any rfl ?_
                    refine d_take 0 rfl (q_loadb_agg 6 rfl ag29 sz29 rfl rfl rfl rfl) rfl rfl (by kernel_rfl) (by kernel_rfl) (by kernel_rfl) (fun w h => h) ?_
                    refine d_one 1 (by kernel_rfl) ?_
                    refine o_do rfl (a_call ok22 rfl rfl rfl rfl (fun w hm => impl_StoreValid.calls K v6 x3.1.A x3.1.n x3.1.c v7 x3.2.1.A x3.2.1.n x3.2.1.c v8 x3.2.2.1.A x3.2.2.1.n x3.2.2.1.c v9 x3.2.2.2.A x3.2.2.2.n x3.2.2.2.c hm x3.1.h (Rd.row 7 rfl) x3.2.1.h (Rd.row 8 rfl) x3.2.2.1.h (Rd.row 9 rfl) x3.2.2.2.h (Rd.row 10 rfl) (hm.roomI 10 rfl) hb6)) rfl rfl (fun x9 w h => h) (fun x9 => ?_)
                    refine d_take 2 rfl (q_move rfl rfl) rfl rfl (by kernel_rfl) (by kernel_rfl) (by kernel_rfl) (fun w h => h) ?_
                    refine d_take_on 3 rfl (q_move rfl rfl) rfl rfl rfl rfl c6 rfl (by kernel_rfl) (by kernel_rfl) (by kernel_rfl) (fun w h => h) ?_
                    refine d_take_on 4 rfl (q_fieldAddr fi29_1 sz25 rfl rfl rfl) rfl rfl rfl rfl c6 rfl (by kernel_rfl) (by kernel_rfl) (by kernel_rfl) (fun w h => h) ?_
                    refine d_take_on 5 rfl (q_loadb 11 rfl ag25 rfl rfl rfl) rfl rfl rfl rfl c6 rfl (by kernel_rfl) (by kernel_rfl) (by kernel_rfl) (fun w h => h) ?_
                    refine d_take_on 6 rfl (q_ix (Rd.row 15 rfl) (ints_len1 _ v4) (by decide) x1.2.2.2.h c7 un25 sz3 rfl rfl rfl) rfl rfl rfl rfl c6 rfl (by kernel_rfl) (by kernel_rfl) (by kernel_rfl) (fun w h => h) ?_
                    refine d_take_on 7 rfl (q_ldI (Rd.row 15 rfl) c7 ag3 rfl rfl) rfl rfl rfl rfl c6 rfl (by kernel_rfl) (by kernel_rfl) (by kernel_rfl) (fun w h => h) ?_
                    refine d_take_on 8 rfl (q_eql rfl rfl rfl) rfl rfl rfl rfl c6 rfl (by kernel_rfl) (by kernel_rfl) (by kernel_rfl) (fun w h => h) ?_
                    refine d_take 9 rfl (q_pick_t rfl rfl c6 rfl) rfl rfl (by kernel_rfl) (by kernel_rfl) (by kernel_rfl) (fun w h => h) ?_
                    refine d_take 10 rfl (q_move rfl rfl) rfl rfl (by kernel_rfl) (by kernel_rfl) (by kernel_rfl) (fun w h => h) ?_
                    refine d_take_on 11 rfl (q_fieldAddr fi29_1 sz25 rfl rfl rfl) rfl rfl rfl rfl (beq_t c8) rfl (by kernel_rfl) (by kernel_rfl) (by kernel_rfl) (fun w h => h) ?_
                    refine d_take_on 12 rfl (q_loadb 6 rfl ag25 rfl rfl rfl) rfl rfl rfl rfl (beq_t c8) rfl (by kernel_rfl) (by kernel_rfl) (by kernel_rfl) (fun w h => h) ?_
                    refine d_take_on 13 rfl (q_fieldAddr fi29_1 sz25 rfl rfl rfl) rfl rfl rfl rfl (beq_t c8) rfl (by kernel_rfl) (by kernel_rfl) (by kernel_rfl) (fun w h => h) ?_
                    refine d_take_on 14 rfl (q_loadb 11 rfl ag25 rfl rfl rfl) rfl rfl rfl rfl (beq_t c8) rfl (by kernel_rfl) (by kernel_rfl) (by kernel_rfl) (fun w h => h) ?_
                    refine j_fact (fun w hm => (hm.roomI 15 rfl)) (fun k8 => ?_)
                    refine d_take_on 15 rfl (q_lo v4 x1.2.2.2.h c9 un25 sz3 rfl rfl rfl) rfl rfl rfl rfl (beq_t c8) rfl (by kernel_rfl) (by kernel_rfl) (by kernel_rfl) (fun w h => h) ?_
                    refine d_one 16 (by kernel_rfl) ?_
                    refine o_on rfl (a_call ok41 rfl rfl rfl rfl (fun w hm => laws_ccInts.calls K v9 x3.2.2.2.A x3.2.2.2.n x3.2.2.2.c (v4.drop (1:Int).toNat) (cutA x1.2.2.2.A x1.2.2.2.c (1:Int).toNat 1) (v4.drop (1:Int).toNat).length (x1.2.2.2.c - (1:Int).toNat) hm x3.2.2.2.h (Rd.row 10 rfl) rfl (rd_loI (Rd.row 15 rfl) k8 (1:Int).toNat) hb7)) rfl rfl rfl rfl (beq_t c8) rfl (fun x10 w h => h) (fun x10 => ?_)
                    refine d_take 17 rfl (q_pick_t rfl rfl (beq_t c8) rfl) rfl rfl (by kernel_rfl) (by kernel_rfl) (by kernel_rfl) (fun w h => h) ?_
                    refine d_take 18 rfl (q_move rfl rfl) rfl rfl (by kernel_rfl) (by kernel_rfl) (by kernel_rfl) (fun w h => h) ?_
                    refine d_take_on 19 rfl (q_move rfl rfl) rfl rfl rfl rfl c10 rfl (by kernel_rfl) (by kernel_rfl) (by kernel_rfl) (fun w h => h) ?_
                    refine d_take_on 20 rfl (q_move rfl rfl) rfl rfl rfl rfl c10 rfl (by kernel_rfl) (by kernel_rfl) (by kernel_rfl) (fun w h => h) ?_
                    refine d_take_on 21 rfl (q_ix (Rd.row 0 rfl) (bls_len1 v19) (by decide) x8.h c11 un52 sz4 rfl rfl rfl) rfl rfl rfl rfl c10 rfl (by kernel_rfl) (by kernel_rfl) (by kernel_rfl) (fun w h => h) ?_
                    refine d_take_on 22 rfl (q_ldB (Rd.row 0 rfl) c11 ag4 rfl rfl) rfl rfl rfl rfl c10 rfl (by kernel_rfl) (by kernel_rfl) (by kernel_rfl) (fun w h => h) ?_
                    refine d_take 23 rfl (q_pick_t rfl rfl c10 rfl) rfl rfl (by kernel_rfl) (by kernel_rfl) (by kernel_rfl) (fun w h => h) ?_
                    refine d_take 24 rfl (q_move rfl rfl) rfl rfl (by kernel_rfl) (by kernel_rfl) (by kernel_rfl) (fun w h => h) ?_
                    refine d_take_on 25 rfl (q_fieldAddr fi29_0 sz27 rfl rfl rfl) rfl rfl rfl rfl c12 rfl (by kernel_rfl) (by kernel_rfl) (by kernel_rfl) (fun w h => h) ?_
                    refine d_take_on 26 rfl (q_fieldAddr fi27_2 sz25 rfl rfl rfl) rfl rfl rfl rfl c12 rfl (by kernel_rfl) (by kernel_rfl) (by kernel_rfl) (fun w h => h) ?_
                    refine d_take_on 27 rfl (q_loadb 6 rfl ag25 rfl rfl rfl) rfl rfl rfl rfl c12 rfl (by kernel_rfl) (by kernel_rfl) (by kernel_rfl) (fun w h => h) ?_
                    refine d_take_on 28 rfl (q_move rfl rfl) rfl rfl rfl rfl c12 rfl (by kernel_rfl) (by kernel_rfl) (by kernel_rfl) (fun w h => h) ?_
                    refine d_take_on 29 rfl (q_ix (Rd.row 9 rfl) (ints_len1 _ v8) (by decide) x3.2.2.1.h c13 un25 sz3 rfl rfl rfl) rfl rfl rfl rfl c12 rfl (by kernel_rfl) (by kernel_rfl) (by kernel_rfl) (fun w h => h) ?_
                    refine d_take_on 30 rfl (q_ldI (Rd.row 9 rfl) c13 ag3 rfl rfl) rfl rfl rfl rfl c12 rfl (by kernel_rfl) (by kernel_rfl) (by kernel_rfl) (fun w h => h) ?_
                    refine d_take_on 31 rfl (q_move rfl rfl) rfl rfl rfl rfl c12 rfl (by kernel_rfl) (by kernel_rfl) (by kernel_rfl) (fun w h => h) ?_
                    refine d_take_on 32 rfl (q_eql rfl rfl rfl) rfl rfl rfl rfl c12 rfl (by kernel_rfl) (by kernel_rfl) (by kernel_rfl) (fun w h => h) ?_
                    refine d_take 33 rfl (q_pick_t rfl rfl c12 rfl) rfl rfl (by kernel_rfl) (by kernel_rfl) (by kernel_rfl) (fun w h => h) ?_
                    refine d_take 34 rfl (q_assign rfl rfl) rfl rfl (by kernel_rfl) (by kernel_rfl) (by kernel_rfl) (fun w h => h) ?_
                    refine d_done (by kernel_rfl) ?_
                    refine j_then ?_
                    refine j_ret ?_
                    cases h
                    exact j_return rfl (ResOf.tmp rfl ResOf.nil) rfl (fun w h => ⟨(), rfl, (h.drop 16)⟩)
                  · refine j_draw (.row x8.A x8.c 4 1 (bls v19) :: .box x6 29 [(.slice x5.1.A x5.1.n x5.1.c), (.slice x5.2.1.A x5.2.1.n x5.2.1.c), (.slice x5.2.2.1.A x5.2.2.1.n x5.2.2.1.c), (.slice x5.2.2.2.A x5.2.2.2.n x5.2.2.2.c)] :: .row x5.1.A x5.1.c 3 1 (ii v12) :: .row x5.2.1.A x5.2.1.c 3 1 (ii v13) :: .row x5.2.2.1.A x5.2.2.1.c 3 1 (ii v14) :: .row x5.2.2.2.A x5.2.2.2.c 3 1 (ii v15) :: .box x4 29 [(.slice x3.1.A x3.1.n x3.1.c), (.slice x3.2.1.A x3.2.1.n x3.2.1.c), (.slice x3.2.2.1.A x3.2.2.1.n x3.2.2.1.c), (.slice x3.2.2.2.A x3.2.2.2.n x3.2.2.2.c)] :: .row x3.1.A x3.1.c 3 1 (ii v6) :: .row x3.2.1.A x3.2.1.c 3 1 (ii v7) :: .row x3.2.2.1.A x3.2.2.1.c 3 1 (ii v8) :: .row x3.2.2.2.A x3.2.2.2.c 3 1 (ii v9) :: .box x2 29 [(.slice x1.1.A x1.1.n x1.1.c), (.slice x1.2.1.A x1.2.1.n x1.2.1.c), (.slice x1.2.2.1.A x1.2.2.1.n x1.2.2.1.c), (.slice x1.2.2.2.A x1.2.2.2.n x1.2.2.2.c)] :: .row x1.1.A x1.1.c 3 1 (ii v1) :: .row x1.2.1.A x1.2.1.c 3 1 (ii v2) :: .row x1.2.2.1.A x1.2.2.1.c 3 1 (ii v3) :: .row x1.2.2.2.A x1.2.2.2.c 3 1 (ii v4) :: F) 35 follows_any rfl ?_
                    refine d_take 0 rfl (q_loadb_agg 6 rfl ag29 sz29 rfl rfl rfl rfl) rfl rfl (by kernel_rfl) (by kernel_rfl) (by kernel_rfl) (fun w h => h) ?_
                    refine d_one 1 (by kernel_rfl) ?_
                    refine o_do rfl (a_call ok22 rfl rfl rfl rfl (fun w hm => impl_StoreValid.calls K v6 x3.1.A x3.1.n x3.1.c v7 x3.2.1.A x3.2.1.n x3.2.1.c v8 x3.2.2.1.A x3.2.2.1.n x3.2.2.1.c v9 x3.2.2.2.A x3.2.2.2.n x3.2.2.2.c hm x3.1.h (Rd.row 7 rfl) x3.2.1.h (Rd.row 8 rfl) x3.2.2.1.h (Rd.row 9 rfl) x3.2.2.2.h (Rd.row 10 rfl) (hm.roomI 10 rfl) hb6)) rfl rfl (fun x9 w h => h) (fun x9 => ?_)
                    refine d_take 2 rfl (q_move rfl rfl) rfl rfl (by kernel_rfl) (by kernel_rfl) (by kernel_rfl) (fun w h => h) ?_
                    refine d_take_on 3 rfl (q_move rfl rfl) rfl rfl rfl rfl c6 rfl (by kernel_rfl) (by kernel_rfl) (by kernel_rfl) (fun w h => h) ?_
                    refine d_take_on 4 rfl (q_fieldAddr fi29_1 sz25 rfl rfl rfl) rfl rfl rfl rfl c6 rfl (by kernel_rfl) (by kernel_rfl) (by kernel_rfl) (fun w h => h) ?_
                    refine d_take_on 5 rfl (q_loadb 11 rfl ag25 rfl rfl rfl) rfl rfl rfl rfl c6 rfl (by kernel_rfl) (by kernel_rfl) (by kernel_rfl) (fun w h => h) ?_
                    refine d_take_on 6 rfl (q_ix (Rd.row 15 rfl) (ints_len1 _ v4) (by decide) x1.2.2.2.h c7 un25 sz3 rfl rfl rfl) rfl rfl rfl rfl c6 rfl (by kernel_rfl) (by kernel_rfl) (by kernel_rfl) (fun w h => h) ?_
                    refine d_take_on 7 rfl (q_ldI (Rd.row 15 rfl) c7 ag3 rfl rfl) rfl rfl rfl rfl c6 rfl (by kernel_rfl) (by kernel_rfl) (by kernel_rfl) (fun w h => h) ?_
                    refine d_take_on 8 rfl (q_eql rfl rfl rfl) rfl rfl rfl rfl c6 rfl (by kernel_rfl) (by kernel_rfl) (by kernel_rfl) (fun w h => h) ?_
                    refine d_take 9 rfl (q_pick_t rfl rfl c6 rfl) rfl rfl (by kernel_rfl) (by kernel_rfl) (by kernel_rfl) (fun w h => h) ?_
                    refine d_take 10 rfl (q_move rfl rfl) rfl rfl (by kernel_rfl) (by kernel_rfl) (by kernel_rfl) (fun w h => h) ?_
                    refine d_take_on 11 rfl (q_fieldAddr fi29_1 sz25 rfl rfl rfl) rfl rfl rfl rfl (beq_t c8) rfl (by kernel_rfl) (by kernel_rfl) (by kernel_rfl) (fun w h => h) ?_
                    refine d_take_on 12 rfl (q_loadb 6 rfl ag25 rfl rfl rfl) rfl rfl rfl rfl (beq_t c8) rfl (by kernel_rfl) (by kernel_rfl) (by kernel_rfl) (fun w h => h) ?_
                    refine d_take_on 13 rfl (q_fieldAddr fi29_1 sz25 rfl rfl rfl) rfl rfl rfl rfl (beq_t c8) rfl (by kernel_rfl) (by kernel_rfl) (by kernel_rfl) (fun w h => h) ?_
                    refine d_take_on 14 rfl (q_loadb 11 rfl ag25 rfl rfl rfl) rfl rfl rfl rfl (beq_t c8) rfl (by kernel_rfl) (by kernel_rfl) (by kernel_rfl) (fun w h => h) ?_
                    refine j_fact (fun w hm => (hm.roomI 15 rfl)) (fun k10 => ?_)
                    refine d_take_on 15 rfl (q_lo v4 x1.2.2.2.h c9 un25 sz3 rfl rfl rfl) rfl rfl rfl rfl (beq_t c8) rfl (by kernel_rfl) (by kernel_rfl) (by kernel_rfl) (fun w h => h) ?_
                    refine d_one 16 (by kernel_rfl) ?_
                    refine o_on rfl (a_call ok41 rfl rfl rfl rfl (fun w hm => laws_ccInts.calls K v9 x3.2.2.2.A x3.2.2.2.n x3.2.2.2.c (v4.drop (1:Int).toNat) (cutA x1.2.2.2.A x1.2.2.2.c (1:Int).toNat 1) (v4.drop (1:Int).toNat).length (x1.2.2.2.c - (1:Int).toNat) hm x3.2.2.2.h (Rd.row 10 rfl) rfl (rd_loI (Rd.row 15 rfl) k10 (1:Int).toNat) hb7)) rfl rfl rfl rfl (beq_t c8) rfl (fun x10 w h => h) (fun x10 => ?_)
                    refine d_take 17 rfl (q_pick_t rfl rfl (beq_t c8) rfl) rfl rfl (by kernel_rfl) (by kernel_rfl) (by kernel_rfl) (fun w h => h) ?_
                    refine d_take 18 rfl (q_move rfl rfl) rfl rfl (by kernel_rfl) (by kernel_rfl) (by kernel_rfl) (fun w h => h) ?_
                    refine d_take_on 19 rfl (q_move rfl rfl) rfl rfl rfl rfl c10 rfl (by kernel_rfl) (by kernel_rfl) (by kernel_rfl) (fun w h => h) ?_
                    refine d_take_on 20 rfl (q_move rfl rfl) rfl rfl rfl rfl c10 rfl (by kernel_rfl) (by kernel_rfl) (by kernel_rfl) (fun w h => h) ?_
                    refine d_take_on 21 rfl (q_ix (Rd.row 0 rfl) (bls_len1 v19) (by decide) x8.h c11 un52 sz4 rfl rfl rfl) rfl rfl rfl rfl c10 rfl (by kernel_rfl) (by kernel_rfl) (by kernel_rfl) (fun w h => h) ?_
                    refine d_take_on 22 rfl (q_ldB (Rd.row 0 rfl) c11 ag4 rfl rfl) rfl rfl rfl rfl c10 rfl (by kernel_rfl) (by kernel_rfl) (by kernel_rfl) (fun w h => h) ?_
                    refine d_take 23 rfl (q_pick_t rfl rfl c10 rfl) rfl rfl (by kernel_rfl) (by kernel_rfl) (by kernel_rfl) (fun w h => h) ?_
                    refine d_take 24 rfl (q_move rfl rfl) rfl rfl (by kernel_rfl) (by kernel_rfl) (by kernel_rfl) (fun w h => h) ?_
                    refine d_take_off 25 rfl rfl rfl rfl rfl (var_f c12) rfl (by kernel_rfl) (by kernel_rfl) (by kernel_rfl) (fun w h => h) ?_
                    refine d_take_off 26 rfl rfl rfl rfl rfl (var_f c12) rfl (by kernel_rfl) (by kernel_rfl) (by kernel_rfl) (fun w h => h) ?_
                    refine d_take_off 27 rfl rfl rfl rfl rfl (var_f c12) rfl (by kernel_rfl) (by kernel_rfl) (by kernel_rfl) (fun w h => h) ?_
                    refine d_take_off 28 rfl rfl rfl rfl rfl (var_f c12) rfl (by kernel_rfl) (by kernel_rfl) (by kernel_rfl) (fun w h => h) ?_
                    refine d_take_off 29 rfl rfl rfl rfl rfl (var_f c12) rfl (by kernel_rfl) (by kernel_rfl) (by kernel_rfl) (fun w h => h) ?_
                    refine d_take_off 30 rfl rfl rfl rfl rfl (var_f c12) rfl (by kernel_rfl) (by kernel_rfl) (by kernel_rfl) (fun w h => h) ?_
                    refine d_take_off 31 rfl rfl rfl rfl rfl (var_f c12) rfl (by kernel_rfl) (by kernel_rfl) (by kernel_rfl) (fun w h => h) ?_
                    refine d_take_off 32 rfl rfl rfl rfl rfl (var_f c12) rfl (by kernel_rfl) (by kernel_rfl) (by kernel_rfl) (fun w h => h) ?_
                    refine d_take 33 rfl (q_pick_f rfl rfl (var_f c12) rfl) rfl rfl (by kernel_rfl) (by kernel_rfl) (by kernel_rfl) (fun w h => h) ?_
                    refine d_take 34 rfl (q_assign rfl rfl) rfl rfl (by kernel_rfl) (by kernel_rfl) (by kernel_rfl) (fun w h => h) ?_
                    refine d_done (by kernel_rfl) ?_
                    refine j_then ?_
                    refine j_ret ?_
                    cases h
                    exact j_return rfl (ResOf.tmp rfl ResOf.nil) rfl (fun w h => ⟨(), rfl, (h.drop 16)⟩)
                · refine j_draw (.row x8.A x8.c 4 1 (bls v19) :: .box x6 29 [(.slice x5.1.A x5.1.n x5.1.c), (.slice x5.2.1.A x5.2.1.n x5.2.1.c), (.slice x5.2.2.1.A x5.2.2.1.n x5.2.2.1.c), (.slice x5.2.2.2.A x5.2.2.2.n x5.2.2.2.c)] :: .row x5.1.A x5.1.c 3 1 (ii v12) :: .row x5.2.1.A x5.2.1.c 3 1 (ii v13) :: .row x5.2.2.1.A x5.2.2.1.c 3 1 (ii v14) :: .row x5.2.2.2.A x5.2.2.2.c 3 1 (ii v15) :: .box x4 29 [(.slice x3.1.A x3.1.n x3.1.c), (.slice x3.2.1.A x3.2.1.n x3.2.1.c), (.slice x3.2.2.1.A x3.2.2.1.n x3.2.2.1.c), (.slice x3.2.2.2.A x3.2.2.2.n x3.2.2.2.c)] :: .row x3.1.A x3.1.c 3 1 (ii v6) :: .row x3.2.1.A x3.2.1.c 3 1 (ii v7) :: .row x3.2.2.1.A x3.2.2.1.c 3 1 (ii v8) :: .row x3.2.2.2.A x3.2.2.2.c 3 1 (ii v9) :: .box x2 29 [(.slice x1.1.A x1.1.n x1.1.c), (.slice x1.2.1.A x1.2.1.n x1.2.1.c), (.slice x1.2.2.1.A x1.2.2.1.n x1.2.2.1.c), (.slice x1.2.2.2.A x1.2.2.2.n x1.2.2.2.c)] :: .row x1.1.A x1.1.c 3 1 (ii v1) :: .row x1.2.1.A x1.2.1.c 3 1 (ii v2) :: .row x1.2.2.1.A x1.2.2.1.c 3 1 (ii v3) :: .row x1.2.2.2.A x1.2.2.2.c 3 1 (ii v4) :: F) 35 follows_any rfl ?_
                  refine d_take 0 rfl (q_loadb_agg 6 rfl ag29 sz29 rfl rfl rfl rfl) rfl rfl (by kernel_rfl) (by kernel_rfl) (by kernel_rfl) (fun w h => h) ?_
                  refine d_one 1 (by kernel_rfl) ?_
                  refine o_do rfl (a_call ok22 rfl rfl rfl rfl (fun w hm => impl_StoreValid.calls K v6 x3.1.A x3.1.n x3.1.c v7 x3.2.1.A x3.2.1.n x3.2.1.c v8 x3.2.2.1.A x3.2.2.1.n x3.2.2.1.c v9 x3.2.2.2.A x3.2.2.2.n x3.2.2.2.c hm x3.1.h (Rd.row 7 rfl) x3.2.1.h (Rd.row 8 rfl) x3.2.2.1.h (Rd.row 9 rfl) x3.2.2.2.h (Rd.row 10 rfl) (hm.roomI 10 rfl) hb6)) rfl rfl (fun x9 w h => h) (fun x9 => ?_)
                  refine d_take 2 rfl (q_move rfl rfl) rfl rfl (by kernel_rfl) (by kernel_rfl) (by kernel_rfl) (fun w h => h) ?_
                  refine d_take_on 3 rfl (q_move rfl rfl) rfl rfl rfl rfl c6 rfl (by kernel_rfl) (by kernel_rfl) (by kernel_rfl) (fun w h => h) ?_
                  refine d_take_on 4 rfl (q_fieldAddr fi29_1 sz25 rfl rfl rfl) rfl rfl rfl rfl c6 rfl (by kernel_rfl) (by kernel_rfl) (by kernel_rfl) (fun w h => h) ?_
                  refine d_take_on 5 rfl (q_loadb 11 rfl ag25 rfl rfl rfl) rfl rfl rfl rfl c6 rfl (by kernel_rfl) (by kernel_rfl) (by kernel_rfl) (fun w h => h) ?_
                  refine d_take_on 6 rfl (q_ix (Rd.row 15 rfl) (ints_len1 _ v4) (by decide) x1.2.2.2.h c7 un25 sz3 rfl rfl rfl) rfl rfl rfl rfl c6 rfl (by kernel_rfl) (by kernel_rfl) (by kernel_rfl) (fun w h => h) ?_
                  refine d_take_on 7 rfl (q_ldI (Rd.row 15 rfl) c7 ag3 rfl rfl) rfl rfl rfl rfl c6 rfl (by kernel_rfl) (by kernel_rfl) (by kernel_rfl) (fun w h => h) ?_
                  refine d_take_on 8 rfl (q_eql rfl rfl rfl) rfl rfl rfl rfl c6 rfl (by kernel_rfl) (by kernel_rfl) (by kernel_rfl) (fun w h => h) ?_
                  refine d_take 9 rfl (q_pick_t rfl rfl c6 rfl) rfl rfl (by kernel_rfl) (by kernel_rfl) (by kernel_rfl) (fun w h => h) ?_
                  refine d_take 10 rfl (q_move rfl rfl) rfl rfl (by kernel_rfl) (by kernel_rfl) (by kernel_rfl) (fun w h => h) ?_
                  refine d_take_on 11 rfl (q_fieldAddr fi29_1 sz25 rfl rfl rfl) rfl rfl rfl rfl (beq_t c8) rfl (by kernel_rfl) (by kernel_rfl) (by kernel_rfl) (fun w h => h) ?_
                  refine d_take_on 12 rfl (q_loadb 6 rfl ag25 rfl rfl rfl) rfl rfl rfl rfl (beq_t c8) rfl (by kernel_rfl) (by kernel_rfl) (by kernel_rfl) (fun w h => h) ?_
                  refine d_take_on 13 rfl (q_fieldAddr fi29_1 sz25 rfl rfl rfl) rfl rfl rfl rfl (beq_t c8) rfl (by kernel_rfl) (by kernel_rfl) (by kernel_rfl) (fun w h => h) ?_
                  refine d_take_on 14 rfl (q_loadb 11 rfl ag25 rfl rfl rfl) rfl rfl rfl rfl (beq_t c8) rfl (by kernel_rfl) (by kernel_rfl) (by kernel_rfl) (fun w h => h) ?_
                  refine j_fact (fun w hm => (hm.roomI 15 rfl)) (fun k12 => ?_)
                  refine d_take_on 15 rfl (q_lo v4 x1.2.2.2.h c9 un25 sz3 rfl rfl rfl) rfl rfl rfl rfl (beq_t c8) rfl (by kernel_rfl) (by kernel_rfl) (by kernel_rfl) (fun w h => h) ?_
                  refine d_one 16 (by kernel_rfl) ?_
                  refine o_on rfl (a_call ok41 rfl rfl rfl rfl (fun w hm => laws_ccInts.calls K v9 x3.2.2.2.A x3.2.2.2.n x3.2.2.2.c (v4.drop (1:Int).toNat) (cutA x1.2.2.2.A x1.2.2.2.c (1:Int).toNat 1) (v4.drop (1:Int).toNat).length (x1.2.2.2.c - (1:Int).toNat) hm x3.2.2.2.h (Rd.row 10 rfl) rfl (rd_loI (Rd.row 15 rfl) k12 (1:Int).toNat) hb7)) rfl rfl rfl rfl (beq_t c8) rfl (fun x10 w h => h) (fun x10 => ?_)
                  refine d_take 17 rfl (q_pick_t rfl rfl (beq_t c8) rfl) rfl rfl (by kernel_rfl) (by kernel_rfl) (by kernel_rfl) (fun w h => h) ?_
                  refine d_take 18 rfl (q_move rfl rfl) rfl rfl (by kernel_rfl) (by kernel_rfl) (by kernel_rfl) (fun w h => h) ?_
                  refine d_take_off 19 rfl rfl rfl rfl rfl (var_f c10) rfl (by kernel_rfl) (by kernel_rfl) (by kernel_rfl) (fun w h => h) ?_
                  refine d_take_off 20 rfl rfl rfl rfl rfl (var_f c10) rfl (by kernel_rfl) (by kernel_rfl) (by kernel_rfl) (fun w h => h) ?_
                  refine d_take_off 21 rfl rfl rfl rfl rfl (var_f c10) rfl (by kernel_rfl) (by kernel_rfl) (by kernel_rfl) (fun w h => h) ?_
                  refine d_take_off 22 rfl rfl rfl rfl rfl (var_f c10) rfl (by kernel_rfl) (by kernel_rfl) (by kernel_rfl) (fun w h => h) ?_
                  refine d_take 23 rfl (q_pick_f rfl rfl (var_f c10) rfl) rfl rfl (by kernel_rfl) (by kernel_rfl) (by kernel_rfl) (fun w h => h) ?_
                  refine d_take 24 rfl (q_move rfl rfl) rfl rfl (by kernel_rfl) (by kernel_rfl) (by kernel_rfl) (fun w h => h) ?_
                  refine d_take_off 25 rfl rfl rfl rfl rfl rfl rfl (by kernel_rfl) (by kernel_rfl) (by kernel_rfl) (fun w h => h) ?_
                  refine d_take_off 26 rfl rfl rfl rfl rfl rfl rfl (by kernel_rfl) (by kernel_rfl) (by kernel_rfl) (fun w h => h) ?_
                  refine d_take_off 27 rfl rfl rfl rfl rfl rfl rfl (by kernel_rfl) (by kernel_rfl) (by kernel_rfl) (fun w h => h) ?_
                  refine d_take_off 28 rfl rfl rfl rfl rfl rfl rfl (by kernel_rfl) (by kernel_rfl) (by kernel_rfl) (fun w h => h) ?_
                  refine d_take_off 29 rfl rfl rfl rfl rfl rfl rfl (by kernel_rfl) (by kernel_rfl) (by kernel_rfl) (fun w h => h) ?_
                  refine d_take_off 30 rfl rfl rfl rfl rfl rfl rfl (by kernel_rfl) (by kernel_rfl) (by kernel_rfl) (fun w h => h) ?_
                  refine d_take_off 31 rfl rfl rfl rfl rfl rfl rfl (by kernel_rfl) (by kernel_rfl) (by kernel_rfl) (fun w h => h) ?_
                  refine d_take_off 32 rfl rfl rfl rfl rfl rfl rfl (by kernel_rfl) (by kernel_rfl) (by kernel_rfl) (fun w h => h) ?_
                  refine d_take 33 rfl (q_pick_f rfl rfl rfl rfl) rfl rfl (by kernel_rfl) (by kernel_rfl) (by kernel_rfl) (fun w h => h) ?_
                  refine d_take 34 rfl (q_assign rfl rfl) rfl rfl (by kernel_rfl) (by kernel_rfl) (by kernel_rfl) (fun w h => h) ?_
                  refine d_done (by kernel_rfl) ?_
                  refine j_then ?_
                  refine j_ret ?_
                  cases h
                  exact j_return rfl (ResOf.tmp rfl ResOf.nil) rfl (fun w h => ⟨(), rfl, (h.drop 16)⟩)
              · refine j_draw (.row x8.A x8.c 4 1 (bls v19) :: .box x6 29 [(.slice x5.1.A x5.1.n x5.1.c), (.slice x5.2.1.A x5.2.1.n x5.2.1.c), (.slice x5.2.2.1.A x5.2.2.1.n x5.2.2.1.c), (.slice x5.2.2.2.A x5.2.2.2.n x5.2.2.2.c)] :: .row x5.1.A x5.1.c 3 1 (ii v12) :: .row x5.2.1.A x5.2.1.c 3 1 (ii v13) :: .row x5.2.2.1.A x5.2.2.1.c 3 1 (ii v14) :: .row x5.2.2.2.A x5.2.2.2.c 3 1 (ii v15) :: .box x4 29 [(.slice x3.1.A x3.1.n x3.1.c), (.slice x3.2.1.A x3.2.1.n x3.2.1.c), (.slice x3.2.2.1.A x3.2.2.1.n x3.2.2.1.c), (.slice x3.2.2.2.A x3.2.2.2.n x3.2.2.2.c)] :: .row x3.1.A x3.1.c 3 1 (ii v6) :: .row x3.2.1.A x3.2.1.c 3 1 (ii v7) :: .row x3.2.2.1.A x3.2.2.1.c 3 1 (ii v8) :: .row x3.2.2.2.A x3.2.2.2.c 3 1 (ii v9) :: .box x2 29 [(.slice x1.1.A x1.1.n x1.1.c), (.slice x1.2.1.A x1.2.1.n x1.2.1.c), (.slice x1.2.2.1.A x1.2.2.1.n x1.2.2.1.c), (.slice x1.2.2.2.A x1.2.2.2.n x1.2.2.2.c)] :: .row x1.1.A x1.1.c 3 1 (ii v1) :: .row x1.2.1.A x1.2.1.c 3 1 (ii v2) :: .row x1.2.2.1.A x1.2.2.1.c 3 1 (ii v3) :: .row x1.2.2.2.A x1.2.2.2.c 3 1 (ii v4) :: F) 35 follows_any rfl ?_
                refine d_take 0 rfl (q_loadb_agg 6 rfl ag29 sz29 rfl rfl rfl rfl) rfl rfl (by kernel_rfl) (by kernel_rfl) (by kernel_rfl) (fun w h => h) ?_
                refine d_one 1 (by kernel_rfl) ?_
                refine o_do rfl (a_call ok22 rfl rfl rfl rfl (fun w hm => impl_StoreValid.calls K v6 x3.1.A x3.1.n x3.1.c v7 x3.2.1.A x3.2.1.n x3.2.1.c v8 x3.2.2.1.A x3.2.2.1.n x3.2.2.1.c v9 x3.2.2.2.A x3.2.2.2.n x3.2.2.2.c hm x3.1.h (Rd.row 7 rfl) x3.2.1.h (Rd.row 8 rfl) x3.2.2.1.h (Rd.row 9 rfl) x3.2.2.2.h (Rd.row 10 rfl) (hm.roomI 10 rfl) hb6)) rfl rfl (fun x9 w h => h) (fun x9 => ?_)
                refine d_take 2 rfl (q_move rfl rfl) rfl rfl (by kernel_rfl) (by kernel_rfl) (by kernel_rfl) (fun w h => h) ?_
                refine d_take_on 3 rfl (q_move rfl rfl) rfl rfl rfl rfl c6 rfl (by kernel_rfl) (by kernel_rfl) (by kernel_rfl) (fun w h => h) ?_
                refine d_take_on 4 rfl (q_fieldAddr fi29_1 sz25 rfl rfl rfl) rfl rfl rfl rfl c6 rfl (by kernel_rfl) (by kernel_rfl) (by kernel_rfl) (fun w h => h) ?_
                refine d_take_on 5 rfl (q_loadb 11 rfl ag25 rfl rfl rfl) rfl rfl rfl rfl c6 rfl (by kernel_rfl) (by kernel_rfl) (by kernel_rfl) (fun w h => h) ?_
                refine d_take_on 6 rfl (q_ix (Rd.row 15 rfl) (ints_len1 _ v4) (by decide) x1.2.2.2.h c7 un25 sz3 rfl rfl rfl) rfl rfl rfl rfl c6 rfl (by kernel_rfl) (by kernel_rfl) (by kernel_rfl) (fun w h => h) ?_
                refine d_take_on 7 rfl (q_ldI (Rd.row 15 rfl) c7 ag3 rfl rfl) rfl rfl rfl rfl c6 rfl (by kernel_rfl) (by kernel_rfl) (by kernel_rfl) (fun w h => h) ?_
                refine d_take_on 8 rfl (q_eql rfl rfl rfl) rfl rfl rfl rfl c6 rfl (by kernel_rfl) (by kernel_rfl) (by kernel_rfl) (fun w h => h) ?_
                refine d_take 9 rfl (q_pick_t rfl rfl c6 rfl) rfl rfl (by kernel_rfl) (by kernel_rfl) (by kernel_rfl) (fun w h => h) ?_
                refine d_take 10 rfl (q_move rfl rfl) rfl rfl (by kernel_rfl) (by kernel_rfl) (by kernel_rfl) (fun w h => h) ?_
                refine d_take_off 11 rfl rfl rfl rfl rfl (beq_f c8) rfl (by kernel_rfl) (by kernel_rfl) (by kernel_rfl) (fun w h => h) ?_
                refine d_take_off 12 rfl rfl rfl rfl rfl (beq_f c8) rfl (by kernel_rfl) (by kernel_rfl) (by kernel_rfl) (fun w h => h) ?_
                refine d_take_off 13 rfl rfl rfl rfl rfl (beq_f c8) rfl (by kernel_rfl) (by kernel_rfl) (by kernel_rfl) (fun w h => h) ?_
                refine d_take_off 14 rfl rfl rfl rfl rfl (beq_f c8) rfl (by kernel_rfl) (by kernel_rfl) (by kernel_rfl) (fun w h => h) ?_
                refine d_take_off 15 rfl rfl rfl rfl rfl (beq_f c8) rfl (by kernel_rfl) (by kernel_rfl) (by kernel_rfl) (fun w h => h) ?_
                refine d_take_off 16 rfl rfl rfl rfl rfl (beq_f c8) rfl (by kernel_rfl) (by kernel_rfl) (by kernel_rfl) (fun w h => h) ?_
                refine d_take 17 rfl (q_pick_f rfl rfl (beq_f c8) rfl) rfl rfl (by kernel_rfl) (by kernel_rfl) (by kernel_rfl) (fun w h => h) ?_
                refine d_take 18 rfl (q_move rfl rfl) rfl rfl (by kernel_rfl) (by kernel_rfl) (by kernel_rfl) (fun w h => h) ?_
                refine d_take_off 19 rfl rfl rfl rfl rfl rfl rfl (by kernel_rfl) (by kernel_rfl) (by kernel_rfl) (fun w h => h) ?_
                refine d_take_off 20 rfl rfl rfl rfl rfl rfl rfl (by kernel_rfl) (by kernel_rfl) (by kernel_rfl) (fun w h => h) ?_
                refine d_take_off 21 rfl rfl rfl rfl rfl rfl rfl (by kernel_rfl) (by kernel_rfl) (by kernel_rfl) (fun w h => h) ?_
                refine d_take_off 22 rfl rfl rfl rfl rfl rfl rfl (by kernel_rfl) (by kernel_rfl) (by kernel_rfl) (fun w h => h) ?_
                refine d_take 23 rfl (q_pick_f rfl rfl rfl rfl) rfl rfl (by kernel_rfl) (by kernel_rfl) (by kernel_rfl) (fun w h => h) ?_
                refine d_take 24 rfl (q_move rfl rfl) rfl rfl (by kernel_rfl) (by kernel_rfl) (by kernel_rfl) (fun w h => h) ?_
                refine d_take_off 25 rfl rfl rfl rfl rfl rfl rfl (by kernel_rfl) (by kernel_rfl) (by kernel_rfl) (fun w h => h) ?_
                refine d_take_off 26 rfl rfl rfl rfl rfl rfl rfl (by kernel_rfl) (by kernel_rfl) (by kernel_rfl) (fun w h => h) ?_
                refine d_take_off 27 rfl rfl rfl rfl rfl rfl rfl (by kernel_rfl) (by kernel_rfl) (by kernel_rfl) (fun w h => h) ?_
                refine d_take_off 28 rfl rfl rfl rfl rfl rfl rfl (by kernel_rfl) (by kernel_rfl) (by kernel_rfl) (fun w h => h) ?_
                refine d_take_off 29 rfl rfl rfl rfl rfl rfl rfl (by kernel_rfl) (by kernel_rfl) (by kernel_rfl) (fun w h => h) ?_
                refine d_take_off 30 rfl rfl rfl rfl rfl rfl rfl (by kernel_rfl) (by kernel_rfl) (by kernel_rfl) (fun w h => h) ?_
                refine d_take_off 31 rfl rfl rfl rfl rfl rfl rfl (by kernel_rfl) (by kernel_rfl) (by kernel_rfl) (fun w h => h) ?_
                refine d_take_off 32 rfl rfl rfl rfl rfl rfl rfl (by kernel_rfl) (by kernel_rfl) (by kernel_rfl) (fun w h => h) ?_
                refine d_take 33 rfl (q_pick_f rfl rfl rfl rfl) rfl rfl (by kernel_rfl) (by kernel_rfl) (by kernel_rfl) (fun w h => h) ?_
                refine d_take 34 rfl (q_assign rfl rfl) rfl rfl (by kernel_rfl) (by kernel_rfl) (by kernel_rfl) (fun w h => h) ?_
                refine d_done (by kernel_rfl) ?_
                refine j_then ?_
                refine j_ret ?_
                cases h
                exact j_return rfl (ResOf.tmp rfl ResOf.nil) rfl (fun w h => ⟨(), rfl, (h.drop 16)⟩)
            · refine j_draw (.row x8.A x8.c 4 1 (bls v19) :: .box x6 29 [(.slice x5.1.A x5.1.n x5.1.c), (.slice x5.2.1.A x5.2.1.n x5.2.1.c), (.slice x5.2.2.1.A x5.2.2.1.n x5.2.2.1.c), (.slice x5.2.2.2.A x5.2.2.2.n x5.2.2.2.c)] :: .row x5.1.A x5.1.c 3 1 (ii v12) :: .row x5.2.1.A x5.2.1.c 3 1 (ii v13) :: .row x5.2.2.1.A x5.2.2.1.c 3 1 (ii v14) :: .row x5.2.2.2.A x5.2.2.2.c 3 1 (ii v15) :: .box x4 29 [(.slice x3.1.A x3.1.n x3.1.c), (.slice x3.2.1.A x3.2.1.n x3.2.1.c), (.slice x3.2.2.1.A x3.2.2.1.n x3.2.2.1.c), (.slice x3.2.2.2.A x3.2.2.2.n x3.2.2.2.c)] :: .row x3.1.A x3.1.c 3 1 (ii v6) :: .row x3.2.1.A x3.2.1.c 3 1 (ii v7) :: .row x3.2.2.1.A x3.2.2.1.c 3 1 (ii v8) :: .row x3.2.2.2.A x3.2.2.2.c 3 1 (ii v9) :: .box x2 29 [(.slice x1.1.A x1.1.n x1.1.c), (.slice x1.2.1.A x1.2.1.n x1.2.1.c), (.slice x1.2.2.1.A x1.2.2.1.n x1.2.2.1.c), (.slice x1.2.2.2.A x1.2.2.2.n x1.2.2.2.c)] :: .row x1.1.A x1.1.c 3 1 (ii v1) :: .row x1.2.1.A x1.2.1.c 3 1 (ii v2) :: .row x1.2.2.1.A x1.2.2.1.c 3 1 (ii v3) :: .row x1.2.2.2.A x1.2.2.2.c 3 1 (ii v4) :: F) 35 follows_any rfl ?_
              refine d_take 0 rfl (q_loadb_agg 6 rfl ag29 sz29 rfl rfl rfl rfl) rfl rfl (by kernel_rfl) (by kernel_rfl) (by kernel_rfl) (fun w h => h) ?_
              refine d_one 1 (by kernel_rfl) ?_
              refine o_do rfl (a_call ok22 rfl rfl rfl rfl (fun w hm => impl_StoreValid.calls K v6 x3.1.A x3.1.n x3.1.c v7 x3.2.1.A x3.2.1.n x3.2.1.c v8 x3.2.2.1.A x3.2.2.1.n x3.2.2.1.c v9 x3.2.2.2.A x3.2.2.2.n x3.2.2.2.c hm x3.1.h (Rd.row 7 rfl) x3.2.1.h (Rd.row 8 rfl) x3.2.2.1.h (Rd.row 9 rfl) x3.2.2.2.h (Rd.row 10 rfl) (hm.roomI 10 rfl) hb6)) rfl rfl (fun x9 w h => h) (fun x9 => ?_)
              refine d_take 2 rfl (q_move rfl rfl) rfl rfl (by kernel_rfl) (by kernel_rfl) (by kernel_rfl) (fun w h => h) ?_
              refine d_take_off 3 rfl rfl rfl rfl rfl (var_f c6) rfl (by kernel_rfl) (by kernel_rfl) (by kernel_rfl) (fun w h => h) ?_
              refine d_take_off 4 rfl rfl rfl rfl rfl (var_f c6) rfl (by kernel_rfl) (by kernel_rfl) (by kernel_rfl) (fun w h => h) ?_
              refine d_take_off 5 rfl rfl rfl rfl rfl (var_f c6) rfl (by kernel_rfl) (by kernel_rfl) (by kernel_rfl) (fun w h => h) ?_
              refine d_take_off 6 rfl rfl rfl rfl rfl (var_f c6) rfl (by kernel_rfl) (by kernel_rfl) (by kernel_rfl) (fun w h => h) ?_
              refine d_take_off 7 rfl rfl rfl rfl rfl (var_f c6) rfl (by kernel_rfl) (by kernel_rfl) (by kernel_rfl) (fun w h => h) ?_
              refine d_take_off 8 rfl rfl rfl rfl rfl (var_f c6) rfl (by kernel_rfl) (by kernel_rfl) (by kernel_rfl) (fun w h => h) ?_
              refine d_take 9 rfl (q_pick_f rfl rfl (var_f c6) rfl) rfl rfl (by kernel_rfl) (by kernel_rfl) (by kernel_rfl) (fun w h => h) ?_
              refine d_take 10 rfl (q_move rfl rfl) rfl rfl (by kernel_rfl) (by kernel_rfl) (by kernel_rfl) (fun w h => h) ?_
              refine d_take_off 11 rfl rfl rfl rfl rfl rfl rfl (by kernel_rfl) (by kernel_rfl) (by kernel_rfl) (fun w h => h) ?_
              refine d_take_off 12 rfl rfl rfl rfl rfl rfl rfl (by kernel_rfl) (by kernel_rfl) (by kernel_rfl) (fun w h => h) ?_
              refine d_take_off 13 rfl rfl rfl rfl rfl rfl rfl (by kernel_rfl) (by kernel_rfl) (by kernel_rfl) (fun w h => h) ?_
              refine d_take_off 14 rfl rfl rfl rfl rfl rfl rfl (by kernel_rfl) (by kernel_rfl) (by kernel_rfl) (fun w h => h) ?_
              refine d_take_off 15 rfl rfl rfl rfl rfl rfl rfl (by kernel_rfl) (by kernel_rfl) (by kernel_rfl) (fun w h => h) ?_
              refine d_take_off 16 rfl rfl rfl rfl rfl rfl rfl (by kernel_rfl) (by kernel_rfl) (by kernel_rfl) (fun w h => h) ?_
              refine d_take 17 rfl (q_pick_f rfl rfl rfl rfl) rfl rfl (by kernel_rfl) (by kernel_rfl) (by kernel_rfl) (fun w h => h) ?_
              refine d_take 18 rfl (q_move rfl rfl) rfl rfl (by kernel_rfl) (by kernel_rfl) (by kernel_rfl) (fun w h => h) ?_
              refine d_take_off 19 rfl rfl rfl rfl rfl rfl rfl (by kernel_rfl) (by kernel_rfl) (by kernel_rfl) (fun w h => h) ?_
              refine d_take_off 20 rfl rfl rfl rfl rfl rfl rfl (by kernel_rfl) (by kernel_rfl) (by kernel_rfl) (fun w h => h) ?_
              refine d_take_off 21 rfl rfl rfl rfl rfl rfl rfl (by kernel_rfl) (by kernel_rfl) (by kernel_rfl) (fun w h => h) ?_
              refine d_take_off 22 rfl rfl rfl rfl rfl rfl rfl (by kernel_rfl) (by kernel_rfl) (by kernel_rfl) (fun w h => h) ?_
              refine d_take 23 rfl (q_pick_f rfl rfl rfl rfl) rfl rfl (by kernel_rfl) (by kernel_rfl) (by kernel_rfl) (fun w h => h) ?_
              refine d_take 24 rfl (q_move rfl rfl) rfl rfl (by kernel_rfl) (by kernel_rfl) (by kernel_rfl) (fun w h => h) ?_
              refine d_take_off 25 rfl rfl rfl rfl rfl rfl rfl (by kernel_rfl) (by kernel_rfl) (by kernel_rfl) (fun w h => h) ?_
              refine d_take_off 26 rfl rfl rfl rfl rfl rfl rfl (by kernel_rfl) (by kernel_rfl) (by kernel_rfl) (fun w h => h) ?_
              refine d_take_off 27 rfl rfl rfl rfl rfl rfl rfl (by kernel_rfl) (by kernel_rfl) (by kernel_rfl) (fun w h => h) ?_
              refine d_take_off 28 rfl rfl rfl rfl rfl rfl rfl (by kernel_rfl) (by kernel_rfl) (by kernel_rfl) (fun w h => h) ?_
              refine d_take_off 29 rfl rfl rfl rfl rfl rfl rfl (by kernel_rfl) (by kernel_rfl) (by kernel_rfl) (fun w h => h) ?_
              refine d_take_off 30 rfl rfl rfl rfl rfl rfl rfl (by kernel_rfl) (by kernel_rfl) (by kernel_rfl) (fun w h => h) ?_
              refine d_take_off 31 rfl rfl rfl rfl rfl rfl rfl (by kernel_rfl) (by kernel_rfl) (by kernel_rfl) (fun w h => h) ?_
              refine d_take_off 32 rfl rfl rfl rfl rfl rfl rfl (by kernel_rfl) (by kernel_rfl) (by kernel_rfl) (fun w h => h) ?_
              refine d_take 33 rfl (q_pick_f rfl rfl rfl rfl) rfl rfl (by kernel_rfl) (by kernel_rfl) (by kernel_rfl) (fun w h => h) ?_
              refine d_take 34 rfl (q_assign rfl rfl) rfl rfl (by kernel_rfl) (by kernel_rfl) (by kernel_rfl) (fun w h => h) ?_
              refine d_done (by kernel_rfl) ?_
              refine j_then ?_
              refine j_ret ?_
              cases h
              exact j_return rfl (ResOf.tmp rfl ResOf.nil) rfl (fun w h => ⟨(), rfl, (h.drop 16)⟩)
          · refine j_true rfl (not_t (var_f c5)) ?_
            refine j_seq ?_
            refine j_region ?_
            refine r_q (q_loadb_agg 5 rfl ag29 sz29 rfl rfl rfl rfl) rfl rfl ?_
            refine r_q (q_loadb_agg 0 rfl ag29 sz29 rfl rfl rfl rfl) rfl rfl ?_
            obtain ⟨v22, hb8, h⟩ := of_b1 h
            refine r_do (a_call ok18 rfl rfl rfl rfl (fun w hm => impl_StoreSame.calls K v6 x3.1.A x3.1.n x3.1.c v7 x3.2.1.A x3.2.1.n x3.2.1.c v8 x3.2.2.1.A x3.2.2.1.n x3.2.2.1.c v9 x3.2.2.2.A x3.2.2.2.n x3.2.2.2.c v12 x5.1.A x5.1.n x5.1.c v13 x5.2.1.A x5.2.1.n x5.2.1.c v14 x5.2.2.1.A x5.2.2.1.n x5.2.2.1.c v15 x5.2.2.2.A x5.2.2.2.n x5.2.2.2.c hm x3.1.h (Rd.row 6 rfl) x3.2.1.h (Rd.row 7 rfl) x3.2.2.1.h (Rd.row 8 rfl) x3.2.2.2.h (Rd.row 9 rfl) x5.1.h (Rd.row 1 rfl) x5.2.1.h (Rd.row 2 rfl) x5.2.2.1.h (Rd.row 3 rfl) x5.2.2.2.h (Rd.row 4 rfl) hb8)) rfl rfl (fun x11 => ?_)
            refine r_q (q_move rfl rfl) rfl rfl ?_
            rcases of_if h with ⟨c14, h⟩ | ⟨c14, h⟩
            · refine r_qon (q_move rfl rfl) rfl rfl rfl rfl c14 rfl ?_
              refine r_qon (q_move rfl rfl) rfl rfl rfl rfl c14 rfl ?_
              refine r_qon (q_eql rfl rfl rfl) rfl rfl rfl rfl c14 rfl ?_
              refine r_q (q_pick_t rfl rfl c14 rfl) rfl rfl ?_
              refine r_q (q_move rfl rfl) rfl rfl ?_
              refine r_qon (q_move rfl rfl) rfl rfl rfl rfl (beq_t c3) rfl ?_
              refine r_qon (q_move rfl rfl) rfl rfl rfl rfl (beq_t c3) rfl ?_
              refine r_qon (q_beql un4 rfl rfl rfl) rfl rfl rfl rfl (beq_t c3) rfl ?_
              refine r_q (q_pick_t rfl rfl (beq_t c3) rfl) rfl rfl ?_
              refine r_q (q_assign rfl rfl) rfl rfl ?_
              refine r_nil ?_
              refine j_then ?_
              refine j_ret ?_
              refine j_then_ret ?_
              cases h
              exact j_return rfl (ResOf.tmp rfl ResOf.nil) rfl (fun w h => ⟨(), rfl, (h.drop 15)⟩)
            · refine r_off rfl rfl rfl rfl (var_f c14) rfl ?_
              refine r_off rfl rfl rfl rfl (var_f c14) rfl ?_
              refine r_off rfl rfl rfl rfl (var_f c14) rfl ?_
              refine r_q (q_pick_f rfl rfl (var_f c14) rfl) rfl rfl ?_
              refine r_q (q_move rfl rfl) rfl rfl ?_
              refine r_off rfl rfl rfl rfl rfl rfl ?_
              refine r_off rfl rfl rfl rfl rfl rfl ?_
              refine r_off rfl rfl rfl rfl rfl rfl ?_
              refine r_q (q_pick_f rfl rfl rfl rfl) rfl rfl ?_
              refine r_q (q_assign rfl rfl) rfl rfl ?_
              refine r_nil ?_
              refine j_then ?_
              refine j_ret ?_
              refine j_then_ret ?_
              cases h
              exact j_return rfl (ResOf.tmp rfl ResOf.nil) rfl (fun w h => ⟨(), rfl, (h.drop 15)⟩)
        · refine r_off rfl rfl rfl rfl (bne_t c4) rfl ?_
          refine r_off rfl rfl rfl rfl (bne_t c4) rfl ?_
          refine r_q (q_pick_t rfl rfl (bne_t c4) rfl) rfl rfl ?_
          refine r_nil ?_
          refine j_then ?_
          refine j_true rfl rfl ?_
          refine j_seq ?_
          refine j_region ?_
          refine r_q (q_loadb_agg 5 rfl ag29 sz29 rfl rfl rfl rfl) rfl rfl ?_
          refine r_q (q_loadb_agg 0 rfl ag29 sz29 rfl rfl rfl rfl) rfl rfl ?_
          obtain ⟨v23, hb9, h⟩ := of_b1 h
          refine r_do (a_call ok18 rfl rfl rfl rfl (fun w hm => impl_StoreSame.calls K v6 x3.1.A x3.1.n x3.1.c v7 x3.2.1.A x3.2.1.n x3.2.1.c v8 x3.2.2.1.A x3.2.2.1.n x3.2.2.1.c v9 x3.2.2.2.A x3.2.2.2.n x3.2.2.2.c v12 x5.1.A x5.1.n x5.1.c v13 x5.2.1.A x5.2.1.n x5.2.1.c v14 x5.2.2.1.A x5.2.2.1.n x5.2.2.1.c v15 x5.2.2.2.A x5.2.2.2.n x5.2.2.2.c hm x3.1.h (Rd.row 6 rfl) x3.2.1.h (Rd.row 7 rfl) x3.2.2.1.h (Rd.row 8 rfl) x3.2.2.2.h (Rd.row 9 rfl) x5.1.h (Rd.row 1 rfl) x5.2.1.h (Rd.row 2 rfl) x5.2.2.1.h (Rd.row 3 rfl) x5.2.2.2.h (Rd.row 4 rfl) hb9)) rfl rfl (fun x11 => ?_)
          refine r_q (q_move rfl rfl) rfl rfl ?_
          rcases of_if h with ⟨c15, h⟩ | ⟨c15, h⟩
          · refine r_qon (q_move rfl rfl) rfl rfl rfl rfl c15 rfl ?_
            refine r_qon (q_move rfl rfl) rfl rfl rfl rfl c15 rfl ?_
            refine r_qon (q_eql rfl rfl rfl) rfl rfl rfl rfl c15 rfl ?_
            refine r_q (q_pick_t rfl rfl c15 rfl) rfl rfl ?_
            refine r_q (q_move rfl rfl) rfl rfl ?_
            refine r_qon (q_move rfl rfl) rfl rfl rfl rfl (beq_t c3) rfl ?_
            refine r_qon (q_move rfl rfl) rfl rfl rfl rfl (beq_t c3) rfl ?_
            refine r_qon (q_beql un4 rfl rfl rfl) rfl rfl rfl rfl (beq_t c3) rfl ?_
            refine r_q (q_pick_t rfl rfl (beq_t c3) rfl) rfl rfl ?_
            refine r_q (q_assign rfl rfl) rfl rfl ?_
            refine r_nil ?_
            refine j_then ?_
            refine j_ret ?_
            refine j_then_ret ?_
            cases h
            exact j_return rfl (ResOf.tmp rfl ResOf.nil) rfl (fun w h => ⟨(), rfl, (h.drop 15)⟩)
          · refine r_off rfl rfl rfl rfl (var_f c15) rfl ?_
            refine r_off rfl rfl rfl rfl (var_f c15) rfl ?_
            refine r_off rfl rfl rfl rfl (var_f c15) rfl ?_
            refine r_q (q_pick_f rfl rfl (var_f c15) rfl) rfl rfl ?_
            refine r_q (q_move rfl rfl) rfl rfl ?_
            refine r_off rfl rfl rfl rfl rfl rfl ?_
            refine r_off rfl rfl rfl rfl rfl rfl ?_
            refine r_off rfl rfl rfl rfl rfl rfl ?_
            refine r_q (q_pick_f rfl rfl rfl rfl) rfl rfl ?_
            refine r_q (q_assign rfl rfl) rfl rfl ?_
            refine r_nil ?_
            refine j_then ?_
            refine j_ret ?_
            refine j_then_ret ?_
            cases h
            exact j_return rfl (ResOf.tmp rfl ResOf.nil) rfl (fun w h => ⟨(), rfl, (h.drop 15)⟩)
      · refine r_off rfl rfl rfl rfl (bne_t c3) rfl ?_
        refine r_off rfl rfl rfl rfl (bne_t c3) rfl ?_
        refine r_off rfl rfl rfl rfl (bne_t c3) rfl ?_
        refine r_q (q_pick_t rfl rfl (bne_t c3) rfl) rfl rfl ?_
        refine r_q (q_move rfl rfl) rfl rfl ?_
        refine r_off rfl rfl rfl rfl rfl rfl ?_
        refine r_off rfl rfl rfl rfl rfl rfl ?_
        refine r_q (q_pick_t rfl rfl rfl rfl) rfl rfl ?_
        refine r_nil ?_
        refine j_then ?_
        refine j_true rfl rfl ?_
        refine j_seq ?_
        refine j_region ?_
        refine r_q (q_loadb_agg 5 rfl ag29 sz29 rfl rfl rfl rfl) rfl rfl ?_
        refine r_q (q_loadb_agg 0 rfl ag29 sz29 rfl rfl rfl rfl) rfl rfl ?_
        obtain ⟨v24, hb10, h⟩ := of_b1 h
        refine r_do (a_call ok18 rfl rfl rfl rfl (fun w hm => impl_StoreSame.calls K v6 x3.1.A x3.1.n x3.1.c v7 x3.2.1.A x3.2.1.n x3.2.1.c v8 x3.2.2.1.A x3.2.2.1.n x3.2.2.1.c v9 x3.2.2.2.A x3.2.2.2.n x3.2.2.2.c v12 x5.1.A x5.1.n x5.1.c v13 x5.2.1.A x5.2.1.n x5.2.1.c v14 x5.2.2.1.A x5.2.2.1.n x5.2.2.1.c v15 x5.2.2.2.A x5.2.2.2.n x5.2.2.2.c hm x3.1.h (Rd.row 6 rfl) x3.2.1.h (Rd.row 7 rfl) x3.2.2.1.h (Rd.row 8 rfl) x3.2.2.2.h (Rd.row 9 rfl) x5.1.h (Rd.row 1 rfl) x5.2.1.h (Rd.row 2 rfl) x5.2.2.1.h (Rd.row 3 rfl) x5.2.2.2.h (Rd.row 4 rfl) hb10)) rfl rfl (fun x11 => ?_)
        refine r_q (q_move rfl rfl) rfl rfl ?_
        rcases of_if h with ⟨c16, h⟩ | ⟨c16, h⟩
        · refine r_qon (q_move rfl rfl) rfl rfl rfl rfl c16 rfl ?_
          refine r_qon (q_move rfl rfl) rfl rfl rfl rfl c16 rfl ?_
          refine r_qon (q_eql rfl rfl rfl) rfl rfl rfl rfl c16 rfl ?_
          refine r_q (q_pick_t rfl rfl c16 rfl) rfl rfl ?_
          refine r_q (q_move rfl rfl) rfl rfl ?_
          refine r_off rfl rfl rfl rfl (beq_f c3) rfl ?_
          refine r_off rfl rfl rfl rfl (beq_f c3) rfl ?_
          refine r_off rfl rfl rfl rfl (beq_f c3) rfl ?_
          refine r_q (q_pick_f rfl rfl (beq_f c3) rfl) rfl rfl ?_
          refine r_q (q_assign rfl rfl) rfl rfl ?_
          refine r_nil ?_
          refine j_then ?_
          refine j_ret ?_
          refine j_then_ret ?_
          cases h
          exact j_return rfl (ResOf.tmp rfl ResOf.nil) rfl (fun w h => ⟨(), rfl, (h.drop 15)⟩)
        · refine r_off rfl rfl rfl rfl (var_f c16) rfl ?_
          refine r_off rfl rfl rfl rfl (var_f c16) rfl ?_
          refine r_off rfl rfl rfl rfl (var_f c16) rfl ?_
          refine r_q (q_pick_f rfl rfl (var_f c16) rfl) rfl rfl ?_
          refine r_q (q_move rfl rfl) rfl rfl ?_
          refine r_off rfl rfl rfl rfl rfl rfl ?_
          refine r_off rfl rfl rfl rfl rfl rfl ?_
          refine r_off rfl rfl rfl rfl rfl rfl ?_
          refine r_q (q_pick_f rfl rfl rfl rfl) rfl rfl ?_
          refine r_q (q_assign rfl rfl) rfl rfl ?_
          refine r_nil ?_
          refine j_then ?_
          refine j_ret ?_
          refine j_then_ret ?_
          cases h
          exact j_return rfl (ResOf.tmp rfl ResOf.nil) rfl (fun w h => ⟨(), rfl, (h.drop 15)⟩)
    · refine r_off rfl rfl rfl rfl (not_t (var_f c2)) rfl ?_
      refine r_off rfl rfl rfl rfl (not_t (var_f c2)) rfl ?_
      refine r_off rfl rfl rfl rfl (not_t (var_f c2)) rfl ?_
      refine r_q (q_pick_t rfl rfl (not_t (var_f c2)) rfl) rfl rfl ?_
      refine r_q (q_move rfl rfl) rfl rfl ?_
      refine r_off rfl rfl rfl rfl rfl rfl ?_
      refine r_off rfl rfl rfl rfl rfl rfl ?_
      refine r_off rfl rfl rfl rfl rfl rfl ?_
      refine r_q (q_pick_t rfl rfl rfl rfl) rfl rfl ?_
      refine r_q (q_move rfl rfl) rfl rfl ?_
      refine r_off rfl rfl rfl rfl rfl rfl ?_
      refine r_off rfl rfl rfl rfl rfl rfl ?_
      refine r_q (q_pick_t rfl rfl rfl rfl) rfl rfl ?_
      refine r_nil ?_
      refine j_then ?_
      refine j_true rfl rfl ?_
      refine j_seq ?_
      refine j_region ?_
      refine r_q (q_loadb_agg 5 rfl ag29 sz29 rfl rfl rfl rfl) rfl rfl ?_
      refine r_q (q_loadb_agg 0 rfl ag29 sz29 rfl rfl rfl rfl) rfl rfl ?_
      obtain ⟨v25, hb11, h⟩ := of_b1 h
      refine r_do (a_call ok18 rfl rfl rfl rfl (fun w hm => impl_StoreSame.calls K v6 x3.1.A x3.1.n x3.1.c v7 x3.2.1.A x3.2.1.n x3.2.1.c v8 x3.2.2.1.A x3.2.2.1.n x3.2.2.1.c v9 x3.2.2.2.A x3.2.2.2.n x3.2.2.2.c v12 x5.1.A x5.1.n x5.1.c v13 x5.2.1.A x5.2.1.n x5.2.1.c v14 x5.2.2.1.A x5.2.2.1.n x5.2.2.1.c v15 x5.2.2.2.A x5.2.2.2.n x5.2.2.2.c hm x3.1.h (Rd.row 6 rfl) x3.2.1.h (Rd.row 7 rfl) x3.2.2.1.h (Rd.row 8 rfl) x3.2.2.2.h (Rd.row 9 rfl) x5.1.h (Rd.row 1 rfl) x5.2.1.h (Rd.row 2 rfl) x5.2.2.1.h (Rd.row 3 rfl) x5.2.2.2.h (Rd.row 4 rfl) hb11)) rfl rfl (fun x11 => ?_)
      refine r_q (q_move rfl rfl) rfl rfl ?_
      rcases of_if h with ⟨c17, h⟩ | ⟨c17, h⟩
      · refine r_qon (q_move rfl rfl) rfl rfl rfl rfl c17 rfl ?_
        refine r_qon (q_move rfl rfl) rfl rfl rfl rfl c17 rfl ?_
        refine r_qon (q_eql rfl rfl rfl) rfl rfl rfl rfl c17 rfl ?_
        refine r_q (q_pick_t rfl rfl c17 rfl) rfl rfl ?_
        refine r_q (q_move rfl rfl) rfl rfl ?_
        rcases of_if h with ⟨c18, h⟩ | ⟨c18, h⟩
        · refine r_qon (q_move rfl rfl) rfl rfl rfl rfl (beq_t c18) rfl ?_
          refine r_qon (q_move rfl rfl) rfl rfl rfl rfl (beq_t c18) rfl ?_
          refine r_qon (q_beql un4 rfl rfl rfl) rfl rfl rfl rfl (beq_t c18) rfl ?_
          refine r_q (q_pick_t rfl rfl (beq_t c18) rfl) rfl rfl ?_
          refine r_q (q_assign rfl rfl) rfl rfl ?_
          refine r_nil ?_
          refine j_then ?_
          refine j_ret ?_
          refine j_then_ret ?_
          cases h
          exact j_return rfl (ResOf.tmp rfl ResOf.nil) rfl (fun w h => ⟨(), rfl, (h.drop 15)⟩)
        · refine r_off rfl rfl rfl rfl (beq_f c18) rfl ?_
          refine r_off rfl rfl rfl rfl (beq_f c18) rfl ?_
          refine r_off rfl rfl rfl rfl (beq_f c18) rfl ?_
          refine r_q (q_pick_f rfl rfl (beq_f c18) rfl) rfl rfl ?_
          refine r_q (q_assign rfl rfl) rfl rfl ?_
          refine r_nil ?_
          refine j_then ?_
          refine j_ret ?_
          refine j_then_ret ?_
          cases h
          exact j_return rfl (ResOf.tmp rfl ResOf.nil) rfl (fun w h => ⟨(), rfl, (h.drop 15)⟩)
      · refine r_off rfl rfl rfl rfl (var_f c17) rfl ?_
        refine r_off rfl rfl rfl rfl (var_f c17) rfl ?_
        refine r_off rfl rfl rfl rfl (var_f c17) rfl ?_
        refine r_q (q_pick_f rfl rfl (var_f c17) rfl) rfl rfl ?_
        refine r_q (q_move rfl rfl) rfl rfl ?_
        refine r_off rfl rfl rfl rfl rfl rfl ?_
        refine r_off rfl rfl rfl rfl rfl rfl ?_
        refine r_off rfl rfl rfl rfl rfl rfl ?_
        refine r_q (q_pick_f rfl rfl rfl rfl) rfl rfl ?_
        refine r_q (q_assign rfl rfl) rfl rfl ?_
        refine r_nil ?_
        refine j_then ?_
        refine j_ret ?_
        refine j_then_ret ?_
        cases h
        exact j_return rfl (ResOf.tmp rfl ResOf.nil) rfl (fun w h => ⟨(), rfl, (h.drop 15)⟩)

end Go.Proofs.Ytigidjhdcplplaa.F
