/- The program computes these pure functions, printed by the generator of wip/gen. -/
import Derived.Test.YtcdcikmphonkfaaFa
import Derived.Test.YtcdcikmphonkfaaFi
import Derived.Test.YtcdcikmphonkfaaFb
import Derived.Test.YtcdcikmphonkfaaC0
import Derived.Test.YtcdcikmphonkfaaC1
import Derived.Test.YtcdcikmphonkfaaC2
import Derived.Test.YtcdcikmphonkfaaC3
import Derived.Test.YtcdcikmphonkfaaC4
import Derived.Test.YtcdcikmphonkfaaC6
import Derived.Test.YtcdcikmphonkfaaC7
import Derived.Test.YtcdcikmphonkfaaC8
import Derived.Test.YtcdcikmphonkfaaC11
import Derived.Test.YtcdcikmphonkfaaC15
import Derived.Test.YtcdcikmphonkfaaC18
import Derived.Test.YtcdcikmphonkfaaC20
namespace Go.Proofs.Ytcdcikmphonkfaa.F
open Go Go.RowKit Go.Proofs.Ytcdcikmphonkfaa.S
set_option linter.unusedVariables false
set_option maxRecDepth 100000
theorem spec_DrawMarkStep.calls (K : Nat) (a0 : List Int) (a0_A : Option Addr) (a0_n a0_c : Nat) {w0 w : World} {F : List Res} {r1 : List Int} {r2 : List Int} {r3 : List Int} {r4 : List Int} (hm : Mem w0 (F) w) (a0_h : a0.length = a0_n) (a0_R : Rd w0 F a0_A (ints .u8 a0)) (a0_k : a0.length ≤ a0_c) (h : spec_DrawMarkStep.f K a0 = some (r1, r2, r3, r4)) :
    Calls Try.prog 29 (List.toArray [.slice a0_A a0_n a0_c]) w fun e w' => ∃ x : (Sl r1.length) × (Sl r2.length) × (Sl r3.length) × (Sl r4.length), e = .returned (.agg (List.toArray [.slice x.1.A x.1.n x.1.c, .slice x.2.1.A x.2.1.n x.2.1.c, .slice x.2.2.1.A x.2.2.1.n x.2.2.1.c, .slice x.2.2.2.A x.2.2.2.n x.2.2.2.c])) ∧ Mem w0 (.row x.1.A x.1.c 3 1 (ii r1) :: .row x.2.1.A x.2.1.c 3 1 (ii r2) :: .row x.2.2.1.A x.2.2.1.c 3 1 (ii r3) :: .row x.2.2.2.A x.2.2.2.c 3 1 (ii r4) :: F) w' := by
  unfold spec_DrawMarkStep.f at h
  refine calls_of_J (n := 5) Try.func29 rfl rfl rfl hm ?_
  refine j_seq ?_
  refine j_region ?_
  refine r_do (a_alloc zr27 rfl) rfl rfl (fun x1 => ?_)
  refine r_nil ?_
  refine j_then ?_
  refine j_seq ?_
  refine j_region ?_
  refine r_q (q_move rfl rfl) rfl rfl ?_
  obtain ⟨v1, v2, v3, v4, hb1, h⟩ := of_b4 h
  refine r_do (a_call ok53 rfl rfl rfl rfl (fun w hm => spec_l3Case.calls K a0 a0_A a0_n a0_c hm a0_h (Rd.drop 1 a0_R) a0_k hb1)) rfl rfl (fun x2 => ?_)
  refine r_do (a_storeb 4 rfl sz27 rfl rfl rfl rfl (Nat.le_of_ble_eq_true rfl) rfl) rfl rfl (fun _ => ?_)
  refine j_b4 [(.slice x2.1.A x2.1.n x2.1.c), (.slice x2.2.1.A x2.2.1.n x2.2.1.c), (.slice x2.2.2.1.A x2.2.2.1.n x2.2.2.1.c), (.slice x2.2.2.2.A x2.2.2.2.n x2.2.2.2.c)] rfl ?_
  refine r_nil ?_
  refine j_then ?_
  refine j_ret ?_
  cases h
  exact j_return rfl (ResOf.cell 4 rfl rfl ag27 sz27 ResOf.nil) rfl (fun w h => ⟨(⟨x2.1.A, x2.1.n, x2.1.c, x2.1.h⟩, ⟨x2.2.1.A, x2.2.1.n, x2.2.1.c, x2.2.1.h⟩, ⟨x2.2.2.1.A, x2.2.2.1.n, x2.2.2.1.c, x2.2.2.1.h⟩, ⟨x2.2.2.2.A, x2.2.2.2.n, x2.2.2.2.c, x2.2.2.2.h⟩), rfl, h.pick 5 [0, 1, 2, 3] rfl⟩)

theorem laws_FnMarkStep.calls (K : Nat) (a0 : List Int) (a0_A : Option Addr) (a0_n a0_c : Nat) {w0 w : World} {F : List Res} {r1 : Bool} (hm : Mem w0 (F) w) (a0_h : a0.length = a0_n) (a0_R : Rd w0 F a0_A (ints .u8 a0)) (a0_k : a0.length ≤ a0_c) (h : laws_FnMarkStep.f K a0 = some r1) :
    Calls Try.prog 6 (List.toArray [.slice a0_A a0_n a0_c]) w fun e w' => ∃ x : Unit, e = .returned (.bool r1) ∧ Mem w0 (F) w' := by
  unfold laws_FnMarkStep.f at h
  refine calls_of_J (n := 94) Try.func6 rfl rfl rfl hm ?_
  refine j_seq ?_
  refine j_region ?_
  refine r_q (q_assign rfl rfl) rfl rfl ?_
  refine r_nil ?_
  refine j_then ?_
  refine j_seq ?_
  refine j_seq ?_
  refine j_region ?_
  refine r_q (q_move rfl rfl) rfl rfl ?_
  refine r_q (q_lenX a0 a0_h un22 rfl rfl rfl rfl rfl) rfl rfl ?_
  refine r_q (q_gtr rfl rfl rfl) rfl rfl ?_
  refine r_nil ?_
  refine j_then ?_
  rcases of_if h with ⟨c1, h⟩ | ⟨c1, h⟩
  · refine j_true rfl (decide_eq_true c1) ?_
    refine j_seq ?_
    refine j_region ?_
    refine r_q (q_assign rfl rfl) rfl rfl ?_
    refine r_nil ?_
    refine j_then ?_
    refine j_ret ?_
    refine j_then_ret ?_
    cases h
    exact j_return rfl (ResOf.tmp rfl ResOf.nil) rfl (fun w h => ⟨(), rfl, h⟩)
  · refine j_false rfl (decide_eq_false c1) ?_
    refine j_skip ?_
    refine j_then ?_
    refine j_seq ?_
    refine j_region ?_
    refine r_q (q_move rfl rfl) rfl rfl ?_
    obtain ⟨v1, v2, v3, v4, hb1, h⟩ := of_b4 h
    refine r_do (a_call ok29 rfl rfl rfl rfl (fun w hm => spec_DrawMarkStep.calls K a0 a0_A a0_n a0_c hm a0_h a0_R a0_k hb1)) rfl rfl (fun x1 => ?_)
    refine r_do (a_alloc zr27 rfl) rfl rfl (fun x2 => ?_)
    refine r_do (a_storeb 0 rfl sz27 rfl rfl rfl rfl (Nat.le_of_ble_eq_true rfl) rfl) rfl rfl (fun _ => ?_)
    refine j_b0 [(.slice x1.1.A x1.1.n x1.1.c), (.slice x1.2.1.A x1.2.1.n x1.2.1.c), (.slice x1.2.2.1.A x1.2.2.1.n x1.2.2.1.c), (.slice x1.2.2.2.A x1.2.2.2.n x1.2.2.2.c)] rfl ?_
    refine r_nil ?_
    refine j_then ?_
    refine j_seq ?_
    refine j_region ?_
    refine r_q (q_loadb_agg 0 rfl ag27 sz27 rfl rfl rfl rfl) rfl rfl ?_
    obtain ⟨v5, v6, v7, v8, v9, v10, hb2, h⟩ := of_b6 h
    refine r_do (a_call ok23 rfl rfl rfl rfl (fun w hm => impl_MarkStep.calls K v1 x1.1.A x1.1.n x1.1.c v2 x1.2.1.A x1.2.1.n x1.2.1.c v3 x1.2.2.1.A x1.2.2.1.n x1.2.2.1.c v4 x1.2.2.2.A x1.2.2.2.n x1.2.2.2.c hm x1.1.h (Rd.row 1 rfl) x1.2.1.h (Rd.row 2 rfl) x1.2.2.1.h (Rd.row 3 rfl) x1.2.2.2.h (Rd.row 4 rfl) hb2)) rfl rfl (fun x3 => ?_)
    refine r_q (q_move rfl rfl) rfl rfl ?_
    refine r_q (q_extract rfl rfl rfl) rfl rfl ?_
    refine r_q (q_extract rfl rfl rfl) rfl rfl ?_
    refine r_q (q_extract rfl rfl rfl) rfl rfl ?_
    refine r_do (a_alloc zr27 rfl) rfl rfl (fun x4 => ?_)
    refine r_do (a_storeb 0 rfl sz27 rfl rfl rfl rfl (Nat.le_of_ble_eq_true rfl) rfl) rfl rfl (fun _ => ?_)
    refine j_b0 [(.slice x3.1.A x3.1.n x3.1.c), (.slice x3.2.1.A x3.2.1.n x3.2.1.c), (.slice x3.2.2.1.A x3.2.2.1.n x3.2.2.1.c), (.slice x3.2.2.2.A x3.2.2.2.n x3.2.2.2.c)] rfl ?_
    refine r_q (q_assign rfl rfl) rfl rfl ?_
    refine r_q (q_assign rfl rfl) rfl rfl ?_
    refine r_nil ?_
    refine j_then ?_
    refine j_seq ?_
    refine j_region ?_
    refine r_q (q_loadb_agg 5 rfl ag27 sz27 rfl rfl rfl rfl) rfl rfl ?_
    obtain ⟨v11, v12, v13, v14, v15, v16, hb3, h⟩ := of_b6 h
    refine r_do (a_call ok21 rfl rfl rfl rfl (fun w hm => spec_MarkStep.calls K v1 x1.1.A x1.1.n x1.1.c v2 x1.2.1.A x1.2.1.n x1.2.1.c v3 x1.2.2.1.A x1.2.2.1.n x1.2.2.1.c v4 x1.2.2.2.A x1.2.2.2.n x1.2.2.2.c hm x1.1.h (Rd.row 6 rfl) x1.2.1.h (Rd.row 7 rfl) x1.2.2.1.h (Rd.row 8 rfl) x1.2.2.2.h (Rd.row 9 rfl) hb3)) rfl rfl (fun x5 => ?_)
    refine r_q (q_move rfl rfl) rfl rfl ?_
    refine r_q (q_extract rfl rfl rfl) rfl rfl ?_
    refine r_q (q_extract rfl rfl rfl) rfl rfl ?_
    refine r_q (q_extract rfl rfl rfl) rfl rfl ?_
    refine r_do (a_alloc zr27 rfl) rfl rfl (fun x6 => ?_)
    refine r_do (a_storeb 0 rfl sz27 rfl rfl rfl rfl (Nat.le_of_ble_eq_true rfl) rfl) rfl rfl (fun _ => ?_)
    refine j_b0 [(.slice x5.1.A x5.1.n x5.1.c), (.slice x5.2.1.A x5.2.1.n x5.2.1.c), (.slice x5.2.2.1.A x5.2.2.1.n x5.2.2.1.c), (.slice x5.2.2.2.A x5.2.2.2.n x5.2.2.2.c)] rfl ?_
    refine r_q (q_assign rfl rfl) rfl rfl ?_
    refine r_q (q_assign rfl rfl) rfl rfl ?_
    refine r_nil ?_
    refine j_then ?_
    refine j_seq ?_
    refine j_seq ?_
    refine j_region ?_
    refine r_q (q_loadb_agg 5 rfl ag27 sz27 rfl rfl rfl rfl) rfl rfl ?_
    refine r_q (q_loadb_agg 0 rfl ag27 sz27 rfl rfl rfl rfl) rfl rfl ?_
    obtain ⟨v17, hb4, h⟩ := of_b1 h
    refine r_do (a_call ok18 rfl rfl rfl rfl (fun w hm => impl_ColoredSame.calls K v5 x3.1.A x3.1.n x3.1.c v6 x3.2.1.A x3.2.1.n x3.2.1.c v7 x3.2.2.1.A x3.2.2.1.n x3.2.2.1.c v8 x3.2.2.2.A x3.2.2.2.n x3.2.2.2.c v11 x5.1.A x5.1.n x5.1.c v12 x5.2.1.A x5.2.1.n x5.2.1.c v13 x5.2.2.1.A x5.2.2.1.n x5.2.2.1.c v14 x5.2.2.2.A x5.2.2.2.n x5.2.2.2.c hm x3.1.h (Rd.row 6 rfl) x3.2.1.h (Rd.row 7 rfl) x3.2.2.1.h (Rd.row 8 rfl) x3.2.2.2.h (Rd.row 9 rfl) x5.1.h (Rd.row 1 rfl) x5.2.1.h (Rd.row 2 rfl) x5.2.2.1.h (Rd.row 3 rfl) x5.2.2.2.h (Rd.row 4 rfl) hb4)) rfl rfl (fun x7 => ?_)
    refine r_q (q_not rfl rfl) rfl rfl ?_
    refine r_q (q_move rfl rfl) rfl rfl ?_
    rcases of_if h with ⟨c2, h⟩ | ⟨c2, h⟩
    · refine r_qon (q_move rfl rfl) rfl rfl rfl rfl (not_f c2) rfl ?_
      refine r_qon (q_move rfl rfl) rfl rfl rfl rfl (not_f c2) rfl ?_
      refine r_qon (q_bneq un4 rfl rfl rfl) rfl rfl rfl rfl (not_f c2) rfl ?_
      refine r_q (q_pick_f rfl rfl (not_f c2) rfl) rfl rfl ?_
      refine r_q (q_move rfl rfl) rfl rfl ?_
      rcases of_if h with ⟨c3, h⟩ | ⟨c3, h⟩
      · refine r_qon (q_move rfl rfl) rfl rfl rfl rfl (bne_f c3) rfl ?_
        refine r_qon (q_move rfl rfl) rfl rfl rfl rfl (bne_f c3) rfl ?_
        refine r_qon (q_bneq un4 rfl rfl rfl) rfl rfl rfl rfl (bne_f c3) rfl ?_
        refine r_q (q_pick_f rfl rfl (bne_f c3) rfl) rfl rfl ?_
        refine r_q (q_move rfl rfl) rfl rfl ?_
        rcases of_if h with ⟨c4, h⟩ | ⟨c4, h⟩
        · refine r_qon (q_move rfl rfl) rfl rfl rfl rfl (bne_f c4) rfl ?_
          refine r_qon (q_not rfl rfl) rfl rfl rfl rfl (bne_f c4) rfl ?_
          refine r_q (q_pick_f rfl rfl (bne_f c4) rfl) rfl rfl ?_
          refine r_nil ?_
          refine j_then ?_
          rcases of_if h with ⟨c5, h⟩ | ⟨c5, h⟩
          · refine j_false rfl (not_f c5) ?_
            refine j_skip ?_
            refine j_then ?_
            refine j_seq ?_
            refine j_seq ?_
            refine j_region ?_
            refine r_q (q_move rfl rfl) rfl rfl ?_
            refine r_q (q_not rfl rfl) rfl rfl ?_
            refine r_nil ?_
            refine j_then ?_
            rcases of_if h with ⟨c6, h⟩ | ⟨c6, h⟩
            · refine j_false rfl (not_f c6) ?_
              refine j_skip ?_
              refine j_then ?_
              refine j_seq ?_
              obtain ⟨v18, hb5, h⟩ := of_b1 h
              rcases of_if h with ⟨c7, h⟩ | ⟨c7, h⟩
              · obtain ⟨v19, hb6, h⟩ := of_b1 h
                obtain ⟨v20, hb7, h⟩ := of_b1 h
                rcases of_if h with ⟨c8, h⟩ | ⟨c8, h⟩
                · obtain ⟨v21, hb8, h⟩ := of_b1 h
                  obtain ⟨v22, hb9, h⟩ := of_b1 h
                  rcases of_if h with ⟨c9, h⟩ | ⟨c9, h⟩
                  · obtain ⟨v23, hb10, h⟩ := of_b1 h
                    rcases of_if h with ⟨c10, h⟩ | ⟨c10, h⟩
                    · obtain ⟨v24, hb11, h⟩ := of_b1 h
                      refine j_draw (.box x6 27 [(.slice x5.1.A x5.1.n x5.1.c), (.slice x5.2.1.A x5.2.1.n x5.2.1.c), (.slice x5.2.2.1.A x5.2.2.1.n x5.2.2.1.c), (.slice x5.2.2.2.A x5.2.2.2.n x5.2.2.2.c)] :: .row x5.1.A x5.1.c 3 1 (ii v11) :: .row x5.2.1.A x5.2.1.c 3 1 (ii v12) :: .row x5.2.2.1.A x5.2.2.1.c 3 1 (ii v13) :: .row x5.2.2.2.A x5.2.2.2.c 3 1 (ii v14) :: .box x4 27 [(.slice x3.1.A x3.1.n x3.1.c), (.slice x3.2.1.A x3.2.1.n x3.2.1.c), (.slice x3.2.2.1.A x3.2.2.1.n x3.2.2.1.c), (.slice x3.2.2.2.A x3.2.2.2.n x3.2.2.2.c)] :: .row x3.1.A x3.1.c 3 1 (ii v5) :: .row x3.2.1.A x3.2.1.c 3 1 (ii v6) :: .row x3.2.2.1.A x3.2.2.1.c 3 1 (ii v7) :: .row x3.2.2.2.A x3.2.2.2.c 3 1 (ii v8) :: .box x2 27 [(.slice x1.1.A x1.1.n x1.1.c), (.slice x1.2.1.A x1.2.1.n x1.2.1.c), (.slice x1.2.2.1.A x1.2.2.1.n x1.2.2.1.c), (.slice x1.2.2.2.A x1.2.2.2.n x1.2.2.2.c)] :: .row x1.1.A x1.1.c 3 1 (ii v1) :: .row x1.2.1.A x1.2.1.c 3 1 (ii v2) :: .row x1.2.2.1.A x1.2.2.1.c 3 1 (ii v3) :: .row x1.2.2.2.A x1.2.2.2.c 3 1 (ii v4) :: F) 27 follows_any rfl ?_
                      refine d_take 0 rfl (q_loadb_agg 5 rfl ag27 sz27 rfl rfl rfl rfl) rfl rfl (by kernel_rfl) (by kernel_rfl) (by kernel_rfl) (fun w h => h) ?_
                      refine d_one 1 (by kernel_rfl) ?_
                      refine o_do rfl (a_call ok30 rfl rfl rfl rfl (fun w hm => impl_ColoredValid.calls K v5 x3.1.A x3.1.n x3.1.c v6 x3.2.1.A x3.2.1.n x3.2.1.c v7 x3.2.2.1.A x3.2.2.1.n x3.2.2.1.c v8 x3.2.2.2.A x3.2.2.2.n x3.2.2.2.c hm x3.1.h (Rd.row 6 rfl) x3.2.1.h (Rd.row 7 rfl) x3.2.2.1.h (Rd.row 8 rfl) x3.2.2.2.h (Rd.row 9 rfl) hb5)) rfl rfl (fun x8 w h => h) (fun x8 => ?_)
                      refine d_take 2 rfl (q_move rfl rfl) rfl rfl (by kernel_rfl) (by kernel_rfl) (by kernel_rfl) (fun w h => h) ?_
                      refine d_take_on 3 rfl (q_loadb_agg 5 rfl ag27 sz27 rfl rfl rfl rfl) rfl rfl rfl rfl c7 rfl (by kernel_rfl) (by kernel_rfl) (by kernel_rfl) (fun w h => h) ?_
                      refine d_take_on 5 rfl (q_loadb_agg 10 rfl ag27 sz27 rfl rfl rfl rfl) rfl rfl rfl rfl c7 rfl (by kernel_rfl) (by kernel_rfl) (by kernel_rfl) (fun w h => h) ?_
                      refine d_one 4 (by kernel_rfl) ?_
                      refine o_on rfl (a_call ok19 rfl rfl rfl rfl (fun w hm => impl_CountColor.calls K v5 x3.1.A x3.1.n x3.1.c v6 x3.2.1.A x3.2.1.n x3.2.1.c v7 x3.2.2.1.A x3.2.2.1.n x3.2.2.1.c v8 x3.2.2.2.A x3.2.2.2.n x3.2.2.2.c (2:Int) hm x3.1.h (Rd.row 6 rfl) x3.2.1.h (Rd.row 7 rfl) x3.2.2.1.h (Rd.row 8 rfl) x3.2.2.2.h (Rd.row 9 rfl) hb6)) rfl rfl rfl rfl c7 rfl (fun x9 w h => h) (fun x9 => ?_)
                      refine d_one 6 (by kernel_rfl) ?_
                      refine o_on rfl (a_call ok19 rfl rfl rfl rfl (fun w hm => impl_CountColor.calls K v1 x1.1.A x1.1.n x1.1.c v2 x1.2.1.A x1.2.1.n x1.2.1.c v3 x1.2.2.1.A x1.2.2.1.n x1.2.2.1.c v4 x1.2.2.2.A x1.2.2.2.n x1.2.2.2.c (2:Int) hm x1.1.h (Rd.row 11 rfl) x1.2.1.h (Rd.row 12 rfl) x1.2.2.1.h (Rd.row 13 rfl) x1.2.2.2.h (Rd.row 14 rfl) hb7)) rfl rfl rfl rfl c7 rfl (fun x10 w h => h) (fun x10 => ?_)
                      refine d_take_on 7 rfl (q_add rfl rfl rfl) rfl rfl rfl rfl c7 rfl (by kernel_rfl) (by kernel_rfl) (by kernel_rfl) (fun w h => h) ?_
                      refine d_take_on 8 rfl (q_eql rfl rfl rfl) rfl rfl rfl rfl c7 rfl (by kernel_rfl) (by kernel_rfl) (by kernel_rfl) (fun w h => h) ?_
                      refine d_take 9 rfl (q_pick_t rfl rfl c7 rfl) rfl rfl (by kernel_rfl) (by kernel_rfl) (by kernel_rfl) (fun w h => h) ?_
                      refine d_take 10 rfl (q_move rfl rfl) rfl rfl (by kernel_rfl) (by kernel_rfl) (by kernel_rfl) (fun w h => h) ?_
                      refine d_take_on 11 rfl (q_loadb_agg 5 rfl ag27 sz27 rfl rfl rfl rfl) rfl rfl rfl rfl (beq_t c8) rfl (by kernel_rfl) (by kernel_rfl) (by kernel_rfl) (fun w h => h) ?_
                      refine d_take_on 13 rfl (q_loadb_agg 10 rfl ag27 sz27 rfl rfl rfl rfl) rfl rfl rfl rfl (beq_t c8) rfl (by kernel_rfl) (by kernel_rfl) (by kernel_rfl) (fun w h => h) ?_
                      refine d_one 12 (by kernel_rfl) ?_
                      refine o_on rfl (a_call ok19 rfl rfl rfl rfl (fun w hm => impl_CountColor.calls K v5 x3.1.A x3.1.n x3.1.c v6 x3.2.1.A x3.2.1.n x3.2.1.c v7 x3.2.2.1.A x3.2.2.1.n x3.2.2.1.c v8 x3.2.2.2.A x3.2.2.2.n x3.2.2.2.c (0:Int) hm x3.1.h (Rd.row 6 rfl) x3.2.1.h (Rd.row 7 rfl) x3.2.2.1.h (Rd.row 8 rfl) x3.2.2.2.h (Rd.row 9 rfl) hb8)) rfl rfl rfl rfl (beq_t c8) rfl (fun x11 w h => h) (fun x11 => ?_)
                      refine d_one 14 (by kernel_rfl) ?_
                      refine o_on rfl (a_call ok19 rfl rfl rfl rfl (fun w hm => impl_CountColor.calls K v1 x1.1.A x1.1.n x1.1.c v2 x1.2.1.A x1.2.1.n x1.2.1.c v3 x1.2.2.1.A x1.2.2.1.n x1.2.2.1.c v4 x1.2.2.2.A x1.2.2.2.n x1.2.2.2.c (0:Int) hm x1.1.h (Rd.row 11 rfl) x1.2.1.h (Rd.row 12 rfl) x1.2.2.1.h (Rd.row 13 rfl) x1.2.2.2.h (Rd.row 14 rfl) hb9)) rfl rfl rfl rfl (beq_t c8) rfl (fun x12 w h => h) (fun x12 => ?_)
                      refine d_take_on 15 rfl (q_leq rfl rfl rfl) rfl rfl rfl rfl (beq_t c8) rfl (by kernel_rfl) (by kernel_rfl) (by kernel_rfl) (fun w h => h) ?_
                      refine d_take 16 rfl (q_pick_t rfl rfl (beq_t c8) rfl) rfl rfl (by kernel_rfl) (by kernel_rfl) (by kernel_rfl) (fun w h => h) ?_
                      refine d_take 17 rfl (q_move rfl rfl) rfl rfl (by kernel_rfl) (by kernel_rfl) (by kernel_rfl) (fun w h => h) ?_
                      refine d_take_on 18 rfl (q_loadb_agg 10 rfl ag27 sz27 rfl rfl rfl rfl) rfl rfl rfl rfl (decide_eq_true c9) rfl (by kernel_rfl) (by kernel_rfl) (by kernel_rfl) (fun w h => h) ?_
                      refine d_one 19 (by kernel_rfl) ?_
                      refine o_on rfl (a_call ok31 rfl rfl rfl rfl (fun w hm => impl_ColorHolds.calls K v1 x1.1.A x1.1.n x1.1.c v2 x1.2.1.A x1.2.1.n x1.2.1.c v3 x1.2.2.1.A x1.2.2.1.n x1.2.2.1.c v4 x1.2.2.2.A x1.2.2.2.n x1.2.2.2.c hm x1.1.h (Rd.row 11 rfl) x1.2.1.h (Rd.row 12 rfl) x1.2.2.1.h (Rd.row 13 rfl) x1.2.2.2.h (Rd.row 14 rfl) hb10)) rfl rfl rfl rfl (decide_eq_true c9) rfl (fun x13 w h => h) (fun x13 => ?_)
                      refine d_take_on 20 rfl (q_not rfl rfl) rfl rfl rfl rfl (decide_eq_true c9) rfl (by kernel_rfl) (by kernel_rfl) (by kernel_rfl) (fun w h => h) ?_
                      refine d_take_on 21 rfl (q_move rfl rfl) rfl rfl rfl rfl (decide_eq_true c9) rfl (by kernel_rfl) (by kernel_rfl) (by kernel_rfl) (fun w h => h) ?_
                      refine d_take_on 22 rfl (q_loadb_agg 5 rfl ag27 sz27 rfl rfl rfl rfl) rfl rfl rfl rfl (not_f c10) rfl (by kernel_rfl) (by kernel_rfl) (by kernel_rfl) (fun w h => h) ?_
                      refine d_one 23 (by kernel_rfl) ?_
                      refine o_on rfl (a_call ok31 rfl rfl rfl rfl (fun w hm => impl_ColorHolds.calls K v5 x3.1.A x3.1.n x3.1.c v6 x3.2.1.A x3.2.1.n x3.2.1.c v7 x3.2.2.1.A x3.2.2.1.n x3.2.2.1.c v8 x3.2.2.2.A x3.2.2.2.n x3.2.2.2.c hm x3.1.h (Rd.row 6 rfl) x3.2.1.h (Rd.row 7 rfl) x3.2.2.1.h (Rd.row 8 rfl) x3.2.2.2.h (Rd.row 9 rfl) hb11)) rfl rfl rfl rfl (not_f c10) rfl (fun x14 w h => h) (fun x14 => ?_)
                      refine d_take_on 24 rfl (q_pick_f rfl rfl (not_f c10) rfl) rfl rfl rfl rfl (decide_eq_true c9) rfl (by kernel_rfl) (by kernel_rfl) (by kernel_rfl) (fun w h => h) ?_
                      refine d_take 25 rfl (q_pick_t rfl rfl (decide_eq_true c9) rfl) rfl rfl (by kernel_rfl) (by kernel_rfl) (by kernel_rfl) (fun w h => h) ?_
                      refine d_take 26 rfl (q_assign rfl rfl) rfl rfl (by kernel_rfl) (by kernel_rfl) (by kernel_rfl) (fun w h => h) ?_
                      refine d_done (by kernel_rfl) ?_
                      refine j_then ?_
                      refine j_ret ?_
                      cases h
                      exact j_return rfl (ResOf.tmp rfl ResOf.nil) rfl (fun w h => ⟨(), rfl, (h.drop 15)⟩)
                    · refine j_draw (.box x6 27 [(.slice x5.1.A x5.1.n x5.1.c), (.slice x5.2.1.A x5.2.1.n x5.2.1.c), (.slice x5.2.2.1.A x5.2.2.1.n x5.2.2.1.c), (.slice x5.2.2.2.A x5.2.2.2.n x5.2.2.2.c)] :: .row x5.1.A x5.1.c 3 1 (ii v11) :: .row x5.2.1.A x5.2.1.c 3 1 (ii v12) :: .row x5.2.2.1.A x5.2.2.1.c 3 1 (ii v13) :: .row x5.2.2.2.A x5.2.2.2.c 3 1 (ii v14) :: .box x4 27 [(.slice x3.1.A x3.1.n x3.1.c), (.slice x3.2.1.A x3.2.1.n x3.2.1.c), (.slice x3.2.2.1.A x3.2.2.1.n x3.2.2.1.c), (.slice x3.2.2.2.A x3.2.2.2.n x3.2.2.2.c)] :: .row x3.1.A x3.1.c 3 1 (ii v5) :: .row x3.2.1.A x3.2.1.c 3 1 (ii v6) :: .row x3.2.2.1.A x3.2.2.1.c 3 1 (ii v7) :: .row x3.2.2.2.A x3.2.2.2.c 3 1 (ii v8) :: .box x2 27 [(.slice x1.1.A x1.1.n x1.1.c), (.slice x1.2.1.A x1.2.1.n x1.2.1.c), (.slice x1.2.2.1.A x1.2.2.1.n x1.2.2.1.c), (.slice x1.2.2.2.A x1.2.2.2.n x1.2.2.2.c)] :: .row x1.1.A x1.1.c 3 1 (ii v1) :: .row x1.2.1.A x1.2.1.c 3 1 (ii v2) :: .row x1.2.2.1.A x1.2.2.1.c 3 1 (ii v3) :: .row x1.2.2.2.A x1.2.2.2.c 3 1 (ii v4) :: F) 27 follows_any rfl ?_
                      refine d_take 0 rfl (q_loadb_agg 5 rfl ag27 sz27 rfl rfl rfl rfl) rfl rfl (by kernel_rfl) (by kernel_rfl) (by kernel_rfl) (fun w h => h) ?_
                      refine d_one 1 (by kernel_rfl) ?_
                      refine o_do rfl (a_call ok30 rfl rfl rfl rfl (fun w hm => impl_ColoredValid.calls K v5 x3.1.A x3.1.n x3.1.c v6 x3.2.1.A x3.2.1.n x3.2.1.c v7 x3.2.2.1.A x3.2.2.1.n x3.2.2.1.c v8 x3.2.2.2.A x3.2.2.2.n x3.2.2.2.c hm x3.1.h (Rd.row 6 rfl) x3.2.1.h (Rd.row 7 rfl) x3.2.2.1.h (Rd.row 8 rfl) x3.2.2.2.h (Rd.row 9 rfl) hb5)) rfl rfl (fun x8 w h => h) (fun x8 => ?_)
                      refine d_take 2 rfl (q_move rfl rfl) rfl rfl (by kernel_rfl) (by kernel_rfl) (by kernel_rfl) (fun w h => h) ?_
                      refine d_take_on 3 rfl (q_loadb_agg 5 rfl ag27 sz27 rfl rfl rfl rfl) rfl rfl rfl rfl c7 rfl (by kernel_rfl) (by kernel_rfl) (by kernel_rfl) (fun w h => h) ?_
                      refine d_take_on 5 rfl (q_loadb_agg 10 rfl ag27 sz27 rfl rfl rfl rfl) rfl rfl rfl rfl c7 rfl (by kernel_rfl) (by kernel_rfl) (by kernel_rfl) (fun w h => h) ?_
                      refine d_one 4 (by kernel_rfl) ?_
                      refine o_on rfl (a_call ok19 rfl rfl rfl rfl (fun w hm => impl_CountColor.calls K v5 x3.1.A x3.1.n x3.1.c v6 x3.2.1.A x3.2.1.n x3.2.1.c v7 x3.2.2.1.A x3.2.2.1.n x3.2.2.1.c v8 x3.2.2.2.A x3.2.2.2.n x3.2.2.2.c (2:Int) hm x3.1.h (Rd.row 6 rfl) x3.2.1.h (Rd.row 7 rfl) x3.2.2.1.h (Rd.row 8 rfl) x3.2.2.2.h (Rd.row 9 rfl) hb6)) rfl rfl rfl rfl c7 rfl (fun x9 w h => h) (fun x9 => ?_)
                      refine d_one 6 (by kernel_rfl) ?_
                      refine o_on rfl (a_call ok19 rfl rfl rfl rfl (fun w hm => impl_CountColor.calls K v1 x1.1.A x1.1.n x1.1.c v2 x1.2.1.A x1.2.1.n x1.2.1.c v3 x1.2.2.1.A x1.2.2.1.n x1.2.2.1.c v4 x1.2.2.2.A x1.2.2.2.n x1.2.2.2.c (2:Int) hm x1.1.h (Rd.row 11 rfl) x1.2.1.h (Rd.row 12 rfl) x1.2.2.1.h (Rd.row 13 rfl) x1.2.2.2.h (Rd.row 14 rfl) hb7)) rfl rfl rfl rfl c7 rfl (fun x10 w h => h) (fun x10 => ?_)
                      refine d_take_on 7 rfl (q_add rfl rfl rfl) rfl rfl rfl rfl c7 rfl (by kernel_rfl) (by kernel_rfl) (by kernel_rfl) (fun w h => h) ?_
                      refine d_take_on 8 rfl (q_eql rfl rfl rfl) rfl rfl rfl rfl c7 rfl (by kernel_rfl) (by kernel_rfl) (by kernel_rfl) (fun w h => h) ?_
                      refine d_take 9 rfl (q_pick_t rfl rfl c7 rfl) rfl rfl (by kernel_rfl) (by kernel_rfl) (by kernel_rfl) (fun w h => h) ?_
                      refine d_take 10 rfl (q_move rfl rfl) rfl rfl (by kernel_rfl) (by kernel_rfl) (by kernel_rfl) (fun w h => h) ?_
                      refine d_take_on 11 rfl (q_loadb_agg 5 rfl ag27 sz27 rfl rfl rfl rfl) rfl rfl rfl rfl (beq_t c8) rfl (by kernel_rfl) (by kernel_rfl) (by kernel_rfl) (fun w h => h) ?_
                      refine d_take_on 13 rfl (q_loadb_agg 10 rfl ag27 sz27 rfl rfl rfl rfl) rfl rfl rfl rfl (beq_t c8) rfl (by kernel_rfl) (by kernel_rfl) (by kernel_rfl) (fun w h => h) ?_
                      refine d_one 12 (by kernel_rfl) ?_
                      refine o_on rfl (a_call ok19 rfl rfl rfl rfl (fun w hm => impl_CountColor.calls K v5 x3.1.A x3.1.n x3.1.c v6 x3.2.1.A x3.2.1.n x3.2.1.c v7 x3.2.2.1.A x3.2.2.1.n x3.2.2.1.c v8 x3.2.2.2.A x3.2.2.2.n x3.2.2.2.c (0:Int) hm x3.1.h (Rd.row 6 rfl) x3.2.1.h (Rd.row 7 rfl) x3.2.2.1.h (Rd.row 8 rfl) x3.2.2.2.h (Rd.row 9 rfl) hb8)) rfl rfl rfl rfl (beq_t c8) rfl (fun x11 w h => h) (fun x11 => ?_)
                      refine d_one 14 (by kernel_rfl) ?_
                      refine o_on rfl (a_call ok19 rfl rfl rfl rfl (fun w hm => impl_CountColor.calls K v1 x1.1.A x1.1.n x1.1.c v2 x1.2.1.A x1.2.1.n x1.2.1.c v3 x1.2.2.1.A x1.2.2.1.n x1.2.2.1.c v4 x1.2.2.2.A x1.2.2.2.n x1.2.2.2.c (0:Int) hm x1.1.h (Rd.row 11 rfl) x1.2.1.h (Rd.row 12 rfl) x1.2.2.1.h (Rd.row 13 rfl) x1.2.2.2.h (Rd.row 14 rfl) hb9)) rfl rfl rfl rfl (beq_t c8) rfl (fun x12 w h => h) (fun x12 => ?_)
                      refine d_take_on 15 rfl (q_leq rfl rfl rfl) rfl rfl rfl rfl (beq_t c8) rfl (by kernel_rfl) (by kernel_rfl) (by kernel_rfl) (fun w h => h) ?_
                      refine d_take 16 rfl (q_pick_t rfl rfl (beq_t c8) rfl) rfl rfl (by kernel_rfl) (by kernel_rfl) (by kernel_rfl) (fun w h => h) ?_
                      refine d_take 17 rfl (q_move rfl rfl) rfl rfl (by kernel_rfl) (by kernel_rfl) (by kernel_rfl) (fun w h => h) ?_
                      refine d_take_on 18 rfl (q_loadb_agg 10 rfl ag27 sz27 rfl rfl rfl rfl) rfl rfl rfl rfl (decide_eq_true c9) rfl (by kernel_rfl) (by kernel_rfl) (by kernel_rfl) (fun w h => h) ?_
                      refine d_one 19 (by kernel_rfl) ?_
                      refine o_on rfl (a_call ok31 rfl rfl rfl rfl (fun w hm => impl_ColorHolds.calls K v1 x1.1.A x1.1.n x1.1.c v2 x1.2.1.A x1.2.1.n x1.2.1.c v3 x1.2.2.1.A x1.2.2.1.n x1.2.2.1.c v4 x1.2.2.2.A x1.2.2.2.n x1.2.2.2.c hm x1.1.h (Rd.row 11 rfl) x1.2.1.h (Rd.row 12 rfl) x1.2.2.1.h (Rd.row 13 rfl) x1.2.2.2.h (Rd.row 14 rfl) hb10)) rfl rfl rfl rfl (decide_eq_true c9) rfl (fun x13 w h => h) (fun x13 => ?_)
                      refine d_take_on 20 rfl (q_not rfl rfl) rfl rfl rfl rfl (decide_eq_true c9) rfl (by kernel_rfl) (by kernel_rfl) (by kernel_rfl) (fun w h => h) ?_
                      refine d_take_on 21 rfl (q_move rfl rfl) rfl rfl rfl rfl (decide_eq_true c9) rfl (by kernel_rfl) (by kernel_rfl) (by kernel_rfl) (fun w h => h) ?_
                      refine d_take_off 22 rfl rfl rfl rfl rfl (not_t (var_f c10)) rfl (by kernel_rfl) (by kernel_rfl) (by kernel_rfl) (fun w h => h) ?_
                      refine d_take_off 23 rfl rfl rfl rfl rfl (not_t (var_f c10)) rfl (by kernel_rfl) (by kernel_rfl) (by kernel_rfl) (fun w h => h) ?_
                      refine d_take_on 24 rfl (q_pick_t rfl rfl (not_t (var_f c10)) rfl) rfl rfl rfl rfl (decide_eq_true c9) rfl (by kernel_rfl) (by kernel_rfl) (by kernel_rfl) (fun w h => h) ?_
                      refine d_take 25 rfl (q_pick_t rfl rfl (decide_eq_true c9) rfl) rfl rfl (by kernel_rfl) (by kernel_rfl) (by kernel_rfl) (fun w h => h) ?_
                      refine d_take 26 rfl (q_assign rfl rfl) rfl rfl (by kernel_rfl) (by kernel_rfl) (by kernel_rfl) (fun w h => h) ?_
                      refine d_done (by kernel_rfl) ?_
                      refine j_then ?_
                      refine j_ret ?_
                      cases h
                      exact j_return rfl (ResOf.tmp rfl ResOf.nil) rfl (fun w h => ⟨(), rfl, (h.drop 15)⟩)
                  · refine j_draw (.box x6 27 [(.slice x5.1.A x5.1.n x5.1.c), (.slice x5.2.1.A x5.2.1.n x5.2.1.c), (.slice x5.2.2.1.A x5.2.2.1.n x5.2.2.1.c), (.slice x5.2.2.2.A x5.2.2.2.n x5.2.2.2.c)] :: .row x5.1.A x5.1.c 3 1 (ii v11) :: .row x5.2.1.A x5.2.1.c 3 1 (ii v12) :: .row x5.2.2.1.A x5.2.2.1.c 3 1 (ii v13) :: .row x5.2.2.2.A x5.2.2.2.c 3 1 (ii v14) :: .box x4 27 [(.slice x3.1.A x3.1.n x3.1.c), (.slice x3.2.1.A x3.2.1.n x3.2.1.c), (.slice x3.2.2.1.A x3.2.2.1.n x3.2.2.1.c), (.slice x3.2.2.2.A x3.2.2.2.n x3.2.2.2.c)] :: .row x3.1.A x3.1.c 3 1 (ii v5) :: .row x3.2.1.A x3.2.1.c 3 1 (ii v6) :: .row x3.2.2.1.A x3.2.2.1.c 3 1 (ii v7) :: .row x3.2.2.2.A x3.2.2.2.c 3 1 (ii v8) :: .box x2 27 [(.slice x1.1.A x1.1.n x1.1.c), (.slice x1.2.1.A x1.2.1.n x1.2.1.c), (.slice x1.2.2.1.A x1.2.2.1.n x1.2.2.1.c), (.slice x1.2.2.2.A x1.2.2.2.n x1.2.2.2.c)] :: .row x1.1.A x1.1.c 3 1 (ii v1) :: .row x1.2.1.A x1.2.1.c 3 1 (ii v2) :: .row x1.2.2.1.A x1.2.2.1.c 3 1 (ii v3) :: .row x1.2.2.2.A x1.2.2.2.c 3 1 (ii v4) :: F) 27 follows_any rfl ?_
                    refine d_take 0 rfl (q_loadb_agg 5 rfl ag27 sz27 rfl rfl rfl rfl) rfl rfl (by kernel_rfl) (by kernel_rfl) (by kernel_rfl) (fun w h => h) ?_
                    refine d_one 1 (by kernel_rfl) ?_
                    refine o_do rfl (a_call ok30 rfl rfl rfl rfl (fun w hm => impl_ColoredValid.calls K v5 x3.1.A x3.1.n x3.1.c v6 x3.2.1.A x3.2.1.n x3.2.1.c v7 x3.2.2.1.A x3.2.2.1.n x3.2.2.1.c v8 x3.2.2.2.A x3.2.2.2.n x3.2.2.2.c hm x3.1.h (Rd.row 6 rfl) x3.2.1.h (Rd.row 7 rfl) x3.2.2.1.h (Rd.row 8 rfl) x3.2.2.2.h (Rd.row 9 rfl) hb5)) rfl rfl (fun x8 w h => h) (fun x8 => ?_)
                    refine d_take 2 rfl (q_move rfl rfl) rfl rfl (by kernel_rfl) (by kernel_rfl) (by kernel_rfl) (fun w h => h) ?_
                    refine d_take_on 3 rfl (q_loadb_agg 5 rfl ag27 sz27 rfl rfl rfl rfl) rfl rfl rfl rfl c7 rfl (by kernel_rfl) (by kernel_rfl) (by kernel_rfl) (fun w h => h) ?_
                    refine d_take_on 5 rfl (q_loadb_agg 10 rfl ag27 sz27 rfl rfl rfl rfl) rfl rfl rfl rfl c7 rfl (by kernel_rfl) (by kernel_rfl) (by kernel_rfl) (fun w h => h) ?_
                    refine d_one 4 (by kernel_rfl) ?_
                    refine o_on rfl (a_call ok19 rfl rfl rfl rfl (fun w hm => impl_CountColor.calls K v5 x3.1.A x3.1.n x3.1.c v6 x3.2.1.A x3.2.1.n x3.2.1.c v7 x3.2.2.1.A x3.2.2.1.n x3.2.2.1.c v8 x3.2.2.2.A x3.2.2.2.n x3.2.2.2.c (2:Int) hm x3.1.h (Rd.row 6 rfl) x3.2.1.h (Rd.row 7 rfl) x3.2.2.1.h (Rd.row 8 rfl) x3.2.2.2.h (Rd.row 9 rfl) hb6)) rfl rfl rfl rfl c7 rfl (fun x9 w h => h) (fun x9 => ?_)
                    refine d_one 6 (by kernel_rfl) ?_
                    refine o_on rfl (a_call ok19 rfl rfl rfl rfl (fun w hm => impl_CountColor.calls K v1 x1.1.A x1.1.n x1.1.c v2 x1.2.1.A x1.2.1.n x1.2.1.c v3 x1.2.2.1.A x1.2.2.1.n x1.2.2.1.c v4 x1.2.2.2.A x1.2.2.2.n x1.2.2.2.c (2:Int) hm x1.1.h (Rd.row 11 rfl) x1.2.1.h (Rd.row 12 rfl) x1.2.2.1.h (Rd.row 13 rfl) x1.2.2.2.h (Rd.row 14 rfl) hb7)) rfl rfl rfl rfl c7 rfl (fun x10 w h => h) (fun x10 => ?_)
                    refine d_take_on 7 rfl (q_add rfl rfl rfl) rfl rfl rfl rfl c7 rfl (by kernel_rfl) (by kernel_rfl) (by kernel_rfl) (fun w h => h) ?_
                    refine d_take_on 8 rfl (q_eql rfl rfl rfl) rfl rfl rfl rfl c7 rfl (by kernel_rfl) (by kernel_rfl) (by kernel_rfl) (fun w h => h) ?_
                    refine d_take 9 rfl (q_pick_t rfl rfl c7 rfl) rfl rfl (by kernel_rfl) (by kernel_rfl) (by kernel_rfl) (fun w h => h) ?_
                    refine d_take 10 rfl (q_move rfl rfl) rfl rfl (by kernel_rfl) (by kernel_rfl) (by kernel_rfl) (fun w h => h) ?_
                    refine d_take_on 11 rfl (q_loadb_agg 5 rfl ag27 sz27 rfl rfl rfl rfl) rfl rfl rfl rfl (beq_t c8) rfl (by kernel_rfl) (by kernel_rfl) (by kernel_rfl) (fun w h => h) ?_
                    refine d_take_on 13 rfl (q_loadb_agg 10 rfl ag27 sz27 rfl rfl rfl rfl) rfl rfl rfl rfl (beq_t c8) rfl (by kernel_rfl) (by kernel_rfl) (by kernel_rfl) (fun w h => h) ?_
                    refine d_one 12 (by kernel_rfl) ?_
                    refine o_on rfl (a_call ok19 rfl rfl rfl rfl (fun w hm => impl_CountColor.calls K v5 x3.1.A x3.1.n x3.1.c v6 x3.2.1.A x3.2.1.n x3.2.1.c v7 x3.2.2.1.A x3.2.2.1.n x3.2.2.1.c v8 x3.2.2.2.A x3.2.2.2.n x3.2.2.2.c (0:Int) hm x3.1.h (Rd.row 6 rfl) x3.2.1.h (Rd.row 7 rfl) x3.2.2.1.h (Rd.row 8 rfl) x3.2.2.2.h (Rd.row 9 rfl) hb8)) rfl rfl rfl rfl (beq_t c8) rfl (fun x11 w h => h) (fun x11 => ?_)
                    refine d_one 14 (by kernel_rfl) ?_
                    refine o_on rfl (a_call ok19 rfl rfl rfl rfl (fun w hm => impl_CountColor.calls K v1 x1.1.A x1.1.n x1.1.c v2 x1.2.1.A x1.2.1.n x1.2.1.c v3 x1.2.2.1.A x1.2.2.1.n x1.2.2.1.c v4 x1.2.2.2.A x1.2.2.2.n x1.2.2.2.c (0:Int) hm x1.1.h (Rd.row 11 rfl) x1.2.1.h (Rd.row 12 rfl) x1.2.2.1.h (Rd.row 13 rfl) x1.2.2.2.h (Rd.row 14 rfl) hb9)) rfl rfl rfl rfl (beq_t c8) rfl (fun x12 w h => h) (fun x12 => ?_)
                    refine d_take_on 15 rfl (q_leq rfl rfl rfl) rfl rfl rfl rfl (beq_t c8) rfl (by kernel_rfl) (by kernel_rfl) (by kernel_rfl) (fun w h => h) ?_
                    refine d_take 16 rfl (q_pick_t rfl rfl (beq_t c8) rfl) rfl rfl (by kernel_rfl) (by kernel_rfl) (by kernel_rfl) (fun w h => h) ?_
                    refine d_take 17 rfl (q_move rfl rfl) rfl rfl (by kernel_rfl) (by kernel_rfl) (by kernel_rfl) (fun w h => h) ?_
                    refine d_take_off 18 rfl rfl rfl rfl rfl (decide_eq_false c9) rfl (by kernel_rfl) (by kernel_rfl) (by kernel_rfl) (fun w h => h) ?_
                    refine d_take_off 19 rfl rfl rfl rfl rfl (decide_eq_false c9) rfl (by kernel_rfl) (by kernel_rfl) (by kernel_rfl) (fun w h => h) ?_
                    refine d_take_off 20 rfl rfl rfl rfl rfl (decide_eq_false c9) rfl (by kernel_rfl) (by kernel_rfl) (by kernel_rfl) (fun w h => h) ?_
                    refine d_take_off 21 rfl rfl rfl rfl rfl (decide_eq_false c9) rfl (by kernel_rfl) (by kernel_rfl) (by kernel_rfl) (fun w h => h) ?_
                    refine d_take_offu 22 rfl rfl rfl rfl rfl rfl (by kernel_rfl) (by kernel_rfl) (by kernel_rfl) (fun w h => h) ?_
                    refine d_take_offu 23 rfl rfl rfl rfl rfl rfl (by kernel_rfl) (by kernel_rfl) (by kernel_rfl) (fun w h => h) ?_
                    refine d_take_off 24 rfl rfl rfl rfl rfl (decide_eq_false c9) rfl (by kernel_rfl) (by kernel_rfl) (by kernel_rfl) (fun w h => h) ?_
                    refine d_take 25 rfl (q_pick_f rfl rfl (decide_eq_false c9) rfl) rfl rfl (by kernel_rfl) (by kernel_rfl) (by kernel_rfl) (fun w h => h) ?_
                    refine d_take 26 rfl (q_assign rfl rfl) rfl rfl (by kernel_rfl) (by kernel_rfl) (by kernel_rfl) (fun w h => h) ?_
                    refine d_done (by kernel_rfl) ?_
                    refine j_then ?_
                    refine j_ret ?_
                    cases h
                    exact j_return rfl (ResOf.tmp rfl ResOf.nil) rfl (fun w h => ⟨(), rfl, (h.drop 15)⟩)
                · refine j_draw (.box x6 27 [(.slice x5.1.A x5.1.n x5.1.c), (.slice x5.2.1.A x5.2.1.n x5.2.1.c), (.slice x5.2.2.1.A x5.2.2.1.n x5.2.2.1.c), (.slice x5.2.2.2.A x5.2.2.2.n x5.2.2.2.c)] :: .row x5.1.A x5.1.c 3 1 (ii v11) :: .row x5.2.1.A x5.2.1.c 3 1 (ii v12) :: .row x5.2.2.1.A x5.2.2.1.c 3 1 (ii v13) :: .row x5.2.2.2.A x5.2.2.2.c 3 1 (ii v14) :: .box x4 27 [(.slice x3.1.A x3.1.n x3.1.c), (.slice x3.2.1.A x3.2.1.n x3.2.1.c), (.slice x3.2.2.1.A x3.2.2.1.n x3.2.2.1.c), (.slice x3.2.2.2.A x3.2.2.2.n x3.2.2.2.c)] :: .row x3.1.A x3.1.c 3 1 (ii v5) :: .row x3.2.1.A x3.2.1.c 3 1 (ii v6) :: .row x3.2.2.1.A x3.2.2.1.c 3 1 (ii v7) :: .row x3.2.2.2.A x3.2.2.2.c 3 1 (ii v8) :: .box x2 27 [(.slice x1.1.A x1.1.n x1.1.c), (.slice x1.2.1.A x1.2.1.n x1.2.1.c), (.slice x1.2.2.1.A x1.2.2.1.n x1.2.2.1.c), (.slice x1.2.2.2.A x1.2.2.2.n x1.2.2.2.c)] :: .row x1.1.A x1.1.c 3 1 (ii v1) :: .row x1.2.1.A x1.2.1.c 3 1 (ii v2) :: .row x1.2.2.1.A x1.2.2.1.c 3 1 (ii v3) :: .row x1.2.2.2.A x1.2.2.2.c 3 1 (ii v4) :: F) 27 follows_any rfl ?_
                  refine d_take 0 rfl (q_loadb_agg 5 rfl ag27 sz27 rfl rfl rfl rfl) rfl rfl (by kernel_rfl) (by kernel_rfl) (by kernel_rfl) (fun w h => h) ?_
                  refine d_one 1 (by kernel_rfl) ?_
                  refine o_do rfl (a_call ok30 rfl rfl rfl rfl (fun w hm => impl_ColoredValid.calls K v5 x3.1.A x3.1.n x3.1.c v6 x3.2.1.A x3.2.1.n x3.2.1.c v7 x3.2.2.1.A x3.2.2.1.n x3.2.2.1.c v8 x3.2.2.2.A x3.2.2.2.n x3.2.2.2.c hm x3.1.h (Rd.row 6 rfl) x3.2.1.h (Rd.row 7 rfl) x3.2.2.1.h (Rd.row 8 rfl) x3.2.2.2.h (Rd.row 9 rfl) hb5)) rfl rfl (fun x8 w h => h) (fun x8 => ?_)
                  refine d_take 2 rfl (q_move rfl rfl) rfl rfl (by kernel_rfl) (by kernel_rfl) (by kernel_rfl) (fun w h => h) ?_
                  refine d_take_on 3 rfl (q_loadb_agg 5 rfl ag27 sz27 rfl rfl rfl rfl) rfl rfl rfl rfl c7 rfl (by kernel_rfl) (by kernel_rfl) (by kernel_rfl) (fun w h => h) ?_
                  refine d_take_on 5 rfl (q_loadb_agg 10 rfl ag27 sz27 rfl rfl rfl rfl) rfl rfl rfl rfl c7 rfl (by kernel_rfl) (by kernel_rfl) (by kernel_rfl) (fun w h => h) ?_
                  refine d_one 4 (by kernel_rfl) ?_
                  refine o_on rfl (a_call ok19 rfl rfl rfl rfl (fun w hm => impl_CountColor.calls K v5 x3.1.A x3.1.n x3.1.c v6 x3.2.1.A x3.2.1.n x3.2.1.c v7 x3.2.2.1.A x3.2.2.1.n x3.2.2.1.c v8 x3.2.2.2.A x3.2.2.2.n x3.2.2.2.c (2:Int) hm x3.1.h (Rd.row 6 rfl) x3.2.1.h (Rd.row 7 rfl) x3.2.2.1.h (Rd.row 8 rfl) x3.2.2.2.h (Rd.row 9 rfl) hb6)) rfl rfl rfl rfl c7 rfl (fun x9 w h => h) (fun x9 => ?_)
                  refine d_one 6 (by kernel_rfl) ?_
                  refine o_on rfl (a_call ok19 rfl rfl rfl rfl (fun w hm => impl_CountColor.calls K v1 x1.1.A x1.1.n x1.1.c v2 x1.2.1.A x1.2.1.n x1.2.1.c v3 x1.2.2.1.A x1.2.2.1.n x1.2.2.1.c v4 x1.2.2.2.A x1.2.2.2.n x1.2.2.2.c (2:Int) hm x1.1.h (Rd.row 11 rfl) x1.2.1.h (Rd.row 12 rfl) x1.2.2.1.h (Rd.row 13 rfl) x1.2.2.2.h (Rd.row 14 rfl) hb7)) rfl rfl rfl rfl c7 rfl (fun x10 w h => h) (fun x10 => ?_)
                  refine d_take_on 7 rfl (q_add rfl rfl rfl) rfl rfl rfl rfl c7 rfl (by kernel_rfl) (by kernel_rfl) (by kernel_rfl) (fun w h => h) ?_
                  refine d_take_on 8 rfl (q_eql rfl rfl rfl) rfl rfl rfl rfl c7 rfl (by kernel_rfl) (by kernel_rfl) (by kernel_rfl) (fun w h => h) ?_
                  refine d_take 9 rfl (q_pick_t rfl rfl c7 rfl) rfl rfl (by kernel_rfl) (by kernel_rfl) (by kernel_rfl) (fun w h => h) ?_
                  refine d_take 10 rfl (q_move rfl rfl) rfl rfl (by kernel_rfl) (by kernel_rfl) (by kernel_rfl) (fun w h => h) ?_
                  refine d_take_off 11 rfl rfl rfl rfl rfl (beq_f c8) rfl (by kernel_rfl) (by kernel_rfl) (by kernel_rfl) (fun w h => h) ?_
                  refine d_take_off 12 rfl rfl rfl rfl rfl (beq_f c8) rfl (by kernel_rfl) (by kernel_rfl) (by kernel_rfl) (fun w h => h) ?_
                  refine d_take_off 13 rfl rfl rfl rfl rfl (beq_f c8) rfl (by kernel_rfl) (by kernel_rfl) (by kernel_rfl) (fun w h => h) ?_
                  refine d_take_off 14 rfl rfl rfl rfl rfl (beq_f c8) rfl (by kernel_rfl) (by kernel_rfl) (by kernel_rfl) (fun w h => h) ?_
                  refine d_take_off 15 rfl rfl rfl rfl rfl (beq_f c8) rfl (by kernel_rfl) (by kernel_rfl) (by kernel_rfl) (fun w h => h) ?_
                  refine d_take 16 rfl (q_pick_f rfl rfl (beq_f c8) rfl) rfl rfl (by kernel_rfl) (by kernel_rfl) (by kernel_rfl) (fun w h => h) ?_
                  refine d_take 17 rfl (q_move rfl rfl) rfl rfl (by kernel_rfl) (by kernel_rfl) (by kernel_rfl) (fun w h => h) ?_
                  refine d_take_off 18 rfl rfl rfl rfl rfl rfl rfl (by kernel_rfl) (by kernel_rfl) (by kernel_rfl) (fun w h => h) ?_
                  refine d_take_off 19 rfl rfl rfl rfl rfl rfl rfl (by kernel_rfl) (by kernel_rfl) (by kernel_rfl) (fun w h => h) ?_
                  refine d_take_off 20 rfl rfl rfl rfl rfl rfl rfl (by kernel_rfl) (by kernel_rfl) (by kernel_rfl) (fun w h => h) ?_
                  refine d_take_off 21 rfl rfl rfl rfl rfl rfl rfl (by kernel_rfl) (by kernel_rfl) (by kernel_rfl) (fun w h => h) ?_
                  refine d_take_offu 22 rfl rfl rfl rfl rfl rfl (by kernel_rfl) (by kernel_rfl) (by kernel_rfl) (fun w h => h) ?_
                  refine d_take_offu 23 rfl rfl rfl rfl rfl rfl (by kernel_rfl) (by kernel_rfl) (by kernel_rfl) (fun w h => h) ?_
                  refine d_take_off 24 rfl rfl rfl rfl rfl rfl rfl (by kernel_rfl) (by kernel_rfl) (by kernel_rfl) (fun w h => h) ?_
                  refine d_take 25 rfl (q_pick_f rfl rfl rfl rfl) rfl rfl (by kernel_rfl) (by kernel_rfl) (by kernel_rfl) (fun w h => h) ?_
                  refine d_take 26 rfl (q_assign rfl rfl) rfl rfl (by kernel_rfl) (by kernel_rfl) (by kernel_rfl) (fun w h => h) ?_
                  refine d_done (by kernel_rfl) ?_
                  refine j_then ?_
                  refine j_ret ?_
                  cases h
                  exact j_return rfl (ResOf.tmp rfl ResOf.nil) rfl (fun w h => ⟨(), rfl, (h.drop 15)⟩)
              · refine j_draw (.box x6 27 [(.slice x5.1.A x5.1.n x5.1.c), (.slice x5.2.1.A x5.2.1.n x5.2.1.c), (.slice x5.2.2.1.A x5.2.2.1.n x5.2.2.1.c), (.slice x5.2.2.2.A x5.2.2.2.n x5.2.2.2.c)] :: .row x5.1.A x5.1.c 3 1 (ii v11) :: .row x5.2.1.A x5.2.1.c 3 1 (ii v12) :: .row x5.2.2.1.A x5.2.2.1.c 3 1 (ii v13) :: .row x5.2.2.2.A x5.2.2.2.c 3 1 (ii v14) :: .box x4 27 [(.slice x3.1.A x3.1.n x3.1.c), (.slice x3.2.1.A x3.2.1.n x3.2.1.c), (.slice x3.2.2.1.A x3.2.2.1.n x3.2.2.1.c), (.slice x3.2.2.2.A x3.2.2.2.n x3.2.2.2.c)] :: .row x3.1.A x3.1.c 3 1 (ii v5) :: .row x3.2.1.A x3.2.1.c 3 1 (ii v6) :: .row x3.2.2.1.A x3.2.2.1.c 3 1 (ii v7) :: .row x3.2.2.2.A x3.2.2.2.c 3 1 (ii v8) :: .box x2 27 [(.slice x1.1.A x1.1.n x1.1.c), (.slice x1.2.1.A x1.2.1.n x1.2.1.c), (.slice x1.2.2.1.A x1.2.2.1.n x1.2.2.1.c), (.slice x1.2.2.2.A x1.2.2.2.n x1.2.2.2.c)] :: .row x1.1.A x1.1.c 3 1 (ii v1) :: .row x1.2.1.A x1.2.1.c 3 1 (ii v2) :: .row x1.2.2.1.A x1.2.2.1.c 3 1 (ii v3) :: .row x1.2.2.2.A x1.2.2.2.c 3 1 (ii v4) :: F) 27 follows_any rfl ?_
                refine d_take 0 rfl (q_loadb_agg 5 rfl ag27 sz27 rfl rfl rfl rfl) rfl rfl (by kernel_rfl) (by kernel_rfl) (by kernel_rfl) (fun w h => h) ?_
                refine d_one 1 (by kernel_rfl) ?_
                refine o_do rfl (a_call ok30 rfl rfl rfl rfl (fun w hm => impl_ColoredValid.calls K v5 x3.1.A x3.1.n x3.1.c v6 x3.2.1.A x3.2.1.n x3.2.1.c v7 x3.2.2.1.A x3.2.2.1.n x3.2.2.1.c v8 x3.2.2.2.A x3.2.2.2.n x3.2.2.2.c hm x3.1.h (Rd.row 6 rfl) x3.2.1.h (Rd.row 7 rfl) x3.2.2.1.h (Rd.row 8 rfl) x3.2.2.2.h (Rd.row 9 rfl) hb5)) rfl rfl (fun x8 w h => h) (fun x8 => ?_)
                refine d_take 2 rfl (q_move rfl rfl) rfl rfl (by kernel_rfl) (by kernel_rfl) (by kernel_rfl) (fun w h => h) ?_
                refine d_take_off 3 rfl rfl rfl rfl rfl (var_f c7) rfl (by kernel_rfl) (by kernel_rfl) (by kernel_rfl) (fun w h => h) ?_
                refine d_take_off 4 rfl rfl rfl rfl rfl (var_f c7) rfl (by kernel_rfl) (by kernel_rfl) (by kernel_rfl) (fun w h => h) ?_
                refine d_take_off 5 rfl rfl rfl rfl rfl (var_f c7) rfl (by kernel_rfl) (by kernel_rfl) (by kernel_rfl) (fun w h => h) ?_
                refine d_take_off 6 rfl rfl rfl rfl rfl (var_f c7) rfl (by kernel_rfl) (by kernel_rfl) (by kernel_rfl) (fun w h => h) ?_
                refine d_take_off 7 rfl rfl rfl rfl rfl (var_f c7) rfl (by kernel_rfl) (by kernel_rfl) (by kernel_rfl) (fun w h => h) ?_
                refine d_take_off 8 rfl rfl rfl rfl rfl (var_f c7) rfl (by kernel_rfl) (by kernel_rfl) (by kernel_rfl) (fun w h => h) ?_
                refine d_take 9 rfl (q_pick_f rfl rfl (var_f c7) rfl) rfl rfl (by kernel_rfl) (by kernel_rfl) (by kernel_rfl) (fun w h => h) ?_
                refine d_take 10 rfl (q_move rfl rfl) rfl rfl (by kernel_rfl) (by kernel_rfl) (by kernel_rfl) (fun w h => h) ?_
                refine d_take_off 11 rfl rfl rfl rfl rfl rfl rfl (by kernel_rfl) (by kernel_rfl) (by kernel_rfl) (fun w h => h) ?_
                refine d_take_off 12 rfl rfl rfl rfl rfl rfl rfl (by kernel_rfl) (by kernel_rfl) (by kernel_rfl) (fun w h => h) ?_
                refine d_take_off 13 rfl rfl rfl rfl rfl rfl rfl (by kernel_rfl) (by kernel_rfl) (by kernel_rfl) (fun w h => h) ?_
                refine d_take_off 14 rfl rfl rfl rfl rfl rfl rfl (by kernel_rfl) (by kernel_rfl) (by kernel_rfl) (fun w h => h) ?_
                refine d_take_off 15 rfl rfl rfl rfl rfl rfl rfl (by kernel_rfl) (by kernel_rfl) (by kernel_rfl) (fun w h => h) ?_
                refine d_take 16 rfl (q_pick_f rfl rfl rfl rfl) rfl rfl (by kernel_rfl) (by kernel_rfl) (by kernel_rfl) (fun w h => h) ?_
                refine d_take 17 rfl (q_move rfl rfl) rfl rfl (by kernel_rfl) (by kernel_rfl) (by kernel_rfl) (fun w h => h) ?_
                refine d_take_off 18 rfl rfl rfl rfl rfl rfl rfl (by kernel_rfl) (by kernel_rfl) (by kernel_rfl) (fun w h => h) ?_
                refine d_take_off 19 rfl rfl rfl rfl rfl rfl rfl (by kernel_rfl) (by kernel_rfl) (by kernel_rfl) (fun w h => h) ?_
                refine d_take_off 20 rfl rfl rfl rfl rfl rfl rfl (by kernel_rfl) (by kernel_rfl) (by kernel_rfl) (fun w h => h) ?_
                refine d_take_off 21 rfl rfl rfl rfl rfl rfl rfl (by kernel_rfl) (by kernel_rfl) (by kernel_rfl) (fun w h => h) ?_
                refine d_take_offu 22 rfl rfl rfl rfl rfl rfl (by kernel_rfl) (by kernel_rfl) (by kernel_rfl) (fun w h => h) ?_
                refine d_take_offu 23 rfl rfl rfl rfl rfl rfl (by kernel_rfl) (by kernel_rfl) (by kernel_rfl) (fun w h => h) ?_
                refine d_take_off 24 rfl rfl rfl rfl rfl rfl rfl (by kernel_rfl) (by kernel_rfl) (by kernel_rfl) (fun w h => h) ?_
                refine d_take 25 rfl (q_pick_f rfl rfl rfl rfl) rfl rfl (by kernel_rfl) (by kernel_rfl) (by kernel_rfl) (fun w h => h) ?_
                refine d_take 26 rfl (q_assign rfl rfl) rfl rfl (by kernel_rfl) (by kernel_rfl) (by kernel_rfl) (fun w h => h) ?_
                refine d_done (by kernel_rfl) ?_
                refine j_then ?_
                refine j_ret ?_
                cases h
                exact j_return rfl (ResOf.tmp rfl ResOf.nil) rfl (fun w h => ⟨(), rfl, (h.drop 15)⟩)
            · refine j_true rfl (not_t (var_f c6)) ?_
              refine j_seq ?_
              refine j_region ?_
              refine r_q (q_loadb_agg 5 rfl ag27 sz27 rfl rfl rfl rfl) rfl rfl ?_
              refine r_q (q_loadb_agg 10 rfl ag27 sz27 rfl rfl rfl rfl) rfl rfl ?_
              obtain ⟨v25, hb12, h⟩ := of_b1 h
              refine r_do (a_call ok18 rfl rfl rfl rfl (fun w hm => impl_ColoredSame.calls K v5 x3.1.A x3.1.n x3.1.c v6 x3.2.1.A x3.2.1.n x3.2.1.c v7 x3.2.2.1.A x3.2.2.1.n x3.2.2.1.c v8 x3.2.2.2.A x3.2.2.2.n x3.2.2.2.c v1 x1.1.A x1.1.n x1.1.c v2 x1.2.1.A x1.2.1.n x1.2.1.c v3 x1.2.2.1.A x1.2.2.1.n x1.2.2.1.c v4 x1.2.2.2.A x1.2.2.2.n x1.2.2.2.c hm x3.1.h (Rd.row 6 rfl) x3.2.1.h (Rd.row 7 rfl) x3.2.2.1.h (Rd.row 8 rfl) x3.2.2.2.h (Rd.row 9 rfl) x1.1.h (Rd.row 11 rfl) x1.2.1.h (Rd.row 12 rfl) x1.2.2.1.h (Rd.row 13 rfl) x1.2.2.2.h (Rd.row 14 rfl) hb12)) rfl rfl (fun x15 => ?_)
              refine r_q (q_move rfl rfl) rfl rfl ?_
              rcases of_if h with ⟨c11, h⟩ | ⟨c11, h⟩
              · refine r_qon (q_loadb_agg 10 rfl ag27 sz27 rfl rfl rfl rfl) rfl rfl rfl rfl c11 rfl ?_
                obtain ⟨v26, hb13, h⟩ := of_b1 h
                refine r_on (a_call ok19 rfl rfl rfl rfl (fun w hm => impl_CountColor.calls K v1 x1.1.A x1.1.n x1.1.c v2 x1.2.1.A x1.2.1.n x1.2.1.c v3 x1.2.2.1.A x1.2.2.1.n x1.2.2.1.c v4 x1.2.2.2.A x1.2.2.2.n x1.2.2.2.c (1:Int) hm x1.1.h (Rd.row 11 rfl) x1.2.1.h (Rd.row 12 rfl) x1.2.2.1.h (Rd.row 13 rfl) x1.2.2.2.h (Rd.row 14 rfl) hb13)) rfl rfl rfl rfl c11 rfl (fun x16 => ?_)
                refine r_qon (q_eql rfl rfl rfl) rfl rfl rfl rfl c11 rfl ?_
                refine r_q (q_pick_t rfl rfl c11 rfl) rfl rfl ?_
                refine r_q (q_assign rfl rfl) rfl rfl ?_
                refine r_nil ?_
                refine j_then ?_
                refine j_ret ?_
                refine j_then_ret ?_
                cases h
                exact j_return rfl (ResOf.tmp rfl ResOf.nil) rfl (fun w h => ⟨(), rfl, (h.drop 15)⟩)
              · refine r_off rfl rfl rfl rfl (var_f c11) rfl ?_
                refine r_off rfl rfl rfl rfl (var_f c11) rfl ?_
                refine r_off rfl rfl rfl rfl (var_f c11) rfl ?_
                refine r_q (q_pick_f rfl rfl (var_f c11) rfl) rfl rfl ?_
                refine r_q (q_assign rfl rfl) rfl rfl ?_
                refine r_nil ?_
                refine j_then ?_
                refine j_ret ?_
                refine j_then_ret ?_
                cases h
                exact j_return rfl (ResOf.tmp rfl ResOf.nil) rfl (fun w h => ⟨(), rfl, (h.drop 15)⟩)
          · refine j_true rfl (not_t (var_f c5)) ?_
            refine j_seq ?_
            refine j_region ?_
            refine r_q (q_loadb_agg 5 rfl ag27 sz27 rfl rfl rfl rfl) rfl rfl ?_
            refine r_q (q_loadb_agg 0 rfl ag27 sz27 rfl rfl rfl rfl) rfl rfl ?_
            obtain ⟨v27, hb14, h⟩ := of_b1 h
            refine r_do (a_call ok18 rfl rfl rfl rfl (fun w hm => impl_ColoredSame.calls K v5 x3.1.A x3.1.n x3.1.c v6 x3.2.1.A x3.2.1.n x3.2.1.c v7 x3.2.2.1.A x3.2.2.1.n x3.2.2.1.c v8 x3.2.2.2.A x3.2.2.2.n x3.2.2.2.c v11 x5.1.A x5.1.n x5.1.c v12 x5.2.1.A x5.2.1.n x5.2.1.c v13 x5.2.2.1.A x5.2.2.1.n x5.2.2.1.c v14 x5.2.2.2.A x5.2.2.2.n x5.2.2.2.c hm x3.1.h (Rd.row 6 rfl) x3.2.1.h (Rd.row 7 rfl) x3.2.2.1.h (Rd.row 8 rfl) x3.2.2.2.h (Rd.row 9 rfl) x5.1.h (Rd.row 1 rfl) x5.2.1.h (Rd.row 2 rfl) x5.2.2.1.h (Rd.row 3 rfl) x5.2.2.2.h (Rd.row 4 rfl) hb14)) rfl rfl (fun x17 => ?_)
            refine r_q (q_move rfl rfl) rfl rfl ?_
            rcases of_if h with ⟨c12, h⟩ | ⟨c12, h⟩
            · refine r_qon (q_move rfl rfl) rfl rfl rfl rfl c12 rfl ?_
              refine r_qon (q_move rfl rfl) rfl rfl rfl rfl c12 rfl ?_
              refine r_qon (q_beql un4 rfl rfl rfl) rfl rfl rfl rfl c12 rfl ?_
              refine r_q (q_pick_t rfl rfl c12 rfl) rfl rfl ?_
              refine r_q (q_move rfl rfl) rfl rfl ?_
              refine r_qon (q_move rfl rfl) rfl rfl rfl rfl (beq_t c3) rfl ?_
              refine r_qon (q_move rfl rfl) rfl rfl rfl rfl (beq_t c3) rfl ?_
              refine r_qon (q_beql un4 rfl rfl rfl) rfl rfl rfl rfl (beq_t c3) rfl ?_
              refine r_q (q_pick_t rfl rfl (beq_t c3) rfl) rfl rfl ?_
              refine r_q (q_assign rfl rfl) rfl rfl ?_
              refine r_nil ?_
              refine j_then ?_
              refine j_ret ?_
              refine j_then_ret ?_
              cases h
              exact j_return rfl (ResOf.tmp rfl ResOf.nil) rfl (fun w h => ⟨(), rfl, (h.drop 15)⟩)
            · refine r_off rfl rfl rfl rfl (var_f c12) rfl ?_
              refine r_off rfl rfl rfl rfl (var_f c12) rfl ?_
              refine r_off rfl rfl rfl rfl (var_f c12) rfl ?_
              refine r_q (q_pick_f rfl rfl (var_f c12) rfl) rfl rfl ?_
              refine r_q (q_move rfl rfl) rfl rfl ?_
              refine r_off rfl rfl rfl rfl rfl rfl ?_
              refine r_off rfl rfl rfl rfl rfl rfl ?_
              refine r_off rfl rfl rfl rfl rfl rfl ?_
              refine r_q (q_pick_f rfl rfl rfl rfl) rfl rfl ?_
              refine r_q (q_assign rfl rfl) rfl rfl ?_
              refine r_nil ?_
              refine j_then ?_
              refine j_ret ?_
              refine j_then_ret ?_
              cases h
              exact j_return rfl (ResOf.tmp rfl ResOf.nil) rfl (fun w h => ⟨(), rfl, (h.drop 15)⟩)
        · refine r_off rfl rfl rfl rfl (bne_t c4) rfl ?_
          refine r_off rfl rfl rfl rfl (bne_t c4) rfl ?_
          refine r_q (q_pick_t rfl rfl (bne_t c4) rfl) rfl rfl ?_
          refine r_nil ?_
          refine j_then ?_
          refine j_true rfl rfl ?_
          refine j_seq ?_
          refine j_region ?_
          refine r_q (q_loadb_agg 5 rfl ag27 sz27 rfl rfl rfl rfl) rfl rfl ?_
          refine r_q (q_loadb_agg 0 rfl ag27 sz27 rfl rfl rfl rfl) rfl rfl ?_
          obtain ⟨v28, hb15, h⟩ := of_b1 h
          refine r_do (a_call ok18 rfl rfl rfl rfl (fun w hm => impl_ColoredSame.calls K v5 x3.1.A x3.1.n x3.1.c v6 x3.2.1.A x3.2.1.n x3.2.1.c v7 x3.2.2.1.A x3.2.2.1.n x3.2.2.1.c v8 x3.2.2.2.A x3.2.2.2.n x3.2.2.2.c v11 x5.1.A x5.1.n x5.1.c v12 x5.2.1.A x5.2.1.n x5.2.1.c v13 x5.2.2.1.A x5.2.2.1.n x5.2.2.1.c v14 x5.2.2.2.A x5.2.2.2.n x5.2.2.2.c hm x3.1.h (Rd.row 6 rfl) x3.2.1.h (Rd.row 7 rfl) x3.2.2.1.h (Rd.row 8 rfl) x3.2.2.2.h (Rd.row 9 rfl) x5.1.h (Rd.row 1 rfl) x5.2.1.h (Rd.row 2 rfl) x5.2.2.1.h (Rd.row 3 rfl) x5.2.2.2.h (Rd.row 4 rfl) hb15)) rfl rfl (fun x17 => ?_)
          refine r_q (q_move rfl rfl) rfl rfl ?_
          rcases of_if h with ⟨c13, h⟩ | ⟨c13, h⟩
          · refine r_qon (q_move rfl rfl) rfl rfl rfl rfl c13 rfl ?_
            refine r_qon (q_move rfl rfl) rfl rfl rfl rfl c13 rfl ?_
            refine r_qon (q_beql un4 rfl rfl rfl) rfl rfl rfl rfl c13 rfl ?_
            refine r_q (q_pick_t rfl rfl c13 rfl) rfl rfl ?_
            refine r_q (q_move rfl rfl) rfl rfl ?_
            refine r_qon (q_move rfl rfl) rfl rfl rfl rfl (beq_t c3) rfl ?_
            refine r_qon (q_move rfl rfl) rfl rfl rfl rfl (beq_t c3) rfl ?_
            refine r_qon (q_beql un4 rfl rfl rfl) rfl rfl rfl rfl (beq_t c3) rfl ?_
            refine r_q (q_pick_t rfl rfl (beq_t c3) rfl) rfl rfl ?_
            refine r_q (q_assign rfl rfl) rfl rfl ?_
            refine r_nil ?_
            refine j_then ?_
            refine j_ret ?_
            refine j_then_ret ?_
            cases h
            exact j_return rfl (ResOf.tmp rfl ResOf.nil) rfl (fun w h => ⟨(), rfl, (h.drop 15)⟩)
          · refine r_off rfl rfl rfl rfl (var_f c13) rfl ?_
            refine r_off rfl rfl rfl rfl (var_f c13) rfl ?_
            refine r_off rfl rfl rfl rfl (var_f c13) rfl ?_
            refine r_q (q_pick_f rfl rfl (var_f c13) rfl) rfl rfl ?_
            refine r_q (q_move rfl rfl) rfl rfl ?_
            refine r_off rfl rfl rfl rfl rfl rfl ?_
            refine r_off rfl rfl rfl rfl rfl rfl ?_
            refine r_off rfl rfl rfl rfl rfl rfl ?_
            refine r_q (q_pick_f rfl rfl rfl rfl) rfl rfl ?_
            refine r_q (q_assign rfl rfl) rfl rfl ?_
            refine r_nil ?_
            refine j_then ?_
            refine j_ret ?_
            refine j_then_ret ?_
            cases h
            exact j_return rfl (ResOf.tmp rfl ResOf.nil) rfl (fun w h => ⟨(), rfl, (h.drop 15)⟩)
      · refine r_off rfl rfl rfl rfl (bne_t c3) rfl ?_
        refine r_off rfl rfl rfl rfl (bne_t c3) rfl ?_
        refine r_off rfl rfl rfl rfl (bne_t c3) rfl ?_
        refine r_q (q_pick_t rfl rfl (bne_t c3) rfl) rfl rfl ?_
        refine r_q (q_move rfl rfl) rfl rfl ?_
        refine r_off rfl rfl rfl rfl rfl rfl ?_
        refine r_off rfl rfl rfl rfl rfl rfl ?_
        refine r_q (q_pick_t rfl rfl rfl rfl) rfl rfl ?_
        refine r_nil ?_
        refine j_then ?_
        refine j_true rfl rfl ?_
        refine j_seq ?_
        refine j_region ?_
        refine r_q (q_loadb_agg 5 rfl ag27 sz27 rfl rfl rfl rfl) rfl rfl ?_
        refine r_q (q_loadb_agg 0 rfl ag27 sz27 rfl rfl rfl rfl) rfl rfl ?_
        obtain ⟨v29, hb16, h⟩ := of_b1 h
        refine r_do (a_call ok18 rfl rfl rfl rfl (fun w hm => impl_ColoredSame.calls K v5 x3.1.A x3.1.n x3.1.c v6 x3.2.1.A x3.2.1.n x3.2.1.c v7 x3.2.2.1.A x3.2.2.1.n x3.2.2.1.c v8 x3.2.2.2.A x3.2.2.2.n x3.2.2.2.c v11 x5.1.A x5.1.n x5.1.c v12 x5.2.1.A x5.2.1.n x5.2.1.c v13 x5.2.2.1.A x5.2.2.1.n x5.2.2.1.c v14 x5.2.2.2.A x5.2.2.2.n x5.2.2.2.c hm x3.1.h (Rd.row 6 rfl) x3.2.1.h (Rd.row 7 rfl) x3.2.2.1.h (Rd.row 8 rfl) x3.2.2.2.h (Rd.row 9 rfl) x5.1.h (Rd.row 1 rfl) x5.2.1.h (Rd.row 2 rfl) x5.2.2.1.h (Rd.row 3 rfl) x5.2.2.2.h (Rd.row 4 rfl) hb16)) rfl rfl (fun x17 => ?_)
        refine r_q (q_move rfl rfl) rfl rfl ?_
        rcases of_if h with ⟨c14, h⟩ | ⟨c14, h⟩
        · refine r_qon (q_move rfl rfl) rfl rfl rfl rfl c14 rfl ?_
          refine r_qon (q_move rfl rfl) rfl rfl rfl rfl c14 rfl ?_
          refine r_qon (q_beql un4 rfl rfl rfl) rfl rfl rfl rfl c14 rfl ?_
          refine r_q (q_pick_t rfl rfl c14 rfl) rfl rfl ?_
          refine r_q (q_move rfl rfl) rfl rfl ?_
          refine r_off rfl rfl rfl rfl (beq_f c3) rfl ?_
          refine r_off rfl rfl rfl rfl (beq_f c3) rfl ?_
          refine r_off rfl rfl rfl rfl (beq_f c3) rfl ?_
          refine r_q (q_pick_f rfl rfl (beq_f c3) rfl) rfl rfl ?_
          refine r_q (q_assign rfl rfl) rfl rfl ?_
          refine r_nil ?_
          refine j_then ?_
          refine j_ret ?_
          refine j_then_ret ?_
          cases h
          exact j_return rfl (ResOf.tmp rfl ResOf.nil) rfl (fun w h => ⟨(), rfl, (h.drop 15)⟩)
        · refine r_off rfl rfl rfl rfl (var_f c14) rfl ?_
          refine r_off rfl rfl rfl rfl (var_f c14) rfl ?_
          refine r_off rfl rfl rfl rfl (var_f c14) rfl ?_
          refine r_q (q_pick_f rfl rfl (var_f c14) rfl) rfl rfl ?_
          refine r_q (q_move rfl rfl) rfl rfl ?_
          refine r_off rfl rfl rfl rfl rfl rfl ?_
          refine r_off rfl rfl rfl rfl rfl rfl ?_
          refine r_off rfl rfl rfl rfl rfl rfl ?_
          refine r_q (q_pick_f rfl rfl rfl rfl) rfl rfl ?_
          refine r_q (q_assign rfl rfl) rfl rfl ?_
          refine r_nil ?_
          refine j_then ?_
          refine j_ret ?_
          refine j_then_ret ?_
          cases h
          exact j_return rfl (ResOf.tmp rfl ResOf.nil) rfl (fun w h => ⟨(), rfl, (h.drop 15)⟩)
    · refine r_off rfl rfl rfl rfl (not_t (var_f c2)) rfl ?_
      refine r_off rfl rfl rfl rfl (not_t (var_f c2)) rfl ?_
      refine r_off rfl rfl rfl rfl (not_t (var_f c2)) rfl ?_
      refine r_q (q_pick_t rfl rfl (not_t (var_f c2)) rfl) rfl rfl ?_
      refine r_q (q_move rfl rfl) rfl rfl ?_
      refine r_off rfl rfl rfl rfl rfl rfl ?_
      refine r_off rfl rfl rfl rfl rfl rfl ?_
      refine r_off rfl rfl rfl rfl rfl rfl ?_
      refine r_q (q_pick_t rfl rfl rfl rfl) rfl rfl ?_
      refine r_q (q_move rfl rfl) rfl rfl ?_
      refine r_off rfl rfl rfl rfl rfl rfl ?_
      refine r_off rfl rfl rfl rfl rfl rfl ?_
      refine r_q (q_pick_t rfl rfl rfl rfl) rfl rfl ?_
      refine r_nil ?_
      refine j_then ?_
      refine j_true rfl rfl ?_
      refine j_seq ?_
      refine j_region ?_
      refine r_q (q_loadb_agg 5 rfl ag27 sz27 rfl rfl rfl rfl) rfl rfl ?_
      refine r_q (q_loadb_agg 0 rfl ag27 sz27 rfl rfl rfl rfl) rfl rfl ?_
      obtain ⟨v30, hb17, h⟩ := of_b1 h
      refine r_do (a_call ok18 rfl rfl rfl rfl (fun w hm => impl_ColoredSame.calls K v5 x3.1.A x3.1.n x3.1.c v6 x3.2.1.A x3.2.1.n x3.2.1.c v7 x3.2.2.1.A x3.2.2.1.n x3.2.2.1.c v8 x3.2.2.2.A x3.2.2.2.n x3.2.2.2.c v11 x5.1.A x5.1.n x5.1.c v12 x5.2.1.A x5.2.1.n x5.2.1.c v13 x5.2.2.1.A x5.2.2.1.n x5.2.2.1.c v14 x5.2.2.2.A x5.2.2.2.n x5.2.2.2.c hm x3.1.h (Rd.row 6 rfl) x3.2.1.h (Rd.row 7 rfl) x3.2.2.1.h (Rd.row 8 rfl) x3.2.2.2.h (Rd.row 9 rfl) x5.1.h (Rd.row 1 rfl) x5.2.1.h (Rd.row 2 rfl) x5.2.2.1.h (Rd.row 3 rfl) x5.2.2.2.h (Rd.row 4 rfl) hb17)) rfl rfl (fun x17 => ?_)
      refine r_q (q_move rfl rfl) rfl rfl ?_
      rcases of_if h with ⟨c15, h⟩ | ⟨c15, h⟩
      · refine r_qon (q_move rfl rfl) rfl rfl rfl rfl c15 rfl ?_
        refine r_qon (q_move rfl rfl) rfl rfl rfl rfl c15 rfl ?_
        refine r_qon (q_beql un4 rfl rfl rfl) rfl rfl rfl rfl c15 rfl ?_
        refine r_q (q_pick_t rfl rfl c15 rfl) rfl rfl ?_
        refine r_q (q_move rfl rfl) rfl rfl ?_
        rcases of_if h with ⟨c16, h⟩ | ⟨c16, h⟩
        · refine r_qon (q_move rfl rfl) rfl rfl rfl rfl (beq_t c16) rfl ?_
          refine r_qon (q_move rfl rfl) rfl rfl rfl rfl (beq_t c16) rfl ?_
          refine r_qon (q_beql un4 rfl rfl rfl) rfl rfl rfl rfl (beq_t c16) rfl ?_
          refine r_q (q_pick_t rfl rfl (beq_t c16) rfl) rfl rfl ?_
          refine r_q (q_assign rfl rfl) rfl rfl ?_
          refine r_nil ?_
          refine j_then ?_
          refine j_ret ?_
          refine j_then_ret ?_
          cases h
          exact j_return rfl (ResOf.tmp rfl ResOf.nil) rfl (fun w h => ⟨(), rfl, (h.drop 15)⟩)
        · refine r_off rfl rfl rfl rfl (beq_f c16) rfl ?_
          refine r_off rfl rfl rfl rfl (beq_f c16) rfl ?_
          refine r_off rfl rfl rfl rfl (beq_f c16) rfl ?_
          refine r_q (q_pick_f rfl rfl (beq_f c16) rfl) rfl rfl ?_
          refine r_q (q_assign rfl rfl) rfl rfl ?_
          refine r_nil ?_
          refine j_then ?_
          refine j_ret ?_
          refine j_then_ret ?_
          cases h
          exact j_return rfl (ResOf.tmp rfl ResOf.nil) rfl (fun w h => ⟨(), rfl, (h.drop 15)⟩)
      · refine r_off rfl rfl rfl rfl (var_f c15) rfl ?_
        refine r_off rfl rfl rfl rfl (var_f c15) rfl ?_
        refine r_off rfl rfl rfl rfl (var_f c15) rfl ?_
        refine r_q (q_pick_f rfl rfl (var_f c15) rfl) rfl rfl ?_
        refine r_q (q_move rfl rfl) rfl rfl ?_
        refine r_off rfl rfl rfl rfl rfl rfl ?_
        refine r_off rfl rfl rfl rfl rfl rfl ?_
        refine r_off rfl rfl rfl rfl rfl rfl ?_
        refine r_q (q_pick_f rfl rfl rfl rfl) rfl rfl ?_
        refine r_q (q_assign rfl rfl) rfl rfl ?_
        refine r_nil ?_
        refine j_then ?_
        refine j_ret ?_
        refine j_then_ret ?_
        cases h
        exact j_return rfl (ResOf.tmp rfl ResOf.nil) rfl (fun w h => ⟨(), rfl, (h.drop 15)⟩)

end Go.Proofs.Ytcdcikmphonkfaa.F
