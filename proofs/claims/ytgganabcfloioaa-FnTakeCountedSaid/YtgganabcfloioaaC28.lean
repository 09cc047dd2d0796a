/- The program computes these pure functions, printed by the generator of wip/gen. -/
import Derived.Test.YtgganabcfloioaaFa
import Derived.Test.YtgganabcfloioaaFh
import Derived.Test.YtgganabcfloioaaFb
import Derived.Test.YtgganabcfloioaaC0
import Derived.Test.YtgganabcfloioaaC1
import Derived.Test.YtgganabcfloioaaC2
import Derived.Test.YtgganabcfloioaaC3
import Derived.Test.YtgganabcfloioaaC4
import Derived.Test.YtgganabcfloioaaC5
import Derived.Test.YtgganabcfloioaaC6
import Derived.Test.YtgganabcfloioaaC7
import Derived.Test.YtgganabcfloioaaC8
import Derived.Test.YtgganabcfloioaaC9
import Derived.Test.YtgganabcfloioaaC10
import Derived.Test.YtgganabcfloioaaC17
namespace Go.Proofs.Ytgganabcfloioaa.F
open Go Go.RowKit Go.Proofs.Ytgganabcfloioaa.S
set_option linter.unusedVariables false
set_option maxRecDepth 100000
theorem laws_FnTakeCounted.calls (K : Nat) (a0 : List Int) (a0_A : Option Addr) (a0_n a0_c : Nat) {w0 w : World} {F : List Res} {r1 : Bool} (hm : Mem w0 (F) w) (a0_h : a0.length = a0_n) (a0_R : Rd w0 F a0_A (ints .u8 a0)) (a0_k : a0.length ≤ a0_c) (h : laws_FnTakeCounted.f K a0 = some r1) :
    Calls Try.prog 6 (List.toArray [.slice a0_A a0_n a0_c]) w fun e w' => ∃ x : Unit, e = .returned (.bool r1) ∧ Mem w0 (F) w' := by
  unfold laws_FnTakeCounted.f at h
  refine calls_of_J (n := 108) Try.func6 rfl rfl rfl hm ?_
  refine j_seq ?_
  refine j_region ?_
  refine r_q (q_assign rfl rfl) rfl rfl ?_
  refine r_nil ?_
  refine j_then ?_
  refine j_seq ?_
  refine j_seq ?_
  refine j_region ?_
  refine r_q (q_move rfl rfl) rfl rfl ?_
  refine r_q (q_lenX a0 a0_h un22 rfl rfl rfl rfl rfl) rfl rfl ?_
  refine r_q (q_gtr rfl rfl rfl) rfl rfl ?_
  refine r_nil ?_
  refine j_then ?_
  rcases of_if h with ⟨c1, h⟩ | ⟨c1, h⟩
  · refine j_true rfl (decide_eq_true c1) ?_
    refine j_seq ?_
    refine j_region ?_
    refine r_q (q_assign rfl rfl) rfl rfl ?_
    refine r_nil ?_
    refine j_then ?_
    refine j_ret ?_
    refine j_then_ret ?_
    cases h
    exact j_return rfl (ResOf.tmp rfl ResOf.nil) rfl (fun w h => ⟨(), rfl, h⟩)
  · refine j_false rfl (decide_eq_false c1) ?_
    refine j_skip ?_
    refine j_then ?_
    refine j_seq ?_
    refine j_region ?_
    refine r_q (q_move rfl rfl) rfl rfl ?_
    obtain ⟨v1, v2, v3, v4, v5, v6, hb1, h⟩ := of_b6 h
    refine r_do (a_call ok24 rfl rfl rfl rfl (fun w hm => spec_DrawTakeCounted.calls K a0 a0_A a0_n a0_c hm a0_h a0_R a0_k hb1)) rfl rfl (fun x1 => ?_)
    refine r_q (q_move rfl rfl) rfl rfl ?_
    refine r_q (q_extract rfl rfl rfl) rfl rfl ?_
    refine r_q (q_extract rfl rfl rfl) rfl rfl ?_
    refine r_do (a_alloc zr29 rfl) rfl rfl (fun x2 => ?_)
    refine r_do (a_storeb 0 rfl sz29 rfl rfl rfl rfl (Nat.le_of_ble_eq_true rfl) rfl) rfl rfl (fun _ => ?_)
    refine j_b0 [(.slice x1.1.A x1.1.n x1.1.c), (.slice x1.2.1.A x1.2.1.n x1.2.1.c), (.slice x1.2.2.1.A x1.2.2.1.n x1.2.2.1.c), (.slice x1.2.2.2.1.A x1.2.2.2.1.n x1.2.2.2.1.c), (.slice x1.2.2.2.2.A x1.2.2.2.2.n x1.2.2.2.2.c)] rfl ?_
    refine r_q (q_assign rfl rfl) rfl rfl ?_
    refine r_nil ?_
    refine j_then ?_
    refine j_seq ?_
    refine j_region ?_
    refine r_q (q_loadb_agg 0 rfl ag29 sz29 rfl rfl rfl rfl) rfl rfl ?_
    refine r_q (q_move rfl rfl) rfl rfl ?_
    obtain ⟨v7, v8, v9, v10, v11, v12, hb2, h⟩ := of_b6 h
    refine r_do (a_call ok25 rfl rfl rfl rfl (fun w hm => impl_TakeCounted.calls K v1 x1.1.A x1.1.n x1.1.c v2 x1.2.1.A x1.2.1.n x1.2.1.c v3 x1.2.2.1.A x1.2.2.1.n x1.2.2.1.c v4 x1.2.2.2.1.A x1.2.2.2.1.n x1.2.2.2.1.c v5 x1.2.2.2.2.A x1.2.2.2.2.n x1.2.2.2.2.c v6 hm x1.1.h (Rd.row 1 rfl) x1.2.1.h (Rd.row 2 rfl) x1.2.2.1.h (Rd.row 3 rfl) x1.2.2.2.1.h (Rd.row 4 rfl) (hm.roomI 4 rfl) x1.2.2.2.2.h (Rd.row 5 rfl) hb2)) rfl rfl (fun x3 => ?_)
    refine r_q (q_move rfl rfl) rfl rfl ?_
    refine r_q (q_extract rfl rfl rfl) rfl rfl ?_
    refine r_q (q_extract rfl rfl rfl) rfl rfl ?_
    refine r_do (a_alloc zr29 rfl) rfl rfl (fun x4 => ?_)
    refine r_do (a_storeb 0 rfl sz29 rfl rfl rfl rfl (Nat.le_of_ble_eq_true rfl) rfl) rfl rfl (fun _ => ?_)
    refine j_b0 [(.slice x3.1.A x3.1.n x3.1.c), (.slice x3.2.1.A x3.2.1.n x3.2.1.c), (.slice x3.2.2.1.A x3.2.2.1.n x3.2.2.1.c), (.slice x3.2.2.2.1.A x3.2.2.2.1.n x3.2.2.2.1.c), (.slice x3.2.2.2.2.A x3.2.2.2.2.n x3.2.2.2.2.c)] rfl ?_
    refine r_q (q_assign rfl rfl) rfl rfl ?_
    refine r_nil ?_
    refine j_then ?_
    refine j_seq ?_
    refine j_region ?_
    refine r_q (q_loadb_agg 6 rfl ag29 sz29 rfl rfl rfl rfl) rfl rfl ?_
    refine r_q (q_move rfl rfl) rfl rfl ?_
    obtain ⟨v13, v14, v15, v16, v17, v18, hb3, h⟩ := of_b6 h
    refine r_do (a_call ok26 rfl rfl rfl rfl (fun w hm => spec_TakeCounted.calls K v1 x1.1.A x1.1.n x1.1.c v2 x1.2.1.A x1.2.1.n x1.2.1.c v3 x1.2.2.1.A x1.2.2.1.n x1.2.2.1.c v4 x1.2.2.2.1.A x1.2.2.2.1.n x1.2.2.2.1.c v5 x1.2.2.2.2.A x1.2.2.2.2.n x1.2.2.2.2.c v6 hm x1.1.h (Rd.row 7 rfl) x1.2.1.h (Rd.row 8 rfl) x1.2.2.1.h (Rd.row 9 rfl) x1.2.2.2.1.h (Rd.row 10 rfl) (hm.roomI 10 rfl) x1.2.2.2.2.h (Rd.row 11 rfl) hb3)) rfl rfl (fun x5 => ?_)
    refine r_q (q_move rfl rfl) rfl rfl ?_
    refine r_q (q_extract rfl rfl rfl) rfl rfl ?_
    refine r_q (q_extract rfl rfl rfl) rfl rfl ?_
    refine r_do (a_alloc zr29 rfl) rfl rfl (fun x6 => ?_)
    refine r_do (a_storeb 0 rfl sz29 rfl rfl rfl rfl (Nat.le_of_ble_eq_true rfl) rfl) rfl rfl (fun _ => ?_)
    refine j_b0 [(.slice x5.1.A x5.1.n x5.1.c), (.slice x5.2.1.A x5.2.1.n x5.2.1.c), (.slice x5.2.2.1.A x5.2.2.1.n x5.2.2.1.c), (.slice x5.2.2.2.1.A x5.2.2.2.1.n x5.2.2.2.1.c), (.slice x5.2.2.2.2.A x5.2.2.2.2.n x5.2.2.2.2.c)] rfl ?_
    refine r_q (q_assign rfl rfl) rfl rfl ?_
    refine r_nil ?_
    refine j_then ?_
    refine j_seq ?_
    refine j_seq ?_
    refine j_region ?_
    refine r_q (q_loadb_agg 6 rfl ag29 sz29 rfl rfl rfl rfl) rfl rfl ?_
    refine r_q (q_loadb_agg 0 rfl ag29 sz29 rfl rfl rfl rfl) rfl rfl ?_
    obtain ⟨v19, hb4, h⟩ := of_b1 h
    refine r_do (a_call ok18 rfl rfl rfl rfl (fun w hm => impl_CountedSame.calls K v7 x3.1.A x3.1.n x3.1.c v8 x3.2.1.A x3.2.1.n x3.2.1.c v9 x3.2.2.1.A x3.2.2.1.n x3.2.2.1.c v10 x3.2.2.2.1.A x3.2.2.2.1.n x3.2.2.2.1.c v11 x3.2.2.2.2.A x3.2.2.2.2.n x3.2.2.2.2.c v13 x5.1.A x5.1.n x5.1.c v14 x5.2.1.A x5.2.1.n x5.2.1.c v15 x5.2.2.1.A x5.2.2.1.n x5.2.2.1.c v16 x5.2.2.2.1.A x5.2.2.2.1.n x5.2.2.2.1.c v17 x5.2.2.2.2.A x5.2.2.2.2.n x5.2.2.2.2.c hm x3.1.h (Rd.row 7 rfl) x3.2.1.h (Rd.row 8 rfl) x3.2.2.1.h (Rd.row 9 rfl) x3.2.2.2.1.h (Rd.row 10 rfl) x3.2.2.2.2.h (Rd.row 11 rfl) x5.1.h (Rd.row 1 rfl) x5.2.1.h (Rd.row 2 rfl) x5.2.2.1.h (Rd.row 3 rfl) x5.2.2.2.1.h (Rd.row 4 rfl) x5.2.2.2.2.h (Rd.row 5 rfl) hb4)) rfl rfl (fun x7 => ?_)
    refine r_q (q_not rfl rfl) rfl rfl ?_
    refine r_q (q_move rfl rfl) rfl rfl ?_
    rcases of_if h with ⟨c2, h⟩ | ⟨c2, h⟩
    · refine r_qon (q_move rfl rfl) rfl rfl rfl rfl (not_f c2) rfl ?_
      refine r_qon (q_move rfl rfl) rfl rfl rfl rfl (not_f c2) rfl ?_
      refine r_qon (q_bneq un4 rfl rfl rfl) rfl rfl rfl rfl (not_f c2) rfl ?_
      refine r_q (q_pick_f rfl rfl (not_f c2) rfl) rfl rfl ?_
      refine r_q (q_move rfl rfl) rfl rfl ?_
      rcases of_if h with ⟨c3, h⟩ | ⟨c3, h⟩
      · refine r_qon (q_move rfl rfl) rfl rfl rfl rfl (bne_f c3) rfl ?_
        refine r_qon (q_not rfl rfl) rfl rfl rfl rfl (bne_f c3) rfl ?_
        refine r_q (q_pick_f rfl rfl (bne_f c3) rfl) rfl rfl ?_
        refine r_nil ?_
        refine j_then ?_
        rcases of_if h with ⟨c4, h⟩ | ⟨c4, h⟩
        · refine j_false rfl (not_f c4) ?_
          refine j_skip ?_
          refine j_then ?_
          refine j_seq ?_
          refine j_region ?_
          refine r_q (q_fieldAddr fi29_0 sz27 rfl rfl rfl) rfl rfl ?_
          refine r_q (q_fieldAddr fi27_1 sz23 rfl rfl rfl) rfl rfl ?_
          refine r_q (q_loadb 12 rfl ag23 rfl rfl rfl) rfl rfl ?_
          obtain ⟨c5, h⟩ := of_guard h
          refine r_q (q_ix (Rd.row 16 rfl) (ints_len1 _ v4) (by decide) x1.2.2.2.1.h c5 un23 sz3 rfl rfl rfl) rfl rfl ?_
          refine r_q (q_ldI (Rd.row 16 rfl) c5 ag3 rfl rfl) rfl rfl ?_
          refine r_q (q_assign rfl rfl) rfl rfl ?_
          refine r_nil ?_
          refine j_then ?_
          refine j_seq ?_
          refine j_region ?_
          refine r_q (q_loadb_agg 12 rfl ag29 sz29 rfl rfl rfl rfl) rfl rfl ?_
          refine r_q (q_move rfl rfl) rfl rfl ?_
          obtain ⟨v20, v21, v22, v23, v24, v25, hb5, h⟩ := of_b6 h
          refine r_do (a_call ok16 rfl rfl rfl rfl (fun w hm => impl_DropRoot.calls K v1 x1.1.A x1.1.n x1.1.c v2 x1.2.1.A x1.2.1.n x1.2.1.c v3 x1.2.2.1.A x1.2.2.1.n x1.2.2.1.c v4 x1.2.2.2.1.A x1.2.2.2.1.n x1.2.2.2.1.c v5 x1.2.2.2.2.A x1.2.2.2.2.n x1.2.2.2.2.c v6 hm x1.1.h (Rd.row 13 rfl) x1.2.1.h (Rd.row 14 rfl) x1.2.2.1.h (Rd.row 15 rfl) x1.2.2.2.1.h (Rd.row 16 rfl) (hm.roomI 16 rfl) x1.2.2.2.2.h (Rd.row 17 rfl) hb5)) rfl rfl (fun x8 => ?_)
          refine r_q (q_move rfl rfl) rfl rfl ?_
          refine r_q (q_extract rfl rfl rfl) rfl rfl ?_
          refine r_q (q_extract rfl rfl rfl) rfl rfl ?_
          refine r_do (a_alloc zr29 rfl) rfl rfl (fun x9 => ?_)
          refine r_do (a_storeb 0 rfl sz29 rfl rfl rfl rfl (Nat.le_of_ble_eq_true rfl) rfl) rfl rfl (fun _ => ?_)
          refine j_b0 [(.slice x8.1.A x8.1.n x8.1.c), (.slice x8.2.1.A x8.2.1.n x8.2.1.c), (.slice x8.2.2.1.A x8.2.2.1.n x8.2.2.1.c), (.slice x8.2.2.2.1.A x8.2.2.2.1.n x8.2.2.2.1.c), (.slice x8.2.2.2.2.A x8.2.2.2.2.n x8.2.2.2.2.c)] rfl ?_
          refine r_q (q_assign rfl rfl) rfl rfl ?_
          refine r_nil ?_
          refine j_then ?_
          refine j_seq ?_
          refine j_region ?_
          refine r_q (q_loadb_agg 0 rfl ag29 sz29 rfl rfl rfl rfl) rfl rfl ?_
          refine r_q (q_move rfl rfl) rfl rfl ?_
          obtain ⟨v26, v27, v28, v29, v30, v31, hb6, h⟩ := of_b6 h
          refine r_do (a_call ok25 rfl rfl rfl rfl (fun w hm => impl_TakeCounted.calls K v20 x8.1.A x8.1.n x8.1.c v21 x8.2.1.A x8.2.1.n x8.2.1.c v22 x8.2.2.1.A x8.2.2.1.n x8.2.2.1.c v23 x8.2.2.2.1.A x8.2.2.2.1.n x8.2.2.2.1.c v24 x8.2.2.2.2.A x8.2.2.2.2.n x8.2.2.2.2.c v6 hm x8.1.h (Rd.row 1 rfl) x8.2.1.h (Rd.row 2 rfl) x8.2.2.1.h (Rd.row 3 rfl) x8.2.2.2.1.h (Rd.row 4 rfl) (hm.roomI 4 rfl) x8.2.2.2.2.h (Rd.row 5 rfl) hb6)) rfl rfl (fun x10 => ?_)
          refine r_q (q_move rfl rfl) rfl rfl ?_
          refine r_q (q_extract rfl rfl rfl) rfl rfl ?_
          refine r_q (q_extract rfl rfl rfl) rfl rfl ?_
          refine r_do (a_alloc zr29 rfl) rfl rfl (fun x11 => ?_)
          refine r_do (a_storeb 0 rfl sz29 rfl rfl rfl rfl (Nat.le_of_ble_eq_true rfl) rfl) rfl rfl (fun _ => ?_)
          refine j_b0 [(.slice x10.1.A x10.1.n x10.1.c), (.slice x10.2.1.A x10.2.1.n x10.2.1.c), (.slice x10.2.2.1.A x10.2.2.1.n x10.2.2.1.c), (.slice x10.2.2.2.1.A x10.2.2.2.1.n x10.2.2.2.1.c), (.slice x10.2.2.2.2.A x10.2.2.2.2.n x10.2.2.2.2.c)] rfl ?_
          refine r_q (q_assign rfl rfl) rfl rfl ?_
          refine r_nil ?_
          refine j_then ?_
          refine j_seq ?_
          refine j_region ?_
          refine r_q (q_loadb_agg 18 rfl ag29 sz29 rfl rfl rfl rfl) rfl rfl ?_
          obtain ⟨v32, hb7, h⟩ := of_b1 h
          refine r_do (a_call ok22 rfl rfl rfl rfl (fun w hm => impl_CountedValid.calls K v7 x3.1.A x3.1.n x3.1.c v8 x3.2.1.A x3.2.1.n x3.2.1.c v9 x3.2.2.1.A x3.2.2.1.n x3.2.2.1.c v10 x3.2.2.2.1.A x3.2.2.2.1.n x3.2.2.2.1.c v11 x3.2.2.2.2.A x3.2.2.2.2.n x3.2.2.2.2.c hm x3.1.h (Rd.row 19 rfl) x3.2.1.h (Rd.row 20 rfl) x3.2.2.1.h (Rd.row 21 rfl) x3.2.2.2.1.h (Rd.row 22 rfl) (hm.roomI 22 rfl) x3.2.2.2.2.h (Rd.row 23 rfl) hb7)) rfl rfl (fun x12 => ?_)
          refine r_q (q_move rfl rfl) rfl rfl ?_
          rcases of_if h with ⟨c6, h⟩ | ⟨c6, h⟩
          · refine r_qon (q_fieldAddr fi29_1 sz23 rfl rfl rfl) rfl rfl rfl rfl c6 rfl ?_
            refine r_qon (q_loadb 18 rfl ag23 rfl rfl rfl) rfl rfl rfl rfl c6 rfl ?_
            refine r_qon (q_move rfl rfl) rfl rfl rfl rfl c6 rfl ?_
            obtain ⟨c7, h⟩ := of_guard h
            refine r_qon (q_ix (Rd.row 23 rfl) (ints_len1 _ v11) (by decide) x3.2.2.2.2.h c7 un23 sz3 rfl rfl rfl) rfl rfl rfl rfl c6 rfl ?_
            refine r_qon (q_ldI (Rd.row 23 rfl) c7 ag3 rfl rfl) rfl rfl rfl rfl c6 rfl ?_
            refine r_qon (q_eql rfl rfl rfl) rfl rfl rfl rfl c6 rfl ?_
            refine r_q (q_pick_t rfl rfl c6 rfl) rfl rfl ?_
            refine r_q (q_move rfl rfl) rfl rfl ?_
            rcases of_if h with ⟨c8, h⟩ | ⟨c8, h⟩
            · refine r_qon (q_fieldAddr fi29_0 sz27 rfl rfl rfl) rfl rfl rfl rfl (beq_t c8) rfl ?_
              refine r_qon (q_fieldAddr fi27_0 sz25 rfl rfl rfl) rfl rfl rfl rfl (beq_t c8) rfl ?_
              refine r_qon (q_fieldAddr fi25_2 sz23 rfl rfl rfl) rfl rfl rfl rfl (beq_t c8) rfl ?_
              refine r_qon (q_loadb 18 rfl ag23 rfl rfl rfl) rfl rfl rfl rfl (beq_t c8) rfl ?_
              refine r_qon (q_move rfl rfl) rfl rfl rfl rfl (beq_t c8) rfl ?_
              obtain ⟨c9, h⟩ := of_guard h
              refine r_qon (q_ix (Rd.row 21 rfl) (ints_len1 _ v9) (by decide) x3.2.2.1.h c9 un23 sz3 rfl rfl rfl) rfl rfl rfl rfl (beq_t c8) rfl ?_
              refine r_qon (q_ldI (Rd.row 21 rfl) c9 ag3 rfl rfl) rfl rfl rfl rfl (beq_t c8) rfl ?_
              refine r_qon (q_move rfl rfl) rfl rfl rfl rfl (beq_t c8) rfl ?_
              refine r_qon (q_eql rfl rfl rfl) rfl rfl rfl rfl (beq_t c8) rfl ?_
              refine r_q (q_pick_t rfl rfl (beq_t c8) rfl) rfl rfl ?_
              refine r_q (q_move rfl rfl) rfl rfl ?_
              rcases of_if h with ⟨c10, h⟩ | ⟨c10, h⟩
              · refine r_qon (q_move rfl rfl) rfl rfl rfl rfl (beq_t c10) rfl ?_
                refine r_q (q_pick_t rfl rfl (beq_t c10) rfl) rfl rfl ?_
                refine r_q (q_move rfl rfl) rfl rfl ?_
                rcases of_if h with ⟨c11, h⟩ | ⟨c11, h⟩
                · refine r_qon (q_move rfl rfl) rfl rfl rfl rfl c11 rfl ?_
                  refine r_q (q_pick_t rfl rfl c11 rfl) rfl rfl ?_
                  refine r_q (q_move rfl rfl) rfl rfl ?_
                  rcases of_if h with ⟨c12, h⟩ | ⟨c12, h⟩
                  · refine r_qon (q_fieldAddr fi29_0 sz27 rfl rfl rfl) rfl rfl rfl rfl c12 rfl ?_
                    refine r_qon (q_fieldAddr fi27_0 sz25 rfl rfl rfl) rfl rfl rfl rfl c12 rfl ?_
                    refine r_qon (q_loadb_agg 0 rfl ag25 sz25 rfl rfl rfl rfl) rfl rfl rfl rfl c12 rfl ?_
                    refine r_qon (q_fieldAddr fi29_0 sz27 rfl rfl rfl) rfl rfl rfl rfl c12 rfl ?_
                    refine r_qon (q_fieldAddr fi27_0 sz25 rfl rfl rfl) rfl rfl rfl rfl c12 rfl ?_
                    refine r_qon (q_loadb_agg 18 rfl ag25 sz25 rfl rfl rfl rfl) rfl rfl rfl rfl c12 rfl ?_
                    obtain ⟨v33, hb8, h⟩ := of_b1 h
                    refine r_on (a_call ok27 rfl rfl rfl rfl (fun w hm => impl_HeapSame.calls K v26 x10.1.A x10.1.n x10.1.c v27 x10.2.1.A x10.2.1.n x10.2.1.c v28 x10.2.2.1.A x10.2.2.1.n x10.2.2.1.c v7 x3.1.A x3.1.n x3.1.c v8 x3.2.1.A x3.2.1.n x3.2.1.c v9 x3.2.2.1.A x3.2.2.1.n x3.2.2.1.c hm x10.1.h (Rd.row 1 rfl) x10.2.1.h (Rd.row 2 rfl) x10.2.2.1.h (Rd.row 3 rfl) x3.1.h (Rd.row 19 rfl) x3.2.1.h (Rd.row 20 rfl) x3.2.2.1.h (Rd.row 21 rfl) hb8)) rfl rfl rfl rfl c12 rfl (fun x13 => ?_)
                    refine r_q (q_pick_t rfl rfl c12 rfl) rfl rfl ?_
                    refine r_q (q_assign rfl rfl) rfl rfl ?_
                    refine r_nil ?_
                    refine j_then ?_
                    refine j_ret ?_
                    cases h
                    exact j_return rfl (ResOf.tmp rfl ResOf.nil) rfl (fun w h => ⟨(), rfl, (h.drop 30)⟩)
                  · refine r_off rfl rfl rfl rfl (var_f c12) rfl ?_
                    refine r_off rfl rfl rfl rfl (var_f c12) rfl ?_
                    refine r_off rfl rfl rfl rfl (var_f c12) rfl ?_
                    refine r_off rfl rfl rfl rfl (var_f c12) rfl ?_
                    refine r_off rfl rfl rfl rfl (var_f c12) rfl ?_
                    refine r_off rfl rfl rfl rfl (var_f c12) rfl ?_
                    refine r_off rfl rfl rfl rfl (var_f c12) rfl ?_
                    refine r_q (q_pick_f rfl rfl (var_f c12) rfl) rfl rfl ?_
                    refine r_q (q_assign rfl rfl) rfl rfl ?_
                    refine r_nil ?_
                    refine j_then ?_
                    refine j_ret ?_
                    cases h
                    exact j_return rfl (ResOf.tmp rfl ResOf.nil) rfl (fun w h => ⟨(), rfl, (h.drop 30)⟩)
                · refine r_off rfl rfl rfl rfl (var_f c11) rfl ?_
                  refine r_q (q_pick_f rfl rfl (var_f c11) rfl) rfl rfl ?_
                  refine r_q (q_move rfl rfl) rfl rfl ?_
                  refine r_off rfl rfl rfl rfl rfl rfl ?_
                  refine r_off rfl rfl rfl rfl rfl rfl ?_
                  refine r_off rfl rfl rfl rfl rfl rfl ?_
                  refine r_off rfl rfl rfl rfl rfl rfl ?_
                  refine r_off rfl rfl rfl rfl rfl rfl ?_
                  refine r_off rfl rfl rfl rfl rfl rfl ?_
                  refine r_off rfl rfl rfl rfl rfl rfl ?_
                  refine r_q (q_pick_f rfl rfl rfl rfl) rfl rfl ?_
                  refine r_q (q_assign rfl rfl) rfl rfl ?_
                  refine r_nil ?_
                  refine j_then ?_
                  refine j_ret ?_
                  cases h
                  exact j_return rfl (ResOf.tmp rfl ResOf.nil) rfl (fun w h => ⟨(), rfl, (h.drop 30)⟩)
              · refine r_off rfl rfl rfl rfl (beq_f c10) rfl ?_
                refine r_q (q_pick_f rfl rfl (beq_f c10) rfl) rfl rfl ?_
                refine r_q (q_move rfl rfl) rfl rfl ?_
                refine r_off rfl rfl rfl rfl rfl rfl ?_
                refine r_q (q_pick_f rfl rfl rfl rfl) rfl rfl ?_
                refine r_q (q_move rfl rfl) rfl rfl ?_
                refine r_off rfl rfl rfl rfl rfl rfl ?_
                refine r_off rfl rfl rfl rfl rfl rfl ?_
                refine r_off rfl rfl rfl rfl rfl rfl ?_
                refine r_off rfl rfl rfl rfl rfl rfl ?_
                refine r_off rfl rfl rfl rfl rfl rfl ?_
                refine r_off rfl rfl rfl rfl rfl rfl ?_
                refine r_off rfl rfl rfl rfl rfl rfl ?_
                refine r_q (q_pick_f rfl rfl rfl rfl) rfl rfl ?_
                refine r_q (q_assign rfl rfl) rfl rfl ?_
                refine r_nil ?_
                refine j_then ?_
                refine j_ret ?_
                cases h
                exact j_return rfl (ResOf.tmp rfl ResOf.nil) rfl (fun w h => ⟨(), rfl, (h.drop 30)⟩)
            · refine r_off rfl rfl rfl rfl (beq_f c8) rfl ?_
              refine r_off rfl rfl rfl rfl (beq_f c8) rfl ?_
              refine r_off rfl rfl rfl rfl (beq_f c8) rfl ?_
              refine r_off rfl rfl rfl rfl (beq_f c8) rfl ?_
              refine r_off rfl rfl rfl rfl (beq_f c8) rfl ?_
              refine r_off rfl rfl rfl rfl (beq_f c8) rfl ?_
              refine r_off rfl rfl rfl rfl (beq_f c8) rfl ?_
              refine r_off rfl rfl rfl rfl (beq_f c8) rfl ?_
              refine r_off rfl rfl rfl rfl (beq_f c8) rfl ?_
              refine r_q (q_pick_f rfl rfl (beq_f c8) rfl) rfl rfl ?_
              refine r_q (q_move rfl rfl) rfl rfl ?_
              refine r_off rfl rfl rfl rfl rfl rfl ?_
              refine r_q (q_pick_f rfl rfl rfl rfl) rfl rfl ?_
              refine r_q (q_move rfl rfl) rfl rfl ?_
              refine r_off rfl rfl rfl rfl rfl rfl ?_
              refine r_q (q_pick_f rfl rfl rfl rfl) rfl rfl ?_
              refine r_q (q_move rfl rfl) rfl rfl ?_
              refine r_off rfl rfl rfl rfl rfl rfl ?_
              refine r_off rfl rfl rfl rfl rfl rfl ?_
              refine r_off rfl rfl rfl rfl rfl rfl ?_
              refine r_off rfl rfl rfl rfl rfl rfl ?_
              refine r_off rfl rfl rfl rfl rfl rfl ?_
              refine r_off rfl rfl rfl rfl rfl rfl ?_
              refine r_off rfl rfl rfl rfl rfl rfl ?_
              refine r_q (q_pick_f rfl rfl rfl rfl) rfl rfl ?_
              refine r_q (q_assign rfl rfl) rfl rfl ?_
              refine r_nil ?_
              refine j_then ?_
              refine j_ret ?_
              cases h
              exact j_return rfl (ResOf.tmp rfl ResOf.nil) rfl (fun w h => ⟨(), rfl, (h.drop 30)⟩)
          · refine r_off rfl rfl rfl rfl (var_f c6) rfl ?_
            refine r_off rfl rfl rfl rfl (var_f c6) rfl ?_
            refine r_off rfl rfl rfl rfl (var_f c6) rfl ?_
            refine r_off rfl rfl rfl rfl (var_f c6) rfl ?_
            refine r_off rfl rfl rfl rfl (var_f c6) rfl ?_
            refine r_off rfl rfl rfl rfl (var_f c6) rfl ?_
            refine r_q (q_pick_f rfl rfl (var_f c6) rfl) rfl rfl ?_
            refine r_q (q_move rfl rfl) rfl rfl ?_
            refine r_off rfl rfl rfl rfl rfl rfl ?_
            refine r_off rfl rfl rfl rfl rfl rfl ?_
            refine r_off rfl rfl rfl rfl rfl rfl ?_
            refine r_off rfl rfl rfl rfl rfl rfl ?_
            refine r_off rfl rfl rfl rfl rfl rfl ?_
            refine r_off rfl rfl rfl rfl rfl rfl ?_
            refine r_off rfl rfl rfl rfl rfl rfl ?_
            refine r_off rfl rfl rfl rfl rfl rfl ?_
            refine r_off rfl rfl rfl rfl rfl rfl ?_
            refine r_q (q_pick_f rfl rfl rfl rfl) rfl rfl ?_
            refine r_q (q_move rfl rfl) rfl rfl ?_
            refine r_off rfl rfl rfl rfl rfl rfl ?_
            refine r_q (q_pick_f rfl rfl rfl rfl) rfl rfl ?_
            refine r_q (q_move rfl rfl) rfl rfl ?_
            refine r_off rfl rfl rfl rfl rfl rfl ?_
            refine r_q (q_pick_f rfl rfl rfl rfl) rfl rfl ?_
            refine r_q (q_move rfl rfl) rfl rfl ?_
            refine r_off rfl rfl rfl rfl rfl rfl ?_
            refine r_off rfl rfl rfl rfl rfl rfl ?_
            refine r_off rfl rfl rfl rfl rfl rfl ?_
            refine r_off rfl rfl rfl rfl rfl rfl ?_
            refine r_off rfl rfl rfl rfl rfl rfl ?_
            refine r_off rfl rfl rfl rfl rfl rfl ?_
            refine r_off rfl rfl rfl rfl rfl rfl ?_
            refine r_q (q_pick_f rfl rfl rfl rfl) rfl rfl ?_
            refine r_q (q_assign rfl rfl) rfl rfl ?_
            refine r_nil ?_
            refine j_then ?_
            refine j_ret ?_
            cases h
            exact j_return rfl (ResOf.tmp rfl ResOf.nil) rfl (fun w h => ⟨(), rfl, (h.drop 30)⟩)
        · refine j_true rfl (not_t (var_f c4)) ?_
          refine j_seq ?_
          refine j_region ?_
          refine r_q (q_loadb_agg 6 rfl ag29 sz29 rfl rfl rfl rfl) rfl rfl ?_
          refine r_q (q_loadb_agg 0 rfl ag29 sz29 rfl rfl rfl rfl) rfl rfl ?_
          obtain ⟨v34, hb9, h⟩ := of_b1 h
          refine r_do (a_call ok18 rfl rfl rfl rfl (fun w hm => impl_CountedSame.calls K v7 x3.1.A x3.1.n x3.1.c v8 x3.2.1.A x3.2.1.n x3.2.1.c v9 x3.2.2.1.A x3.2.2.1.n x3.2.2.1.c v10 x3.2.2.2.1.A x3.2.2.2.1.n x3.2.2.2.1.c v11 x3.2.2.2.2.A x3.2.2.2.2.n x3.2.2.2.2.c v13 x5.1.A x5.1.n x5.1.c v14 x5.2.1.A x5.2.1.n x5.2.1.c v15 x5.2.2.1.A x5.2.2.1.n x5.2.2.1.c v16 x5.2.2.2.1.A x5.2.2.2.1.n x5.2.2.2.1.c v17 x5.2.2.2.2.A x5.2.2.2.2.n x5.2.2.2.2.c hm x3.1.h (Rd.row 7 rfl) x3.2.1.h (Rd.row 8 rfl) x3.2.2.1.h (Rd.row 9 rfl) x3.2.2.2.1.h (Rd.row 10 rfl) x3.2.2.2.2.h (Rd.row 11 rfl) x5.1.h (Rd.row 1 rfl) x5.2.1.h (Rd.row 2 rfl) x5.2.2.1.h (Rd.row 3 rfl) x5.2.2.2.1.h (Rd.row 4 rfl) x5.2.2.2.2.h (Rd.row 5 rfl) hb9)) rfl rfl (fun x14 => ?_)
          refine r_q (q_move rfl rfl) rfl rfl ?_
          rcases of_if h with ⟨c13, h⟩ | ⟨c13, h⟩
          · refine r_qon (q_move rfl rfl) rfl rfl rfl rfl c13 rfl ?_
            refine r_qon (q_move rfl rfl) rfl rfl rfl rfl c13 rfl ?_
            refine r_qon (q_beql un4 rfl rfl rfl) rfl rfl rfl rfl c13 rfl ?_
            refine r_q (q_pick_t rfl rfl c13 rfl) rfl rfl ?_
            refine r_q (q_assign rfl rfl) rfl rfl ?_
            refine r_nil ?_
            refine j_then ?_
            refine j_ret ?_
            refine j_then_ret ?_
            cases h
            exact j_return rfl (ResOf.tmp rfl ResOf.nil) rfl (fun w h => ⟨(), rfl, (h.drop 18)⟩)
          · refine r_off rfl rfl rfl rfl (var_f c13) rfl ?_
            refine r_off rfl rfl rfl rfl (var_f c13) rfl ?_
            refine r_off rfl rfl rfl rfl (var_f c13) rfl ?_
            refine r_q (q_pick_f rfl rfl (var_f c13) rfl) rfl rfl ?_
            refine r_q (q_assign rfl rfl) rfl rfl ?_
            refine r_nil ?_
            refine j_then ?_
            refine j_ret ?_
            refine j_then_ret ?_
            cases h
            exact j_return rfl (ResOf.tmp rfl ResOf.nil) rfl (fun w h => ⟨(), rfl, (h.drop 18)⟩)
      · refine r_off rfl rfl rfl rfl (bne_t c3) rfl ?_
        refine r_off rfl rfl rfl rfl (bne_t c3) rfl ?_
        refine r_q (q_pick_t rfl rfl (bne_t c3) rfl) rfl rfl ?_
        refine r_nil ?_
        refine j_then ?_
        refine j_true rfl rfl ?_
        refine j_seq ?_
        refine j_region ?_
        refine r_q (q_loadb_agg 6 rfl ag29 sz29 rfl rfl rfl rfl) rfl rfl ?_
        refine r_q (q_loadb_agg 0 rfl ag29 sz29 rfl rfl rfl rfl) rfl rfl ?_
        obtain ⟨v35, hb10, h⟩ := of_b1 h
        refine r_do (a_call ok18 rfl rfl rfl rfl (fun w hm => impl_CountedSame.calls K v7 x3.1.A x3.1.n x3.1.c v8 x3.2.1.A x3.2.1.n x3.2.1.c v9 x3.2.2.1.A x3.2.2.1.n x3.2.2.1.c v10 x3.2.2.2.1.A x3.2.2.2.1.n x3.2.2.2.1.c v11 x3.2.2.2.2.A x3.2.2.2.2.n x3.2.2.2.2.c v13 x5.1.A x5.1.n x5.1.c v14 x5.2.1.A x5.2.1.n x5.2.1.c v15 x5.2.2.1.A x5.2.2.1.n x5.2.2.1.c v16 x5.2.2.2.1.A x5.2.2.2.1.n x5.2.2.2.1.c v17 x5.2.2.2.2.A x5.2.2.2.2.n x5.2.2.2.2.c hm x3.1.h (Rd.row 7 rfl) x3.2.1.h (Rd.row 8 rfl) x3.2.2.1.h (Rd.row 9 rfl) x3.2.2.2.1.h (Rd.row 10 rfl) x3.2.2.2.2.h (Rd.row 11 rfl) x5.1.h (Rd.row 1 rfl) x5.2.1.h (Rd.row 2 rfl) x5.2.2.1.h (Rd.row 3 rfl) x5.2.2.2.1.h (Rd.row 4 rfl) x5.2.2.2.2.h (Rd.row 5 rfl) hb10)) rfl rfl (fun x14 => ?_)
        refine r_q (q_move rfl rfl) rfl rfl ?_
        rcases of_if h with ⟨c14, h⟩ | ⟨c14, h⟩
        · refine r_qon (q_move rfl rfl) rfl rfl rfl rfl c14 rfl ?_
          refine r_qon (q_move rfl rfl) rfl rfl rfl rfl c14 rfl ?_
          refine r_qon (q_beql un4 rfl rfl rfl) rfl rfl rfl rfl c14 rfl ?_
          refine r_q (q_pick_t rfl rfl c14 rfl) rfl rfl ?_
          refine r_q (q_assign rfl rfl) rfl rfl ?_
          refine r_nil ?_
          refine j_then ?_
          refine j_ret ?_
          refine j_then_ret ?_
          cases h
          exact j_return rfl (ResOf.tmp rfl ResOf.nil) rfl (fun w h => ⟨(), rfl, (h.drop 18)⟩)
        · refine r_off rfl rfl rfl rfl (var_f c14) rfl ?_
          refine r_off rfl rfl rfl rfl (var_f c14) rfl ?_
          refine r_off rfl rfl rfl rfl (var_f c14) rfl ?_
          refine r_q (q_pick_f rfl rfl (var_f c14) rfl) rfl rfl ?_
          refine r_q (q_assign rfl rfl) rfl rfl ?_
          refine r_nil ?_
          refine j_then ?_
          refine j_ret ?_
          refine j_then_ret ?_
          cases h
          exact j_return rfl (ResOf.tmp rfl ResOf.nil) rfl (fun w h => ⟨(), rfl, (h.drop 18)⟩)
    · refine r_off rfl rfl rfl rfl (not_t (var_f c2)) rfl ?_
      refine r_off rfl rfl rfl rfl (not_t (var_f c2)) rfl ?_
      refine r_off rfl rfl rfl rfl (not_t (var_f c2)) rfl ?_
      refine r_q (q_pick_t rfl rfl (not_t (var_f c2)) rfl) rfl rfl ?_
      refine r_q (q_move rfl rfl) rfl rfl ?_
      refine r_off rfl rfl rfl rfl rfl rfl ?_
      refine r_off rfl rfl rfl rfl rfl rfl ?_
      refine r_q (q_pick_t rfl rfl rfl rfl) rfl rfl ?_
      refine r_nil ?_
      refine j_then ?_
      refine j_true rfl rfl ?_
      refine j_seq ?_
      refine j_region ?_
      refine r_q (q_loadb_agg 6 rfl ag29 sz29 rfl rfl rfl rfl) rfl rfl ?_
      refine r_q (q_loadb_agg 0 rfl ag29 sz29 rfl rfl rfl rfl) rfl rfl ?_
      obtain ⟨v36, hb11, h⟩ := of_b1 h
      refine r_do (a_call ok18 rfl rfl rfl rfl (fun w hm => impl_CountedSame.calls K v7 x3.1.A x3.1.n x3.1.c v8 x3.2.1.A x3.2.1.n x3.2.1.c v9 x3.2.2.1.A x3.2.2.1.n x3.2.2.1.c v10 x3.2.2.2.1.A x3.2.2.2.1.n x3.2.2.2.1.c v11 x3.2.2.2.2.A x3.2.2.2.2.n x3.2.2.2.2.c v13 x5.1.A x5.1.n x5.1.c v14 x5.2.1.A x5.2.1.n x5.2.1.c v15 x5.2.2.1.A x5.2.2.1.n x5.2.2.1.c v16 x5.2.2.2.1.A x5.2.2.2.1.n x5.2.2.2.1.c v17 x5.2.2.2.2.A x5.2.2.2.2.n x5.2.2.2.2.c hm x3.1.h (Rd.row 7 rfl) x3.2.1.h (Rd.row 8 rfl) x3.2.2.1.h (Rd.row 9 rfl) x3.2.2.2.1.h (Rd.row 10 rfl) x3.2.2.2.2.h (Rd.row 11 rfl) x5.1.h (Rd.row 1 rfl) x5.2.1.h (Rd.row 2 rfl) x5.2.2.1.h (Rd.row 3 rfl) x5.2.2.2.1.h (Rd.row 4 rfl) x5.2.2.2.2.h (Rd.row 5 rfl) hb11)) rfl rfl (fun x14 => ?_)
      refine r_q (q_move rfl rfl) rfl rfl ?_
      rcases of_if h with ⟨c15, h⟩ | ⟨c15, h⟩
      · refine r_qon (q_move rfl rfl) rfl rfl rfl rfl c15 rfl ?_
        refine r_qon (q_move rfl rfl) rfl rfl rfl rfl c15 rfl ?_
        refine r_qon (q_beql un4 rfl rfl rfl) rfl rfl rfl rfl c15 rfl ?_
        refine r_q (q_pick_t rfl rfl c15 rfl) rfl rfl ?_
        refine r_q (q_assign rfl rfl) rfl rfl ?_
        refine r_nil ?_
        refine j_then ?_
        refine j_ret ?_
        refine j_then_ret ?_
        cases h
        exact j_return rfl (ResOf.tmp rfl ResOf.nil) rfl (fun w h => ⟨(), rfl, (h.drop 18)⟩)
      · refine r_off rfl rfl rfl rfl (var_f c15) rfl ?_
        refine r_off rfl rfl rfl rfl (var_f c15) rfl ?_
        refine r_off rfl rfl rfl rfl (var_f c15) rfl ?_
        refine r_q (q_pick_f rfl rfl (var_f c15) rfl) rfl rfl ?_
        refine r_q (q_assign rfl rfl) rfl rfl ?_
        refine r_nil ?_
        refine j_then ?_
        refine j_ret ?_
        refine j_then_ret ?_
        cases h
        exact j_return rfl (ResOf.tmp rfl ResOf.nil) rfl (fun w h => ⟨(), rfl, (h.drop 18)⟩)

end Go.Proofs.Ytgganabcfloioaa.F
