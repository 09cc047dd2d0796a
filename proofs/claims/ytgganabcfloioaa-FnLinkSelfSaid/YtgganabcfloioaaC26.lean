/- The program computes these pure functions, printed by the generator of wip/gen. -/
import Derived.Test.YtgganabcfloioaaFa
import Derived.Test.YtgganabcfloioaaFh
import Derived.Test.YtgganabcfloioaaFb
import Derived.Test.YtgganabcfloioaaC0
import Derived.Test.YtgganabcfloioaaC1
import Derived.Test.YtgganabcfloioaaC2
import Derived.Test.YtgganabcfloioaaC3
import Derived.Test.YtgganabcfloioaaC4
import Derived.Test.YtgganabcfloioaaC5
import Derived.Test.YtgganabcfloioaaC6
import Derived.Test.YtgganabcfloioaaC7
import Derived.Test.YtgganabcfloioaaC8
import Derived.Test.YtgganabcfloioaaC9
import Derived.Test.YtgganabcfloioaaC11
import Derived.Test.YtgganabcfloioaaC16
namespace Go.Proofs.Ytgganabcfloioaa.F
open Go Go.RowKit Go.Proofs.Ytgganabcfloioaa.S
set_option linter.unusedVariables false
set_option maxRecDepth 100000
theorem laws_FnLinkSelf.calls (K : Nat) (a0 : List Int) (a0_A : Option Addr) (a0_n a0_c : Nat) {w0 w : World} {F : List Res} {r1 : Bool} (hm : Mem w0 (F) w) (a0_h : a0.length = a0_n) (a0_R : Rd w0 F a0_A (ints .u8 a0)) (a0_k : a0.length ≤ a0_c) (h : laws_FnLinkSelf.f K a0 = some r1) :
    Calls Try.prog 7 (List.toArray [.slice a0_A a0_n a0_c]) w fun e w' => ∃ x : Unit, e = .returned (.bool r1) ∧ Mem w0 (F) w' := by
  unfold laws_FnLinkSelf.f at h
  refine calls_of_J (n := 108) Try.func7 rfl rfl rfl hm ?_
  refine j_seq ?_
  refine j_region ?_
  refine r_q (q_assign rfl rfl) rfl rfl ?_
  refine r_nil ?_
  refine j_then ?_
  refine j_seq ?_
  refine j_seq ?_
  refine j_region ?_
  refine r_q (q_move rfl rfl) rfl rfl ?_
  refine r_q (q_lenX a0 a0_h un22 rfl rfl rfl rfl rfl) rfl rfl ?_
  refine r_q (q_gtr rfl rfl rfl) rfl rfl ?_
  refine r_nil ?_
  refine j_then ?_
  rcases of_if h with ⟨c1, h⟩ | ⟨c1, h⟩
  · refine j_true rfl (decide_eq_true c1) ?_
    refine j_seq ?_
    refine j_region ?_
    refine r_q (q_assign rfl rfl) rfl rfl ?_
    refine r_nil ?_
    refine j_then ?_
    refine j_ret ?_
    refine j_then_ret ?_
    cases h
    exact j_return rfl (ResOf.tmp rfl ResOf.nil) rfl (fun w h => ⟨(), rfl, h⟩)
  · refine j_false rfl (decide_eq_false c1) ?_
    refine j_skip ?_
    refine j_then ?_
    refine j_seq ?_
    refine j_region ?_
    refine r_q (q_move rfl rfl) rfl rfl ?_
    obtain ⟨v1, v2, v3, v4, v5, v6, v7, hb1, h⟩ := of_b7 h
    refine r_do (a_call ok19 rfl rfl rfl rfl (fun w hm => spec_DrawLinkCounted.calls K a0 a0_A a0_n a0_c hm a0_h a0_R a0_k hb1)) rfl rfl (fun x1 => ?_)
    refine r_q (q_move rfl rfl) rfl rfl ?_
    refine r_q (q_extract rfl rfl rfl) rfl rfl ?_
    refine r_q (q_extract rfl rfl rfl) rfl rfl ?_
    refine r_q (q_extract rfl rfl rfl) rfl rfl ?_
    refine r_do (a_alloc zr29 rfl) rfl rfl (fun x2 => ?_)
    refine r_do (a_storeb 0 rfl sz29 rfl rfl rfl rfl (Nat.le_of_ble_eq_true rfl) rfl) rfl rfl (fun _ => ?_)
    refine j_b0 [(.slice x1.1.A x1.1.n x1.1.c), (.slice x1.2.1.A x1.2.1.n x1.2.1.c), (.slice x1.2.2.1.A x1.2.2.1.n x1.2.2.1.c), (.slice x1.2.2.2.1.A x1.2.2.2.1.n x1.2.2.2.1.c), (.slice x1.2.2.2.2.A x1.2.2.2.2.n x1.2.2.2.2.c)] rfl ?_
    refine r_q (q_assign rfl rfl) rfl rfl ?_
    refine r_q (q_assign rfl rfl) rfl rfl ?_
    refine r_nil ?_
    refine j_then ?_
    refine j_seq ?_
    refine j_region ?_
    refine r_q (q_loadb_agg 0 rfl ag29 sz29 rfl rfl rfl rfl) rfl rfl ?_
    refine r_q (q_move rfl rfl) rfl rfl ?_
    refine r_q (q_move rfl rfl) rfl rfl ?_
    obtain ⟨v8, v9, v10, v11, v12, v13, hb2, h⟩ := of_b6 h
    refine r_do (a_call ok20 rfl rfl rfl rfl (fun w hm => impl_LinkCounted.calls K v1 x1.1.A x1.1.n x1.1.c v2 x1.2.1.A x1.2.1.n x1.2.1.c v3 x1.2.2.1.A x1.2.2.1.n x1.2.2.1.c v4 x1.2.2.2.1.A x1.2.2.2.1.n x1.2.2.2.1.c v5 x1.2.2.2.2.A x1.2.2.2.2.n x1.2.2.2.2.c v6 v7 hm x1.1.h (Rd.row 1 rfl) x1.2.1.h (Rd.row 2 rfl) x1.2.2.1.h (Rd.row 3 rfl) x1.2.2.2.1.h (Rd.row 4 rfl) (hm.roomI 4 rfl) x1.2.2.2.2.h (Rd.row 5 rfl) hb2)) rfl rfl (fun x3 => ?_)
    refine r_q (q_move rfl rfl) rfl rfl ?_
    refine r_q (q_extract rfl rfl rfl) rfl rfl ?_
    refine r_q (q_extract rfl rfl rfl) rfl rfl ?_
    refine r_do (a_alloc zr29 rfl) rfl rfl (fun x4 => ?_)
    refine r_do (a_storeb 0 rfl sz29 rfl rfl rfl rfl (Nat.le_of_ble_eq_true rfl) rfl) rfl rfl (fun _ => ?_)
    refine j_b0 [(.slice x3.1.A x3.1.n x3.1.c), (.slice x3.2.1.A x3.2.1.n x3.2.1.c), (.slice x3.2.2.1.A x3.2.2.1.n x3.2.2.1.c), (.slice x3.2.2.2.1.A x3.2.2.2.1.n x3.2.2.2.1.c), (.slice x3.2.2.2.2.A x3.2.2.2.2.n x3.2.2.2.2.c)] rfl ?_
    refine r_q (q_assign rfl rfl) rfl rfl ?_
    refine r_nil ?_
    refine j_then ?_
    refine j_seq ?_
    refine j_region ?_
    refine r_q (q_loadb_agg 6 rfl ag29 sz29 rfl rfl rfl rfl) rfl rfl ?_
    refine r_q (q_move rfl rfl) rfl rfl ?_
    refine r_q (q_move rfl rfl) rfl rfl ?_
    obtain ⟨v14, v15, v16, v17, v18, v19, hb3, h⟩ := of_b6 h
    refine r_do (a_call ok21 rfl rfl rfl rfl (fun w hm => spec_LinkCounted.calls K v1 x1.1.A x1.1.n x1.1.c v2 x1.2.1.A x1.2.1.n x1.2.1.c v3 x1.2.2.1.A x1.2.2.1.n x1.2.2.1.c v4 x1.2.2.2.1.A x1.2.2.2.1.n x1.2.2.2.1.c v5 x1.2.2.2.2.A x1.2.2.2.2.n x1.2.2.2.2.c v6 v7 hm x1.1.h (Rd.row 7 rfl) x1.2.1.h (Rd.row 8 rfl) x1.2.2.1.h (Rd.row 9 rfl) x1.2.2.2.1.h (Rd.row 10 rfl) (hm.roomI 10 rfl) x1.2.2.2.2.h (Rd.row 11 rfl) hb3)) rfl rfl (fun x5 => ?_)
    refine r_q (q_move rfl rfl) rfl rfl ?_
    refine r_q (q_extract rfl rfl rfl) rfl rfl ?_
    refine r_q (q_extract rfl rfl rfl) rfl rfl ?_
    refine r_do (a_alloc zr29 rfl) rfl rfl (fun x6 => ?_)
    refine r_do (a_storeb 0 rfl sz29 rfl rfl rfl rfl (Nat.le_of_ble_eq_true rfl) rfl) rfl rfl (fun _ => ?_)
    refine j_b0 [(.slice x5.1.A x5.1.n x5.1.c), (.slice x5.2.1.A x5.2.1.n x5.2.1.c), (.slice x5.2.2.1.A x5.2.2.1.n x5.2.2.1.c), (.slice x5.2.2.2.1.A x5.2.2.2.1.n x5.2.2.2.1.c), (.slice x5.2.2.2.2.A x5.2.2.2.2.n x5.2.2.2.2.c)] rfl ?_
    refine r_q (q_assign rfl rfl) rfl rfl ?_
    refine r_nil ?_
    refine j_then ?_
    refine j_seq ?_
    refine j_seq ?_
    refine j_region ?_
    refine r_q (q_loadb_agg 6 rfl ag29 sz29 rfl rfl rfl rfl) rfl rfl ?_
    refine r_q (q_loadb_agg 0 rfl ag29 sz29 rfl rfl rfl rfl) rfl rfl ?_
    obtain ⟨v20, hb4, h⟩ := of_b1 h
    refine r_do (a_call ok18 rfl rfl rfl rfl (fun w hm => impl_CountedSame.calls K v8 x3.1.A x3.1.n x3.1.c v9 x3.2.1.A x3.2.1.n x3.2.1.c v10 x3.2.2.1.A x3.2.2.1.n x3.2.2.1.c v11 x3.2.2.2.1.A x3.2.2.2.1.n x3.2.2.2.1.c v12 x3.2.2.2.2.A x3.2.2.2.2.n x3.2.2.2.2.c v14 x5.1.A x5.1.n x5.1.c v15 x5.2.1.A x5.2.1.n x5.2.1.c v16 x5.2.2.1.A x5.2.2.1.n x5.2.2.1.c v17 x5.2.2.2.1.A x5.2.2.2.1.n x5.2.2.2.1.c v18 x5.2.2.2.2.A x5.2.2.2.2.n x5.2.2.2.2.c hm x3.1.h (Rd.row 7 rfl) x3.2.1.h (Rd.row 8 rfl) x3.2.2.1.h (Rd.row 9 rfl) x3.2.2.2.1.h (Rd.row 10 rfl) x3.2.2.2.2.h (Rd.row 11 rfl) x5.1.h (Rd.row 1 rfl) x5.2.1.h (Rd.row 2 rfl) x5.2.2.1.h (Rd.row 3 rfl) x5.2.2.2.1.h (Rd.row 4 rfl) x5.2.2.2.2.h (Rd.row 5 rfl) hb4)) rfl rfl (fun x7 => ?_)
    refine r_q (q_not rfl rfl) rfl rfl ?_
    refine r_q (q_move rfl rfl) rfl rfl ?_
    rcases of_if h with ⟨c2, h⟩ | ⟨c2, h⟩
    · refine r_qon (q_move rfl rfl) rfl rfl rfl rfl (not_f c2) rfl ?_
      refine r_qon (q_move rfl rfl) rfl rfl rfl rfl (not_f c2) rfl ?_
      refine r_qon (q_bneq un4 rfl rfl rfl) rfl rfl rfl rfl (not_f c2) rfl ?_
      refine r_q (q_pick_f rfl rfl (not_f c2) rfl) rfl rfl ?_
      refine r_q (q_move rfl rfl) rfl rfl ?_
      rcases of_if h with ⟨c3, h⟩ | ⟨c3, h⟩
      · refine r_qon (q_move rfl rfl) rfl rfl rfl rfl (bne_f c3) rfl ?_
        refine r_qon (q_not rfl rfl) rfl rfl rfl rfl (bne_f c3) rfl ?_
        refine r_q (q_pick_f rfl rfl (bne_f c3) rfl) rfl rfl ?_
        refine r_nil ?_
        refine j_then ?_
        rcases of_if h with ⟨c4, h⟩ | ⟨c4, h⟩
        · refine j_false rfl (not_f c4) ?_
          refine j_skip ?_
          refine j_then ?_
          refine j_seq ?_
          refine j_region ?_
          refine r_q (q_fieldAddr fi29_0 sz27 rfl rfl rfl) rfl rfl ?_
          refine r_q (q_fieldAddr fi27_0 sz25 rfl rfl rfl) rfl rfl ?_
          refine r_q (q_fieldAddr fi25_2 sz23 rfl rfl rfl) rfl rfl ?_
          refine r_q (q_loadb 12 rfl ag23 rfl rfl rfl) rfl rfl ?_
          refine r_q (q_move rfl rfl) rfl rfl ?_
          obtain ⟨c5, h⟩ := of_guard h
          refine r_q (q_ix (Rd.row 15 rfl) (ints_len1 _ v3) (by decide) x1.2.2.1.h c5 un23 sz3 rfl rfl rfl) rfl rfl ?_
          refine r_q (q_ldI (Rd.row 15 rfl) c5 ag3 rfl rfl) rfl rfl ?_
          refine r_q (q_assign rfl rfl) rfl rfl ?_
          refine r_nil ?_
          refine j_then ?_
          refine j_seq ?_
          refine j_region ?_
          refine r_q (q_loadb_agg 12 rfl ag29 sz29 rfl rfl rfl rfl) rfl rfl ?_
          refine r_q (q_move rfl rfl) rfl rfl ?_
          refine r_q (q_move rfl rfl) rfl rfl ?_
          obtain ⟨v21, v22, v23, v24, v25, v26, hb5, h⟩ := of_b6 h
          refine r_do (a_call ok20 rfl rfl rfl rfl (fun w hm => impl_LinkCounted.calls K v1 x1.1.A x1.1.n x1.1.c v2 x1.2.1.A x1.2.1.n x1.2.1.c v3 x1.2.2.1.A x1.2.2.1.n x1.2.2.1.c v4 x1.2.2.2.1.A x1.2.2.2.1.n x1.2.2.2.1.c v5 x1.2.2.2.2.A x1.2.2.2.2.n x1.2.2.2.2.c v6 v6 hm x1.1.h (Rd.row 13 rfl) x1.2.1.h (Rd.row 14 rfl) x1.2.2.1.h (Rd.row 15 rfl) x1.2.2.2.1.h (Rd.row 16 rfl) (hm.roomI 16 rfl) x1.2.2.2.2.h (Rd.row 17 rfl) hb5)) rfl rfl (fun x8 => ?_)
          refine r_q (q_move rfl rfl) rfl rfl ?_
          refine r_q (q_extract rfl rfl rfl) rfl rfl ?_
          refine r_q (q_extract rfl rfl rfl) rfl rfl ?_
          refine r_do (a_alloc zr29 rfl) rfl rfl (fun x9 => ?_)
          refine r_do (a_storeb 0 rfl sz29 rfl rfl rfl rfl (Nat.le_of_ble_eq_true rfl) rfl) rfl rfl (fun _ => ?_)
          refine j_b0 [(.slice x8.1.A x8.1.n x8.1.c), (.slice x8.2.1.A x8.2.1.n x8.2.1.c), (.slice x8.2.2.1.A x8.2.2.1.n x8.2.2.1.c), (.slice x8.2.2.2.1.A x8.2.2.2.1.n x8.2.2.2.1.c), (.slice x8.2.2.2.2.A x8.2.2.2.2.n x8.2.2.2.2.c)] rfl ?_
          refine r_q (q_assign rfl rfl) rfl rfl ?_
          refine r_nil ?_
          refine j_then ?_
          refine j_seq ?_
          refine j_seq ?_
          refine j_region ?_
          refine r_q (q_assign rfl rfl) rfl rfl ?_
          refine r_nil ?_
          refine j_then ?_
          obtain ⟨κ0, h, hκ0⟩ := ex_k (g := fun κ => laws_FnLinkSelf.loop0 K κ K (0:Int) v21 v22 v23 v24 v25 = some r1) h
          refine j_cut (σ := (Option Addr) × Nat × Nat × (List Int) × (Option Addr) × Nat × Nat × (List Int) × (Option Addr) × Nat × Nat × (List Int) × (Option Addr) × Nat × Nat × (List Int) × (Option Addr) × Nat × Nat × (List Int)) (fun s => [(10, (i6 (rd v3 v6))), (11, (pt x9)), (12, (.bool v26))]) (fun s => .box x9 29 [(.slice s.1 s.2.1 s.2.2.1), (.slice s.2.2.2.2.1 s.2.2.2.2.2.1 s.2.2.2.2.2.2.1), (.slice s.2.2.2.2.2.2.2.2.1 s.2.2.2.2.2.2.2.2.2.1 s.2.2.2.2.2.2.2.2.2.2.1), (.slice s.2.2.2.2.2.2.2.2.2.2.2.2.1 s.2.2.2.2.2.2.2.2.2.2.2.2.2.1 s.2.2.2.2.2.2.2.2.2.2.2.2.2.2.1), (.slice s.2.2.2.2.2.2.2.2.2.2.2.2.2.2.2.2.1 s.2.2.2.2.2.2.2.2.2.2.2.2.2.2.2.2.2.1 s.2.2.2.2.2.2.2.2.2.2.2.2.2.2.2.2.2.2.1)] :: .row s.1 s.2.2.1 3 1 (ii s.2.2.2.1) :: .row s.2.2.2.2.1 s.2.2.2.2.2.2.1 3 1 (ii s.2.2.2.2.2.2.2.1) :: .row s.2.2.2.2.2.2.2.2.1 s.2.2.2.2.2.2.2.2.2.2.1 3 1 (ii s.2.2.2.2.2.2.2.2.2.2.2.1) :: .row s.2.2.2.2.2.2.2.2.2.2.2.2.1 s.2.2.2.2.2.2.2.2.2.2.2.2.2.2.1 3 1 (ii s.2.2.2.2.2.2.2.2.2.2.2.2.2.2.2.1) :: .row s.2.2.2.2.2.2.2.2.2.2.2.2.2.2.2.2.1 s.2.2.2.2.2.2.2.2.2.2.2.2.2.2.2.2.2.2.1 3 1 (ii s.2.2.2.2.2.2.2.2.2.2.2.2.2.2.2.2.2.2.2) :: F) (fun s => κ0 s.2.2.2.1 s.2.2.2.2.2.2.2.1 s.2.2.2.2.2.2.2.2.2.2.2.1 s.2.2.2.2.2.2.2.2.2.2.2.2.2.2.2.1 s.2.2.2.2.2.2.2.2.2.2.2.2.2.2.2.2.2.2.2 = some r1 ∧ (s.2.2.2.1.length = s.2.1) ∧ (s.2.2.2.2.2.2.2.1.length = s.2.2.2.2.2.1) ∧ (s.2.2.2.2.2.2.2.2.2.2.2.1.length = s.2.2.2.2.2.2.2.2.2.1) ∧ (s.2.2.2.2.2.2.2.2.2.2.2.2.2.2.2.1.length = s.2.2.2.2.2.2.2.2.2.2.2.2.2.1) ∧ (s.2.2.2.2.2.2.2.2.2.2.2.2.2.2.2.2.2.2.2.length = s.2.2.2.2.2.2.2.2.2.2.2.2.2.2.2.2.2.1)) ?_ ?_
          · refine j_block ?_
            refine j_loop (σ := Int × (Option Addr) × Nat × Nat × (List Int) × (Option Addr) × Nat × Nat × (List Int) × (Option Addr) × Nat × Nat × (List Int) × (Option Addr) × Nat × Nat × (List Int) × (Option Addr) × Nat × Nat × (List Int)) (fun s => [(10, (i6 (rd v3 v6))), (11, (pt x9)), (12, (.bool v26)), (13, (i6 s.1))]) (fun s => .box x9 29 [(.slice s.2.1 s.2.2.1 s.2.2.2.1), (.slice s.2.2.2.2.2.1 s.2.2.2.2.2.2.1 s.2.2.2.2.2.2.2.1), (.slice s.2.2.2.2.2.2.2.2.2.1 s.2.2.2.2.2.2.2.2.2.2.1 s.2.2.2.2.2.2.2.2.2.2.2.1), (.slice s.2.2.2.2.2.2.2.2.2.2.2.2.2.1 s.2.2.2.2.2.2.2.2.2.2.2.2.2.2.1 s.2.2.2.2.2.2.2.2.2.2.2.2.2.2.2.1), (.slice s.2.2.2.2.2.2.2.2.2.2.2.2.2.2.2.2.2.1 s.2.2.2.2.2.2.2.2.2.2.2.2.2.2.2.2.2.2.1 s.2.2.2.2.2.2.2.2.2.2.2.2.2.2.2.2.2.2.2.1)] :: .row s.2.1 s.2.2.2.1 3 1 (ii s.2.2.2.2.1) :: .row s.2.2.2.2.2.1 s.2.2.2.2.2.2.2.1 3 1 (ii s.2.2.2.2.2.2.2.2.1) :: .row s.2.2.2.2.2.2.2.2.2.1 s.2.2.2.2.2.2.2.2.2.2.2.1 3 1 (ii s.2.2.2.2.2.2.2.2.2.2.2.2.1) :: .row s.2.2.2.2.2.2.2.2.2.2.2.2.2.1 s.2.2.2.2.2.2.2.2.2.2.2.2.2.2.2.1 3 1 (ii s.2.2.2.2.2.2.2.2.2.2.2.2.2.2.2.2.1) :: .row s.2.2.2.2.2.2.2.2.2.2.2.2.2.2.2.2.2.1 s.2.2.2.2.2.2.2.2.2.2.2.2.2.2.2.2.2.2.2.1 3 1 (ii s.2.2.2.2.2.2.2.2.2.2.2.2.2.2.2.2.2.2.2.2) :: F) (fun m s => laws_FnLinkSelf.loop0 K κ0 m s.1 s.2.2.2.2.1 s.2.2.2.2.2.2.2.2.1 s.2.2.2.2.2.2.2.2.2.2.2.2.1 s.2.2.2.2.2.2.2.2.2.2.2.2.2.2.2.2.1 s.2.2.2.2.2.2.2.2.2.2.2.2.2.2.2.2.2.2.2.2 = some r1 ∧ (s.2.2.2.2.1.length = s.2.2.1) ∧ (s.2.2.2.2.2.2.2.2.1.length = s.2.2.2.2.2.2.1) ∧ (s.2.2.2.2.2.2.2.2.2.2.2.2.1.length = s.2.2.2.2.2.2.2.2.2.2.1) ∧ (s.2.2.2.2.2.2.2.2.2.2.2.2.2.2.2.2.1.length = s.2.2.2.2.2.2.2.2.2.2.2.2.2.2.1) ∧ (s.2.2.2.2.2.2.2.2.2.2.2.2.2.2.2.2.2.2.2.2.length = s.2.2.2.2.2.2.2.2.2.2.2.2.2.2.2.2.2.2.1)) K ((0:Int), x8.1.A, x8.1.n, x8.1.c, v21, x8.2.1.A, x8.2.1.n, x8.2.1.c, v22, x8.2.2.1.A, x8.2.2.1.n, x8.2.2.1.c, v23, x8.2.2.2.1.A, x8.2.2.2.1.n, x8.2.2.2.1.c, v24, x8.2.2.2.2.A, x8.2.2.2.2.n, x8.2.2.2.2.c, v25) ⟨h, x8.1.h, x8.2.1.h, x8.2.2.1.h, x8.2.2.2.1.h, x8.2.2.2.2.h⟩ (fun a he => he.sub ⟨rfl, rfl, rfl, rfl, trivial⟩) (fun w h => h.pick 24 [0, 1, 2, 3, 4, 5] rfl) ?_
            rintro m ⟨p2, A6, n6, d6, l6, A7, n7, d7, l7, A8, n8, d8, l8, A9, n9, d9, l9, A10, n10, d10, l10⟩ ⟨h, q6, q7, q8, q9, q10⟩
            cases m with
            | zero => exact absurd h (by rw [laws_FnLinkSelf.loop0]; exact nofun)
            | succ m =>
              rw [laws_FnLinkSelf.loop0] at h
              show J _ _ [(10, (i6 (rd v3 v6))), (11, (pt x9)), (12, (.bool v26)), (13, (i6 p2))] _ (.box x9 29 [(.slice A6 n6 d6), (.slice A7 n7 d7), (.slice A8 n8 d8), (.slice A9 n9 d9), (.slice A10 n10 d10)] :: .row A6 d6 3 1 (ii l6) :: .row A7 d7 3 1 (ii l7) :: .row A8 d8 3 1 (ii l8) :: .row A9 d9 3 1 (ii l9) :: .row A10 d10 3 1 (ii l10) :: F)
              refine j_seq ?_
              refine j_seq ?_
              refine j_region ?_
              refine r_q (q_move rfl rfl) rfl rfl ?_
              refine r_q (q_fieldAddr fi29_0 sz27 rfl rfl rfl) rfl rfl ?_
              refine r_q (q_fieldAddr fi27_0 sz25 rfl rfl rfl) rfl rfl ?_
              refine r_q (q_fieldAddr fi25_2 sz23 rfl rfl rfl) rfl rfl ?_
              refine r_q (q_loadb 0 rfl ag23 rfl rfl rfl) rfl rfl ?_
              refine r_q (q_lenX l8 q8 un23 rfl rfl rfl rfl rfl) rfl rfl ?_
              refine r_q (q_lss rfl rfl rfl) rfl rfl ?_
              refine r_nil ?_
              refine j_then ?_
              rcases of_if h with ⟨c12, h⟩ | ⟨c12, h⟩
              · refine j_true rfl (decide_eq_true c12) ?_
                refine j_skip ?_
                refine j_then ?_
                refine j_seq ?_
                refine j_block ?_
                refine j_seq ?_
                refine j_region ?_
                refine r_q (q_loadb_agg 0 rfl ag29 sz29 rfl rfl rfl rfl) rfl rfl ?_
                refine r_q (q_move rfl rfl) rfl rfl ?_
                obtain ⟨v45, v46, v47, v48, v49, v50, hb9, h⟩ := of_b6 h
                refine r_do (a_call ok16 rfl rfl rfl rfl (fun w hm => impl_DropRoot.calls K l6 A6 n6 d6 l7 A7 n7 d7 l8 A8 n8 d8 l9 A9 n9 d9 l10 A10 n10 d10 p2 hm q6 (Rd.row 1 rfl) q7 (Rd.row 2 rfl) q8 (Rd.row 3 rfl) q9 (Rd.row 4 rfl) (hm.roomI 4 rfl) q10 (Rd.row 5 rfl) hb9)) rfl rfl (fun x10 => ?_)
                refine r_q (q_move rfl rfl) rfl rfl ?_
                refine r_q (q_extract rfl rfl rfl) rfl rfl ?_
                refine r_q (q_extract rfl rfl rfl) rfl rfl ?_
                refine r_do (a_alloc zr29 rfl) rfl rfl (fun x11 => ?_)
                refine r_do (a_storeb 0 rfl sz29 rfl rfl rfl rfl (Nat.le_of_ble_eq_true rfl) rfl) rfl rfl (fun _ => ?_)
                refine j_b0 [(.slice x10.1.A x10.1.n x10.1.c), (.slice x10.2.1.A x10.2.1.n x10.2.1.c), (.slice x10.2.2.1.A x10.2.2.1.n x10.2.2.1.c), (.slice x10.2.2.2.1.A x10.2.2.2.1.n x10.2.2.2.1.c), (.slice x10.2.2.2.2.A x10.2.2.2.2.n x10.2.2.2.2.c)] rfl ?_
                refine r_q (q_assign rfl rfl) rfl rfl ?_
                refine r_nil ?_
                refine j_then ?_
                refine j_seq ?_
                refine j_seq ?_
                refine j_region ?_
                refine r_q (q_move rfl rfl) rfl rfl ?_
                refine r_q (q_not rfl rfl) rfl rfl ?_
                refine r_nil ?_
                refine j_then ?_
                rcases of_if h with ⟨c13, h⟩ | ⟨c13, h⟩
                · refine j_false rfl (not_f c13) ?_
                  refine j_skip ?_
                  refine j_then ?_
                  refine j_region ?_
                  refine r_q (q_loadb_agg 0 rfl ag29 sz29 rfl rfl rfl rfl) rfl rfl ?_
                  refine r_do (a_storeb 6 rfl sz29 rfl rfl rfl rfl (Nat.le_of_ble_eq_true rfl) rfl) rfl rfl (fun _ => ?_)
                  refine j_b6 [(.slice x10.1.A x10.1.n x10.1.c), (.slice x10.2.1.A x10.2.1.n x10.2.1.c), (.slice x10.2.2.1.A x10.2.2.1.n x10.2.2.1.c), (.slice x10.2.2.2.1.A x10.2.2.2.1.n x10.2.2.2.1.c), (.slice x10.2.2.2.2.A x10.2.2.2.2.n x10.2.2.2.2.c)] rfl ?_
                  refine r_nil ?_
                  refine j_in ?_
                  refine j_then ?_
                  refine j_region ?_
                  refine r_q (q_move rfl rfl) rfl rfl ?_
                  refine r_q (q_add rfl rfl rfl) rfl rfl ?_
                  refine r_q (q_assign rfl rfl) rfl rfl ?_
                  refine r_nil ?_
                  refine j_then ?_
                  exact j_again m ((wrap64 (p2 + (1:Int))), x10.1.A, x10.1.n, x10.1.c, v45, x10.2.1.A, x10.2.1.n, x10.2.1.c, v46, x10.2.2.1.A, x10.2.2.1.n, x10.2.2.1.c, v47, x10.2.2.2.1.A, x10.2.2.2.1.n, x10.2.2.2.1.c, v48, x10.2.2.2.2.A, x10.2.2.2.2.n, x10.2.2.2.2.c, v49) (Nat.lt_succ_self m) ⟨h, x10.1.h, x10.2.1.h, x10.2.2.1.h, x10.2.2.2.1.h, x10.2.2.2.2.h⟩ (fun a he => he.sub ⟨rfl, rfl, rfl, rfl, trivial⟩) (fun w h => h.pick 12 [6, 1, 2, 3, 4, 5] rfl)
                · refine j_true rfl (not_t (var_f c13)) ?_
                  refine j_seq ?_
                  refine j_region ?_
                  refine r_q (q_assign rfl rfl) rfl rfl ?_
                  refine r_nil ?_
                  refine j_then ?_
                  refine j_ret ?_
                  refine j_then_ret ?_
                  refine j_in_ret ?_
                  refine j_then_ret ?_
                  refine j_then_ret ?_
                  refine j_in_ret ?_
                  refine j_then_ret ?_
                  refine j_then_ret ?_
                  cases h
                  exact j_return rfl (ResOf.tmp rfl ResOf.nil) rfl (fun w h => ⟨(), rfl, (h.drop 12)⟩)
              · refine j_false rfl (decide_eq_false c12) ?_
                refine j_exit ?_
                refine j_then_exit ?_
                refine j_then_exit ?_
                refine j_in_exit ?_
                refine j_then ?_
                exact j_meet (A6, n6, d6, l6, A7, n7, d7, l7, A8, n8, d8, l8, A9, n9, d9, l9, A10, n10, d10, l10) ⟨h, q6, q7, q8, q9, q10⟩ (fun a he => he.sub ⟨rfl, rfl, rfl, trivial⟩) (fun w h => h)
          · rintro ⟨A11, n11, d11, l11, A12, n12, d12, l12, A13, n13, d13, l13, A14, n14, d14, l14, A15, n15, d15, l15⟩ ⟨h, q11, q12, q13, q14, q15⟩
            subst hκ0
            show J _ _ [(10, (i6 (rd v3 v6))), (11, (pt x9)), (12, (.bool v26))] _ (.box x9 29 [(.slice A11 n11 d11), (.slice A12 n12 d12), (.slice A13 n13 d13), (.slice A14 n14 d14), (.slice A15 n15 d15)] :: .row A11 d11 3 1 (ii l11) :: .row A12 d12 3 1 (ii l12) :: .row A13 d13 3 1 (ii l13) :: .row A14 d14 3 1 (ii l14) :: .row A15 d15 3 1 (ii l15) :: F)
            refine j_then ?_
            refine j_seq ?_
            refine j_region ?_
            refine r_q (q_move rfl rfl) rfl rfl ?_
            refine r_q (q_move rfl rfl) rfl rfl ?_
            rcases of_if h with ⟨c14, h⟩ | ⟨c14, h⟩
            · refine r_qon (q_fieldAddr fi29_0 sz27 rfl rfl rfl) rfl rfl rfl rfl c14 rfl ?_
              refine r_qon (q_loadb_agg 0 rfl ag27 sz27 rfl rfl rfl rfl) rfl rfl rfl rfl c14 rfl ?_
              refine r_qon (q_move rfl rfl) rfl rfl rfl rfl c14 rfl ?_
              obtain ⟨v51, hb10, h⟩ := of_b1 h
              refine r_on (a_call ok23 rfl rfl rfl rfl (fun w hm => impl_IsFree.calls K l11 A11 n11 d11 l12 A12 n12 d12 l13 A13 n13 d13 l14 A14 n14 d14 (rd v3 v6) hm q11 (Rd.row 1 rfl) q12 (Rd.row 2 rfl) q13 (Rd.row 3 rfl) q14 (Rd.row 4 rfl) (hm.roomI 4 rfl) hb10)) rfl rfl rfl rfl c14 rfl (fun x12 => ?_)
              refine r_qon (q_not rfl rfl) rfl rfl rfl rfl c14 rfl ?_
              refine r_q (q_pick_t rfl rfl c14 rfl) rfl rfl ?_
              refine r_q (q_move rfl rfl) rfl rfl ?_
              rcases of_if h with ⟨c15, h⟩ | ⟨c15, h⟩
              · refine r_off rfl rfl rfl rfl (not_f c15) rfl ?_
                refine r_off rfl rfl rfl rfl (not_f c15) rfl ?_
                refine r_off rfl rfl rfl rfl (not_f c15) rfl ?_
                refine r_off rfl rfl rfl rfl (not_f c15) rfl ?_
                refine r_off rfl rfl rfl rfl (not_f c15) rfl ?_
                refine r_off rfl rfl rfl rfl (not_f c15) rfl ?_
                refine r_q (q_pick_f rfl rfl (not_f c15) rfl) rfl rfl ?_
                refine r_q (q_assign rfl rfl) rfl rfl ?_
                refine r_nil ?_
                refine j_then ?_
                refine j_ret ?_
                cases h
                exact j_return rfl (ResOf.tmp rfl ResOf.nil) rfl (fun w h => ⟨(), rfl, (h.drop 6)⟩)
              · refine r_qon (q_fieldAddr fi29_1 sz23 rfl rfl rfl) rfl rfl rfl rfl (not_t (var_f c15)) rfl ?_
                refine r_qon (q_loadb 0 rfl ag23 rfl rfl rfl) rfl rfl rfl rfl (not_t (var_f c15)) rfl ?_
                refine r_qon (q_move rfl rfl) rfl rfl rfl rfl (not_t (var_f c15)) rfl ?_
                obtain ⟨c16, h⟩ := of_guard h
                refine r_qon (q_ix (Rd.row 5 rfl) (ints_len1 _ l15) (by decide) q15 c16 un23 sz3 rfl rfl rfl) rfl rfl rfl rfl (not_t (var_f c15)) rfl ?_
                refine r_qon (q_ldI (Rd.row 5 rfl) c16 ag3 rfl rfl) rfl rfl rfl rfl (not_t (var_f c15)) rfl ?_
                refine r_qon (q_geq rfl rfl rfl) rfl rfl rfl rfl (not_t (var_f c15)) rfl ?_
                refine r_q (q_pick_t rfl rfl (not_t (var_f c15)) rfl) rfl rfl ?_
                refine r_q (q_assign rfl rfl) rfl rfl ?_
                refine r_nil ?_
                refine j_then ?_
                refine j_ret ?_
                cases h
                exact j_return rfl (ResOf.tmp rfl ResOf.nil) rfl (fun w h => ⟨(), rfl, (h.drop 6)⟩)
            · refine r_off rfl rfl rfl rfl (var_f c14) rfl ?_
              refine r_off rfl rfl rfl rfl (var_f c14) rfl ?_
              refine r_off rfl rfl rfl rfl (var_f c14) rfl ?_
              refine r_off rfl rfl rfl rfl (var_f c14) rfl ?_
              refine r_off rfl rfl rfl rfl (var_f c14) rfl ?_
              refine r_q (q_pick_f rfl rfl (var_f c14) rfl) rfl rfl ?_
              refine r_q (q_move rfl rfl) rfl rfl ?_
              refine r_off rfl rfl rfl rfl rfl rfl ?_
              refine r_off rfl rfl rfl rfl rfl rfl ?_
              refine r_off rfl rfl rfl rfl rfl rfl ?_
              refine r_off rfl rfl rfl rfl rfl rfl ?_
              refine r_off rfl rfl rfl rfl rfl rfl ?_
              refine r_off rfl rfl rfl rfl rfl rfl ?_
              refine r_q (q_pick_f rfl rfl rfl rfl) rfl rfl ?_
              refine r_q (q_assign rfl rfl) rfl rfl ?_
              refine r_nil ?_
              refine j_then ?_
              refine j_ret ?_
              cases h
              exact j_return rfl (ResOf.tmp rfl ResOf.nil) rfl (fun w h => ⟨(), rfl, (h.drop 6)⟩)
        · refine j_true rfl (not_t (var_f c4)) ?_
          refine j_seq ?_
          refine j_region ?_
          refine r_q (q_loadb_agg 6 rfl ag29 sz29 rfl rfl rfl rfl) rfl rfl ?_
          refine r_q (q_loadb_agg 0 rfl ag29 sz29 rfl rfl rfl rfl) rfl rfl ?_
          obtain ⟨v52, hb11, h⟩ := of_b1 h
          refine r_do (a_call ok18 rfl rfl rfl rfl (fun w hm => impl_CountedSame.calls K v8 x3.1.A x3.1.n x3.1.c v9 x3.2.1.A x3.2.1.n x3.2.1.c v10 x3.2.2.1.A x3.2.2.1.n x3.2.2.1.c v11 x3.2.2.2.1.A x3.2.2.2.1.n x3.2.2.2.1.c v12 x3.2.2.2.2.A x3.2.2.2.2.n x3.2.2.2.2.c v14 x5.1.A x5.1.n x5.1.c v15 x5.2.1.A x5.2.1.n x5.2.1.c v16 x5.2.2.1.A x5.2.2.1.n x5.2.2.1.c v17 x5.2.2.2.1.A x5.2.2.2.1.n x5.2.2.2.1.c v18 x5.2.2.2.2.A x5.2.2.2.2.n x5.2.2.2.2.c hm x3.1.h (Rd.row 7 rfl) x3.2.1.h (Rd.row 8 rfl) x3.2.2.1.h (Rd.row 9 rfl) x3.2.2.2.1.h (Rd.row 10 rfl) x3.2.2.2.2.h (Rd.row 11 rfl) x5.1.h (Rd.row 1 rfl) x5.2.1.h (Rd.row 2 rfl) x5.2.2.1.h (Rd.row 3 rfl) x5.2.2.2.1.h (Rd.row 4 rfl) x5.2.2.2.2.h (Rd.row 5 rfl) hb11)) rfl rfl (fun x13 => ?_)
          refine r_q (q_move rfl rfl) rfl rfl ?_
          rcases of_if h with ⟨c17, h⟩ | ⟨c17, h⟩
          · refine r_qon (q_move rfl rfl) rfl rfl rfl rfl c17 rfl ?_
            refine r_qon (q_move rfl rfl) rfl rfl rfl rfl c17 rfl ?_
            refine r_qon (q_beql un4 rfl rfl rfl) rfl rfl rfl rfl c17 rfl ?_
            refine r_q (q_pick_t rfl rfl c17 rfl) rfl rfl ?_
            refine r_q (q_assign rfl rfl) rfl rfl ?_
            refine r_nil ?_
            refine j_then ?_
            refine j_ret ?_
            refine j_then_ret ?_
            cases h
            exact j_return rfl (ResOf.tmp rfl ResOf.nil) rfl (fun w h => ⟨(), rfl, (h.drop 18)⟩)
          · refine r_off rfl rfl rfl rfl (var_f c17) rfl ?_
            refine r_off rfl rfl rfl rfl (var_f c17) rfl ?_
            refine r_off rfl rfl rfl rfl (var_f c17) rfl ?_
            refine r_q (q_pick_f rfl rfl (var_f c17) rfl) rfl rfl ?_
            refine r_q (q_assign rfl rfl) rfl rfl ?_
            refine r_nil ?_
            refine j_then ?_
            refine j_ret ?_
            refine j_then_ret ?_
            cases h
            exact j_return rfl (ResOf.tmp rfl ResOf.nil) rfl (fun w h => ⟨(), rfl, (h.drop 18)⟩)
      · refine r_off rfl rfl rfl rfl (bne_t c3) rfl ?_
        refine r_off rfl rfl rfl rfl (bne_t c3) rfl ?_
        refine r_q (q_pick_t rfl rfl (bne_t c3) rfl) rfl rfl ?_
        refine r_nil ?_
        refine j_then ?_
        refine j_true rfl rfl ?_
        refine j_seq ?_
        refine j_region ?_
        refine r_q (q_loadb_agg 6 rfl ag29 sz29 rfl rfl rfl rfl) rfl rfl ?_
        refine r_q (q_loadb_agg 0 rfl ag29 sz29 rfl rfl rfl rfl) rfl rfl ?_
        obtain ⟨v53, hb12, h⟩ := of_b1 h
        refine r_do (a_call ok18 rfl rfl rfl rfl (fun w hm => impl_CountedSame.calls K v8 x3.1.A x3.1.n x3.1.c v9 x3.2.1.A x3.2.1.n x3.2.1.c v10 x3.2.2.1.A x3.2.2.1.n x3.2.2.1.c v11 x3.2.2.2.1.A x3.2.2.2.1.n x3.2.2.2.1.c v12 x3.2.2.2.2.A x3.2.2.2.2.n x3.2.2.2.2.c v14 x5.1.A x5.1.n x5.1.c v15 x5.2.1.A x5.2.1.n x5.2.1.c v16 x5.2.2.1.A x5.2.2.1.n x5.2.2.1.c v17 x5.2.2.2.1.A x5.2.2.2.1.n x5.2.2.2.1.c v18 x5.2.2.2.2.A x5.2.2.2.2.n x5.2.2.2.2.c hm x3.1.h (Rd.row 7 rfl) x3.2.1.h (Rd.row 8 rfl) x3.2.2.1.h (Rd.row 9 rfl) x3.2.2.2.1.h (Rd.row 10 rfl) x3.2.2.2.2.h (Rd.row 11 rfl) x5.1.h (Rd.row 1 rfl) x5.2.1.h (Rd.row 2 rfl) x5.2.2.1.h (Rd.row 3 rfl) x5.2.2.2.1.h (Rd.row 4 rfl) x5.2.2.2.2.h (Rd.row 5 rfl) hb12)) rfl rfl (fun x13 => ?_)
        refine r_q (q_move rfl rfl) rfl rfl ?_
        rcases of_if h with ⟨c18, h⟩ | ⟨c18, h⟩
        · refine r_qon (q_move rfl rfl) rfl rfl rfl rfl c18 rfl ?_
          refine r_qon (q_move rfl rfl) rfl rfl rfl rfl c18 rfl ?_
          refine r_qon (q_beql un4 rfl rfl rfl) rfl rfl rfl rfl c18 rfl ?_
          refine r_q (q_pick_t rfl rfl c18 rfl) rfl rfl ?_
          refine r_q (q_assign rfl rfl) rfl rfl ?_
          refine r_nil ?_
          refine j_then ?_
          refine j_ret ?_
          refine j_then_ret ?_
          cases h
          exact j_return rfl (ResOf.tmp rfl ResOf.nil) rfl (fun w h => ⟨(), rfl, (h.drop 18)⟩)
        · refine r_off rfl rfl rfl rfl (var_f c18) rfl ?_
          refine r_off rfl rfl rfl rfl (var_f c18) rfl ?_
          refine r_off rfl rfl rfl rfl (var_f c18) rfl ?_
          refine r_q (q_pick_f rfl rfl (var_f c18) rfl) rfl rfl ?_
          refine r_q (q_assign rfl rfl) rfl rfl ?_
          refine r_nil ?_
          refine j_then ?_
          refine j_ret ?_
          refine j_then_ret ?_
          cases h
          exact j_return rfl (ResOf.tmp rfl ResOf.nil) rfl (fun w h => ⟨(), rfl, (h.drop 18)⟩)
    · refine r_off rfl rfl rfl rfl (not_t (var_f c2)) rfl ?_
      refine r_off rfl rfl rfl rfl (not_t (var_f c2)) rfl ?_
      refine r_off rfl rfl rfl rfl (not_t (var_f c2)) rfl ?_
      refine r_q (q_pick_t rfl rfl (not_t (var_f c2)) rfl) rfl rfl ?_
      refine r_q (q_move rfl rfl) rfl rfl ?_
      refine r_off rfl rfl rfl rfl rfl rfl ?_
      refine r_off rfl rfl rfl rfl rfl rfl ?_
      refine r_q (q_pick_t rfl rfl rfl rfl) rfl rfl ?_
      refine r_nil ?_
      refine j_then ?_
      refine j_true rfl rfl ?_
      refine j_seq ?_
      refine j_region ?_
      refine r_q (q_loadb_agg 6 rfl ag29 sz29 rfl rfl rfl rfl) rfl rfl ?_
      refine r_q (q_loadb_agg 0 rfl ag29 sz29 rfl rfl rfl rfl) rfl rfl ?_
      obtain ⟨v54, hb13, h⟩ := of_b1 h
      refine r_do (a_call ok18 rfl rfl rfl rfl (fun w hm => impl_CountedSame.calls K v8 x3.1.A x3.1.n x3.1.c v9 x3.2.1.A x3.2.1.n x3.2.1.c v10 x3.2.2.1.A x3.2.2.1.n x3.2.2.1.c v11 x3.2.2.2.1.A x3.2.2.2.1.n x3.2.2.2.1.c v12 x3.2.2.2.2.A x3.2.2.2.2.n x3.2.2.2.2.c v14 x5.1.A x5.1.n x5.1.c v15 x5.2.1.A x5.2.1.n x5.2.1.c v16 x5.2.2.1.A x5.2.2.1.n x5.2.2.1.c v17 x5.2.2.2.1.A x5.2.2.2.1.n x5.2.2.2.1.c v18 x5.2.2.2.2.A x5.2.2.2.2.n x5.2.2.2.2.c hm x3.1.h (Rd.row 7 rfl) x3.2.1.h (Rd.row 8 rfl) x3.2.2.1.h (Rd.row 9 rfl) x3.2.2.2.1.h (Rd.row 10 rfl) x3.2.2.2.2.h (Rd.row 11 rfl) x5.1.h (Rd.row 1 rfl) x5.2.1.h (Rd.row 2 rfl) x5.2.2.1.h (Rd.row 3 rfl) x5.2.2.2.1.h (Rd.row 4 rfl) x5.2.2.2.2.h (Rd.row 5 rfl) hb13)) rfl rfl (fun x13 => ?_)
      refine r_q (q_move rfl rfl) rfl rfl ?_
      rcases of_if h with ⟨c19, h⟩ | ⟨c19, h⟩
      · refine r_qon (q_move rfl rfl) rfl rfl rfl rfl c19 rfl ?_
        refine r_qon (q_move rfl rfl) rfl rfl rfl rfl c19 rfl ?_
        refine r_qon (q_beql un4 rfl rfl rfl) rfl rfl rfl rfl c19 rfl ?_
        refine r_q (q_pick_t rfl rfl c19 rfl) rfl rfl ?_
        refine r_q (q_assign rfl rfl) rfl rfl ?_
        refine r_nil ?_
        refine j_then ?_
        refine j_ret ?_
        refine j_then_ret ?_
        cases h
        exact j_return rfl (ResOf.tmp rfl ResOf.nil) rfl (fun w h => ⟨(), rfl, (h.drop 18)⟩)
      · refine r_off rfl rfl rfl rfl (var_f c19) rfl ?_
        refine r_off rfl rfl rfl rfl (var_f c19) rfl ?_
        refine r_off rfl rfl rfl rfl (var_f c19) rfl ?_
        refine r_q (q_pick_f rfl rfl (var_f c19) rfl) rfl rfl ?_
        refine r_q (q_assign rfl rfl) rfl rfl ?_
        refine r_nil ?_
        refine j_then ?_
        refine j_ret ?_
        refine j_then_ret ?_
        cases h
        exact j_return rfl (ResOf.tmp rfl ResOf.nil) rfl (fun w h => ⟨(), rfl, (h.drop 18)⟩)

end Go.Proofs.Ytgganabcfloioaa.F
