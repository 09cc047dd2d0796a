/- The program computes these pure functions, printed by the generator of wip/gen. -/
import Derived.Test.YtgganabcfloioaaFa
import Derived.Test.YtgganabcfloioaaFh
import Derived.Test.YtgganabcfloioaaFb
import Derived.Test.YtgganabcfloioaaC0
import Derived.Test.YtgganabcfloioaaC1
import Derived.Test.YtgganabcfloioaaC2
import Derived.Test.YtgganabcfloioaaC3
import Derived.Test.YtgganabcfloioaaC4
import Derived.Test.YtgganabcfloioaaC5
import Derived.Test.YtgganabcfloioaaC6
import Derived.Test.YtgganabcfloioaaC7
import Derived.Test.YtgganabcfloioaaC12
import Derived.Test.YtgganabcfloioaaC13
namespace Go.Proofs.Ytgganabcfloioaa.F
open Go Go.RowKit Go.Proofs.Ytgganabcfloioaa.S
set_option linter.unusedVariables false
set_option maxRecDepth 100000
theorem laws_FnCountsSame.calls (K : Nat) (a0 : List Int) (a0_A : Option Addr) (a0_n a0_c : Nat) {w0 w : World} {F : List Res} {r1 : Bool} (hm : Mem w0 (F) w) (a0_h : a0.length = a0_n) (a0_R : Rd w0 F a0_A (ints .u8 a0)) (a0_k : a0.length ≤ a0_c) (h : laws_FnCountsSame.f K a0 = some r1) :
    Calls Try.prog 11 (List.toArray [.slice a0_A a0_n a0_c]) w fun e w' => ∃ x : Unit, e = .returned (.bool r1) ∧ Mem w0 (F) w' := by
  unfold laws_FnCountsSame.f at h
  refine calls_of_J (n := 34) Try.func11 rfl rfl rfl hm ?_
  refine j_seq ?_
  refine j_region ?_
  refine r_q (q_assign rfl rfl) rfl rfl ?_
  refine r_nil ?_
  refine j_then ?_
  refine j_seq ?_
  refine j_seq ?_
  refine j_region ?_
  refine r_q (q_move rfl rfl) rfl rfl ?_
  refine r_q (q_lenX a0 a0_h un22 rfl rfl rfl rfl rfl) rfl rfl ?_
  refine r_q (q_gtr rfl rfl rfl) rfl rfl ?_
  refine r_nil ?_
  refine j_then ?_
  rcases of_if h with ⟨c1, h⟩ | ⟨c1, h⟩
  · refine j_true rfl (decide_eq_true c1) ?_
    refine j_seq ?_
    refine j_region ?_
    refine r_q (q_assign rfl rfl) rfl rfl ?_
    refine r_nil ?_
    refine j_then ?_
    refine j_ret ?_
    refine j_then_ret ?_
    cases h
    exact j_return rfl (ResOf.tmp rfl ResOf.nil) rfl (fun w h => ⟨(), rfl, h⟩)
  · refine j_false rfl (decide_eq_false c1) ?_
    refine j_skip ?_
    refine j_then ?_
    refine j_seq ?_
    refine j_region ?_
    refine r_q (q_move rfl rfl) rfl rfl ?_
    obtain ⟨v1, v2, v3, v4, v5, hb1, h⟩ := of_b5 h
    refine r_do (a_call ok28 rfl rfl rfl rfl (fun w hm => spec_DrawCountedValid.calls K a0 a0_A a0_n a0_c hm a0_h a0_R a0_k hb1)) rfl rfl (fun x1 => ?_)
    refine r_do (a_alloc zr29 rfl) rfl rfl (fun x2 => ?_)
    refine r_do (a_storeb 0 rfl sz29 rfl rfl rfl rfl (Nat.le_of_ble_eq_true rfl) rfl) rfl rfl (fun _ => ?_)
    refine j_b0 [(.slice x1.1.A x1.1.n x1.1.c), (.slice x1.2.1.A x1.2.1.n x1.2.1.c), (.slice x1.2.2.1.A x1.2.2.1.n x1.2.2.1.c), (.slice x1.2.2.2.1.A x1.2.2.2.1.n x1.2.2.2.1.c), (.slice x1.2.2.2.2.A x1.2.2.2.2.n x1.2.2.2.2.c)] rfl ?_
    refine r_nil ?_
    refine j_then ?_
    refine j_seq ?_
    refine j_region ?_
    refine r_q (q_loadb_agg 0 rfl ag29 sz29 rfl rfl rfl rfl) rfl rfl ?_
    obtain ⟨v6, hb2, h⟩ := of_b1 h
    refine r_do (a_call ok22 rfl rfl rfl rfl (fun w hm => impl_CountedValid.calls K v1 x1.1.A x1.1.n x1.1.c v2 x1.2.1.A x1.2.1.n x1.2.1.c v3 x1.2.2.1.A x1.2.2.1.n x1.2.2.1.c v4 x1.2.2.2.1.A x1.2.2.2.1.n x1.2.2.2.1.c v5 x1.2.2.2.2.A x1.2.2.2.2.n x1.2.2.2.2.c hm x1.1.h (Rd.row 1 rfl) x1.2.1.h (Rd.row 2 rfl) x1.2.2.1.h (Rd.row 3 rfl) x1.2.2.2.1.h (Rd.row 4 rfl) (hm.roomI 4 rfl) x1.2.2.2.2.h (Rd.row 5 rfl) hb2)) rfl rfl (fun x3 => ?_)
    refine r_q (q_assign rfl rfl) rfl rfl ?_
    refine r_nil ?_
    refine j_then ?_
    refine j_seq ?_
    refine j_region ?_
    refine r_q (q_fieldAddr fi29_0 sz27 rfl rfl rfl) rfl rfl ?_
    refine r_q (q_loadb_agg 0 rfl ag27 sz27 rfl rfl rfl rfl) rfl rfl ?_
    obtain ⟨v7, v8, v9, v10, v11, v12, hb3, h⟩ := of_b6 h
    refine r_do (a_call ok33 rfl rfl rfl rfl (fun w hm => impl_NewCounted.calls K v1 x1.1.A x1.1.n x1.1.c v2 x1.2.1.A x1.2.1.n x1.2.1.c v3 x1.2.2.1.A x1.2.2.1.n x1.2.2.1.c v4 x1.2.2.2.1.A x1.2.2.2.1.n x1.2.2.2.1.c hm x1.1.h (Rd.row 1 rfl) x1.2.1.h (Rd.row 2 rfl) x1.2.2.1.h (Rd.row 3 rfl) x1.2.2.2.1.h (Rd.row 4 rfl) (hm.roomI 4 rfl) hb3)) rfl rfl (fun x4 => ?_)
    refine r_q (q_move rfl rfl) rfl rfl ?_
    refine r_q (q_extract rfl rfl rfl) rfl rfl ?_
    refine r_q (q_extract rfl rfl rfl) rfl rfl ?_
    refine r_do (a_alloc zr29 rfl) rfl rfl (fun x5 => ?_)
    refine r_do (a_storeb 0 rfl sz29 rfl rfl rfl rfl (Nat.le_of_ble_eq_true rfl) rfl) rfl rfl (fun _ => ?_)
    refine j_b0 [(.slice x4.1.A x4.1.n x4.1.c), (.slice x4.2.1.A x4.2.1.n x4.2.1.c), (.slice x4.2.2.1.A x4.2.2.1.n x4.2.2.1.c), (.slice x4.2.2.2.1.A x4.2.2.2.1.n x4.2.2.2.1.c), (.slice x4.2.2.2.2.A x4.2.2.2.2.n x4.2.2.2.2.c)] rfl ?_
    refine r_q (q_assign rfl rfl) rfl rfl ?_
    refine r_nil ?_
    refine j_then ?_
    refine j_seq ?_
    refine j_region ?_
    refine r_q (q_move rfl rfl) rfl rfl ?_
    refine r_q (q_loadb_agg 6 rfl ag29 sz29 rfl rfl rfl rfl) rfl rfl ?_
    obtain ⟨v13, hb4, h⟩ := of_b1 h
    refine r_do (a_call ok29 rfl rfl rfl rfl (fun w hm => spec_CountedValid.calls K v1 x1.1.A x1.1.n x1.1.c v2 x1.2.1.A x1.2.1.n x1.2.1.c v3 x1.2.2.1.A x1.2.2.1.n x1.2.2.1.c v4 x1.2.2.2.1.A x1.2.2.2.1.n x1.2.2.2.1.c v5 x1.2.2.2.2.A x1.2.2.2.2.n x1.2.2.2.2.c hm x1.1.h (Rd.row 7 rfl) x1.2.1.h (Rd.row 8 rfl) x1.2.2.1.h (Rd.row 9 rfl) x1.2.2.2.1.h (Rd.row 10 rfl) (hm.roomI 10 rfl) x1.2.2.2.2.h (Rd.row 11 rfl) hb4)) rfl rfl (fun x6 => ?_)
    refine r_q (q_beql un4 rfl rfl rfl) rfl rfl ?_
    refine r_q (q_move rfl rfl) rfl rfl ?_
    rcases of_if h with ⟨c2, h⟩ | ⟨c2, h⟩
    · refine r_qon (q_move rfl rfl) rfl rfl rfl rfl (beq_t c2) rfl ?_
      refine r_qon (q_move rfl rfl) rfl rfl rfl rfl (beq_t c2) rfl ?_
      refine r_qon (q_move rfl rfl) rfl rfl rfl rfl (beq_t c2) rfl ?_
      rcases of_if h with ⟨c3, h⟩ | ⟨c3, h⟩
      · refine r_qon (q_loadb_agg 0 rfl ag29 sz29 rfl rfl rfl rfl) rfl rfl rfl rfl c3 rfl ?_
        refine r_qon (q_loadb_agg 6 rfl ag29 sz29 rfl rfl rfl rfl) rfl rfl rfl rfl c3 rfl ?_
        obtain ⟨v14, hb5, h⟩ := of_b1 h
        refine r_on (a_call ok18 rfl rfl rfl rfl (fun w hm => impl_CountedSame.calls K v7 x4.1.A x4.1.n x4.1.c v8 x4.2.1.A x4.2.1.n x4.2.1.c v9 x4.2.2.1.A x4.2.2.1.n x4.2.2.1.c v10 x4.2.2.2.1.A x4.2.2.2.1.n x4.2.2.2.1.c v11 x4.2.2.2.2.A x4.2.2.2.2.n x4.2.2.2.2.c v1 x1.1.A x1.1.n x1.1.c v2 x1.2.1.A x1.2.1.n x1.2.1.c v3 x1.2.2.1.A x1.2.2.1.n x1.2.2.1.c v4 x1.2.2.2.1.A x1.2.2.2.1.n x1.2.2.2.1.c v5 x1.2.2.2.2.A x1.2.2.2.2.n x1.2.2.2.2.c hm x4.1.h (Rd.row 1 rfl) x4.2.1.h (Rd.row 2 rfl) x4.2.2.1.h (Rd.row 3 rfl) x4.2.2.2.1.h (Rd.row 4 rfl) x4.2.2.2.2.h (Rd.row 5 rfl) x1.1.h (Rd.row 7 rfl) x1.2.1.h (Rd.row 8 rfl) x1.2.2.1.h (Rd.row 9 rfl) x1.2.2.2.1.h (Rd.row 10 rfl) x1.2.2.2.2.h (Rd.row 11 rfl) hb5)) rfl rfl rfl rfl c3 rfl (fun x7 => ?_)
        refine r_qon (q_pick_t rfl rfl c3 rfl) rfl rfl rfl rfl (beq_t c2) rfl ?_
        refine r_qon (q_beql un4 rfl rfl rfl) rfl rfl rfl rfl (beq_t c2) rfl ?_
        refine r_q (q_pick_t rfl rfl (beq_t c2) rfl) rfl rfl ?_
        refine r_q (q_assign rfl rfl) rfl rfl ?_
        refine r_nil ?_
        refine j_then ?_
        refine j_ret ?_
        cases h
        exact j_return rfl (ResOf.tmp rfl ResOf.nil) rfl (fun w h => ⟨(), rfl, (h.drop 12)⟩)
      · refine r_off rfl rfl rfl rfl (var_f c3) rfl ?_
        refine r_off rfl rfl rfl rfl (var_f c3) rfl ?_
        refine r_off rfl rfl rfl rfl (var_f c3) rfl ?_
        refine r_qon (q_pick_f rfl rfl (var_f c3) rfl) rfl rfl rfl rfl (beq_t c2) rfl ?_
        refine r_qon (q_beql un4 rfl rfl rfl) rfl rfl rfl rfl (beq_t c2) rfl ?_
        refine r_q (q_pick_t rfl rfl (beq_t c2) rfl) rfl rfl ?_
        refine r_q (q_assign rfl rfl) rfl rfl ?_
        refine r_nil ?_
        refine j_then ?_
        refine j_ret ?_
        cases h
        exact j_return rfl (ResOf.tmp rfl ResOf.nil) rfl (fun w h => ⟨(), rfl, (h.drop 12)⟩)
    · refine r_off rfl rfl rfl rfl (beq_f c2) rfl ?_
      refine r_off rfl rfl rfl rfl (beq_f c2) rfl ?_
      refine r_off rfl rfl rfl rfl (beq_f c2) rfl ?_
      refine r_offu rfl rfl rfl rfl rfl ?_
      refine r_offu rfl rfl rfl rfl rfl ?_
      refine r_offu rfl rfl rfl rfl rfl ?_
      refine r_off rfl rfl rfl rfl (beq_f c2) rfl ?_
      refine r_off rfl rfl rfl rfl (beq_f c2) rfl ?_
      refine r_q (q_pick_f rfl rfl (beq_f c2) rfl) rfl rfl ?_
      refine r_q (q_assign rfl rfl) rfl rfl ?_
      refine r_nil ?_
      refine j_then ?_
      refine j_ret ?_
      cases h
      exact j_return rfl (ResOf.tmp rfl ResOf.nil) rfl (fun w h => ⟨(), rfl, (h.drop 12)⟩)

end Go.Proofs.Ytgganabcfloioaa.F
