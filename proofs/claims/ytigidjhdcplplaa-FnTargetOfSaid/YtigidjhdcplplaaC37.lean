/- The program computes these pure functions, printed by the generator of wip/gen. -/
import Derived.Test.YtigidjhdcplplaaFa
import Derived.Test.YtigidjhdcplplaaFg
import Derived.Test.YtigidjhdcplplaaFb
import Derived.Test.YtigidjhdcplplaaC0
import Derived.Test.YtigidjhdcplplaaC1
import Derived.Test.YtigidjhdcplplaaC2
import Derived.Test.YtigidjhdcplplaaC3
import Derived.Test.YtigidjhdcplplaaC4
import Derived.Test.YtigidjhdcplplaaC5
import Derived.Test.YtigidjhdcplplaaC6
import Derived.Test.YtigidjhdcplplaaC7
import Derived.Test.YtigidjhdcplplaaC8
import Derived.Test.YtigidjhdcplplaaC9
import Derived.Test.YtigidjhdcplplaaC15
import Derived.Test.YtigidjhdcplplaaC18
import Derived.Test.YtigidjhdcplplaaC24
import Derived.Test.YtigidjhdcplplaaC25
namespace Go.Proofs.Ytigidjhdcplplaa.F
open Go Go.RowKit Go.Proofs.Ytigidjhdcplplaa.S
set_option linter.unusedVariables false
set_option maxRecDepth 100000
theorem spec_DrawTargetOf.calls (K : Nat) (a0 : List Int) (a0_A : Option Addr) (a0_n a0_c : Nat) {w0 w : World} {F : List Res} {r1 : List Int} {r2 : List Int} {r3 : List Int} {r4 : List Int} {r5 : Int} {r6 : Int} {r7 : Int} (hm : Mem w0 (F) w) (a0_h : a0.length = a0_n) (a0_R : Rd w0 F a0_A (ints .u8 a0)) (a0_k : a0.length ≤ a0_c) (h : spec_DrawTargetOf.f K a0 = some (r1, r2, r3, r4, r5, r6, r7)) :
    Calls Try.prog 43 (List.toArray [.slice a0_A a0_n a0_c]) w fun e w' => ∃ x : (Sl r1.length) × (Sl r2.length) × (Sl r3.length) × (Sl r4.length), e = .returned (.tuple (List.toArray [.agg (List.toArray [.slice x.1.A x.1.n x.1.c, .slice x.2.1.A x.2.1.n x.2.1.c, .slice x.2.2.1.A x.2.2.1.n x.2.2.1.c, .slice x.2.2.2.A x.2.2.2.n x.2.2.2.c]), .agg (List.toArray [i6 r5, i6 r6, i6 r7])])) ∧ Mem w0 (.row x.1.A x.1.c 3 1 (ii r1) :: .row x.2.1.A x.2.1.c 3 1 (ii r2) :: .row x.2.2.1.A x.2.2.1.c 3 1 (ii r3) :: .row x.2.2.2.A x.2.2.2.c 3 1 (ii r4) :: F) w' := by
  unfold spec_DrawTargetOf.f at h
  refine calls_of_J (n := 8) Try.func43 rfl rfl rfl hm ?_
  refine j_seq ?_
  refine j_region ?_
  refine r_do (a_alloc zr29 rfl) rfl rfl (fun x1 => ?_)
  refine r_do (a_alloc zr57 rfl) rfl rfl (fun x2 => ?_)
  refine r_nil ?_
  refine j_then ?_
  refine j_seq ?_
  refine j_region ?_
  refine r_q (q_move rfl rfl) rfl rfl ?_
  obtain ⟨v1, v2, v3, v4, v5, v6, v7, hb1, h⟩ := of_b7 h
  refine r_do (a_call ok48 rfl rfl rfl rfl (fun w hm => spec_DrawRunOp.calls K a0 a0_A a0_n a0_c hm a0_h (Rd.drop 2 a0_R) a0_k hb1)) rfl rfl (fun x3 => ?_)
  refine r_q (q_extract rfl rfl rfl) rfl rfl ?_
  refine r_q (q_extract rfl rfl rfl) rfl rfl ?_
  refine r_do (a_storeb 5 rfl sz29 rfl rfl rfl rfl (Nat.le_of_ble_eq_true rfl) rfl) rfl rfl (fun _ => ?_)
  refine j_b5 [(.slice x3.1.A x3.1.n x3.1.c), (.slice x3.2.1.A x3.2.1.n x3.2.1.c), (.slice x3.2.2.1.A x3.2.2.1.n x3.2.2.1.c), (.slice x3.2.2.2.A x3.2.2.2.n x3.2.2.2.c)] rfl ?_
  refine r_do (a_storeb 4 rfl sz57 rfl rfl rfl rfl (Nat.le_of_ble_eq_true rfl) rfl) rfl rfl (fun _ => ?_)
  refine j_b4 [(i6 v5), (i6 v6), (i6 v7)] rfl ?_
  refine r_nil ?_
  refine j_then ?_
  refine j_ret ?_
  cases h
  exact j_return rfl (ResOf.cell 5 rfl rfl ag29 sz29 (ResOf.cell 4 rfl rfl ag57 sz57 ResOf.nil)) rfl (fun w h => ⟨(⟨x3.1.A, x3.1.n, x3.1.c, x3.1.h⟩, ⟨x3.2.1.A, x3.2.1.n, x3.2.1.c, x3.2.1.h⟩, ⟨x3.2.2.1.A, x3.2.2.1.n, x3.2.2.1.c, x3.2.2.1.h⟩, ⟨x3.2.2.2.A, x3.2.2.2.n, x3.2.2.2.c, x3.2.2.2.h⟩), rfl, h.pick 6 [0, 1, 2, 3] rfl⟩)

theorem laws_FnTargetOf.calls (K : Nat) (a0 : List Int) (a0_A : Option Addr) (a0_n a0_c : Nat) {w0 w : World} {F : List Res} {r1 : Bool} (hm : Mem w0 (F) w) (a0_h : a0.length = a0_n) (a0_R : Rd w0 F a0_A (ints .u8 a0)) (a0_k : a0.length ≤ a0_c) (h : laws_FnTargetOf.f K a0 = some r1) :
    Calls Try.prog 11 (List.toArray [.slice a0_A a0_n a0_c]) w fun e w' => ∃ x : Unit, e = .returned (.bool r1) ∧ Mem w0 (F) w' := by
  unfold laws_FnTargetOf.f at h
  refine calls_of_J (n := 84) Try.func11 rfl rfl rfl hm ?_
  refine j_seq ?_
  refine j_region ?_
  refine r_q (q_assign rfl rfl) rfl rfl ?_
  refine r_nil ?_
  refine j_then ?_
  refine j_seq ?_
  refine j_seq ?_
  refine j_region ?_
  refine r_q (q_move rfl rfl) rfl rfl ?_
  refine r_q (q_lenX a0 a0_h un22 rfl rfl rfl rfl rfl) rfl rfl ?_
  refine r_q (q_gtr rfl rfl rfl) rfl rfl ?_
  refine r_nil ?_
  refine j_then ?_
  rcases of_if h with ⟨c1, h⟩ | ⟨c1, h⟩
  · refine j_true rfl (decide_eq_true c1) ?_
    refine j_seq ?_
    refine j_region ?_
    refine r_q (q_assign rfl rfl) rfl rfl ?_
    refine r_nil ?_
    refine j_then ?_
    refine j_ret ?_
    refine j_then_ret ?_
    cases h
    exact j_return rfl (ResOf.tmp rfl ResOf.nil) rfl (fun w h => ⟨(), rfl, h⟩)
  · refine j_false rfl (decide_eq_false c1) ?_
    refine j_skip ?_
    refine j_then ?_
    refine j_seq ?_
    refine j_region ?_
    refine r_q (q_move rfl rfl) rfl rfl ?_
    obtain ⟨v1, v2, v3, v4, v5, v6, v7, hb1, h⟩ := of_b7 h
    refine r_do (a_call ok43 rfl rfl rfl rfl (fun w hm => spec_DrawTargetOf.calls K a0 a0_A a0_n a0_c hm a0_h a0_R a0_k hb1)) rfl rfl (fun x1 => ?_)
    refine r_q (q_move rfl rfl) rfl rfl ?_
    refine r_q (q_extract rfl rfl rfl) rfl rfl ?_
    refine r_q (q_extract rfl rfl rfl) rfl rfl ?_
    refine r_do (a_alloc zr29 rfl) rfl rfl (fun x2 => ?_)
    refine r_do (a_alloc zr57 rfl) rfl rfl (fun x3 => ?_)
    refine r_do (a_storeb 1 rfl sz29 rfl rfl rfl rfl (Nat.le_of_ble_eq_true rfl) rfl) rfl rfl (fun _ => ?_)
    refine j_b1 [(.slice x1.1.A x1.1.n x1.1.c), (.slice x1.2.1.A x1.2.1.n x1.2.1.c), (.slice x1.2.2.1.A x1.2.2.1.n x1.2.2.1.c), (.slice x1.2.2.2.A x1.2.2.2.n x1.2.2.2.c)] rfl ?_
    refine r_do (a_storeb 0 rfl sz57 rfl rfl rfl rfl (Nat.le_of_ble_eq_true rfl) rfl) rfl rfl (fun _ => ?_)
    refine j_b0 [(i6 v5), (i6 v6), (i6 v7)] rfl ?_
    refine r_nil ?_
    refine j_then ?_
    refine j_seq ?_
    refine j_region ?_
    refine r_q (q_loadb_agg 1 rfl ag29 sz29 rfl rfl rfl rfl) rfl rfl ?_
    refine r_q (q_loadb_agg 0 rfl ag57 sz57 rfl rfl rfl rfl) rfl rfl ?_
    obtain ⟨v8, hb2, h⟩ := of_b1 h
    refine r_do (a_call ok44 rfl rfl rfl rfl (fun w hm => impl_TargetOf.calls K v1 x1.1.A x1.1.n x1.1.c v2 x1.2.1.A x1.2.1.n x1.2.1.c v3 x1.2.2.1.A x1.2.2.1.n x1.2.2.1.c v4 x1.2.2.2.A x1.2.2.2.n x1.2.2.2.c v5 v6 v7 hm x1.1.h (Rd.row 2 rfl) x1.2.1.h (Rd.row 3 rfl) x1.2.2.1.h (Rd.row 4 rfl) x1.2.2.2.h (Rd.row 5 rfl) (hm.roomI 5 rfl) hb2)) rfl rfl (fun x4 => ?_)
    refine r_q (q_assign rfl rfl) rfl rfl ?_
    refine r_nil ?_
    refine j_then ?_
    refine j_seq ?_
    refine j_seq ?_
    refine j_region ?_
    refine r_q (q_move rfl rfl) rfl rfl ?_
    refine r_q (q_loadb_agg 1 rfl ag29 sz29 rfl rfl rfl rfl) rfl rfl ?_
    refine r_q (q_loadb_agg 0 rfl ag57 sz57 rfl rfl rfl rfl) rfl rfl ?_
    obtain ⟨v9, hb3, h⟩ := of_b1 h
    refine r_do (a_call ok45 rfl rfl rfl rfl (fun w hm => spec_TargetOf.calls K v1 x1.1.A x1.1.n x1.1.c v2 x1.2.1.A x1.2.1.n x1.2.1.c v3 x1.2.2.1.A x1.2.2.1.n x1.2.2.1.c v4 x1.2.2.2.A x1.2.2.2.n x1.2.2.2.c v5 v6 v7 hm x1.1.h (Rd.row 2 rfl) x1.2.1.h (Rd.row 3 rfl) x1.2.2.1.h (Rd.row 4 rfl) x1.2.2.2.h (Rd.row 5 rfl) (hm.roomI 5 rfl) hb3)) rfl rfl (fun x5 => ?_)
    refine r_q (q_neq rfl rfl rfl) rfl rfl ?_
    refine r_q (q_move rfl rfl) rfl rfl ?_
    rcases of_if h with ⟨c2, h⟩ | ⟨c2, h⟩
    · refine r_qon (q_move rfl rfl) rfl rfl rfl rfl (bne_f c2) rfl ?_
      refine r_qon (q_eql rfl rfl rfl) rfl rfl rfl rfl (bne_f c2) rfl ?_
      refine r_q (q_pick_f rfl rfl (bne_f c2) rfl) rfl rfl ?_
      refine r_nil ?_
      refine j_then ?_
      rcases of_if h with ⟨c3, h⟩ | ⟨c3, h⟩
      · refine j_true rfl (beq_t c3) ?_
        refine j_seq ?_
        refine j_region ?_
        refine r_q (q_move rfl rfl) rfl rfl ?_
        refine r_q (q_loadb_agg 1 rfl ag29 sz29 rfl rfl rfl rfl) rfl rfl ?_
        refine r_q (q_loadb_agg 0 rfl ag57 sz57 rfl rfl rfl rfl) rfl rfl ?_
        obtain ⟨v10, hb4, h⟩ := of_b1 h
        refine r_do (a_call ok45 rfl rfl rfl rfl (fun w hm => spec_TargetOf.calls K v1 x1.1.A x1.1.n x1.1.c v2 x1.2.1.A x1.2.1.n x1.2.1.c v3 x1.2.2.1.A x1.2.2.1.n x1.2.2.1.c v4 x1.2.2.2.A x1.2.2.2.n x1.2.2.2.c v5 v6 v7 hm x1.1.h (Rd.row 2 rfl) x1.2.1.h (Rd.row 3 rfl) x1.2.2.1.h (Rd.row 4 rfl) x1.2.2.2.h (Rd.row 5 rfl) (hm.roomI 5 rfl) hb4)) rfl rfl (fun x6 => ?_)
        refine r_q (q_eql rfl rfl rfl) rfl rfl ?_
        refine r_q (q_assign rfl rfl) rfl rfl ?_
        refine r_nil ?_
        refine j_then ?_
        refine j_ret ?_
        refine j_then_ret ?_
        cases h
        exact j_return rfl (ResOf.tmp rfl ResOf.nil) rfl (fun w h => ⟨(), rfl, (h.drop 6)⟩)
      · refine j_false rfl (beq_f c3) ?_
        refine j_skip ?_
        refine j_then ?_
        refine j_seq ?_
        refine j_region ?_
        refine r_q (q_loadb_agg 1 rfl ag29 sz29 rfl rfl rfl rfl) rfl rfl ?_
        refine r_q (q_loadb_agg 0 rfl ag57 sz57 rfl rfl rfl rfl) rfl rfl ?_
        obtain ⟨v11, v12, v13, v14, v15, v16, hb5, h⟩ := of_b6 h
        refine r_do (a_call ok46 rfl rfl rfl rfl (fun w hm => impl_RunOp.calls K v1 x1.1.A x1.1.n x1.1.c v2 x1.2.1.A x1.2.1.n x1.2.1.c v3 x1.2.2.1.A x1.2.2.1.n x1.2.2.1.c v4 x1.2.2.2.A x1.2.2.2.n x1.2.2.2.c v5 v6 v7 hm x1.1.h (Rd.row 2 rfl) x1.2.1.h (Rd.row 3 rfl) x1.2.2.1.h (Rd.row 4 rfl) x1.2.2.2.h (Rd.row 5 rfl) (hm.roomI 5 rfl) hb5)) rfl rfl (fun x7 => ?_)
        refine r_q (q_move rfl rfl) rfl rfl ?_
        refine r_q (q_extract rfl rfl rfl) rfl rfl ?_
        refine r_q (q_extract rfl rfl rfl) rfl rfl ?_
        refine r_q (q_extract rfl rfl rfl) rfl rfl ?_
        refine r_do (a_alloc zr29 rfl) rfl rfl (fun x8 => ?_)
        refine r_do (a_storeb 0 rfl sz29 rfl rfl rfl rfl (Nat.le_of_ble_eq_true rfl) rfl) rfl rfl (fun _ => ?_)
        refine j_b0 [(.slice x7.1.A x7.1.n x7.1.c), (.slice x7.2.1.A x7.2.1.n x7.2.1.c), (.slice x7.2.2.1.A x7.2.2.1.n x7.2.2.1.c), (.slice x7.2.2.2.A x7.2.2.2.n x7.2.2.2.c)] rfl ?_
        refine r_q (q_assign rfl rfl) rfl rfl ?_
        refine r_q (q_assign rfl rfl) rfl rfl ?_
        refine r_nil ?_
        refine j_then ?_
        refine j_seq ?_
        refine j_region ?_
        refine r_q (q_fieldAddr fi29_0 sz27 rfl rfl rfl) rfl rfl ?_
        refine r_q (q_loadb_agg 6 rfl ag27 sz27 rfl rfl rfl rfl) rfl rfl ?_
        obtain ⟨v17, hb6, h⟩ := of_b1 h
        refine r_do (a_call ok37 rfl rfl rfl rfl (fun w hm => impl_Reachable.calls K v1 x1.1.A x1.1.n x1.1.c v2 x1.2.1.A x1.2.1.n x1.2.1.c v3 x1.2.2.1.A x1.2.2.1.n x1.2.2.1.c hm x1.1.h (Rd.row 7 rfl) x1.2.1.h (Rd.row 8 rfl) x1.2.2.1.h (Rd.row 9 rfl) hb6)) rfl rfl (fun x9 => ?_)
        refine r_q (q_assign rfl rfl) rfl rfl ?_
        refine r_nil ?_
        refine j_then ?_
        refine j_seq ?_
        refine j_region ?_
        refine r_q (q_fieldAddr fi29_0 sz27 rfl rfl rfl) rfl rfl ?_
        refine r_q (q_fieldAddr fi27_2 sz25 rfl rfl rfl) rfl rfl ?_
        refine r_q (q_loadb 7 rfl ag25 rfl rfl rfl) rfl rfl ?_
        refine r_q (q_fieldAddr fi57_1 sz3 rfl rfl rfl) rfl rfl ?_
        refine r_q (q_loadb 6 rfl ag3 rfl rfl rfl) rfl rfl ?_
        obtain ⟨c4, h⟩ := of_guard h
        refine r_q (q_ix (Rd.row 10 rfl) (ints_len1 _ v3) (by decide) x1.2.2.1.h c4 un25 sz3 rfl rfl rfl) rfl rfl ?_
        refine r_q (q_ldI (Rd.row 10 rfl) c4 ag3 rfl rfl) rfl rfl ?_
        refine r_q (q_assign rfl rfl) rfl rfl ?_
        refine r_nil ?_
        refine j_then ?_
        refine j_seq ?_
        refine j_region ?_
        refine r_q (q_move rfl rfl) rfl rfl ?_
        refine r_q (q_move rfl rfl) rfl rfl ?_
        rcases of_if h with ⟨c5, h⟩ | ⟨c5, h⟩
        · refine r_qon (q_move rfl rfl) rfl rfl rfl rfl c5 rfl ?_
          refine r_qon (q_eql rfl rfl rfl) rfl rfl rfl rfl c5 rfl ?_
          refine r_q (q_pick_t rfl rfl c5 rfl) rfl rfl ?_
          refine r_q (q_move rfl rfl) rfl rfl ?_
          rcases of_if h with ⟨c6, h⟩ | ⟨c6, h⟩
          · refine r_qon (q_move rfl rfl) rfl rfl rfl rfl (beq_t c6) rfl ?_
            refine r_qon (q_move rfl rfl) rfl rfl rfl rfl (beq_t c6) rfl ?_
            obtain ⟨c7, h⟩ := of_guard h
            refine r_qon (q_ix (Rd.row 0 rfl) (bls_len1 v17) (by decide) x9.h c7 un52 sz4 rfl rfl rfl) rfl rfl rfl rfl (beq_t c6) rfl ?_
            refine r_qon (q_ldB (Rd.row 0 rfl) c7 ag4 rfl rfl) rfl rfl rfl rfl (beq_t c6) rfl ?_
            refine r_q (q_pick_t rfl rfl (beq_t c6) rfl) rfl rfl ?_
            refine r_q (q_move rfl rfl) rfl rfl ?_
            rcases of_if h with ⟨c8, h⟩ | ⟨c8, h⟩
            · refine r_qon (q_fieldAddr fi29_0 sz27 rfl rfl rfl) rfl rfl rfl rfl c8 rfl ?_
              refine r_qon (q_fieldAddr fi27_0 sz25 rfl rfl rfl) rfl rfl rfl rfl c8 rfl ?_
              refine r_qon (q_loadb 1 rfl ag25 rfl rfl rfl) rfl rfl rfl rfl c8 rfl ?_
              refine r_qon (q_move rfl rfl) rfl rfl rfl rfl c8 rfl ?_
              obtain ⟨c9, h⟩ := of_guard h
              refine r_qon (q_ix (Rd.row 2 rfl) (ints_len1 _ v11) (by decide) x7.1.h c9 un25 sz3 rfl rfl rfl) rfl rfl rfl rfl c8 rfl ?_
              refine r_qon (q_ldI (Rd.row 2 rfl) c9 ag3 rfl rfl) rfl rfl rfl rfl c8 rfl ?_
              refine r_qon (q_move rfl rfl) rfl rfl rfl rfl c8 rfl ?_
              refine r_qon (q_eql rfl rfl rfl) rfl rfl rfl rfl c8 rfl ?_
              refine r_qon (q_move rfl rfl) rfl rfl rfl rfl c8 rfl ?_
              rcases of_if h with ⟨c10, h⟩ | ⟨c10, h⟩
              · refine r_off rfl rfl rfl rfl (beq_t c10) rfl ?_
                refine r_off rfl rfl rfl rfl (beq_t c10) rfl ?_
                refine r_off rfl rfl rfl rfl (beq_t c10) rfl ?_
                refine r_off rfl rfl rfl rfl (beq_t c10) rfl ?_
                refine r_off rfl rfl rfl rfl (beq_t c10) rfl ?_
                refine r_off rfl rfl rfl rfl (beq_t c10) rfl ?_
                refine r_off rfl rfl rfl rfl (beq_t c10) rfl ?_
                refine r_off rfl rfl rfl rfl (beq_t c10) rfl ?_
                refine r_qon (q_pick_t rfl rfl (beq_t c10) rfl) rfl rfl rfl rfl c8 rfl ?_
                refine r_q (q_pick_t rfl rfl c8 rfl) rfl rfl ?_
                refine r_q (q_assign rfl rfl) rfl rfl ?_
                refine r_nil ?_
                refine j_then ?_
                refine j_ret ?_
                cases h
                exact j_return rfl (ResOf.tmp rfl ResOf.nil) rfl (fun w h => ⟨(), rfl, (h.drop 12)⟩)
              · refine r_qon (q_fieldAddr fi29_0 sz27 rfl rfl rfl) rfl rfl rfl rfl (beq_f c10) rfl ?_
                refine r_qon (q_fieldAddr fi27_1 sz25 rfl rfl rfl) rfl rfl rfl rfl (beq_f c10) rfl ?_
                refine r_qon (q_loadb 1 rfl ag25 rfl rfl rfl) rfl rfl rfl rfl (beq_f c10) rfl ?_
                refine r_qon (q_move rfl rfl) rfl rfl rfl rfl (beq_f c10) rfl ?_
                obtain ⟨c11, h⟩ := of_guard h
                refine r_qon (q_ix (Rd.row 3 rfl) (ints_len1 _ v12) (by decide) x7.2.1.h c11 un25 sz3 rfl rfl rfl) rfl rfl rfl rfl (beq_f c10) rfl ?_
                refine r_qon (q_ldI (Rd.row 3 rfl) c11 ag3 rfl rfl) rfl rfl rfl rfl (beq_f c10) rfl ?_
                refine r_qon (q_move rfl rfl) rfl rfl rfl rfl (beq_f c10) rfl ?_
                refine r_qon (q_eql rfl rfl rfl) rfl rfl rfl rfl (beq_f c10) rfl ?_
                refine r_qon (q_pick_f rfl rfl (beq_f c10) rfl) rfl rfl rfl rfl c8 rfl ?_
                refine r_q (q_pick_t rfl rfl c8 rfl) rfl rfl ?_
                refine r_q (q_assign rfl rfl) rfl rfl ?_
                refine r_nil ?_
                refine j_then ?_
                refine j_ret ?_
                cases h
                exact j_return rfl (ResOf.tmp rfl ResOf.nil) rfl (fun w h => ⟨(), rfl, (h.drop 12)⟩)
            · refine r_off rfl rfl rfl rfl (var_f c8) rfl ?_
              refine r_off rfl rfl rfl rfl (var_f c8) rfl ?_
              refine r_off rfl rfl rfl rfl (var_f c8) rfl ?_
              refine r_off rfl rfl rfl rfl (var_f c8) rfl ?_
              refine r_off rfl rfl rfl rfl (var_f c8) rfl ?_
              refine r_off rfl rfl rfl rfl (var_f c8) rfl ?_
              refine r_off rfl rfl rfl rfl (var_f c8) rfl ?_
              refine r_off rfl rfl rfl rfl (var_f c8) rfl ?_
              refine r_off rfl rfl rfl rfl (var_f c8) rfl ?_
              refine r_offu rfl rfl rfl rfl rfl ?_
              refine r_offu rfl rfl rfl rfl rfl ?_
              refine r_offu rfl rfl rfl rfl rfl ?_
              refine r_offu rfl rfl rfl rfl rfl ?_
              refine r_offu rfl rfl rfl rfl rfl ?_
              refine r_offu rfl rfl rfl rfl rfl ?_
              refine r_offu rfl rfl rfl rfl rfl ?_
              refine r_offu rfl rfl rfl rfl rfl ?_
              refine r_off rfl rfl rfl rfl (var_f c8) rfl ?_
              refine r_q (q_pick_f rfl rfl (var_f c8) rfl) rfl rfl ?_
              refine r_q (q_assign rfl rfl) rfl rfl ?_
              refine r_nil ?_
              refine j_then ?_
              refine j_ret ?_
              cases h
              exact j_return rfl (ResOf.tmp rfl ResOf.nil) rfl (fun w h => ⟨(), rfl, (h.drop 12)⟩)
          · refine r_off rfl rfl rfl rfl (beq_f c6) rfl ?_
            refine r_off rfl rfl rfl rfl (beq_f c6) rfl ?_
            refine r_off rfl rfl rfl rfl (beq_f c6) rfl ?_
            refine r_off rfl rfl rfl rfl (beq_f c6) rfl ?_
            refine r_q (q_pick_f rfl rfl (beq_f c6) rfl) rfl rfl ?_
            refine r_q (q_move rfl rfl) rfl rfl ?_
            refine r_off rfl rfl rfl rfl rfl rfl ?_
            refine r_off rfl rfl rfl rfl rfl rfl ?_
            refine r_off rfl rfl rfl rfl rfl rfl ?_
            refine r_off rfl rfl rfl rfl rfl rfl ?_
            refine r_off rfl rfl rfl rfl rfl rfl ?_
            refine r_off rfl rfl rfl rfl rfl rfl ?_
            refine r_off rfl rfl rfl rfl rfl rfl ?_
            refine r_off rfl rfl rfl rfl rfl rfl ?_
            refine r_off rfl rfl rfl rfl rfl rfl ?_
            refine r_offu rfl rfl rfl rfl rfl ?_
            refine r_offu rfl rfl rfl rfl rfl ?_
            refine r_offu rfl rfl rfl rfl rfl ?_
            refine r_offu rfl rfl rfl rfl rfl ?_
            refine r_offu rfl rfl rfl rfl rfl ?_
            refine r_offu rfl rfl rfl rfl rfl ?_
            refine r_offu rfl rfl rfl rfl rfl ?_
            refine r_offu rfl rfl rfl rfl rfl ?_
            refine r_off rfl rfl rfl rfl rfl rfl ?_
            refine r_q (q_pick_f rfl rfl rfl rfl) rfl rfl ?_
            refine r_q (q_assign rfl rfl) rfl rfl ?_
            refine r_nil ?_
            refine j_then ?_
            refine j_ret ?_
            cases h
            exact j_return rfl (ResOf.tmp rfl ResOf.nil) rfl (fun w h => ⟨(), rfl, (h.drop 12)⟩)
        · refine r_off rfl rfl rfl rfl (var_f c5) rfl ?_
          refine r_off rfl rfl rfl rfl (var_f c5) rfl ?_
          refine r_q (q_pick_f rfl rfl (var_f c5) rfl) rfl rfl ?_
          refine r_q (q_move rfl rfl) rfl rfl ?_
          refine r_off rfl rfl rfl rfl rfl rfl ?_
          refine r_off rfl rfl rfl rfl rfl rfl ?_
          refine r_off rfl rfl rfl rfl rfl rfl ?_
          refine r_off rfl rfl rfl rfl rfl rfl ?_
          refine r_q (q_pick_f rfl rfl rfl rfl) rfl rfl ?_
          refine r_q (q_move rfl rfl) rfl rfl ?_
          refine r_off rfl rfl rfl rfl rfl rfl ?_
          refine r_off rfl rfl rfl rfl rfl rfl ?_
          refine r_off rfl rfl rfl rfl rfl rfl ?_
          refine r_off rfl rfl rfl rfl rfl rfl ?_
          refine r_off rfl rfl rfl rfl rfl rfl ?_
          refine r_off rfl rfl rfl rfl rfl rfl ?_
          refine r_off rfl rfl rfl rfl rfl rfl ?_
          refine r_off rfl rfl rfl rfl rfl rfl ?_
          refine r_off rfl rfl rfl rfl rfl rfl ?_
          refine r_offu rfl rfl rfl rfl rfl ?_
          refine r_offu rfl rfl rfl rfl rfl ?_
          refine r_offu rfl rfl rfl rfl rfl ?_
          refine r_offu rfl rfl rfl rfl rfl ?_
          refine r_offu rfl rfl rfl rfl rfl ?_
          refine r_offu rfl rfl rfl rfl rfl ?_
          refine r_offu rfl rfl rfl rfl rfl ?_
          refine r_offu rfl rfl rfl rfl rfl ?_
          refine r_off rfl rfl rfl rfl rfl rfl ?_
          refine r_q (q_pick_f rfl rfl rfl rfl) rfl rfl ?_
          refine r_q (q_assign rfl rfl) rfl rfl ?_
          refine r_nil ?_
          refine j_then ?_
          refine j_ret ?_
          cases h
          exact j_return rfl (ResOf.tmp rfl ResOf.nil) rfl (fun w h => ⟨(), rfl, (h.drop 12)⟩)
    · refine r_off rfl rfl rfl rfl (bne_t c2) rfl ?_
      refine r_off rfl rfl rfl rfl (bne_t c2) rfl ?_
      refine r_q (q_pick_t rfl rfl (bne_t c2) rfl) rfl rfl ?_
      refine r_nil ?_
      refine j_then ?_
      refine j_true rfl rfl ?_
      refine j_seq ?_
      refine j_region ?_
      refine r_q (q_move rfl rfl) rfl rfl ?_
      refine r_q (q_loadb_agg 1 rfl ag29 sz29 rfl rfl rfl rfl) rfl rfl ?_
      refine r_q (q_loadb_agg 0 rfl ag57 sz57 rfl rfl rfl rfl) rfl rfl ?_
      obtain ⟨v18, hb7, h⟩ := of_b1 h
      refine r_do (a_call ok45 rfl rfl rfl rfl (fun w hm => spec_TargetOf.calls K v1 x1.1.A x1.1.n x1.1.c v2 x1.2.1.A x1.2.1.n x1.2.1.c v3 x1.2.2.1.A x1.2.2.1.n x1.2.2.1.c v4 x1.2.2.2.A x1.2.2.2.n x1.2.2.2.c v5 v6 v7 hm x1.1.h (Rd.row 2 rfl) x1.2.1.h (Rd.row 3 rfl) x1.2.2.1.h (Rd.row 4 rfl) x1.2.2.2.h (Rd.row 5 rfl) (hm.roomI 5 rfl) hb7)) rfl rfl (fun x6 => ?_)
      refine r_q (q_eql rfl rfl rfl) rfl rfl ?_
      refine r_q (q_assign rfl rfl) rfl rfl ?_
      refine r_nil ?_
      refine j_then ?_
      refine j_ret ?_
      refine j_then_ret ?_
      cases h
      exact j_return rfl (ResOf.tmp rfl ResOf.nil) rfl (fun w h => ⟨(), rfl, (h.drop 6)⟩)

end Go.Proofs.Ytigidjhdcplplaa.F
