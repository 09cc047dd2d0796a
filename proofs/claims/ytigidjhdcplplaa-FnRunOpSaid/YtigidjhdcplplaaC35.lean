/- The program computes these pure functions, printed by the generator of wip/gen. -/
import Derived.Test.YtigidjhdcplplaaFa
import Derived.Test.YtigidjhdcplplaaFg
import Derived.Test.YtigidjhdcplplaaFb
import Derived.Test.YtigidjhdcplplaaC0
import Derived.Test.YtigidjhdcplplaaC1
import Derived.Test.YtigidjhdcplplaaC2
import Derived.Test.YtigidjhdcplplaaC3
import Derived.Test.YtigidjhdcplplaaC4
import Derived.Test.YtigidjhdcplplaaC5
import Derived.Test.YtigidjhdcplplaaC6
import Derived.Test.YtigidjhdcplplaaC12
import Derived.Test.YtigidjhdcplplaaC15
import Derived.Test.YtigidjhdcplplaaC18
import Derived.Test.YtigidjhdcplplaaC23
import Derived.Test.YtigidjhdcplplaaC25
namespace Go.Proofs.Ytigidjhdcplplaa.F
open Go Go.RowKit Go.Proofs.Ytigidjhdcplplaa.S
set_option linter.unusedVariables false
set_option maxRecDepth 100000
theorem laws_FnRunOp.calls (K : Nat) (a0 : List Int) (a0_A : Option Addr) (a0_n a0_c : Nat) {w0 w : World} {F : List Res} {r1 : Bool} (hm : Mem w0 (F) w) (a0_h : a0.length = a0_n) (a0_R : Rd w0 F a0_A (ints .u8 a0)) (a0_k : a0.length ≤ a0_c) (h : laws_FnRunOp.f K a0 = some r1) :
    Calls Try.prog 13 (List.toArray [.slice a0_A a0_n a0_c]) w fun e w' => ∃ x : Unit, e = .returned (.bool r1) ∧ Mem w0 (F) w' := by
  unfold laws_FnRunOp.f at h
  refine calls_of_J (n := 95) Try.func13 rfl rfl rfl hm ?_
  refine j_seq ?_
  refine j_region ?_
  refine r_q (q_assign rfl rfl) rfl rfl ?_
  refine r_nil ?_
  refine j_then ?_
  refine j_seq ?_
  refine j_seq ?_
  refine j_region ?_
  refine r_q (q_move rfl rfl) rfl rfl ?_
  refine r_q (q_lenX a0 a0_h un22 rfl rfl rfl rfl rfl) rfl rfl ?_
  refine r_q (q_gtr rfl rfl rfl) rfl rfl ?_
  refine r_nil ?_
  refine j_then ?_
  rcases of_if h with ⟨c1, h⟩ | ⟨c1, h⟩
  · refine j_true rfl (decide_eq_true c1) ?_
    refine j_seq ?_
    refine j_region ?_
    refine r_q (q_assign rfl rfl) rfl rfl ?_
    refine r_nil ?_
    refine j_then ?_
    refine j_ret ?_
    refine j_then_ret ?_
    cases h
    exact j_return rfl (ResOf.tmp rfl ResOf.nil) rfl (fun w h => ⟨(), rfl, h⟩)
  · refine j_false rfl (decide_eq_false c1) ?_
    refine j_skip ?_
    refine j_then ?_
    refine j_seq ?_
    refine j_region ?_
    refine r_q (q_move rfl rfl) rfl rfl ?_
    obtain ⟨v1, v2, v3, v4, v5, v6, v7, hb1, h⟩ := of_b7 h
    refine r_do (a_call ok48 rfl rfl rfl rfl (fun w hm => spec_DrawRunOp.calls K a0 a0_A a0_n a0_c hm a0_h a0_R a0_k hb1)) rfl rfl (fun x1 => ?_)
    refine r_q (q_move rfl rfl) rfl rfl ?_
    refine r_q (q_extract rfl rfl rfl) rfl rfl ?_
    refine r_q (q_extract rfl rfl rfl) rfl rfl ?_
    refine r_do (a_alloc zr29 rfl) rfl rfl (fun x2 => ?_)
    refine r_do (a_alloc zr57 rfl) rfl rfl (fun x3 => ?_)
    refine r_do (a_storeb 1 rfl sz29 rfl rfl rfl rfl (Nat.le_of_ble_eq_true rfl) rfl) rfl rfl (fun _ => ?_)
    refine j_b1 [(.slice x1.1.A x1.1.n x1.1.c), (.slice x1.2.1.A x1.2.1.n x1.2.1.c), (.slice x1.2.2.1.A x1.2.2.1.n x1.2.2.1.c), (.slice x1.2.2.2.A x1.2.2.2.n x1.2.2.2.c)] rfl ?_
    refine r_do (a_storeb 0 rfl sz57 rfl rfl rfl rfl (Nat.le_of_ble_eq_true rfl) rfl) rfl rfl (fun _ => ?_)
    refine j_b0 [(i6 v5), (i6 v6), (i6 v7)] rfl ?_
    refine r_nil ?_
    refine j_then ?_
    refine j_seq ?_
    refine j_region ?_
    refine r_q (q_loadb_agg 1 rfl ag29 sz29 rfl rfl rfl rfl) rfl rfl ?_
    refine r_q (q_loadb_agg 0 rfl ag57 sz57 rfl rfl rfl rfl) rfl rfl ?_
    obtain ⟨v8, v9, v10, v11, v12, v13, hb2, h⟩ := of_b6 h
    refine r_do (a_call ok46 rfl rfl rfl rfl (fun w hm => impl_RunOp.calls K v1 x1.1.A x1.1.n x1.1.c v2 x1.2.1.A x1.2.1.n x1.2.1.c v3 x1.2.2.1.A x1.2.2.1.n x1.2.2.1.c v4 x1.2.2.2.A x1.2.2.2.n x1.2.2.2.c v5 v6 v7 hm x1.1.h (Rd.row 2 rfl) x1.2.1.h (Rd.row 3 rfl) x1.2.2.1.h (Rd.row 4 rfl) x1.2.2.2.h (Rd.row 5 rfl) (hm.roomI 5 rfl) hb2)) rfl rfl (fun x4 => ?_)
    refine r_q (q_move rfl rfl) rfl rfl ?_
    refine r_q (q_extract rfl rfl rfl) rfl rfl ?_
    refine r_q (q_extract rfl rfl rfl) rfl rfl ?_
    refine r_q (q_extract rfl rfl rfl) rfl rfl ?_
    refine r_do (a_alloc zr29 rfl) rfl rfl (fun x5 => ?_)
    refine r_do (a_storeb 0 rfl sz29 rfl rfl rfl rfl (Nat.le_of_ble_eq_true rfl) rfl) rfl rfl (fun _ => ?_)
    refine j_b0 [(.slice x4.1.A x4.1.n x4.1.c), (.slice x4.2.1.A x4.2.1.n x4.2.1.c), (.slice x4.2.2.1.A x4.2.2.1.n x4.2.2.1.c), (.slice x4.2.2.2.A x4.2.2.2.n x4.2.2.2.c)] rfl ?_
    refine r_q (q_assign rfl rfl) rfl rfl ?_
    refine r_q (q_assign rfl rfl) rfl rfl ?_
    refine r_nil ?_
    refine j_then ?_
    refine j_seq ?_
    refine j_region ?_
    refine r_q (q_loadb_agg 6 rfl ag29 sz29 rfl rfl rfl rfl) rfl rfl ?_
    refine r_q (q_loadb_agg 5 rfl ag57 sz57 rfl rfl rfl rfl) rfl rfl ?_
    obtain ⟨v14, v15, v16, v17, v18, v19, hb3, h⟩ := of_b6 h
    refine r_do (a_call ok49 rfl rfl rfl rfl (fun w hm => spec_RunOp.calls K v1 x1.1.A x1.1.n x1.1.c v2 x1.2.1.A x1.2.1.n x1.2.1.c v3 x1.2.2.1.A x1.2.2.1.n x1.2.2.1.c v4 x1.2.2.2.A x1.2.2.2.n x1.2.2.2.c v5 v6 v7 hm x1.1.h (Rd.row 7 rfl) x1.2.1.h (Rd.row 8 rfl) x1.2.2.1.h (Rd.row 9 rfl) x1.2.2.2.h (Rd.row 10 rfl) (hm.roomI 10 rfl) hb3)) rfl rfl (fun x6 => ?_)
    refine r_q (q_move rfl rfl) rfl rfl ?_
    refine r_q (q_extract rfl rfl rfl) rfl rfl ?_
    refine r_q (q_extract rfl rfl rfl) rfl rfl ?_
    refine r_q (q_extract rfl rfl rfl) rfl rfl ?_
    refine r_do (a_alloc zr29 rfl) rfl rfl (fun x7 => ?_)
    refine r_do (a_storeb 0 rfl sz29 rfl rfl rfl rfl (Nat.le_of_ble_eq_true rfl) rfl) rfl rfl (fun _ => ?_)
    refine j_b0 [(.slice x6.1.A x6.1.n x6.1.c), (.slice x6.2.1.A x6.2.1.n x6.2.1.c), (.slice x6.2.2.1.A x6.2.2.1.n x6.2.2.1.c), (.slice x6.2.2.2.A x6.2.2.2.n x6.2.2.2.c)] rfl ?_
    refine r_q (q_assign rfl rfl) rfl rfl ?_
    refine r_q (q_assign rfl rfl) rfl rfl ?_
    refine r_nil ?_
    refine j_then ?_
    refine j_seq ?_
    refine j_seq ?_
    refine j_region ?_
    refine r_q (q_loadb_agg 5 rfl ag29 sz29 rfl rfl rfl rfl) rfl rfl ?_
    refine r_q (q_loadb_agg 0 rfl ag29 sz29 rfl rfl rfl rfl) rfl rfl ?_
    obtain ⟨v20, hb4, h⟩ := of_b1 h
    refine r_do (a_call ok18 rfl rfl rfl rfl (fun w hm => impl_StoreSame.calls K v8 x4.1.A x4.1.n x4.1.c v9 x4.2.1.A x4.2.1.n x4.2.1.c v10 x4.2.2.1.A x4.2.2.1.n x4.2.2.1.c v11 x4.2.2.2.A x4.2.2.2.n x4.2.2.2.c v14 x6.1.A x6.1.n x6.1.c v15 x6.2.1.A x6.2.1.n x6.2.1.c v16 x6.2.2.1.A x6.2.2.1.n x6.2.2.1.c v17 x6.2.2.2.A x6.2.2.2.n x6.2.2.2.c hm x4.1.h (Rd.row 6 rfl) x4.2.1.h (Rd.row 7 rfl) x4.2.2.1.h (Rd.row 8 rfl) x4.2.2.2.h (Rd.row 9 rfl) x6.1.h (Rd.row 1 rfl) x6.2.1.h (Rd.row 2 rfl) x6.2.2.1.h (Rd.row 3 rfl) x6.2.2.2.h (Rd.row 4 rfl) hb4)) rfl rfl (fun x8 => ?_)
    refine r_q (q_not rfl rfl) rfl rfl ?_
    refine r_q (q_move rfl rfl) rfl rfl ?_
    rcases of_if h with ⟨c2, h⟩ | ⟨c2, h⟩
    · refine r_qon (q_move rfl rfl) rfl rfl rfl rfl (not_f c2) rfl ?_
      refine r_qon (q_move rfl rfl) rfl rfl rfl rfl (not_f c2) rfl ?_
      refine r_qon (q_neq rfl rfl rfl) rfl rfl rfl rfl (not_f c2) rfl ?_
      refine r_q (q_pick_f rfl rfl (not_f c2) rfl) rfl rfl ?_
      refine r_q (q_move rfl rfl) rfl rfl ?_
      rcases of_if h with ⟨c3, h⟩ | ⟨c3, h⟩
      · refine r_qon (q_move rfl rfl) rfl rfl rfl rfl (bne_f c3) rfl ?_
        refine r_qon (q_move rfl rfl) rfl rfl rfl rfl (bne_f c3) rfl ?_
        refine r_qon (q_bneq un4 rfl rfl rfl) rfl rfl rfl rfl (bne_f c3) rfl ?_
        refine r_q (q_pick_f rfl rfl (bne_f c3) rfl) rfl rfl ?_
        refine r_q (q_move rfl rfl) rfl rfl ?_
        rcases of_if h with ⟨c4, h⟩ | ⟨c4, h⟩
        · refine r_qon (q_move rfl rfl) rfl rfl rfl rfl (bne_f c4) rfl ?_
          refine r_qon (q_not rfl rfl) rfl rfl rfl rfl (bne_f c4) rfl ?_
          refine r_q (q_pick_f rfl rfl (bne_f c4) rfl) rfl rfl ?_
          refine r_nil ?_
          refine j_then ?_
          rcases of_if h with ⟨c5, h⟩ | ⟨c5, h⟩
          · refine j_false rfl (not_f c5) ?_
            refine j_skip ?_
            refine j_then ?_
            refine j_seq ?_
            refine j_seq ?_
            refine j_region ?_
            refine r_q (q_move rfl rfl) rfl rfl ?_
            refine r_q (q_neq rfl rfl rfl) rfl rfl ?_
            refine r_nil ?_
            refine j_then ?_
            rcases of_if h with ⟨c6, h⟩ | ⟨c6, h⟩
            · refine j_false rfl (bne_f c6) ?_
              refine j_skip ?_
              refine j_then ?_
              refine j_seq ?_
              refine j_region ?_
              refine r_q (q_loadb_agg 5 rfl ag29 sz29 rfl rfl rfl rfl) rfl rfl ?_
              obtain ⟨v21, hb5, h⟩ := of_b1 h
              refine r_do (a_call ok22 rfl rfl rfl rfl (fun w hm => impl_StoreValid.calls K v8 x4.1.A x4.1.n x4.1.c v9 x4.2.1.A x4.2.1.n x4.2.1.c v10 x4.2.2.1.A x4.2.2.1.n x4.2.2.1.c v11 x4.2.2.2.A x4.2.2.2.n x4.2.2.2.c hm x4.1.h (Rd.row 6 rfl) x4.2.1.h (Rd.row 7 rfl) x4.2.2.1.h (Rd.row 8 rfl) x4.2.2.2.h (Rd.row 9 rfl) (hm.roomI 9 rfl) hb5)) rfl rfl (fun x9 => ?_)
              refine r_q (q_move rfl rfl) rfl rfl ?_
              rcases of_if h with ⟨c7, h⟩ | ⟨c7, h⟩
              · refine r_qon (q_fieldAddr fi29_1 sz25 rfl rfl rfl) rfl rfl rfl rfl c7 rfl ?_
                refine r_qon (q_loadb 5 rfl ag25 rfl rfl rfl) rfl rfl rfl rfl c7 rfl ?_
                refine r_qon (q_lenX v11 x4.2.2.2.h un25 rfl rfl rfl rfl rfl) rfl rfl rfl rfl c7 rfl ?_
                refine r_qon (q_fieldAddr fi29_1 sz25 rfl rfl rfl) rfl rfl rfl rfl c7 rfl ?_
                refine r_qon (q_loadb 11 rfl ag25 rfl rfl rfl) rfl rfl rfl rfl c7 rfl ?_
                refine r_qon (q_lenX v4 x1.2.2.2.h un25 rfl rfl rfl rfl rfl) rfl rfl rfl rfl c7 rfl ?_
                refine r_qon (q_eql rfl rfl rfl) rfl rfl rfl rfl c7 rfl ?_
                refine r_qon (q_move rfl rfl) rfl rfl rfl rfl c7 rfl ?_
                rcases of_if h with ⟨c8, h⟩ | ⟨c8, h⟩
                · refine r_off rfl rfl rfl rfl (beq_t c8) rfl ?_
                  refine r_off rfl rfl rfl rfl (beq_t c8) rfl ?_
                  refine r_off rfl rfl rfl rfl (beq_t c8) rfl ?_
                  refine r_off rfl rfl rfl rfl (beq_t c8) rfl ?_
                  refine r_offu rfl rfl rfl rfl rfl ?_
                  refine r_offu rfl rfl rfl rfl rfl ?_
                  refine r_offu rfl rfl rfl rfl rfl ?_
                  refine r_offu rfl rfl rfl rfl rfl ?_
                  refine r_offu rfl rfl rfl rfl rfl ?_
                  refine r_offu rfl rfl rfl rfl rfl ?_
                  refine r_offu rfl rfl rfl rfl rfl ?_
                  refine r_offu rfl rfl rfl rfl rfl ?_
                  refine r_off rfl rfl rfl rfl (beq_t c8) rfl ?_
                  refine r_qon (q_pick_t rfl rfl (beq_t c8) rfl) rfl rfl rfl rfl c7 rfl ?_
                  refine r_q (q_pick_t rfl rfl c7 rfl) rfl rfl ?_
                  refine r_q (q_assign rfl rfl) rfl rfl ?_
                  refine r_nil ?_
                  refine j_then ?_
                  refine j_ret ?_
                  cases h
                  exact j_return rfl (ResOf.tmp rfl ResOf.nil) rfl (fun w h => ⟨(), rfl, (h.drop 16)⟩)
                · refine r_qon (q_fieldAddr fi57_0 sz3 rfl rfl rfl) rfl rfl rfl rfl (beq_f c8) rfl ?_
                  refine r_qon (q_loadb 10 rfl ag3 rfl rfl rfl) rfl rfl rfl rfl (beq_f c8) rfl ?_
                  refine r_qon (q_eql rfl rfl rfl) rfl rfl rfl rfl (beq_f c8) rfl ?_
                  refine r_qon (q_move rfl rfl) rfl rfl rfl rfl (beq_f c8) rfl ?_
                  rcases of_if h with ⟨c9, h⟩ | ⟨c9, h⟩
                  · refine r_qon (q_fieldAddr fi29_1 sz25 rfl rfl rfl) rfl rfl rfl rfl (beq_t c9) rfl ?_
                    refine r_qon (q_loadb 5 rfl ag25 rfl rfl rfl) rfl rfl rfl rfl (beq_t c9) rfl ?_
                    refine r_qon (q_lenX v11 x4.2.2.2.h un25 rfl rfl rfl rfl rfl) rfl rfl rfl rfl (beq_t c9) rfl ?_
                    refine r_qon (q_fieldAddr fi29_1 sz25 rfl rfl rfl) rfl rfl rfl rfl (beq_t c9) rfl ?_
                    refine r_qon (q_loadb 11 rfl ag25 rfl rfl rfl) rfl rfl rfl rfl (beq_t c9) rfl ?_
                    refine r_qon (q_lenX v4 x1.2.2.2.h un25 rfl rfl rfl rfl rfl) rfl rfl rfl rfl (beq_t c9) rfl ?_
                    refine r_qon (q_sub rfl rfl rfl) rfl rfl rfl rfl (beq_t c9) rfl ?_
                    refine r_qon (q_eql rfl rfl rfl) rfl rfl rfl rfl (beq_t c9) rfl ?_
                    refine r_qon (q_pick_t rfl rfl (beq_t c9) rfl) rfl rfl rfl rfl (beq_f c8) rfl ?_
                    refine r_qon (q_pick_f rfl rfl (beq_f c8) rfl) rfl rfl rfl rfl c7 rfl ?_
                    refine r_q (q_pick_t rfl rfl c7 rfl) rfl rfl ?_
                    refine r_q (q_assign rfl rfl) rfl rfl ?_
                    refine r_nil ?_
                    refine j_then ?_
                    refine j_ret ?_
                    cases h
                    exact j_return rfl (ResOf.tmp rfl ResOf.nil) rfl (fun w h => ⟨(), rfl, (h.drop 16)⟩)
                  · refine r_off rfl rfl rfl rfl (beq_f c9) rfl ?_
                    refine r_off rfl rfl rfl rfl (beq_f c9) rfl ?_
                    refine r_off rfl rfl rfl rfl (beq_f c9) rfl ?_
                    refine r_off rfl rfl rfl rfl (beq_f c9) rfl ?_
                    refine r_off rfl rfl rfl rfl (beq_f c9) rfl ?_
                    refine r_off rfl rfl rfl rfl (beq_f c9) rfl ?_
                    refine r_off rfl rfl rfl rfl (beq_f c9) rfl ?_
                    refine r_off rfl rfl rfl rfl (beq_f c9) rfl ?_
                    refine r_qon (q_pick_f rfl rfl (beq_f c9) rfl) rfl rfl rfl rfl (beq_f c8) rfl ?_
                    refine r_qon (q_pick_f rfl rfl (beq_f c8) rfl) rfl rfl rfl rfl c7 rfl ?_
                    refine r_q (q_pick_t rfl rfl c7 rfl) rfl rfl ?_
                    refine r_q (q_assign rfl rfl) rfl rfl ?_
                    refine r_nil ?_
                    refine j_then ?_
                    refine j_ret ?_
                    cases h
                    exact j_return rfl (ResOf.tmp rfl ResOf.nil) rfl (fun w h => ⟨(), rfl, (h.drop 16)⟩)
              · refine r_off rfl rfl rfl rfl (var_f c7) rfl ?_
                refine r_off rfl rfl rfl rfl (var_f c7) rfl ?_
                refine r_off rfl rfl rfl rfl (var_f c7) rfl ?_
                refine r_off rfl rfl rfl rfl (var_f c7) rfl ?_
                refine r_off rfl rfl rfl rfl (var_f c7) rfl ?_
                refine r_off rfl rfl rfl rfl (var_f c7) rfl ?_
                refine r_off rfl rfl rfl rfl (var_f c7) rfl ?_
                refine r_off rfl rfl rfl rfl (var_f c7) rfl ?_
                refine r_offu rfl rfl rfl rfl rfl ?_
                refine r_offu rfl rfl rfl rfl rfl ?_
                refine r_offu rfl rfl rfl rfl rfl ?_
                refine r_offu rfl rfl rfl rfl rfl ?_
                refine r_offu rfl rfl rfl rfl rfl ?_
                refine r_offu rfl rfl rfl rfl rfl ?_
                refine r_offu rfl rfl rfl rfl rfl ?_
                refine r_offu rfl rfl rfl rfl rfl ?_
                refine r_offu rfl rfl rfl rfl rfl ?_
                refine r_offu rfl rfl rfl rfl rfl ?_
                refine r_offu rfl rfl rfl rfl rfl ?_
                refine r_offu rfl rfl rfl rfl rfl ?_
                refine r_offu rfl rfl rfl rfl rfl ?_
                refine r_off rfl rfl rfl rfl (var_f c7) rfl ?_
                refine r_q (q_pick_f rfl rfl (var_f c7) rfl) rfl rfl ?_
                refine r_q (q_assign rfl rfl) rfl rfl ?_
                refine r_nil ?_
                refine j_then ?_
                refine j_ret ?_
                cases h
                exact j_return rfl (ResOf.tmp rfl ResOf.nil) rfl (fun w h => ⟨(), rfl, (h.drop 16)⟩)
            · refine j_true rfl (bne_t c6) ?_
              refine j_seq ?_
              refine j_region ?_
              refine r_q (q_loadb_agg 5 rfl ag29 sz29 rfl rfl rfl rfl) rfl rfl ?_
              refine r_q (q_loadb_agg 11 rfl ag29 sz29 rfl rfl rfl rfl) rfl rfl ?_
              obtain ⟨v22, hb6, h⟩ := of_b1 h
              refine r_do (a_call ok18 rfl rfl rfl rfl (fun w hm => impl_StoreSame.calls K v8 x4.1.A x4.1.n x4.1.c v9 x4.2.1.A x4.2.1.n x4.2.1.c v10 x4.2.2.1.A x4.2.2.1.n x4.2.2.1.c v11 x4.2.2.2.A x4.2.2.2.n x4.2.2.2.c v1 x1.1.A x1.1.n x1.1.c v2 x1.2.1.A x1.2.1.n x1.2.1.c v3 x1.2.2.1.A x1.2.2.1.n x1.2.2.1.c v4 x1.2.2.2.A x1.2.2.2.n x1.2.2.2.c hm x4.1.h (Rd.row 6 rfl) x4.2.1.h (Rd.row 7 rfl) x4.2.2.1.h (Rd.row 8 rfl) x4.2.2.2.h (Rd.row 9 rfl) x1.1.h (Rd.row 12 rfl) x1.2.1.h (Rd.row 13 rfl) x1.2.2.1.h (Rd.row 14 rfl) x1.2.2.2.h (Rd.row 15 rfl) hb6)) rfl rfl (fun x10 => ?_)
              refine r_q (q_assign rfl rfl) rfl rfl ?_
              refine r_nil ?_
              refine j_then ?_
              refine j_ret ?_
              refine j_then_ret ?_
              cases h
              exact j_return rfl (ResOf.tmp rfl ResOf.nil) rfl (fun w h => ⟨(), rfl, (h.drop 16)⟩)
          · refine j_true rfl (not_t (var_f c5)) ?_
            refine j_seq ?_
            refine j_region ?_
            refine r_q (q_loadb_agg 5 rfl ag29 sz29 rfl rfl rfl rfl) rfl rfl ?_
            refine r_q (q_loadb_agg 0 rfl ag29 sz29 rfl rfl rfl rfl) rfl rfl ?_
            obtain ⟨v23, hb7, h⟩ := of_b1 h
            refine r_do (a_call ok18 rfl rfl rfl rfl (fun w hm => impl_StoreSame.calls K v8 x4.1.A x4.1.n x4.1.c v9 x4.2.1.A x4.2.1.n x4.2.1.c v10 x4.2.2.1.A x4.2.2.1.n x4.2.2.1.c v11 x4.2.2.2.A x4.2.2.2.n x4.2.2.2.c v14 x6.1.A x6.1.n x6.1.c v15 x6.2.1.A x6.2.1.n x6.2.1.c v16 x6.2.2.1.A x6.2.2.1.n x6.2.2.1.c v17 x6.2.2.2.A x6.2.2.2.n x6.2.2.2.c hm x4.1.h (Rd.row 6 rfl) x4.2.1.h (Rd.row 7 rfl) x4.2.2.1.h (Rd.row 8 rfl) x4.2.2.2.h (Rd.row 9 rfl) x6.1.h (Rd.row 1 rfl) x6.2.1.h (Rd.row 2 rfl) x6.2.2.1.h (Rd.row 3 rfl) x6.2.2.2.h (Rd.row 4 rfl) hb7)) rfl rfl (fun x11 => ?_)
            refine r_q (q_move rfl rfl) rfl rfl ?_
            rcases of_if h with ⟨c10, h⟩ | ⟨c10, h⟩
            · refine r_qon (q_move rfl rfl) rfl rfl rfl rfl c10 rfl ?_
              refine r_qon (q_move rfl rfl) rfl rfl rfl rfl c10 rfl ?_
              refine r_qon (q_eql rfl rfl rfl) rfl rfl rfl rfl c10 rfl ?_
              refine r_q (q_pick_t rfl rfl c10 rfl) rfl rfl ?_
              refine r_q (q_move rfl rfl) rfl rfl ?_
              refine r_qon (q_move rfl rfl) rfl rfl rfl rfl (beq_t c3) rfl ?_
              refine r_qon (q_move rfl rfl) rfl rfl rfl rfl (beq_t c3) rfl ?_
              refine r_qon (q_beql un4 rfl rfl rfl) rfl rfl rfl rfl (beq_t c3) rfl ?_
              refine r_q (q_pick_t rfl rfl (beq_t c3) rfl) rfl rfl ?_
              refine r_q (q_assign rfl rfl) rfl rfl ?_
              refine r_nil ?_
              refine j_then ?_
              refine j_ret ?_
              refine j_then_ret ?_
              cases h
              exact j_return rfl (ResOf.tmp rfl ResOf.nil) rfl (fun w h => ⟨(), rfl, (h.drop 16)⟩)
            · refine r_off rfl rfl rfl rfl (var_f c10) rfl ?_
              refine r_off rfl rfl rfl rfl (var_f c10) rfl ?_
              refine r_off rfl rfl rfl rfl (var_f c10) rfl ?_
              refine r_q (q_pick_f rfl rfl (var_f c10) rfl) rfl rfl ?_
              refine r_q (q_move rfl rfl) rfl rfl ?_
              refine r_off rfl rfl rfl rfl rfl rfl ?_
              refine r_off rfl rfl rfl rfl rfl rfl ?_
              refine r_off rfl rfl rfl rfl rfl rfl ?_
              refine r_q (q_pick_f rfl rfl rfl rfl) rfl rfl ?_
              refine r_q (q_assign rfl rfl) rfl rfl ?_
              refine r_nil ?_
              refine j_then ?_
              refine j_ret ?_
              refine j_then_ret ?_
              cases h
              exact j_return rfl (ResOf.tmp rfl ResOf.nil) rfl (fun w h => ⟨(), rfl, (h.drop 16)⟩)
        · refine r_off rfl rfl rfl rfl (bne_t c4) rfl ?_
          refine r_off rfl rfl rfl rfl (bne_t c4) rfl ?_
          refine r_q (q_pick_t rfl rfl (bne_t c4) rfl) rfl rfl ?_
          refine r_nil ?_
          refine j_then ?_
          refine j_true rfl rfl ?_
          refine j_seq ?_
          refine j_region ?_
          refine r_q (q_loadb_agg 5 rfl ag29 sz29 rfl rfl rfl rfl) rfl rfl ?_
          refine r_q (q_loadb_agg 0 rfl ag29 sz29 rfl rfl rfl rfl) rfl rfl ?_
          obtain ⟨v24, hb8, h⟩ := of_b1 h
          refine r_do (a_call ok18 rfl rfl rfl rfl (fun w hm => impl_StoreSame.calls K v8 x4.1.A x4.1.n x4.1.c v9 x4.2.1.A x4.2.1.n x4.2.1.c v10 x4.2.2.1.A x4.2.2.1.n x4.2.2.1.c v11 x4.2.2.2.A x4.2.2.2.n x4.2.2.2.c v14 x6.1.A x6.1.n x6.1.c v15 x6.2.1.A x6.2.1.n x6.2.1.c v16 x6.2.2.1.A x6.2.2.1.n x6.2.2.1.c v17 x6.2.2.2.A x6.2.2.2.n x6.2.2.2.c hm x4.1.h (Rd.row 6 rfl) x4.2.1.h (Rd.row 7 rfl) x4.2.2.1.h (Rd.row 8 rfl) x4.2.2.2.h (Rd.row 9 rfl) x6.1.h (Rd.row 1 rfl) x6.2.1.h (Rd.row 2 rfl) x6.2.2.1.h (Rd.row 3 rfl) x6.2.2.2.h (Rd.row 4 rfl) hb8)) rfl rfl (fun x11 => ?_)
          refine r_q (q_move rfl rfl) rfl rfl ?_
          rcases of_if h with ⟨c11, h⟩ | ⟨c11, h⟩
          · refine r_qon (q_move rfl rfl) rfl rfl rfl rfl c11 rfl ?_
            refine r_qon (q_move rfl rfl) rfl rfl rfl rfl c11 rfl ?_
            refine r_qon (q_eql rfl rfl rfl) rfl rfl rfl rfl c11 rfl ?_
            refine r_q (q_pick_t rfl rfl c11 rfl) rfl rfl ?_
            refine r_q (q_move rfl rfl) rfl rfl ?_
            refine r_qon (q_move rfl rfl) rfl rfl rfl rfl (beq_t c3) rfl ?_
            refine r_qon (q_move rfl rfl) rfl rfl rfl rfl (beq_t c3) rfl ?_
            refine r_qon (q_beql un4 rfl rfl rfl) rfl rfl rfl rfl (beq_t c3) rfl ?_
            refine r_q (q_pick_t rfl rfl (beq_t c3) rfl) rfl rfl ?_
            refine r_q (q_assign rfl rfl) rfl rfl ?_
            refine r_nil ?_
            refine j_then ?_
            refine j_ret ?_
            refine j_then_ret ?_
            cases h
            exact j_return rfl (ResOf.tmp rfl ResOf.nil) rfl (fun w h => ⟨(), rfl, (h.drop 16)⟩)
          · refine r_off rfl rfl rfl rfl (var_f c11) rfl ?_
            refine r_off rfl rfl rfl rfl (var_f c11) rfl ?_
            refine r_off rfl rfl rfl rfl (var_f c11) rfl ?_
            refine r_q (q_pick_f rfl rfl (var_f c11) rfl) rfl rfl ?_
            refine r_q (q_move rfl rfl) rfl rfl ?_
            refine r_off rfl rfl rfl rfl rfl rfl ?_
            refine r_off rfl rfl rfl rfl rfl rfl ?_
            refine r_off rfl rfl rfl rfl rfl rfl ?_
            refine r_q (q_pick_f rfl rfl rfl rfl) rfl rfl ?_
            refine r_q (q_assign rfl rfl) rfl rfl ?_
            refine r_nil ?_
            refine j_then ?_
            refine j_ret ?_
            refine j_then_ret ?_
            cases h
            exact j_return rfl (ResOf.tmp rfl ResOf.nil) rfl (fun w h => ⟨(), rfl, (h.drop 16)⟩)
      · refine r_off rfl rfl rfl rfl (bne_t c3) rfl ?_
        refine r_off rfl rfl rfl rfl (bne_t c3) rfl ?_
        refine r_off rfl rfl rfl rfl (bne_t c3) rfl ?_
        refine r_q (q_pick_t rfl rfl (bne_t c3) rfl) rfl rfl ?_
        refine r_q (q_move rfl rfl) rfl rfl ?_
        refine r_off rfl rfl rfl rfl rfl rfl ?_
        refine r_off rfl rfl rfl rfl rfl rfl ?_
        refine r_q (q_pick_t rfl rfl rfl rfl) rfl rfl ?_
        refine r_nil ?_
        refine j_then ?_
        refine j_true rfl rfl ?_
        refine j_seq ?_
        refine j_region ?_
        refine r_q (q_loadb_agg 5 rfl ag29 sz29 rfl rfl rfl rfl) rfl rfl ?_
        refine r_q (q_loadb_agg 0 rfl ag29 sz29 rfl rfl rfl rfl) rfl rfl ?_
        obtain ⟨v25, hb9, h⟩ := of_b1 h
        refine r_do (a_call ok18 rfl rfl rfl rfl (fun w hm => impl_StoreSame.calls K v8 x4.1.A x4.1.n x4.1.c v9 x4.2.1.A x4.2.1.n x4.2.1.c v10 x4.2.2.1.A x4.2.2.1.n x4.2.2.1.c v11 x4.2.2.2.A x4.2.2.2.n x4.2.2.2.c v14 x6.1.A x6.1.n x6.1.c v15 x6.2.1.A x6.2.1.n x6.2.1.c v16 x6.2.2.1.A x6.2.2.1.n x6.2.2.1.c v17 x6.2.2.2.A x6.2.2.2.n x6.2.2.2.c hm x4.1.h (Rd.row 6 rfl) x4.2.1.h (Rd.row 7 rfl) x4.2.2.1.h (Rd.row 8 rfl) x4.2.2.2.h (Rd.row 9 rfl) x6.1.h (Rd.row 1 rfl) x6.2.1.h (Rd.row 2 rfl) x6.2.2.1.h (Rd.row 3 rfl) x6.2.2.2.h (Rd.row 4 rfl) hb9)) rfl rfl (fun x11 => ?_)
        refine r_q (q_move rfl rfl) rfl rfl ?_
        rcases of_if h with ⟨c12, h⟩ | ⟨c12, h⟩
        · refine r_qon (q_move rfl rfl) rfl rfl rfl rfl c12 rfl ?_
          refine r_qon (q_move rfl rfl) rfl rfl rfl rfl c12 rfl ?_
          refine r_qon (q_eql rfl rfl rfl) rfl rfl rfl rfl c12 rfl ?_
          refine r_q (q_pick_t rfl rfl c12 rfl) rfl rfl ?_
          refine r_q (q_move rfl rfl) rfl rfl ?_
          refine r_off rfl rfl rfl rfl (beq_f c3) rfl ?_
          refine r_off rfl rfl rfl rfl (beq_f c3) rfl ?_
          refine r_off rfl rfl rfl rfl (beq_f c3) rfl ?_
          refine r_q (q_pick_f rfl rfl (beq_f c3) rfl) rfl rfl ?_
          refine r_q (q_assign rfl rfl) rfl rfl ?_
          refine r_nil ?_
          refine j_then ?_
          refine j_ret ?_
          refine j_then_ret ?_
          cases h
          exact j_return rfl (ResOf.tmp rfl ResOf.nil) rfl (fun w h => ⟨(), rfl, (h.drop 16)⟩)
        · refine r_off rfl rfl rfl rfl (var_f c12) rfl ?_
          refine r_off rfl rfl rfl rfl (var_f c12) rfl ?_
          refine r_off rfl rfl rfl rfl (var_f c12) rfl ?_
          refine r_q (q_pick_f rfl rfl (var_f c12) rfl) rfl rfl ?_
          refine r_q (q_move rfl rfl) rfl rfl ?_
          refine r_off rfl rfl rfl rfl rfl rfl ?_
          refine r_off rfl rfl rfl rfl rfl rfl ?_
          refine r_off rfl rfl rfl rfl rfl rfl ?_
          refine r_q (q_pick_f rfl rfl rfl rfl) rfl rfl ?_
          refine r_q (q_assign rfl rfl) rfl rfl ?_
          refine r_nil ?_
          refine j_then ?_
          refine j_ret ?_
          refine j_then_ret ?_
          cases h
          exact j_return rfl (ResOf.tmp rfl ResOf.nil) rfl (fun w h => ⟨(), rfl, (h.drop 16)⟩)
    · refine r_off rfl rfl rfl rfl (not_t (var_f c2)) rfl ?_
      refine r_off rfl rfl rfl rfl (not_t (var_f c2)) rfl ?_
      refine r_off rfl rfl rfl rfl (not_t (var_f c2)) rfl ?_
      refine r_q (q_pick_t rfl rfl (not_t (var_f c2)) rfl) rfl rfl ?_
      refine r_q (q_move rfl rfl) rfl rfl ?_
      refine r_off rfl rfl rfl rfl rfl rfl ?_
      refine r_off rfl rfl rfl rfl rfl rfl ?_
      refine r_off rfl rfl rfl rfl rfl rfl ?_
      refine r_q (q_pick_t rfl rfl rfl rfl) rfl rfl ?_
      refine r_q (q_move rfl rfl) rfl rfl ?_
      refine r_off rfl rfl rfl rfl rfl rfl ?_
      refine r_off rfl rfl rfl rfl rfl rfl ?_
      refine r_q (q_pick_t rfl rfl rfl rfl) rfl rfl ?_
      refine r_nil ?_
      refine j_then ?_
      refine j_true rfl rfl ?_
      refine j_seq ?_
      refine j_region ?_
      refine r_q (q_loadb_agg 5 rfl ag29 sz29 rfl rfl rfl rfl) rfl rfl ?_
      refine r_q (q_loadb_agg 0 rfl ag29 sz29 rfl rfl rfl rfl) rfl rfl ?_
      obtain ⟨v26, hb10, h⟩ := of_b1 h
      refine r_do (a_call ok18 rfl rfl rfl rfl (fun w hm => impl_StoreSame.calls K v8 x4.1.A x4.1.n x4.1.c v9 x4.2.1.A x4.2.1.n x4.2.1.c v10 x4.2.2.1.A x4.2.2.1.n x4.2.2.1.c v11 x4.2.2.2.A x4.2.2.2.n x4.2.2.2.c v14 x6.1.A x6.1.n x6.1.c v15 x6.2.1.A x6.2.1.n x6.2.1.c v16 x6.2.2.1.A x6.2.2.1.n x6.2.2.1.c v17 x6.2.2.2.A x6.2.2.2.n x6.2.2.2.c hm x4.1.h (Rd.row 6 rfl) x4.2.1.h (Rd.row 7 rfl) x4.2.2.1.h (Rd.row 8 rfl) x4.2.2.2.h (Rd.row 9 rfl) x6.1.h (Rd.row 1 rfl) x6.2.1.h (Rd.row 2 rfl) x6.2.2.1.h (Rd.row 3 rfl) x6.2.2.2.h (Rd.row 4 rfl) hb10)) rfl rfl (fun x11 => ?_)
      refine r_q (q_move rfl rfl) rfl rfl ?_
      rcases of_if h with ⟨c13, h⟩ | ⟨c13, h⟩
      · refine r_qon (q_move rfl rfl) rfl rfl rfl rfl c13 rfl ?_
        refine r_qon (q_move rfl rfl) rfl rfl rfl rfl c13 rfl ?_
        refine r_qon (q_eql rfl rfl rfl) rfl rfl rfl rfl c13 rfl ?_
        refine r_q (q_pick_t rfl rfl c13 rfl) rfl rfl ?_
        refine r_q (q_move rfl rfl) rfl rfl ?_
        rcases of_if h with ⟨c14, h⟩ | ⟨c14, h⟩
        · refine r_qon (q_move rfl rfl) rfl rfl rfl rfl (beq_t c14) rfl ?_
          refine r_qon (q_move rfl rfl) rfl rfl rfl rfl (beq_t c14) rfl ?_
          refine r_qon (q_beql un4 rfl rfl rfl) rfl rfl rfl rfl (beq_t c14) rfl ?_
          refine r_q (q_pick_t rfl rfl (beq_t c14) rfl) rfl rfl ?_
          refine r_q (q_assign rfl rfl) rfl rfl ?_
          refine r_nil ?_
          refine j_then ?_
          refine j_ret ?_
          refine j_then_ret ?_
          cases h
          exact j_return rfl (ResOf.tmp rfl ResOf.nil) rfl (fun w h => ⟨(), rfl, (h.drop 16)⟩)
        · refine r_off rfl rfl rfl rfl (beq_f c14) rfl ?_
          refine r_off rfl rfl rfl rfl (beq_f c14) rfl ?_
          refine r_off rfl rfl rfl rfl (beq_f c14) rfl ?_
          refine r_q (q_pick_f rfl rfl (beq_f c14) rfl) rfl rfl ?_
          refine r_q (q_assign rfl rfl) rfl rfl ?_
          refine r_nil ?_
          refine j_then ?_
          refine j_ret ?_
          refine j_then_ret ?_
          cases h
          exact j_return rfl (ResOf.tmp rfl ResOf.nil) rfl (fun w h => ⟨(), rfl, (h.drop 16)⟩)
      · refine r_off rfl rfl rfl rfl (var_f c13) rfl ?_
        refine r_off rfl rfl rfl rfl (var_f c13) rfl ?_
        refine r_off rfl rfl rfl rfl (var_f c13) rfl ?_
        refine r_q (q_pick_f rfl rfl (var_f c13) rfl) rfl rfl ?_
        refine r_q (q_move rfl rfl) rfl rfl ?_
        refine r_off rfl rfl rfl rfl rfl rfl ?_
        refine r_off rfl rfl rfl rfl rfl rfl ?_
        refine r_off rfl rfl rfl rfl rfl rfl ?_
        refine r_q (q_pick_f rfl rfl rfl rfl) rfl rfl ?_
        refine r_q (q_assign rfl rfl) rfl rfl ?_
        refine r_nil ?_
        refine j_then ?_
        refine j_ret ?_
        refine j_then_ret ?_
        cases h
        exact j_return rfl (ResOf.tmp rfl ResOf.nil) rfl (fun w h => ⟨(), rfl, (h.drop 16)⟩)

end Go.Proofs.Ytigidjhdcplplaa.F
