/- The program computes these pure functions, printed by the generator of wip/gen. -/
import Derived.Test.YtjcbalhdppmdmaaFa
import Derived.Test.YtjcbalhdppmdmaaFb
import Derived.Test.YtjcbalhdppmdmaaC7
namespace Go.Proofs.Ytjcbalhdppmdmaa.F
open Go Go.RowKit Go.Proofs.Ytjcbalhdppmdmaa.S
set_option linter.unusedVariables false
set_option maxRecDepth 100000
theorem spec_NewStore.calls (K : Nat) (a0 : Int) (a1 : Int) {w0 w : World} {F : List Res} {r1 : List Int} {r2 : List Int} {r3 : List Int} {r4 : List Int} {r5 : Bool} (hm : Mem w0 (F) w)  (h : spec_NewStore.f K a0 a1 = some (r1, r2, r3, r4, r5)) :
    Calls Try.prog 43 (List.toArray [i6 a0, i6 a1]) w fun e w' => ∃ x : (Sl r1.length) × (Sl r2.length) × (Sl r3.length) × (Sl r4.length), e = .returned (.tuple (List.toArray [.agg (List.toArray [.slice x.1.A x.1.n x.1.c, .slice x.2.1.A x.2.1.n x.2.1.c, .slice x.2.2.1.A x.2.2.1.n x.2.2.1.c, .slice x.2.2.2.A x.2.2.2.n x.2.2.2.c]), .bool r5])) ∧ Mem w0 (.row x.1.A x.1.c 3 1 (ii r1) :: .row x.2.1.A x.2.1.c 3 1 (ii r2) :: .row x.2.2.1.A x.2.2.1.c 3 1 (ii r3) :: .row x.2.2.2.A x.2.2.2.c 3 1 (ii r4) :: F) w' := by
  unfold spec_NewStore.f at h
  refine calls_of_J (n := 33) Try.func43 rfl rfl rfl hm ?_
  refine j_seq ?_
  refine j_region ?_
  refine r_do (a_alloc zr48 rfl) rfl rfl (fun x1 => ?_)
  refine r_q (q_assign rfl rfl) rfl rfl ?_
  refine r_nil ?_
  refine j_then ?_
  refine j_seq ?_
  refine j_region ?_
  refine r_q (q_move rfl rfl) rfl rfl ?_
  refine r_q (q_move rfl rfl) rfl rfl ?_
  obtain ⟨v1, v2, v3, v4, hb1, h⟩ := of_b4 h
  refine r_do (a_call ok77 rfl rfl rfl rfl (fun w hm => spec_NewHeap.calls K a0 a1 hm hb1)) rfl rfl (fun x2 => ?_)
  refine r_q (q_move rfl rfl) rfl rfl ?_
  refine r_q (q_extract rfl rfl rfl) rfl rfl ?_
  refine r_q (q_extract rfl rfl rfl) rfl rfl ?_
  refine r_do (a_alloc zr46 rfl) rfl rfl (fun x3 => ?_)
  refine r_do (a_storeb 0 rfl sz46 rfl rfl rfl rfl (Nat.le_of_ble_eq_true rfl) rfl) rfl rfl (fun _ => ?_)
  refine j_b0 [(.slice x2.1.A x2.1.n x2.1.c), (.slice x2.2.1.A x2.2.1.n x2.2.1.c), (.slice x2.2.2.A x2.2.2.n x2.2.2.c)] rfl ?_
  refine r_q (q_assign rfl rfl) rfl rfl ?_
  refine r_nil ?_
  refine j_then ?_
  refine j_seq ?_
  refine j_seq ?_
  refine j_region ?_
  refine r_q (q_move rfl rfl) rfl rfl ?_
  refine r_q (q_not rfl rfl) rfl rfl ?_
  refine r_nil ?_
  refine j_then ?_
  rcases of_if h with ⟨c1, h⟩ | ⟨c1, h⟩
  · refine j_false rfl (not_f c1) ?_
    refine j_skip ?_
    refine j_then ?_
    refine j_seq ?_
    refine j_region ?_
    refine r_q (q_loadb_agg 0 rfl ag46 sz46 rfl rfl rfl rfl) rfl rfl ?_
    refine r_q (q_build (cs := [(.slice x2.1.A x2.1.n x2.1.c), (.slice x2.2.1.A x2.2.1.n x2.2.1.c), (.slice x2.2.2.A x2.2.2.n x2.2.2.c), (.slice none 0 0)]) zr48 pl48 rfl rfl rfl rfl) rfl rfl ?_
    refine r_do (a_alloc zr48 rfl) rfl rfl (fun x4 => ?_)
    refine r_do (a_storeb 0 rfl sz48 rfl rfl rfl rfl (Nat.le_of_ble_eq_true rfl) rfl) rfl rfl (fun _ => ?_)
    refine j_b0 [(.slice x2.1.A x2.1.n x2.1.c), (.slice x2.2.1.A x2.2.1.n x2.2.1.c), (.slice x2.2.2.A x2.2.2.n x2.2.2.c), (.slice none 0 0)] rfl ?_
    refine r_nil ?_
    refine j_then ?_
    refine j_seq ?_
    refine j_seq ?_
    refine j_region ?_
    refine r_q (q_assign rfl rfl) rfl rfl ?_
    refine r_nil ?_
    refine j_then ?_
    refine j_nil 3 1 ?_
    obtain ⟨κ0, h, hκ0⟩ := ex_k (g := fun κ => spec_NewStore.loop0 K κ a0 K (0:Int) ([] : List Int) = some (r1, r2, r3, r4, r5)) h
    refine j_cut (σ := (Option Addr) × Nat × Nat × (List Int)) (fun s => [(4, (pt x1)), (8, (pt x4))]) (fun s => .box x1 48 [(.slice none 0 0), (.slice none 0 0), (.slice none 0 0), (.slice none 0 0)] :: .box x4 48 [(.slice x2.1.A x2.1.n x2.1.c), (.slice x2.2.1.A x2.2.1.n x2.2.1.c), (.slice x2.2.2.A x2.2.2.n x2.2.2.c), (.slice s.1 s.2.1 s.2.2.1)] :: .row x2.1.A x2.1.c 3 1 (ii v1) :: .row x2.2.1.A x2.2.1.c 3 1 (ii v2) :: .row x2.2.2.A x2.2.2.c 3 1 (ii v3) :: .row s.1 s.2.2.1 3 1 (ii s.2.2.2) :: F) (fun s => κ0 s.2.2.2 = some (r1, r2, r3, r4, r5) ∧ (s.2.2.2.length = s.2.1)) ?_ ?_
    · refine j_block ?_
      refine j_loop (σ := Int × (Option Addr) × Nat × Nat × (List Int)) (fun s => [(0, (i6 a0)), (4, (pt x1)), (8, (pt x4)), (9, (i6 s.1))]) (fun s => .box x1 48 [(.slice none 0 0), (.slice none 0 0), (.slice none 0 0), (.slice none 0 0)] :: .box x4 48 [(.slice x2.1.A x2.1.n x2.1.c), (.slice x2.2.1.A x2.2.1.n x2.2.1.c), (.slice x2.2.2.A x2.2.2.n x2.2.2.c), (.slice s.2.1 s.2.2.1 s.2.2.2.1)] :: .row x2.1.A x2.1.c 3 1 (ii v1) :: .row x2.2.1.A x2.2.1.c 3 1 (ii v2) :: .row x2.2.2.A x2.2.2.c 3 1 (ii v3) :: .row s.2.1 s.2.2.2.1 3 1 (ii s.2.2.2.2) :: F) (fun m s => spec_NewStore.loop0 K κ0 a0 m s.1 s.2.2.2.2 = some (r1, r2, r3, r4, r5) ∧ (s.2.2.2.2.length = s.2.2.1)) K ((0:Int), none, 0, 0, ([] : List Int)) ⟨h, rfl⟩ (fun a he => he.sub ⟨rfl, rfl, rfl, rfl, trivial⟩) (fun w h => h.pick 7 [6, 1, 3, 4, 5, 0] rfl) ?_
      rintro m ⟨p2, A2, n2, d2, l2⟩ ⟨h, q2⟩
      cases m with
      | zero => exact absurd h (by rw [spec_NewStore.loop0]; exact nofun)
      | succ m =>
        rw [spec_NewStore.loop0] at h
        show J _ _ [(0, (i6 a0)), (4, (pt x1)), (8, (pt x4)), (9, (i6 p2))] _ (.box x1 48 [(.slice none 0 0), (.slice none 0 0), (.slice none 0 0), (.slice none 0 0)] :: .box x4 48 [(.slice x2.1.A x2.1.n x2.1.c), (.slice x2.2.1.A x2.2.1.n x2.2.1.c), (.slice x2.2.2.A x2.2.2.n x2.2.2.c), (.slice A2 n2 d2)] :: .row x2.1.A x2.1.c 3 1 (ii v1) :: .row x2.2.1.A x2.2.1.c 3 1 (ii v2) :: .row x2.2.2.A x2.2.2.c 3 1 (ii v3) :: .row A2 d2 3 1 (ii l2) :: F)
        refine j_seq ?_
        refine j_seq ?_
        refine j_region ?_
        refine r_q (q_move rfl rfl) rfl rfl ?_
        refine r_q (q_move rfl rfl) rfl rfl ?_
        refine r_q (q_lss rfl rfl rfl) rfl rfl ?_
        refine r_nil ?_
        refine j_then ?_
        rcases of_if h with ⟨c8, h⟩ | ⟨c8, h⟩
        · refine j_true rfl (decide_eq_true c8) ?_
          refine j_skip ?_
          refine j_then ?_
          refine j_seq ?_
          refine j_block ?_
          refine j_region ?_
          refine r_q (q_fieldAddr fi48_1 sz32 rfl rfl rfl) rfl rfl ?_
          refine r_q (q_loadb 1 rfl ag32 rfl rfl rfl) rfl rfl ?_
          refine r_q (q_move rfl rfl) rfl rfl ?_
          refine r_do (a_litX (vs := [(i6 p2)]) (ii ([p2] : List Int)) un32 sz3 zr3 rfl rfl rfl rfl rfl rfl rfl rfl rfl) rfl rfl (fun x5 => ?_)
          obtain ⟨c9, h⟩ := of_guard h
          refine r_do (a_appI (xs := l2) (ys := ([p2] : List Int)) 6 un32 un32 sz3 by3 zr3 rfl rfl rfl rfl rfl rfl rfl rfl rfl q2 rfl (Rd.row 0 rfl) c9) rfl rfl (fun x6 => ?_)
          refine j_s6 ?_
          refine r_q (q_fieldAddr fi48_1 sz32 rfl rfl rfl) rfl rfl ?_
          refine r_do (a_storeb 2 rfl sz32 rfl rfl rfl rfl (Nat.le_of_ble_eq_true rfl) rfl) rfl rfl (fun _ => ?_)
          refine j_b2 [(.slice x2.1.A x2.1.n x2.1.c), (.slice x2.2.1.A x2.2.1.n x2.2.1.c), (.slice x2.2.2.A x2.2.2.n x2.2.2.c), (.slice x6.1 (n2 + 1) x6.2)] rfl ?_
          refine r_nil ?_
          refine j_in ?_
          refine j_then ?_
          refine j_region ?_
          refine r_q (q_move rfl rfl) rfl rfl ?_
          refine r_q (q_add rfl rfl rfl) rfl rfl ?_
          refine r_q (q_assign rfl rfl) rfl rfl ?_
          refine r_nil ?_
          refine j_then ?_
          exact j_again m ((wrap64 (p2 + (1:Int))), x6.1, (n2 + 1), x6.2, (l2 ++ ([p2] : List Int))) (Nat.lt_succ_self m) ⟨h, (app_len q2 rfl)⟩ (fun a he => he.sub ⟨rfl, rfl, rfl, rfl, trivial⟩) (fun w h => h.tail)
        · refine j_false rfl (decide_eq_false c8) ?_
          refine j_exit ?_
          refine j_then_exit ?_
          refine j_then_exit ?_
          refine j_in_exit ?_
          refine j_then ?_
          exact j_meet (A2, n2, d2, l2) ⟨h, q2⟩ (fun a he => he.sub ⟨rfl, rfl, trivial⟩) (fun w h => h)
    · rintro ⟨A3, n3, d3, l3⟩ ⟨h, q3⟩
      subst hκ0
      show J _ _ [(4, (pt x1)), (8, (pt x4))] _ (.box x1 48 [(.slice none 0 0), (.slice none 0 0), (.slice none 0 0), (.slice none 0 0)] :: .box x4 48 [(.slice x2.1.A x2.1.n x2.1.c), (.slice x2.2.1.A x2.2.1.n x2.2.1.c), (.slice x2.2.2.A x2.2.2.n x2.2.2.c), (.slice A3 n3 d3)] :: .row x2.1.A x2.1.c 3 1 (ii v1) :: .row x2.2.1.A x2.2.1.c 3 1 (ii v2) :: .row x2.2.2.A x2.2.2.c 3 1 (ii v3) :: .row A3 d3 3 1 (ii l3) :: F)
      refine j_then ?_
      refine j_seq ?_
      refine j_region ?_
      refine r_q (q_loadb_agg 1 rfl ag48 sz48 rfl rfl rfl rfl) rfl rfl ?_
      refine r_do (a_storeb 0 rfl sz48 rfl rfl rfl rfl (Nat.le_of_ble_eq_true rfl) rfl) rfl rfl (fun _ => ?_)
      refine j_b0 [(.slice x2.1.A x2.1.n x2.1.c), (.slice x2.2.1.A x2.2.1.n x2.2.1.c), (.slice x2.2.2.A x2.2.2.n x2.2.2.c), (.slice A3 n3 d3)] rfl ?_
      refine r_q (q_assign rfl rfl) rfl rfl ?_
      refine r_nil ?_
      refine j_then ?_
      refine j_ret ?_
      cases h
      exact j_return rfl (ResOf.cell 0 rfl rfl ag48 sz48 (ResOf.tmp rfl ResOf.nil)) rfl (fun w h => ⟨(⟨x2.1.A, x2.1.n, x2.1.c, x2.1.h⟩, ⟨x2.2.1.A, x2.2.1.n, x2.2.1.c, x2.2.1.h⟩, ⟨x2.2.2.A, x2.2.2.n, x2.2.2.c, x2.2.2.h⟩, ⟨A3, n3, d3, q3⟩), rfl, (h.drop 2)⟩)
  · refine j_true rfl (not_t (var_f c1)) ?_
    refine j_seq ?_
    refine j_region ?_
    refine r_q (q_build (cs := [(.slice none 0 0), (.slice none 0 0), (.slice none 0 0), (.slice none 0 0)]) zr48 pl48 rfl rfl rfl rfl) rfl rfl ?_
    refine r_do (a_storeb 4 rfl sz48 rfl rfl rfl rfl (Nat.le_of_ble_eq_true rfl) rfl) rfl rfl (fun _ => ?_)
    refine j_b4 [(.slice none 0 0), (.slice none 0 0), (.slice none 0 0), (.slice none 0 0)] rfl ?_
    refine r_q (q_assign rfl rfl) rfl rfl ?_
    refine r_nil ?_
    refine j_then ?_
    refine j_ret ?_
    refine j_then_ret ?_
    refine j_nil 3 1 ?_
    refine j_nil 3 1 ?_
    refine j_nil 3 1 ?_
    refine j_nil 3 1 ?_
    cases h
    exact j_return rfl (ResOf.cell 8 rfl rfl ag48 sz48 (ResOf.tmp rfl ResOf.nil)) rfl (fun w h => ⟨(⟨none, 0, 0, rfl⟩, ⟨none, 0, 0, rfl⟩, ⟨none, 0, 0, rfl⟩, ⟨none, 0, 0, rfl⟩), rfl, h.pick 9 [3, 2, 1, 0] rfl⟩)

end Go.Proofs.Ytjcbalhdppmdmaa.F
