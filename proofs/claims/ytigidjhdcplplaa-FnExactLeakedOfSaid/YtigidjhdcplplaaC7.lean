/- The program computes these pure functions, printed by the generator of wip/gen. -/
import Derived.Test.YtigidjhdcplplaaFa
import Derived.Test.YtigidjhdcplplaaFb
namespace Go.Proofs.Ytigidjhdcplplaa.F
open Go Go.RowKit Go.Proofs.Ytigidjhdcplplaa.S
set_option linter.unusedVariables false
set_option maxRecDepth 100000
theorem impl_distances_1.calls (K : Nat) (a0 : Int) (a1 : Int) (a2_g : Nat) (a2_0 : List Int) (a2_0_A : Option Addr) (a2_0_n a2_0_c : Nat) (a3_g : Nat) (a3_0 : List Int) (a3_0_A : Option Addr) (a3_0_n a3_0_c : Nat) {w0 w : World} {F : List Res} {r1 : List Int} {r2 : List Int} (hm : Mem w0 (.box a2_g 25 [.slice a2_0_A a2_0_n a2_0_c] :: .row a2_0_A a2_0_c 3 1 (ii a2_0) :: .box a3_g 25 [.slice a3_0_A a3_0_n a3_0_c] :: .row a3_0_A a3_0_c 3 1 (ii a3_0) :: F) w) (a2_0_h : a2_0.length = a2_0_n) (a3_0_h : a3_0.length = a3_0_n) (h : impl_distances_1.f K a0 a1 a2_0 a3_0 = some (r1, r2)) :
    Calls Try.prog 94 (List.toArray [i6 a0, i6 a1, pt a2_g, pt a3_g]) w fun e w' => ∃ x : (Ln r1.length a2_0.length) × (Sl r2.length), e = .returned (.tuple (List.toArray [])) ∧ Mem w0 (.box a2_g 25 [.slice a2_0_A a2_0_n a2_0_c] :: .row a2_0_A a2_0_c 3 1 (ii r1) :: .box a3_g 25 [.slice x.2.A x.2.n x.2.c] :: .row x.2.A x.2.c 3 1 (ii r2) :: F) w' := by
  unfold impl_distances_1.f at h
  refine calls_of_J (n := 23) Try.func94 rfl rfl rfl hm ?_
  refine j_seq ?_
  refine j_region ?_
  refine r_q (q_move rfl rfl) rfl rfl ?_
  refine r_q (q_neq rfl rfl rfl) rfl rfl ?_
  refine r_q (q_move rfl rfl) rfl rfl ?_
  rcases of_if h with ⟨c1, h⟩ | ⟨c1, h⟩
  · refine r_off rfl rfl rfl rfl (bne_f c1) rfl ?_
    refine r_off rfl rfl rfl rfl (bne_f c1) rfl ?_
    refine r_off rfl rfl rfl rfl (bne_f c1) rfl ?_
    refine r_off rfl rfl rfl rfl (bne_f c1) rfl ?_
    refine r_off rfl rfl rfl rfl (bne_f c1) rfl ?_
    refine r_q (q_pick_f rfl rfl (bne_f c1) rfl) rfl rfl ?_
    refine r_nil ?_
    refine j_then ?_
    refine j_false rfl rfl ?_
    refine j_skip ?_
    cases h
    exact j_return_end rfl ResOf.nil rfl (fun w h => ⟨(⟨Eq.trans a2_0_h a2_0_h.symm⟩, ⟨a3_0_A, a3_0_n, a3_0_c, a3_0_h⟩), rfl, h⟩)
  · refine r_qon (q_loadb 0 rfl ag25 rfl rfl rfl) rfl rfl rfl rfl (bne_t c1) rfl ?_
    refine r_qon (q_move rfl rfl) rfl rfl rfl rfl (bne_t c1) rfl ?_
    obtain ⟨c2, h⟩ := of_guard h
    refine r_qon (q_ix (Rd.row 1 rfl) (ints_len1 _ a2_0) (by decide) a2_0_h c2 un25 sz3 rfl rfl rfl) rfl rfl rfl rfl (bne_t c1) rfl ?_
    refine r_qon (q_ldI (Rd.row 1 rfl) c2 ag3 rfl rfl) rfl rfl rfl rfl (bne_t c1) rfl ?_
    refine r_qon (q_eql rfl rfl rfl) rfl rfl rfl rfl (bne_t c1) rfl ?_
    refine r_q (q_pick_t rfl rfl (bne_t c1) rfl) rfl rfl ?_
    refine r_nil ?_
    refine j_then ?_
    rcases of_if h with ⟨c3, h⟩ | ⟨c3, h⟩
    · refine j_true rfl (beq_t c3) ?_
      refine j_seq ?_
      refine j_region ?_
      refine r_q (q_loadb 0 rfl ag25 rfl rfl rfl) rfl rfl ?_
      refine r_q (q_move rfl rfl) rfl rfl ?_
      refine r_q (q_move rfl rfl) rfl rfl ?_
      refine r_q (q_ix (Rd.row 1 rfl) (ints_len1 _ a2_0) (by decide) a2_0_h c2 un25 sz3 rfl rfl rfl) rfl rfl ?_
      refine r_do (a_stI 1 rfl c2 sz3 rfl rfl rfl) rfl rfl (fun _ => ?_)
      refine j_s1 ?_
      refine r_nil ?_
      refine j_then ?_
      refine j_region ?_
      refine r_q (q_loadb 2 rfl ag25 rfl rfl rfl) rfl rfl ?_
      refine r_q (q_move rfl rfl) rfl rfl ?_
      refine r_do (a_litX (vs := [(i6 a0)]) (ii ([a0] : List Int)) un25 sz3 zr3 rfl rfl rfl rfl rfl rfl rfl rfl rfl) rfl rfl (fun x1 => ?_)
      obtain ⟨c4, h⟩ := of_guard h
      refine r_do (a_appI (xs := a3_0) (ys := ([a0] : List Int)) 4 un25 un25 sz3 by3 zr3 rfl rfl rfl rfl rfl rfl rfl rfl rfl a3_0_h rfl (Rd.row 0 rfl) c4) rfl rfl (fun x2 => ?_)
      refine j_s4 ?_
      refine r_do (a_storeb 3 rfl sz25 rfl rfl rfl rfl (Nat.le_of_ble_eq_true rfl) rfl) rfl rfl (fun _ => ?_)
      refine j_b3 [(.slice x2.1 (a3_0_n + 1) x2.2)] rfl ?_
      refine r_nil ?_
      cases h
      exact j_return_end rfl ResOf.nil rfl (fun w h => ⟨(⟨Eq.trans (set_len a2_0_h _ _) a2_0_h.symm⟩, ⟨x2.1, (a3_0_n + 1), x2.2, (app_len a3_0_h rfl)⟩), rfl, h.tail⟩)
    · refine j_false rfl (beq_f c3) ?_
      refine j_skip ?_
      cases h
      exact j_return_end rfl ResOf.nil rfl (fun w h => ⟨(⟨Eq.trans a2_0_h a2_0_h.symm⟩, ⟨a3_0_A, a3_0_n, a3_0_c, a3_0_h⟩), rfl, h⟩)

end Go.Proofs.Ytigidjhdcplplaa.F
