/- The program computes these pure functions, printed by the generator of wip/gen. -/
import Derived.Test.YtpfkcjddilpbkaaFa
import Derived.Test.YtpfkcjddilpbkaaFi
import Derived.Test.YtpfkcjddilpbkaaFj
import Derived.Test.YtpfkcjddilpbkaaFb
import Derived.Test.YtpfkcjddilpbkaaC0
import Derived.Test.YtpfkcjddilpbkaaC3
namespace Go.Proofs.Ytpfkcjddilpbkaa.F
open Go Go.RowKit Go.Proofs.Ytpfkcjddilpbkaa.S
set_option linter.unusedVariables false
set_option maxRecDepth 100000
theorem spec_l6Copy.calls (K : Nat) (a0_0 : Int) (a0_1 : List Int) (a0_1_A : Option Addr) (a0_1_n a0_1_c : Nat) (a0_2 : Int) {w0 w : World} {F : List Res} {r1 : Int} {r2 : List Int} {r3 : Int} (hm : Mem w0 (F) w) (a0_1_h : a0_1.length = a0_1_n) (a0_1_R : Rd w0 F a0_1_A (ii a0_1)) (h : spec_l6Copy.f K a0_0 a0_1 a0_2 = some (r1, r2, r3)) :
    Calls Try.prog 72 (List.toArray [.agg (List.toArray [i6 a0_0, .slice a0_1_A a0_1_n a0_1_c, i6 a0_2])]) w fun e w' => ∃ x : (Sl r2.length), e = .returned (.agg (List.toArray [i6 r1, .slice x.A x.n x.c, i6 r3])) ∧ Mem w0 (.row x.A x.c 3 1 (ii r2) :: F) w' := by
  unfold spec_l6Copy.f at h
  refine calls_of_J (n := 12) Try.func72 rfl rfl rfl hm ?_
  refine j_seq ?_
  refine j_region ?_
  refine r_do (a_box rfl rfl) rfl rfl (fun x1 => ?_)
  refine r_do (a_alloc zr37 rfl) rfl rfl (fun x2 => ?_)
  refine r_nil ?_
  refine j_then ?_
  refine j_seq ?_
  obtain ⟨c1, h⟩ := of_guard h
  refine j_draw (.box x1 37 [(i6 a0_0), (.slice a0_1_A a0_1_n a0_1_c), (i6 a0_2)] :: F) 10 follows_any rfl ?_
  refine d_take 0 rfl (q_fieldAddr fi37_0 sz3 rfl rfl rfl) rfl rfl (by kernel_rfl) (by kernel_rfl) (by kernel_rfl) (fun w h => h.tail) ?_
  refine d_take 1 rfl (q_loadb 0 rfl ag3 rfl rfl rfl) rfl rfl (by kernel_rfl) (by kernel_rfl) (by kernel_rfl) (fun w h => h.tail) ?_
  refine d_take 3 rfl (q_fieldAddr fi37_1 sz22 rfl rfl rfl) rfl rfl (by kernel_rfl) (by kernel_rfl) (by kernel_rfl) (fun w h => h.tail) ?_
  refine d_take 4 rfl (q_loadb 0 rfl ag22 rfl rfl rfl) rfl rfl (by kernel_rfl) (by kernel_rfl) (by kernel_rfl) (fun w h => h.tail) ?_
  refine d_take 6 rfl (q_fieldAddr fi37_2 sz3 rfl rfl rfl) rfl rfl (by kernel_rfl) (by kernel_rfl) (by kernel_rfl) (fun w h => h.tail) ?_
  refine d_take 7 rfl (q_loadb 0 rfl ag3 rfl rfl rfl) rfl rfl (by kernel_rfl) (by kernel_rfl) (by kernel_rfl) (fun w h => h.tail) ?_
  refine d_one 2 (by kernel_rfl) ?_
  refine o_do rfl (a_litX (vs := []) (ii ([] : List Int)) un22 sz3 zr3 rfl rfl rfl rfl rfl rfl rfl rfl rfl) rfl rfl (fun x3 w h => (h.drop 2)) (fun x3 => ?_)
  refine d_one 5 (by kernel_rfl) ?_
  refine o_do rfl (a_appI (xs := ([] : List Int)) (ys := a0_1) 0 un22 un22 sz3 by3 zr3 rfl rfl rfl rfl rfl rfl rfl rfl rfl rfl a0_1_h (Rd.drop 3 a0_1_R) c1) rfl rfl (fun x4 w h => (h.drop 2)) (fun x4 => ?_)
  refine j_s0 ?_
  refine d_take 8 rfl (q_build (cs := [(i6 a0_0), (.slice x4.1 (0 + a0_1_n) x4.2), (i6 a0_2)]) zr37 pl37 rfl rfl rfl rfl) rfl rfl (by kernel_rfl) (by kernel_rfl) (by kernel_rfl) (fun w h => (h.drop 2)) ?_
  refine d_one 9 (by kernel_rfl) ?_
  refine o_do rfl (a_storeb 1 rfl sz37 rfl rfl rfl rfl (Nat.le_of_ble_eq_true rfl) rfl) rfl rfl (fun _ w h => (h.drop 2)) (fun _ => ?_)
  refine j_b1 [(i6 a0_0), (.slice x4.1 (0 + a0_1_n) x4.2), (i6 a0_2)] rfl ?_
  refine d_done (by kernel_rfl) ?_
  refine j_then ?_
  refine j_ret ?_
  cases h
  exact j_return rfl (ResOf.cell 1 rfl rfl ag37 sz37 ResOf.nil) rfl (fun w h => ⟨⟨x4.1, (0 + a0_1_n), x4.2, (app_len rfl a0_1_h)⟩, rfl, h.pick 3 [0] rfl⟩)

theorem spec_l3Shade.calls (K : Nat) (a0 : List Int) (a0_A : Option Addr) (a0_n a0_c : Nat) (a1 : Int) {w0 w : World} {F : List Res} {r1 : List Int} (hm : Mem w0 (.row a0_A a0_c 3 1 (ii a0) :: F) w) (a0_h : a0.length = a0_n) (h : spec_l3Shade.f K a0 a1 = some r1) :
    Calls Try.prog 89 (List.toArray [.slice a0_A a0_n a0_c, i6 a1]) w fun e w' => ∃ x : (Ln r1.length a0.length), e = .returned (.slice a0_A a0_n a0_c) ∧ Mem w0 (.row a0_A a0_c 3 1 (ii r1) :: F) w' := by
  unfold spec_l3Shade.f at h
  refine calls_of_J (n := 18) Try.func89 rfl rfl rfl hm ?_
  refine j_seq ?_
  refine j_region ?_
  refine r_q (q_assign rfl rfl) rfl rfl ?_
  refine r_nil ?_
  refine j_then ?_
  refine j_seq ?_
  refine j_seq ?_
  refine j_region ?_
  refine r_q (q_move rfl rfl) rfl rfl ?_
  refine r_q (q_neq rfl rfl rfl) rfl rfl ?_
  refine r_q (q_move rfl rfl) rfl rfl ?_
  rcases of_if h with ⟨c1, h⟩ | ⟨c1, h⟩
  · refine r_off rfl rfl rfl rfl (bne_f c1) rfl ?_
    refine r_off rfl rfl rfl rfl (bne_f c1) rfl ?_
    refine r_off rfl rfl rfl rfl (bne_f c1) rfl ?_
    refine r_off rfl rfl rfl rfl (bne_f c1) rfl ?_
    refine r_off rfl rfl rfl rfl (bne_f c1) rfl ?_
    refine r_q (q_pick_f rfl rfl (bne_f c1) rfl) rfl rfl ?_
    refine r_nil ?_
    refine j_then ?_
    refine j_false rfl rfl ?_
    refine j_skip ?_
    refine j_then ?_
    refine j_seq ?_
    refine j_region ?_
    refine r_q (q_move rfl rfl) rfl rfl ?_
    refine r_q (q_assign rfl rfl) rfl rfl ?_
    refine r_nil ?_
    refine j_then ?_
    refine j_ret ?_
    cases h
    exact j_return rfl (ResOf.tmp rfl ResOf.nil) rfl (fun w h => ⟨⟨Eq.trans a0_h a0_h.symm⟩, rfl, h⟩)
  · refine r_qon (q_move rfl rfl) rfl rfl rfl rfl (bne_t c1) rfl ?_
    refine r_qon (q_move rfl rfl) rfl rfl rfl rfl (bne_t c1) rfl ?_
    obtain ⟨c2, h⟩ := of_guard h
    refine r_qon (q_ix (Rd.row 0 rfl) (ints_len1 _ a0) (by decide) a0_h c2 un22 sz3 rfl rfl rfl) rfl rfl rfl rfl (bne_t c1) rfl ?_
    refine r_qon (q_ldI (Rd.row 0 rfl) c2 ag3 rfl rfl) rfl rfl rfl rfl (bne_t c1) rfl ?_
    refine r_qon (q_eql rfl rfl rfl) rfl rfl rfl rfl (bne_t c1) rfl ?_
    refine r_q (q_pick_t rfl rfl (bne_t c1) rfl) rfl rfl ?_
    refine r_nil ?_
    refine j_then ?_
    rcases of_if h with ⟨c3, h⟩ | ⟨c3, h⟩
    · refine j_true rfl (beq_t c3) ?_
      refine j_region ?_
      refine r_q (q_move rfl rfl) rfl rfl ?_
      refine r_q (q_move rfl rfl) rfl rfl ?_
      refine r_q (q_ix (Rd.row 0 rfl) (ints_len1 _ a0) (by decide) a0_h c2 un22 sz3 rfl rfl rfl) rfl rfl ?_
      refine r_do (a_stI 0 rfl c2 sz3 rfl rfl rfl) rfl rfl (fun _ => ?_)
      refine j_s0 ?_
      refine r_nil ?_
      refine j_then ?_
      refine j_seq ?_
      refine j_region ?_
      refine r_q (q_move rfl rfl) rfl rfl ?_
      refine r_q (q_assign rfl rfl) rfl rfl ?_
      refine r_nil ?_
      refine j_then ?_
      refine j_ret ?_
      cases h
      exact j_return rfl (ResOf.tmp rfl ResOf.nil) rfl (fun w h => ⟨⟨Eq.trans (set_len a0_h _ _) a0_h.symm⟩, rfl, h⟩)
    · refine j_false rfl (beq_f c3) ?_
      refine j_skip ?_
      refine j_then ?_
      refine j_seq ?_
      refine j_region ?_
      refine r_q (q_move rfl rfl) rfl rfl ?_
      refine r_q (q_assign rfl rfl) rfl rfl ?_
      refine r_nil ?_
      refine j_then ?_
      refine j_ret ?_
      cases h
      exact j_return rfl (ResOf.tmp rfl ResOf.nil) rfl (fun w h => ⟨⟨Eq.trans a0_h a0_h.symm⟩, rfl, h⟩)

theorem spec_l6Next.calls (K : Nat) (a0_0 : Int) (a0_1_A : Option Addr) (a0_1_n a0_1_c : Nat) (a0_2 : Int) (a1 : Int) (a2 : Int) {w0 w : World} {F : List Res} {r1 : Int} {r2 : Int} (hm : Mem w0 (F) w)  (h : spec_l6Next.f K a0_0 a0_2 a1 a2 = some (r1, r2)) :
    Calls Try.prog 90 (List.toArray [.agg (List.toArray [i6 a0_0, .slice a0_1_A a0_1_n a0_1_c, i6 a0_2]), i6 a1, i6 a2]) w fun e w' => ∃ x : Unit, e = .returned (.agg (List.toArray [i6 r1, .slice a0_1_A a0_1_n a0_1_c, i6 r2])) ∧ Mem w0 (F) w' := by
  unfold spec_l6Next.f at h
  refine calls_of_J (n := 19) Try.func90 rfl rfl rfl hm ?_
  refine j_seq ?_
  refine j_region ?_
  refine r_do (a_box rfl rfl) rfl rfl (fun x1 => ?_)
  refine r_do (a_alloc zr37 rfl) rfl rfl (fun x2 => ?_)
  refine r_nil ?_
  refine j_then ?_
  refine j_seq ?_
  refine j_region ?_
  refine r_q (q_fieldAddr fi37_2 sz3 rfl rfl rfl) rfl rfl ?_
  refine r_q (q_loadb 1 rfl ag3 rfl rfl rfl) rfl rfl ?_
  refine r_q (q_add rfl rfl rfl) rfl rfl ?_
  refine r_q (q_fieldAddr fi37_2 sz3 rfl rfl rfl) rfl rfl ?_
  refine r_do (a_storeb 1 rfl sz3 rfl rfl rfl rfl (Nat.le_of_ble_eq_true rfl) rfl) rfl rfl (fun _ => ?_)
  refine j_b1 [(i6 a0_0), (.slice a0_1_A a0_1_n a0_1_c), (i6 (wrap64 (a0_2 + (1:Int))))] rfl ?_
  refine r_nil ?_
  refine j_then ?_
  refine j_seq ?_
  refine j_seq ?_
  refine j_region ?_
  refine r_q (q_fieldAddr fi37_2 sz3 rfl rfl rfl) rfl rfl ?_
  refine r_q (q_loadb 1 rfl ag3 rfl rfl rfl) rfl rfl ?_
  refine r_q (q_move rfl rfl) rfl rfl ?_
  refine r_q (q_eql rfl rfl rfl) rfl rfl ?_
  refine r_nil ?_
  refine j_then ?_
  rcases of_if h with ⟨c1, h⟩ | ⟨c1, h⟩
  · refine j_true rfl (beq_t c1) ?_
    refine j_seq ?_
    refine j_region ?_
    refine r_q (q_fieldAddr fi37_2 sz3 rfl rfl rfl) rfl rfl ?_
    refine r_do (a_storeb 1 rfl sz3 rfl rfl rfl rfl (Nat.le_of_ble_eq_true rfl) rfl) rfl rfl (fun _ => ?_)
    refine j_b1 [(i6 a0_0), (.slice a0_1_A a0_1_n a0_1_c), (i6 (0:Int))] rfl ?_
    refine r_nil ?_
    refine j_then ?_
    refine j_region ?_
    refine r_q (q_move rfl rfl) rfl rfl ?_
    refine r_q (q_fieldAddr fi37_0 sz3 rfl rfl rfl) rfl rfl ?_
    refine r_do (a_storeb 1 rfl sz3 rfl rfl rfl rfl (Nat.le_of_ble_eq_true rfl) rfl) rfl rfl (fun _ => ?_)
    refine j_b1 [(i6 a2), (.slice a0_1_A a0_1_n a0_1_c), (i6 (0:Int))] rfl ?_
    refine r_nil ?_
    refine j_then ?_
    refine j_seq ?_
    refine j_region ?_
    refine r_q (q_loadb_agg 1 rfl ag37 sz37 rfl rfl rfl rfl) rfl rfl ?_
    refine r_do (a_storeb 0 rfl sz37 rfl rfl rfl rfl (Nat.le_of_ble_eq_true rfl) rfl) rfl rfl (fun _ => ?_)
    refine j_b0 [(i6 a2), (.slice a0_1_A a0_1_n a0_1_c), (i6 (0:Int))] rfl ?_
    refine r_nil ?_
    refine j_then ?_
    refine j_ret ?_
    cases h
    exact j_return rfl (ResOf.cell 0 rfl rfl ag37 sz37 ResOf.nil) rfl (fun w h => ⟨(), rfl, (h.drop 2)⟩)
  · refine j_false rfl (beq_f c1) ?_
    refine j_skip ?_
    refine j_then ?_
    refine j_seq ?_
    refine j_region ?_
    refine r_q (q_loadb_agg 1 rfl ag37 sz37 rfl rfl rfl rfl) rfl rfl ?_
    refine r_do (a_storeb 0 rfl sz37 rfl rfl rfl rfl (Nat.le_of_ble_eq_true rfl) rfl) rfl rfl (fun _ => ?_)
    refine j_b0 [(i6 a0_0), (.slice a0_1_A a0_1_n a0_1_c), (i6 (wrap64 (a0_2 + (1:Int))))] rfl ?_
    refine r_nil ?_
    refine j_then ?_
    refine j_ret ?_
    cases h
    exact j_return rfl (ResOf.cell 0 rfl rfl ag37 sz37 ResOf.nil) rfl (fun w h => ⟨(), rfl, (h.drop 2)⟩)

theorem spec_l3First.calls (K : Nat) (a0_0_A : Option Addr) (a0_0_n a0_0_c : Nat) (a0_1_A : Option Addr) (a0_1_n a0_1_c : Nat) (a0_2_A : Option Addr) (a0_2_n a0_2_c : Nat) (a0_3 : List Int) (a0_3_A : Option Addr) (a0_3_n a0_3_c : Nat) (a1 : Int) {w0 w : World} {F : List Res} {r1 : Int} (hm : Mem w0 (F) w) (a0_3_h : a0_3.length = a0_3_n) (a0_3_R : Rd w0 F a0_3_A (ii a0_3)) (h : spec_l3First.f K a0_3 a1 = some r1) :
    Calls Try.prog 101 (List.toArray [.agg (List.toArray [.slice a0_0_A a0_0_n a0_0_c, .slice a0_1_A a0_1_n a0_1_c, .slice a0_2_A a0_2_n a0_2_c, .slice a0_3_A a0_3_n a0_3_c]), i6 a1]) w fun e w' => ∃ x : Unit, e = .returned (i6 r1) ∧ Mem w0 (F) w' := by
  unfold spec_l3First.f at h
  refine calls_of_J (n := 21) Try.func101 rfl rfl rfl hm ?_
  refine j_seq ?_
  refine j_region ?_
  refine r_do (a_box rfl rfl) rfl rfl (fun x1 => ?_)
  refine r_q (q_assign rfl rfl) rfl rfl ?_
  refine r_nil ?_
  refine j_then ?_
  refine j_seq ?_
  refine j_seq ?_
  refine j_region ?_
  refine r_q (q_assign rfl rfl) rfl rfl ?_
  refine r_nil ?_
  refine j_then ?_
  obtain ⟨κ0, h, hκ0⟩ := ex_k (g := fun κ => spec_l3First.loop0 K κ a0_3 a1 K (0:Int) = some r1) h
  refine j_cut (σ := Unit) (fun s => []) (fun s => F) (fun s => κ0 () = some r1) ?_ ?_
  · refine j_block ?_
    refine j_loop (σ := Int) (fun s => [(1, (i6 a1)), (2, (pt x1)), (5, (i6 s))]) (fun s => .box x1 104 [(.slice a0_0_A a0_0_n a0_0_c), (.slice a0_1_A a0_1_n a0_1_c), (.slice a0_2_A a0_2_n a0_2_c), (.slice a0_3_A a0_3_n a0_3_c)] :: F) (fun m s => spec_l3First.loop0 K κ0 a0_3 a1 m s = some r1) K (0:Int) h (fun a he => he.sub ⟨rfl, rfl, rfl, trivial⟩) (fun w h => h) ?_
    rintro m p2 h
    cases m with
    | zero => exact absurd h (by rw [spec_l3First.loop0]; exact nofun)
    | succ m =>
      rw [spec_l3First.loop0] at h
      show J _ _ [(1, (i6 a1)), (2, (pt x1)), (5, (i6 p2))] _ (.box x1 104 [(.slice a0_0_A a0_0_n a0_0_c), (.slice a0_1_A a0_1_n a0_1_c), (.slice a0_2_A a0_2_n a0_2_c), (.slice a0_3_A a0_3_n a0_3_c)] :: F)
      refine j_seq ?_
      refine j_seq ?_
      refine j_region ?_
      refine r_q (q_move rfl rfl) rfl rfl ?_
      refine r_q (q_fieldAddr fi104_1 sz22 rfl rfl rfl) rfl rfl ?_
      refine r_q (q_loadb 0 rfl ag22 rfl rfl rfl) rfl rfl ?_
      refine r_q (q_lenX a0_3 a0_3_h un22 rfl rfl rfl rfl rfl) rfl rfl ?_
      refine r_q (q_lss rfl rfl rfl) rfl rfl ?_
      refine r_nil ?_
      refine j_then ?_
      rcases of_if h with ⟨c10, h⟩ | ⟨c10, h⟩
      · refine j_true rfl (decide_eq_true c10) ?_
        refine j_skip ?_
        refine j_then ?_
        refine j_seq ?_
        refine j_block ?_
        refine j_seq ?_
        refine j_region ?_
        refine r_q (q_fieldAddr fi104_1 sz22 rfl rfl rfl) rfl rfl ?_
        refine r_q (q_loadb 0 rfl ag22 rfl rfl rfl) rfl rfl ?_
        refine r_q (q_move rfl rfl) rfl rfl ?_
        obtain ⟨c11, h⟩ := of_guard h
        refine r_q (q_ix (Rd.drop 1 a0_3_R) (ints_len1 _ a0_3) (by decide) a0_3_h c11 un22 sz3 rfl rfl rfl) rfl rfl ?_
        refine r_q (q_ldI (Rd.drop 1 a0_3_R) c11 ag3 rfl rfl) rfl rfl ?_
        refine r_q (q_move rfl rfl) rfl rfl ?_
        refine r_q (q_eql rfl rfl rfl) rfl rfl ?_
        refine r_nil ?_
        refine j_then ?_
        rcases of_if h with ⟨c12, h⟩ | ⟨c12, h⟩
        · refine j_true rfl (beq_t c12) ?_
          refine j_seq ?_
          refine j_region ?_
          refine r_q (q_move rfl rfl) rfl rfl ?_
          refine r_q (q_assign rfl rfl) rfl rfl ?_
          refine r_nil ?_
          refine j_then ?_
          refine j_ret ?_
          refine j_in_ret ?_
          refine j_then_ret ?_
          refine j_then_ret ?_
          refine j_in_ret ?_
          refine j_then_ret ?_
          refine j_then_ret ?_
          cases h
          exact j_return rfl (ResOf.tmp rfl ResOf.nil) rfl (fun w h => ⟨(), rfl, h.tail⟩)
        · refine j_false rfl (beq_f c12) ?_
          refine j_skip ?_
          refine j_in ?_
          refine j_then ?_
          refine j_region ?_
          refine r_q (q_move rfl rfl) rfl rfl ?_
          refine r_q (q_add rfl rfl rfl) rfl rfl ?_
          refine r_q (q_assign rfl rfl) rfl rfl ?_
          refine r_nil ?_
          refine j_then ?_
          exact j_again m (wrap64 (p2 + (1:Int))) (Nat.lt_succ_self m) h (fun a he => he.sub ⟨rfl, rfl, rfl, trivial⟩) (fun w h => h)
      · refine j_false rfl (decide_eq_false c10) ?_
        refine j_exit ?_
        refine j_then_exit ?_
        refine j_then_exit ?_
        refine j_in_exit ?_
        refine j_then ?_
        exact j_meet () h (fun a he => he.sub trivial) (fun w h => h.tail)
  · rintro _ h
    subst hκ0
    show J _ _ [] _ (F)
    refine j_then ?_
    refine j_seq ?_
    refine j_region ?_
    refine r_q (q_assign rfl rfl) rfl rfl ?_
    refine r_nil ?_
    refine j_then ?_
    refine j_ret ?_
    cases h
    exact j_return rfl (ResOf.tmp rfl ResOf.nil) rfl (fun w h => ⟨(), rfl, h⟩)

theorem spec_l3Black.calls (K : Nat) (a0_0 : List Int) (a0_0_A : Option Addr) (a0_0_n a0_0_c : Nat) (a0_1 : List Int) (a0_1_A : Option Addr) (a0_1_n a0_1_c : Nat) (a0_2_A : Option Addr) (a0_2_n a0_2_c : Nat) (a0_3 : List Int) (a0_3_A : Option Addr) (a0_3_n a0_3_c : Nat) (a1 : Int) {w0 w : World} {F : List Res} {r1 : List Int} (hm : Mem w0 (.row a0_3_A a0_3_c 3 1 (ii a0_3) :: F) w) (a0_0_h : a0_0.length = a0_0_n) (a0_0_R : Rd w0 F a0_0_A (ii a0_0)) (a0_1_h : a0_1.length = a0_1_n) (a0_1_R : Rd w0 F a0_1_A (ii a0_1)) (a0_3_h : a0_3.length = a0_3_n) (h : spec_l3Black.f K a0_0 a0_1 a0_3 a1 = some r1) :
    Calls Try.prog 102 (List.toArray [.agg (List.toArray [.slice a0_0_A a0_0_n a0_0_c, .slice a0_1_A a0_1_n a0_1_c, .slice a0_2_A a0_2_n a0_2_c, .slice a0_3_A a0_3_n a0_3_c]), i6 a1]) w fun e w' => ∃ x : (Ln r1.length a0_3.length), e = .returned (.agg (List.toArray [.slice a0_0_A a0_0_n a0_0_c, .slice a0_1_A a0_1_n a0_1_c, .slice a0_2_A a0_2_n a0_2_c, .slice a0_3_A a0_3_n a0_3_c])) ∧ Mem w0 (.row a0_3_A a0_3_c 3 1 (ii r1) :: F) w' := by
  unfold spec_l3Black.f at h
  refine calls_of_J (n := 30) Try.func102 rfl rfl rfl hm ?_
  refine j_seq ?_
  refine j_region ?_
  refine r_do (a_box rfl rfl) rfl rfl (fun x1 => ?_)
  refine r_do (a_alloc zr104 rfl) rfl rfl (fun x2 => ?_)
  refine r_nil ?_
  refine j_then ?_
  refine j_seq ?_
  obtain ⟨c1, h⟩ := of_guard h
  obtain ⟨v1, hb1, h⟩ := of_b1 h
  refine j_draw (.box x2 104 [(.slice none 0 0), (.slice none 0 0), (.slice none 0 0), (.slice none 0 0)] :: F) 11 follows_any rfl ?_
  refine d_take 0 rfl (q_fieldAddr fi104_1 sz22 rfl rfl rfl) rfl rfl (by kernel_rfl) (by kernel_rfl) (by kernel_rfl) (fun w h => h.pick 3 [0] rfl) ?_
  refine d_take 2 rfl (q_fieldAddr fi104_0 sz34 rfl rfl rfl) rfl rfl (by kernel_rfl) (by kernel_rfl) (by kernel_rfl) (fun w h => h.pick 3 [0] rfl) ?_
  refine d_take 3 rfl (q_fieldAddr fi34_0 sz22 rfl rfl rfl) rfl rfl (by kernel_rfl) (by kernel_rfl) (by kernel_rfl) (fun w h => h.pick 3 [0] rfl) ?_
  refine d_take 5 rfl (q_move rfl rfl) rfl rfl (by kernel_rfl) (by kernel_rfl) (by kernel_rfl) (fun w h => h.pick 3 [0] rfl) ?_
  refine d_join (σ := ((Ln v1.length a0_3.length))) 0 #[true, true, true, true, true, true, true, true, true, true, true] (fun s => [(1, (i6 a1)), (2, (pt x1)), (4, (pt x2))]) (fun s => .box x2 104 [(.slice none 0 0), (.slice none 0 0), (.slice none 0 0), (.slice none 0 0)] :: .box x1 104 [(.slice a0_0_A a0_0_n a0_0_c), (.slice a0_1_A a0_1_n a0_1_c), (.slice a0_2_A a0_2_n a0_2_c), (.slice a0_3_A a0_3_n a0_3_c)] :: .row a0_3_A a0_3_c 3 1 (ii v1) :: F) ?_ (fun hD2047 => ?_)
  · rintro x3
    show J _ _ [(1, (i6 a1)), (2, (pt x1)), (4, (pt x2))] _ (.box x2 104 [(.slice none 0 0), (.slice none 0 0), (.slice none 0 0), (.slice none 0 0)] :: .box x1 104 [(.slice a0_0_A a0_0_n a0_0_c), (.slice a0_1_A a0_1_n a0_1_c), (.slice a0_2_A a0_2_n a0_2_c), (.slice a0_3_A a0_3_n a0_3_c)] :: .row a0_3_A a0_3_c 3 1 (ii v1) :: F)
    refine d_done (by kernel_rfl) ?_
    refine j_then ?_
    refine j_seq ?_
    obtain ⟨c2, h⟩ := of_guard h
    obtain ⟨v2, hb2, h⟩ := of_b1 h
    refine j_draw (.box x2 104 [(.slice none 0 0), (.slice none 0 0), (.slice none 0 0), (.slice none 0 0)] :: F) 11 follows_any rfl ?_
    refine d_take 0 rfl (q_fieldAddr fi104_1 sz22 rfl rfl rfl) rfl rfl (by kernel_rfl) (by kernel_rfl) (by kernel_rfl) (fun w h => h.pick 3 [0] rfl) ?_
    refine d_take 2 rfl (q_fieldAddr fi104_0 sz34 rfl rfl rfl) rfl rfl (by kernel_rfl) (by kernel_rfl) (by kernel_rfl) (fun w h => h.pick 3 [0] rfl) ?_
    refine d_take 3 rfl (q_fieldAddr fi34_1 sz22 rfl rfl rfl) rfl rfl (by kernel_rfl) (by kernel_rfl) (by kernel_rfl) (fun w h => h.pick 3 [0] rfl) ?_
    refine d_take 5 rfl (q_move rfl rfl) rfl rfl (by kernel_rfl) (by kernel_rfl) (by kernel_rfl) (fun w h => h.pick 3 [0] rfl) ?_
    refine d_join (σ := ((Ln v2.length v1.length))) 0 #[true, true, true, true, true, true, true, true, true, true, true] (fun s => [(1, (i6 a1)), (2, (pt x1)), (4, (pt x2))]) (fun s => .box x2 104 [(.slice none 0 0), (.slice none 0 0), (.slice none 0 0), (.slice none 0 0)] :: .box x1 104 [(.slice a0_0_A a0_0_n a0_0_c), (.slice a0_1_A a0_1_n a0_1_c), (.slice a0_2_A a0_2_n a0_2_c), (.slice a0_3_A a0_3_n a0_3_c)] :: .row a0_3_A a0_3_c 3 1 (ii v2) :: F) ?_ (fun hD2047 => ?_)
    · rintro x4
      show J _ _ [(1, (i6 a1)), (2, (pt x1)), (4, (pt x2))] _ (.box x2 104 [(.slice none 0 0), (.slice none 0 0), (.slice none 0 0), (.slice none 0 0)] :: .box x1 104 [(.slice a0_0_A a0_0_n a0_0_c), (.slice a0_1_A a0_1_n a0_1_c), (.slice a0_2_A a0_2_n a0_2_c), (.slice a0_3_A a0_3_n a0_3_c)] :: .row a0_3_A a0_3_c 3 1 (ii v2) :: F)
      refine d_done (by kernel_rfl) ?_
      refine j_then ?_
      refine j_seq ?_
      refine j_region ?_
      refine r_q (q_fieldAddr fi104_1 sz22 rfl rfl rfl) rfl rfl ?_
      refine r_q (q_loadb 1 rfl ag22 rfl rfl rfl) rfl rfl ?_
      refine r_q (q_move rfl rfl) rfl rfl ?_
      obtain ⟨c3, h⟩ := of_guard h
      refine r_q (q_ix (Rd.row 2 rfl) (ints_len1 _ v2) (by decide) (x4.h.trans (x3.h.trans a0_3_h)) c3 un22 sz3 rfl rfl rfl) rfl rfl ?_
      refine r_do (a_stI 2 rfl c3 sz3 rfl rfl rfl) rfl rfl (fun _ => ?_)
      refine j_s2 ?_
      refine r_nil ?_
      refine j_then ?_
      refine j_seq ?_
      refine j_region ?_
      refine r_q (q_loadb_agg 1 rfl ag104 sz104 rfl rfl rfl rfl) rfl rfl ?_
      refine r_do (a_storeb 0 rfl sz104 rfl rfl rfl rfl (Nat.le_of_ble_eq_true rfl) rfl) rfl rfl (fun _ => ?_)
      refine j_b0 [(.slice a0_0_A a0_0_n a0_0_c), (.slice a0_1_A a0_1_n a0_1_c), (.slice a0_2_A a0_2_n a0_2_c), (.slice a0_3_A a0_3_n a0_3_c)] rfl ?_
      refine r_nil ?_
      refine j_then ?_
      refine j_ret ?_
      cases h
      exact j_return rfl (ResOf.cell 0 rfl rfl ag104 sz104 ResOf.nil) rfl (fun w h => ⟨⟨Eq.trans (set_len (x4.h.trans (x3.h.trans a0_3_h)) _ _) a0_3_h.symm⟩, rfl, (h.drop 2)⟩)
    refine d_join (σ := ((Ln v2.length v1.length))) 1 #[true, true, true, true, true, true, true, true, true, true, false] (fun s => [(1, (i6 a1)), (2, (pt x1)), (4, (pt x2)), (23, (.slice a0_3_A a0_3_n a0_3_c)), (24, (.pointer (some ⟨x1, 3, none⟩)))]) (fun s => .box x2 104 [(.slice none 0 0), (.slice none 0 0), (.slice none 0 0), (.slice none 0 0)] :: .box x1 104 [(.slice a0_0_A a0_0_n a0_0_c), (.slice a0_1_A a0_1_n a0_1_c), (.slice a0_2_A a0_2_n a0_2_c), (.slice a0_3_A a0_3_n a0_3_c)] :: .row a0_3_A a0_3_c 3 1 (ii v2) :: F) ?_ (fun hD1023 => ?_)
    · rintro x4
      show J _ _ [(1, (i6 a1)), (2, (pt x1)), (4, (pt x2)), (23, (.slice a0_3_A a0_3_n a0_3_c)), (24, (.pointer (some ⟨x1, 3, none⟩)))] _ (.box x2 104 [(.slice none 0 0), (.slice none 0 0), (.slice none 0 0), (.slice none 0 0)] :: .box x1 104 [(.slice a0_0_A a0_0_n a0_0_c), (.slice a0_1_A a0_1_n a0_1_c), (.slice a0_2_A a0_2_n a0_2_c), (.slice a0_3_A a0_3_n a0_3_c)] :: .row a0_3_A a0_3_c 3 1 (ii v2) :: F)
      refine d_one 10 (by kernel_rfl) ?_
      · refine o_do rfl (a_storeb 1 rfl sz22 rfl rfl rfl rfl (Nat.le_of_ble_eq_true rfl) rfl) rfl rfl (fun _ w h => h.pick 3 [0] rfl) (fun _ => ?_)
        refine j_b1 [(.slice a0_0_A a0_0_n a0_0_c), (.slice a0_1_A a0_1_n a0_1_c), (.slice a0_2_A a0_2_n a0_2_c), (.slice a0_3_A a0_3_n a0_3_c)] rfl ?_
        refine j_rs (.box x2 104 [(.slice none 0 0), (.slice none 0 0), (.slice none 0 0), (.slice none 0 0)] :: .box x1 104 [(.slice a0_0_A a0_0_n a0_0_c), (.slice a0_1_A a0_1_n a0_1_c), (.slice a0_2_A a0_2_n a0_2_c), (.slice a0_3_A a0_3_n a0_3_c)] :: .row a0_3_A a0_3_c 3 1 (ii v2) :: F) (fun _ h => h) ?_
        refine j_env [(1, (i6 a1)), (2, (pt x1)), (4, (pt x2))] ⟨rfl, rfl, rfl, trivial⟩ ?_
        exact hD2047 x4
    refine d_join (σ := Unit) 3 #[true, true, true, true, true, true, true, true, false, false, false] (fun s => [(1, (i6 a1)), (2, (pt x1)), (4, (pt x2)), (16, (.slice a0_3_A a0_3_n a0_3_c)), (22, (i6 (rd a0_1 a1)))]) (fun s => .box x2 104 [(.slice none 0 0), (.slice none 0 0), (.slice none 0 0), (.slice none 0 0)] :: .box x1 104 [(.slice a0_0_A a0_0_n a0_0_c), (.slice a0_1_A a0_1_n a0_1_c), (.slice a0_2_A a0_2_n a0_2_c), (.slice a0_3_A a0_3_n a0_3_c)] :: .row a0_3_A a0_3_c 3 1 (ii v1) :: F) ?_ (fun hD255 => ?_)
    · rintro _
      show J _ _ [(1, (i6 a1)), (2, (pt x1)), (4, (pt x2)), (16, (.slice a0_3_A a0_3_n a0_3_c)), (22, (i6 (rd a0_1 a1)))] _ (.box x2 104 [(.slice none 0 0), (.slice none 0 0), (.slice none 0 0), (.slice none 0 0)] :: .box x1 104 [(.slice a0_0_A a0_0_n a0_0_c), (.slice a0_1_A a0_1_n a0_1_c), (.slice a0_2_A a0_2_n a0_2_c), (.slice a0_3_A a0_3_n a0_3_c)] :: .row a0_3_A a0_3_c 3 1 (ii v1) :: F)
      refine d_one 8 (by kernel_rfl) ?_
      · refine j_rs (.row a0_3_A a0_3_c 3 1 (ii v1) :: .box x2 104 [(.slice none 0 0), (.slice none 0 0), (.slice none 0 0), (.slice none 0 0)] :: .box x1 104 [(.slice a0_0_A a0_0_n a0_0_c), (.slice a0_1_A a0_1_n a0_1_c), (.slice a0_2_A a0_2_n a0_2_c), (.slice a0_3_A a0_3_n a0_3_c)] :: F) (fun _ h => h.pick 3 [2, 0, 1] rfl) ?_
        refine o_do rfl (a_call ok89 rfl rfl rfl rfl (fun w hm => spec_l3Shade.calls K v1 a0_3_A a0_3_n a0_3_c (rd a0_1 a1) hm (x3.h.trans a0_3_h) hb2)) rfl rfl (fun x4 w h => h.pick 3 [1] rfl) (fun x4 => ?_)
        refine d_take 9 rfl (q_fieldAddr fi104_1 sz22 rfl rfl rfl) rfl rfl (by kernel_rfl) (by kernel_rfl) (by kernel_rfl) (fun w h => h.pick 3 [1] rfl) ?_
        refine j_rs (.box x2 104 [(.slice none 0 0), (.slice none 0 0), (.slice none 0 0), (.slice none 0 0)] :: .box x1 104 [(.slice a0_0_A a0_0_n a0_0_c), (.slice a0_1_A a0_1_n a0_1_c), (.slice a0_2_A a0_2_n a0_2_c), (.slice a0_3_A a0_3_n a0_3_c)] :: .row a0_3_A a0_3_c 3 1 (ii v2) :: F) (fun _ h => h.pick 3 [1, 2, 0] rfl) ?_
        refine j_env [(1, (i6 a1)), (2, (pt x1)), (4, (pt x2)), (23, (.slice a0_3_A a0_3_n a0_3_c)), (24, (.pointer (some ⟨x1, 3, none⟩)))] ⟨rfl, rfl, rfl, rfl, rfl, trivial⟩ ?_
        exact hD1023 x4
    refine d_join (σ := Unit) 4 #[true, false, true, true, true, true, true, true, false, false, false] (fun s => [(1, (i6 a1)), (2, (pt x1)), (4, (pt x2)), (15, (.pointer (some ⟨x1, 3, none⟩))), (22, (i6 (rd a0_1 a1)))]) (fun s => .box x2 104 [(.slice none 0 0), (.slice none 0 0), (.slice none 0 0), (.slice none 0 0)] :: .box x1 104 [(.slice a0_0_A a0_0_n a0_0_c), (.slice a0_1_A a0_1_n a0_1_c), (.slice a0_2_A a0_2_n a0_2_c), (.slice a0_3_A a0_3_n a0_3_c)] :: .row a0_3_A a0_3_c 3 1 (ii v1) :: F) ?_ (fun hD253 => ?_)
    · rintro _
      show J _ _ [(1, (i6 a1)), (2, (pt x1)), (4, (pt x2)), (15, (.pointer (some ⟨x1, 3, none⟩))), (22, (i6 (rd a0_1 a1)))] _ (.box x2 104 [(.slice none 0 0), (.slice none 0 0), (.slice none 0 0), (.slice none 0 0)] :: .box x1 104 [(.slice a0_0_A a0_0_n a0_0_c), (.slice a0_1_A a0_1_n a0_1_c), (.slice a0_2_A a0_2_n a0_2_c), (.slice a0_3_A a0_3_n a0_3_c)] :: .row a0_3_A a0_3_c 3 1 (ii v1) :: F)
      refine d_one 1 (by kernel_rfl) ?_
      · refine o_do rfl ((q_loadb 1 rfl ag22 rfl rfl rfl)).acts rfl rfl (fun _ w h => h.pick 3 [0] rfl) (fun _ => ?_)
        refine j_rs (.box x2 104 [(.slice none 0 0), (.slice none 0 0), (.slice none 0 0), (.slice none 0 0)] :: .box x1 104 [(.slice a0_0_A a0_0_n a0_0_c), (.slice a0_1_A a0_1_n a0_1_c), (.slice a0_2_A a0_2_n a0_2_c), (.slice a0_3_A a0_3_n a0_3_c)] :: .row a0_3_A a0_3_c 3 1 (ii v1) :: F) (fun _ h => h) ?_
        refine j_env [(1, (i6 a1)), (2, (pt x1)), (4, (pt x2)), (16, (.slice a0_3_A a0_3_n a0_3_c)), (22, (i6 (rd a0_1 a1)))] ⟨rfl, rfl, rfl, rfl, rfl, trivial⟩ ?_
        exact hD255 ()
    refine d_join (σ := Unit) 6 #[true, true, true, true, false, true, false, false, false, false, false] (fun s => [(1, (i6 a1)), (2, (pt x1)), (4, (pt x2)), (16, (.slice a0_3_A a0_3_n a0_3_c)), (18, (.pointer (some ⟨x1, 1, none⟩))), (20, (i6 a1))]) (fun s => .box x2 104 [(.slice none 0 0), (.slice none 0 0), (.slice none 0 0), (.slice none 0 0)] :: .box x1 104 [(.slice a0_0_A a0_0_n a0_0_c), (.slice a0_1_A a0_1_n a0_1_c), (.slice a0_2_A a0_2_n a0_2_c), (.slice a0_3_A a0_3_n a0_3_c)] :: .row a0_3_A a0_3_c 3 1 (ii v1) :: F) ?_ (fun hD47 => ?_)
    · rintro _
      show J _ _ [(1, (i6 a1)), (2, (pt x1)), (4, (pt x2)), (16, (.slice a0_3_A a0_3_n a0_3_c)), (18, (.pointer (some ⟨x1, 1, none⟩))), (20, (i6 a1))] _ (.box x2 104 [(.slice none 0 0), (.slice none 0 0), (.slice none 0 0), (.slice none 0 0)] :: .box x1 104 [(.slice a0_0_A a0_0_n a0_0_c), (.slice a0_1_A a0_1_n a0_1_c), (.slice a0_2_A a0_2_n a0_2_c), (.slice a0_3_A a0_3_n a0_3_c)] :: .row a0_3_A a0_3_c 3 1 (ii v1) :: F)
      refine d_one 4 (by kernel_rfl) ?_
      · refine o_do rfl ((q_loadb 1 rfl ag22 rfl rfl rfl)).acts rfl rfl (fun _ w h => h.pick 3 [0] rfl) (fun _ => ?_)
        refine d_take 6 rfl (q_ix (Rd.drop 1 a0_1_R) (ints_len1 _ a0_1) (by decide) a0_1_h c2 un22 sz3 rfl rfl rfl) rfl rfl (by kernel_rfl) (by kernel_rfl) (by kernel_rfl) (fun w h => h.pick 3 [0] rfl) ?_
        refine d_take 7 rfl (q_ldI (Rd.drop 1 a0_1_R) c2 ag3 rfl rfl) rfl rfl (by kernel_rfl) (by kernel_rfl) (by kernel_rfl) (fun w h => h.pick 3 [0] rfl) ?_
        refine j_rs (.box x2 104 [(.slice none 0 0), (.slice none 0 0), (.slice none 0 0), (.slice none 0 0)] :: .box x1 104 [(.slice a0_0_A a0_0_n a0_0_c), (.slice a0_1_A a0_1_n a0_1_c), (.slice a0_2_A a0_2_n a0_2_c), (.slice a0_3_A a0_3_n a0_3_c)] :: .row a0_3_A a0_3_c 3 1 (ii v1) :: F) (fun _ h => h) ?_
        refine j_env [(1, (i6 a1)), (2, (pt x1)), (4, (pt x2)), (16, (.slice a0_3_A a0_3_n a0_3_c)), (22, (i6 (rd a0_1 a1)))] ⟨rfl, rfl, rfl, rfl, rfl, trivial⟩ ?_
        exact hD255 ()
    refine d_two 1 4 (by kernel_rfl) ?_ ?_
    · refine o_do rfl ((q_loadb 1 rfl ag22 rfl rfl rfl)).acts rfl rfl (fun _ w h => h.pick 3 [0] rfl) (fun _ => ?_)
      refine j_rs (.box x2 104 [(.slice none 0 0), (.slice none 0 0), (.slice none 0 0), (.slice none 0 0)] :: .box x1 104 [(.slice a0_0_A a0_0_n a0_0_c), (.slice a0_1_A a0_1_n a0_1_c), (.slice a0_2_A a0_2_n a0_2_c), (.slice a0_3_A a0_3_n a0_3_c)] :: .row a0_3_A a0_3_c 3 1 (ii v1) :: F) (fun _ h => h) ?_
      refine j_env [(1, (i6 a1)), (2, (pt x1)), (4, (pt x2)), (16, (.slice a0_3_A a0_3_n a0_3_c)), (18, (.pointer (some ⟨x1, 1, none⟩))), (20, (i6 a1))] ⟨rfl, rfl, rfl, rfl, rfl, rfl, trivial⟩ ?_
      exact hD47 ()
    · refine o_do rfl ((q_loadb 1 rfl ag22 rfl rfl rfl)).acts rfl rfl (fun _ w h => h.pick 3 [0] rfl) (fun _ => ?_)
      refine d_take 6 rfl (q_ix (Rd.drop 1 a0_1_R) (ints_len1 _ a0_1) (by decide) a0_1_h c2 un22 sz3 rfl rfl rfl) rfl rfl (by kernel_rfl) (by kernel_rfl) (by kernel_rfl) (fun w h => h.pick 3 [0] rfl) ?_
      refine d_take 7 rfl (q_ldI (Rd.drop 1 a0_1_R) c2 ag3 rfl rfl) rfl rfl (by kernel_rfl) (by kernel_rfl) (by kernel_rfl) (fun w h => h.pick 3 [0] rfl) ?_
      refine j_rs (.box x2 104 [(.slice none 0 0), (.slice none 0 0), (.slice none 0 0), (.slice none 0 0)] :: .box x1 104 [(.slice a0_0_A a0_0_n a0_0_c), (.slice a0_1_A a0_1_n a0_1_c), (.slice a0_2_A a0_2_n a0_2_c), (.slice a0_3_A a0_3_n a0_3_c)] :: .row a0_3_A a0_3_c 3 1 (ii v1) :: F) (fun _ h => h) ?_
      refine j_env [(1, (i6 a1)), (2, (pt x1)), (4, (pt x2)), (15, (.pointer (some ⟨x1, 3, none⟩))), (22, (i6 (rd a0_1 a1)))] ⟨rfl, rfl, rfl, rfl, rfl, trivial⟩ ?_
      exact hD253 ()
  refine d_join (σ := ((Ln v1.length a0_3.length))) 1 #[true, true, true, true, true, true, true, true, true, true, false] (fun s => [(1, (i6 a1)), (2, (pt x1)), (4, (pt x2)), (13, (.slice a0_3_A a0_3_n a0_3_c)), (14, (.pointer (some ⟨x1, 3, none⟩)))]) (fun s => .box x2 104 [(.slice none 0 0), (.slice none 0 0), (.slice none 0 0), (.slice none 0 0)] :: .box x1 104 [(.slice a0_0_A a0_0_n a0_0_c), (.slice a0_1_A a0_1_n a0_1_c), (.slice a0_2_A a0_2_n a0_2_c), (.slice a0_3_A a0_3_n a0_3_c)] :: .row a0_3_A a0_3_c 3 1 (ii v1) :: F) ?_ (fun hD1023 => ?_)
  · rintro x3
    show J _ _ [(1, (i6 a1)), (2, (pt x1)), (4, (pt x2)), (13, (.slice a0_3_A a0_3_n a0_3_c)), (14, (.pointer (some ⟨x1, 3, none⟩)))] _ (.box x2 104 [(.slice none 0 0), (.slice none 0 0), (.slice none 0 0), (.slice none 0 0)] :: .box x1 104 [(.slice a0_0_A a0_0_n a0_0_c), (.slice a0_1_A a0_1_n a0_1_c), (.slice a0_2_A a0_2_n a0_2_c), (.slice a0_3_A a0_3_n a0_3_c)] :: .row a0_3_A a0_3_c 3 1 (ii v1) :: F)
    refine d_one 10 (by kernel_rfl) ?_
    · refine o_do rfl (a_storeb 1 rfl sz22 rfl rfl rfl rfl (Nat.le_of_ble_eq_true rfl) rfl) rfl rfl (fun _ w h => h.pick 3 [0] rfl) (fun _ => ?_)
      refine j_b1 [(.slice a0_0_A a0_0_n a0_0_c), (.slice a0_1_A a0_1_n a0_1_c), (.slice a0_2_A a0_2_n a0_2_c), (.slice a0_3_A a0_3_n a0_3_c)] rfl ?_
      refine j_rs (.box x2 104 [(.slice none 0 0), (.slice none 0 0), (.slice none 0 0), (.slice none 0 0)] :: .box x1 104 [(.slice a0_0_A a0_0_n a0_0_c), (.slice a0_1_A a0_1_n a0_1_c), (.slice a0_2_A a0_2_n a0_2_c), (.slice a0_3_A a0_3_n a0_3_c)] :: .row a0_3_A a0_3_c 3 1 (ii v1) :: F) (fun _ h => h) ?_
      refine j_env [(1, (i6 a1)), (2, (pt x1)), (4, (pt x2))] ⟨rfl, rfl, rfl, trivial⟩ ?_
      exact hD2047 x3
  refine d_join (σ := Unit) 3 #[true, true, true, true, true, true, true, true, false, false, false] (fun s => [(1, (i6 a1)), (2, (pt x1)), (4, (pt x2)), (6, (.slice a0_3_A a0_3_n a0_3_c)), (12, (i6 (rd a0_0 a1)))]) (fun s => .box x2 104 [(.slice none 0 0), (.slice none 0 0), (.slice none 0 0), (.slice none 0 0)] :: .box x1 104 [(.slice a0_0_A a0_0_n a0_0_c), (.slice a0_1_A a0_1_n a0_1_c), (.slice a0_2_A a0_2_n a0_2_c), (.slice a0_3_A a0_3_n a0_3_c)] :: .row a0_3_A a0_3_c 3 1 (ii a0_3) :: F) ?_ (fun hD255 => ?_)
  · rintro _
    show J _ _ [(1, (i6 a1)), (2, (pt x1)), (4, (pt x2)), (6, (.slice a0_3_A a0_3_n a0_3_c)), (12, (i6 (rd a0_0 a1)))] _ (.box x2 104 [(.slice none 0 0), (.slice none 0 0), (.slice none 0 0), (.slice none 0 0)] :: .box x1 104 [(.slice a0_0_A a0_0_n a0_0_c), (.slice a0_1_A a0_1_n a0_1_c), (.slice a0_2_A a0_2_n a0_2_c), (.slice a0_3_A a0_3_n a0_3_c)] :: .row a0_3_A a0_3_c 3 1 (ii a0_3) :: F)
    refine d_one 8 (by kernel_rfl) ?_
    · refine j_rs (.row a0_3_A a0_3_c 3 1 (ii a0_3) :: .box x2 104 [(.slice none 0 0), (.slice none 0 0), (.slice none 0 0), (.slice none 0 0)] :: .box x1 104 [(.slice a0_0_A a0_0_n a0_0_c), (.slice a0_1_A a0_1_n a0_1_c), (.slice a0_2_A a0_2_n a0_2_c), (.slice a0_3_A a0_3_n a0_3_c)] :: F) (fun _ h => h.pick 3 [2, 0, 1] rfl) ?_
      refine o_do rfl (a_call ok89 rfl rfl rfl rfl (fun w hm => spec_l3Shade.calls K a0_3 a0_3_A a0_3_n a0_3_c (rd a0_0 a1) hm a0_3_h hb1)) rfl rfl (fun x3 w h => h.pick 3 [1] rfl) (fun x3 => ?_)
      refine d_take 9 rfl (q_fieldAddr fi104_1 sz22 rfl rfl rfl) rfl rfl (by kernel_rfl) (by kernel_rfl) (by kernel_rfl) (fun w h => h.pick 3 [1] rfl) ?_
      refine j_rs (.box x2 104 [(.slice none 0 0), (.slice none 0 0), (.slice none 0 0), (.slice none 0 0)] :: .box x1 104 [(.slice a0_0_A a0_0_n a0_0_c), (.slice a0_1_A a0_1_n a0_1_c), (.slice a0_2_A a0_2_n a0_2_c), (.slice a0_3_A a0_3_n a0_3_c)] :: .row a0_3_A a0_3_c 3 1 (ii v1) :: F) (fun _ h => h.pick 3 [1, 2, 0] rfl) ?_
      refine j_env [(1, (i6 a1)), (2, (pt x1)), (4, (pt x2)), (13, (.slice a0_3_A a0_3_n a0_3_c)), (14, (.pointer (some ⟨x1, 3, none⟩)))] ⟨rfl, rfl, rfl, rfl, rfl, trivial⟩ ?_
      exact hD1023 x3
  refine d_join (σ := Unit) 4 #[true, false, true, true, true, true, true, true, false, false, false] (fun s => [(1, (i6 a1)), (2, (pt x1)), (4, (pt x2)), (5, (.pointer (some ⟨x1, 3, none⟩))), (12, (i6 (rd a0_0 a1)))]) (fun s => .box x2 104 [(.slice none 0 0), (.slice none 0 0), (.slice none 0 0), (.slice none 0 0)] :: .box x1 104 [(.slice a0_0_A a0_0_n a0_0_c), (.slice a0_1_A a0_1_n a0_1_c), (.slice a0_2_A a0_2_n a0_2_c), (.slice a0_3_A a0_3_n a0_3_c)] :: .row a0_3_A a0_3_c 3 1 (ii a0_3) :: F) ?_ (fun hD253 => ?_)
  · rintro _
    show J _ _ [(1, (i6 a1)), (2, (pt x1)), (4, (pt x2)), (5, (.pointer (some ⟨x1, 3, none⟩))), (12, (i6 (rd a0_0 a1)))] _ (.box x2 104 [(.slice none 0 0), (.slice none 0 0), (.slice none 0 0), (.slice none 0 0)] :: .box x1 104 [(.slice a0_0_A a0_0_n a0_0_c), (.slice a0_1_A a0_1_n a0_1_c), (.slice a0_2_A a0_2_n a0_2_c), (.slice a0_3_A a0_3_n a0_3_c)] :: .row a0_3_A a0_3_c 3 1 (ii a0_3) :: F)
    refine d_one 1 (by kernel_rfl) ?_
    · refine o_do rfl ((q_loadb 1 rfl ag22 rfl rfl rfl)).acts rfl rfl (fun _ w h => h.pick 3 [0] rfl) (fun _ => ?_)
      refine j_rs (.box x2 104 [(.slice none 0 0), (.slice none 0 0), (.slice none 0 0), (.slice none 0 0)] :: .box x1 104 [(.slice a0_0_A a0_0_n a0_0_c), (.slice a0_1_A a0_1_n a0_1_c), (.slice a0_2_A a0_2_n a0_2_c), (.slice a0_3_A a0_3_n a0_3_c)] :: .row a0_3_A a0_3_c 3 1 (ii a0_3) :: F) (fun _ h => h) ?_
      refine j_env [(1, (i6 a1)), (2, (pt x1)), (4, (pt x2)), (6, (.slice a0_3_A a0_3_n a0_3_c)), (12, (i6 (rd a0_0 a1)))] ⟨rfl, rfl, rfl, rfl, rfl, trivial⟩ ?_
      exact hD255 ()
  refine d_join (σ := Unit) 6 #[true, true, true, true, false, true, false, false, false, false, false] (fun s => [(1, (i6 a1)), (2, (pt x1)), (4, (pt x2)), (6, (.slice a0_3_A a0_3_n a0_3_c)), (8, (pt x1)), (10, (i6 a1))]) (fun s => .box x2 104 [(.slice none 0 0), (.slice none 0 0), (.slice none 0 0), (.slice none 0 0)] :: .box x1 104 [(.slice a0_0_A a0_0_n a0_0_c), (.slice a0_1_A a0_1_n a0_1_c), (.slice a0_2_A a0_2_n a0_2_c), (.slice a0_3_A a0_3_n a0_3_c)] :: .row a0_3_A a0_3_c 3 1 (ii a0_3) :: F) ?_ (fun hD47 => ?_)
  · rintro _
    show J _ _ [(1, (i6 a1)), (2, (pt x1)), (4, (pt x2)), (6, (.slice a0_3_A a0_3_n a0_3_c)), (8, (pt x1)), (10, (i6 a1))] _ (.box x2 104 [(.slice none 0 0), (.slice none 0 0), (.slice none 0 0), (.slice none 0 0)] :: .box x1 104 [(.slice a0_0_A a0_0_n a0_0_c), (.slice a0_1_A a0_1_n a0_1_c), (.slice a0_2_A a0_2_n a0_2_c), (.slice a0_3_A a0_3_n a0_3_c)] :: .row a0_3_A a0_3_c 3 1 (ii a0_3) :: F)
    refine d_one 4 (by kernel_rfl) ?_
    · refine o_do rfl ((q_loadb 1 rfl ag22 rfl rfl rfl)).acts rfl rfl (fun _ w h => h.pick 3 [0] rfl) (fun _ => ?_)
      refine d_take 6 rfl (q_ix (Rd.drop 1 a0_0_R) (ints_len1 _ a0_0) (by decide) a0_0_h c1 un22 sz3 rfl rfl rfl) rfl rfl (by kernel_rfl) (by kernel_rfl) (by kernel_rfl) (fun w h => h.pick 3 [0] rfl) ?_
      refine d_take 7 rfl (q_ldI (Rd.drop 1 a0_0_R) c1 ag3 rfl rfl) rfl rfl (by kernel_rfl) (by kernel_rfl) (by kernel_rfl) (fun w h => h.pick 3 [0] rfl) ?_
      refine j_rs (.box x2 104 [(.slice none 0 0), (.slice none 0 0), (.slice none 0 0), (.slice none 0 0)] :: .box x1 104 [(.slice a0_0_A a0_0_n a0_0_c), (.slice a0_1_A a0_1_n a0_1_c), (.slice a0_2_A a0_2_n a0_2_c), (.slice a0_3_A a0_3_n a0_3_c)] :: .row a0_3_A a0_3_c 3 1 (ii a0_3) :: F) (fun _ h => h) ?_
      refine j_env [(1, (i6 a1)), (2, (pt x1)), (4, (pt x2)), (6, (.slice a0_3_A a0_3_n a0_3_c)), (12, (i6 (rd a0_0 a1)))] ⟨rfl, rfl, rfl, rfl, rfl, trivial⟩ ?_
      exact hD255 ()
  refine d_two 1 4 (by kernel_rfl) ?_ ?_
  · refine o_do rfl ((q_loadb 1 rfl ag22 rfl rfl rfl)).acts rfl rfl (fun _ w h => h.pick 3 [0] rfl) (fun _ => ?_)
    refine j_rs (.box x2 104 [(.slice none 0 0), (.slice none 0 0), (.slice none 0 0), (.slice none 0 0)] :: .box x1 104 [(.slice a0_0_A a0_0_n a0_0_c), (.slice a0_1_A a0_1_n a0_1_c), (.slice a0_2_A a0_2_n a0_2_c), (.slice a0_3_A a0_3_n a0_3_c)] :: .row a0_3_A a0_3_c 3 1 (ii a0_3) :: F) (fun _ h => h) ?_
    refine j_env [(1, (i6 a1)), (2, (pt x1)), (4, (pt x2)), (6, (.slice a0_3_A a0_3_n a0_3_c)), (8, (pt x1)), (10, (i6 a1))] ⟨rfl, rfl, rfl, rfl, rfl, rfl, trivial⟩ ?_
    exact hD47 ()
  · refine o_do rfl ((q_loadb 1 rfl ag22 rfl rfl rfl)).acts rfl rfl (fun _ w h => h.pick 3 [0] rfl) (fun _ => ?_)
    refine d_take 6 rfl (q_ix (Rd.drop 1 a0_0_R) (ints_len1 _ a0_0) (by decide) a0_0_h c1 un22 sz3 rfl rfl rfl) rfl rfl (by kernel_rfl) (by kernel_rfl) (by kernel_rfl) (fun w h => h.pick 3 [0] rfl) ?_
    refine d_take 7 rfl (q_ldI (Rd.drop 1 a0_0_R) c1 ag3 rfl rfl) rfl rfl (by kernel_rfl) (by kernel_rfl) (by kernel_rfl) (fun w h => h.pick 3 [0] rfl) ?_
    refine j_rs (.box x2 104 [(.slice none 0 0), (.slice none 0 0), (.slice none 0 0), (.slice none 0 0)] :: .box x1 104 [(.slice a0_0_A a0_0_n a0_0_c), (.slice a0_1_A a0_1_n a0_1_c), (.slice a0_2_A a0_2_n a0_2_c), (.slice a0_3_A a0_3_n a0_3_c)] :: .row a0_3_A a0_3_c 3 1 (ii a0_3) :: F) (fun _ h => h) ?_
    refine j_env [(1, (i6 a1)), (2, (pt x1)), (4, (pt x2)), (5, (.pointer (some ⟨x1, 3, none⟩))), (12, (i6 (rd a0_0 a1)))] ⟨rfl, rfl, rfl, rfl, rfl, trivial⟩ ?_
    exact hD253 ()

theorem spec_l6Root.calls (K : Nat) (a0_0_A : Option Addr) (a0_0_n a0_0_c : Nat) (a0_1_A : Option Addr) (a0_1_n a0_1_c : Nat) (a0_2 : List Int) (a0_2_A : Option Addr) (a0_2_n a0_2_c : Nat) (a0_3_A : Option Addr) (a0_3_n a0_3_c : Nat) (a1_0 : Int) (a1_1 : List Int) (a1_1_A : Option Addr) (a1_1_n a1_1_c : Nat) (a1_2 : Int) {w0 w : World} {F : List Res} {r1 : Int} (hm : Mem w0 (F) w) (a0_2_h : a0_2.length = a0_2_n) (a0_2_R : Rd w0 F a0_2_A (ii a0_2)) (a1_1_h : a1_1.length = a1_1_n) (a1_1_R : Rd w0 F a1_1_A (ii a1_1)) (h : spec_l6Root.f K a0_2 a1_0 a1_1 a1_2 = some r1) :
    Calls Try.prog 103 (List.toArray [.agg (List.toArray [.slice a0_0_A a0_0_n a0_0_c, .slice a0_1_A a0_1_n a0_1_c, .slice a0_2_A a0_2_n a0_2_c, .slice a0_3_A a0_3_n a0_3_c]), .agg (List.toArray [i6 a1_0, .slice a1_1_A a1_1_n a1_1_c, i6 a1_2])]) w fun e w' => ∃ x : Unit, e = .returned (i6 r1) ∧ Mem w0 (F) w' := by
  unfold spec_l6Root.f at h
  refine calls_of_J (n := 32) Try.func103 rfl rfl rfl hm ?_
  refine j_seq ?_
  refine j_region ?_
  refine r_do (a_box rfl rfl) rfl rfl (fun x1 => ?_)
  refine r_do (a_box rfl rfl) rfl rfl (fun x2 => ?_)
  refine r_q (q_assign rfl rfl) rfl rfl ?_
  refine r_nil ?_
  refine j_then ?_
  refine j_seq ?_
  refine j_seq ?_
  refine j_region ?_
  refine r_q (q_assign rfl rfl) rfl rfl ?_
  refine r_nil ?_
  refine j_then ?_
  obtain ⟨κ0, h, hκ0⟩ := ex_k (g := fun κ => spec_l6Root.loop0 K κ a0_2 a1_1 K (0:Int) = some r1) h
  refine j_cut (σ := Unit) (fun s => []) (fun s => F) (fun s => κ0 () = some r1) ?_ ?_
  · refine j_block ?_
    refine j_loop (σ := Int) (fun s => [(2, (pt x1)), (3, (pt x2)), (5, (i6 s))]) (fun s => .box x1 36 [(.slice a0_0_A a0_0_n a0_0_c), (.slice a0_1_A a0_1_n a0_1_c), (.slice a0_2_A a0_2_n a0_2_c), (.slice a0_3_A a0_3_n a0_3_c)] :: .box x2 37 [(i6 a1_0), (.slice a1_1_A a1_1_n a1_1_c), (i6 a1_2)] :: F) (fun m s => spec_l6Root.loop0 K κ0 a0_2 a1_1 m s = some r1) K (0:Int) h (fun a he => he.sub ⟨rfl, rfl, rfl, trivial⟩) (fun w h => h.pick 2 [1, 0] rfl) ?_
    rintro m p2 h
    cases m with
    | zero => exact absurd h (by rw [spec_l6Root.loop0]; exact nofun)
    | succ m =>
      rw [spec_l6Root.loop0] at h
      show J _ _ [(2, (pt x1)), (3, (pt x2)), (5, (i6 p2))] _ (.box x1 36 [(.slice a0_0_A a0_0_n a0_0_c), (.slice a0_1_A a0_1_n a0_1_c), (.slice a0_2_A a0_2_n a0_2_c), (.slice a0_3_A a0_3_n a0_3_c)] :: .box x2 37 [(i6 a1_0), (.slice a1_1_A a1_1_n a1_1_c), (i6 a1_2)] :: F)
      refine j_seq ?_
      refine j_seq ?_
      refine j_region ?_
      refine r_q (q_move rfl rfl) rfl rfl ?_
      refine r_q (q_fieldAddr fi36_0 sz34 rfl rfl rfl) rfl rfl ?_
      refine r_q (q_fieldAddr fi34_2 sz22 rfl rfl rfl) rfl rfl ?_
      refine r_q (q_loadb 0 rfl ag22 rfl rfl rfl) rfl rfl ?_
      refine r_q (q_lenX a0_2 a0_2_h un22 rfl rfl rfl rfl rfl) rfl rfl ?_
      refine r_q (q_lss rfl rfl rfl) rfl rfl ?_
      refine r_nil ?_
      refine j_then ?_
      rcases of_if h with ⟨c16, h⟩ | ⟨c16, h⟩
      · refine j_true rfl (decide_eq_true c16) ?_
        refine j_skip ?_
        refine j_then ?_
        refine j_seq ?_
        refine j_block ?_
        refine j_seq ?_
        refine j_region ?_
        refine r_q (q_fieldAddr fi36_0 sz34 rfl rfl rfl) rfl rfl ?_
        refine r_q (q_fieldAddr fi34_2 sz22 rfl rfl rfl) rfl rfl ?_
        refine r_q (q_loadb 0 rfl ag22 rfl rfl rfl) rfl rfl ?_
        refine r_q (q_move rfl rfl) rfl rfl ?_
        obtain ⟨c17, h⟩ := of_guard h
        refine r_q (q_ix (Rd.drop 2 a0_2_R) (ints_len1 _ a0_2) (by decide) a0_2_h c17 un22 sz3 rfl rfl rfl) rfl rfl ?_
        refine r_q (q_ldI (Rd.drop 2 a0_2_R) c17 ag3 rfl rfl) rfl rfl ?_
        refine r_q (q_assign rfl rfl) rfl rfl ?_
        refine r_nil ?_
        refine j_then ?_
        refine j_seq ?_
        refine j_region ?_
        refine r_q (q_move rfl rfl) rfl rfl ?_
        refine r_q (q_neq rfl rfl rfl) rfl rfl ?_
        refine r_q (q_move rfl rfl) rfl rfl ?_
        rcases of_if h with ⟨c18, h⟩ | ⟨c18, h⟩
        · refine r_off rfl rfl rfl rfl (bne_f c18) rfl ?_
          refine r_off rfl rfl rfl rfl (bne_f c18) rfl ?_
          refine r_off rfl rfl rfl rfl (bne_f c18) rfl ?_
          refine r_off rfl rfl rfl rfl (bne_f c18) rfl ?_
          refine r_off rfl rfl rfl rfl (bne_f c18) rfl ?_
          refine r_off rfl rfl rfl rfl (bne_f c18) rfl ?_
          refine r_q (q_pick_f rfl rfl (bne_f c18) rfl) rfl rfl ?_
          refine r_nil ?_
          refine j_then ?_
          refine j_false rfl rfl ?_
          refine j_skip ?_
          refine j_in ?_
          refine j_then ?_
          refine j_region ?_
          refine r_q (q_move rfl rfl) rfl rfl ?_
          refine r_q (q_add rfl rfl rfl) rfl rfl ?_
          refine r_q (q_assign rfl rfl) rfl rfl ?_
          refine r_nil ?_
          refine j_then ?_
          exact j_again m (wrap64 (p2 + (1:Int))) (Nat.lt_succ_self m) h (fun a he => he.sub ⟨rfl, rfl, rfl, trivial⟩) (fun w h => h)
        · refine r_qon (q_fieldAddr fi37_1 sz22 rfl rfl rfl) rfl rfl rfl rfl (bne_t c18) rfl ?_
          refine r_qon (q_loadb 1 rfl ag22 rfl rfl rfl) rfl rfl rfl rfl (bne_t c18) rfl ?_
          refine r_qon (q_move rfl rfl) rfl rfl rfl rfl (bne_t c18) rfl ?_
          obtain ⟨c19, h⟩ := of_guard h
          refine r_qon (q_ix (Rd.drop 2 a1_1_R) (ints_len1 _ a1_1) (by decide) a1_1_h c19 un22 sz3 rfl rfl rfl) rfl rfl rfl rfl (bne_t c18) rfl ?_
          refine r_qon (q_ldI (Rd.drop 2 a1_1_R) c19 ag3 rfl rfl) rfl rfl rfl rfl (bne_t c18) rfl ?_
          refine r_qon (q_eql rfl rfl rfl) rfl rfl rfl rfl (bne_t c18) rfl ?_
          refine r_q (q_pick_t rfl rfl (bne_t c18) rfl) rfl rfl ?_
          refine r_nil ?_
          refine j_then ?_
          rcases of_if h with ⟨c20, h⟩ | ⟨c20, h⟩
          · refine j_true rfl (beq_t c20) ?_
            refine j_seq ?_
            refine j_region ?_
            refine r_q (q_move rfl rfl) rfl rfl ?_
            refine r_q (q_assign rfl rfl) rfl rfl ?_
            refine r_nil ?_
            refine j_then ?_
            refine j_ret ?_
            refine j_in_ret ?_
            refine j_then_ret ?_
            refine j_then_ret ?_
            refine j_in_ret ?_
            refine j_then_ret ?_
            refine j_then_ret ?_
            cases h
            exact j_return rfl (ResOf.tmp rfl ResOf.nil) rfl (fun w h => ⟨(), rfl, (h.drop 2)⟩)
          · refine j_false rfl (beq_f c20) ?_
            refine j_skip ?_
            refine j_in ?_
            refine j_then ?_
            refine j_region ?_
            refine r_q (q_move rfl rfl) rfl rfl ?_
            refine r_q (q_add rfl rfl rfl) rfl rfl ?_
            refine r_q (q_assign rfl rfl) rfl rfl ?_
            refine r_nil ?_
            refine j_then ?_
            exact j_again m (wrap64 (p2 + (1:Int))) (Nat.lt_succ_self m) h (fun a he => he.sub ⟨rfl, rfl, rfl, trivial⟩) (fun w h => h)
      · refine j_false rfl (decide_eq_false c16) ?_
        refine j_exit ?_
        refine j_then_exit ?_
        refine j_then_exit ?_
        refine j_in_exit ?_
        refine j_then ?_
        exact j_meet () h (fun a he => he.sub trivial) (fun w h => (h.drop 2))
  · rintro _ h
    subst hκ0
    show J _ _ [] _ (F)
    refine j_then ?_
    refine j_seq ?_
    refine j_region ?_
    refine r_q (q_assign rfl rfl) rfl rfl ?_
    refine r_nil ?_
    refine j_then ?_
    refine j_ret ?_
    cases h
    exact j_return rfl (ResOf.tmp rfl ResOf.nil) rfl (fun w h => ⟨(), rfl, h⟩)

theorem spec_l6Mark.calls (K : Nat) (a0_0 : List Int) (a0_0_A : Option Addr) (a0_0_n a0_0_c : Nat) (a0_1 : List Int) (a0_1_A : Option Addr) (a0_1_n a0_1_c : Nat) (a0_2 : List Int) (a0_2_A : Option Addr) (a0_2_n a0_2_c : Nat) (a0_3_A : Option Addr) (a0_3_n a0_3_c : Nat) (a1_0 : Int) (a1_1 : List Int) (a1_1_A : Option Addr) (a1_1_n a1_1_c : Nat) (a1_2 : Int) {w0 w : World} {F : List Res} {r1 : Int} {r2 : Int} {r3 : List Int} (hm : Mem w0 (.row a1_1_A a1_1_c 3 1 (ii a1_1) :: F) w) (a0_0_h : a0_0.length = a0_0_n) (a0_0_R : Rd w0 F a0_0_A (ii a0_0)) (a0_1_h : a0_1.length = a0_1_n) (a0_1_R : Rd w0 F a0_1_A (ii a0_1)) (a0_2_h : a0_2.length = a0_2_n) (a0_2_R : Rd w0 F a0_2_A (ii a0_2)) (a1_1_h : a1_1.length = a1_1_n) (h : spec_l6Mark.f K a0_0 a0_1 a0_2 a1_0 a1_1 a1_2 = some (r1, r2, r3)) :
    Calls Try.prog 91 (List.toArray [.agg (List.toArray [.slice a0_0_A a0_0_n a0_0_c, .slice a0_1_A a0_1_n a0_1_c, .slice a0_2_A a0_2_n a0_2_c, .slice a0_3_A a0_3_n a0_3_c]), .agg (List.toArray [i6 a1_0, .slice a1_1_A a1_1_n a1_1_c, i6 a1_2])]) w fun e w' => ∃ x : (Ln r3.length a1_1.length), e = .returned (.agg (List.toArray [i6 r1, .slice a1_1_A a1_1_n a1_1_c, i6 r2])) ∧ Mem w0 (.row a1_1_A a1_1_c 3 1 (ii r3) :: F) w' := by
  unfold spec_l6Mark.f at h
  refine calls_of_J (n := 41) Try.func91 rfl rfl rfl hm ?_
  refine j_seq ?_
  refine j_region ?_
  refine r_do (a_box rfl rfl) rfl rfl (fun x1 => ?_)
  refine r_do (a_box rfl rfl) rfl rfl (fun x2 => ?_)
  refine r_do (a_alloc zr37 rfl) rfl rfl (fun x3 => ?_)
  refine r_nil ?_
  refine j_then ?_
  refine j_seq ?_
  refine j_region ?_
  refine r_q (q_fieldAddr fi36_0 sz34 rfl rfl rfl) rfl rfl ?_
  refine r_q (q_loadb_agg 2 rfl ag34 sz34 rfl rfl rfl rfl) rfl rfl ?_
  refine r_q (q_fieldAddr fi37_1 sz22 rfl rfl rfl) rfl rfl ?_
  refine r_q (q_loadb 1 rfl ag22 rfl rfl rfl) rfl rfl ?_
  refine r_q (q_build (cs := [(.slice a0_0_A a0_0_n a0_0_c), (.slice a0_1_A a0_1_n a0_1_c), (.slice a0_2_A a0_2_n a0_2_c), (.slice a1_1_A a1_1_n a1_1_c)]) zr104 pl104 rfl rfl rfl rfl) rfl rfl ?_
  refine r_do (a_alloc zr104 rfl) rfl rfl (fun x4 => ?_)
  refine r_do (a_storeb 0 rfl sz104 rfl rfl rfl rfl (Nat.le_of_ble_eq_true rfl) rfl) rfl rfl (fun _ => ?_)
  refine j_b0 [(.slice a0_0_A a0_0_n a0_0_c), (.slice a0_1_A a0_1_n a0_1_c), (.slice a0_2_A a0_2_n a0_2_c), (.slice a1_1_A a1_1_n a1_1_c)] rfl ?_
  refine r_nil ?_
  refine j_then ?_
  refine j_seq ?_
  refine j_region ?_
  refine r_q (q_loadb_agg 0 rfl ag104 sz104 rfl rfl rfl rfl) rfl rfl ?_
  obtain ⟨v1, hb1, h⟩ := of_b1 h
  refine r_do (a_call ok101 rfl rfl rfl rfl (fun w hm => spec_l3First.calls K a0_0_A a0_0_n a0_0_c a0_1_A a0_1_n a0_1_c a0_2_A a0_2_n a0_2_c a1_1 a1_1_A a1_1_n a1_1_c (1:Int) hm a1_1_h (Rd.row 4 rfl) hb1)) rfl rfl (fun x5 => ?_)
  refine r_q (q_assign rfl rfl) rfl rfl ?_
  refine r_nil ?_
  refine j_then ?_
  refine j_seq ?_
  refine j_seq ?_
  refine j_region ?_
  refine r_q (q_move rfl rfl) rfl rfl ?_
  refine r_q (q_geq rfl rfl rfl) rfl rfl ?_
  refine r_nil ?_
  refine j_then ?_
  rcases of_if h with ⟨c1, h⟩ | ⟨c1, h⟩
  · refine j_true rfl (decide_eq_true c1) ?_
    refine j_seq ?_
    refine j_region ?_
    refine r_q (q_loadb_agg 0 rfl ag104 sz104 rfl rfl rfl rfl) rfl rfl ?_
    refine r_q (q_move rfl rfl) rfl rfl ?_
    obtain ⟨v2, hb2, h⟩ := of_b1 h
    refine j_rs (.row a1_1_A a1_1_c 3 1 (ii a1_1) :: .box x4 104 [(.slice a0_0_A a0_0_n a0_0_c), (.slice a0_1_A a0_1_n a0_1_c), (.slice a0_2_A a0_2_n a0_2_c), (.slice a1_1_A a1_1_n a1_1_c)] :: .box x3 37 [(i6 (0:Int)), (.slice none 0 0), (i6 (0:Int))] :: .box x2 37 [(i6 a1_0), (.slice a1_1_A a1_1_n a1_1_c), (i6 a1_2)] :: .box x1 36 [(.slice a0_0_A a0_0_n a0_0_c), (.slice a0_1_A a0_1_n a0_1_c), (.slice a0_2_A a0_2_n a0_2_c), (.slice a0_3_A a0_3_n a0_3_c)] :: F) (fun _ h => h.pick 5 [4, 0, 1, 2, 3] rfl) ?_
    refine r_do (a_call ok102 rfl rfl rfl rfl (fun w hm => spec_l3Black.calls K a0_0 a0_0_A a0_0_n a0_0_c a0_1 a0_1_A a0_1_n a0_1_c a0_2_A a0_2_n a0_2_c a1_1 a1_1_A a1_1_n a1_1_c v1 hm a0_0_h (Rd.drop 4 a0_0_R) a0_1_h (Rd.drop 4 a0_1_R) a1_1_h hb2)) rfl rfl (fun x6 => ?_)
    refine r_q (q_field fi104_1 ag22 rfl rfl rfl) rfl rfl ?_
    refine r_q (q_fieldAddr fi37_1 sz22 rfl rfl rfl) rfl rfl ?_
    refine r_do (a_storeb 3 rfl sz22 rfl rfl rfl rfl (Nat.le_of_ble_eq_true rfl) rfl) rfl rfl (fun _ => ?_)
    refine j_b3 [(i6 a1_0), (.slice a1_1_A a1_1_n a1_1_c), (i6 a1_2)] rfl ?_
    refine r_nil ?_
    refine j_then ?_
    refine j_seq ?_
    refine j_region ?_
    refine r_q (q_loadb_agg 3 rfl ag37 sz37 rfl rfl rfl rfl) rfl rfl ?_
    refine r_do (a_storeb 2 rfl sz37 rfl rfl rfl rfl (Nat.le_of_ble_eq_true rfl) rfl) rfl rfl (fun _ => ?_)
    refine j_b2 [(i6 a1_0), (.slice a1_1_A a1_1_n a1_1_c), (i6 a1_2)] rfl ?_
    refine r_nil ?_
    refine j_then ?_
    refine j_ret ?_
    refine j_then_ret ?_
    cases h
    exact j_return rfl (ResOf.cell 2 rfl rfl ag37 sz37 ResOf.nil) rfl (fun w h => ⟨⟨Eq.trans (x6.h.trans a1_1_h) a1_1_h.symm⟩, rfl, h.pick 5 [0] rfl⟩)
  · refine j_false rfl (decide_eq_false c1) ?_
    refine j_skip ?_
    refine j_then ?_
    refine j_seq ?_
    refine j_region ?_
    refine r_q (q_loadb_agg 3 rfl ag36 sz36 rfl rfl rfl rfl) rfl rfl ?_
    refine r_q (q_loadb_agg 2 rfl ag37 sz37 rfl rfl rfl rfl) rfl rfl ?_
    obtain ⟨v3, hb3, h⟩ := of_b1 h
    refine r_do (a_call ok103 rfl rfl rfl rfl (fun w hm => spec_l6Root.calls K a0_0_A a0_0_n a0_0_c a0_1_A a0_1_n a0_1_c a0_2 a0_2_A a0_2_n a0_2_c a0_3_A a0_3_n a0_3_c a1_0 a1_1 a1_1_A a1_1_n a1_1_c a1_2 hm a0_2_h (Rd.drop 5 a0_2_R) a1_1_h (Rd.row 4 rfl) hb3)) rfl rfl (fun x7 => ?_)
    refine r_q (q_assign rfl rfl) rfl rfl ?_
    refine r_nil ?_
    refine j_then ?_
    refine j_seq ?_
    refine j_seq ?_
    refine j_region ?_
    refine r_q (q_move rfl rfl) rfl rfl ?_
    refine r_q (q_geq rfl rfl rfl) rfl rfl ?_
    refine r_nil ?_
    refine j_then ?_
    rcases of_if h with ⟨c2, h⟩ | ⟨c2, h⟩
    · refine j_true rfl (decide_eq_true c2) ?_
      refine j_seq ?_
      obtain ⟨c3, h⟩ := of_guard h
      obtain ⟨v4, hb4, h⟩ := of_b1 h
      refine j_draw (.box x4 104 [(.slice a0_0_A a0_0_n a0_0_c), (.slice a0_1_A a0_1_n a0_1_c), (.slice a0_2_A a0_2_n a0_2_c), (.slice a1_1_A a1_1_n a1_1_c)] :: .box x3 37 [(i6 (0:Int)), (.slice none 0 0), (i6 (0:Int))] :: .box x1 36 [(.slice a0_0_A a0_0_n a0_0_c), (.slice a0_1_A a0_1_n a0_1_c), (.slice a0_2_A a0_2_n a0_2_c), (.slice a0_3_A a0_3_n a0_3_c)] :: F) 11 follows_any rfl ?_
      refine d_take 0 rfl (q_fieldAddr fi37_1 sz22 rfl rfl rfl) rfl rfl (by kernel_rfl) (by kernel_rfl) (by kernel_rfl) (fun w h => h.pick 5 [0, 1, 3] rfl) ?_
      refine d_take 2 rfl (q_fieldAddr fi36_0 sz34 rfl rfl rfl) rfl rfl (by kernel_rfl) (by kernel_rfl) (by kernel_rfl) (fun w h => h.pick 5 [0, 1, 3] rfl) ?_
      refine d_take 3 rfl (q_fieldAddr fi34_2 sz22 rfl rfl rfl) rfl rfl (by kernel_rfl) (by kernel_rfl) (by kernel_rfl) (fun w h => h.pick 5 [0, 1, 3] rfl) ?_
      refine d_take 4 rfl (q_loadb 2 rfl ag22 rfl rfl rfl) rfl rfl (by kernel_rfl) (by kernel_rfl) (by kernel_rfl) (fun w h => h.pick 5 [0, 1, 3] rfl) ?_
      refine d_take 5 rfl (q_move rfl rfl) rfl rfl (by kernel_rfl) (by kernel_rfl) (by kernel_rfl) (fun w h => h.pick 5 [0, 1, 3] rfl) ?_
      refine d_take 6 rfl (q_ix (Rd.drop 3 a0_2_R) (ints_len1 _ a0_2) (by decide) a0_2_h c3 un22 sz3 rfl rfl rfl) rfl rfl (by kernel_rfl) (by kernel_rfl) (by kernel_rfl) (fun w h => h.pick 5 [0, 1, 3] rfl) ?_
      refine d_take 7 rfl (q_ldI (Rd.drop 3 a0_2_R) c3 ag3 rfl rfl) rfl rfl (by kernel_rfl) (by kernel_rfl) (by kernel_rfl) (fun w h => h.pick 5 [0, 1, 3] rfl) ?_
      refine d_one 1 (by kernel_rfl) ?_
      refine o_do rfl ((q_loadb 2 rfl ag22 rfl rfl rfl)).acts rfl rfl (fun _ w h => h.pick 5 [0, 1, 3] rfl) (fun _ => ?_)
      refine d_one 8 (by kernel_rfl) ?_
      refine j_rs (.row a1_1_A a1_1_c 3 1 (ii a1_1) :: .box x4 104 [(.slice a0_0_A a0_0_n a0_0_c), (.slice a0_1_A a0_1_n a0_1_c), (.slice a0_2_A a0_2_n a0_2_c), (.slice a1_1_A a1_1_n a1_1_c)] :: .box x3 37 [(i6 (0:Int)), (.slice none 0 0), (i6 (0:Int))] :: .box x2 37 [(i6 a1_0), (.slice a1_1_A a1_1_n a1_1_c), (i6 a1_2)] :: .box x1 36 [(.slice a0_0_A a0_0_n a0_0_c), (.slice a0_1_A a0_1_n a0_1_c), (.slice a0_2_A a0_2_n a0_2_c), (.slice a0_3_A a0_3_n a0_3_c)] :: F) (fun _ h => h.pick 5 [4, 0, 1, 2, 3] rfl) ?_
      refine o_do rfl (a_call ok89 rfl rfl rfl rfl (fun w hm => spec_l3Shade.calls K a1_1 a1_1_A a1_1_n a1_1_c (rd a0_2 v3) hm a1_1_h hb4)) rfl rfl (fun x8 w h => h.pick 5 [1, 2, 4] rfl) (fun x8 => ?_)
      refine d_take 9 rfl (q_fieldAddr fi37_1 sz22 rfl rfl rfl) rfl rfl (by kernel_rfl) (by kernel_rfl) (by kernel_rfl) (fun w h => h.pick 5 [1, 2, 4] rfl) ?_
      refine d_one 10 (by kernel_rfl) ?_
      refine o_do rfl (a_storeb 3 rfl sz22 rfl rfl rfl rfl (Nat.le_of_ble_eq_true rfl) rfl) rfl rfl (fun _ w h => h.pick 5 [1, 2, 4] rfl) (fun _ => ?_)
      refine j_b3 [(i6 a1_0), (.slice a1_1_A a1_1_n a1_1_c), (i6 a1_2)] rfl ?_
      refine d_done (by kernel_rfl) ?_
      refine j_then ?_
      refine j_seq ?_
      refine j_region ?_
      refine r_q (q_loadb_agg 3 rfl ag37 sz37 rfl rfl rfl rfl) rfl rfl ?_
      refine r_do (a_storeb 2 rfl sz37 rfl rfl rfl rfl (Nat.le_of_ble_eq_true rfl) rfl) rfl rfl (fun _ => ?_)
      refine j_b2 [(i6 a1_0), (.slice a1_1_A a1_1_n a1_1_c), (i6 a1_2)] rfl ?_
      refine r_nil ?_
      refine j_then ?_
      refine j_ret ?_
      refine j_then_ret ?_
      cases h
      exact j_return rfl (ResOf.cell 2 rfl rfl ag37 sz37 ResOf.nil) rfl (fun w h => ⟨⟨Eq.trans (x8.h.trans a1_1_h) a1_1_h.symm⟩, rfl, h.pick 5 [0] rfl⟩)
    · refine j_false rfl (decide_eq_false c2) ?_
      refine j_skip ?_
      refine j_then ?_
      refine j_seq ?_
      refine j_region ?_
      refine r_q (q_fieldAddr fi37_0 sz3 rfl rfl rfl) rfl rfl ?_
      refine r_do (a_storeb 2 rfl sz3 rfl rfl rfl rfl (Nat.le_of_ble_eq_true rfl) rfl) rfl rfl (fun _ => ?_)
      refine j_b2 [(i6 (3:Int)), (.slice a1_1_A a1_1_n a1_1_c), (i6 a1_2)] rfl ?_
      refine r_nil ?_
      refine j_then ?_
      refine j_seq ?_
      refine j_region ?_
      refine r_q (q_loadb_agg 2 rfl ag37 sz37 rfl rfl rfl rfl) rfl rfl ?_
      refine r_do (a_storeb 1 rfl sz37 rfl rfl rfl rfl (Nat.le_of_ble_eq_true rfl) rfl) rfl rfl (fun _ => ?_)
      refine j_b1 [(i6 (3:Int)), (.slice a1_1_A a1_1_n a1_1_c), (i6 a1_2)] rfl ?_
      refine r_nil ?_
      refine j_then ?_
      refine j_ret ?_
      cases h
      exact j_return rfl (ResOf.cell 1 rfl rfl ag37 sz37 ResOf.nil) rfl (fun w h => ⟨⟨Eq.trans a1_1_h a1_1_h.symm⟩, rfl, (h.drop 4)⟩)

theorem spec_l6Swept.calls (K : Nat) (a0_0_A : Option Addr) (a0_0_n a0_0_c : Nat) (a0_1_A : Option Addr) (a0_1_n a0_1_c : Nat) (a0_2_A : Option Addr) (a0_2_n a0_2_c : Nat) (a0_3 : List Int) (a0_3_A : Option Addr) (a0_3_n a0_3_c : Nat) (a1_0 : Int) (a1_1 : List Int) (a1_1_A : Option Addr) (a1_1_n a1_1_c : Nat) (a1_2 : Int) {w0 w : World} {F : List Res} {r1 : Int} (hm : Mem w0 (F) w) (a0_3_h : a0_3.length = a0_3_n) (a0_3_R : Rd w0 F a0_3_A (ii a0_3)) (a1_1_h : a1_1.length = a1_1_n) (a1_1_R : Rd w0 F a1_1_A (ii a1_1)) (h : spec_l6Swept.f K a0_3 a1_0 a1_1 a1_2 = some r1) :
    Calls Try.prog 57 (List.toArray [.agg (List.toArray [.slice a0_0_A a0_0_n a0_0_c, .slice a0_1_A a0_1_n a0_1_c, .slice a0_2_A a0_2_n a0_2_c, .slice a0_3_A a0_3_n a0_3_c]), .agg (List.toArray [i6 a1_0, .slice a1_1_A a1_1_n a1_1_c, i6 a1_2])]) w fun e w' => ∃ x : Unit, e = .returned (i6 r1) ∧ Mem w0 (F) w' := by
  unfold spec_l6Swept.f at h
  refine calls_of_J (n := 27) Try.func57 rfl rfl rfl hm ?_
  refine j_seq ?_
  refine j_region ?_
  refine r_do (a_box rfl rfl) rfl rfl (fun x1 => ?_)
  refine r_do (a_box rfl rfl) rfl rfl (fun x2 => ?_)
  refine r_q (q_assign rfl rfl) rfl rfl ?_
  refine r_nil ?_
  refine j_then ?_
  refine j_seq ?_
  refine j_seq ?_
  refine j_region ?_
  refine r_q (q_fieldAddr fi37_0 sz3 rfl rfl rfl) rfl rfl ?_
  refine r_q (q_loadb 0 rfl ag3 rfl rfl rfl) rfl rfl ?_
  refine r_q (q_eql rfl rfl rfl) rfl rfl ?_
  refine r_q (q_move rfl rfl) rfl rfl ?_
  rcases of_if h with ⟨c1, h⟩ | ⟨c1, h⟩
  · refine r_qon (q_fieldAddr fi37_1 sz22 rfl rfl rfl) rfl rfl rfl rfl (beq_t c1) rfl ?_
    refine r_qon (q_loadb 0 rfl ag22 rfl rfl rfl) rfl rfl rfl rfl (beq_t c1) rfl ?_
    refine r_qon (q_fieldAddr fi37_2 sz3 rfl rfl rfl) rfl rfl rfl rfl (beq_t c1) rfl ?_
    refine r_qon (q_loadb 0 rfl ag3 rfl rfl rfl) rfl rfl rfl rfl (beq_t c1) rfl ?_
    obtain ⟨c2, h⟩ := of_guard h
    refine r_qon (q_ix (Rd.drop 2 a1_1_R) (ints_len1 _ a1_1) (by decide) a1_1_h c2 un22 sz3 rfl rfl rfl) rfl rfl rfl rfl (beq_t c1) rfl ?_
    refine r_qon (q_ldI (Rd.drop 2 a1_1_R) c2 ag3 rfl rfl) rfl rfl rfl rfl (beq_t c1) rfl ?_
    refine r_qon (q_eql rfl rfl rfl) rfl rfl rfl rfl (beq_t c1) rfl ?_
    refine r_q (q_pick_t rfl rfl (beq_t c1) rfl) rfl rfl ?_
    refine r_q (q_move rfl rfl) rfl rfl ?_
    rcases of_if h with ⟨c3, h⟩ | ⟨c3, h⟩
    · refine r_qon (q_fieldAddr fi36_1 sz22 rfl rfl rfl) rfl rfl rfl rfl (beq_t c3) rfl ?_
      refine r_qon (q_loadb 1 rfl ag22 rfl rfl rfl) rfl rfl rfl rfl (beq_t c3) rfl ?_
      refine r_qon (q_fieldAddr fi37_2 sz3 rfl rfl rfl) rfl rfl rfl rfl (beq_t c3) rfl ?_
      refine r_qon (q_loadb 0 rfl ag3 rfl rfl rfl) rfl rfl rfl rfl (beq_t c3) rfl ?_
      obtain ⟨v1, hb1, h⟩ := of_b1 h
      refine r_on (a_call ok84 rfl rfl rfl rfl (fun w hm => spec_l4At.calls K a0_3 a0_3_A a0_3_n a0_3_c a1_2 hm a0_3_h (Rd.drop 2 a0_3_R) hb1)) rfl rfl rfl rfl (beq_t c3) rfl (fun x3 => ?_)
      refine r_qon (q_lss rfl rfl rfl) rfl rfl rfl rfl (beq_t c3) rfl ?_
      refine r_q (q_pick_t rfl rfl (beq_t c3) rfl) rfl rfl ?_
      refine r_nil ?_
      refine j_then ?_
      rcases of_if h with ⟨c4, h⟩ | ⟨c4, h⟩
      · refine j_true rfl (decide_eq_true c4) ?_
        refine j_seq ?_
        refine j_region ?_
        refine r_q (q_fieldAddr fi37_2 sz3 rfl rfl rfl) rfl rfl ?_
        refine r_q (q_loadb 0 rfl ag3 rfl rfl rfl) rfl rfl ?_
        refine r_q (q_assign rfl rfl) rfl rfl ?_
        refine r_nil ?_
        refine j_then ?_
        refine j_ret ?_
        refine j_then_ret ?_
        cases h
        exact j_return rfl (ResOf.tmp rfl ResOf.nil) rfl (fun w h => ⟨(), rfl, (h.drop 2)⟩)
      · refine j_false rfl (decide_eq_false c4) ?_
        refine j_skip ?_
        refine j_then ?_
        refine j_seq ?_
        refine j_region ?_
        refine r_q (q_assign rfl rfl) rfl rfl ?_
        refine r_nil ?_
        refine j_then ?_
        refine j_ret ?_
        cases h
        exact j_return rfl (ResOf.tmp rfl ResOf.nil) rfl (fun w h => ⟨(), rfl, (h.drop 2)⟩)
    · refine r_off rfl rfl rfl rfl (beq_f c3) rfl ?_
      refine r_off rfl rfl rfl rfl (beq_f c3) rfl ?_
      refine r_off rfl rfl rfl rfl (beq_f c3) rfl ?_
      refine r_off rfl rfl rfl rfl (beq_f c3) rfl ?_
      refine r_off rfl rfl rfl rfl (beq_f c3) rfl ?_
      refine r_off rfl rfl rfl rfl (beq_f c3) rfl ?_
      refine r_q (q_pick_f rfl rfl (beq_f c3) rfl) rfl rfl ?_
      refine r_nil ?_
      refine j_then ?_
      refine j_false rfl rfl ?_
      refine j_skip ?_
      refine j_then ?_
      refine j_seq ?_
      refine j_region ?_
      refine r_q (q_assign rfl rfl) rfl rfl ?_
      refine r_nil ?_
      refine j_then ?_
      refine j_ret ?_
      cases h
      exact j_return rfl (ResOf.tmp rfl ResOf.nil) rfl (fun w h => ⟨(), rfl, (h.drop 2)⟩)
  · refine r_off rfl rfl rfl rfl (beq_f c1) rfl ?_
    refine r_off rfl rfl rfl rfl (beq_f c1) rfl ?_
    refine r_off rfl rfl rfl rfl (beq_f c1) rfl ?_
    refine r_off rfl rfl rfl rfl (beq_f c1) rfl ?_
    refine r_off rfl rfl rfl rfl (beq_f c1) rfl ?_
    refine r_off rfl rfl rfl rfl (beq_f c1) rfl ?_
    refine r_off rfl rfl rfl rfl (beq_f c1) rfl ?_
    refine r_q (q_pick_f rfl rfl (beq_f c1) rfl) rfl rfl ?_
    refine r_q (q_move rfl rfl) rfl rfl ?_
    refine r_off rfl rfl rfl rfl rfl rfl ?_
    refine r_off rfl rfl rfl rfl rfl rfl ?_
    refine r_off rfl rfl rfl rfl rfl rfl ?_
    refine r_off rfl rfl rfl rfl rfl rfl ?_
    refine r_off rfl rfl rfl rfl rfl rfl ?_
    refine r_off rfl rfl rfl rfl rfl rfl ?_
    refine r_q (q_pick_f rfl rfl rfl rfl) rfl rfl ?_
    refine r_nil ?_
    refine j_then ?_
    refine j_false rfl rfl ?_
    refine j_skip ?_
    refine j_then ?_
    refine j_seq ?_
    refine j_region ?_
    refine r_q (q_assign rfl rfl) rfl rfl ?_
    refine r_nil ?_
    refine j_then ?_
    refine j_ret ?_
    cases h
    exact j_return rfl (ResOf.tmp rfl ResOf.nil) rfl (fun w h => ⟨(), rfl, (h.drop 2)⟩)

theorem spec_l4Clear.calls (K : Nat) (a0_0 : List Int) (a0_0_A : Option Addr) (a0_0_n a0_0_c : Nat) (a0_1 : List Int) (a0_1_A : Option Addr) (a0_1_n a0_1_c : Nat) (a0_2 : List Int) (a0_2_A : Option Addr) (a0_2_n a0_2_c : Nat) (a0_3 : List Int) (a0_3_A : Option Addr) (a0_3_n a0_3_c : Nat) (a1 : List Int) (a1_A : Option Addr) (a1_n a1_c : Nat) {w0 w : World} {F : List Res} {r1 : List Int} {r2 : List Int} {r3 : List Int} {r4 : List Int} (hm : Mem w0 (F) w) (a0_0_h : a0_0.length = a0_0_n) (a0_0_R : Rd w0 F a0_0_A (ii a0_0)) (a0_1_h : a0_1.length = a0_1_n) (a0_1_R : Rd w0 F a0_1_A (ii a0_1)) (a0_2_h : a0_2.length = a0_2_n) (a0_2_R : Rd w0 F a0_2_A (ii a0_2)) (a0_3_h : a0_3.length = a0_3_n) (a0_3_R : Rd w0 F a0_3_A (ii a0_3)) (a1_h : a1.length = a1_n) (a1_R : Rd w0 F a1_A (ii a1)) (h : spec_l4Clear.f K a0_0 a0_1 a0_2 a0_3 a1 = some (r1, r2, r3, r4)) :
    Calls Try.prog 92 (List.toArray [.agg (List.toArray [.slice a0_0_A a0_0_n a0_0_c, .slice a0_1_A a0_1_n a0_1_c, .slice a0_2_A a0_2_n a0_2_c, .slice a0_3_A a0_3_n a0_3_c]), .slice a1_A a1_n a1_c]) w fun e w' => ∃ x : (Sl r1.length) × (Sl r2.length) × (Sl r3.length) × (Sl r4.length), e = .returned (.agg (List.toArray [.slice x.1.A x.1.n x.1.c, .slice x.2.1.A x.2.1.n x.2.1.c, .slice x.2.2.1.A x.2.2.1.n x.2.2.1.c, .slice x.2.2.2.A x.2.2.2.n x.2.2.2.c])) ∧ Mem w0 (.row x.1.A x.1.c 3 1 (ii r1) :: .row x.2.1.A x.2.1.c 3 1 (ii r2) :: .row x.2.2.1.A x.2.2.1.c 3 1 (ii r3) :: .row x.2.2.2.A x.2.2.2.c 3 1 (ii r4) :: F) w' := by
  unfold spec_l4Clear.f at h
  refine calls_of_J (n := 63) Try.func92 rfl rfl rfl hm ?_
  refine j_seq ?_
  refine j_region ?_
  refine r_do (a_box rfl rfl) rfl rfl (fun x1 => ?_)
  refine r_do (a_alloc zr36 rfl) rfl rfl (fun x2 => ?_)
  refine r_nil ?_
  refine j_then ?_
  refine j_seq ?_
  refine j_region ?_
  refine r_q (q_loadb_agg 1 rfl ag36 sz36 rfl rfl rfl rfl) rfl rfl ?_
  obtain ⟨v1, v2, v3, v4, hb1, h⟩ := of_b4 h
  refine r_do (a_call ok52 rfl rfl rfl rfl (fun w hm => spec_l4Copy.calls K a0_0 a0_0_A a0_0_n a0_0_c a0_1 a0_1_A a0_1_n a0_1_c a0_2 a0_2_A a0_2_n a0_2_c a0_3 a0_3_A a0_3_n a0_3_c hm a0_0_h (Rd.drop 2 a0_0_R) a0_1_h (Rd.drop 2 a0_1_R) a0_2_h (Rd.drop 2 a0_2_R) a0_3_h (Rd.drop 2 a0_3_R) hb1)) rfl rfl (fun x3 => ?_)
  refine r_do (a_alloc zr36 rfl) rfl rfl (fun x4 => ?_)
  refine r_do (a_storeb 0 rfl sz36 rfl rfl rfl rfl (Nat.le_of_ble_eq_true rfl) rfl) rfl rfl (fun _ => ?_)
  refine j_b0 [(.slice x3.1.A x3.1.n x3.1.c), (.slice x3.2.1.A x3.2.1.n x3.2.1.c), (.slice x3.2.2.1.A x3.2.2.1.n x3.2.2.1.c), (.slice x3.2.2.2.A x3.2.2.2.n x3.2.2.2.c)] rfl ?_
  refine r_nil ?_
  refine j_then ?_
  refine j_seq ?_
  refine j_seq ?_
  refine j_region ?_
  refine r_q (q_assign rfl rfl) rfl rfl ?_
  refine r_nil ?_
  refine j_then ?_
  obtain ⟨κ0, h, hκ0⟩ := ex_k (g := fun κ => spec_l4Clear.loop0 K κ a1 K (0:Int) v1 v2 = some (r1, r2, r3, r4)) h
  refine j_cut (σ := (List Int) × (List Int)) (fun s => [(1, (.slice a1_A a1_n a1_c)), (4, (pt x2)), (5, (pt x4))]) (fun s => .box x2 36 [(.slice none 0 0), (.slice none 0 0), (.slice none 0 0), (.slice none 0 0)] :: .box x4 36 [(.slice x3.1.A x3.1.n x3.1.c), (.slice x3.2.1.A x3.2.1.n x3.2.1.c), (.slice x3.2.2.1.A x3.2.2.1.n x3.2.2.1.c), (.slice x3.2.2.2.A x3.2.2.2.n x3.2.2.2.c)] :: .row x3.1.A x3.1.c 3 1 (ii s.1) :: .row x3.2.1.A x3.2.1.c 3 1 (ii s.2) :: .row x3.2.2.1.A x3.2.2.1.c 3 1 (ii v3) :: .row x3.2.2.2.A x3.2.2.2.c 3 1 (ii v4) :: F) (fun s => κ0 s.1 s.2 = some (r1, r2, r3, r4) ∧ (s.1.length = x3.1.n) ∧ (s.2.length = x3.2.1.n)) ?_ ?_
  · refine j_block ?_
    refine j_loop (σ := Int × (List Int) × (List Int)) (fun s => [(1, (.slice a1_A a1_n a1_c)), (4, (pt x2)), (5, (pt x4)), (6, (i6 s.1))]) (fun s => .box x2 36 [(.slice none 0 0), (.slice none 0 0), (.slice none 0 0), (.slice none 0 0)] :: .box x4 36 [(.slice x3.1.A x3.1.n x3.1.c), (.slice x3.2.1.A x3.2.1.n x3.2.1.c), (.slice x3.2.2.1.A x3.2.2.1.n x3.2.2.1.c), (.slice x3.2.2.2.A x3.2.2.2.n x3.2.2.2.c)] :: .row x3.1.A x3.1.c 3 1 (ii s.2.1) :: .row x3.2.1.A x3.2.1.c 3 1 (ii s.2.2) :: .row x3.2.2.1.A x3.2.2.1.c 3 1 (ii v3) :: .row x3.2.2.2.A x3.2.2.2.c 3 1 (ii v4) :: F) (fun m s => spec_l4Clear.loop0 K κ0 a1 m s.1 s.2.1 s.2.2 = some (r1, r2, r3, r4) ∧ (s.2.1.length = x3.1.n) ∧ (s.2.2.length = x3.2.1.n)) K ((0:Int), v1, v2) ⟨h, x3.1.h, x3.2.1.h⟩ (fun a he => he.sub ⟨rfl, rfl, rfl, rfl, trivial⟩) (fun w h => h.pick 7 [5, 0, 1, 2, 3, 4] rfl) ?_
    rintro m ⟨p2, l3, l4⟩ ⟨h, q3, q4⟩
    cases m with
    | zero => exact absurd h (by rw [spec_l4Clear.loop0]; exact nofun)
    | succ m =>
      rw [spec_l4Clear.loop0] at h
      show J _ _ [(1, (.slice a1_A a1_n a1_c)), (4, (pt x2)), (5, (pt x4)), (6, (i6 p2))] _ (.box x2 36 [(.slice none 0 0), (.slice none 0 0), (.slice none 0 0), (.slice none 0 0)] :: .box x4 36 [(.slice x3.1.A x3.1.n x3.1.c), (.slice x3.2.1.A x3.2.1.n x3.2.1.c), (.slice x3.2.2.1.A x3.2.2.1.n x3.2.2.1.c), (.slice x3.2.2.2.A x3.2.2.2.n x3.2.2.2.c)] :: .row x3.1.A x3.1.c 3 1 (ii l3) :: .row x3.2.1.A x3.2.1.c 3 1 (ii l4) :: .row x3.2.2.1.A x3.2.2.1.c 3 1 (ii v3) :: .row x3.2.2.2.A x3.2.2.2.c 3 1 (ii v4) :: F)
      refine j_seq ?_
      refine j_seq ?_
      refine j_region ?_
      refine r_q (q_move rfl rfl) rfl rfl ?_
      refine r_q (q_fieldAddr fi36_0 sz34 rfl rfl rfl) rfl rfl ?_
      refine r_q (q_fieldAddr fi34_0 sz22 rfl rfl rfl) rfl rfl ?_
      refine r_q (q_loadb 1 rfl ag22 rfl rfl rfl) rfl rfl ?_
      refine r_q (q_lenX l3 q3 un22 rfl rfl rfl rfl rfl) rfl rfl ?_
      refine r_q (q_lss rfl rfl rfl) rfl rfl ?_
      refine r_nil ?_
      refine j_then ?_
      rcases of_if h with ⟨c40, h⟩ | ⟨c40, h⟩
      · refine j_true rfl (decide_eq_true c40) ?_
        refine j_skip ?_
        refine j_then ?_
        refine j_seq ?_
        refine j_block ?_
        refine j_seq ?_
        refine j_seq ?_
        refine j_region ?_
        refine r_q (q_move rfl rfl) rfl rfl ?_
        refine r_q (q_fieldAddr fi36_0 sz34 rfl rfl rfl) rfl rfl ?_
        refine r_q (q_fieldAddr fi34_0 sz22 rfl rfl rfl) rfl rfl ?_
        refine r_q (q_loadb 1 rfl ag22 rfl rfl rfl) rfl rfl ?_
        refine r_q (q_move rfl rfl) rfl rfl ?_
        obtain ⟨c41, h⟩ := of_guard h
        refine r_q (q_ix (Rd.row 2 rfl) (ints_len1 _ l3) (by decide) q3 c41 un22 sz3 rfl rfl rfl) rfl rfl ?_
        refine r_q (q_ldI (Rd.row 2 rfl) c41 ag3 rfl rfl) rfl rfl ?_
        obtain ⟨v29, hb26, h⟩ := of_b1 h
        refine r_do (a_call ok84 rfl rfl rfl rfl (fun w hm => spec_l4At.calls K a1 a1_A a1_n a1_c (rd l3 p2) hm a1_h (Rd.drop 6 a1_R) hb26)) rfl rfl (fun x5 => ?_)
        refine r_q (q_geq rfl rfl rfl) rfl rfl ?_
        refine r_q (q_move rfl rfl) rfl rfl ?_
        rcases of_if h with ⟨c42, h⟩ | ⟨c42, h⟩
        · refine r_off rfl rfl rfl rfl (decide_eq_true c42) rfl ?_
          refine r_off rfl rfl rfl rfl (decide_eq_true c42) rfl ?_
          refine r_off rfl rfl rfl rfl (decide_eq_true c42) rfl ?_
          refine r_off rfl rfl rfl rfl (decide_eq_true c42) rfl ?_
          refine r_q (q_pick_t rfl rfl (decide_eq_true c42) rfl) rfl rfl ?_
          refine r_nil ?_
          refine j_then ?_
          refine j_true rfl rfl ?_
          refine j_region ?_
          refine r_q (q_fieldAddr fi36_0 sz34 rfl rfl rfl) rfl rfl ?_
          refine r_q (q_fieldAddr fi34_0 sz22 rfl rfl rfl) rfl rfl ?_
          refine r_q (q_loadb 1 rfl ag22 rfl rfl rfl) rfl rfl ?_
          refine r_q (q_move rfl rfl) rfl rfl ?_
          refine r_q (q_ix (Rd.row 2 rfl) (ints_len1 _ l3) (by decide) q3 c41 un22 sz3 rfl rfl rfl) rfl rfl ?_
          refine r_do (a_stI 2 rfl c41 sz3 rfl rfl rfl) rfl rfl (fun _ => ?_)
          refine j_s2 ?_
          refine r_nil ?_
          refine j_then ?_
          refine j_seq ?_
          refine j_region ?_
          refine r_q (q_move rfl rfl) rfl rfl ?_
          refine r_q (q_fieldAddr fi36_0 sz34 rfl rfl rfl) rfl rfl ?_
          refine r_q (q_fieldAddr fi34_1 sz22 rfl rfl rfl) rfl rfl ?_
          refine r_q (q_loadb 1 rfl ag22 rfl rfl rfl) rfl rfl ?_
          refine r_q (q_move rfl rfl) rfl rfl ?_
          obtain ⟨c43, h⟩ := of_guard h
          refine r_q (q_ix (Rd.row 3 rfl) (ints_len1 _ l4) (by decide) q4 c43 un22 sz3 rfl rfl rfl) rfl rfl ?_
          refine r_q (q_ldI (Rd.row 3 rfl) c43 ag3 rfl rfl) rfl rfl ?_
          obtain ⟨v30, hb27, h⟩ := of_b1 h
          refine r_do (a_call ok84 rfl rfl rfl rfl (fun w hm => spec_l4At.calls K a1 a1_A a1_n a1_c (rd l4 p2) hm a1_h (Rd.drop 6 a1_R) hb27)) rfl rfl (fun x6 => ?_)
          refine r_q (q_geq rfl rfl rfl) rfl rfl ?_
          refine r_q (q_move rfl rfl) rfl rfl ?_
          rcases of_if h with ⟨c44, h⟩ | ⟨c44, h⟩
          · refine r_off rfl rfl rfl rfl (decide_eq_true c44) rfl ?_
            refine r_off rfl rfl rfl rfl (decide_eq_true c44) rfl ?_
            refine r_off rfl rfl rfl rfl (decide_eq_true c44) rfl ?_
            refine r_off rfl rfl rfl rfl (decide_eq_true c44) rfl ?_
            refine r_q (q_pick_t rfl rfl (decide_eq_true c44) rfl) rfl rfl ?_
            refine r_nil ?_
            refine j_then ?_
            refine j_true rfl rfl ?_
            refine j_region ?_
            refine r_q (q_fieldAddr fi36_0 sz34 rfl rfl rfl) rfl rfl ?_
            refine r_q (q_fieldAddr fi34_1 sz22 rfl rfl rfl) rfl rfl ?_
            refine r_q (q_loadb 1 rfl ag22 rfl rfl rfl) rfl rfl ?_
            refine r_q (q_move rfl rfl) rfl rfl ?_
            refine r_q (q_ix (Rd.row 3 rfl) (ints_len1 _ l4) (by decide) q4 c43 un22 sz3 rfl rfl rfl) rfl rfl ?_
            refine r_do (a_stI 3 rfl c43 sz3 rfl rfl rfl) rfl rfl (fun _ => ?_)
            refine j_s3 ?_
            refine r_nil ?_
            refine j_in ?_
            refine j_then ?_
            refine j_region ?_
            refine r_q (q_move rfl rfl) rfl rfl ?_
            refine r_q (q_add rfl rfl rfl) rfl rfl ?_
            refine r_q (q_assign rfl rfl) rfl rfl ?_
            refine r_nil ?_
            refine j_then ?_
            exact j_again m ((wrap64 (p2 + (1:Int))), (l3.set p2.toNat (-1:Int)), (l4.set p2.toNat (-1:Int))) (Nat.lt_succ_self m) ⟨h, (set_len q3 _ _), (set_len q4 _ _)⟩ (fun a he => he.sub ⟨rfl, rfl, rfl, rfl, trivial⟩) (fun w h => h)
          · refine r_qon (q_move rfl rfl) rfl rfl rfl rfl (decide_eq_false c44) rfl ?_
            refine r_qon (q_move rfl rfl) rfl rfl rfl rfl (decide_eq_false c44) rfl ?_
            obtain ⟨v31, hb28, h⟩ := of_b1 h
            refine r_on (a_call ok84 rfl rfl rfl rfl (fun w hm => spec_l4At.calls K a1 a1_A a1_n a1_c p2 hm a1_h (Rd.drop 6 a1_R) hb28)) rfl rfl rfl rfl (decide_eq_false c44) rfl (fun x7 => ?_)
            refine r_qon (q_geq rfl rfl rfl) rfl rfl rfl rfl (decide_eq_false c44) rfl ?_
            refine r_q (q_pick_f rfl rfl (decide_eq_false c44) rfl) rfl rfl ?_
            refine r_nil ?_
            refine j_then ?_
            rcases of_if h with ⟨c45, h⟩ | ⟨c45, h⟩
            · refine j_true rfl (decide_eq_true c45) ?_
              refine j_region ?_
              refine r_q (q_fieldAddr fi36_0 sz34 rfl rfl rfl) rfl rfl ?_
              refine r_q (q_fieldAddr fi34_1 sz22 rfl rfl rfl) rfl rfl ?_
              refine r_q (q_loadb 1 rfl ag22 rfl rfl rfl) rfl rfl ?_
              refine r_q (q_move rfl rfl) rfl rfl ?_
              refine r_q (q_ix (Rd.row 3 rfl) (ints_len1 _ l4) (by decide) q4 c43 un22 sz3 rfl rfl rfl) rfl rfl ?_
              refine r_do (a_stI 3 rfl c43 sz3 rfl rfl rfl) rfl rfl (fun _ => ?_)
              refine j_s3 ?_
              refine r_nil ?_
              refine j_in ?_
              refine j_then ?_
              refine j_region ?_
              refine r_q (q_move rfl rfl) rfl rfl ?_
              refine r_q (q_add rfl rfl rfl) rfl rfl ?_
              refine r_q (q_assign rfl rfl) rfl rfl ?_
              refine r_nil ?_
              refine j_then ?_
              exact j_again m ((wrap64 (p2 + (1:Int))), (l3.set p2.toNat (-1:Int)), (l4.set p2.toNat (-1:Int))) (Nat.lt_succ_self m) ⟨h, (set_len q3 _ _), (set_len q4 _ _)⟩ (fun a he => he.sub ⟨rfl, rfl, rfl, rfl, trivial⟩) (fun w h => h)
            · refine j_false rfl (decide_eq_false c45) ?_
              refine j_skip ?_
              refine j_in ?_
              refine j_then ?_
              refine j_region ?_
              refine r_q (q_move rfl rfl) rfl rfl ?_
              refine r_q (q_add rfl rfl rfl) rfl rfl ?_
              refine r_q (q_assign rfl rfl) rfl rfl ?_
              refine r_nil ?_
              refine j_then ?_
              exact j_again m ((wrap64 (p2 + (1:Int))), (l3.set p2.toNat (-1:Int)), l4) (Nat.lt_succ_self m) ⟨h, (set_len q3 _ _), q4⟩ (fun a he => he.sub ⟨rfl, rfl, rfl, rfl, trivial⟩) (fun w h => h)
        · refine r_qon (q_move rfl rfl) rfl rfl rfl rfl (decide_eq_false c42) rfl ?_
          refine r_qon (q_move rfl rfl) rfl rfl rfl rfl (decide_eq_false c42) rfl ?_
          obtain ⟨v32, hb29, h⟩ := of_b1 h
          refine r_on (a_call ok84 rfl rfl rfl rfl (fun w hm => spec_l4At.calls K a1 a1_A a1_n a1_c p2 hm a1_h (Rd.drop 6 a1_R) hb29)) rfl rfl rfl rfl (decide_eq_false c42) rfl (fun x8 => ?_)
          refine r_qon (q_geq rfl rfl rfl) rfl rfl rfl rfl (decide_eq_false c42) rfl ?_
          refine r_q (q_pick_f rfl rfl (decide_eq_false c42) rfl) rfl rfl ?_
          refine r_nil ?_
          refine j_then ?_
          rcases of_if h with ⟨c46, h⟩ | ⟨c46, h⟩
          · refine j_true rfl (decide_eq_true c46) ?_
            refine j_region ?_
            refine r_q (q_fieldAddr fi36_0 sz34 rfl rfl rfl) rfl rfl ?_
            refine r_q (q_fieldAddr fi34_0 sz22 rfl rfl rfl) rfl rfl ?_
            refine r_q (q_loadb 1 rfl ag22 rfl rfl rfl) rfl rfl ?_
            refine r_q (q_move rfl rfl) rfl rfl ?_
            refine r_q (q_ix (Rd.row 2 rfl) (ints_len1 _ l3) (by decide) q3 c41 un22 sz3 rfl rfl rfl) rfl rfl ?_
            refine r_do (a_stI 2 rfl c41 sz3 rfl rfl rfl) rfl rfl (fun _ => ?_)
            refine j_s2 ?_
            refine r_nil ?_
            refine j_then ?_
            refine j_seq ?_
            refine j_region ?_
            refine r_q (q_move rfl rfl) rfl rfl ?_
            refine r_q (q_fieldAddr fi36_0 sz34 rfl rfl rfl) rfl rfl ?_
            refine r_q (q_fieldAddr fi34_1 sz22 rfl rfl rfl) rfl rfl ?_
            refine r_q (q_loadb 1 rfl ag22 rfl rfl rfl) rfl rfl ?_
            refine r_q (q_move rfl rfl) rfl rfl ?_
            obtain ⟨c47, h⟩ := of_guard h
            refine r_q (q_ix (Rd.row 3 rfl) (ints_len1 _ l4) (by decide) q4 c47 un22 sz3 rfl rfl rfl) rfl rfl ?_
            refine r_q (q_ldI (Rd.row 3 rfl) c47 ag3 rfl rfl) rfl rfl ?_
            obtain ⟨v33, hb30, h⟩ := of_b1 h
            refine r_do (a_call ok84 rfl rfl rfl rfl (fun w hm => spec_l4At.calls K a1 a1_A a1_n a1_c (rd l4 p2) hm a1_h (Rd.drop 6 a1_R) hb30)) rfl rfl (fun x6 => ?_)
            refine r_q (q_geq rfl rfl rfl) rfl rfl ?_
            refine r_q (q_move rfl rfl) rfl rfl ?_
            rcases of_if h with ⟨c48, h⟩ | ⟨c48, h⟩
            · refine r_off rfl rfl rfl rfl (decide_eq_true c48) rfl ?_
              refine r_off rfl rfl rfl rfl (decide_eq_true c48) rfl ?_
              refine r_off rfl rfl rfl rfl (decide_eq_true c48) rfl ?_
              refine r_off rfl rfl rfl rfl (decide_eq_true c48) rfl ?_
              refine r_q (q_pick_t rfl rfl (decide_eq_true c48) rfl) rfl rfl ?_
              refine r_nil ?_
              refine j_then ?_
              refine j_true rfl rfl ?_
              refine j_region ?_
              refine r_q (q_fieldAddr fi36_0 sz34 rfl rfl rfl) rfl rfl ?_
              refine r_q (q_fieldAddr fi34_1 sz22 rfl rfl rfl) rfl rfl ?_
              refine r_q (q_loadb 1 rfl ag22 rfl rfl rfl) rfl rfl ?_
              refine r_q (q_move rfl rfl) rfl rfl ?_
              refine r_q (q_ix (Rd.row 3 rfl) (ints_len1 _ l4) (by decide) q4 c47 un22 sz3 rfl rfl rfl) rfl rfl ?_
              refine r_do (a_stI 3 rfl c47 sz3 rfl rfl rfl) rfl rfl (fun _ => ?_)
              refine j_s3 ?_
              refine r_nil ?_
              refine j_in ?_
              refine j_then ?_
              refine j_region ?_
              refine r_q (q_move rfl rfl) rfl rfl ?_
              refine r_q (q_add rfl rfl rfl) rfl rfl ?_
              refine r_q (q_assign rfl rfl) rfl rfl ?_
              refine r_nil ?_
              refine j_then ?_
              exact j_again m ((wrap64 (p2 + (1:Int))), (l3.set p2.toNat (-1:Int)), (l4.set p2.toNat (-1:Int))) (Nat.lt_succ_self m) ⟨h, (set_len q3 _ _), (set_len q4 _ _)⟩ (fun a he => he.sub ⟨rfl, rfl, rfl, rfl, trivial⟩) (fun w h => h)
            · refine r_qon (q_move rfl rfl) rfl rfl rfl rfl (decide_eq_false c48) rfl ?_
              refine r_qon (q_move rfl rfl) rfl rfl rfl rfl (decide_eq_false c48) rfl ?_
              obtain ⟨v34, hb31, h⟩ := of_b1 h
              refine r_on (a_call ok84 rfl rfl rfl rfl (fun w hm => spec_l4At.calls K a1 a1_A a1_n a1_c p2 hm a1_h (Rd.drop 6 a1_R) hb31)) rfl rfl rfl rfl (decide_eq_false c48) rfl (fun x7 => ?_)
              refine r_qon (q_geq rfl rfl rfl) rfl rfl rfl rfl (decide_eq_false c48) rfl ?_
              refine r_q (q_pick_f rfl rfl (decide_eq_false c48) rfl) rfl rfl ?_
              refine r_nil ?_
              refine j_then ?_
              rcases of_if h with ⟨c49, h⟩ | ⟨c49, h⟩
              · refine j_true rfl (decide_eq_true c49) ?_
                refine j_region ?_
                refine r_q (q_fieldAddr fi36_0 sz34 rfl rfl rfl) rfl rfl ?_
                refine r_q (q_fieldAddr fi34_1 sz22 rfl rfl rfl) rfl rfl ?_
                refine r_q (q_loadb 1 rfl ag22 rfl rfl rfl) rfl rfl ?_
                refine r_q (q_move rfl rfl) rfl rfl ?_
                refine r_q (q_ix (Rd.row 3 rfl) (ints_len1 _ l4) (by decide) q4 c47 un22 sz3 rfl rfl rfl) rfl rfl ?_
                refine r_do (a_stI 3 rfl c47 sz3 rfl rfl rfl) rfl rfl (fun _ => ?_)
                refine j_s3 ?_
                refine r_nil ?_
                refine j_in ?_
                refine j_then ?_
                refine j_region ?_
                refine r_q (q_move rfl rfl) rfl rfl ?_
                refine r_q (q_add rfl rfl rfl) rfl rfl ?_
                refine r_q (q_assign rfl rfl) rfl rfl ?_
                refine r_nil ?_
                refine j_then ?_
                exact j_again m ((wrap64 (p2 + (1:Int))), (l3.set p2.toNat (-1:Int)), (l4.set p2.toNat (-1:Int))) (Nat.lt_succ_self m) ⟨h, (set_len q3 _ _), (set_len q4 _ _)⟩ (fun a he => he.sub ⟨rfl, rfl, rfl, rfl, trivial⟩) (fun w h => h)
              · refine j_false rfl (decide_eq_false c49) ?_
                refine j_skip ?_
                refine j_in ?_
                refine j_then ?_
                refine j_region ?_
                refine r_q (q_move rfl rfl) rfl rfl ?_
                refine r_q (q_add rfl rfl rfl) rfl rfl ?_
                refine r_q (q_assign rfl rfl) rfl rfl ?_
                refine r_nil ?_
                refine j_then ?_
                exact j_again m ((wrap64 (p2 + (1:Int))), (l3.set p2.toNat (-1:Int)), l4) (Nat.lt_succ_self m) ⟨h, (set_len q3 _ _), q4⟩ (fun a he => he.sub ⟨rfl, rfl, rfl, rfl, trivial⟩) (fun w h => h)
          · refine j_false rfl (decide_eq_false c46) ?_
            refine j_skip ?_
            refine j_then ?_
            refine j_seq ?_
            refine j_region ?_
            refine r_q (q_move rfl rfl) rfl rfl ?_
            refine r_q (q_fieldAddr fi36_0 sz34 rfl rfl rfl) rfl rfl ?_
            refine r_q (q_fieldAddr fi34_1 sz22 rfl rfl rfl) rfl rfl ?_
            refine r_q (q_loadb 1 rfl ag22 rfl rfl rfl) rfl rfl ?_
            refine r_q (q_move rfl rfl) rfl rfl ?_
            obtain ⟨c50, h⟩ := of_guard h
            refine r_q (q_ix (Rd.row 3 rfl) (ints_len1 _ l4) (by decide) q4 c50 un22 sz3 rfl rfl rfl) rfl rfl ?_
            refine r_q (q_ldI (Rd.row 3 rfl) c50 ag3 rfl rfl) rfl rfl ?_
            obtain ⟨v35, hb32, h⟩ := of_b1 h
            refine r_do (a_call ok84 rfl rfl rfl rfl (fun w hm => spec_l4At.calls K a1 a1_A a1_n a1_c (rd l4 p2) hm a1_h (Rd.drop 6 a1_R) hb32)) rfl rfl (fun x6 => ?_)
            refine r_q (q_geq rfl rfl rfl) rfl rfl ?_
            refine r_q (q_move rfl rfl) rfl rfl ?_
            rcases of_if h with ⟨c51, h⟩ | ⟨c51, h⟩
            · refine r_off rfl rfl rfl rfl (decide_eq_true c51) rfl ?_
              refine r_off rfl rfl rfl rfl (decide_eq_true c51) rfl ?_
              refine r_off rfl rfl rfl rfl (decide_eq_true c51) rfl ?_
              refine r_off rfl rfl rfl rfl (decide_eq_true c51) rfl ?_
              refine r_q (q_pick_t rfl rfl (decide_eq_true c51) rfl) rfl rfl ?_
              refine r_nil ?_
              refine j_then ?_
              refine j_true rfl rfl ?_
              refine j_region ?_
              refine r_q (q_fieldAddr fi36_0 sz34 rfl rfl rfl) rfl rfl ?_
              refine r_q (q_fieldAddr fi34_1 sz22 rfl rfl rfl) rfl rfl ?_
              refine r_q (q_loadb 1 rfl ag22 rfl rfl rfl) rfl rfl ?_
              refine r_q (q_move rfl rfl) rfl rfl ?_
              refine r_q (q_ix (Rd.row 3 rfl) (ints_len1 _ l4) (by decide) q4 c50 un22 sz3 rfl rfl rfl) rfl rfl ?_
              refine r_do (a_stI 3 rfl c50 sz3 rfl rfl rfl) rfl rfl (fun _ => ?_)
              refine j_s3 ?_
              refine r_nil ?_
              refine j_in ?_
              refine j_then ?_
              refine j_region ?_
              refine r_q (q_move rfl rfl) rfl rfl ?_
              refine r_q (q_add rfl rfl rfl) rfl rfl ?_
              refine r_q (q_assign rfl rfl) rfl rfl ?_
              refine r_nil ?_
              refine j_then ?_
              exact j_again m ((wrap64 (p2 + (1:Int))), l3, (l4.set p2.toNat (-1:Int))) (Nat.lt_succ_self m) ⟨h, q3, (set_len q4 _ _)⟩ (fun a he => he.sub ⟨rfl, rfl, rfl, rfl, trivial⟩) (fun w h => h)
            · refine r_qon (q_move rfl rfl) rfl rfl rfl rfl (decide_eq_false c51) rfl ?_
              refine r_qon (q_move rfl rfl) rfl rfl rfl rfl (decide_eq_false c51) rfl ?_
              obtain ⟨v36, hb33, h⟩ := of_b1 h
              refine r_on (a_call ok84 rfl rfl rfl rfl (fun w hm => spec_l4At.calls K a1 a1_A a1_n a1_c p2 hm a1_h (Rd.drop 6 a1_R) hb33)) rfl rfl rfl rfl (decide_eq_false c51) rfl (fun x7 => ?_)
              refine r_qon (q_geq rfl rfl rfl) rfl rfl rfl rfl (decide_eq_false c51) rfl ?_
              refine r_q (q_pick_f rfl rfl (decide_eq_false c51) rfl) rfl rfl ?_
              refine r_nil ?_
              refine j_then ?_
              rcases of_if h with ⟨c52, h⟩ | ⟨c52, h⟩
              · refine j_true rfl (decide_eq_true c52) ?_
                refine j_region ?_
                refine r_q (q_fieldAddr fi36_0 sz34 rfl rfl rfl) rfl rfl ?_
                refine r_q (q_fieldAddr fi34_1 sz22 rfl rfl rfl) rfl rfl ?_
                refine r_q (q_loadb 1 rfl ag22 rfl rfl rfl) rfl rfl ?_
                refine r_q (q_move rfl rfl) rfl rfl ?_
                refine r_q (q_ix (Rd.row 3 rfl) (ints_len1 _ l4) (by decide) q4 c50 un22 sz3 rfl rfl rfl) rfl rfl ?_
                refine r_do (a_stI 3 rfl c50 sz3 rfl rfl rfl) rfl rfl (fun _ => ?_)
                refine j_s3 ?_
                refine r_nil ?_
                refine j_in ?_
                refine j_then ?_
                refine j_region ?_
                refine r_q (q_move rfl rfl) rfl rfl ?_
                refine r_q (q_add rfl rfl rfl) rfl rfl ?_
                refine r_q (q_assign rfl rfl) rfl rfl ?_
                refine r_nil ?_
                refine j_then ?_
                exact j_again m ((wrap64 (p2 + (1:Int))), l3, (l4.set p2.toNat (-1:Int))) (Nat.lt_succ_self m) ⟨h, q3, (set_len q4 _ _)⟩ (fun a he => he.sub ⟨rfl, rfl, rfl, rfl, trivial⟩) (fun w h => h)
              · refine j_false rfl (decide_eq_false c52) ?_
                refine j_skip ?_
                refine j_in ?_
                refine j_then ?_
                refine j_region ?_
                refine r_q (q_move rfl rfl) rfl rfl ?_
                refine r_q (q_add rfl rfl rfl) rfl rfl ?_
                refine r_q (q_assign rfl rfl) rfl rfl ?_
                refine r_nil ?_
                refine j_then ?_
                exact j_again m ((wrap64 (p2 + (1:Int))), l3, l4) (Nat.lt_succ_self m) ⟨h, q3, q4⟩ (fun a he => he.sub ⟨rfl, rfl, rfl, rfl, trivial⟩) (fun w h => h)
      · refine j_false rfl (decide_eq_false c40) ?_
        refine j_exit ?_
        refine j_then_exit ?_
        refine j_then_exit ?_
        refine j_in_exit ?_
        refine j_then ?_
        exact j_meet (l3, l4) ⟨h, q3, q4⟩ (fun a he => he.sub ⟨rfl, rfl, rfl, trivial⟩) (fun w h => h)
  · rintro ⟨l5, l6⟩ ⟨h, q5, q6⟩
    subst hκ0
    show J _ _ [(1, (.slice a1_A a1_n a1_c)), (4, (pt x2)), (5, (pt x4))] _ (.box x2 36 [(.slice none 0 0), (.slice none 0 0), (.slice none 0 0), (.slice none 0 0)] :: .box x4 36 [(.slice x3.1.A x3.1.n x3.1.c), (.slice x3.2.1.A x3.2.1.n x3.2.1.c), (.slice x3.2.2.1.A x3.2.2.1.n x3.2.2.1.c), (.slice x3.2.2.2.A x3.2.2.2.n x3.2.2.2.c)] :: .row x3.1.A x3.1.c 3 1 (ii l5) :: .row x3.2.1.A x3.2.1.c 3 1 (ii l6) :: .row x3.2.2.1.A x3.2.2.1.c 3 1 (ii v3) :: .row x3.2.2.2.A x3.2.2.2.c 3 1 (ii v4) :: F)
    refine j_then ?_
    refine j_seq ?_
    refine j_region ?_
    refine r_q (q_fieldAddr fi36_1 sz22 rfl rfl rfl) rfl rfl ?_
    refine r_q (q_loadb 1 rfl ag22 rfl rfl rfl) rfl rfl ?_
    refine r_q (q_move rfl rfl) rfl rfl ?_
    obtain ⟨c53, h⟩ := of_guard h
    refine r_do (a_appI (xs := v4) (ys := a1) 5 un22 un22 sz3 by3 zr3 rfl rfl rfl rfl rfl rfl rfl rfl rfl x3.2.2.2.h a1_h (Rd.drop 6 a1_R) c53) rfl rfl (fun x9 => ?_)
    refine j_s5 ?_
    refine r_q (q_fieldAddr fi36_1 sz22 rfl rfl rfl) rfl rfl ?_
    refine r_do (a_storeb 1 rfl sz22 rfl rfl rfl rfl (Nat.le_of_ble_eq_true rfl) rfl) rfl rfl (fun _ => ?_)
    refine j_b1 [(.slice x3.1.A x3.1.n x3.1.c), (.slice x3.2.1.A x3.2.1.n x3.2.1.c), (.slice x3.2.2.1.A x3.2.2.1.n x3.2.2.1.c), (.slice x9.1 (x3.2.2.2.n + a1_n) x9.2)] rfl ?_
    refine r_nil ?_
    refine j_then ?_
    refine j_seq ?_
    refine j_region ?_
    refine r_q (q_loadb_agg 1 rfl ag36 sz36 rfl rfl rfl rfl) rfl rfl ?_
    refine r_do (a_storeb 0 rfl sz36 rfl rfl rfl rfl (Nat.le_of_ble_eq_true rfl) rfl) rfl rfl (fun _ => ?_)
    refine j_b0 [(.slice x3.1.A x3.1.n x3.1.c), (.slice x3.2.1.A x3.2.1.n x3.2.1.c), (.slice x3.2.2.1.A x3.2.2.1.n x3.2.2.1.c), (.slice x9.1 (x3.2.2.2.n + a1_n) x9.2)] rfl ?_
    refine r_nil ?_
    refine j_then ?_
    refine j_ret ?_
    cases h
    exact j_return rfl (ResOf.cell 0 rfl rfl ag36 sz36 ResOf.nil) rfl (fun w h => ⟨(⟨x3.1.A, x3.1.n, x3.1.c, q5⟩, ⟨x3.2.1.A, x3.2.1.n, x3.2.1.c, q6⟩, ⟨x3.2.2.1.A, x3.2.2.1.n, x3.2.2.1.c, x3.2.2.1.h⟩, ⟨x9.1, (x3.2.2.2.n + a1_n), x9.2, (app_len x3.2.2.2.h a1_h)⟩), rfl, (h.drop 2)⟩)

theorem spec_l6Step.calls (K : Nat) (a0_0 : List Int) (a0_0_A : Option Addr) (a0_0_n a0_0_c : Nat) (a0_1 : List Int) (a0_1_A : Option Addr) (a0_1_n a0_1_c : Nat) (a0_2 : List Int) (a0_2_A : Option Addr) (a0_2_n a0_2_c : Nat) (a0_3 : List Int) (a0_3_A : Option Addr) (a0_3_n a0_3_c : Nat) (a1_0 : Int) (a1_1 : List Int) (a1_1_A : Option Addr) (a1_1_n a1_1_c : Nat) (a1_2 : Int) {w0 w : World} {F : List Res} {r1 : List Int} {r2 : List Int} {r3 : List Int} {r4 : List Int} {r5 : Int} {r6 : List Int} {r7 : Int} (hm : Mem w0 (F) w) (a0_0_h : a0_0.length = a0_0_n) (a0_0_R : Rd w0 F a0_0_A (ii a0_0)) (a0_1_h : a0_1.length = a0_1_n) (a0_1_R : Rd w0 F a0_1_A (ii a0_1)) (a0_2_h : a0_2.length = a0_2_n) (a0_2_R : Rd w0 F a0_2_A (ii a0_2)) (a0_3_h : a0_3.length = a0_3_n) (a0_3_R : Rd w0 F a0_3_A (ii a0_3)) (a1_1_h : a1_1.length = a1_1_n) (a1_1_R : Rd w0 F a1_1_A (ii a1_1)) (h : spec_l6Step.f K a0_0 a0_1 a0_2 a0_3 a1_0 a1_1 a1_2 = some (r1, r2, r3, r4, r5, r6, r7)) :
    Calls Try.prog 71 (List.toArray [.agg (List.toArray [.slice a0_0_A a0_0_n a0_0_c, .slice a0_1_A a0_1_n a0_1_c, .slice a0_2_A a0_2_n a0_2_c, .slice a0_3_A a0_3_n a0_3_c]), .agg (List.toArray [i6 a1_0, .slice a1_1_A a1_1_n a1_1_c, i6 a1_2])]) w fun e w' => ∃ x : (Sl r1.length) × (Sl r2.length) × (Sl r3.length) × (Sl r4.length) × (Sl r6.length), e = .returned (.tuple (List.toArray [.agg (List.toArray [.slice x.1.A x.1.n x.1.c, .slice x.2.1.A x.2.1.n x.2.1.c, .slice x.2.2.1.A x.2.2.1.n x.2.2.1.c, .slice x.2.2.2.1.A x.2.2.2.1.n x.2.2.2.1.c]), .agg (List.toArray [i6 r5, .slice x.2.2.2.2.A x.2.2.2.2.n x.2.2.2.2.c, i6 r7])])) ∧ Mem w0 (.row x.1.A x.1.c 3 1 (ii r1) :: .row x.2.1.A x.2.1.c 3 1 (ii r2) :: .row x.2.2.1.A x.2.2.1.c 3 1 (ii r3) :: .row x.2.2.2.1.A x.2.2.2.1.c 3 1 (ii r4) :: .row x.2.2.2.2.A x.2.2.2.2.c 3 1 (ii r6) :: F) w' := by
  unfold spec_l6Step.f at h
  refine calls_of_J (n := 72) Try.func71 rfl rfl rfl hm ?_
  refine j_seq ?_
  refine j_region ?_
  refine r_do (a_box rfl rfl) rfl rfl (fun x1 => ?_)
  refine r_do (a_box rfl rfl) rfl rfl (fun x2 => ?_)
  refine r_do (a_alloc zr36 rfl) rfl rfl (fun x3 => ?_)
  refine r_do (a_alloc zr37 rfl) rfl rfl (fun x4 => ?_)
  refine r_nil ?_
  refine j_then ?_
  refine j_seq ?_
  refine j_region ?_
  refine r_q (q_loadb_agg 2 rfl ag37 sz37 rfl rfl rfl rfl) rfl rfl ?_
  obtain ⟨v1, v2, v3, hb1, h⟩ := of_b3 h
  refine r_do (a_call ok72 rfl rfl rfl rfl (fun w hm => spec_l6Copy.calls K a1_0 a1_1 a1_1_A a1_1_n a1_1_c a1_2 hm a1_1_h (Rd.drop 4 a1_1_R) hb1)) rfl rfl (fun x5 => ?_)
  refine r_do (a_alloc zr37 rfl) rfl rfl (fun x6 => ?_)
  refine r_do (a_storeb 0 rfl sz37 rfl rfl rfl rfl (Nat.le_of_ble_eq_true rfl) rfl) rfl rfl (fun _ => ?_)
  refine j_b0 [(i6 v1), (.slice x5.A x5.n x5.c), (i6 v3)] rfl ?_
  refine r_nil ?_
  refine j_then ?_
  refine j_seq ?_
  refine j_seq ?_
  refine j_region ?_
  refine r_q (q_fieldAddr fi37_0 sz3 rfl rfl rfl) rfl rfl ?_
  refine r_q (q_loadb 4 rfl ag3 rfl rfl rfl) rfl rfl ?_
  refine r_nil ?_
  refine j_then ?_
  refine j_block ?_
  refine j_seq ?_
  refine j_region ?_
  refine r_q (q_eql rfl rfl rfl) rfl rfl ?_
  refine r_q (q_assign rfl rfl) rfl rfl ?_
  refine r_nil ?_
  refine j_then ?_
  rcases of_if h with ⟨c1, h⟩ | ⟨c1, h⟩
  · refine j_true rfl (beq_t c1) ?_
    refine j_seq ?_
    obtain ⟨v4, v5, v6, v7, hb2, h⟩ := of_b4 h
    obtain ⟨c2, h⟩ := of_guard h
    refine j_draw (.box x6 37 [(i6 v1), (.slice x5.A x5.n x5.c), (i6 v3)] :: .row x5.A x5.c 3 1 (ii v2) :: .box x2 37 [(i6 a1_0), (.slice a1_1_A a1_1_n a1_1_c), (i6 a1_2)] :: .box x1 36 [(.slice a0_0_A a0_0_n a0_0_c), (.slice a0_1_A a0_1_n a0_1_c), (.slice a0_2_A a0_2_n a0_2_c), (.slice a0_3_A a0_3_n a0_3_c)] :: F) 9 follows_any rfl ?_
    refine d_take 0 rfl (q_loadb_agg 3 rfl ag36 sz36 rfl rfl rfl rfl) rfl rfl (by kernel_rfl) (by kernel_rfl) (by kernel_rfl) (fun w h => h.pick 6 [0, 1, 4, 5] rfl) ?_
    refine d_take 2 rfl (q_fieldAddr fi37_1 sz22 rfl rfl rfl) rfl rfl (by kernel_rfl) (by kernel_rfl) (by kernel_rfl) (fun w h => h.pick 6 [0, 1, 4, 5] rfl) ?_
    refine d_take 3 rfl (q_loadb 2 rfl ag22 rfl rfl rfl) rfl rfl (by kernel_rfl) (by kernel_rfl) (by kernel_rfl) (fun w h => h.pick 6 [0, 1, 4, 5] rfl) ?_
    refine d_take 4 rfl (q_lenX a1_1 a1_1_h un22 rfl rfl rfl rfl rfl) rfl rfl (by kernel_rfl) (by kernel_rfl) (by kernel_rfl) (fun w h => h.pick 6 [0, 1, 4, 5] rfl) ?_
    refine d_join (σ := ((Sl v4.length) × (Sl v5.length) × (Sl v6.length) × (Sl v7.length)) × (Option Addr)) 0 #[true, true, true, true, true, true, true, true, true] (fun s => [(4, (pt x3)), (5, (pt x4))]) (fun s => .row s.1.1.A s.1.1.c 3 1 (ii v4) :: .row s.1.2.1.A s.1.2.1.c 3 1 (ii v5) :: .row s.1.2.2.1.A s.1.2.2.1.c 3 1 (ii v6) :: .row s.1.2.2.2.A s.1.2.2.2.c 3 1 (ii v7) :: .row s.2 ((a1_1.length : Int).toNat) 3 1 (ii (List.replicate (a1_1.length : Int).toNat (0:Int))) :: .box x6 37 [(i6 v1), (.slice x5.A x5.n x5.c), (i6 v3)] :: .row x5.A x5.c 3 1 (ii v2) :: .box x4 37 [(i6 (1:Int)), (.slice s.2 ((a1_1.length : Int).toNat) ((a1_1.length : Int).toNat)), (i6 (0:Int))] :: .box x3 36 [(.slice s.1.1.A s.1.1.n s.1.1.c), (.slice s.1.2.1.A s.1.2.1.n s.1.2.1.c), (.slice s.1.2.2.1.A s.1.2.2.1.n s.1.2.2.1.c), (.slice s.1.2.2.2.A s.1.2.2.2.n s.1.2.2.2.c)] :: .box x2 37 [(i6 a1_0), (.slice a1_1_A a1_1_n a1_1_c), (i6 a1_2)] :: .box x1 36 [(.slice a0_0_A a0_0_n a0_0_c), (.slice a0_1_A a0_1_n a0_1_c), (.slice a0_2_A a0_2_n a0_2_c), (.slice a0_3_A a0_3_n a0_3_c)] :: F) ?_ (fun hD511 => ?_)
    · rintro ⟨x7, x8⟩
      show J _ _ [(4, (pt x3)), (5, (pt x4))] _ (.row x7.1.A x7.1.c 3 1 (ii v4) :: .row x7.2.1.A x7.2.1.c 3 1 (ii v5) :: .row x7.2.2.1.A x7.2.2.1.c 3 1 (ii v6) :: .row x7.2.2.2.A x7.2.2.2.c 3 1 (ii v7) :: .row x8 ((a1_1.length : Int).toNat) 3 1 (ii (List.replicate (a1_1.length : Int).toNat (0:Int))) :: .box x6 37 [(i6 v1), (.slice x5.A x5.n x5.c), (i6 v3)] :: .row x5.A x5.c 3 1 (ii v2) :: .box x4 37 [(i6 (1:Int)), (.slice x8 ((a1_1.length : Int).toNat) ((a1_1.length : Int).toNat)), (i6 (0:Int))] :: .box x3 36 [(.slice x7.1.A x7.1.n x7.1.c), (.slice x7.2.1.A x7.2.1.n x7.2.1.c), (.slice x7.2.2.1.A x7.2.2.1.n x7.2.2.1.c), (.slice x7.2.2.2.A x7.2.2.2.n x7.2.2.2.c)] :: .box x2 37 [(i6 a1_0), (.slice a1_1_A a1_1_n a1_1_c), (i6 a1_2)] :: .box x1 36 [(.slice a0_0_A a0_0_n a0_0_c), (.slice a0_1_A a0_1_n a0_1_c), (.slice a0_2_A a0_2_n a0_2_c), (.slice a0_3_A a0_3_n a0_3_c)] :: F)
      refine d_done (by kernel_rfl) ?_
      refine j_then ?_
      refine j_ret ?_
      refine j_in_ret ?_
      refine j_then_ret ?_
      cases h
      exact j_return rfl (ResOf.cell 8 rfl rfl ag36 sz36 (ResOf.cell 7 rfl rfl ag37 sz37 ResOf.nil)) rfl (fun w h => ⟨(⟨x7.1.A, x7.1.n, x7.1.c, x7.1.h⟩, ⟨x7.2.1.A, x7.2.1.n, x7.2.1.c, x7.2.1.h⟩, ⟨x7.2.2.1.A, x7.2.2.1.n, x7.2.2.1.c, x7.2.2.1.h⟩, ⟨x7.2.2.2.A, x7.2.2.2.n, x7.2.2.2.c, x7.2.2.2.h⟩, ⟨x8, ((a1_1.length : Int).toNat), ((a1_1.length : Int).toNat), List.length_replicate⟩), rfl, h.pick 11 [0, 1, 2, 3, 4] rfl⟩)
    refine d_join (σ := ((Sl v4.length) × (Sl v5.length) × (Sl v6.length) × (Sl v7.length)) × (Option Addr)) 1 #[true, true, true, true, true, true, true, true, false] (fun s => [(4, (pt x3)), (5, (pt x4)), (21, (.agg (List.toArray [(i6 (1:Int)), (.slice s.2 ((a1_1.length : Int).toNat) ((a1_1.length : Int).toNat)), (i6 (0:Int))])))]) (fun s => .row s.1.1.A s.1.1.c 3 1 (ii v4) :: .row s.1.2.1.A s.1.2.1.c 3 1 (ii v5) :: .row s.1.2.2.1.A s.1.2.2.1.c 3 1 (ii v6) :: .row s.1.2.2.2.A s.1.2.2.2.c 3 1 (ii v7) :: .row s.2 ((a1_1.length : Int).toNat) 3 1 (ii (List.replicate (a1_1.length : Int).toNat (0:Int))) :: .box x6 37 [(i6 v1), (.slice x5.A x5.n x5.c), (i6 v3)] :: .row x5.A x5.c 3 1 (ii v2) :: .box x4 37 [(i6 (0:Int)), (.slice none 0 0), (i6 (0:Int))] :: .box x3 36 [(.slice s.1.1.A s.1.1.n s.1.1.c), (.slice s.1.2.1.A s.1.2.1.n s.1.2.1.c), (.slice s.1.2.2.1.A s.1.2.2.1.n s.1.2.2.1.c), (.slice s.1.2.2.2.A s.1.2.2.2.n s.1.2.2.2.c)] :: .box x2 37 [(i6 a1_0), (.slice a1_1_A a1_1_n a1_1_c), (i6 a1_2)] :: .box x1 36 [(.slice a0_0_A a0_0_n a0_0_c), (.slice a0_1_A a0_1_n a0_1_c), (.slice a0_2_A a0_2_n a0_2_c), (.slice a0_3_A a0_3_n a0_3_c)] :: F) ?_ (fun hD255 => ?_)
    · rintro ⟨x7, x8⟩
      show J _ _ [(4, (pt x3)), (5, (pt x4)), (21, (.agg (List.toArray [(i6 (1:Int)), (.slice x8 ((a1_1.length : Int).toNat) ((a1_1.length : Int).toNat)), (i6 (0:Int))])))] _ (.row x7.1.A x7.1.c 3 1 (ii v4) :: .row x7.2.1.A x7.2.1.c 3 1 (ii v5) :: .row x7.2.2.1.A x7.2.2.1.c 3 1 (ii v6) :: .row x7.2.2.2.A x7.2.2.2.c 3 1 (ii v7) :: .row x8 ((a1_1.length : Int).toNat) 3 1 (ii (List.replicate (a1_1.length : Int).toNat (0:Int))) :: .box x6 37 [(i6 v1), (.slice x5.A x5.n x5.c), (i6 v3)] :: .row x5.A x5.c 3 1 (ii v2) :: .box x4 37 [(i6 (0:Int)), (.slice none 0 0), (i6 (0:Int))] :: .box x3 36 [(.slice x7.1.A x7.1.n x7.1.c), (.slice x7.2.1.A x7.2.1.n x7.2.1.c), (.slice x7.2.2.1.A x7.2.2.1.n x7.2.2.1.c), (.slice x7.2.2.2.A x7.2.2.2.n x7.2.2.2.c)] :: .box x2 37 [(i6 a1_0), (.slice a1_1_A a1_1_n a1_1_c), (i6 a1_2)] :: .box x1 36 [(.slice a0_0_A a0_0_n a0_0_c), (.slice a0_1_A a0_1_n a0_1_c), (.slice a0_2_A a0_2_n a0_2_c), (.slice a0_3_A a0_3_n a0_3_c)] :: F)
      refine d_one 8 (by kernel_rfl) ?_
      · refine o_do rfl (a_storeb 7 rfl sz37 rfl rfl rfl rfl (Nat.le_of_ble_eq_true rfl) rfl) rfl rfl (fun _ w h => h.pick 11 [5, 6, 9, 10] rfl) (fun _ => ?_)
        refine j_b7 [(i6 (1:Int)), (.slice x8 ((a1_1.length : Int).toNat) ((a1_1.length : Int).toNat)), (i6 (0:Int))] rfl ?_
        refine j_rs (.row x7.1.A x7.1.c 3 1 (ii v4) :: .row x7.2.1.A x7.2.1.c 3 1 (ii v5) :: .row x7.2.2.1.A x7.2.2.1.c 3 1 (ii v6) :: .row x7.2.2.2.A x7.2.2.2.c 3 1 (ii v7) :: .row x8 ((a1_1.length : Int).toNat) 3 1 (ii (List.replicate (a1_1.length : Int).toNat (0:Int))) :: .box x6 37 [(i6 v1), (.slice x5.A x5.n x5.c), (i6 v3)] :: .row x5.A x5.c 3 1 (ii v2) :: .box x4 37 [(i6 (1:Int)), (.slice x8 ((a1_1.length : Int).toNat) ((a1_1.length : Int).toNat)), (i6 (0:Int))] :: .box x3 36 [(.slice x7.1.A x7.1.n x7.1.c), (.slice x7.2.1.A x7.2.1.n x7.2.1.c), (.slice x7.2.2.1.A x7.2.2.1.n x7.2.2.1.c), (.slice x7.2.2.2.A x7.2.2.2.n x7.2.2.2.c)] :: .box x2 37 [(i6 a1_0), (.slice a1_1_A a1_1_n a1_1_c), (i6 a1_2)] :: .box x1 36 [(.slice a0_0_A a0_0_n a0_0_c), (.slice a0_1_A a0_1_n a0_1_c), (.slice a0_2_A a0_2_n a0_2_c), (.slice a0_3_A a0_3_n a0_3_c)] :: F) (fun _ h => h) ?_
        refine j_env [(4, (pt x3)), (5, (pt x4))] ⟨rfl, rfl, trivial⟩ ?_
        exact hD511 (x7, x8)
    refine d_join (σ := ((Sl v4.length) × (Sl v5.length) × (Sl v6.length) × (Sl v7.length)) × (Option Addr)) 2 #[true, true, true, true, true, true, true, false, false] (fun s => [(4, (pt x3)), (5, (pt x4)), (16, (.agg (List.toArray [(.slice s.1.1.A s.1.1.n s.1.1.c), (.slice s.1.2.1.A s.1.2.1.n s.1.2.1.c), (.slice s.1.2.2.1.A s.1.2.2.1.n s.1.2.2.1.c), (.slice s.1.2.2.2.A s.1.2.2.2.n s.1.2.2.2.c)]))), (21, (.agg (List.toArray [(i6 (1:Int)), (.slice s.2 ((a1_1.length : Int).toNat) ((a1_1.length : Int).toNat)), (i6 (0:Int))])))]) (fun s => .row s.1.1.A s.1.1.c 3 1 (ii v4) :: .row s.1.2.1.A s.1.2.1.c 3 1 (ii v5) :: .row s.1.2.2.1.A s.1.2.2.1.c 3 1 (ii v6) :: .row s.1.2.2.2.A s.1.2.2.2.c 3 1 (ii v7) :: .row s.2 ((a1_1.length : Int).toNat) 3 1 (ii (List.replicate (a1_1.length : Int).toNat (0:Int))) :: .box x6 37 [(i6 v1), (.slice x5.A x5.n x5.c), (i6 v3)] :: .row x5.A x5.c 3 1 (ii v2) :: .box x4 37 [(i6 (0:Int)), (.slice none 0 0), (i6 (0:Int))] :: .box x3 36 [(.slice none 0 0), (.slice none 0 0), (.slice none 0 0), (.slice none 0 0)] :: .box x2 37 [(i6 a1_0), (.slice a1_1_A a1_1_n a1_1_c), (i6 a1_2)] :: .box x1 36 [(.slice a0_0_A a0_0_n a0_0_c), (.slice a0_1_A a0_1_n a0_1_c), (.slice a0_2_A a0_2_n a0_2_c), (.slice a0_3_A a0_3_n a0_3_c)] :: F) ?_ (fun hD127 => ?_)
    · rintro ⟨x7, x8⟩
      show J _ _ [(4, (pt x3)), (5, (pt x4)), (16, (.agg (List.toArray [(.slice x7.1.A x7.1.n x7.1.c), (.slice x7.2.1.A x7.2.1.n x7.2.1.c), (.slice x7.2.2.1.A x7.2.2.1.n x7.2.2.1.c), (.slice x7.2.2.2.A x7.2.2.2.n x7.2.2.2.c)]))), (21, (.agg (List.toArray [(i6 (1:Int)), (.slice x8 ((a1_1.length : Int).toNat) ((a1_1.length : Int).toNat)), (i6 (0:Int))])))] _ (.row x7.1.A x7.1.c 3 1 (ii v4) :: .row x7.2.1.A x7.2.1.c 3 1 (ii v5) :: .row x7.2.2.1.A x7.2.2.1.c 3 1 (ii v6) :: .row x7.2.2.2.A x7.2.2.2.c 3 1 (ii v7) :: .row x8 ((a1_1.length : Int).toNat) 3 1 (ii (List.replicate (a1_1.length : Int).toNat (0:Int))) :: .box x6 37 [(i6 v1), (.slice x5.A x5.n x5.c), (i6 v3)] :: .row x5.A x5.c 3 1 (ii v2) :: .box x4 37 [(i6 (0:Int)), (.slice none 0 0), (i6 (0:Int))] :: .box x3 36 [(.slice none 0 0), (.slice none 0 0), (.slice none 0 0), (.slice none 0 0)] :: .box x2 37 [(i6 a1_0), (.slice a1_1_A a1_1_n a1_1_c), (i6 a1_2)] :: .box x1 36 [(.slice a0_0_A a0_0_n a0_0_c), (.slice a0_1_A a0_1_n a0_1_c), (.slice a0_2_A a0_2_n a0_2_c), (.slice a0_3_A a0_3_n a0_3_c)] :: F)
      refine d_one 7 (by kernel_rfl) ?_
      · refine o_do rfl (a_storeb 8 rfl sz36 rfl rfl rfl rfl (Nat.le_of_ble_eq_true rfl) rfl) rfl rfl (fun _ w h => h.pick 11 [5, 6, 9, 10] rfl) (fun _ => ?_)
        refine j_b8 [(.slice x7.1.A x7.1.n x7.1.c), (.slice x7.2.1.A x7.2.1.n x7.2.1.c), (.slice x7.2.2.1.A x7.2.2.1.n x7.2.2.1.c), (.slice x7.2.2.2.A x7.2.2.2.n x7.2.2.2.c)] rfl ?_
        refine j_rs (.row x7.1.A x7.1.c 3 1 (ii v4) :: .row x7.2.1.A x7.2.1.c 3 1 (ii v5) :: .row x7.2.2.1.A x7.2.2.1.c 3 1 (ii v6) :: .row x7.2.2.2.A x7.2.2.2.c 3 1 (ii v7) :: .row x8 ((a1_1.length : Int).toNat) 3 1 (ii (List.replicate (a1_1.length : Int).toNat (0:Int))) :: .box x6 37 [(i6 v1), (.slice x5.A x5.n x5.c), (i6 v3)] :: .row x5.A x5.c 3 1 (ii v2) :: .box x4 37 [(i6 (0:Int)), (.slice none 0 0), (i6 (0:Int))] :: .box x3 36 [(.slice x7.1.A x7.1.n x7.1.c), (.slice x7.2.1.A x7.2.1.n x7.2.1.c), (.slice x7.2.2.1.A x7.2.2.1.n x7.2.2.1.c), (.slice x7.2.2.2.A x7.2.2.2.n x7.2.2.2.c)] :: .box x2 37 [(i6 a1_0), (.slice a1_1_A a1_1_n a1_1_c), (i6 a1_2)] :: .box x1 36 [(.slice a0_0_A a0_0_n a0_0_c), (.slice a0_1_A a0_1_n a0_1_c), (.slice a0_2_A a0_2_n a0_2_c), (.slice a0_3_A a0_3_n a0_3_c)] :: F) (fun _ h => h) ?_
        refine j_env [(4, (pt x3)), (5, (pt x4)), (21, (.agg (List.toArray [(i6 (1:Int)), (.slice x8 ((a1_1.length : Int).toNat) ((a1_1.length : Int).toNat)), (i6 (0:Int))])))] ⟨rfl, rfl, rfl, trivial⟩ ?_
        exact hD255 (x7, x8)
    refine d_join (σ := ((Sl v4.length) × (Sl v5.length) × (Sl v6.length) × (Sl v7.length))) 3 #[true, true, true, true, true, false, false, true, false] (fun s => [(4, (pt x3)), (5, (pt x4)), (19, (i6 (a1_1.length : Int)))]) (fun s => .row s.1.A s.1.c 3 1 (ii v4) :: .row s.2.1.A s.2.1.c 3 1 (ii v5) :: .row s.2.2.1.A s.2.2.1.c 3 1 (ii v6) :: .row s.2.2.2.A s.2.2.2.c 3 1 (ii v7) :: .box x6 37 [(i6 v1), (.slice x5.A x5.n x5.c), (i6 v3)] :: .row x5.A x5.c 3 1 (ii v2) :: .box x4 37 [(i6 (0:Int)), (.slice none 0 0), (i6 (0:Int))] :: .box x3 36 [(.slice s.1.A s.1.n s.1.c), (.slice s.2.1.A s.2.1.n s.2.1.c), (.slice s.2.2.1.A s.2.2.1.n s.2.2.1.c), (.slice s.2.2.2.A s.2.2.2.n s.2.2.2.c)] :: .box x2 37 [(i6 a1_0), (.slice a1_1_A a1_1_n a1_1_c), (i6 a1_2)] :: .box x1 36 [(.slice a0_0_A a0_0_n a0_0_c), (.slice a0_1_A a0_1_n a0_1_c), (.slice a0_2_A a0_2_n a0_2_c), (.slice a0_3_A a0_3_n a0_3_c)] :: F) ?_ (fun hD159 => ?_)
    · rintro x7
      show J _ _ [(4, (pt x3)), (5, (pt x4)), (19, (i6 (a1_1.length : Int)))] _ (.row x7.1.A x7.1.c 3 1 (ii v4) :: .row x7.2.1.A x7.2.1.c 3 1 (ii v5) :: .row x7.2.2.1.A x7.2.2.1.c 3 1 (ii v6) :: .row x7.2.2.2.A x7.2.2.2.c 3 1 (ii v7) :: .box x6 37 [(i6 v1), (.slice x5.A x5.n x5.c), (i6 v3)] :: .row x5.A x5.c 3 1 (ii v2) :: .box x4 37 [(i6 (0:Int)), (.slice none 0 0), (i6 (0:Int))] :: .box x3 36 [(.slice x7.1.A x7.1.n x7.1.c), (.slice x7.2.1.A x7.2.1.n x7.2.1.c), (.slice x7.2.2.1.A x7.2.2.1.n x7.2.2.1.c), (.slice x7.2.2.2.A x7.2.2.2.n x7.2.2.2.c)] :: .box x2 37 [(i6 a1_0), (.slice a1_1_A a1_1_n a1_1_c), (i6 a1_2)] :: .box x1 36 [(.slice a0_0_A a0_0_n a0_0_c), (.slice a0_1_A a0_1_n a0_1_c), (.slice a0_2_A a0_2_n a0_2_c), (.slice a0_3_A a0_3_n a0_3_c)] :: F)
      refine d_one 5 (by kernel_rfl) ?_
      · refine o_do rfl (a_mkI un22 sz3 by3 zr3 rfl c2 rfl rfl rfl) rfl rfl (fun x8 w h => h.pick 11 [5, 6, 9, 10] rfl) (fun x8 => ?_)
        refine d_take 6 rfl (q_build (cs := [(i6 (1:Int)), (.slice x8 ((a1_1.length : Int).toNat) ((a1_1.length : Int).toNat)), (i6 (0:Int))]) zr37 pl37 rfl rfl rfl rfl) rfl rfl (by kernel_rfl) (by kernel_rfl) (by kernel_rfl) (fun w h => h.pick 11 [5, 6, 9, 10] rfl) ?_
        refine j_rs (.row x7.1.A x7.1.c 3 1 (ii v4) :: .row x7.2.1.A x7.2.1.c 3 1 (ii v5) :: .row x7.2.2.1.A x7.2.2.1.c 3 1 (ii v6) :: .row x7.2.2.2.A x7.2.2.2.c 3 1 (ii v7) :: .row x8 ((a1_1.length : Int).toNat) 3 1 (ii (List.replicate (a1_1.length : Int).toNat (0:Int))) :: .box x6 37 [(i6 v1), (.slice x5.A x5.n x5.c), (i6 v3)] :: .row x5.A x5.c 3 1 (ii v2) :: .box x4 37 [(i6 (0:Int)), (.slice none 0 0), (i6 (0:Int))] :: .box x3 36 [(.slice x7.1.A x7.1.n x7.1.c), (.slice x7.2.1.A x7.2.1.n x7.2.1.c), (.slice x7.2.2.1.A x7.2.2.1.n x7.2.2.1.c), (.slice x7.2.2.2.A x7.2.2.2.n x7.2.2.2.c)] :: .box x2 37 [(i6 a1_0), (.slice a1_1_A a1_1_n a1_1_c), (i6 a1_2)] :: .box x1 36 [(.slice a0_0_A a0_0_n a0_0_c), (.slice a0_1_A a0_1_n a0_1_c), (.slice a0_2_A a0_2_n a0_2_c), (.slice a0_3_A a0_3_n a0_3_c)] :: F) (fun _ h => h.pick 11 [1, 2, 3, 4, 0, 5, 6, 7, 8, 9, 10] rfl) ?_
        refine j_env [(4, (pt x3)), (5, (pt x4)), (21, (.agg (List.toArray [(i6 (1:Int)), (.slice x8 ((a1_1.length : Int).toNat) ((a1_1.length : Int).toNat)), (i6 (0:Int))])))] ⟨rfl, rfl, rfl, trivial⟩ ?_
        exact hD255 (x7, x8)
    refine d_join (σ := (Option Addr)) 3 #[true, false, true, true, true, true, true, false, false] (fun s => [(4, (pt x3)), (5, (pt x4)), (15, (.agg (List.toArray [(.slice a0_0_A a0_0_n a0_0_c), (.slice a0_1_A a0_1_n a0_1_c), (.slice a0_2_A a0_2_n a0_2_c), (.slice a0_3_A a0_3_n a0_3_c)]))), (21, (.agg (List.toArray [(i6 (1:Int)), (.slice s ((a1_1.length : Int).toNat) ((a1_1.length : Int).toNat)), (i6 (0:Int))])))]) (fun s => .row s ((a1_1.length : Int).toNat) 3 1 (ii (List.replicate (a1_1.length : Int).toNat (0:Int))) :: .box x6 37 [(i6 v1), (.slice x5.A x5.n x5.c), (i6 v3)] :: .row x5.A x5.c 3 1 (ii v2) :: .box x4 37 [(i6 (0:Int)), (.slice none 0 0), (i6 (0:Int))] :: .box x3 36 [(.slice none 0 0), (.slice none 0 0), (.slice none 0 0), (.slice none 0 0)] :: .box x2 37 [(i6 a1_0), (.slice a1_1_A a1_1_n a1_1_c), (i6 a1_2)] :: .box x1 36 [(.slice a0_0_A a0_0_n a0_0_c), (.slice a0_1_A a0_1_n a0_1_c), (.slice a0_2_A a0_2_n a0_2_c), (.slice a0_3_A a0_3_n a0_3_c)] :: F) ?_ (fun hD125 => ?_)
    · rintro x8
      show J _ _ [(4, (pt x3)), (5, (pt x4)), (15, (.agg (List.toArray [(.slice a0_0_A a0_0_n a0_0_c), (.slice a0_1_A a0_1_n a0_1_c), (.slice a0_2_A a0_2_n a0_2_c), (.slice a0_3_A a0_3_n a0_3_c)]))), (21, (.agg (List.toArray [(i6 (1:Int)), (.slice x8 ((a1_1.length : Int).toNat) ((a1_1.length : Int).toNat)), (i6 (0:Int))])))] _ (.row x8 ((a1_1.length : Int).toNat) 3 1 (ii (List.replicate (a1_1.length : Int).toNat (0:Int))) :: .box x6 37 [(i6 v1), (.slice x5.A x5.n x5.c), (i6 v3)] :: .row x5.A x5.c 3 1 (ii v2) :: .box x4 37 [(i6 (0:Int)), (.slice none 0 0), (i6 (0:Int))] :: .box x3 36 [(.slice none 0 0), (.slice none 0 0), (.slice none 0 0), (.slice none 0 0)] :: .box x2 37 [(i6 a1_0), (.slice a1_1_A a1_1_n a1_1_c), (i6 a1_2)] :: .box x1 36 [(.slice a0_0_A a0_0_n a0_0_c), (.slice a0_1_A a0_1_n a0_1_c), (.slice a0_2_A a0_2_n a0_2_c), (.slice a0_3_A a0_3_n a0_3_c)] :: F)
      refine d_one 1 (by kernel_rfl) ?_
      · refine o_do rfl (a_call ok52 rfl rfl rfl rfl (fun w hm => spec_l4Copy.calls K a0_0 a0_0_A a0_0_n a0_0_c a0_1 a0_1_A a0_1_n a0_1_c a0_2 a0_2_A a0_2_n a0_2_c a0_3 a0_3_A a0_3_n a0_3_c hm a0_0_h (Rd.drop 7 a0_0_R) a0_1_h (Rd.drop 7 a0_1_R) a0_2_h (Rd.drop 7 a0_2_R) a0_3_h (Rd.drop 7 a0_3_R) hb2)) rfl rfl (fun x7 w h => h.pick 11 [5, 6, 9, 10] rfl) (fun x7 => ?_)
        refine j_rs (.row x7.1.A x7.1.c 3 1 (ii v4) :: .row x7.2.1.A x7.2.1.c 3 1 (ii v5) :: .row x7.2.2.1.A x7.2.2.1.c 3 1 (ii v6) :: .row x7.2.2.2.A x7.2.2.2.c 3 1 (ii v7) :: .row x8 ((a1_1.length : Int).toNat) 3 1 (ii (List.replicate (a1_1.length : Int).toNat (0:Int))) :: .box x6 37 [(i6 v1), (.slice x5.A x5.n x5.c), (i6 v3)] :: .row x5.A x5.c 3 1 (ii v2) :: .box x4 37 [(i6 (0:Int)), (.slice none 0 0), (i6 (0:Int))] :: .box x3 36 [(.slice none 0 0), (.slice none 0 0), (.slice none 0 0), (.slice none 0 0)] :: .box x2 37 [(i6 a1_0), (.slice a1_1_A a1_1_n a1_1_c), (i6 a1_2)] :: .box x1 36 [(.slice a0_0_A a0_0_n a0_0_c), (.slice a0_1_A a0_1_n a0_1_c), (.slice a0_2_A a0_2_n a0_2_c), (.slice a0_3_A a0_3_n a0_3_c)] :: F) (fun _ h => h) ?_
        refine j_env [(4, (pt x3)), (5, (pt x4)), (16, (.agg (List.toArray [(.slice x7.1.A x7.1.n x7.1.c), (.slice x7.2.1.A x7.2.1.n x7.2.1.c), (.slice x7.2.2.1.A x7.2.2.1.n x7.2.2.1.c), (.slice x7.2.2.2.A x7.2.2.2.n x7.2.2.2.c)]))), (21, (.agg (List.toArray [(i6 (1:Int)), (.slice x8 ((a1_1.length : Int).toNat) ((a1_1.length : Int).toNat)), (i6 (0:Int))])))] ⟨rfl, rfl, rfl, rfl, trivial⟩ ?_
        exact hD127 (x7, x8)
    refine d_join (σ := ((Sl v4.length) × (Sl v5.length) × (Sl v6.length) × (Sl v7.length))) 4 #[true, true, true, true, true, false, false, false, false] (fun s => [(4, (pt x3)), (5, (pt x4)), (16, (.agg (List.toArray [(.slice s.1.A s.1.n s.1.c), (.slice s.2.1.A s.2.1.n s.2.1.c), (.slice s.2.2.1.A s.2.2.1.n s.2.2.1.c), (.slice s.2.2.2.A s.2.2.2.n s.2.2.2.c)]))), (19, (i6 (a1_1.length : Int)))]) (fun s => .row s.1.A s.1.c 3 1 (ii v4) :: .row s.2.1.A s.2.1.c 3 1 (ii v5) :: .row s.2.2.1.A s.2.2.1.c 3 1 (ii v6) :: .row s.2.2.2.A s.2.2.2.c 3 1 (ii v7) :: .box x6 37 [(i6 v1), (.slice x5.A x5.n x5.c), (i6 v3)] :: .row x5.A x5.c 3 1 (ii v2) :: .box x4 37 [(i6 (0:Int)), (.slice none 0 0), (i6 (0:Int))] :: .box x3 36 [(.slice none 0 0), (.slice none 0 0), (.slice none 0 0), (.slice none 0 0)] :: .box x2 37 [(i6 a1_0), (.slice a1_1_A a1_1_n a1_1_c), (i6 a1_2)] :: .box x1 36 [(.slice a0_0_A a0_0_n a0_0_c), (.slice a0_1_A a0_1_n a0_1_c), (.slice a0_2_A a0_2_n a0_2_c), (.slice a0_3_A a0_3_n a0_3_c)] :: F) ?_ (fun hD31 => ?_)
    · rintro x7
      show J _ _ [(4, (pt x3)), (5, (pt x4)), (16, (.agg (List.toArray [(.slice x7.1.A x7.1.n x7.1.c), (.slice x7.2.1.A x7.2.1.n x7.2.1.c), (.slice x7.2.2.1.A x7.2.2.1.n x7.2.2.1.c), (.slice x7.2.2.2.A x7.2.2.2.n x7.2.2.2.c)]))), (19, (i6 (a1_1.length : Int)))] _ (.row x7.1.A x7.1.c 3 1 (ii v4) :: .row x7.2.1.A x7.2.1.c 3 1 (ii v5) :: .row x7.2.2.1.A x7.2.2.1.c 3 1 (ii v6) :: .row x7.2.2.2.A x7.2.2.2.c 3 1 (ii v7) :: .box x6 37 [(i6 v1), (.slice x5.A x5.n x5.c), (i6 v3)] :: .row x5.A x5.c 3 1 (ii v2) :: .box x4 37 [(i6 (0:Int)), (.slice none 0 0), (i6 (0:Int))] :: .box x3 36 [(.slice none 0 0), (.slice none 0 0), (.slice none 0 0), (.slice none 0 0)] :: .box x2 37 [(i6 a1_0), (.slice a1_1_A a1_1_n a1_1_c), (i6 a1_2)] :: .box x1 36 [(.slice a0_0_A a0_0_n a0_0_c), (.slice a0_1_A a0_1_n a0_1_c), (.slice a0_2_A a0_2_n a0_2_c), (.slice a0_3_A a0_3_n a0_3_c)] :: F)
      refine d_two 5 7 (by kernel_rfl) ?_ ?_
      · refine o_do rfl (a_mkI un22 sz3 by3 zr3 rfl c2 rfl rfl rfl) rfl rfl (fun x8 w h => h.pick 11 [5, 6, 9, 10] rfl) (fun x8 => ?_)
        refine d_take 6 rfl (q_build (cs := [(i6 (1:Int)), (.slice x8 ((a1_1.length : Int).toNat) ((a1_1.length : Int).toNat)), (i6 (0:Int))]) zr37 pl37 rfl rfl rfl rfl) rfl rfl (by kernel_rfl) (by kernel_rfl) (by kernel_rfl) (fun w h => h.pick 11 [5, 6, 9, 10] rfl) ?_
        refine j_rs (.row x7.1.A x7.1.c 3 1 (ii v4) :: .row x7.2.1.A x7.2.1.c 3 1 (ii v5) :: .row x7.2.2.1.A x7.2.2.1.c 3 1 (ii v6) :: .row x7.2.2.2.A x7.2.2.2.c 3 1 (ii v7) :: .row x8 ((a1_1.length : Int).toNat) 3 1 (ii (List.replicate (a1_1.length : Int).toNat (0:Int))) :: .box x6 37 [(i6 v1), (.slice x5.A x5.n x5.c), (i6 v3)] :: .row x5.A x5.c 3 1 (ii v2) :: .box x4 37 [(i6 (0:Int)), (.slice none 0 0), (i6 (0:Int))] :: .box x3 36 [(.slice none 0 0), (.slice none 0 0), (.slice none 0 0), (.slice none 0 0)] :: .box x2 37 [(i6 a1_0), (.slice a1_1_A a1_1_n a1_1_c), (i6 a1_2)] :: .box x1 36 [(.slice a0_0_A a0_0_n a0_0_c), (.slice a0_1_A a0_1_n a0_1_c), (.slice a0_2_A a0_2_n a0_2_c), (.slice a0_3_A a0_3_n a0_3_c)] :: F) (fun _ h => h.pick 11 [1, 2, 3, 4, 0, 5, 6, 7, 8, 9, 10] rfl) ?_
        refine j_env [(4, (pt x3)), (5, (pt x4)), (16, (.agg (List.toArray [(.slice x7.1.A x7.1.n x7.1.c), (.slice x7.2.1.A x7.2.1.n x7.2.1.c), (.slice x7.2.2.1.A x7.2.2.1.n x7.2.2.1.c), (.slice x7.2.2.2.A x7.2.2.2.n x7.2.2.2.c)]))), (21, (.agg (List.toArray [(i6 (1:Int)), (.slice x8 ((a1_1.length : Int).toNat) ((a1_1.length : Int).toNat)), (i6 (0:Int))])))] ⟨rfl, rfl, rfl, rfl, trivial⟩ ?_
        exact hD127 (x7, x8)
      · refine o_do rfl (a_storeb 7 rfl sz36 rfl rfl rfl rfl (Nat.le_of_ble_eq_true rfl) rfl) rfl rfl (fun _ w h => h.pick 10 [4, 5, 8, 9] rfl) (fun _ => ?_)
        refine j_b7 [(.slice x7.1.A x7.1.n x7.1.c), (.slice x7.2.1.A x7.2.1.n x7.2.1.c), (.slice x7.2.2.1.A x7.2.2.1.n x7.2.2.1.c), (.slice x7.2.2.2.A x7.2.2.2.n x7.2.2.2.c)] rfl ?_
        refine j_rs (.row x7.1.A x7.1.c 3 1 (ii v4) :: .row x7.2.1.A x7.2.1.c 3 1 (ii v5) :: .row x7.2.2.1.A x7.2.2.1.c 3 1 (ii v6) :: .row x7.2.2.2.A x7.2.2.2.c 3 1 (ii v7) :: .box x6 37 [(i6 v1), (.slice x5.A x5.n x5.c), (i6 v3)] :: .row x5.A x5.c 3 1 (ii v2) :: .box x4 37 [(i6 (0:Int)), (.slice none 0 0), (i6 (0:Int))] :: .box x3 36 [(.slice x7.1.A x7.1.n x7.1.c), (.slice x7.2.1.A x7.2.1.n x7.2.1.c), (.slice x7.2.2.1.A x7.2.2.1.n x7.2.2.1.c), (.slice x7.2.2.2.A x7.2.2.2.n x7.2.2.2.c)] :: .box x2 37 [(i6 a1_0), (.slice a1_1_A a1_1_n a1_1_c), (i6 a1_2)] :: .box x1 36 [(.slice a0_0_A a0_0_n a0_0_c), (.slice a0_1_A a0_1_n a0_1_c), (.slice a0_2_A a0_2_n a0_2_c), (.slice a0_3_A a0_3_n a0_3_c)] :: F) (fun _ h => h) ?_
        refine j_env [(4, (pt x3)), (5, (pt x4)), (19, (i6 (a1_1.length : Int)))] ⟨rfl, rfl, rfl, trivial⟩ ?_
        exact hD159 x7
    refine d_two 1 5 (by kernel_rfl) ?_ ?_
    · refine o_do rfl (a_call ok52 rfl rfl rfl rfl (fun w hm => spec_l4Copy.calls K a0_0 a0_0_A a0_0_n a0_0_c a0_1 a0_1_A a0_1_n a0_1_c a0_2 a0_2_A a0_2_n a0_2_c a0_3 a0_3_A a0_3_n a0_3_c hm a0_0_h (Rd.drop 6 a0_0_R) a0_1_h (Rd.drop 6 a0_1_R) a0_2_h (Rd.drop 6 a0_2_R) a0_3_h (Rd.drop 6 a0_3_R) hb2)) rfl rfl (fun x7 w h => h.pick 10 [4, 5, 8, 9] rfl) (fun x7 => ?_)
      refine j_rs (.row x7.1.A x7.1.c 3 1 (ii v4) :: .row x7.2.1.A x7.2.1.c 3 1 (ii v5) :: .row x7.2.2.1.A x7.2.2.1.c 3 1 (ii v6) :: .row x7.2.2.2.A x7.2.2.2.c 3 1 (ii v7) :: .box x6 37 [(i6 v1), (.slice x5.A x5.n x5.c), (i6 v3)] :: .row x5.A x5.c 3 1 (ii v2) :: .box x4 37 [(i6 (0:Int)), (.slice none 0 0), (i6 (0:Int))] :: .box x3 36 [(.slice none 0 0), (.slice none 0 0), (.slice none 0 0), (.slice none 0 0)] :: .box x2 37 [(i6 a1_0), (.slice a1_1_A a1_1_n a1_1_c), (i6 a1_2)] :: .box x1 36 [(.slice a0_0_A a0_0_n a0_0_c), (.slice a0_1_A a0_1_n a0_1_c), (.slice a0_2_A a0_2_n a0_2_c), (.slice a0_3_A a0_3_n a0_3_c)] :: F) (fun _ h => h) ?_
      refine j_env [(4, (pt x3)), (5, (pt x4)), (16, (.agg (List.toArray [(.slice x7.1.A x7.1.n x7.1.c), (.slice x7.2.1.A x7.2.1.n x7.2.1.c), (.slice x7.2.2.1.A x7.2.2.1.n x7.2.2.1.c), (.slice x7.2.2.2.A x7.2.2.2.n x7.2.2.2.c)]))), (19, (i6 (a1_1.length : Int)))] ⟨rfl, rfl, rfl, rfl, trivial⟩ ?_
      exact hD31 x7
    · refine o_do rfl (a_mkI un22 sz3 by3 zr3 rfl c2 rfl rfl rfl) rfl rfl (fun x8 w h => h.pick 7 [1, 2, 5, 6] rfl) (fun x8 => ?_)
      refine d_take 6 rfl (q_build (cs := [(i6 (1:Int)), (.slice x8 ((a1_1.length : Int).toNat) ((a1_1.length : Int).toNat)), (i6 (0:Int))]) zr37 pl37 rfl rfl rfl rfl) rfl rfl (by kernel_rfl) (by kernel_rfl) (by kernel_rfl) (fun w h => h.pick 7 [1, 2, 5, 6] rfl) ?_
      refine j_rs (.row x8 ((a1_1.length : Int).toNat) 3 1 (ii (List.replicate (a1_1.length : Int).toNat (0:Int))) :: .box x6 37 [(i6 v1), (.slice x5.A x5.n x5.c), (i6 v3)] :: .row x5.A x5.c 3 1 (ii v2) :: .box x4 37 [(i6 (0:Int)), (.slice none 0 0), (i6 (0:Int))] :: .box x3 36 [(.slice none 0 0), (.slice none 0 0), (.slice none 0 0), (.slice none 0 0)] :: .box x2 37 [(i6 a1_0), (.slice a1_1_A a1_1_n a1_1_c), (i6 a1_2)] :: .box x1 36 [(.slice a0_0_A a0_0_n a0_0_c), (.slice a0_1_A a0_1_n a0_1_c), (.slice a0_2_A a0_2_n a0_2_c), (.slice a0_3_A a0_3_n a0_3_c)] :: F) (fun _ h => h) ?_
      refine j_env [(4, (pt x3)), (5, (pt x4)), (15, (.agg (List.toArray [(.slice a0_0_A a0_0_n a0_0_c), (.slice a0_1_A a0_1_n a0_1_c), (.slice a0_2_A a0_2_n a0_2_c), (.slice a0_3_A a0_3_n a0_3_c)]))), (21, (.agg (List.toArray [(i6 (1:Int)), (.slice x8 ((a1_1.length : Int).toNat) ((a1_1.length : Int).toNat)), (i6 (0:Int))])))] ⟨rfl, rfl, rfl, rfl, trivial⟩ ?_
      exact hD125 x8
  · refine j_false rfl (beq_f c1) ?_
    refine j_seq ?_
    refine j_region ?_
    refine r_q (q_eql rfl rfl rfl) rfl rfl ?_
    refine r_q (q_assign rfl rfl) rfl rfl ?_
    refine r_nil ?_
    refine j_then ?_
    rcases of_if h with ⟨c3, h⟩ | ⟨c3, h⟩
    · refine j_true rfl (beq_t c3) ?_
      refine j_seq ?_
      obtain ⟨c4, h⟩ := of_guard h
      obtain ⟨v8, hb3, h⟩ := of_b1 h
      refine j_draw (.box x4 37 [(i6 (0:Int)), (.slice none 0 0), (i6 (0:Int))] :: .box x3 36 [(.slice none 0 0), (.slice none 0 0), (.slice none 0 0), (.slice none 0 0)] :: .box x2 37 [(i6 a1_0), (.slice a1_1_A a1_1_n a1_1_c), (i6 a1_2)] :: .box x1 36 [(.slice a0_0_A a0_0_n a0_0_c), (.slice a0_1_A a0_1_n a0_1_c), (.slice a0_2_A a0_2_n a0_2_c), (.slice a0_3_A a0_3_n a0_3_c)] :: F) 12 follows_any rfl ?_
      refine d_take 0 rfl (q_fieldAddr fi37_1 sz22 rfl rfl rfl) rfl rfl (by kernel_rfl) (by kernel_rfl) (by kernel_rfl) (fun w h => (h.drop 2)) ?_
      refine d_take 2 rfl (q_fieldAddr fi36_0 sz34 rfl rfl rfl) rfl rfl (by kernel_rfl) (by kernel_rfl) (by kernel_rfl) (fun w h => (h.drop 2)) ?_
      refine d_take 3 rfl (q_fieldAddr fi34_2 sz22 rfl rfl rfl) rfl rfl (by kernel_rfl) (by kernel_rfl) (by kernel_rfl) (fun w h => (h.drop 2)) ?_
      refine d_take 4 rfl (q_loadb 3 rfl ag22 rfl rfl rfl) rfl rfl (by kernel_rfl) (by kernel_rfl) (by kernel_rfl) (fun w h => (h.drop 2)) ?_
      refine d_take 5 rfl (q_fieldAddr fi37_2 sz3 rfl rfl rfl) rfl rfl (by kernel_rfl) (by kernel_rfl) (by kernel_rfl) (fun w h => (h.drop 2)) ?_
      refine d_take 6 rfl (q_loadb 2 rfl ag3 rfl rfl rfl) rfl rfl (by kernel_rfl) (by kernel_rfl) (by kernel_rfl) (fun w h => (h.drop 2)) ?_
      refine d_take 7 rfl (q_ix (Rd.drop 4 a0_2_R) (ints_len1 _ a0_2) (by decide) a0_2_h c4 un22 sz3 rfl rfl rfl) rfl rfl (by kernel_rfl) (by kernel_rfl) (by kernel_rfl) (fun w h => (h.drop 2)) ?_
      refine d_take 8 rfl (q_ldI (Rd.drop 4 a0_2_R) c4 ag3 rfl rfl) rfl rfl (by kernel_rfl) (by kernel_rfl) (by kernel_rfl) (fun w h => (h.drop 2)) ?_
      refine d_one 1 (by kernel_rfl) ?_
      refine o_do rfl ((q_loadb 0 rfl ag22 rfl rfl rfl)).acts rfl rfl (fun _ w h => (h.drop 2)) (fun _ => ?_)
      refine d_one 9 (by kernel_rfl) ?_
      refine j_rs (.row x5.A x5.c 3 1 (ii v2) :: .box x6 37 [(i6 v1), (.slice x5.A x5.n x5.c), (i6 v3)] :: .box x4 37 [(i6 (0:Int)), (.slice none 0 0), (i6 (0:Int))] :: .box x3 36 [(.slice none 0 0), (.slice none 0 0), (.slice none 0 0), (.slice none 0 0)] :: .box x2 37 [(i6 a1_0), (.slice a1_1_A a1_1_n a1_1_c), (i6 a1_2)] :: .box x1 36 [(.slice a0_0_A a0_0_n a0_0_c), (.slice a0_1_A a0_1_n a0_1_c), (.slice a0_2_A a0_2_n a0_2_c), (.slice a0_3_A a0_3_n a0_3_c)] :: F) (fun _ h => h.pick 6 [1, 0, 2, 3, 4, 5] rfl) ?_
      refine o_do rfl (a_call ok89 rfl rfl rfl rfl (fun w hm => spec_l3Shade.calls K v2 x5.A x5.n x5.c (rd a0_2 a1_2) hm x5.h hb3)) rfl rfl (fun x9 w h => (h.drop 2)) (fun x9 => ?_)
      refine d_take 10 rfl (q_fieldAddr fi37_1 sz22 rfl rfl rfl) rfl rfl (by kernel_rfl) (by kernel_rfl) (by kernel_rfl) (fun w h => (h.drop 2)) ?_
      refine d_one 11 (by kernel_rfl) ?_
      refine o_do rfl (a_storeb 1 rfl sz22 rfl rfl rfl rfl (Nat.le_of_ble_eq_true rfl) rfl) rfl rfl (fun _ w h => (h.drop 2)) (fun _ => ?_)
      refine j_b1 [(i6 v1), (.slice x5.A x5.n x5.c), (i6 v3)] rfl ?_
      refine d_done (by kernel_rfl) ?_
      refine j_then ?_
      refine j_seq ?_
      obtain ⟨v9, v10, v11, v12, hb4, h⟩ := of_b4 h
      obtain ⟨v13, v14, hb5, h⟩ := of_b2 h
      refine j_draw (.row x5.A x5.c 3 1 (ii v8) :: .box x6 37 [(i6 v1), (.slice x5.A x5.n x5.c), (i6 v3)] :: .box x2 37 [(i6 a1_0), (.slice a1_1_A a1_1_n a1_1_c), (i6 a1_2)] :: .box x1 36 [(.slice a0_0_A a0_0_n a0_0_c), (.slice a0_1_A a0_1_n a0_1_c), (.slice a0_2_A a0_2_n a0_2_c), (.slice a0_3_A a0_3_n a0_3_c)] :: F) 10 follows_any rfl ?_
      refine d_take 0 rfl (q_loadb_agg 3 rfl ag36 sz36 rfl rfl rfl rfl) rfl rfl (by kernel_rfl) (by kernel_rfl) (by kernel_rfl) (fun w h => h.pick 6 [0, 1, 4, 5] rfl) ?_
      refine d_take 2 rfl (q_loadb_agg 1 rfl ag37 sz37 rfl rfl rfl rfl) rfl rfl (by kernel_rfl) (by kernel_rfl) (by kernel_rfl) (fun w h => h.pick 6 [0, 1, 4, 5] rfl) ?_
      refine d_take 3 rfl (q_fieldAddr fi36_0 sz34 rfl rfl rfl) rfl rfl (by kernel_rfl) (by kernel_rfl) (by kernel_rfl) (fun w h => h.pick 6 [0, 1, 4, 5] rfl) ?_
      refine d_take 4 rfl (q_fieldAddr fi34_2 sz22 rfl rfl rfl) rfl rfl (by kernel_rfl) (by kernel_rfl) (by kernel_rfl) (fun w h => h.pick 6 [0, 1, 4, 5] rfl) ?_
      refine d_take 5 rfl (q_loadb 3 rfl ag22 rfl rfl rfl) rfl rfl (by kernel_rfl) (by kernel_rfl) (by kernel_rfl) (fun w h => h.pick 6 [0, 1, 4, 5] rfl) ?_
      refine d_take 6 rfl (q_lenX a0_2 a0_2_h un22 rfl rfl rfl rfl rfl) rfl rfl (by kernel_rfl) (by kernel_rfl) (by kernel_rfl) (fun w h => h.pick 6 [0, 1, 4, 5] rfl) ?_
      refine d_one 1 (by kernel_rfl) ?_
      refine o_do rfl (a_call ok52 rfl rfl rfl rfl (fun w hm => spec_l4Copy.calls K a0_0 a0_0_A a0_0_n a0_0_c a0_1 a0_1_A a0_1_n a0_1_c a0_2 a0_2_A a0_2_n a0_2_c a0_3 a0_3_A a0_3_n a0_3_c hm a0_0_h (Rd.drop 6 a0_0_R) a0_1_h (Rd.drop 6 a0_1_R) a0_2_h (Rd.drop 6 a0_2_R) a0_3_h (Rd.drop 6 a0_3_R) hb4)) rfl rfl (fun x10 w h => h.pick 10 [4, 5, 8, 9] rfl) (fun x10 => ?_)
      refine d_one 7 (by kernel_rfl) ?_
      refine o_do rfl (a_call ok90 rfl rfl rfl rfl (fun w hm => spec_l6Next.calls K v1 x5.A x5.n x5.c v3 (a0_2.length : Int) (2:Int) hm hb5)) rfl rfl (fun x11 w h => h.pick 10 [4, 5, 8, 9] rfl) (fun x11 => ?_)
      refine d_one 8 (by kernel_rfl) ?_
      refine o_do rfl (a_storeb 7 rfl sz36 rfl rfl rfl rfl (Nat.le_of_ble_eq_true rfl) rfl) rfl rfl (fun _ w h => h.pick 10 [4, 5, 8, 9] rfl) (fun _ => ?_)
      refine j_b7 [(.slice x10.1.A x10.1.n x10.1.c), (.slice x10.2.1.A x10.2.1.n x10.2.1.c), (.slice x10.2.2.1.A x10.2.2.1.n x10.2.2.1.c), (.slice x10.2.2.2.A x10.2.2.2.n x10.2.2.2.c)] rfl ?_
      refine d_one 9 (by kernel_rfl) ?_
      refine o_do rfl (a_storeb 6 rfl sz37 rfl rfl rfl rfl (Nat.le_of_ble_eq_true rfl) rfl) rfl rfl (fun _ w h => h.pick 10 [4, 5, 8, 9] rfl) (fun _ => ?_)
      refine j_b6 [(i6 v13), (.slice x5.A x5.n x5.c), (i6 v14)] rfl ?_
      refine d_done (by kernel_rfl) ?_
      refine j_then ?_
      refine j_ret ?_
      refine j_in_ret ?_
      refine j_then_ret ?_
      cases h
      exact j_return rfl (ResOf.cell 7 rfl rfl ag36 sz36 (ResOf.cell 6 rfl rfl ag37 sz37 ResOf.nil)) rfl (fun w h => ⟨(⟨x10.1.A, x10.1.n, x10.1.c, x10.1.h⟩, ⟨x10.2.1.A, x10.2.1.n, x10.2.1.c, x10.2.1.h⟩, ⟨x10.2.2.1.A, x10.2.2.1.n, x10.2.2.1.c, x10.2.2.1.h⟩, ⟨x10.2.2.2.A, x10.2.2.2.n, x10.2.2.2.c, x10.2.2.2.h⟩, ⟨x5.A, x5.n, x5.c, (x9.h.trans x5.h)⟩), rfl, h.pick 10 [0, 1, 2, 3, 4] rfl⟩)
    · refine j_false rfl (beq_f c3) ?_
      refine j_seq ?_
      refine j_region ?_
      refine r_q (q_eql rfl rfl rfl) rfl rfl ?_
      refine r_q (q_assign rfl rfl) rfl rfl ?_
      refine r_nil ?_
      refine j_then ?_
      rcases of_if h with ⟨c5, h⟩ | ⟨c5, h⟩
      · refine j_true rfl (beq_t c5) ?_
        refine j_seq ?_
        obtain ⟨v15, v16, v17, v18, hb6, h⟩ := of_b4 h
        obtain ⟨v19, v20, v21, hb7, h⟩ := of_b3 h
        refine j_draw (.box x6 37 [(i6 v1), (.slice x5.A x5.n x5.c), (i6 v3)] :: .box x2 37 [(i6 a1_0), (.slice a1_1_A a1_1_n a1_1_c), (i6 a1_2)] :: .box x1 36 [(.slice a0_0_A a0_0_n a0_0_c), (.slice a0_1_A a0_1_n a0_1_c), (.slice a0_2_A a0_2_n a0_2_c), (.slice a0_3_A a0_3_n a0_3_c)] :: F) 7 follows_any rfl ?_
        refine d_take 0 rfl (q_loadb_agg 2 rfl ag36 sz36 rfl rfl rfl rfl) rfl rfl (by kernel_rfl) (by kernel_rfl) (by kernel_rfl) (fun w h => h.pick 6 [0, 4, 5] rfl) ?_
        refine d_take 2 rfl (q_loadb_agg 2 rfl ag36 sz36 rfl rfl rfl rfl) rfl rfl (by kernel_rfl) (by kernel_rfl) (by kernel_rfl) (fun w h => h.pick 6 [0, 4, 5] rfl) ?_
        refine d_take 3 rfl (q_loadb_agg 0 rfl ag37 sz37 rfl rfl rfl rfl) rfl rfl (by kernel_rfl) (by kernel_rfl) (by kernel_rfl) (fun w h => h.pick 6 [0, 4, 5] rfl) ?_
        refine d_one 1 (by kernel_rfl) ?_
        refine o_do rfl (a_call ok52 rfl rfl rfl rfl (fun w hm => spec_l4Copy.calls K a0_0 a0_0_A a0_0_n a0_0_c a0_1 a0_1_A a0_1_n a0_1_c a0_2 a0_2_A a0_2_n a0_2_c a0_3 a0_3_A a0_3_n a0_3_c hm a0_0_h (Rd.drop 6 a0_0_R) a0_1_h (Rd.drop 6 a0_1_R) a0_2_h (Rd.drop 6 a0_2_R) a0_3_h (Rd.drop 6 a0_3_R) hb6)) rfl rfl (fun x12 w h => h.pick 10 [4, 8, 9] rfl) (fun x12 => ?_)
        refine d_one 4 (by kernel_rfl) ?_
        refine j_rs (.row x5.A x5.c 3 1 (ii v2) :: .row x12.1.A x12.1.c 3 1 (ii v15) :: .row x12.2.1.A x12.2.1.c 3 1 (ii v16) :: .row x12.2.2.1.A x12.2.2.1.c 3 1 (ii v17) :: .row x12.2.2.2.A x12.2.2.2.c 3 1 (ii v18) :: .box x6 37 [(i6 v1), (.slice x5.A x5.n x5.c), (i6 v3)] :: .box x4 37 [(i6 (0:Int)), (.slice none 0 0), (i6 (0:Int))] :: .box x3 36 [(.slice none 0 0), (.slice none 0 0), (.slice none 0 0), (.slice none 0 0)] :: .box x2 37 [(i6 a1_0), (.slice a1_1_A a1_1_n a1_1_c), (i6 a1_2)] :: .box x1 36 [(.slice a0_0_A a0_0_n a0_0_c), (.slice a0_1_A a0_1_n a0_1_c), (.slice a0_2_A a0_2_n a0_2_c), (.slice a0_3_A a0_3_n a0_3_c)] :: F) (fun _ h => h.pick 10 [5, 0, 1, 2, 3, 4, 6, 7, 8, 9] rfl) ?_
        refine o_do rfl (a_call ok91 rfl rfl rfl rfl (fun w hm => spec_l6Mark.calls K a0_0 a0_0_A a0_0_n a0_0_c a0_1 a0_1_A a0_1_n a0_1_c a0_2 a0_2_A a0_2_n a0_2_c a0_3_A a0_3_n a0_3_c v1 v2 x5.A x5.n x5.c v3 hm a0_0_h (Rd.drop 9 a0_0_R) a0_1_h (Rd.drop 9 a0_1_R) a0_2_h (Rd.drop 9 a0_2_R) x5.h hb7)) rfl rfl (fun x13 w h => h.pick 10 [5, 8, 9] rfl) (fun x13 => ?_)
        refine d_one 5 (by kernel_rfl) ?_
        refine o_do rfl (a_storeb 7 rfl sz36 rfl rfl rfl rfl (Nat.le_of_ble_eq_true rfl) rfl) rfl rfl (fun _ w h => h.pick 10 [5, 8, 9] rfl) (fun _ => ?_)
        refine j_b7 [(.slice x12.1.A x12.1.n x12.1.c), (.slice x12.2.1.A x12.2.1.n x12.2.1.c), (.slice x12.2.2.1.A x12.2.2.1.n x12.2.2.1.c), (.slice x12.2.2.2.A x12.2.2.2.n x12.2.2.2.c)] rfl ?_
        refine d_one 6 (by kernel_rfl) ?_
        refine o_do rfl (a_storeb 6 rfl sz37 rfl rfl rfl rfl (Nat.le_of_ble_eq_true rfl) rfl) rfl rfl (fun _ w h => h.pick 10 [5, 8, 9] rfl) (fun _ => ?_)
        refine j_b6 [(i6 v19), (.slice x5.A x5.n x5.c), (i6 v20)] rfl ?_
        refine d_done (by kernel_rfl) ?_
        refine j_then ?_
        refine j_ret ?_
        refine j_in_ret ?_
        refine j_then_ret ?_
        cases h
        exact j_return rfl (ResOf.cell 7 rfl rfl ag36 sz36 (ResOf.cell 6 rfl rfl ag37 sz37 ResOf.nil)) rfl (fun w h => ⟨(⟨x12.1.A, x12.1.n, x12.1.c, x12.1.h⟩, ⟨x12.2.1.A, x12.2.1.n, x12.2.1.c, x12.2.1.h⟩, ⟨x12.2.2.1.A, x12.2.2.1.n, x12.2.2.1.c, x12.2.2.1.h⟩, ⟨x12.2.2.2.A, x12.2.2.2.n, x12.2.2.2.c, x12.2.2.2.h⟩, ⟨x5.A, x5.n, x5.c, (x13.h.trans x5.h)⟩), rfl, h.pick 10 [1, 2, 3, 4, 0] rfl⟩)
      · refine j_false rfl (beq_f c5) ?_
        refine j_skip ?_
        refine j_in ?_
        refine j_then ?_
        refine j_seq ?_
        refine j_region ?_
        refine r_q (q_loadb_agg 5 rfl ag36 sz36 rfl rfl rfl rfl) rfl rfl ?_
        refine r_q (q_loadb_agg 4 rfl ag37 sz37 rfl rfl rfl rfl) rfl rfl ?_
        obtain ⟨v22, hb8, h⟩ := of_b1 h
        refine r_do (a_call ok57 rfl rfl rfl rfl (fun w hm => spec_l6Swept.calls K a0_0_A a0_0_n a0_0_c a0_1_A a0_1_n a0_1_c a0_2_A a0_2_n a0_2_c a0_3 a0_3_A a0_3_n a0_3_c a1_0 a1_1 a1_1_A a1_1_n a1_1_c a1_2 hm a0_3_h (Rd.drop 6 a0_3_R) a1_1_h (Rd.drop 6 a1_1_R) hb8)) rfl rfl (fun x14 => ?_)
        refine r_q (q_assign rfl rfl) rfl rfl ?_
        refine r_nil ?_
        refine j_then ?_
        refine j_seq ?_
        refine j_region ?_
        refine r_q (q_loadb_agg 5 rfl ag36 sz36 rfl rfl rfl rfl) rfl rfl ?_
        obtain ⟨v23, v24, v25, v26, hb9, h⟩ := of_b4 h
        refine r_do (a_call ok52 rfl rfl rfl rfl (fun w hm => spec_l4Copy.calls K a0_0 a0_0_A a0_0_n a0_0_c a0_1 a0_1_A a0_1_n a0_1_c a0_2 a0_2_A a0_2_n a0_2_c a0_3 a0_3_A a0_3_n a0_3_c hm a0_0_h (Rd.drop 6 a0_0_R) a0_1_h (Rd.drop 6 a0_1_R) a0_2_h (Rd.drop 6 a0_2_R) a0_3_h (Rd.drop 6 a0_3_R) hb9)) rfl rfl (fun x15 => ?_)
        refine r_do (a_alloc zr36 rfl) rfl rfl (fun x16 => ?_)
        refine r_do (a_storeb 0 rfl sz36 rfl rfl rfl rfl (Nat.le_of_ble_eq_true rfl) rfl) rfl rfl (fun _ => ?_)
        refine j_b0 [(.slice x15.1.A x15.1.n x15.1.c), (.slice x15.2.1.A x15.2.1.n x15.2.1.c), (.slice x15.2.2.1.A x15.2.2.1.n x15.2.2.1.c), (.slice x15.2.2.2.A x15.2.2.2.n x15.2.2.2.c)] rfl ?_
        refine r_nil ?_
        refine j_then ?_
        refine j_seq ?_
        refine j_seq ?_
        refine j_region ?_
        refine r_q (q_move rfl rfl) rfl rfl ?_
        refine r_q (q_neq rfl rfl rfl) rfl rfl ?_
        refine r_nil ?_
        refine j_then ?_
        rcases of_if h with ⟨c6, h⟩ | ⟨c6, h⟩
        · refine j_false rfl (bne_f c6) ?_
          refine j_skip ?_
          refine j_then ?_
          refine j_seq ?_
          refine j_region ?_
          refine r_q (q_fieldAddr fi37_1 sz22 rfl rfl rfl) rfl rfl ?_
          refine r_q (q_loadb 5 rfl ag22 rfl rfl rfl) rfl rfl ?_
          refine r_q (q_fieldAddr fi37_2 sz3 rfl rfl rfl) rfl rfl ?_
          refine r_q (q_loadb 9 rfl ag3 rfl rfl rfl) rfl rfl ?_
          obtain ⟨c7, h⟩ := of_guard h
          refine r_q (q_ix (Rd.row 6 rfl) (ints_len1 _ v2) (by decide) x5.h c7 un22 sz3 rfl rfl rfl) rfl rfl ?_
          refine r_do (a_stI 6 rfl c7 sz3 rfl rfl rfl) rfl rfl (fun _ => ?_)
          refine j_s6 ?_
          refine r_nil ?_
          refine j_then ?_
          refine j_seq ?_
          obtain ⟨v27, v28, hb10, h⟩ := of_b2 h
          refine j_draw (.box x16 36 [(.slice x15.1.A x15.1.n x15.1.c), (.slice x15.2.1.A x15.2.1.n x15.2.1.c), (.slice x15.2.2.1.A x15.2.2.1.n x15.2.2.1.c), (.slice x15.2.2.2.A x15.2.2.2.n x15.2.2.2.c)] :: .row x15.1.A x15.1.c 3 1 (ii v23) :: .row x15.2.1.A x15.2.1.c 3 1 (ii v24) :: .row x15.2.2.1.A x15.2.2.1.c 3 1 (ii v25) :: .row x15.2.2.2.A x15.2.2.2.c 3 1 (ii v26) :: .box x6 37 [(i6 v1), (.slice x5.A x5.n x5.c), (i6 v3)] :: .row x5.A x5.c 3 1 (ii (v2.set a1_2.toNat (0:Int))) :: .box x2 37 [(i6 a1_0), (.slice a1_1_A a1_1_n a1_1_c), (i6 a1_2)] :: .box x1 36 [(.slice a0_0_A a0_0_n a0_0_c), (.slice a0_1_A a0_1_n a0_1_c), (.slice a0_2_A a0_2_n a0_2_c), (.slice a0_3_A a0_3_n a0_3_c)] :: F) 8 follows_any rfl ?_
          refine d_take 0 rfl (q_loadb_agg 0 rfl ag36 sz36 rfl rfl rfl rfl) rfl rfl (by kernel_rfl) (by kernel_rfl) (by kernel_rfl) (fun w h => h.pick 11 [0, 1, 2, 3, 4, 5, 6, 9, 10] rfl) ?_
          refine d_take 1 rfl (q_loadb_agg 5 rfl ag37 sz37 rfl rfl rfl rfl) rfl rfl (by kernel_rfl) (by kernel_rfl) (by kernel_rfl) (fun w h => h.pick 11 [0, 1, 2, 3, 4, 5, 6, 9, 10] rfl) ?_
          refine d_take 2 rfl (q_fieldAddr fi37_1 sz22 rfl rfl rfl) rfl rfl (by kernel_rfl) (by kernel_rfl) (by kernel_rfl) (fun w h => h.pick 11 [0, 1, 2, 3, 4, 5, 6, 9, 10] rfl) ?_
          refine d_take 3 rfl (q_loadb 7 rfl ag22 rfl rfl rfl) rfl rfl (by kernel_rfl) (by kernel_rfl) (by kernel_rfl) (fun w h => h.pick 11 [0, 1, 2, 3, 4, 5, 6, 9, 10] rfl) ?_
          refine d_take 4 rfl (q_lenX a1_1 a1_1_h un22 rfl rfl rfl rfl rfl) rfl rfl (by kernel_rfl) (by kernel_rfl) (by kernel_rfl) (fun w h => h.pick 11 [0, 1, 2, 3, 4, 5, 6, 9, 10] rfl) ?_
          refine d_one 5 (by kernel_rfl) ?_
          refine o_do rfl (a_call ok90 rfl rfl rfl rfl (fun w hm => spec_l6Next.calls K v1 x5.A x5.n x5.c v3 (a1_1.length : Int) (0:Int) hm hb10)) rfl rfl (fun x17 w h => h.pick 11 [0, 1, 2, 3, 4, 5, 6, 9, 10] rfl) (fun x17 => ?_)
          refine d_one 6 (by kernel_rfl) ?_
          refine o_do rfl (a_storeb 8 rfl sz36 rfl rfl rfl rfl (Nat.le_of_ble_eq_true rfl) rfl) rfl rfl (fun _ w h => h.pick 11 [0, 1, 2, 3, 4, 5, 6, 9, 10] rfl) (fun _ => ?_)
          refine j_b8 [(.slice x15.1.A x15.1.n x15.1.c), (.slice x15.2.1.A x15.2.1.n x15.2.1.c), (.slice x15.2.2.1.A x15.2.2.1.n x15.2.2.1.c), (.slice x15.2.2.2.A x15.2.2.2.n x15.2.2.2.c)] rfl ?_
          refine d_one 7 (by kernel_rfl) ?_
          refine o_do rfl (a_storeb 7 rfl sz37 rfl rfl rfl rfl (Nat.le_of_ble_eq_true rfl) rfl) rfl rfl (fun _ w h => h.pick 11 [0, 1, 2, 3, 4, 5, 6, 9, 10] rfl) (fun _ => ?_)
          refine j_b7 [(i6 v27), (.slice x5.A x5.n x5.c), (i6 v28)] rfl ?_
          refine d_done (by kernel_rfl) ?_
          refine j_then ?_
          refine j_ret ?_
          cases h
          exact j_return rfl (ResOf.cell 8 rfl rfl ag36 sz36 (ResOf.cell 7 rfl rfl ag37 sz37 ResOf.nil)) rfl (fun w h => ⟨(⟨x15.1.A, x15.1.n, x15.1.c, x15.1.h⟩, ⟨x15.2.1.A, x15.2.1.n, x15.2.1.c, x15.2.1.h⟩, ⟨x15.2.2.1.A, x15.2.2.1.n, x15.2.2.1.c, x15.2.2.1.h⟩, ⟨x15.2.2.2.A, x15.2.2.2.n, x15.2.2.2.c, x15.2.2.2.h⟩, ⟨x5.A, x5.n, x5.c, (set_len x5.h _ _)⟩), rfl, h.pick 11 [1, 2, 3, 4, 6] rfl⟩)
        · refine j_true rfl (bne_t c6) ?_
          refine j_region ?_
          refine r_q (q_loadb_agg 10 rfl ag36 sz36 rfl rfl rfl rfl) rfl rfl ?_
          refine r_q (q_move rfl rfl) rfl rfl ?_
          refine r_do (a_litX (vs := [(i6 v22)]) (ii ([v22] : List Int)) un22 sz3 zr3 rfl rfl rfl rfl rfl rfl rfl rfl rfl) rfl rfl (fun x18 => ?_)
          obtain ⟨v29, v30, v31, v32, hb11, h⟩ := of_b4 h
          refine r_do (a_call ok92 rfl rfl rfl rfl (fun w hm => spec_l4Clear.calls K a0_0 a0_0_A a0_0_n a0_0_c a0_1 a0_1_A a0_1_n a0_1_c a0_2 a0_2_A a0_2_n a0_2_c a0_3 a0_3_A a0_3_n a0_3_c ([v22] : List Int) x18 1 1 hm a0_0_h (Rd.drop 12 a0_0_R) a0_1_h (Rd.drop 12 a0_1_R) a0_2_h (Rd.drop 12 a0_2_R) a0_3_h (Rd.drop 12 a0_3_R) rfl (Rd.row 0 rfl) hb11)) rfl rfl (fun x19 => ?_)
          refine r_do (a_storeb 5 rfl sz36 rfl rfl rfl rfl (Nat.le_of_ble_eq_true rfl) rfl) rfl rfl (fun _ => ?_)
          refine j_b5 [(.slice x19.1.A x19.1.n x19.1.c), (.slice x19.2.1.A x19.2.1.n x19.2.1.c), (.slice x19.2.2.1.A x19.2.2.1.n x19.2.2.1.c), (.slice x19.2.2.2.A x19.2.2.2.n x19.2.2.2.c)] rfl ?_
          refine r_nil ?_
          refine j_then ?_
          refine j_seq ?_
          refine j_region ?_
          refine r_q (q_fieldAddr fi37_1 sz22 rfl rfl rfl) rfl rfl ?_
          refine r_q (q_loadb 10 rfl ag22 rfl rfl rfl) rfl rfl ?_
          refine r_q (q_fieldAddr fi37_2 sz3 rfl rfl rfl) rfl rfl ?_
          refine r_q (q_loadb 14 rfl ag3 rfl rfl rfl) rfl rfl ?_
          obtain ⟨c8, h⟩ := of_guard h
          refine r_q (q_ix (Rd.row 11 rfl) (ints_len1 _ v2) (by decide) x5.h c8 un22 sz3 rfl rfl rfl) rfl rfl ?_
          refine r_do (a_stI 11 rfl c8 sz3 rfl rfl rfl) rfl rfl (fun _ => ?_)
          refine j_s11 ?_
          refine r_nil ?_
          refine j_then ?_
          refine j_seq ?_
          obtain ⟨v33, v34, hb12, h⟩ := of_b2 h
          refine j_draw (.row x19.1.A x19.1.c 3 1 (ii v29) :: .row x19.2.1.A x19.2.1.c 3 1 (ii v30) :: .row x19.2.2.1.A x19.2.2.1.c 3 1 (ii v31) :: .row x19.2.2.2.A x19.2.2.2.c 3 1 (ii v32) :: .row x18 1 3 1 (ii ([v22] : List Int)) :: .box x16 36 [(.slice x19.1.A x19.1.n x19.1.c), (.slice x19.2.1.A x19.2.1.n x19.2.1.c), (.slice x19.2.2.1.A x19.2.2.1.n x19.2.2.1.c), (.slice x19.2.2.2.A x19.2.2.2.n x19.2.2.2.c)] :: .row x15.1.A x15.1.c 3 1 (ii v23) :: .row x15.2.1.A x15.2.1.c 3 1 (ii v24) :: .row x15.2.2.1.A x15.2.2.1.c 3 1 (ii v25) :: .row x15.2.2.2.A x15.2.2.2.c 3 1 (ii v26) :: .box x6 37 [(i6 v1), (.slice x5.A x5.n x5.c), (i6 v3)] :: .row x5.A x5.c 3 1 (ii (v2.set a1_2.toNat (0:Int))) :: .box x2 37 [(i6 a1_0), (.slice a1_1_A a1_1_n a1_1_c), (i6 a1_2)] :: .box x1 36 [(.slice a0_0_A a0_0_n a0_0_c), (.slice a0_1_A a0_1_n a0_1_c), (.slice a0_2_A a0_2_n a0_2_c), (.slice a0_3_A a0_3_n a0_3_c)] :: F) 8 follows_any rfl ?_
          refine d_take 0 rfl (q_loadb_agg 5 rfl ag36 sz36 rfl rfl rfl rfl) rfl rfl (by kernel_rfl) (by kernel_rfl) (by kernel_rfl) (fun w h => h.pick 16 [0, 1, 2, 3, 4, 5, 6, 7, 8, 9, 10, 11, 14, 15] rfl) ?_
          refine d_take 1 rfl (q_loadb_agg 10 rfl ag37 sz37 rfl rfl rfl rfl) rfl rfl (by kernel_rfl) (by kernel_rfl) (by kernel_rfl) (fun w h => h.pick 16 [0, 1, 2, 3, 4, 5, 6, 7, 8, 9, 10, 11, 14, 15] rfl) ?_
          refine d_take 2 rfl (q_fieldAddr fi37_1 sz22 rfl rfl rfl) rfl rfl (by kernel_rfl) (by kernel_rfl) (by kernel_rfl) (fun w h => h.pick 16 [0, 1, 2, 3, 4, 5, 6, 7, 8, 9, 10, 11, 14, 15] rfl) ?_
          refine d_take 3 rfl (q_loadb 12 rfl ag22 rfl rfl rfl) rfl rfl (by kernel_rfl) (by kernel_rfl) (by kernel_rfl) (fun w h => h.pick 16 [0, 1, 2, 3, 4, 5, 6, 7, 8, 9, 10, 11, 14, 15] rfl) ?_
          refine d_take 4 rfl (q_lenX a1_1 a1_1_h un22 rfl rfl rfl rfl rfl) rfl rfl (by kernel_rfl) (by kernel_rfl) (by kernel_rfl) (fun w h => h.pick 16 [0, 1, 2, 3, 4, 5, 6, 7, 8, 9, 10, 11, 14, 15] rfl) ?_
          refine d_one 5 (by kernel_rfl) ?_
          refine o_do rfl (a_call ok90 rfl rfl rfl rfl (fun w hm => spec_l6Next.calls K v1 x5.A x5.n x5.c v3 (a1_1.length : Int) (0:Int) hm hb12)) rfl rfl (fun x17 w h => h.pick 16 [0, 1, 2, 3, 4, 5, 6, 7, 8, 9, 10, 11, 14, 15] rfl) (fun x17 => ?_)
          refine d_one 6 (by kernel_rfl) ?_
          refine o_do rfl (a_storeb 13 rfl sz36 rfl rfl rfl rfl (Nat.le_of_ble_eq_true rfl) rfl) rfl rfl (fun _ w h => h.pick 16 [0, 1, 2, 3, 4, 5, 6, 7, 8, 9, 10, 11, 14, 15] rfl) (fun _ => ?_)
          refine j_b13 [(.slice x19.1.A x19.1.n x19.1.c), (.slice x19.2.1.A x19.2.1.n x19.2.1.c), (.slice x19.2.2.1.A x19.2.2.1.n x19.2.2.1.c), (.slice x19.2.2.2.A x19.2.2.2.n x19.2.2.2.c)] rfl ?_
          refine d_one 7 (by kernel_rfl) ?_
          refine o_do rfl (a_storeb 12 rfl sz37 rfl rfl rfl rfl (Nat.le_of_ble_eq_true rfl) rfl) rfl rfl (fun _ w h => h.pick 16 [0, 1, 2, 3, 4, 5, 6, 7, 8, 9, 10, 11, 14, 15] rfl) (fun _ => ?_)
          refine j_b12 [(i6 v33), (.slice x5.A x5.n x5.c), (i6 v34)] rfl ?_
          refine d_done (by kernel_rfl) ?_
          refine j_then ?_
          refine j_ret ?_
          cases h
          exact j_return rfl (ResOf.cell 13 rfl rfl ag36 sz36 (ResOf.cell 12 rfl rfl ag37 sz37 ResOf.nil)) rfl (fun w h => ⟨(⟨x19.1.A, x19.1.n, x19.1.c, x19.1.h⟩, ⟨x19.2.1.A, x19.2.1.n, x19.2.1.c, x19.2.1.h⟩, ⟨x19.2.2.1.A, x19.2.2.1.n, x19.2.2.1.c, x19.2.2.1.h⟩, ⟨x19.2.2.2.A, x19.2.2.2.n, x19.2.2.2.c, x19.2.2.2.h⟩, ⟨x5.A, x5.n, x5.c, (set_len x5.h _ _)⟩), rfl, h.pick 16 [0, 1, 2, 3, 11] rfl⟩)

theorem spec_l6Draw.calls (K : Nat) (a0_g : Nat) (a0_0 : List Int) (a0_0_A : Option Addr) (a0_0_n a0_0_c : Nat) (a0_1 : Int) {w0 w : World} {F : List Res} {r1 : List Int} {r2 : List Int} {r3 : List Int} {r4 : List Int} {r5 : Int} {r6 : List Int} {r7 : Int} {r8 : Int} (hm : Mem w0 (.box a0_g 92 [.slice a0_0_A a0_0_n a0_0_c, i6 a0_1] :: F) w) (a0_0_h : a0_0.length = a0_0_n) (a0_0_R : Rd w0 F a0_0_A (ints .u8 a0_0)) (h : spec_l6Draw.f K a0_0 a0_1 = some (r1, r2, r3, r4, r5, r6, r7, r8)) :
    Calls Try.prog 41 (List.toArray [pt a0_g]) w fun e w' => ∃ x : (Sl r1.length) × (Sl r2.length) × (Sl r3.length) × (Sl r4.length) × (Sl r6.length), e = .returned (.tuple (List.toArray [.agg (List.toArray [.slice x.1.A x.1.n x.1.c, .slice x.2.1.A x.2.1.n x.2.1.c, .slice x.2.2.1.A x.2.2.1.n x.2.2.1.c, .slice x.2.2.2.1.A x.2.2.2.1.n x.2.2.2.1.c]), .agg (List.toArray [i6 r5, .slice x.2.2.2.2.A x.2.2.2.2.n x.2.2.2.2.c, i6 r7])])) ∧ Mem w0 (.row x.1.A x.1.c 3 1 (ii r1) :: .row x.2.1.A x.2.1.c 3 1 (ii r2) :: .row x.2.2.1.A x.2.2.1.c 3 1 (ii r3) :: .row x.2.2.2.1.A x.2.2.2.1.c 3 1 (ii r4) :: .row x.2.2.2.2.A x.2.2.2.2.c 3 1 (ii r6) :: .box a0_g 92 [.slice a0_0_A a0_0_n a0_0_c, i6 r8] :: F) w' := by
  unfold spec_l6Draw.f at h
  refine calls_of_J (n := 30) Try.func41 rfl rfl rfl hm ?_
  refine j_seq ?_
  refine j_region ?_
  refine r_do (a_alloc zr36 rfl) rfl rfl (fun x1 => ?_)
  refine r_do (a_alloc zr37 rfl) rfl rfl (fun x2 => ?_)
  refine r_nil ?_
  refine j_then ?_
  refine j_seq ?_
  refine j_region ?_
  refine r_q (q_move rfl rfl) rfl rfl ?_
  obtain ⟨v1, v2, v3, v4, v5, hb1, h⟩ := of_b5 h
  refine j_rs (.box a0_g 92 [(.slice a0_0_A a0_0_n a0_0_c), (i6 a0_1)] :: .box x2 37 [(i6 (0:Int)), (.slice none 0 0), (i6 (0:Int))] :: .box x1 36 [(.slice none 0 0), (.slice none 0 0), (.slice none 0 0), (.slice none 0 0)] :: F) (fun _ h => h.pick 3 [2, 0, 1] rfl) ?_
  refine r_do (a_call ok69 rfl rfl rfl rfl (fun w hm => spec_l4Draw.calls K a0_g a0_0 a0_0_A a0_0_n a0_0_c a0_1 hm a0_0_h (Rd.drop 2 a0_0_R) hb1)) rfl rfl (fun x3 => ?_)
  refine r_do (a_alloc zr36 rfl) rfl rfl (fun x4 => ?_)
  refine r_do (a_storeb 0 rfl sz36 rfl rfl rfl rfl (Nat.le_of_ble_eq_true rfl) rfl) rfl rfl (fun _ => ?_)
  refine j_b0 [(.slice x3.1.A x3.1.n x3.1.c), (.slice x3.2.1.A x3.2.1.n x3.2.1.c), (.slice x3.2.2.1.A x3.2.2.1.n x3.2.2.1.c), (.slice x3.2.2.2.A x3.2.2.2.n x3.2.2.2.c)] rfl ?_
  refine r_nil ?_
  refine j_then ?_
  refine j_seq ?_
  refine j_region ?_
  refine r_q (q_loadb_agg 0 rfl ag36 sz36 rfl rfl rfl rfl) rfl rfl ?_
  obtain ⟨v6, v7, v8, v9, hb2, h⟩ := of_b4 h
  refine r_do (a_call ok50 rfl rfl rfl rfl (fun w hm => spec_NewGc.calls K v1 x3.1.A x3.1.n x3.1.c v2 x3.2.1.A x3.2.1.n x3.2.1.c v3 x3.2.2.1.A x3.2.2.1.n x3.2.2.1.c v4 x3.2.2.2.A x3.2.2.2.n x3.2.2.2.c hm x3.1.h (Rd.row 1 rfl) x3.2.1.h (Rd.row 2 rfl) x3.2.2.1.h (Rd.row 3 rfl) x3.2.2.2.h (Rd.row 4 rfl) (hm.roomI 4 rfl) hb2)) rfl rfl (fun x5 => ?_)
  refine r_q (q_move rfl rfl) rfl rfl ?_
  refine r_q (q_extract rfl rfl rfl) rfl rfl ?_
  refine r_q (q_extract rfl rfl rfl) rfl rfl ?_
  refine r_do (a_alloc zr37 rfl) rfl rfl (fun x6 => ?_)
  refine r_do (a_storeb 0 rfl sz37 rfl rfl rfl rfl (Nat.le_of_ble_eq_true rfl) rfl) rfl rfl (fun _ => ?_)
  refine j_b0 [(i6 v6), (.slice x5.A x5.n x5.c), (i6 v8)] rfl ?_
  refine r_q (q_assign rfl rfl) rfl rfl ?_
  refine r_nil ?_
  refine j_then ?_
  refine j_seq ?_
  refine j_seq ?_
  refine j_region ?_
  refine r_q (q_move rfl rfl) rfl rfl ?_
  refine r_do (a_litX (vs := [(i6 (3:Int)), (i6 (1:Int)), (i6 (5:Int)), (i6 (8:Int)), (i6 (0:Int)), (i6 (14:Int)), (i6 (20:Int))]) (ii ([(3:Int), (1:Int), (5:Int), (8:Int), (0:Int), (14:Int), (20:Int)] : List Int)) un22 sz3 zr3 rfl rfl rfl rfl rfl rfl rfl rfl rfl) rfl rfl (fun x7 => ?_)
  obtain ⟨v10, v11, hb3, h⟩ := of_b2 h
  refine j_rs (.box a0_g 92 [(.slice a0_0_A a0_0_n a0_0_c), (i6 v5)] :: .row x7 7 3 1 (ii ([(3:Int), (1:Int), (5:Int), (8:Int), (0:Int), (14:Int), (20:Int)] : List Int)) :: .box x6 37 [(i6 v6), (.slice x5.A x5.n x5.c), (i6 v8)] :: .row x5.A x5.c 3 1 (ii v7) :: .box x4 36 [(.slice x3.1.A x3.1.n x3.1.c), (.slice x3.2.1.A x3.2.1.n x3.2.1.c), (.slice x3.2.2.1.A x3.2.2.1.n x3.2.2.1.c), (.slice x3.2.2.2.A x3.2.2.2.n x3.2.2.2.c)] :: .row x3.1.A x3.1.c 3 1 (ii v1) :: .row x3.2.1.A x3.2.1.c 3 1 (ii v2) :: .row x3.2.2.1.A x3.2.2.1.c 3 1 (ii v3) :: .row x3.2.2.2.A x3.2.2.2.c 3 1 (ii v4) :: .box x2 37 [(i6 (0:Int)), (.slice none 0 0), (i6 (0:Int))] :: .box x1 36 [(.slice none 0 0), (.slice none 0 0), (.slice none 0 0), (.slice none 0 0)] :: F) (fun _ h => h.pick 11 [8, 0, 1, 2, 3, 4, 5, 6, 7, 9, 10] rfl) ?_
  refine r_do (a_call ok70 rfl rfl rfl rfl (fun w hm => spec_l13Rd_num.calls K a0_g a0_0 a0_0_A a0_0_n a0_0_c v5 ([(3:Int), (1:Int), (5:Int), (8:Int), (0:Int), (14:Int), (20:Int)] : List Int) x7 7 7 hm a0_0_h (Rd.drop 10 a0_0_R) rfl (Rd.row 0 rfl) hb3)) rfl rfl (fun x8 => ?_)
  refine r_q (q_assign rfl rfl) rfl rfl ?_
  refine r_nil ?_
  refine j_then ?_
  obtain ⟨κ0, h, hκ0⟩ := ex_k (g := fun κ => spec_l6Draw.loop0 K κ K v10 v1 v2 v3 v4 v6 v7 v8 = some (r1, r2, r3, r4, r5, r6, r7, r8)) h
  refine j_cut (σ := (Option Addr) × Nat × Nat × (List Int) × (Option Addr) × Nat × Nat × (List Int) × (Option Addr) × Nat × Nat × (List Int) × (Option Addr) × Nat × Nat × (List Int) × Int × (Option Addr) × Nat × Nat × (List Int) × Int) (fun s => [(2, (pt x1)), (3, (pt x2)), (4, (pt x4)), (5, (pt x6))]) (fun s => .box x1 36 [(.slice none 0 0), (.slice none 0 0), (.slice none 0 0), (.slice none 0 0)] :: .box x2 37 [(i6 (0:Int)), (.slice none 0 0), (i6 (0:Int))] :: .box x4 36 [(.slice s.1 s.2.1 s.2.2.1), (.slice s.2.2.2.2.1 s.2.2.2.2.2.1 s.2.2.2.2.2.2.1), (.slice s.2.2.2.2.2.2.2.2.1 s.2.2.2.2.2.2.2.2.2.1 s.2.2.2.2.2.2.2.2.2.2.1), (.slice s.2.2.2.2.2.2.2.2.2.2.2.2.1 s.2.2.2.2.2.2.2.2.2.2.2.2.2.1 s.2.2.2.2.2.2.2.2.2.2.2.2.2.2.1)] :: .box x6 37 [(i6 s.2.2.2.2.2.2.2.2.2.2.2.2.2.2.2.2.1), (.slice s.2.2.2.2.2.2.2.2.2.2.2.2.2.2.2.2.2.1 s.2.2.2.2.2.2.2.2.2.2.2.2.2.2.2.2.2.2.1 s.2.2.2.2.2.2.2.2.2.2.2.2.2.2.2.2.2.2.2.1), (i6 s.2.2.2.2.2.2.2.2.2.2.2.2.2.2.2.2.2.2.2.2.2)] :: .box a0_g 92 [(.slice a0_0_A a0_0_n a0_0_c), (i6 v11)] :: .row s.1 s.2.2.1 3 1 (ii s.2.2.2.1) :: .row s.2.2.2.2.1 s.2.2.2.2.2.2.1 3 1 (ii s.2.2.2.2.2.2.2.1) :: .row s.2.2.2.2.2.2.2.2.1 s.2.2.2.2.2.2.2.2.2.2.1 3 1 (ii s.2.2.2.2.2.2.2.2.2.2.2.1) :: .row s.2.2.2.2.2.2.2.2.2.2.2.2.1 s.2.2.2.2.2.2.2.2.2.2.2.2.2.2.1 3 1 (ii s.2.2.2.2.2.2.2.2.2.2.2.2.2.2.2.1) :: .row s.2.2.2.2.2.2.2.2.2.2.2.2.2.2.2.2.2.1 s.2.2.2.2.2.2.2.2.2.2.2.2.2.2.2.2.2.2.2.1 3 1 (ii s.2.2.2.2.2.2.2.2.2.2.2.2.2.2.2.2.2.2.2.2.1) :: F) (fun s => κ0 s.2.2.2.1 s.2.2.2.2.2.2.2.1 s.2.2.2.2.2.2.2.2.2.2.2.1 s.2.2.2.2.2.2.2.2.2.2.2.2.2.2.2.1 s.2.2.2.2.2.2.2.2.2.2.2.2.2.2.2.2.1 s.2.2.2.2.2.2.2.2.2.2.2.2.2.2.2.2.2.2.2.2.1 s.2.2.2.2.2.2.2.2.2.2.2.2.2.2.2.2.2.2.2.2.2 = some (r1, r2, r3, r4, r5, r6, r7, r8) ∧ (s.2.2.2.1.length = s.2.1) ∧ (s.2.2.2.2.2.2.2.1.length = s.2.2.2.2.2.1) ∧ (s.2.2.2.2.2.2.2.2.2.2.2.1.length = s.2.2.2.2.2.2.2.2.2.1) ∧ (s.2.2.2.2.2.2.2.2.2.2.2.2.2.2.2.1.length = s.2.2.2.2.2.2.2.2.2.2.2.2.2.1) ∧ (s.2.2.2.2.2.2.2.2.2.2.2.2.2.2.2.2.2.2.2.2.1.length = s.2.2.2.2.2.2.2.2.2.2.2.2.2.2.2.2.2.2.1)) ?_ ?_
  · refine j_block ?_
    refine j_loop (σ := Int × (Option Addr) × Nat × Nat × (List Int) × (Option Addr) × Nat × Nat × (List Int) × (Option Addr) × Nat × Nat × (List Int) × (Option Addr) × Nat × Nat × (List Int) × Int × (Option Addr) × Nat × Nat × (List Int) × Int) (fun s => [(2, (pt x1)), (3, (pt x2)), (4, (pt x4)), (5, (pt x6)), (7, (i6 s.1))]) (fun s => .box x1 36 [(.slice none 0 0), (.slice none 0 0), (.slice none 0 0), (.slice none 0 0)] :: .box x2 37 [(i6 (0:Int)), (.slice none 0 0), (i6 (0:Int))] :: .box x4 36 [(.slice s.2.1 s.2.2.1 s.2.2.2.1), (.slice s.2.2.2.2.2.1 s.2.2.2.2.2.2.1 s.2.2.2.2.2.2.2.1), (.slice s.2.2.2.2.2.2.2.2.2.1 s.2.2.2.2.2.2.2.2.2.2.1 s.2.2.2.2.2.2.2.2.2.2.2.1), (.slice s.2.2.2.2.2.2.2.2.2.2.2.2.2.1 s.2.2.2.2.2.2.2.2.2.2.2.2.2.2.1 s.2.2.2.2.2.2.2.2.2.2.2.2.2.2.2.1)] :: .box x6 37 [(i6 s.2.2.2.2.2.2.2.2.2.2.2.2.2.2.2.2.2.1), (.slice s.2.2.2.2.2.2.2.2.2.2.2.2.2.2.2.2.2.2.1 s.2.2.2.2.2.2.2.2.2.2.2.2.2.2.2.2.2.2.2.1 s.2.2.2.2.2.2.2.2.2.2.2.2.2.2.2.2.2.2.2.2.1), (i6 s.2.2.2.2.2.2.2.2.2.2.2.2.2.2.2.2.2.2.2.2.2.2)] :: .box a0_g 92 [(.slice a0_0_A a0_0_n a0_0_c), (i6 v11)] :: .row s.2.1 s.2.2.2.1 3 1 (ii s.2.2.2.2.1) :: .row s.2.2.2.2.2.1 s.2.2.2.2.2.2.2.1 3 1 (ii s.2.2.2.2.2.2.2.2.1) :: .row s.2.2.2.2.2.2.2.2.2.1 s.2.2.2.2.2.2.2.2.2.2.2.1 3 1 (ii s.2.2.2.2.2.2.2.2.2.2.2.2.1) :: .row s.2.2.2.2.2.2.2.2.2.2.2.2.2.1 s.2.2.2.2.2.2.2.2.2.2.2.2.2.2.2.1 3 1 (ii s.2.2.2.2.2.2.2.2.2.2.2.2.2.2.2.2.1) :: .row s.2.2.2.2.2.2.2.2.2.2.2.2.2.2.2.2.2.2.1 s.2.2.2.2.2.2.2.2.2.2.2.2.2.2.2.2.2.2.2.2.1 3 1 (ii s.2.2.2.2.2.2.2.2.2.2.2.2.2.2.2.2.2.2.2.2.2.1) :: F) (fun m s => spec_l6Draw.loop0 K κ0 m s.1 s.2.2.2.2.1 s.2.2.2.2.2.2.2.2.1 s.2.2.2.2.2.2.2.2.2.2.2.2.1 s.2.2.2.2.2.2.2.2.2.2.2.2.2.2.2.2.1 s.2.2.2.2.2.2.2.2.2.2.2.2.2.2.2.2.2.1 s.2.2.2.2.2.2.2.2.2.2.2.2.2.2.2.2.2.2.2.2.2.1 s.2.2.2.2.2.2.2.2.2.2.2.2.2.2.2.2.2.2.2.2.2.2 = some (r1, r2, r3, r4, r5, r6, r7, r8) ∧ (s.2.2.2.2.1.length = s.2.2.1) ∧ (s.2.2.2.2.2.2.2.2.1.length = s.2.2.2.2.2.2.1) ∧ (s.2.2.2.2.2.2.2.2.2.2.2.2.1.length = s.2.2.2.2.2.2.2.2.2.2.1) ∧ (s.2.2.2.2.2.2.2.2.2.2.2.2.2.2.2.2.1.length = s.2.2.2.2.2.2.2.2.2.2.2.2.2.2.1) ∧ (s.2.2.2.2.2.2.2.2.2.2.2.2.2.2.2.2.2.2.2.2.2.1.length = s.2.2.2.2.2.2.2.2.2.2.2.2.2.2.2.2.2.2.2.1)) K (v10, x3.1.A, x3.1.n, x3.1.c, v1, x3.2.1.A, x3.2.1.n, x3.2.1.c, v2, x3.2.2.1.A, x3.2.2.1.n, x3.2.2.1.c, v3, x3.2.2.2.A, x3.2.2.2.n, x3.2.2.2.c, v4, v6, x5.A, x5.n, x5.c, v7, v8) ⟨h, x3.1.h, x3.2.1.h, x3.2.2.1.h, x3.2.2.2.h, x5.h⟩ (fun a he => he.sub ⟨rfl, rfl, rfl, rfl, rfl, trivial⟩) (fun w h => h.pick 11 [10, 9, 4, 2, 0, 5, 6, 7, 8, 3] rfl) ?_
    rintro m ⟨p4, A6, n6, d6, l6, A7, n7, d7, l7, A8, n8, d8, l8, A9, n9, d9, l9, p5, A10, n10, d10, l10, p6⟩ ⟨h, q6, q7, q8, q9, q10⟩
    cases m with
    | zero => exact absurd h (by rw [spec_l6Draw.loop0]; exact nofun)
    | succ m =>
      rw [spec_l6Draw.loop0] at h
      show J _ _ [(2, (pt x1)), (3, (pt x2)), (4, (pt x4)), (5, (pt x6)), (7, (i6 p4))] _ (.box x1 36 [(.slice none 0 0), (.slice none 0 0), (.slice none 0 0), (.slice none 0 0)] :: .box x2 37 [(i6 (0:Int)), (.slice none 0 0), (i6 (0:Int))] :: .box x4 36 [(.slice A6 n6 d6), (.slice A7 n7 d7), (.slice A8 n8 d8), (.slice A9 n9 d9)] :: .box x6 37 [(i6 p5), (.slice A10 n10 d10), (i6 p6)] :: .box a0_g 92 [(.slice a0_0_A a0_0_n a0_0_c), (i6 v11)] :: .row A6 d6 3 1 (ii l6) :: .row A7 d7 3 1 (ii l7) :: .row A8 d8 3 1 (ii l8) :: .row A9 d9 3 1 (ii l9) :: .row A10 d10 3 1 (ii l10) :: F)
      refine j_seq ?_
      refine j_seq ?_
      refine j_region ?_
      refine r_q (q_move rfl rfl) rfl rfl ?_
      refine r_q (q_gtr rfl rfl rfl) rfl rfl ?_
      refine r_nil ?_
      refine j_then ?_
      rcases of_if h with ⟨c4, h⟩ | ⟨c4, h⟩
      · refine j_true rfl (decide_eq_true c4) ?_
        refine j_skip ?_
        refine j_then ?_
        refine j_seq ?_
        refine j_block ?_
        refine j_region ?_
        refine r_q (q_loadb_agg 2 rfl ag36 sz36 rfl rfl rfl rfl) rfl rfl ?_
        refine r_q (q_loadb_agg 3 rfl ag37 sz37 rfl rfl rfl rfl) rfl rfl ?_
        obtain ⟨v33, v34, v35, v36, v37, v38, v39, hb7, h⟩ := of_b7 h
        refine r_do (a_call ok71 rfl rfl rfl rfl (fun w hm => spec_l6Step.calls K l6 A6 n6 d6 l7 A7 n7 d7 l8 A8 n8 d8 l9 A9 n9 d9 p5 l10 A10 n10 d10 p6 hm q6 (Rd.row 5 rfl) q7 (Rd.row 6 rfl) q8 (Rd.row 7 rfl) q9 (Rd.row 8 rfl) q10 (Rd.row 9 rfl) hb7)) rfl rfl (fun x9 => ?_)
        refine r_q (q_move rfl rfl) rfl rfl ?_
        refine r_q (q_extract rfl rfl rfl) rfl rfl ?_
        refine r_q (q_extract rfl rfl rfl) rfl rfl ?_
        refine r_do (a_storeb 7 rfl sz36 rfl rfl rfl rfl (Nat.le_of_ble_eq_true rfl) rfl) rfl rfl (fun _ => ?_)
        refine j_b7 [(.slice x9.1.A x9.1.n x9.1.c), (.slice x9.2.1.A x9.2.1.n x9.2.1.c), (.slice x9.2.2.1.A x9.2.2.1.n x9.2.2.1.c), (.slice x9.2.2.2.1.A x9.2.2.2.1.n x9.2.2.2.1.c)] rfl ?_
        refine r_do (a_storeb 8 rfl sz37 rfl rfl rfl rfl (Nat.le_of_ble_eq_true rfl) rfl) rfl rfl (fun _ => ?_)
        refine j_b8 [(i6 v37), (.slice x9.2.2.2.2.A x9.2.2.2.2.n x9.2.2.2.2.c), (i6 v39)] rfl ?_
        refine r_nil ?_
        refine j_in ?_
        refine j_then ?_
        refine j_region ?_
        refine r_q (q_move rfl rfl) rfl rfl ?_
        refine r_q (q_sub rfl rfl rfl) rfl rfl ?_
        refine r_q (q_assign rfl rfl) rfl rfl ?_
        refine r_nil ?_
        refine j_then ?_
        exact j_again m ((wrap64 (p4 - (1:Int))), x9.1.A, x9.1.n, x9.1.c, v33, x9.2.1.A, x9.2.1.n, x9.2.1.c, v34, x9.2.2.1.A, x9.2.2.1.n, x9.2.2.1.c, v35, x9.2.2.2.1.A, x9.2.2.2.1.n, x9.2.2.2.1.c, v36, v37, x9.2.2.2.2.A, x9.2.2.2.2.n, x9.2.2.2.2.c, v38, v39) (Nat.lt_succ_self m) ⟨h, x9.1.h, x9.2.1.h, x9.2.2.1.h, x9.2.2.2.1.h, x9.2.2.2.2.h⟩ (fun a he => he.sub ⟨rfl, rfl, rfl, rfl, rfl, trivial⟩) (fun w h => h.pick 15 [5, 6, 7, 8, 9, 0, 1, 2, 3, 4] rfl)
      · refine j_false rfl (decide_eq_false c4) ?_
        refine j_exit ?_
        refine j_then_exit ?_
        refine j_then_exit ?_
        refine j_in_exit ?_
        refine j_then ?_
        exact j_meet (A6, n6, d6, l6, A7, n7, d7, l7, A8, n8, d8, l8, A9, n9, d9, l9, p5, A10, n10, d10, l10, p6) ⟨h, q6, q7, q8, q9, q10⟩ (fun a he => he.sub ⟨rfl, rfl, rfl, rfl, trivial⟩) (fun w h => h)
  · rintro ⟨A11, n11, d11, l11, A12, n12, d12, l12, A13, n13, d13, l13, A14, n14, d14, l14, p7, A15, n15, d15, l15, p8⟩ ⟨h, q11, q12, q13, q14, q15⟩
    subst hκ0
    show J _ _ [(2, (pt x1)), (3, (pt x2)), (4, (pt x4)), (5, (pt x6))] _ (.box x1 36 [(.slice none 0 0), (.slice none 0 0), (.slice none 0 0), (.slice none 0 0)] :: .box x2 37 [(i6 (0:Int)), (.slice none 0 0), (i6 (0:Int))] :: .box x4 36 [(.slice A11 n11 d11), (.slice A12 n12 d12), (.slice A13 n13 d13), (.slice A14 n14 d14)] :: .box x6 37 [(i6 p7), (.slice A15 n15 d15), (i6 p8)] :: .box a0_g 92 [(.slice a0_0_A a0_0_n a0_0_c), (i6 v11)] :: .row A11 d11 3 1 (ii l11) :: .row A12 d12 3 1 (ii l12) :: .row A13 d13 3 1 (ii l13) :: .row A14 d14 3 1 (ii l14) :: .row A15 d15 3 1 (ii l15) :: F)
    refine j_then ?_
    refine j_seq ?_
    refine j_draw (.box x4 36 [(.slice A11 n11 d11), (.slice A12 n12 d12), (.slice A13 n13 d13), (.slice A14 n14 d14)] :: .box x6 37 [(i6 p7), (.slice A15 n15 d15), (i6 p8)] :: .box a0_g 92 [(.slice a0_0_A a0_0_n a0_0_c), (i6 v11)] :: .row A11 d11 3 1 (ii l11) :: .row A12 d12 3 1 (ii l12) :: .row A13 d13 3 1 (ii l13) :: .row A14 d14 3 1 (ii l14) :: .row A15 d15 3 1 (ii l15) :: F) 4 follows_any rfl ?_
    refine d_take 0 rfl (q_loadb_agg 0 rfl ag36 sz36 rfl rfl rfl rfl) rfl rfl (by kernel_rfl) (by kernel_rfl) (by kernel_rfl) (fun w h => (h.drop 2)) ?_
    refine d_take 1 rfl (q_loadb_agg 1 rfl ag37 sz37 rfl rfl rfl rfl) rfl rfl (by kernel_rfl) (by kernel_rfl) (by kernel_rfl) (fun w h => (h.drop 2)) ?_
    refine d_one 2 (by kernel_rfl) ?_
    refine o_do rfl (a_storeb 0 rfl sz36 rfl rfl rfl rfl (Nat.le_of_ble_eq_true rfl) rfl) rfl rfl (fun _ w h => (h.drop 2)) (fun _ => ?_)
    refine j_b0 [(.slice A11 n11 d11), (.slice A12 n12 d12), (.slice A13 n13 d13), (.slice A14 n14 d14)] rfl ?_
    refine d_one 3 (by kernel_rfl) ?_
    refine o_do rfl (a_storeb 1 rfl sz37 rfl rfl rfl rfl (Nat.le_of_ble_eq_true rfl) rfl) rfl rfl (fun _ w h => (h.drop 2)) (fun _ => ?_)
    refine j_b1 [(i6 p7), (.slice A15 n15 d15), (i6 p8)] rfl ?_
    refine d_done (by kernel_rfl) ?_
    refine j_then ?_
    refine j_ret ?_
    cases h
    exact j_return rfl (ResOf.cell 0 rfl rfl ag36 sz36 (ResOf.cell 1 rfl rfl ag37 sz37 ResOf.nil)) rfl (fun w h => ⟨(⟨A11, n11, d11, q11⟩, ⟨A12, n12, d12, q12⟩, ⟨A13, n13, d13, q13⟩, ⟨A14, n14, d14, q14⟩, ⟨A15, n15, d15, q15⟩), rfl, h.pick 10 [5, 6, 7, 8, 9, 4] rfl⟩)

theorem spec_l6Wrong.calls (K : Nat) (a0_g : Nat) (a0_0 : List Int) (a0_0_A : Option Addr) (a0_0_n a0_0_c : Nat) (a0_1 : Int) (a1_0 : Int) (a1_1 : List Int) (a1_1_A : Option Addr) (a1_1_n a1_1_c : Nat) (a1_2 : Int) {w0 w : World} {F : List Res} {r1 : Int} {r2 : List Int} {r3 : Int} {r4 : Int} (hm : Mem w0 (.box a0_g 92 [.slice a0_0_A a0_0_n a0_0_c, i6 a0_1] :: F) w) (a0_0_h : a0_0.length = a0_0_n) (a0_0_R : Rd w0 F a0_0_A (ints .u8 a0_0)) (a1_1_h : a1_1.length = a1_1_n) (a1_1_R : Rd w0 F a1_1_A (ii a1_1)) (h : spec_l6Wrong.f K a0_0 a0_1 a1_0 a1_1 a1_2 = some (r1, r2, r3, r4)) :
    Calls Try.prog 42 (List.toArray [pt a0_g, .agg (List.toArray [i6 a1_0, .slice a1_1_A a1_1_n a1_1_c, i6 a1_2])]) w fun e w' => ∃ x : (Sl r2.length), e = .returned (.agg (List.toArray [i6 r1, .slice x.A x.n x.c, i6 r3])) ∧ Mem w0 (.row x.A x.c 3 1 (ii r2) :: .box a0_g 92 [.slice a0_0_A a0_0_n a0_0_c, i6 r4] :: F) w' := by
  unfold spec_l6Wrong.f at h
  refine calls_of_J (n := 36) Try.func42 rfl rfl rfl hm ?_
  refine j_seq ?_
  refine j_region ?_
  refine r_do (a_box rfl rfl) rfl rfl (fun x1 => ?_)
  refine r_do (a_alloc zr37 rfl) rfl rfl (fun x2 => ?_)
  refine r_nil ?_
  refine j_then ?_
  refine j_seq ?_
  refine j_region ?_
  refine r_q (q_loadb_agg 1 rfl ag37 sz37 rfl rfl rfl rfl) rfl rfl ?_
  obtain ⟨v1, v2, v3, hb1, h⟩ := of_b3 h
  refine r_do (a_call ok72 rfl rfl rfl rfl (fun w hm => spec_l6Copy.calls K a1_0 a1_1 a1_1_A a1_1_n a1_1_c a1_2 hm a1_1_h (Rd.drop 3 a1_1_R) hb1)) rfl rfl (fun x3 => ?_)
  refine r_do (a_alloc zr37 rfl) rfl rfl (fun x4 => ?_)
  refine r_do (a_storeb 0 rfl sz37 rfl rfl rfl rfl (Nat.le_of_ble_eq_true rfl) rfl) rfl rfl (fun _ => ?_)
  refine j_b0 [(i6 v1), (.slice x3.A x3.n x3.c), (i6 v3)] rfl ?_
  refine r_nil ?_
  refine j_then ?_
  refine j_seq ?_
  refine j_seq ?_
  refine j_region ?_
  refine r_q (q_move rfl rfl) rfl rfl ?_
  obtain ⟨v4, v5, hb2, h⟩ := of_b2 h
  refine j_rs (.box a0_g 92 [(.slice a0_0_A a0_0_n a0_0_c), (i6 a0_1)] :: .box x4 37 [(i6 v1), (.slice x3.A x3.n x3.c), (i6 v3)] :: .row x3.A x3.c 3 1 (ii v2) :: .box x2 37 [(i6 (0:Int)), (.slice none 0 0), (i6 (0:Int))] :: .box x1 37 [(i6 a1_0), (.slice a1_1_A a1_1_n a1_1_c), (i6 a1_2)] :: F) (fun _ h => h.pick 5 [4, 0, 1, 2, 3] rfl) ?_
  refine r_do (a_call ok73 rfl rfl rfl rfl (fun w hm => spec_l13Rd_pick.calls K a0_g a0_0 a0_0_A a0_0_n a0_0_c a0_1 (20:Int) hm a0_0_h (Rd.drop 4 a0_0_R) hb2)) rfl rfl (fun x5 => ?_)
  refine r_nil ?_
  refine j_then ?_
  refine j_block ?_
  refine j_seq ?_
  refine j_region ?_
  refine r_q (q_eql rfl rfl rfl) rfl rfl ?_
  refine r_q (q_assign rfl rfl) rfl rfl ?_
  refine r_nil ?_
  refine j_then ?_
  rcases of_if h with ⟨c1, h⟩ | ⟨c1, h⟩
  · refine j_true rfl (beq_t c1) ?_
    refine j_region ?_
    refine r_q (q_move rfl rfl) rfl rfl ?_
    refine r_do (a_litX (vs := [(i6 (4:Int)), (i6 (-1:Int)), (i6 (0:Int)), (i6 (1:Int)), (i6 (2:Int)), (i6 (3:Int))]) (ii ([(4:Int), (-1:Int), (0:Int), (1:Int), (2:Int), (3:Int)] : List Int)) un22 sz3 zr3 rfl rfl rfl rfl rfl rfl rfl rfl rfl) rfl rfl (fun x6 => ?_)
    obtain ⟨v6, v7, hb3, h⟩ := of_b2 h
    refine j_rs (.box a0_g 92 [(.slice a0_0_A a0_0_n a0_0_c), (i6 v5)] :: .row x6 6 3 1 (ii ([(4:Int), (-1:Int), (0:Int), (1:Int), (2:Int), (3:Int)] : List Int)) :: .box x4 37 [(i6 v1), (.slice x3.A x3.n x3.c), (i6 v3)] :: .row x3.A x3.c 3 1 (ii v2) :: .box x2 37 [(i6 (0:Int)), (.slice none 0 0), (i6 (0:Int))] :: .box x1 37 [(i6 a1_0), (.slice a1_1_A a1_1_n a1_1_c), (i6 a1_2)] :: F) (fun _ h => h.pick 6 [1, 0, 2, 3, 4, 5] rfl) ?_
    refine r_do (a_call ok70 rfl rfl rfl rfl (fun w hm => spec_l13Rd_num.calls K a0_g a0_0 a0_0_A a0_0_n a0_0_c v5 ([(4:Int), (-1:Int), (0:Int), (1:Int), (2:Int), (3:Int)] : List Int) x6 6 6 hm a0_0_h (Rd.drop 5 a0_0_R) rfl (Rd.row 0 rfl) hb3)) rfl rfl (fun x7 => ?_)
    refine r_q (q_fieldAddr fi37_0 sz3 rfl rfl rfl) rfl rfl ?_
    refine r_do (a_storeb 2 rfl sz3 rfl rfl rfl rfl (Nat.le_of_ble_eq_true rfl) rfl) rfl rfl (fun _ => ?_)
    refine j_b2 [(i6 v6), (.slice x3.A x3.n x3.c), (i6 v3)] rfl ?_
    refine r_nil ?_
    refine j_in ?_
    refine j_then ?_
    refine j_seq ?_
    refine j_region ?_
    refine r_q (q_loadb_agg 2 rfl ag37 sz37 rfl rfl rfl rfl) rfl rfl ?_
    refine r_do (a_storeb 4 rfl sz37 rfl rfl rfl rfl (Nat.le_of_ble_eq_true rfl) rfl) rfl rfl (fun _ => ?_)
    refine j_b4 [(i6 v6), (.slice x3.A x3.n x3.c), (i6 v3)] rfl ?_
    refine r_nil ?_
    refine j_then ?_
    refine j_ret ?_
    cases h
    exact j_return rfl (ResOf.cell 4 rfl rfl ag37 sz37 ResOf.nil) rfl (fun w h => ⟨⟨x3.A, x3.n, x3.c, x3.h⟩, rfl, h.pick 6 [3, 0] rfl⟩)
  · refine j_false rfl (beq_f c1) ?_
    refine j_seq ?_
    refine j_region ?_
    refine r_q (q_eql rfl rfl rfl) rfl rfl ?_
    refine r_q (q_assign rfl rfl) rfl rfl ?_
    refine r_nil ?_
    refine j_then ?_
    rcases of_if h with ⟨c2, h⟩ | ⟨c2, h⟩
    · refine j_true rfl (beq_t c2) ?_
      refine j_region ?_
      refine r_q (q_move rfl rfl) rfl rfl ?_
      refine r_do (a_litX (vs := [(i6 (-1:Int)), (i6 (8:Int)), (i6 (1:Int))]) (ii ([(-1:Int), (8:Int), (1:Int)] : List Int)) un22 sz3 zr3 rfl rfl rfl rfl rfl rfl rfl rfl rfl) rfl rfl (fun x8 => ?_)
      obtain ⟨v8, v9, hb4, h⟩ := of_b2 h
      refine j_rs (.box a0_g 92 [(.slice a0_0_A a0_0_n a0_0_c), (i6 v5)] :: .row x8 3 3 1 (ii ([(-1:Int), (8:Int), (1:Int)] : List Int)) :: .box x4 37 [(i6 v1), (.slice x3.A x3.n x3.c), (i6 v3)] :: .row x3.A x3.c 3 1 (ii v2) :: .box x2 37 [(i6 (0:Int)), (.slice none 0 0), (i6 (0:Int))] :: .box x1 37 [(i6 a1_0), (.slice a1_1_A a1_1_n a1_1_c), (i6 a1_2)] :: F) (fun _ h => h.pick 6 [1, 0, 2, 3, 4, 5] rfl) ?_
      refine r_do (a_call ok70 rfl rfl rfl rfl (fun w hm => spec_l13Rd_num.calls K a0_g a0_0 a0_0_A a0_0_n a0_0_c v5 ([(-1:Int), (8:Int), (1:Int)] : List Int) x8 3 3 hm a0_0_h (Rd.drop 5 a0_0_R) rfl (Rd.row 0 rfl) hb4)) rfl rfl (fun x9 => ?_)
      refine r_q (q_fieldAddr fi37_2 sz3 rfl rfl rfl) rfl rfl ?_
      refine r_do (a_storeb 2 rfl sz3 rfl rfl rfl rfl (Nat.le_of_ble_eq_true rfl) rfl) rfl rfl (fun _ => ?_)
      refine j_b2 [(i6 v1), (.slice x3.A x3.n x3.c), (i6 v8)] rfl ?_
      refine r_nil ?_
      refine j_in ?_
      refine j_then ?_
      refine j_seq ?_
      refine j_region ?_
      refine r_q (q_loadb_agg 2 rfl ag37 sz37 rfl rfl rfl rfl) rfl rfl ?_
      refine r_do (a_storeb 4 rfl sz37 rfl rfl rfl rfl (Nat.le_of_ble_eq_true rfl) rfl) rfl rfl (fun _ => ?_)
      refine j_b4 [(i6 v1), (.slice x3.A x3.n x3.c), (i6 v8)] rfl ?_
      refine r_nil ?_
      refine j_then ?_
      refine j_ret ?_
      cases h
      exact j_return rfl (ResOf.cell 4 rfl rfl ag37 sz37 ResOf.nil) rfl (fun w h => ⟨⟨x3.A, x3.n, x3.c, x3.h⟩, rfl, h.pick 6 [3, 0] rfl⟩)
    · refine j_false rfl (beq_f c2) ?_
      refine j_seq ?_
      refine j_region ?_
      refine r_q (q_eql rfl rfl rfl) rfl rfl ?_
      refine r_q (q_assign rfl rfl) rfl rfl ?_
      refine r_nil ?_
      refine j_then ?_
      rcases of_if h with ⟨c3, h⟩ | ⟨c3, h⟩
      · refine j_true rfl (beq_t c3) ?_
        obtain ⟨v10, v11, hb5, h⟩ := of_b2 h
        obtain ⟨v12, v13, hb6, h⟩ := of_b2 h
        obtain ⟨c4, h⟩ := of_guard h
        refine j_draw (.box x4 37 [(i6 v1), (.slice x3.A x3.n x3.c), (i6 v3)] :: .box x2 37 [(i6 (0:Int)), (.slice none 0 0), (i6 (0:Int))] :: .box x1 37 [(i6 a1_0), (.slice a1_1_A a1_1_n a1_1_c), (i6 a1_2)] :: F) 12 follows_any rfl ?_
        refine d_take 0 rfl (q_fieldAddr fi37_1 sz22 rfl rfl rfl) rfl rfl (by kernel_rfl) (by kernel_rfl) (by kernel_rfl) (fun w h => h.pick 5 [1, 3, 4] rfl) ?_
        refine d_take 1 rfl (q_loadb 0 rfl ag22 rfl rfl rfl) rfl rfl (by kernel_rfl) (by kernel_rfl) (by kernel_rfl) (fun w h => h.pick 5 [1, 3, 4] rfl) ?_
        refine d_take 2 rfl (q_move rfl rfl) rfl rfl (by kernel_rfl) (by kernel_rfl) (by kernel_rfl) (fun w h => h.pick 5 [1, 3, 4] rfl) ?_
        refine d_take 3 rfl (q_fieldAddr fi37_1 sz22 rfl rfl rfl) rfl rfl (by kernel_rfl) (by kernel_rfl) (by kernel_rfl) (fun w h => h.pick 5 [1, 3, 4] rfl) ?_
        refine d_take 4 rfl (q_loadb 0 rfl ag22 rfl rfl rfl) rfl rfl (by kernel_rfl) (by kernel_rfl) (by kernel_rfl) (fun w h => h.pick 5 [1, 3, 4] rfl) ?_
        refine d_take 5 rfl (q_lenX v2 x3.h un22 rfl rfl rfl rfl rfl) rfl rfl (by kernel_rfl) (by kernel_rfl) (by kernel_rfl) (fun w h => h.pick 5 [1, 3, 4] rfl) ?_
        refine d_take 7 rfl (q_move rfl rfl) rfl rfl (by kernel_rfl) (by kernel_rfl) (by kernel_rfl) (fun w h => h.pick 5 [1, 3, 4] rfl) ?_
        refine d_join (σ := Unit × (Option Addr) × Unit) 0 #[true, true, true, true, true, true, true, true, true, true, true, true] (fun s => [(4, (pt x2)), (5, (pt x4))]) (fun s => .row s.2.1 4 3 1 (ii ([(3:Int), (0:Int), (1:Int), (2:Int)] : List Int)) :: .box a0_g 92 [(.slice a0_0_A a0_0_n a0_0_c), (i6 v13)] :: .box x4 37 [(i6 v1), (.slice x3.A x3.n x3.c), (i6 v3)] :: .row x3.A x3.c 3 1 (ii (v2.set v10.toNat v12)) :: .box x2 37 [(i6 (0:Int)), (.slice none 0 0), (i6 (0:Int))] :: .box x1 37 [(i6 a1_0), (.slice a1_1_A a1_1_n a1_1_c), (i6 a1_2)] :: F) ?_ (fun hD4095 => ?_)
        · rintro ⟨x10, x11, x12⟩
          show J _ _ [(4, (pt x2)), (5, (pt x4))] _ (.row x11 4 3 1 (ii ([(3:Int), (0:Int), (1:Int), (2:Int)] : List Int)) :: .box a0_g 92 [(.slice a0_0_A a0_0_n a0_0_c), (i6 v13)] :: .box x4 37 [(i6 v1), (.slice x3.A x3.n x3.c), (i6 v3)] :: .row x3.A x3.c 3 1 (ii (v2.set v10.toNat v12)) :: .box x2 37 [(i6 (0:Int)), (.slice none 0 0), (i6 (0:Int))] :: .box x1 37 [(i6 a1_0), (.slice a1_1_A a1_1_n a1_1_c), (i6 a1_2)] :: F)
          refine d_done (by kernel_rfl) ?_
          refine j_in ?_
          refine j_then ?_
          refine j_seq ?_
          refine j_region ?_
          refine r_q (q_loadb_agg 2 rfl ag37 sz37 rfl rfl rfl rfl) rfl rfl ?_
          refine r_do (a_storeb 4 rfl sz37 rfl rfl rfl rfl (Nat.le_of_ble_eq_true rfl) rfl) rfl rfl (fun _ => ?_)
          refine j_b4 [(i6 v1), (.slice x3.A x3.n x3.c), (i6 v3)] rfl ?_
          refine r_nil ?_
          refine j_then ?_
          refine j_ret ?_
          cases h
          exact j_return rfl (ResOf.cell 4 rfl rfl ag37 sz37 ResOf.nil) rfl (fun w h => ⟨⟨x3.A, x3.n, x3.c, (set_len x3.h _ _)⟩, rfl, h.pick 6 [3, 1] rfl⟩)
        refine d_join (σ := Unit × (Option Addr) × Unit) 1 #[true, true, true, true, true, true, true, true, true, true, true, false] (fun s => [(4, (pt x2)), (5, (pt x4)), (33, (i6 v12)), (34, (.pointer (x3.A.map (·.add (v10.toNat * 1)))))]) (fun s => .row s.2.1 4 3 1 (ii ([(3:Int), (0:Int), (1:Int), (2:Int)] : List Int)) :: .box a0_g 92 [(.slice a0_0_A a0_0_n a0_0_c), (i6 v13)] :: .box x4 37 [(i6 v1), (.slice x3.A x3.n x3.c), (i6 v3)] :: .row x3.A x3.c 3 1 (ii v2) :: .box x2 37 [(i6 (0:Int)), (.slice none 0 0), (i6 (0:Int))] :: .box x1 37 [(i6 a1_0), (.slice a1_1_A a1_1_n a1_1_c), (i6 a1_2)] :: F) ?_ (fun hD2047 => ?_)
        · rintro ⟨x10, x11, x12⟩
          show J _ _ [(4, (pt x2)), (5, (pt x4)), (33, (i6 v12)), (34, (.pointer (x3.A.map (·.add (v10.toNat * 1)))))] _ (.row x11 4 3 1 (ii ([(3:Int), (0:Int), (1:Int), (2:Int)] : List Int)) :: .box a0_g 92 [(.slice a0_0_A a0_0_n a0_0_c), (i6 v13)] :: .box x4 37 [(i6 v1), (.slice x3.A x3.n x3.c), (i6 v3)] :: .row x3.A x3.c 3 1 (ii v2) :: .box x2 37 [(i6 (0:Int)), (.slice none 0 0), (i6 (0:Int))] :: .box x1 37 [(i6 a1_0), (.slice a1_1_A a1_1_n a1_1_c), (i6 a1_2)] :: F)
          refine d_one 11 (by kernel_rfl) ?_
          · refine o_do rfl (a_stI 3 rfl c4 sz3 rfl rfl rfl) rfl rfl (fun _ w h => h.pick 6 [2, 4, 5] rfl) (fun _ => ?_)
            refine j_s3 ?_
            refine j_rs (.row x11 4 3 1 (ii ([(3:Int), (0:Int), (1:Int), (2:Int)] : List Int)) :: .box a0_g 92 [(.slice a0_0_A a0_0_n a0_0_c), (i6 v13)] :: .box x4 37 [(i6 v1), (.slice x3.A x3.n x3.c), (i6 v3)] :: .row x3.A x3.c 3 1 (ii (v2.set v10.toNat v12)) :: .box x2 37 [(i6 (0:Int)), (.slice none 0 0), (i6 (0:Int))] :: .box x1 37 [(i6 a1_0), (.slice a1_1_A a1_1_n a1_1_c), (i6 a1_2)] :: F) (fun _ h => h) ?_
            refine j_env [(4, (pt x2)), (5, (pt x4))] ⟨rfl, rfl, trivial⟩ ?_
            exact hD4095 (x10, x11, x12)
        refine d_join (σ := Unit × (Option Addr) × Unit) 2 #[true, true, true, true, true, true, true, true, true, true, false, false] (fun s => [(4, (pt x2)), (5, (pt x4)), (25, (.slice x3.A x3.n x3.c)), (30, (i6 v10)), (33, (i6 v12))]) (fun s => .row s.2.1 4 3 1 (ii ([(3:Int), (0:Int), (1:Int), (2:Int)] : List Int)) :: .box a0_g 92 [(.slice a0_0_A a0_0_n a0_0_c), (i6 v13)] :: .box x4 37 [(i6 v1), (.slice x3.A x3.n x3.c), (i6 v3)] :: .row x3.A x3.c 3 1 (ii v2) :: .box x2 37 [(i6 (0:Int)), (.slice none 0 0), (i6 (0:Int))] :: .box x1 37 [(i6 a1_0), (.slice a1_1_A a1_1_n a1_1_c), (i6 a1_2)] :: F) ?_ (fun hD1023 => ?_)
        · rintro ⟨x10, x11, x12⟩
          show J _ _ [(4, (pt x2)), (5, (pt x4)), (25, (.slice x3.A x3.n x3.c)), (30, (i6 v10)), (33, (i6 v12))] _ (.row x11 4 3 1 (ii ([(3:Int), (0:Int), (1:Int), (2:Int)] : List Int)) :: .box a0_g 92 [(.slice a0_0_A a0_0_n a0_0_c), (i6 v13)] :: .box x4 37 [(i6 v1), (.slice x3.A x3.n x3.c), (i6 v3)] :: .row x3.A x3.c 3 1 (ii v2) :: .box x2 37 [(i6 (0:Int)), (.slice none 0 0), (i6 (0:Int))] :: .box x1 37 [(i6 a1_0), (.slice a1_1_A a1_1_n a1_1_c), (i6 a1_2)] :: F)
          refine d_one 10 (by kernel_rfl) ?_
          · refine o_do rfl ((q_ix (Rd.row 3 rfl) (ints_len1 _ v2) (by decide) x3.h c4 un22 sz3 rfl rfl rfl)).acts rfl rfl (fun _ w h => h.pick 6 [2, 4, 5] rfl) (fun _ => ?_)
            refine j_rs (.row x11 4 3 1 (ii ([(3:Int), (0:Int), (1:Int), (2:Int)] : List Int)) :: .box a0_g 92 [(.slice a0_0_A a0_0_n a0_0_c), (i6 v13)] :: .box x4 37 [(i6 v1), (.slice x3.A x3.n x3.c), (i6 v3)] :: .row x3.A x3.c 3 1 (ii v2) :: .box x2 37 [(i6 (0:Int)), (.slice none 0 0), (i6 (0:Int))] :: .box x1 37 [(i6 a1_0), (.slice a1_1_A a1_1_n a1_1_c), (i6 a1_2)] :: F) (fun _ h => h) ?_
            refine j_env [(4, (pt x2)), (5, (pt x4)), (33, (i6 v12)), (34, (.pointer (x3.A.map (·.add (v10.toNat * 1)))))] ⟨rfl, rfl, rfl, rfl, trivial⟩ ?_
            exact hD2047 (x10, x11, x12)
        refine d_join (σ := Unit × (Option Addr)) 3 #[true, true, true, true, true, true, true, true, true, false, false, false] (fun s => [(4, (pt x2)), (5, (pt x4)), (25, (.slice x3.A x3.n x3.c)), (30, (i6 v10)), (31, (pt a0_g)), (32, (.slice s.2 4 4))]) (fun s => .row s.2 4 3 1 (ii ([(3:Int), (0:Int), (1:Int), (2:Int)] : List Int)) :: .box a0_g 92 [(.slice a0_0_A a0_0_n a0_0_c), (i6 v11)] :: .box x4 37 [(i6 v1), (.slice x3.A x3.n x3.c), (i6 v3)] :: .row x3.A x3.c 3 1 (ii v2) :: .box x2 37 [(i6 (0:Int)), (.slice none 0 0), (i6 (0:Int))] :: .box x1 37 [(i6 a1_0), (.slice a1_1_A a1_1_n a1_1_c), (i6 a1_2)] :: F) ?_ (fun hD511 => ?_)
        · rintro ⟨x10, x11⟩
          show J _ _ [(4, (pt x2)), (5, (pt x4)), (25, (.slice x3.A x3.n x3.c)), (30, (i6 v10)), (31, (pt a0_g)), (32, (.slice x11 4 4))] _ (.row x11 4 3 1 (ii ([(3:Int), (0:Int), (1:Int), (2:Int)] : List Int)) :: .box a0_g 92 [(.slice a0_0_A a0_0_n a0_0_c), (i6 v11)] :: .box x4 37 [(i6 v1), (.slice x3.A x3.n x3.c), (i6 v3)] :: .row x3.A x3.c 3 1 (ii v2) :: .box x2 37 [(i6 (0:Int)), (.slice none 0 0), (i6 (0:Int))] :: .box x1 37 [(i6 a1_0), (.slice a1_1_A a1_1_n a1_1_c), (i6 a1_2)] :: F)
          refine d_one 9 (by kernel_rfl) ?_
          · refine j_rs (.box a0_g 92 [(.slice a0_0_A a0_0_n a0_0_c), (i6 v11)] :: .row x11 4 3 1 (ii ([(3:Int), (0:Int), (1:Int), (2:Int)] : List Int)) :: .box x4 37 [(i6 v1), (.slice x3.A x3.n x3.c), (i6 v3)] :: .row x3.A x3.c 3 1 (ii v2) :: .box x2 37 [(i6 (0:Int)), (.slice none 0 0), (i6 (0:Int))] :: .box x1 37 [(i6 a1_0), (.slice a1_1_A a1_1_n a1_1_c), (i6 a1_2)] :: F) (fun _ h => h.pick 6 [1, 0, 2, 3, 4, 5] rfl) ?_
            refine o_do rfl (a_call ok70 rfl rfl rfl rfl (fun w hm => spec_l13Rd_num.calls K a0_g a0_0 a0_0_A a0_0_n a0_0_c v11 ([(3:Int), (0:Int), (1:Int), (2:Int)] : List Int) x11 4 4 hm a0_0_h (Rd.drop 5 a0_0_R) rfl (Rd.row 0 rfl) hb6)) rfl rfl (fun x12 w h => h.pick 6 [2, 4, 5] rfl) (fun x12 => ?_)
            refine j_rs (.row x11 4 3 1 (ii ([(3:Int), (0:Int), (1:Int), (2:Int)] : List Int)) :: .box a0_g 92 [(.slice a0_0_A a0_0_n a0_0_c), (i6 v13)] :: .box x4 37 [(i6 v1), (.slice x3.A x3.n x3.c), (i6 v3)] :: .row x3.A x3.c 3 1 (ii v2) :: .box x2 37 [(i6 (0:Int)), (.slice none 0 0), (i6 (0:Int))] :: .box x1 37 [(i6 a1_0), (.slice a1_1_A a1_1_n a1_1_c), (i6 a1_2)] :: F) (fun _ h => h.pick 6 [1, 0, 2, 3, 4, 5] rfl) ?_
            refine j_env [(4, (pt x2)), (5, (pt x4)), (25, (.slice x3.A x3.n x3.c)), (30, (i6 v10)), (33, (i6 v12))] ⟨rfl, rfl, rfl, rfl, rfl, trivial⟩ ?_
            exact hD1023 (x10, x11, x12)
        refine d_join (σ := Unit) 4 #[true, true, true, true, true, true, true, true, false, false, false, false] (fun s => [(4, (pt x2)), (5, (pt x4)), (25, (.slice x3.A x3.n x3.c)), (30, (i6 v10)), (31, (pt a0_g))]) (fun s => .box a0_g 92 [(.slice a0_0_A a0_0_n a0_0_c), (i6 v11)] :: .box x4 37 [(i6 v1), (.slice x3.A x3.n x3.c), (i6 v3)] :: .row x3.A x3.c 3 1 (ii v2) :: .box x2 37 [(i6 (0:Int)), (.slice none 0 0), (i6 (0:Int))] :: .box x1 37 [(i6 a1_0), (.slice a1_1_A a1_1_n a1_1_c), (i6 a1_2)] :: F) ?_ (fun hD255 => ?_)
        · rintro x10
          show J _ _ [(4, (pt x2)), (5, (pt x4)), (25, (.slice x3.A x3.n x3.c)), (30, (i6 v10)), (31, (pt a0_g))] _ (.box a0_g 92 [(.slice a0_0_A a0_0_n a0_0_c), (i6 v11)] :: .box x4 37 [(i6 v1), (.slice x3.A x3.n x3.c), (i6 v3)] :: .row x3.A x3.c 3 1 (ii v2) :: .box x2 37 [(i6 (0:Int)), (.slice none 0 0), (i6 (0:Int))] :: .box x1 37 [(i6 a1_0), (.slice a1_1_A a1_1_n a1_1_c), (i6 a1_2)] :: F)
          refine d_one 8 (by kernel_rfl) ?_
          · refine o_do rfl (a_litX (vs := [(i6 (3:Int)), (i6 (0:Int)), (i6 (1:Int)), (i6 (2:Int))]) (ii ([(3:Int), (0:Int), (1:Int), (2:Int)] : List Int)) un22 sz3 zr3 rfl rfl rfl rfl rfl rfl rfl rfl rfl) rfl rfl (fun x11 w h => h.pick 6 [2, 4, 5] rfl) (fun x11 => ?_)
            refine j_rs (.row x11 4 3 1 (ii ([(3:Int), (0:Int), (1:Int), (2:Int)] : List Int)) :: .box a0_g 92 [(.slice a0_0_A a0_0_n a0_0_c), (i6 v11)] :: .box x4 37 [(i6 v1), (.slice x3.A x3.n x3.c), (i6 v3)] :: .row x3.A x3.c 3 1 (ii v2) :: .box x2 37 [(i6 (0:Int)), (.slice none 0 0), (i6 (0:Int))] :: .box x1 37 [(i6 a1_0), (.slice a1_1_A a1_1_n a1_1_c), (i6 a1_2)] :: F) (fun _ h => h) ?_
            refine j_env [(4, (pt x2)), (5, (pt x4)), (25, (.slice x3.A x3.n x3.c)), (30, (i6 v10)), (31, (pt a0_g)), (32, (.slice x11 4 4))] ⟨rfl, rfl, rfl, rfl, rfl, rfl, trivial⟩ ?_
            exact hD511 (x10, x11)
        refine d_join (σ := (Option Addr)) 4 #[true, true, true, true, true, true, false, true, true, false, false, false] (fun s => [(4, (pt x2)), (5, (pt x4)), (25, (.slice x3.A x3.n x3.c)), (26, (pt a0_g)), (29, (i6 (v2.length : Int))), (31, (pt a0_g)), (32, (.slice s 4 4))]) (fun s => .row s 4 3 1 (ii ([(3:Int), (0:Int), (1:Int), (2:Int)] : List Int)) :: .box a0_g 92 [(.slice a0_0_A a0_0_n a0_0_c), (i6 v5)] :: .box x4 37 [(i6 v1), (.slice x3.A x3.n x3.c), (i6 v3)] :: .row x3.A x3.c 3 1 (ii v2) :: .box x2 37 [(i6 (0:Int)), (.slice none 0 0), (i6 (0:Int))] :: .box x1 37 [(i6 a1_0), (.slice a1_1_A a1_1_n a1_1_c), (i6 a1_2)] :: F) ?_ (fun hD447 => ?_)
        · rintro x11
          show J _ _ [(4, (pt x2)), (5, (pt x4)), (25, (.slice x3.A x3.n x3.c)), (26, (pt a0_g)), (29, (i6 (v2.length : Int))), (31, (pt a0_g)), (32, (.slice x11 4 4))] _ (.row x11 4 3 1 (ii ([(3:Int), (0:Int), (1:Int), (2:Int)] : List Int)) :: .box a0_g 92 [(.slice a0_0_A a0_0_n a0_0_c), (i6 v5)] :: .box x4 37 [(i6 v1), (.slice x3.A x3.n x3.c), (i6 v3)] :: .row x3.A x3.c 3 1 (ii v2) :: .box x2 37 [(i6 (0:Int)), (.slice none 0 0), (i6 (0:Int))] :: .box x1 37 [(i6 a1_0), (.slice a1_1_A a1_1_n a1_1_c), (i6 a1_2)] :: F)
          refine d_one 6 (by kernel_rfl) ?_
          · refine j_rs (.box a0_g 92 [(.slice a0_0_A a0_0_n a0_0_c), (i6 v5)] :: .row x11 4 3 1 (ii ([(3:Int), (0:Int), (1:Int), (2:Int)] : List Int)) :: .box x4 37 [(i6 v1), (.slice x3.A x3.n x3.c), (i6 v3)] :: .row x3.A x3.c 3 1 (ii v2) :: .box x2 37 [(i6 (0:Int)), (.slice none 0 0), (i6 (0:Int))] :: .box x1 37 [(i6 a1_0), (.slice a1_1_A a1_1_n a1_1_c), (i6 a1_2)] :: F) (fun _ h => h.pick 6 [1, 0, 2, 3, 4, 5] rfl) ?_
            refine o_do rfl (a_call ok73 rfl rfl rfl rfl (fun w hm => spec_l13Rd_pick.calls K a0_g a0_0 a0_0_A a0_0_n a0_0_c v5 (v2.length : Int) hm a0_0_h (Rd.drop 5 a0_0_R) hb5)) rfl rfl (fun x10 w h => h.pick 6 [2, 4, 5] rfl) (fun x10 => ?_)
            refine j_rs (.row x11 4 3 1 (ii ([(3:Int), (0:Int), (1:Int), (2:Int)] : List Int)) :: .box a0_g 92 [(.slice a0_0_A a0_0_n a0_0_c), (i6 v11)] :: .box x4 37 [(i6 v1), (.slice x3.A x3.n x3.c), (i6 v3)] :: .row x3.A x3.c 3 1 (ii v2) :: .box x2 37 [(i6 (0:Int)), (.slice none 0 0), (i6 (0:Int))] :: .box x1 37 [(i6 a1_0), (.slice a1_1_A a1_1_n a1_1_c), (i6 a1_2)] :: F) (fun _ h => h.pick 6 [1, 0, 2, 3, 4, 5] rfl) ?_
            refine j_env [(4, (pt x2)), (5, (pt x4)), (25, (.slice x3.A x3.n x3.c)), (30, (i6 v10)), (31, (pt a0_g)), (32, (.slice x11 4 4))] ⟨rfl, rfl, rfl, rfl, rfl, rfl, trivial⟩ ?_
            exact hD511 (x10, x11)
        refine d_two 6 8 (by kernel_rfl) ?_ ?_
        · refine o_do rfl (a_call ok73 rfl rfl rfl rfl (fun w hm => spec_l13Rd_pick.calls K a0_g a0_0 a0_0_A a0_0_n a0_0_c v5 (v2.length : Int) hm a0_0_h (Rd.drop 4 a0_0_R) hb5)) rfl rfl (fun x10 w h => h.pick 5 [1, 3, 4] rfl) (fun x10 => ?_)
          refine j_rs (.box a0_g 92 [(.slice a0_0_A a0_0_n a0_0_c), (i6 v11)] :: .box x4 37 [(i6 v1), (.slice x3.A x3.n x3.c), (i6 v3)] :: .row x3.A x3.c 3 1 (ii v2) :: .box x2 37 [(i6 (0:Int)), (.slice none 0 0), (i6 (0:Int))] :: .box x1 37 [(i6 a1_0), (.slice a1_1_A a1_1_n a1_1_c), (i6 a1_2)] :: F) (fun _ h => h) ?_
          refine j_env [(4, (pt x2)), (5, (pt x4)), (25, (.slice x3.A x3.n x3.c)), (30, (i6 v10)), (31, (pt a0_g))] ⟨rfl, rfl, rfl, rfl, rfl, trivial⟩ ?_
          exact hD255 x10
        · refine o_do rfl (a_litX (vs := [(i6 (3:Int)), (i6 (0:Int)), (i6 (1:Int)), (i6 (2:Int))]) (ii ([(3:Int), (0:Int), (1:Int), (2:Int)] : List Int)) un22 sz3 zr3 rfl rfl rfl rfl rfl rfl rfl rfl rfl) rfl rfl (fun x11 w h => h.pick 6 [2, 4, 5] rfl) (fun x11 => ?_)
          refine j_rs (.row x11 4 3 1 (ii ([(3:Int), (0:Int), (1:Int), (2:Int)] : List Int)) :: .box a0_g 92 [(.slice a0_0_A a0_0_n a0_0_c), (i6 v5)] :: .box x4 37 [(i6 v1), (.slice x3.A x3.n x3.c), (i6 v3)] :: .row x3.A x3.c 3 1 (ii v2) :: .box x2 37 [(i6 (0:Int)), (.slice none 0 0), (i6 (0:Int))] :: .box x1 37 [(i6 a1_0), (.slice a1_1_A a1_1_n a1_1_c), (i6 a1_2)] :: F) (fun _ h => h) ?_
          refine j_env [(4, (pt x2)), (5, (pt x4)), (25, (.slice x3.A x3.n x3.c)), (26, (pt a0_g)), (29, (i6 (v2.length : Int))), (31, (pt a0_g)), (32, (.slice x11 4 4))] ⟨rfl, rfl, rfl, rfl, rfl, rfl, rfl, trivial⟩ ?_
          exact hD447 x11
      · refine j_false rfl (beq_f c3) ?_
        refine j_skip ?_
        refine j_in ?_
        refine j_then ?_
        refine j_seq ?_
        refine j_region ?_
        refine r_q (q_loadb_agg 1 rfl ag37 sz37 rfl rfl rfl rfl) rfl rfl ?_
        refine r_do (a_storeb 3 rfl sz37 rfl rfl rfl rfl (Nat.le_of_ble_eq_true rfl) rfl) rfl rfl (fun _ => ?_)
        refine j_b3 [(i6 v1), (.slice x3.A x3.n x3.c), (i6 v3)] rfl ?_
        refine r_nil ?_
        refine j_then ?_
        refine j_ret ?_
        cases h
        exact j_return rfl (ResOf.cell 3 rfl rfl ag37 sz37 ResOf.nil) rfl (fun w h => ⟨⟨x3.A, x3.n, x3.c, x3.h⟩, rfl, h.pick 5 [2, 0] rfl⟩)

end Go.Proofs.Ytpfkcjddilpbkaa.F
