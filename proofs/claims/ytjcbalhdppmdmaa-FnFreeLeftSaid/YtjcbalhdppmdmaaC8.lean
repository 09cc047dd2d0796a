/- The program computes these pure functions, printed by the generator of wip/gen. -/
import Derived.Test.YtjcbalhdppmdmaaFa
import Derived.Test.YtjcbalhdppmdmaaFb
namespace Go.Proofs.Ytjcbalhdppmdmaa.F
open Go Go.RowKit Go.Proofs.Ytjcbalhdppmdmaa.S
set_option linter.unusedVariables false
set_option maxRecDepth 100000
theorem spec_l13Open.calls (K : Nat) (a0 : List Int) (a0_A : Option Addr) (a0_n a0_c : Nat) {w0 w : World} {F : List Res} (hm : Mem w0 (F) w) (a0_h : a0.length = a0_n) (a0_R : Rd w0 F a0_A (ints .u8 a0)) (a0_k : a0.length ≤ a0_c) (h : spec_l13Open.f K a0 = some ()) :
    Calls Try.prog 66 (List.toArray [.slice a0_A a0_n a0_c]) w fun e w' => ∃ x : Nat, e = .returned (pt x) ∧ Mem w0 (.box x 106 [.slice a0_A (a0.take 2000).length a0_c, i6 (0:Int)] :: F) w' := by
  unfold spec_l13Open.f at h
  refine calls_of_J (n := 11) Try.func66 rfl rfl rfl hm ?_
  refine j_seq ?_
  refine j_region ?_
  refine r_q (q_assign rfl rfl) rfl rfl ?_
  refine r_nil ?_
  refine j_then ?_
  refine j_seq ?_
  refine j_seq ?_
  refine j_region ?_
  refine r_q (q_move rfl rfl) rfl rfl ?_
  refine r_q (q_lenX a0 a0_h un28 rfl rfl rfl rfl rfl) rfl rfl ?_
  refine r_q (q_gtr rfl rfl rfl) rfl rfl ?_
  refine r_nil ?_
  refine j_then ?_
  rcases of_if h with ⟨c1, h⟩ | ⟨c1, h⟩
  · refine j_true rfl (decide_eq_true c1) ?_
    refine j_region ?_
    refine r_q (q_move rfl rfl) rfl rfl ?_
    obtain ⟨c2, h⟩ := of_guard h
    refine j_fact (fun w hm => a0_k) (fun k2 => ?_)
    refine r_q (q_hi a0 a0_h k2 c2 un28 sz5 rfl rfl rfl) rfl rfl ?_
    refine r_q (q_assign rfl rfl) rfl rfl ?_
    refine r_nil ?_
    refine j_then ?_
    refine j_seq ?_
    refine j_region ?_
    refine r_q (q_move rfl rfl) rfl rfl ?_
    refine r_q (q_build (cs := [(.slice a0_A (a0.take (2000:Int).toNat).length a0_c), (i6 (0:Int))]) zr106 pl106 rfl rfl rfl rfl) rfl rfl ?_
    refine r_do (a_box rfl rfl) rfl rfl (fun x1 => ?_)
    refine r_q (q_assign rfl rfl) rfl rfl ?_
    refine r_nil ?_
    refine j_then ?_
    refine j_ret ?_
    refine j_rs (.box x1 106 [.slice a0_A (a0.take 2000).length a0_c, i6 (0:Int)] :: F) (fun _ h => h) ?_
    cases h
    exact j_return rfl (ResOf.tmp rfl ResOf.nil) rfl (fun w h => ⟨x1, rfl, h⟩)
  · refine j_false rfl (decide_eq_false c1) ?_
    refine j_skip ?_
    refine j_then ?_
    refine j_seq ?_
    refine j_region ?_
    refine r_q (q_move rfl rfl) rfl rfl ?_
    refine r_q (q_build (cs := [(.slice a0_A a0_n a0_c), (i6 (0:Int))]) zr106 pl106 rfl rfl rfl rfl) rfl rfl ?_
    refine r_do (a_box rfl rfl) rfl rfl (fun x1 => ?_)
    refine r_q (q_assign rfl rfl) rfl rfl ?_
    refine r_nil ?_
    refine j_then ?_
    refine j_ret ?_
    refine j_rs (.box x1 106 [.slice a0_A (a0.take 2000).length a0_c, i6 (0:Int)] :: F) (fun _ h => by rw [take_all (k := 2000) a0_h c1]; exact h) ?_
    cases h
    exact j_return rfl (ResOf.tmp rfl ResOf.nil) rfl (fun w h => ⟨x1, rfl, h⟩)

theorem spec_l13Rd_pick.calls (K : Nat) (a0_g : Nat) (a0_0 : List Int) (a0_0_A : Option Addr) (a0_0_n a0_0_c : Nat) (a0_1 : Int) (a1 : Int) {w0 w : World} {F : List Res} {r1 : Int} {r2 : Int} (hm : Mem w0 (.box a0_g 106 [.slice a0_0_A a0_0_n a0_0_c, i6 a0_1] :: F) w) (a0_0_h : a0_0.length = a0_0_n) (a0_0_R : Rd w0 F a0_0_A (ints .u8 a0_0)) (h : spec_l13Rd_pick.f K a0_0 a0_1 a1 = some (r1, r2)) :
    Calls Try.prog 68 (List.toArray [pt a0_g, i6 a1]) w fun e w' => ∃ x : Unit, e = .returned (i6 r1) ∧ Mem w0 (.box a0_g 106 [.slice a0_0_A a0_0_n a0_0_c, i6 r2] :: F) w' := by
  unfold spec_l13Rd_pick.f at h
  refine calls_of_J (n := 99) Try.func68 rfl rfl rfl hm ?_
  refine j_seq ?_
  refine j_region ?_
  refine r_q (q_assign rfl rfl) rfl rfl ?_
  refine r_nil ?_
  refine j_then ?_
  refine j_seq ?_
  refine j_region ?_
  refine r_q (q_move rfl rfl) rfl rfl ?_
  refine r_q (q_move rfl rfl) rfl rfl ?_
  refine r_q (q_nilCheck rfl rfl) rfl rfl ?_
  refine r_q (q_fieldAddr fi106_1 sz3 rfl rfl rfl) rfl rfl ?_
  refine r_q (q_loadb 0 rfl ag3 rfl rfl rfl) rfl rfl ?_
  refine r_q (q_add rfl rfl rfl) rfl rfl ?_
  refine r_q (q_nilCheck rfl rfl) rfl rfl ?_
  refine r_q (q_fieldAddr fi106_1 sz3 rfl rfl rfl) rfl rfl ?_
  refine r_do (a_storeb 0 rfl sz3 rfl rfl rfl rfl (Nat.le_of_ble_eq_true rfl) rfl) rfl rfl (fun _ => ?_)
  refine j_b0 [(.slice a0_0_A a0_0_n a0_0_c), (i6 (wrap64 (a0_1 + (1:Int))))] rfl ?_
  refine r_nil ?_
  refine j_then ?_
  refine j_seq ?_
  refine j_seq ?_
  refine j_region ?_
  refine r_q (q_move rfl rfl) rfl rfl ?_
  refine r_q (q_lss rfl rfl rfl) rfl rfl ?_
  refine r_q (q_move rfl rfl) rfl rfl ?_
  rcases of_if h with ⟨c1, h⟩ | ⟨c1, h⟩
  · refine r_off rfl rfl rfl rfl (decide_eq_true c1) rfl ?_
    refine r_off rfl rfl rfl rfl (decide_eq_true c1) rfl ?_
    refine r_off rfl rfl rfl rfl (decide_eq_true c1) rfl ?_
    refine r_off rfl rfl rfl rfl (decide_eq_true c1) rfl ?_
    refine r_off rfl rfl rfl rfl (decide_eq_true c1) rfl ?_
    refine r_off rfl rfl rfl rfl (decide_eq_true c1) rfl ?_
    refine r_q (q_pick_t rfl rfl (decide_eq_true c1) rfl) rfl rfl ?_
    refine r_nil ?_
    refine j_then ?_
    refine j_true rfl rfl ?_
    refine j_seq ?_
    refine j_region ?_
    refine r_q (q_assign rfl rfl) rfl rfl ?_
    refine r_nil ?_
    refine j_then ?_
    refine j_ret ?_
    refine j_then_ret ?_
    cases h
    exact j_return rfl (ResOf.tmp rfl ResOf.nil) rfl (fun w h => ⟨(), rfl, h⟩)
  · refine r_qon (q_move rfl rfl) rfl rfl rfl rfl (decide_eq_false c1) rfl ?_
    refine r_qon (q_nilCheck rfl rfl) rfl rfl rfl rfl (decide_eq_false c1) rfl ?_
    refine r_qon (q_fieldAddr fi106_0 sz28 rfl rfl rfl) rfl rfl rfl rfl (decide_eq_false c1) rfl ?_
    refine r_qon (q_loadb 0 rfl ag28 rfl rfl rfl) rfl rfl rfl rfl (decide_eq_false c1) rfl ?_
    refine r_qon (q_lenX a0_0 a0_0_h un28 rfl rfl rfl rfl rfl) rfl rfl rfl rfl (decide_eq_false c1) rfl ?_
    refine r_qon (q_eql rfl rfl rfl) rfl rfl rfl rfl (decide_eq_false c1) rfl ?_
    refine r_q (q_pick_f rfl rfl (decide_eq_false c1) rfl) rfl rfl ?_
    refine r_nil ?_
    refine j_then ?_
    rcases of_if h with ⟨c2, h⟩ | ⟨c2, h⟩
    · refine j_true rfl (beq_t c2) ?_
      refine j_seq ?_
      refine j_region ?_
      refine r_q (q_assign rfl rfl) rfl rfl ?_
      refine r_nil ?_
      refine j_then ?_
      refine j_ret ?_
      refine j_then_ret ?_
      cases h
      exact j_return rfl (ResOf.tmp rfl ResOf.nil) rfl (fun w h => ⟨(), rfl, h⟩)
    · refine j_false rfl (beq_f c2) ?_
      refine j_skip ?_
      refine j_then ?_
      refine j_seq ?_
      refine j_region ?_
      refine r_q (q_move rfl rfl) rfl rfl ?_
      refine r_q (q_nilCheck rfl rfl) rfl rfl ?_
      refine r_q (q_fieldAddr fi106_1 sz3 rfl rfl rfl) rfl rfl ?_
      refine r_q (q_loadb 0 rfl ag3 rfl rfl rfl) rfl rfl ?_
      refine r_q (q_sub rfl rfl rfl) rfl rfl ?_
      refine r_q (q_assign rfl rfl) rfl rfl ?_
      refine r_nil ?_
      refine j_then ?_
      refine j_seq ?_
      refine j_seq ?_
      refine j_region ?_
      refine r_q (q_move rfl rfl) rfl rfl ?_
      refine r_q (q_move rfl rfl) rfl rfl ?_
      refine r_q (q_nilCheck rfl rfl) rfl rfl ?_
      refine r_q (q_fieldAddr fi106_0 sz28 rfl rfl rfl) rfl rfl ?_
      refine r_q (q_loadb 0 rfl ag28 rfl rfl rfl) rfl rfl ?_
      refine r_q (q_lenX a0_0 a0_0_h un28 rfl rfl rfl rfl rfl) rfl rfl ?_
      refine r_q (q_lss rfl rfl rfl) rfl rfl ?_
      refine r_nil ?_
      refine j_then ?_
      rcases of_if h with ⟨c3, h⟩ | ⟨c3, h⟩
      · refine j_true rfl (decide_eq_true c3) ?_
        refine j_seq ?_
        refine j_region ?_
        refine r_q (q_move rfl rfl) rfl rfl ?_
        refine r_q (q_nilCheck rfl rfl) rfl rfl ?_
        refine r_q (q_fieldAddr fi106_0 sz28 rfl rfl rfl) rfl rfl ?_
        refine r_q (q_loadb 0 rfl ag28 rfl rfl rfl) rfl rfl ?_
        refine r_q (q_move rfl rfl) rfl rfl ?_
        obtain ⟨c4, h⟩ := of_guard h
        refine r_q (q_ix (Rd.drop 1 a0_0_R) (ints_len1 _ a0_0) (by decide) a0_0_h c4 un28 sz5 rfl rfl rfl) rfl rfl ?_
        refine r_q (q_ldI (Rd.drop 1 a0_0_R) c4 ag5 rfl rfl) rfl rfl ?_
        refine r_q (q_int un5 un3 rfl rfl) rfl rfl ?_
        refine r_q (q_move rfl rfl) rfl rfl ?_
        obtain ⟨c5, h⟩ := of_guard h
        refine r_q (q_rem rfl rfl rfl c5) rfl rfl ?_
        refine r_q (q_assign rfl rfl) rfl rfl ?_
        refine r_nil ?_
        refine j_then ?_
        refine j_ret ?_
        refine j_then_ret ?_
        cases h
        exact j_return rfl (ResOf.tmp rfl ResOf.nil) rfl (fun w h => ⟨(), rfl, h⟩)
      · refine j_false rfl (decide_eq_false c3) ?_
        refine j_skip ?_
        refine j_then ?_
        refine j_seq ?_
        obtain ⟨c6, h⟩ := of_guard h
        obtain ⟨c7, h⟩ := of_guard h
        obtain ⟨c8, h⟩ := of_guard h
        refine j_draw (.box a0_g 106 [(.slice a0_0_A a0_0_n a0_0_c), (i6 (wrap64 (a0_1 + (1:Int))))] :: F) 46 follows_any rfl ?_
        refine d_take 0 rfl (q_move rfl rfl) rfl rfl (by kernel_rfl) (by kernel_rfl) (by kernel_rfl) (fun w h => h) ?_
        refine d_take 1 rfl (q_nilCheck rfl rfl) rfl rfl (by kernel_rfl) (by kernel_rfl) (by kernel_rfl) (fun w h => h) ?_
        refine d_take 2 rfl (q_fieldAddr fi106_0 sz28 rfl rfl rfl) rfl rfl (by kernel_rfl) (by kernel_rfl) (by kernel_rfl) (fun w h => h) ?_
        refine d_take 3 rfl (q_loadb 0 rfl ag28 rfl rfl rfl) rfl rfl (by kernel_rfl) (by kernel_rfl) (by kernel_rfl) (fun w h => h) ?_
        refine d_take 4 rfl (q_move rfl rfl) rfl rfl (by kernel_rfl) (by kernel_rfl) (by kernel_rfl) (fun w h => h) ?_
        refine d_take 5 rfl (q_move rfl rfl) rfl rfl (by kernel_rfl) (by kernel_rfl) (by kernel_rfl) (fun w h => h) ?_
        refine d_take 6 rfl (q_nilCheck rfl rfl) rfl rfl (by kernel_rfl) (by kernel_rfl) (by kernel_rfl) (fun w h => h) ?_
        refine d_take 7 rfl (q_fieldAddr fi106_0 sz28 rfl rfl rfl) rfl rfl (by kernel_rfl) (by kernel_rfl) (by kernel_rfl) (fun w h => h) ?_
        refine d_take 8 rfl (q_loadb 0 rfl ag28 rfl rfl rfl) rfl rfl (by kernel_rfl) (by kernel_rfl) (by kernel_rfl) (fun w h => h) ?_
        refine d_take 9 rfl (q_lenX a0_0 a0_0_h un28 rfl rfl rfl rfl rfl) rfl rfl (by kernel_rfl) (by kernel_rfl) (by kernel_rfl) (fun w h => h) ?_
        refine d_take 10 rfl (q_rem rfl rfl rfl c6) rfl rfl (by kernel_rfl) (by kernel_rfl) (by kernel_rfl) (fun w h => h) ?_
        refine d_take 11 rfl (q_ix (Rd.drop 1 a0_0_R) (ints_len1 _ a0_0) (by decide) a0_0_h c7 un28 sz5 rfl rfl rfl) rfl rfl (by kernel_rfl) (by kernel_rfl) (by kernel_rfl) (fun w h => h) ?_
        refine d_take 12 rfl (q_ldI (Rd.drop 1 a0_0_R) c7 ag5 rfl rfl) rfl rfl (by kernel_rfl) (by kernel_rfl) (by kernel_rfl) (fun w h => h) ?_
        refine d_take 13 rfl (q_int un5 un3 rfl rfl) rfl rfl (by kernel_rfl) (by kernel_rfl) (by kernel_rfl) (fun w h => h) ?_
        refine d_take 14 rfl (q_mul rfl rfl rfl) rfl rfl (by kernel_rfl) (by kernel_rfl) (by kernel_rfl) (fun w h => h) ?_
        refine d_take 15 rfl (q_move rfl rfl) rfl rfl (by kernel_rfl) (by kernel_rfl) (by kernel_rfl) (fun w h => h) ?_
        refine d_take 16 rfl (q_nilCheck rfl rfl) rfl rfl (by kernel_rfl) (by kernel_rfl) (by kernel_rfl) (fun w h => h) ?_
        refine d_take 17 rfl (q_fieldAddr fi106_0 sz28 rfl rfl rfl) rfl rfl (by kernel_rfl) (by kernel_rfl) (by kernel_rfl) (fun w h => h) ?_
        refine d_take 18 rfl (q_loadb 0 rfl ag28 rfl rfl rfl) rfl rfl (by kernel_rfl) (by kernel_rfl) (by kernel_rfl) (fun w h => h) ?_
        refine d_take 19 rfl (q_move rfl rfl) rfl rfl (by kernel_rfl) (by kernel_rfl) (by kernel_rfl) (fun w h => h) ?_
        refine d_take 20 rfl (q_mul rfl rfl rfl) rfl rfl (by kernel_rfl) (by kernel_rfl) (by kernel_rfl) (fun w h => h) ?_
        refine d_take 21 rfl (q_add rfl rfl rfl) rfl rfl (by kernel_rfl) (by kernel_rfl) (by kernel_rfl) (fun w h => h) ?_
        refine d_take 22 rfl (q_move rfl rfl) rfl rfl (by kernel_rfl) (by kernel_rfl) (by kernel_rfl) (fun w h => h) ?_
        refine d_take 23 rfl (q_nilCheck rfl rfl) rfl rfl (by kernel_rfl) (by kernel_rfl) (by kernel_rfl) (fun w h => h) ?_
        refine d_take 24 rfl (q_fieldAddr fi106_0 sz28 rfl rfl rfl) rfl rfl (by kernel_rfl) (by kernel_rfl) (by kernel_rfl) (fun w h => h) ?_
        refine d_take 25 rfl (q_loadb 0 rfl ag28 rfl rfl rfl) rfl rfl (by kernel_rfl) (by kernel_rfl) (by kernel_rfl) (fun w h => h) ?_
        refine d_take 26 rfl (q_lenX a0_0 a0_0_h un28 rfl rfl rfl rfl rfl) rfl rfl (by kernel_rfl) (by kernel_rfl) (by kernel_rfl) (fun w h => h) ?_
        refine d_take 27 rfl (q_rem rfl rfl rfl c6) rfl rfl (by kernel_rfl) (by kernel_rfl) (by kernel_rfl) (fun w h => h) ?_
        refine d_take 28 rfl (q_ix (Rd.drop 1 a0_0_R) (ints_len1 _ a0_0) (by decide) a0_0_h c8 un28 sz5 rfl rfl rfl) rfl rfl (by kernel_rfl) (by kernel_rfl) (by kernel_rfl) (fun w h => h) ?_
        refine d_take 29 rfl (q_ldI (Rd.drop 1 a0_0_R) c8 ag5 rfl rfl) rfl rfl (by kernel_rfl) (by kernel_rfl) (by kernel_rfl) (fun w h => h) ?_
        refine d_take 30 rfl (q_int un5 un3 rfl rfl) rfl rfl (by kernel_rfl) (by kernel_rfl) (by kernel_rfl) (fun w h => h) ?_
        refine d_take 31 rfl (q_mul rfl rfl rfl) rfl rfl (by kernel_rfl) (by kernel_rfl) (by kernel_rfl) (fun w h => h) ?_
        refine d_take 32 rfl (q_add rfl rfl rfl) rfl rfl (by kernel_rfl) (by kernel_rfl) (by kernel_rfl) (fun w h => h) ?_
        refine d_take 33 rfl (q_move rfl rfl) rfl rfl (by kernel_rfl) (by kernel_rfl) (by kernel_rfl) (fun w h => h) ?_
        refine d_take 34 rfl (q_mul rfl rfl rfl) rfl rfl (by kernel_rfl) (by kernel_rfl) (by kernel_rfl) (fun w h => h) ?_
        refine d_take 35 rfl (q_add rfl rfl rfl) rfl rfl (by kernel_rfl) (by kernel_rfl) (by kernel_rfl) (fun w h => h) ?_
        refine d_take 36 rfl (q_move rfl rfl) rfl rfl (by kernel_rfl) (by kernel_rfl) (by kernel_rfl) (fun w h => h) ?_
        refine d_take 37 rfl (q_move rfl rfl) rfl rfl (by kernel_rfl) (by kernel_rfl) (by kernel_rfl) (fun w h => h) ?_
        refine d_take 38 rfl (q_nilCheck rfl rfl) rfl rfl (by kernel_rfl) (by kernel_rfl) (by kernel_rfl) (fun w h => h) ?_
        refine d_take 39 rfl (q_fieldAddr fi106_0 sz28 rfl rfl rfl) rfl rfl (by kernel_rfl) (by kernel_rfl) (by kernel_rfl) (fun w h => h) ?_
        refine d_take 40 rfl (q_loadb 0 rfl ag28 rfl rfl rfl) rfl rfl (by kernel_rfl) (by kernel_rfl) (by kernel_rfl) (fun w h => h) ?_
        refine d_take 41 rfl (q_lenX a0_0 a0_0_h un28 rfl rfl rfl rfl rfl) rfl rfl (by kernel_rfl) (by kernel_rfl) (by kernel_rfl) (fun w h => h) ?_
        refine d_take 42 rfl (q_quo rfl rfl rfl c6) rfl rfl (by kernel_rfl) (by kernel_rfl) (by kernel_rfl) (fun w h => h) ?_
        refine d_take 43 rfl (q_mul rfl rfl rfl) rfl rfl (by kernel_rfl) (by kernel_rfl) (by kernel_rfl) (fun w h => h) ?_
        refine d_take 44 rfl (q_add rfl rfl rfl) rfl rfl (by kernel_rfl) (by kernel_rfl) (by kernel_rfl) (fun w h => h) ?_
        refine d_take 45 rfl (q_assign rfl rfl) rfl rfl (by kernel_rfl) (by kernel_rfl) (by kernel_rfl) (fun w h => h) ?_
        refine d_done (by kernel_rfl) ?_
        refine j_then ?_
        refine j_seq ?_
        refine j_region ?_
        refine r_q (q_move rfl rfl) rfl rfl ?_
        refine r_q (q_move rfl rfl) rfl rfl ?_
        refine r_q (q_quo rfl rfl rfl (by decide)) rfl rfl ?_
        refine r_q (q_xor rfl rfl rfl) rfl rfl ?_
        refine r_q (q_assign rfl rfl) rfl rfl ?_
        refine r_nil ?_
        refine j_then ?_
        refine j_seq ?_
        refine j_region ?_
        refine r_q (q_move rfl rfl) rfl rfl ?_
        refine r_q (q_move rfl rfl) rfl rfl ?_
        obtain ⟨c9, h⟩ := of_guard h
        refine r_q (q_rem rfl rfl rfl c9) rfl rfl ?_
        refine r_q (q_assign rfl rfl) rfl rfl ?_
        refine r_nil ?_
        refine j_then ?_
        refine j_ret ?_
        cases h
        exact j_return rfl (ResOf.tmp rfl ResOf.nil) rfl (fun w h => ⟨(), rfl, h⟩)

theorem spec_l13Rd_num.calls (K : Nat) (a0_g : Nat) (a0_0 : List Int) (a0_0_A : Option Addr) (a0_0_n a0_0_c : Nat) (a0_1 : Int) (a1 : List Int) (a1_A : Option Addr) (a1_n a1_c : Nat) {w0 w : World} {F : List Res} {r1 : Int} {r2 : Int} (hm : Mem w0 (.box a0_g 106 [.slice a0_0_A a0_0_n a0_0_c, i6 a0_1] :: F) w) (a0_0_h : a0_0.length = a0_0_n) (a0_0_R : Rd w0 F a0_0_A (ints .u8 a0_0)) (a1_h : a1.length = a1_n) (a1_R : Rd w0 F a1_A (ii a1)) (h : spec_l13Rd_num.f K a0_0 a0_1 a1 = some (r1, r2)) :
    Calls Try.prog 69 (List.toArray [pt a0_g, .slice a1_A a1_n a1_c]) w fun e w' => ∃ x : Unit, e = .returned (i6 r1) ∧ Mem w0 (.box a0_g 106 [.slice a0_0_A a0_0_n a0_0_c, i6 r2] :: F) w' := by
  unfold spec_l13Rd_num.f at h
  refine calls_of_J (n := 12) Try.func69 rfl rfl rfl hm ?_
  refine j_seq ?_
  refine j_region ?_
  refine r_q (q_assign rfl rfl) rfl rfl ?_
  refine r_nil ?_
  refine j_then ?_
  refine j_seq ?_
  refine j_region ?_
  refine r_q (q_move rfl rfl) rfl rfl ?_
  refine r_q (q_move rfl rfl) rfl rfl ?_
  refine r_q (q_move rfl rfl) rfl rfl ?_
  refine r_q (q_lenX a1 a1_h un32 rfl rfl rfl rfl rfl) rfl rfl ?_
  obtain ⟨v1, v2, hb1, h⟩ := of_b2 h
  refine r_do (a_call ok68 rfl rfl rfl rfl (fun w hm => spec_l13Rd_pick.calls K a0_g a0_0 a0_0_A a0_0_n a0_0_c a0_1 (a1.length : Int) hm a0_0_h a0_0_R hb1)) rfl rfl (fun x1 => ?_)
  obtain ⟨c1, h⟩ := of_guard h
  refine r_q (q_ix (Rd.drop 1 a1_R) (ints_len1 _ a1) (by decide) a1_h c1 un32 sz3 rfl rfl rfl) rfl rfl ?_
  refine r_q (q_ldI (Rd.drop 1 a1_R) c1 ag3 rfl rfl) rfl rfl ?_
  refine r_q (q_assign rfl rfl) rfl rfl ?_
  refine r_nil ?_
  refine j_then ?_
  refine j_ret ?_
  cases h
  exact j_return rfl (ResOf.tmp rfl ResOf.nil) rfl (fun w h => ⟨(), rfl, h⟩)

end Go.Proofs.Ytjcbalhdppmdmaa.F
