/- The program computes these pure functions, printed by the generator of wip/gen. -/
import Derived.Test.YtpfkcjddilpbkaaFa
import Derived.Test.YtpfkcjddilpbkaaFi
import Derived.Test.YtpfkcjddilpbkaaFb
import Derived.Test.YtpfkcjddilpbkaaC0
namespace Go.Proofs.Ytpfkcjddilpbkaa.F
open Go Go.RowKit Go.Proofs.Ytpfkcjddilpbkaa.S
set_option linter.unusedVariables false
set_option maxRecDepth 100000
theorem spec_l13Open.calls (K : Nat) (a0 : List Int) (a0_A : Option Addr) (a0_n a0_c : Nat) {w0 w : World} {F : List Res} (hm : Mem w0 (F) w) (a0_h : a0.length = a0_n) (a0_R : Rd w0 F a0_A (ints .u8 a0)) (a0_k : a0.length ≤ a0_c) (h : spec_l13Open.f K a0 = some ()) :
    Calls Try.prog 40 (List.toArray [.slice a0_A a0_n a0_c]) w fun e w' => ∃ x : Nat, e = .returned (pt x) ∧ Mem w0 (.box x 92 [.slice a0_A (a0.take 2000).length a0_c, i6 (0:Int)] :: F) w' := by
  unfold spec_l13Open.f at h
  refine calls_of_J (n := 11) Try.func40 rfl rfl rfl hm ?_
  refine j_seq ?_
  refine j_region ?_
  refine r_q (q_assign rfl rfl) rfl rfl ?_
  refine r_nil ?_
  refine j_then ?_
  refine j_seq ?_
  refine j_seq ?_
  refine j_region ?_
  refine r_q (q_move rfl rfl) rfl rfl ?_
  refine r_q (q_lenX a0 a0_h un43 rfl rfl rfl rfl rfl) rfl rfl ?_
  refine r_q (q_gtr rfl rfl rfl) rfl rfl ?_
  refine r_nil ?_
  refine j_then ?_
  rcases of_if h with ⟨c1, h⟩ | ⟨c1, h⟩
  · refine j_true rfl (decide_eq_true c1) ?_
    refine j_region ?_
    refine r_q (q_move rfl rfl) rfl rfl ?_
    obtain ⟨c2, h⟩ := of_guard h
    refine j_fact (fun w hm => a0_k) (fun k2 => ?_)
    refine r_q (q_hi a0 a0_h k2 c2 un43 sz5 rfl rfl rfl) rfl rfl ?_
    refine r_q (q_assign rfl rfl) rfl rfl ?_
    refine r_nil ?_
    refine j_then ?_
    refine j_seq ?_
    refine j_region ?_
    refine r_q (q_move rfl rfl) rfl rfl ?_
    refine r_q (q_build (cs := [(.slice a0_A (a0.take (2000:Int).toNat).length a0_c), (i6 (0:Int))]) zr92 pl92 rfl rfl rfl rfl) rfl rfl ?_
    refine r_do (a_box rfl rfl) rfl rfl (fun x1 => ?_)
    refine r_q (q_assign rfl rfl) rfl rfl ?_
    refine r_nil ?_
    refine j_then ?_
    refine j_ret ?_
    refine j_rs (.box x1 92 [.slice a0_A (a0.take 2000).length a0_c, i6 (0:Int)] :: F) (fun _ h => h) ?_
    cases h
    exact j_return rfl (ResOf.tmp rfl ResOf.nil) rfl (fun w h => ⟨x1, rfl, h⟩)
  · refine j_false rfl (decide_eq_false c1) ?_
    refine j_skip ?_
    refine j_then ?_
    refine j_seq ?_
    refine j_region ?_
    refine r_q (q_move rfl rfl) rfl rfl ?_
    refine r_q (q_build (cs := [(.slice a0_A a0_n a0_c), (i6 (0:Int))]) zr92 pl92 rfl rfl rfl rfl) rfl rfl ?_
    refine r_do (a_box rfl rfl) rfl rfl (fun x1 => ?_)
    refine r_q (q_assign rfl rfl) rfl rfl ?_
    refine r_nil ?_
    refine j_then ?_
    refine j_ret ?_
    refine j_rs (.box x1 92 [.slice a0_A (a0.take 2000).length a0_c, i6 (0:Int)] :: F) (fun _ h => by rw [take_all (k := 2000) a0_h c1]; exact h) ?_
    cases h
    exact j_return rfl (ResOf.tmp rfl ResOf.nil) rfl (fun w h => ⟨x1, rfl, h⟩)

theorem spec_l13Rd_pick.calls (K : Nat) (a0_g : Nat) (a0_0 : List Int) (a0_0_A : Option Addr) (a0_0_n a0_0_c : Nat) (a0_1 : Int) (a1 : Int) {w0 w : World} {F : List Res} {r1 : Int} {r2 : Int} (hm : Mem w0 (.box a0_g 92 [.slice a0_0_A a0_0_n a0_0_c, i6 a0_1] :: F) w) (a0_0_h : a0_0.length = a0_0_n) (a0_0_R : Rd w0 F a0_0_A (ints .u8 a0_0)) (h : spec_l13Rd_pick.f K a0_0 a0_1 a1 = some (r1, r2)) :
    Calls Try.prog 73 (List.toArray [pt a0_g, i6 a1]) w fun e w' => ∃ x : Unit, e = .returned (i6 r1) ∧ Mem w0 (.box a0_g 92 [.slice a0_0_A a0_0_n a0_0_c, i6 r2] :: F) w' := by
  unfold spec_l13Rd_pick.f at h
  refine calls_of_J (n := 99) Try.func73 rfl rfl rfl hm ?_
  refine j_seq ?_
  refine j_region ?_
  refine r_q (q_assign rfl rfl) rfl rfl ?_
  refine r_nil ?_
  refine j_then ?_
  refine j_seq ?_
  refine j_region ?_
  refine r_q (q_move rfl rfl) rfl rfl ?_
  refine r_q (q_move rfl rfl) rfl rfl ?_
  refine r_q (q_nilCheck rfl rfl) rfl rfl ?_
  refine r_q (q_fieldAddr fi92_1 sz3 rfl rfl rfl) rfl rfl ?_
  refine r_q (q_loadb 0 rfl ag3 rfl rfl rfl) rfl rfl ?_
  refine r_q (q_add rfl rfl rfl) rfl rfl ?_
  refine r_q (q_nilCheck rfl rfl) rfl rfl ?_
  refine r_q (q_fieldAddr fi92_1 sz3 rfl rfl rfl) rfl rfl ?_
  refine r_do (a_storeb 0 rfl sz3 rfl rfl rfl rfl (Nat.le_of_ble_eq_true rfl) rfl) rfl rfl (fun _ => ?_)
  refine j_b0 [(.slice a0_0_A a0_0_n a0_0_c), (i6 (wrap64 (a0_1 + (1:Int))))] rfl ?_
  refine r_nil ?_
  refine j_then ?_
  refine j_seq ?_
  refine j_seq ?_
  refine j_region ?_
  refine r_q (q_move rfl rfl) rfl rfl ?_
  refine r_q (q_lss rfl rfl rfl) rfl rfl ?_
  refine r_q (q_move rfl rfl) rfl rfl ?_
  rcases of_if h with ⟨c1, h⟩ | ⟨c1, h⟩
  · refine r_off rfl rfl rfl rfl (decide_eq_true c1) rfl ?_
    refine r_off rfl rfl rfl rfl (decide_eq_true c1) rfl ?_
    refine r_off rfl rfl rfl rfl (decide_eq_true c1) rfl ?_
    refine r_off rfl rfl rfl rfl (decide_eq_true c1) rfl ?_
    refine r_off rfl rfl rfl rfl (decide_eq_true c1) rfl ?_
    refine r_off rfl rfl rfl rfl (decide_eq_true c1) rfl ?_
    refine r_q (q_pick_t rfl rfl (decide_eq_true c1) rfl) rfl rfl ?_
    refine r_nil ?_
    refine j_then ?_
    refine j_true rfl rfl ?_
    refine j_seq ?_
    refine j_region ?_
    refine r_q (q_assign rfl rfl) rfl rfl ?_
    refine r_nil ?_
    refine j_then ?_
    refine j_ret ?_
    refine j_then_ret ?_
    cases h
    exact j_return rfl (ResOf.tmp rfl ResOf.nil) rfl (fun w h => ⟨(), rfl, h⟩)
  · refine r_qon (q_move rfl rfl) rfl rfl rfl rfl (decide_eq_false c1) rfl ?_
    refine r_qon (q_nilCheck rfl rfl) rfl rfl rfl rfl (decide_eq_false c1) rfl ?_
    refine r_qon (q_fieldAddr fi92_0 sz43 rfl rfl rfl) rfl rfl rfl rfl (decide_eq_false c1) rfl ?_
    refine r_qon (q_loadb 0 rfl ag43 rfl rfl rfl) rfl rfl rfl rfl (decide_eq_false c1) rfl ?_
    refine r_qon (q_lenX a0_0 a0_0_h un43 rfl rfl rfl rfl rfl) rfl rfl rfl rfl (decide_eq_false c1) rfl ?_
    refine r_qon (q_eql rfl rfl rfl) rfl rfl rfl rfl (decide_eq_false c1) rfl ?_
    refine r_q (q_pick_f rfl rfl (decide_eq_false c1) rfl) rfl rfl ?_
    refine r_nil ?_
    refine j_then ?_
    rcases of_if h with ⟨c2, h⟩ | ⟨c2, h⟩
    · refine j_true rfl (beq_t c2) ?_
      refine j_seq ?_
      refine j_region ?_
      refine r_q (q_assign rfl rfl) rfl rfl ?_
      refine r_nil ?_
      refine j_then ?_
      refine j_ret ?_
      refine j_then_ret ?_
      cases h
      exact j_return rfl (ResOf.tmp rfl ResOf.nil) rfl (fun w h => ⟨(), rfl, h⟩)
    · refine j_false rfl (beq_f c2) ?_
      refine j_skip ?_
      refine j_then ?_
      refine j_seq ?_
      refine j_region ?_
      refine r_q (q_move rfl rfl) rfl rfl ?_
      refine r_q (q_nilCheck rfl rfl) rfl rfl ?_
      refine r_q (q_fieldAddr fi92_1 sz3 rfl rfl rfl) rfl rfl ?_
      refine r_q (q_loadb 0 rfl ag3 rfl rfl rfl) rfl rfl ?_
      refine r_q (q_sub rfl rfl rfl) rfl rfl ?_
      refine r_q (q_assign rfl rfl) rfl rfl ?_
      refine r_nil ?_
      refine j_then ?_
      refine j_seq ?_
      refine j_seq ?_
      refine j_region ?_
      refine r_q (q_move rfl rfl) rfl rfl ?_
      refine r_q (q_move rfl rfl) rfl rfl ?_
      refine r_q (q_nilCheck rfl rfl) rfl rfl ?_
      refine r_q (q_fieldAddr fi92_0 sz43 rfl rfl rfl) rfl rfl ?_
      refine r_q (q_loadb 0 rfl ag43 rfl rfl rfl) rfl rfl ?_
      refine r_q (q_lenX a0_0 a0_0_h un43 rfl rfl rfl rfl rfl) rfl rfl ?_
      refine r_q (q_lss rfl rfl rfl) rfl rfl ?_
      refine r_nil ?_
      refine j_then ?_
      rcases of_if h with ⟨c3, h⟩ | ⟨c3, h⟩
      · refine j_true rfl (decide_eq_true c3) ?_
        refine j_seq ?_
        refine j_region ?_
        refine r_q (q_move rfl rfl) rfl rfl ?_
        refine r_q (q_nilCheck rfl rfl) rfl rfl ?_
        refine r_q (q_fieldAddr fi92_0 sz43 rfl rfl rfl) rfl rfl ?_
        refine r_q (q_loadb 0 rfl ag43 rfl rfl rfl) rfl rfl ?_
        refine r_q (q_move rfl rfl) rfl rfl ?_
        obtain ⟨c4, h⟩ := of_guard h
        refine r_q (q_ix (Rd.drop 1 a0_0_R) (ints_len1 _ a0_0) (by decide) a0_0_h c4 un43 sz5 rfl rfl rfl) rfl rfl ?_
        refine r_q (q_ldI (Rd.drop 1 a0_0_R) c4 ag5 rfl rfl) rfl rfl ?_
        refine r_q (q_int un5 un3 rfl rfl) rfl rfl ?_
        refine r_q (q_move rfl rfl) rfl rfl ?_
        obtain ⟨c5, h⟩ := of_guard h
        refine r_q (q_rem rfl rfl rfl c5) rfl rfl ?_
        refine r_q (q_assign rfl rfl) rfl rfl ?_
        refine r_nil ?_
        refine j_then ?_
        refine j_ret ?_
        refine j_then_ret ?_
        cases h
        exact j_return rfl (ResOf.tmp rfl ResOf.nil) rfl (fun w h => ⟨(), rfl, h⟩)
      · refine j_false rfl (decide_eq_false c3) ?_
        refine j_skip ?_
        refine j_then ?_
        refine j_seq ?_
        obtain ⟨c6, h⟩ := of_guard h
        obtain ⟨c7, h⟩ := of_guard h
        obtain ⟨c8, h⟩ := of_guard h
        refine j_draw (.box a0_g 92 [(.slice a0_0_A a0_0_n a0_0_c), (i6 (wrap64 (a0_1 + (1:Int))))] :: F) 46 follows_any rfl ?_
        refine d_take 0 rfl (q_move rfl rfl) rfl rfl (by kernel_rfl) (by kernel_rfl) (by kernel_rfl) (fun w h => h) ?_
        refine d_take 1 rfl (q_nilCheck rfl rfl) rfl rfl (by kernel_rfl) (by kernel_rfl) (by kernel_rfl) (fun w h => h) ?_
        refine d_take 2 rfl (q_fieldAddr fi92_0 sz43 rfl rfl rfl) rfl rfl (by kernel_rfl) (by kernel_rfl) (by kernel_rfl) (fun w h => h) ?_
        refine d_take 3 rfl (q_loadb 0 rfl ag43 rfl rfl rfl) rfl rfl (by kernel_rfl) (by kernel_rfl) (by kernel_rfl) (fun w h => h) ?_
        refine d_take 4 rfl (q_move rfl rfl) rfl rfl (by kernel_rfl) (by kernel_rfl) (by kernel_rfl) (fun w h => h) ?_
        refine d_take 5 rfl (q_move rfl rfl) rfl rfl (by kernel_rfl) (by kernel_rfl) (by kernel_rfl) (fun w h => h) ?_
        refine d_take 6 rfl (q_nilCheck rfl rfl) rfl rfl (by kernel_rfl) (by kernel_rfl) (by kernel_rfl) (fun w h => h) ?_
        refine d_take 7 rfl (q_fieldAddr fi92_0 sz43 rfl rfl rfl) rfl rfl (by kernel_rfl) (by kernel_rfl) (by kernel_rfl) (fun w h => h) ?_
        refine d_take 8 rfl (q_loadb 0 rfl ag43 rfl rfl rfl) rfl rfl (by kernel_rfl) (by kernel_rfl) (by kernel_rfl) (fun w h => h) ?_
        refine d_take 9 rfl (q_lenX a0_0 a0_0_h un43 rfl rfl rfl rfl rfl) rfl rfl (by kernel_rfl) (by kernel_rfl) (by kernel_rfl) (fun w h => h) ?_
        refine d_take 10 rfl (q_rem rfl rfl rfl c6) rfl rfl (by kernel_rfl) (by kernel_rfl) (by kernel_rfl) (fun w h => h) ?_
        refine d_take 11 rfl (q_ix (Rd.drop 1 a0_0_R) (ints_len1 _ a0_0) (by decide) a0_0_h c7 un43 sz5 rfl rfl rfl) rfl rfl (by kernel_rfl) (by kernel_rfl) (by kernel_rfl) (fun w h => h) ?_
        refine d_take 12 rfl (q_ldI (Rd.drop 1 a0_0_R) c7 ag5 rfl rfl) rfl rfl (by kernel_rfl) (by kernel_rfl) (by kernel_rfl) (fun w h => h) ?_
        refine d_take 13 rfl (q_int un5 un3 rfl rfl) rfl rfl (by kernel_rfl) (by kernel_rfl) (by kernel_rfl) (fun w h => h) ?_
        refine d_take 14 rfl (q_mul rfl rfl rfl) rfl rfl (by kernel_rfl) (by kernel_rfl) (by kernel_rfl) (fun w h => h) ?_
        refine d_take 15 rfl (q_move rfl rfl) rfl rfl (by kernel_rfl) (by kernel_rfl) (by kernel_rfl) (fun w h => h) ?_
        refine d_take 16 rfl (q_nilCheck rfl rfl) rfl rfl (by kernel_rfl) (by kernel_rfl) (by kernel_rfl) (fun w h => h) ?_
        refine d_take 17 rfl (q_fieldAddr fi92_0 sz43 rfl rfl rfl) rfl rfl (by kernel_rfl) (by kernel_rfl) (by kernel_rfl) (fun w h => h) ?_
        refine d_take 18 rfl (q_loadb 0 rfl ag43 rfl rfl rfl) rfl rfl (by kernel_rfl) (by kernel_rfl) (by kernel_rfl) (fun w h => h) ?_
        refine d_take 19 rfl (q_move rfl rfl) rfl rfl (by kernel_rfl) (by kernel_rfl) (by kernel_rfl) (fun w h => h) ?_
        refine d_take 20 rfl (q_mul rfl rfl rfl) rfl rfl (by kernel_rfl) (by kernel_rfl) (by kernel_rfl) (fun w h => h) ?_
        refine d_take 21 rfl (q_add rfl rfl rfl) rfl rfl (by kernel_rfl) (by kernel_rfl) (by kernel_rfl) (fun w h => h) ?_
        refine d_take 22 rfl (q_move rfl rfl) rfl rfl (by kernel_rfl) (by kernel_rfl) (by kernel_rfl) (fun w h => h) ?_
        refine d_take 23 rfl (q_nilCheck rfl rfl) rfl rfl (by kernel_rfl) (by kernel_rfl) (by kernel_rfl) (fun w h => h) ?_
        refine d_take 24 rfl (q_fieldAddr fi92_0 sz43 rfl rfl rfl) rfl rfl (by kernel_rfl) (by kernel_rfl) (by kernel_rfl) (fun w h => h) ?_
        refine d_take 25 rfl (q_loadb 0 rfl ag43 rfl rfl rfl) rfl rfl (by kernel_rfl) (by kernel_rfl) (by kernel_rfl) (fun w h => h) ?_
        refine d_take 26 rfl (q_lenX a0_0 a0_0_h un43 rfl rfl rfl rfl rfl) rfl rfl (by kernel_rfl) (by kernel_rfl) (by kernel_rfl) (fun w h => h) ?_
        refine d_take 27 rfl (q_rem rfl rfl rfl c6) rfl rfl (by kernel_rfl) (by kernel_rfl) (by kernel_rfl) (fun w h => h) ?_
        refine d_take 28 rfl (q_ix (Rd.drop 1 a0_0_R) (ints_len1 _ a0_0) (by decide) a0_0_h c8 un43 sz5 rfl rfl rfl) rfl rfl (by kernel_rfl) (by kernel_rfl) (by kernel_rfl) (fun w h => h) ?_
        refine d_take 29 rfl (q_ldI (Rd.drop 1 a0_0_R) c8 ag5 rfl rfl) rfl rfl (by kernel_rfl) (by kernel_rfl) (by kernel_rfl) (fun w h => h) ?_
        refine d_take 30 rfl (q_int un5 un3 rfl rfl) rfl rfl (by kernel_rfl) (by kernel_rfl) (by kernel_rfl) (fun w h => h) ?_
        refine d_take 31 rfl (q_mul rfl rfl rfl) rfl rfl (by kernel_rfl) (by kernel_rfl) (by kernel_rfl) (fun w h => h) ?_
        refine d_take 32 rfl (q_add rfl rfl rfl) rfl rfl (by kernel_rfl) (by kernel_rfl) (by kernel_rfl) (fun w h => h) ?_
        refine d_take 33 rfl (q_move rfl rfl) rfl rfl (by kernel_rfl) (by kernel_rfl) (by kernel_rfl) (fun w h => h) ?_
        refine d_take 34 rfl (q_mul rfl rfl rfl) rfl rfl (by kernel_rfl) (by kernel_rfl) (by kernel_rfl) (fun w h => h) ?_
        refine d_take 35 rfl (q_add rfl rfl rfl) rfl rfl (by kernel_rfl) (by kernel_rfl) (by kernel_rfl) (fun w h => h) ?_
        refine d_take 36 rfl (q_move rfl rfl) rfl rfl (by kernel_rfl) (by kernel_rfl) (by kernel_rfl) (fun w h => h) ?_
        refine d_take 37 rfl (q_move rfl rfl) rfl rfl (by kernel_rfl) (by kernel_rfl) (by kernel_rfl) (fun w h => h) ?_
        refine d_take 38 rfl (q_nilCheck rfl rfl) rfl rfl (by kernel_rfl) (by kernel_rfl) (by kernel_rfl) (fun w h => h) ?_
        refine d_take 39 rfl (q_fieldAddr fi92_0 sz43 rfl rfl rfl) rfl rfl (by kernel_rfl) (by kernel_rfl) (by kernel_rfl) (fun w h => h) ?_
        refine d_take 40 rfl (q_loadb 0 rfl ag43 rfl rfl rfl) rfl rfl (by kernel_rfl) (by kernel_rfl) (by kernel_rfl) (fun w h => h) ?_
        refine d_take 41 rfl (q_lenX a0_0 a0_0_h un43 rfl rfl rfl rfl rfl) rfl rfl (by kernel_rfl) (by kernel_rfl) (by kernel_rfl) (fun w h => h) ?_
        refine d_take 42 rfl (q_quo rfl rfl rfl c6) rfl rfl (by kernel_rfl) (by kernel_rfl) (by kernel_rfl) (fun w h => h) ?_
        refine d_take 43 rfl (q_mul rfl rfl rfl) rfl rfl (by kernel_rfl) (by kernel_rfl) (by kernel_rfl) (fun w h => h) ?_
        refine d_take 44 rfl (q_add rfl rfl rfl) rfl rfl (by kernel_rfl) (by kernel_rfl) (by kernel_rfl) (fun w h => h) ?_
        refine d_take 45 rfl (q_assign rfl rfl) rfl rfl (by kernel_rfl) (by kernel_rfl) (by kernel_rfl) (fun w h => h) ?_
        refine d_done (by kernel_rfl) ?_
        refine j_then ?_
        refine j_seq ?_
        refine j_region ?_
        refine r_q (q_move rfl rfl) rfl rfl ?_
        refine r_q (q_move rfl rfl) rfl rfl ?_
        refine r_q (q_quo rfl rfl rfl (by decide)) rfl rfl ?_
        refine r_q (q_xor rfl rfl rfl) rfl rfl ?_
        refine r_q (q_assign rfl rfl) rfl rfl ?_
        refine r_nil ?_
        refine j_then ?_
        refine j_seq ?_
        refine j_region ?_
        refine r_q (q_move rfl rfl) rfl rfl ?_
        refine r_q (q_move rfl rfl) rfl rfl ?_
        obtain ⟨c9, h⟩ := of_guard h
        refine r_q (q_rem rfl rfl rfl c9) rfl rfl ?_
        refine r_q (q_assign rfl rfl) rfl rfl ?_
        refine r_nil ?_
        refine j_then ?_
        refine j_ret ?_
        cases h
        exact j_return rfl (ResOf.tmp rfl ResOf.nil) rfl (fun w h => ⟨(), rfl, h⟩)

theorem spec_l13Rd_num.calls (K : Nat) (a0_g : Nat) (a0_0 : List Int) (a0_0_A : Option Addr) (a0_0_n a0_0_c : Nat) (a0_1 : Int) (a1 : List Int) (a1_A : Option Addr) (a1_n a1_c : Nat) {w0 w : World} {F : List Res} {r1 : Int} {r2 : Int} (hm : Mem w0 (.box a0_g 92 [.slice a0_0_A a0_0_n a0_0_c, i6 a0_1] :: F) w) (a0_0_h : a0_0.length = a0_0_n) (a0_0_R : Rd w0 F a0_0_A (ints .u8 a0_0)) (a1_h : a1.length = a1_n) (a1_R : Rd w0 F a1_A (ii a1)) (h : spec_l13Rd_num.f K a0_0 a0_1 a1 = some (r1, r2)) :
    Calls Try.prog 70 (List.toArray [pt a0_g, .slice a1_A a1_n a1_c]) w fun e w' => ∃ x : Unit, e = .returned (i6 r1) ∧ Mem w0 (.box a0_g 92 [.slice a0_0_A a0_0_n a0_0_c, i6 r2] :: F) w' := by
  unfold spec_l13Rd_num.f at h
  refine calls_of_J (n := 12) Try.func70 rfl rfl rfl hm ?_
  refine j_seq ?_
  refine j_region ?_
  refine r_q (q_assign rfl rfl) rfl rfl ?_
  refine r_nil ?_
  refine j_then ?_
  refine j_seq ?_
  refine j_region ?_
  refine r_q (q_move rfl rfl) rfl rfl ?_
  refine r_q (q_move rfl rfl) rfl rfl ?_
  refine r_q (q_move rfl rfl) rfl rfl ?_
  refine r_q (q_lenX a1 a1_h un22 rfl rfl rfl rfl rfl) rfl rfl ?_
  obtain ⟨v1, v2, hb1, h⟩ := of_b2 h
  refine r_do (a_call ok73 rfl rfl rfl rfl (fun w hm => spec_l13Rd_pick.calls K a0_g a0_0 a0_0_A a0_0_n a0_0_c a0_1 (a1.length : Int) hm a0_0_h a0_0_R hb1)) rfl rfl (fun x1 => ?_)
  obtain ⟨c1, h⟩ := of_guard h
  refine r_q (q_ix (Rd.drop 1 a1_R) (ints_len1 _ a1) (by decide) a1_h c1 un22 sz3 rfl rfl rfl) rfl rfl ?_
  refine r_q (q_ldI (Rd.drop 1 a1_R) c1 ag3 rfl rfl) rfl rfl ?_
  refine r_q (q_assign rfl rfl) rfl rfl ?_
  refine r_nil ?_
  refine j_then ?_
  refine j_ret ?_
  cases h
  exact j_return rfl (ResOf.tmp rfl ResOf.nil) rfl (fun w h => ⟨(), rfl, h⟩)

theorem spec_l1Many.calls (K : Nat) (a0 : Int) {w0 w : World} {F : List Res} {r1 : List Int} (hm : Mem w0 (F) w)  (h : spec_l1Many.f K a0 = some r1) :
    Calls Try.prog 106 (List.toArray [i6 a0]) w fun e w' => ∃ x : (Sl r1.length), e = .returned (.slice x.A x.n x.c) ∧ Mem w0 (.row x.A x.c 3 1 (ii r1) :: F) w' := by
  unfold spec_l1Many.f at h
  refine calls_of_J (n := 15) Try.func106 rfl rfl rfl hm ?_
  refine j_seq ?_
  refine j_region ?_
  refine r_q (q_assign rfl rfl) rfl rfl ?_
  refine r_nil ?_
  refine j_then ?_
  refine j_seq ?_
  refine j_region ?_
  refine r_do (a_litX (vs := []) (ii ([] : List Int)) un22 sz3 zr3 rfl rfl rfl rfl rfl rfl rfl rfl rfl) rfl rfl (fun x1 => ?_)
  refine r_q (q_assign rfl rfl) rfl rfl ?_
  refine r_nil ?_
  refine j_then ?_
  refine j_seq ?_
  refine j_seq ?_
  refine j_region ?_
  refine r_q (q_assign rfl rfl) rfl rfl ?_
  refine r_nil ?_
  refine j_then ?_
  obtain ⟨κ0, h, hκ0⟩ := ex_k (g := fun κ => spec_l1Many.loop0 K κ a0 K ([] : List Int) (0:Int) = some r1) h
  refine j_cut (σ := (Option Addr) × Nat × Nat × (List Int)) (fun s => [(3, (.slice s.1 s.2.1 s.2.2.1))]) (fun s => .row s.1 s.2.2.1 3 1 (ii s.2.2.2) :: F) (fun s => κ0 s.2.2.2 = some r1 ∧ (s.2.2.2.length = s.2.1)) ?_ ?_
  · refine j_block ?_
    refine j_loop (σ := (Option Addr) × Nat × Nat × (List Int) × Int) (fun s => [(0, (i6 a0)), (3, (.slice s.1 s.2.1 s.2.2.1)), (4, (i6 s.2.2.2.2))]) (fun s => .row s.1 s.2.2.1 3 1 (ii s.2.2.2.1) :: F) (fun m s => spec_l1Many.loop0 K κ0 a0 m s.2.2.2.1 s.2.2.2.2 = some r1 ∧ (s.2.2.2.1.length = s.2.1)) K (x1, 0, 0, ([] : List Int), (0:Int)) ⟨h, rfl⟩ (fun a he => he.sub ⟨rfl, rfl, rfl, trivial⟩) (fun w h => h) ?_
    rintro m ⟨A2, n2, d2, l2, p2⟩ ⟨h, q2⟩
    cases m with
    | zero => exact absurd h (by rw [spec_l1Many.loop0]; exact nofun)
    | succ m =>
      rw [spec_l1Many.loop0] at h
      show J _ _ [(0, (i6 a0)), (3, (.slice A2 n2 d2)), (4, (i6 p2))] _ (.row A2 d2 3 1 (ii l2) :: F)
      refine j_seq ?_
      refine j_seq ?_
      refine j_region ?_
      refine r_q (q_move rfl rfl) rfl rfl ?_
      refine r_q (q_move rfl rfl) rfl rfl ?_
      refine r_q (q_lss rfl rfl rfl) rfl rfl ?_
      refine r_nil ?_
      refine j_then ?_
      rcases of_if h with ⟨c7, h⟩ | ⟨c7, h⟩
      · refine j_true rfl (decide_eq_true c7) ?_
        refine j_skip ?_
        refine j_then ?_
        refine j_seq ?_
        refine j_block ?_
        refine j_region ?_
        refine r_q (q_move rfl rfl) rfl rfl ?_
        refine r_do (a_litX (vs := [(i6 (-1:Int))]) (ii ([(-1:Int)] : List Int)) un22 sz3 zr3 rfl rfl rfl rfl rfl rfl rfl rfl rfl) rfl rfl (fun x2 => ?_)
        obtain ⟨c8, h⟩ := of_guard h
        refine r_do (a_appI (xs := l2) (ys := ([(-1:Int)] : List Int)) 1 un22 un22 sz3 by3 zr3 rfl rfl rfl rfl rfl rfl rfl rfl rfl q2 rfl (Rd.row 0 rfl) c8) rfl rfl (fun x3 => ?_)
        refine j_s1 ?_
        refine r_q (q_assign rfl rfl) rfl rfl ?_
        refine r_nil ?_
        refine j_in ?_
        refine j_then ?_
        refine j_region ?_
        refine r_q (q_move rfl rfl) rfl rfl ?_
        refine r_q (q_add rfl rfl rfl) rfl rfl ?_
        refine r_q (q_assign rfl rfl) rfl rfl ?_
        refine r_nil ?_
        refine j_then ?_
        exact j_again m (x3.1, (n2 + 1), x3.2, (l2 ++ ([(-1:Int)] : List Int)), (wrap64 (p2 + (1:Int)))) (Nat.lt_succ_self m) ⟨h, (app_len q2 rfl)⟩ (fun a he => he.sub ⟨rfl, rfl, rfl, trivial⟩) (fun w h => h.tail)
      · refine j_false rfl (decide_eq_false c7) ?_
        refine j_exit ?_
        refine j_then_exit ?_
        refine j_then_exit ?_
        refine j_in_exit ?_
        refine j_then ?_
        exact j_meet (A2, n2, d2, l2) ⟨h, q2⟩ (fun a he => he.sub ⟨rfl, trivial⟩) (fun w h => h)
  · rintro ⟨A3, n3, d3, l3⟩ ⟨h, q3⟩
    subst hκ0
    show J _ _ [(3, (.slice A3 n3 d3))] _ (.row A3 d3 3 1 (ii l3) :: F)
    refine j_then ?_
    refine j_seq ?_
    refine j_region ?_
    refine r_q (q_move rfl rfl) rfl rfl ?_
    refine r_q (q_assign rfl rfl) rfl rfl ?_
    refine r_nil ?_
    refine j_then ?_
    refine j_ret ?_
    cases h
    exact j_return rfl (ResOf.tmp rfl ResOf.nil) rfl (fun w h => ⟨⟨A3, n3, d3, q3⟩, rfl, h⟩)

theorem spec_NewHeap.calls (K : Nat) (a0 : Int) (a1 : Int) {w0 w : World} {F : List Res} {r1 : List Int} {r2 : List Int} {r3 : List Int} {r4 : Bool} (hm : Mem w0 (F) w)  (h : spec_NewHeap.f K a0 a1 = some (r1, r2, r3, r4)) :
    Calls Try.prog 100 (List.toArray [i6 a0, i6 a1]) w fun e w' => ∃ x : (Sl r1.length) × (Sl r2.length) × (Sl r3.length), e = .returned (.tuple (List.toArray [.agg (List.toArray [.slice x.1.A x.1.n x.1.c, .slice x.2.1.A x.2.1.n x.2.1.c, .slice x.2.2.A x.2.2.n x.2.2.c]), .bool r4])) ∧ Mem w0 (.row x.1.A x.1.c 3 1 (ii r1) :: .row x.2.1.A x.2.1.c 3 1 (ii r2) :: .row x.2.2.A x.2.2.c 3 1 (ii r3) :: F) w' := by
  unfold spec_NewHeap.f at h
  refine calls_of_J (n := 28) Try.func100 rfl rfl rfl hm ?_
  refine j_seq ?_
  refine j_region ?_
  refine r_do (a_alloc zr34 rfl) rfl rfl (fun x1 => ?_)
  refine r_q (q_assign rfl rfl) rfl rfl ?_
  refine r_nil ?_
  refine j_then ?_
  refine j_seq ?_
  refine j_seq ?_
  refine j_region ?_
  refine r_q (q_move rfl rfl) rfl rfl ?_
  refine r_q (q_lss rfl rfl rfl) rfl rfl ?_
  refine r_q (q_move rfl rfl) rfl rfl ?_
  rcases of_if h with ⟨c1, h⟩ | ⟨c1, h⟩
  · refine r_off rfl rfl rfl rfl (decide_eq_true c1) rfl ?_
    refine r_off rfl rfl rfl rfl (decide_eq_true c1) rfl ?_
    refine r_q (q_pick_t rfl rfl (decide_eq_true c1) rfl) rfl rfl ?_
    refine r_q (q_move rfl rfl) rfl rfl ?_
    refine r_off rfl rfl rfl rfl rfl rfl ?_
    refine r_off rfl rfl rfl rfl rfl rfl ?_
    refine r_q (q_pick_t rfl rfl rfl rfl) rfl rfl ?_
    refine r_q (q_move rfl rfl) rfl rfl ?_
    refine r_off rfl rfl rfl rfl rfl rfl ?_
    refine r_off rfl rfl rfl rfl rfl rfl ?_
    refine r_q (q_pick_t rfl rfl rfl rfl) rfl rfl ?_
    refine r_nil ?_
    refine j_then ?_
    refine j_true rfl rfl ?_
    refine j_seq ?_
    refine j_region ?_
    refine r_q (q_build (cs := [(.slice none 0 0), (.slice none 0 0), (.slice none 0 0)]) zr34 pl34 rfl rfl rfl rfl) rfl rfl ?_
    refine r_do (a_storeb 0 rfl sz34 rfl rfl rfl rfl (Nat.le_of_ble_eq_true rfl) rfl) rfl rfl (fun _ => ?_)
    refine j_b0 [(.slice none 0 0), (.slice none 0 0), (.slice none 0 0)] rfl ?_
    refine r_q (q_assign rfl rfl) rfl rfl ?_
    refine r_nil ?_
    refine j_then ?_
    refine j_ret ?_
    refine j_then_ret ?_
    refine j_nil 3 1 ?_
    refine j_nil 3 1 ?_
    refine j_nil 3 1 ?_
    cases h
    exact j_return rfl (ResOf.cell 3 rfl rfl ag34 sz34 (ResOf.tmp rfl ResOf.nil)) rfl (fun w h => ⟨(⟨none, 0, 0, rfl⟩, ⟨none, 0, 0, rfl⟩, ⟨none, 0, 0, rfl⟩), rfl, h.pick 4 [2, 1, 0] rfl⟩)
  · refine r_qon (q_move rfl rfl) rfl rfl rfl rfl (decide_eq_false c1) rfl ?_
    refine r_qon (q_gtr rfl rfl rfl) rfl rfl rfl rfl (decide_eq_false c1) rfl ?_
    refine r_q (q_pick_f rfl rfl (decide_eq_false c1) rfl) rfl rfl ?_
    refine r_q (q_move rfl rfl) rfl rfl ?_
    rcases of_if h with ⟨c2, h⟩ | ⟨c2, h⟩
    · refine r_off rfl rfl rfl rfl (decide_eq_true c2) rfl ?_
      refine r_off rfl rfl rfl rfl (decide_eq_true c2) rfl ?_
      refine r_q (q_pick_t rfl rfl (decide_eq_true c2) rfl) rfl rfl ?_
      refine r_q (q_move rfl rfl) rfl rfl ?_
      refine r_off rfl rfl rfl rfl rfl rfl ?_
      refine r_off rfl rfl rfl rfl rfl rfl ?_
      refine r_q (q_pick_t rfl rfl rfl rfl) rfl rfl ?_
      refine r_nil ?_
      refine j_then ?_
      refine j_true rfl rfl ?_
      refine j_seq ?_
      refine j_region ?_
      refine r_q (q_build (cs := [(.slice none 0 0), (.slice none 0 0), (.slice none 0 0)]) zr34 pl34 rfl rfl rfl rfl) rfl rfl ?_
      refine r_do (a_storeb 0 rfl sz34 rfl rfl rfl rfl (Nat.le_of_ble_eq_true rfl) rfl) rfl rfl (fun _ => ?_)
      refine j_b0 [(.slice none 0 0), (.slice none 0 0), (.slice none 0 0)] rfl ?_
      refine r_q (q_assign rfl rfl) rfl rfl ?_
      refine r_nil ?_
      refine j_then ?_
      refine j_ret ?_
      refine j_then_ret ?_
      refine j_nil 3 1 ?_
      refine j_nil 3 1 ?_
      refine j_nil 3 1 ?_
      cases h
      exact j_return rfl (ResOf.cell 3 rfl rfl ag34 sz34 (ResOf.tmp rfl ResOf.nil)) rfl (fun w h => ⟨(⟨none, 0, 0, rfl⟩, ⟨none, 0, 0, rfl⟩, ⟨none, 0, 0, rfl⟩), rfl, h.pick 4 [2, 1, 0] rfl⟩)
    · refine r_qon (q_move rfl rfl) rfl rfl rfl rfl (decide_eq_false c2) rfl ?_
      refine r_qon (q_lss rfl rfl rfl) rfl rfl rfl rfl (decide_eq_false c2) rfl ?_
      refine r_q (q_pick_f rfl rfl (decide_eq_false c2) rfl) rfl rfl ?_
      refine r_q (q_move rfl rfl) rfl rfl ?_
      rcases of_if h with ⟨c3, h⟩ | ⟨c3, h⟩
      · refine r_off rfl rfl rfl rfl (decide_eq_true c3) rfl ?_
        refine r_off rfl rfl rfl rfl (decide_eq_true c3) rfl ?_
        refine r_q (q_pick_t rfl rfl (decide_eq_true c3) rfl) rfl rfl ?_
        refine r_nil ?_
        refine j_then ?_
        refine j_true rfl rfl ?_
        refine j_seq ?_
        refine j_region ?_
        refine r_q (q_build (cs := [(.slice none 0 0), (.slice none 0 0), (.slice none 0 0)]) zr34 pl34 rfl rfl rfl rfl) rfl rfl ?_
        refine r_do (a_storeb 0 rfl sz34 rfl rfl rfl rfl (Nat.le_of_ble_eq_true rfl) rfl) rfl rfl (fun _ => ?_)
        refine j_b0 [(.slice none 0 0), (.slice none 0 0), (.slice none 0 0)] rfl ?_
        refine r_q (q_assign rfl rfl) rfl rfl ?_
        refine r_nil ?_
        refine j_then ?_
        refine j_ret ?_
        refine j_then_ret ?_
        refine j_nil 3 1 ?_
        refine j_nil 3 1 ?_
        refine j_nil 3 1 ?_
        cases h
        exact j_return rfl (ResOf.cell 3 rfl rfl ag34 sz34 (ResOf.tmp rfl ResOf.nil)) rfl (fun w h => ⟨(⟨none, 0, 0, rfl⟩, ⟨none, 0, 0, rfl⟩, ⟨none, 0, 0, rfl⟩), rfl, h.pick 4 [2, 1, 0] rfl⟩)
      · refine r_qon (q_move rfl rfl) rfl rfl rfl rfl (decide_eq_false c3) rfl ?_
        refine r_qon (q_gtr rfl rfl rfl) rfl rfl rfl rfl (decide_eq_false c3) rfl ?_
        refine r_q (q_pick_f rfl rfl (decide_eq_false c3) rfl) rfl rfl ?_
        refine r_nil ?_
        refine j_then ?_
        rcases of_if h with ⟨c4, h⟩ | ⟨c4, h⟩
        · refine j_true rfl (decide_eq_true c4) ?_
          refine j_seq ?_
          refine j_region ?_
          refine r_q (q_build (cs := [(.slice none 0 0), (.slice none 0 0), (.slice none 0 0)]) zr34 pl34 rfl rfl rfl rfl) rfl rfl ?_
          refine r_do (a_storeb 0 rfl sz34 rfl rfl rfl rfl (Nat.le_of_ble_eq_true rfl) rfl) rfl rfl (fun _ => ?_)
          refine j_b0 [(.slice none 0 0), (.slice none 0 0), (.slice none 0 0)] rfl ?_
          refine r_q (q_assign rfl rfl) rfl rfl ?_
          refine r_nil ?_
          refine j_then ?_
          refine j_ret ?_
          refine j_then_ret ?_
          refine j_nil 3 1 ?_
          refine j_nil 3 1 ?_
          refine j_nil 3 1 ?_
          cases h
          exact j_return rfl (ResOf.cell 3 rfl rfl ag34 sz34 (ResOf.tmp rfl ResOf.nil)) rfl (fun w h => ⟨(⟨none, 0, 0, rfl⟩, ⟨none, 0, 0, rfl⟩, ⟨none, 0, 0, rfl⟩), rfl, h.pick 4 [2, 1, 0] rfl⟩)
        · refine j_false rfl (decide_eq_false c4) ?_
          refine j_skip ?_
          refine j_then ?_
          refine j_seq ?_
          refine j_region ?_
          refine r_q (q_move rfl rfl) rfl rfl ?_
          obtain ⟨v1, hb1, h⟩ := of_b1 h
          refine r_do (a_call ok106 rfl rfl rfl rfl (fun w hm => spec_l1Many.calls K a0 hm hb1)) rfl rfl (fun x2 => ?_)
          refine r_q (q_move rfl rfl) rfl rfl ?_
          obtain ⟨v2, hb2, h⟩ := of_b1 h
          refine r_do (a_call ok106 rfl rfl rfl rfl (fun w hm => spec_l1Many.calls K a0 hm hb2)) rfl rfl (fun x3 => ?_)
          refine r_q (q_move rfl rfl) rfl rfl ?_
          obtain ⟨v3, hb3, h⟩ := of_b1 h
          refine r_do (a_call ok106 rfl rfl rfl rfl (fun w hm => spec_l1Many.calls K a1 hm hb3)) rfl rfl (fun x4 => ?_)
          refine r_q (q_build (cs := [(.slice x2.A x2.n x2.c), (.slice x3.A x3.n x3.c), (.slice x4.A x4.n x4.c)]) zr34 pl34 rfl rfl rfl rfl) rfl rfl ?_
          refine r_do (a_storeb 3 rfl sz34 rfl rfl rfl rfl (Nat.le_of_ble_eq_true rfl) rfl) rfl rfl (fun _ => ?_)
          refine j_b3 [(.slice x2.A x2.n x2.c), (.slice x3.A x3.n x3.c), (.slice x4.A x4.n x4.c)] rfl ?_
          refine r_q (q_assign rfl rfl) rfl rfl ?_
          refine r_nil ?_
          refine j_then ?_
          refine j_ret ?_
          cases h
          exact j_return rfl (ResOf.cell 3 rfl rfl ag34 sz34 (ResOf.tmp rfl ResOf.nil)) rfl (fun w h => ⟨(⟨x2.A, x2.n, x2.c, x2.h⟩, ⟨x3.A, x3.n, x3.c, x3.h⟩, ⟨x4.A, x4.n, x4.c, x4.h⟩), rfl, h.pick 4 [2, 1, 0] rfl⟩)

theorem spec_NewStore.calls (K : Nat) (a0 : Int) (a1 : Int) {w0 w : World} {F : List Res} {r1 : List Int} {r2 : List Int} {r3 : List Int} {r4 : List Int} {r5 : Bool} (hm : Mem w0 (F) w)  (h : spec_NewStore.f K a0 a1 = some (r1, r2, r3, r4, r5)) :
    Calls Try.prog 87 (List.toArray [i6 a0, i6 a1]) w fun e w' => ∃ x : (Sl r1.length) × (Sl r2.length) × (Sl r3.length) × (Sl r4.length), e = .returned (.tuple (List.toArray [.agg (List.toArray [.slice x.1.A x.1.n x.1.c, .slice x.2.1.A x.2.1.n x.2.1.c, .slice x.2.2.1.A x.2.2.1.n x.2.2.1.c, .slice x.2.2.2.A x.2.2.2.n x.2.2.2.c]), .bool r5])) ∧ Mem w0 (.row x.1.A x.1.c 3 1 (ii r1) :: .row x.2.1.A x.2.1.c 3 1 (ii r2) :: .row x.2.2.1.A x.2.2.1.c 3 1 (ii r3) :: .row x.2.2.2.A x.2.2.2.c 3 1 (ii r4) :: F) w' := by
  unfold spec_NewStore.f at h
  refine calls_of_J (n := 33) Try.func87 rfl rfl rfl hm ?_
  refine j_seq ?_
  refine j_region ?_
  refine r_do (a_alloc zr36 rfl) rfl rfl (fun x1 => ?_)
  refine r_q (q_assign rfl rfl) rfl rfl ?_
  refine r_nil ?_
  refine j_then ?_
  refine j_seq ?_
  refine j_region ?_
  refine r_q (q_move rfl rfl) rfl rfl ?_
  refine r_q (q_move rfl rfl) rfl rfl ?_
  obtain ⟨v1, v2, v3, v4, hb1, h⟩ := of_b4 h
  refine r_do (a_call ok100 rfl rfl rfl rfl (fun w hm => spec_NewHeap.calls K a0 a1 hm hb1)) rfl rfl (fun x2 => ?_)
  refine r_q (q_move rfl rfl) rfl rfl ?_
  refine r_q (q_extract rfl rfl rfl) rfl rfl ?_
  refine r_q (q_extract rfl rfl rfl) rfl rfl ?_
  refine r_do (a_alloc zr34 rfl) rfl rfl (fun x3 => ?_)
  refine r_do (a_storeb 0 rfl sz34 rfl rfl rfl rfl (Nat.le_of_ble_eq_true rfl) rfl) rfl rfl (fun _ => ?_)
  refine j_b0 [(.slice x2.1.A x2.1.n x2.1.c), (.slice x2.2.1.A x2.2.1.n x2.2.1.c), (.slice x2.2.2.A x2.2.2.n x2.2.2.c)] rfl ?_
  refine r_q (q_assign rfl rfl) rfl rfl ?_
  refine r_nil ?_
  refine j_then ?_
  refine j_seq ?_
  refine j_seq ?_
  refine j_region ?_
  refine r_q (q_move rfl rfl) rfl rfl ?_
  refine r_q (q_not rfl rfl) rfl rfl ?_
  refine r_nil ?_
  refine j_then ?_
  rcases of_if h with ⟨c1, h⟩ | ⟨c1, h⟩
  · refine j_false rfl (not_f c1) ?_
    refine j_skip ?_
    refine j_then ?_
    refine j_seq ?_
    refine j_region ?_
    refine r_q (q_loadb_agg 0 rfl ag34 sz34 rfl rfl rfl rfl) rfl rfl ?_
    refine r_q (q_build (cs := [(.slice x2.1.A x2.1.n x2.1.c), (.slice x2.2.1.A x2.2.1.n x2.2.1.c), (.slice x2.2.2.A x2.2.2.n x2.2.2.c), (.slice none 0 0)]) zr36 pl36 rfl rfl rfl rfl) rfl rfl ?_
    refine r_do (a_alloc zr36 rfl) rfl rfl (fun x4 => ?_)
    refine r_do (a_storeb 0 rfl sz36 rfl rfl rfl rfl (Nat.le_of_ble_eq_true rfl) rfl) rfl rfl (fun _ => ?_)
    refine j_b0 [(.slice x2.1.A x2.1.n x2.1.c), (.slice x2.2.1.A x2.2.1.n x2.2.1.c), (.slice x2.2.2.A x2.2.2.n x2.2.2.c), (.slice none 0 0)] rfl ?_
    refine r_nil ?_
    refine j_then ?_
    refine j_seq ?_
    refine j_seq ?_
    refine j_region ?_
    refine r_q (q_assign rfl rfl) rfl rfl ?_
    refine r_nil ?_
    refine j_then ?_
    refine j_nil 3 1 ?_
    obtain ⟨κ0, h, hκ0⟩ := ex_k (g := fun κ => spec_NewStore.loop0 K κ a0 K (0:Int) ([] : List Int) = some (r1, r2, r3, r4, r5)) h
    refine j_cut (σ := (Option Addr) × Nat × Nat × (List Int)) (fun s => [(4, (pt x1)), (8, (pt x4))]) (fun s => .box x1 36 [(.slice none 0 0), (.slice none 0 0), (.slice none 0 0), (.slice none 0 0)] :: .box x4 36 [(.slice x2.1.A x2.1.n x2.1.c), (.slice x2.2.1.A x2.2.1.n x2.2.1.c), (.slice x2.2.2.A x2.2.2.n x2.2.2.c), (.slice s.1 s.2.1 s.2.2.1)] :: .row x2.1.A x2.1.c 3 1 (ii v1) :: .row x2.2.1.A x2.2.1.c 3 1 (ii v2) :: .row x2.2.2.A x2.2.2.c 3 1 (ii v3) :: .row s.1 s.2.2.1 3 1 (ii s.2.2.2) :: F) (fun s => κ0 s.2.2.2 = some (r1, r2, r3, r4, r5) ∧ (s.2.2.2.length = s.2.1)) ?_ ?_
    · refine j_block ?_
      refine j_loop (σ := Int × (Option Addr) × Nat × Nat × (List Int)) (fun s => [(0, (i6 a0)), (4, (pt x1)), (8, (pt x4)), (9, (i6 s.1))]) (fun s => .box x1 36 [(.slice none 0 0), (.slice none 0 0), (.slice none 0 0), (.slice none 0 0)] :: .box x4 36 [(.slice x2.1.A x2.1.n x2.1.c), (.slice x2.2.1.A x2.2.1.n x2.2.1.c), (.slice x2.2.2.A x2.2.2.n x2.2.2.c), (.slice s.2.1 s.2.2.1 s.2.2.2.1)] :: .row x2.1.A x2.1.c 3 1 (ii v1) :: .row x2.2.1.A x2.2.1.c 3 1 (ii v2) :: .row x2.2.2.A x2.2.2.c 3 1 (ii v3) :: .row s.2.1 s.2.2.2.1 3 1 (ii s.2.2.2.2) :: F) (fun m s => spec_NewStore.loop0 K κ0 a0 m s.1 s.2.2.2.2 = some (r1, r2, r3, r4, r5) ∧ (s.2.2.2.2.length = s.2.2.1)) K ((0:Int), none, 0, 0, ([] : List Int)) ⟨h, rfl⟩ (fun a he => he.sub ⟨rfl, rfl, rfl, rfl, trivial⟩) (fun w h => h.pick 7 [6, 1, 3, 4, 5, 0] rfl) ?_
      rintro m ⟨p2, A2, n2, d2, l2⟩ ⟨h, q2⟩
      cases m with
      | zero => exact absurd h (by rw [spec_NewStore.loop0]; exact nofun)
      | succ m =>
        rw [spec_NewStore.loop0] at h
        show J _ _ [(0, (i6 a0)), (4, (pt x1)), (8, (pt x4)), (9, (i6 p2))] _ (.box x1 36 [(.slice none 0 0), (.slice none 0 0), (.slice none 0 0), (.slice none 0 0)] :: .box x4 36 [(.slice x2.1.A x2.1.n x2.1.c), (.slice x2.2.1.A x2.2.1.n x2.2.1.c), (.slice x2.2.2.A x2.2.2.n x2.2.2.c), (.slice A2 n2 d2)] :: .row x2.1.A x2.1.c 3 1 (ii v1) :: .row x2.2.1.A x2.2.1.c 3 1 (ii v2) :: .row x2.2.2.A x2.2.2.c 3 1 (ii v3) :: .row A2 d2 3 1 (ii l2) :: F)
        refine j_seq ?_
        refine j_seq ?_
        refine j_region ?_
        refine r_q (q_move rfl rfl) rfl rfl ?_
        refine r_q (q_move rfl rfl) rfl rfl ?_
        refine r_q (q_lss rfl rfl rfl) rfl rfl ?_
        refine r_nil ?_
        refine j_then ?_
        rcases of_if h with ⟨c8, h⟩ | ⟨c8, h⟩
        · refine j_true rfl (decide_eq_true c8) ?_
          refine j_skip ?_
          refine j_then ?_
          refine j_seq ?_
          refine j_block ?_
          refine j_region ?_
          refine r_q (q_fieldAddr fi36_1 sz22 rfl rfl rfl) rfl rfl ?_
          refine r_q (q_loadb 1 rfl ag22 rfl rfl rfl) rfl rfl ?_
          refine r_q (q_move rfl rfl) rfl rfl ?_
          refine r_do (a_litX (vs := [(i6 p2)]) (ii ([p2] : List Int)) un22 sz3 zr3 rfl rfl rfl rfl rfl rfl rfl rfl rfl) rfl rfl (fun x5 => ?_)
          obtain ⟨c9, h⟩ := of_guard h
          refine r_do (a_appI (xs := l2) (ys := ([p2] : List Int)) 6 un22 un22 sz3 by3 zr3 rfl rfl rfl rfl rfl rfl rfl rfl rfl q2 rfl (Rd.row 0 rfl) c9) rfl rfl (fun x6 => ?_)
          refine j_s6 ?_
          refine r_q (q_fieldAddr fi36_1 sz22 rfl rfl rfl) rfl rfl ?_
          refine r_do (a_storeb 2 rfl sz22 rfl rfl rfl rfl (Nat.le_of_ble_eq_true rfl) rfl) rfl rfl (fun _ => ?_)
          refine j_b2 [(.slice x2.1.A x2.1.n x2.1.c), (.slice x2.2.1.A x2.2.1.n x2.2.1.c), (.slice x2.2.2.A x2.2.2.n x2.2.2.c), (.slice x6.1 (n2 + 1) x6.2)] rfl ?_
          refine r_nil ?_
          refine j_in ?_
          refine j_then ?_
          refine j_region ?_
          refine r_q (q_move rfl rfl) rfl rfl ?_
          refine r_q (q_add rfl rfl rfl) rfl rfl ?_
          refine r_q (q_assign rfl rfl) rfl rfl ?_
          refine r_nil ?_
          refine j_then ?_
          exact j_again m ((wrap64 (p2 + (1:Int))), x6.1, (n2 + 1), x6.2, (l2 ++ ([p2] : List Int))) (Nat.lt_succ_self m) ⟨h, (app_len q2 rfl)⟩ (fun a he => he.sub ⟨rfl, rfl, rfl, rfl, trivial⟩) (fun w h => h.tail)
        · refine j_false rfl (decide_eq_false c8) ?_
          refine j_exit ?_
          refine j_then_exit ?_
          refine j_then_exit ?_
          refine j_in_exit ?_
          refine j_then ?_
          exact j_meet (A2, n2, d2, l2) ⟨h, q2⟩ (fun a he => he.sub ⟨rfl, rfl, trivial⟩) (fun w h => h)
    · rintro ⟨A3, n3, d3, l3⟩ ⟨h, q3⟩
      subst hκ0
      show J _ _ [(4, (pt x1)), (8, (pt x4))] _ (.box x1 36 [(.slice none 0 0), (.slice none 0 0), (.slice none 0 0), (.slice none 0 0)] :: .box x4 36 [(.slice x2.1.A x2.1.n x2.1.c), (.slice x2.2.1.A x2.2.1.n x2.2.1.c), (.slice x2.2.2.A x2.2.2.n x2.2.2.c), (.slice A3 n3 d3)] :: .row x2.1.A x2.1.c 3 1 (ii v1) :: .row x2.2.1.A x2.2.1.c 3 1 (ii v2) :: .row x2.2.2.A x2.2.2.c 3 1 (ii v3) :: .row A3 d3 3 1 (ii l3) :: F)
      refine j_then ?_
      refine j_seq ?_
      refine j_region ?_
      refine r_q (q_loadb_agg 1 rfl ag36 sz36 rfl rfl rfl rfl) rfl rfl ?_
      refine r_do (a_storeb 0 rfl sz36 rfl rfl rfl rfl (Nat.le_of_ble_eq_true rfl) rfl) rfl rfl (fun _ => ?_)
      refine j_b0 [(.slice x2.1.A x2.1.n x2.1.c), (.slice x2.2.1.A x2.2.1.n x2.2.1.c), (.slice x2.2.2.A x2.2.2.n x2.2.2.c), (.slice A3 n3 d3)] rfl ?_
      refine r_q (q_assign rfl rfl) rfl rfl ?_
      refine r_nil ?_
      refine j_then ?_
      refine j_ret ?_
      cases h
      exact j_return rfl (ResOf.cell 0 rfl rfl ag36 sz36 (ResOf.tmp rfl ResOf.nil)) rfl (fun w h => ⟨(⟨x2.1.A, x2.1.n, x2.1.c, x2.1.h⟩, ⟨x2.2.1.A, x2.2.1.n, x2.2.1.c, x2.2.1.h⟩, ⟨x2.2.2.A, x2.2.2.n, x2.2.2.c, x2.2.2.h⟩, ⟨A3, n3, d3, q3⟩), rfl, (h.drop 2)⟩)
  · refine j_true rfl (not_t (var_f c1)) ?_
    refine j_seq ?_
    refine j_region ?_
    refine r_q (q_build (cs := [(.slice none 0 0), (.slice none 0 0), (.slice none 0 0), (.slice none 0 0)]) zr36 pl36 rfl rfl rfl rfl) rfl rfl ?_
    refine r_do (a_storeb 4 rfl sz36 rfl rfl rfl rfl (Nat.le_of_ble_eq_true rfl) rfl) rfl rfl (fun _ => ?_)
    refine j_b4 [(.slice none 0 0), (.slice none 0 0), (.slice none 0 0), (.slice none 0 0)] rfl ?_
    refine r_q (q_assign rfl rfl) rfl rfl ?_
    refine r_nil ?_
    refine j_then ?_
    refine j_ret ?_
    refine j_then_ret ?_
    refine j_nil 3 1 ?_
    refine j_nil 3 1 ?_
    refine j_nil 3 1 ?_
    refine j_nil 3 1 ?_
    cases h
    exact j_return rfl (ResOf.cell 8 rfl rfl ag36 sz36 (ResOf.tmp rfl ResOf.nil)) rfl (fun w h => ⟨(⟨none, 0, 0, rfl⟩, ⟨none, 0, 0, rfl⟩, ⟨none, 0, 0, rfl⟩, ⟨none, 0, 0, rfl⟩), rfl, h.pick 9 [3, 2, 1, 0] rfl⟩)

theorem spec_l1Copy.calls (K : Nat) (a0_0 : List Int) (a0_0_A : Option Addr) (a0_0_n a0_0_c : Nat) (a0_1 : List Int) (a0_1_A : Option Addr) (a0_1_n a0_1_c : Nat) (a0_2 : List Int) (a0_2_A : Option Addr) (a0_2_n a0_2_c : Nat) {w0 w : World} {F : List Res} {r1 : List Int} {r2 : List Int} {r3 : List Int} (hm : Mem w0 (F) w) (a0_0_h : a0_0.length = a0_0_n) (a0_0_R : Rd w0 F a0_0_A (ii a0_0)) (a0_1_h : a0_1.length = a0_1_n) (a0_1_R : Rd w0 F a0_1_A (ii a0_1)) (a0_2_h : a0_2.length = a0_2_n) (a0_2_R : Rd w0 F a0_2_A (ii a0_2)) (h : spec_l1Copy.f K a0_0 a0_1 a0_2 = some (r1, r2, r3)) :
    Calls Try.prog 81 (List.toArray [.agg (List.toArray [.slice a0_0_A a0_0_n a0_0_c, .slice a0_1_A a0_1_n a0_1_c, .slice a0_2_A a0_2_n a0_2_c])]) w fun e w' => ∃ x : (Sl r1.length) × (Sl r2.length) × (Sl r3.length), e = .returned (.agg (List.toArray [.slice x.1.A x.1.n x.1.c, .slice x.2.1.A x.2.1.n x.2.1.c, .slice x.2.2.A x.2.2.n x.2.2.c])) ∧ Mem w0 (.row x.1.A x.1.c 3 1 (ii r1) :: .row x.2.1.A x.2.1.c 3 1 (ii r2) :: .row x.2.2.A x.2.2.c 3 1 (ii r3) :: F) w' := by
  unfold spec_l1Copy.f at h
  refine calls_of_J (n := 16) Try.func81 rfl rfl rfl hm ?_
  refine j_seq ?_
  refine j_region ?_
  refine r_do (a_box rfl rfl) rfl rfl (fun x1 => ?_)
  refine r_do (a_alloc zr34 rfl) rfl rfl (fun x2 => ?_)
  refine r_nil ?_
  refine j_then ?_
  refine j_seq ?_
  obtain ⟨c1, h⟩ := of_guard h
  obtain ⟨c2, h⟩ := of_guard h
  obtain ⟨c3, h⟩ := of_guard h
  refine j_draw (.box x1 34 [(.slice a0_0_A a0_0_n a0_0_c), (.slice a0_1_A a0_1_n a0_1_c), (.slice a0_2_A a0_2_n a0_2_c)] :: F) 14 follows_any rfl ?_
  refine d_take 1 rfl (q_fieldAddr fi34_0 sz22 rfl rfl rfl) rfl rfl (by kernel_rfl) (by kernel_rfl) (by kernel_rfl) (fun w h => h.tail) ?_
  refine d_take 2 rfl (q_loadb 0 rfl ag22 rfl rfl rfl) rfl rfl (by kernel_rfl) (by kernel_rfl) (by kernel_rfl) (fun w h => h.tail) ?_
  refine d_take 5 rfl (q_fieldAddr fi34_1 sz22 rfl rfl rfl) rfl rfl (by kernel_rfl) (by kernel_rfl) (by kernel_rfl) (fun w h => h.tail) ?_
  refine d_take 6 rfl (q_loadb 0 rfl ag22 rfl rfl rfl) rfl rfl (by kernel_rfl) (by kernel_rfl) (by kernel_rfl) (fun w h => h.tail) ?_
  refine d_take 9 rfl (q_fieldAddr fi34_2 sz22 rfl rfl rfl) rfl rfl (by kernel_rfl) (by kernel_rfl) (by kernel_rfl) (fun w h => h.tail) ?_
  refine d_take 10 rfl (q_loadb 0 rfl ag22 rfl rfl rfl) rfl rfl (by kernel_rfl) (by kernel_rfl) (by kernel_rfl) (fun w h => h.tail) ?_
  refine d_join (σ := (Option Addr) × (Option Addr × Nat) × (Option Addr) × (Option Addr × Nat) × (Option Addr) × (Option Addr × Nat)) 0 #[true, true, true, true, true, true, true, true, true, true, true, true, true, true] (fun s => [(2, (pt x2))]) (fun s => .row s.2.1.1 s.2.1.2 3 1 (ii (([] : List Int) ++ a0_0)) :: .row s.2.2.2.1.1 s.2.2.2.1.2 3 1 (ii (([] : List Int) ++ a0_1)) :: .row s.2.2.2.2.2.1 s.2.2.2.2.2.2 3 1 (ii (([] : List Int) ++ a0_2)) :: .box x2 34 [(.slice s.2.1.1 (0 + a0_0_n) s.2.1.2), (.slice s.2.2.2.1.1 (0 + a0_1_n) s.2.2.2.1.2), (.slice s.2.2.2.2.2.1 (0 + a0_2_n) s.2.2.2.2.2.2)] :: .box x1 34 [(.slice a0_0_A a0_0_n a0_0_c), (.slice a0_1_A a0_1_n a0_1_c), (.slice a0_2_A a0_2_n a0_2_c)] :: F) ?_ (fun hD16383 => ?_)
  · rintro ⟨x3, x4, x5, x6, x7, x8⟩
    show J _ _ [(2, (pt x2))] _ (.row x4.1 x4.2 3 1 (ii (([] : List Int) ++ a0_0)) :: .row x6.1 x6.2 3 1 (ii (([] : List Int) ++ a0_1)) :: .row x8.1 x8.2 3 1 (ii (([] : List Int) ++ a0_2)) :: .box x2 34 [(.slice x4.1 (0 + a0_0_n) x4.2), (.slice x6.1 (0 + a0_1_n) x6.2), (.slice x8.1 (0 + a0_2_n) x8.2)] :: .box x1 34 [(.slice a0_0_A a0_0_n a0_0_c), (.slice a0_1_A a0_1_n a0_1_c), (.slice a0_2_A a0_2_n a0_2_c)] :: F)
    refine d_done (by kernel_rfl) ?_
    refine j_then ?_
    refine j_ret ?_
    cases h
    exact j_return rfl (ResOf.cell 3 rfl rfl ag34 sz34 ResOf.nil) rfl (fun w h => ⟨(⟨x4.1, (0 + a0_0_n), x4.2, (app_len rfl a0_0_h)⟩, ⟨x6.1, (0 + a0_1_n), x6.2, (app_len rfl a0_1_h)⟩, ⟨x8.1, (0 + a0_2_n), x8.2, (app_len rfl a0_2_h)⟩), rfl, h.pick 5 [0, 1, 2] rfl⟩)
  refine d_join (σ := (Option Addr) × (Option Addr × Nat) × (Option Addr) × (Option Addr × Nat) × (Option Addr) × (Option Addr × Nat)) 1 #[true, true, true, true, true, true, true, true, true, true, true, true, true, false] (fun s => [(2, (pt x2)), (15, (.agg (List.toArray [(.slice s.2.1.1 (0 + a0_0_n) s.2.1.2), (.slice s.2.2.2.1.1 (0 + a0_1_n) s.2.2.2.1.2), (.slice s.2.2.2.2.2.1 (0 + a0_2_n) s.2.2.2.2.2.2)])))]) (fun s => .row s.2.1.1 s.2.1.2 3 1 (ii (([] : List Int) ++ a0_0)) :: .row s.2.2.2.1.1 s.2.2.2.1.2 3 1 (ii (([] : List Int) ++ a0_1)) :: .row s.2.2.2.2.2.1 s.2.2.2.2.2.2 3 1 (ii (([] : List Int) ++ a0_2)) :: .box x2 34 [(.slice none 0 0), (.slice none 0 0), (.slice none 0 0)] :: .box x1 34 [(.slice a0_0_A a0_0_n a0_0_c), (.slice a0_1_A a0_1_n a0_1_c), (.slice a0_2_A a0_2_n a0_2_c)] :: F) ?_ (fun hD8191 => ?_)
  · rintro ⟨x3, x4, x5, x6, x7, x8⟩
    show J _ _ [(2, (pt x2)), (15, (.agg (List.toArray [(.slice x4.1 (0 + a0_0_n) x4.2), (.slice x6.1 (0 + a0_1_n) x6.2), (.slice x8.1 (0 + a0_2_n) x8.2)])))] _ (.row x4.1 x4.2 3 1 (ii (([] : List Int) ++ a0_0)) :: .row x6.1 x6.2 3 1 (ii (([] : List Int) ++ a0_1)) :: .row x8.1 x8.2 3 1 (ii (([] : List Int) ++ a0_2)) :: .box x2 34 [(.slice none 0 0), (.slice none 0 0), (.slice none 0 0)] :: .box x1 34 [(.slice a0_0_A a0_0_n a0_0_c), (.slice a0_1_A a0_1_n a0_1_c), (.slice a0_2_A a0_2_n a0_2_c)] :: F)
    refine d_one 13 (by kernel_rfl) ?_
    · refine o_do rfl (a_storeb 3 rfl sz34 rfl rfl rfl rfl (Nat.le_of_ble_eq_true rfl) rfl) rfl rfl (fun _ w h => (h.drop 4)) (fun _ => ?_)
      refine j_b3 [(.slice x4.1 (0 + a0_0_n) x4.2), (.slice x6.1 (0 + a0_1_n) x6.2), (.slice x8.1 (0 + a0_2_n) x8.2)] rfl ?_
      refine j_rs (.row x4.1 x4.2 3 1 (ii (([] : List Int) ++ a0_0)) :: .row x6.1 x6.2 3 1 (ii (([] : List Int) ++ a0_1)) :: .row x8.1 x8.2 3 1 (ii (([] : List Int) ++ a0_2)) :: .box x2 34 [(.slice x4.1 (0 + a0_0_n) x4.2), (.slice x6.1 (0 + a0_1_n) x6.2), (.slice x8.1 (0 + a0_2_n) x8.2)] :: .box x1 34 [(.slice a0_0_A a0_0_n a0_0_c), (.slice a0_1_A a0_1_n a0_1_c), (.slice a0_2_A a0_2_n a0_2_c)] :: F) (fun _ h => h) ?_
      refine j_env [(2, (pt x2))] ⟨rfl, trivial⟩ ?_
      exact hD16383 (x3, x4, x5, x6, x7, x8)
  refine d_join (σ := (Option Addr) × (Option Addr × Nat) × (Option Addr) × (Option Addr × Nat) × (Option Addr)) 3 #[true, true, true, true, true, true, true, true, true, true, true, false, false, false] (fun s => [(2, (pt x2)), (6, (.slice s.2.1.1 (0 + a0_0_n) s.2.1.2)), (10, (.slice s.2.2.2.1.1 (0 + a0_1_n) s.2.2.2.1.2)), (11, (.slice s.2.2.2.2 0 0)), (13, (.slice a0_2_A a0_2_n a0_2_c))]) (fun s => .row s.2.1.1 s.2.1.2 3 1 (ii (([] : List Int) ++ a0_0)) :: .row s.2.2.2.1.1 s.2.2.2.1.2 3 1 (ii (([] : List Int) ++ a0_1)) :: .row s.2.2.2.2 0 3 1 (ii ([] : List Int)) :: .box x2 34 [(.slice none 0 0), (.slice none 0 0), (.slice none 0 0)] :: .box x1 34 [(.slice a0_0_A a0_0_n a0_0_c), (.slice a0_1_A a0_1_n a0_1_c), (.slice a0_2_A a0_2_n a0_2_c)] :: F) ?_ (fun hD2047 => ?_)
  · rintro ⟨x3, x4, x5, x6, x7⟩
    show J _ _ [(2, (pt x2)), (6, (.slice x4.1 (0 + a0_0_n) x4.2)), (10, (.slice x6.1 (0 + a0_1_n) x6.2)), (11, (.slice x7 0 0)), (13, (.slice a0_2_A a0_2_n a0_2_c))] _ (.row x4.1 x4.2 3 1 (ii (([] : List Int) ++ a0_0)) :: .row x6.1 x6.2 3 1 (ii (([] : List Int) ++ a0_1)) :: .row x7 0 3 1 (ii ([] : List Int)) :: .box x2 34 [(.slice none 0 0), (.slice none 0 0), (.slice none 0 0)] :: .box x1 34 [(.slice a0_0_A a0_0_n a0_0_c), (.slice a0_1_A a0_1_n a0_1_c), (.slice a0_2_A a0_2_n a0_2_c)] :: F)
    refine d_one 11 (by kernel_rfl) ?_
    · refine o_do rfl (a_appI (xs := ([] : List Int)) (ys := a0_2) 2 un22 un22 sz3 by3 zr3 rfl rfl rfl rfl rfl rfl rfl rfl rfl rfl a0_2_h (Rd.drop 5 a0_2_R) c3) rfl rfl (fun x8 w h => (h.drop 4)) (fun x8 => ?_)
      refine j_s2 ?_
      refine d_take 12 rfl (q_build (cs := [(.slice x4.1 (0 + a0_0_n) x4.2), (.slice x6.1 (0 + a0_1_n) x6.2), (.slice x8.1 (0 + a0_2_n) x8.2)]) zr34 pl34 rfl rfl rfl rfl) rfl rfl (by kernel_rfl) (by kernel_rfl) (by kernel_rfl) (fun w h => (h.drop 4)) ?_
      refine j_rs (.row x4.1 x4.2 3 1 (ii (([] : List Int) ++ a0_0)) :: .row x6.1 x6.2 3 1 (ii (([] : List Int) ++ a0_1)) :: .row x8.1 x8.2 3 1 (ii (([] : List Int) ++ a0_2)) :: .box x2 34 [(.slice none 0 0), (.slice none 0 0), (.slice none 0 0)] :: .box x1 34 [(.slice a0_0_A a0_0_n a0_0_c), (.slice a0_1_A a0_1_n a0_1_c), (.slice a0_2_A a0_2_n a0_2_c)] :: F) (fun _ h => h) ?_
      refine j_env [(2, (pt x2)), (15, (.agg (List.toArray [(.slice x4.1 (0 + a0_0_n) x4.2), (.slice x6.1 (0 + a0_1_n) x6.2), (.slice x8.1 (0 + a0_2_n) x8.2)])))] ⟨rfl, rfl, trivial⟩ ?_
      exact hD8191 (x3, x4, x5, x6, x7, x8)
  refine d_join (σ := (Option Addr) × (Option Addr × Nat) × (Option Addr) × (Option Addr × Nat)) 4 #[true, true, true, true, true, true, true, true, false, true, true, false, false, false] (fun s => [(2, (pt x2)), (6, (.slice s.2.1.1 (0 + a0_0_n) s.2.1.2)), (10, (.slice s.2.2.2.1 (0 + a0_1_n) s.2.2.2.2)), (13, (.slice a0_2_A a0_2_n a0_2_c))]) (fun s => .row s.2.1.1 s.2.1.2 3 1 (ii (([] : List Int) ++ a0_0)) :: .row s.2.2.2.1 s.2.2.2.2 3 1 (ii (([] : List Int) ++ a0_1)) :: .box x2 34 [(.slice none 0 0), (.slice none 0 0), (.slice none 0 0)] :: .box x1 34 [(.slice a0_0_A a0_0_n a0_0_c), (.slice a0_1_A a0_1_n a0_1_c), (.slice a0_2_A a0_2_n a0_2_c)] :: F) ?_ (fun hD1791 => ?_)
  · rintro ⟨x3, x4, x5, x6⟩
    show J _ _ [(2, (pt x2)), (6, (.slice x4.1 (0 + a0_0_n) x4.2)), (10, (.slice x6.1 (0 + a0_1_n) x6.2)), (13, (.slice a0_2_A a0_2_n a0_2_c))] _ (.row x4.1 x4.2 3 1 (ii (([] : List Int) ++ a0_0)) :: .row x6.1 x6.2 3 1 (ii (([] : List Int) ++ a0_1)) :: .box x2 34 [(.slice none 0 0), (.slice none 0 0), (.slice none 0 0)] :: .box x1 34 [(.slice a0_0_A a0_0_n a0_0_c), (.slice a0_1_A a0_1_n a0_1_c), (.slice a0_2_A a0_2_n a0_2_c)] :: F)
    refine d_one 8 (by kernel_rfl) ?_
    · refine o_do rfl (a_litX (vs := []) (ii ([] : List Int)) un22 sz3 zr3 rfl rfl rfl rfl rfl rfl rfl rfl rfl) rfl rfl (fun x7 w h => (h.drop 4)) (fun x7 => ?_)
      refine j_rs (.row x4.1 x4.2 3 1 (ii (([] : List Int) ++ a0_0)) :: .row x6.1 x6.2 3 1 (ii (([] : List Int) ++ a0_1)) :: .row x7 0 3 1 (ii ([] : List Int)) :: .box x2 34 [(.slice none 0 0), (.slice none 0 0), (.slice none 0 0)] :: .box x1 34 [(.slice a0_0_A a0_0_n a0_0_c), (.slice a0_1_A a0_1_n a0_1_c), (.slice a0_2_A a0_2_n a0_2_c)] :: F) (fun _ h => h.pick 5 [1, 2, 0, 3, 4] rfl) ?_
      refine j_env [(2, (pt x2)), (6, (.slice x4.1 (0 + a0_0_n) x4.2)), (10, (.slice x6.1 (0 + a0_1_n) x6.2)), (11, (.slice x7 0 0)), (13, (.slice a0_2_A a0_2_n a0_2_c))] ⟨rfl, rfl, rfl, rfl, rfl, trivial⟩ ?_
      exact hD2047 (x3, x4, x5, x6, x7)
  refine d_join (σ := (Option Addr) × (Option Addr × Nat) × (Option Addr) × (Option Addr)) 4 #[true, true, true, true, true, true, true, false, true, true, true, false, false, false] (fun s => [(2, (pt x2)), (6, (.slice s.2.1.1 (0 + a0_0_n) s.2.1.2)), (7, (.slice s.2.2.1 0 0)), (9, (.slice a0_1_A a0_1_n a0_1_c)), (11, (.slice s.2.2.2 0 0)), (13, (.slice a0_2_A a0_2_n a0_2_c))]) (fun s => .row s.2.1.1 s.2.1.2 3 1 (ii (([] : List Int) ++ a0_0)) :: .row s.2.2.1 0 3 1 (ii ([] : List Int)) :: .row s.2.2.2 0 3 1 (ii ([] : List Int)) :: .box x2 34 [(.slice none 0 0), (.slice none 0 0), (.slice none 0 0)] :: .box x1 34 [(.slice a0_0_A a0_0_n a0_0_c), (.slice a0_1_A a0_1_n a0_1_c), (.slice a0_2_A a0_2_n a0_2_c)] :: F) ?_ (fun hD1919 => ?_)
  · rintro ⟨x3, x4, x5, x7⟩
    show J _ _ [(2, (pt x2)), (6, (.slice x4.1 (0 + a0_0_n) x4.2)), (7, (.slice x5 0 0)), (9, (.slice a0_1_A a0_1_n a0_1_c)), (11, (.slice x7 0 0)), (13, (.slice a0_2_A a0_2_n a0_2_c))] _ (.row x4.1 x4.2 3 1 (ii (([] : List Int) ++ a0_0)) :: .row x5 0 3 1 (ii ([] : List Int)) :: .row x7 0 3 1 (ii ([] : List Int)) :: .box x2 34 [(.slice none 0 0), (.slice none 0 0), (.slice none 0 0)] :: .box x1 34 [(.slice a0_0_A a0_0_n a0_0_c), (.slice a0_1_A a0_1_n a0_1_c), (.slice a0_2_A a0_2_n a0_2_c)] :: F)
    refine d_one 7 (by kernel_rfl) ?_
    · refine o_do rfl (a_appI (xs := ([] : List Int)) (ys := a0_1) 1 un22 un22 sz3 by3 zr3 rfl rfl rfl rfl rfl rfl rfl rfl rfl rfl a0_1_h (Rd.drop 5 a0_1_R) c2) rfl rfl (fun x6 w h => (h.drop 4)) (fun x6 => ?_)
      refine j_s1 ?_
      refine j_rs (.row x4.1 x4.2 3 1 (ii (([] : List Int) ++ a0_0)) :: .row x6.1 x6.2 3 1 (ii (([] : List Int) ++ a0_1)) :: .row x7 0 3 1 (ii ([] : List Int)) :: .box x2 34 [(.slice none 0 0), (.slice none 0 0), (.slice none 0 0)] :: .box x1 34 [(.slice a0_0_A a0_0_n a0_0_c), (.slice a0_1_A a0_1_n a0_1_c), (.slice a0_2_A a0_2_n a0_2_c)] :: F) (fun _ h => h) ?_
      refine j_env [(2, (pt x2)), (6, (.slice x4.1 (0 + a0_0_n) x4.2)), (10, (.slice x6.1 (0 + a0_1_n) x6.2)), (11, (.slice x7 0 0)), (13, (.slice a0_2_A a0_2_n a0_2_c))] ⟨rfl, rfl, rfl, rfl, rfl, trivial⟩ ?_
      exact hD2047 (x3, x4, x5, x6, x7)
  refine d_join (σ := (Option Addr) × (Option Addr × Nat) × (Option Addr)) 5 #[true, true, true, true, true, true, true, false, false, true, true, false, false, false] (fun s => [(2, (pt x2)), (6, (.slice s.2.1.1 (0 + a0_0_n) s.2.1.2)), (7, (.slice s.2.2 0 0)), (9, (.slice a0_1_A a0_1_n a0_1_c)), (13, (.slice a0_2_A a0_2_n a0_2_c))]) (fun s => .row s.2.1.1 s.2.1.2 3 1 (ii (([] : List Int) ++ a0_0)) :: .row s.2.2 0 3 1 (ii ([] : List Int)) :: .box x2 34 [(.slice none 0 0), (.slice none 0 0), (.slice none 0 0)] :: .box x1 34 [(.slice a0_0_A a0_0_n a0_0_c), (.slice a0_1_A a0_1_n a0_1_c), (.slice a0_2_A a0_2_n a0_2_c)] :: F) ?_ (fun hD1663 => ?_)
  · rintro ⟨x3, x4, x5⟩
    show J _ _ [(2, (pt x2)), (6, (.slice x4.1 (0 + a0_0_n) x4.2)), (7, (.slice x5 0 0)), (9, (.slice a0_1_A a0_1_n a0_1_c)), (13, (.slice a0_2_A a0_2_n a0_2_c))] _ (.row x4.1 x4.2 3 1 (ii (([] : List Int) ++ a0_0)) :: .row x5 0 3 1 (ii ([] : List Int)) :: .box x2 34 [(.slice none 0 0), (.slice none 0 0), (.slice none 0 0)] :: .box x1 34 [(.slice a0_0_A a0_0_n a0_0_c), (.slice a0_1_A a0_1_n a0_1_c), (.slice a0_2_A a0_2_n a0_2_c)] :: F)
    refine d_two 7 8 (by kernel_rfl) ?_ ?_
    · refine o_do rfl (a_appI (xs := ([] : List Int)) (ys := a0_1) 1 un22 un22 sz3 by3 zr3 rfl rfl rfl rfl rfl rfl rfl rfl rfl rfl a0_1_h (Rd.drop 4 a0_1_R) c2) rfl rfl (fun x6 w h => (h.drop 3)) (fun x6 => ?_)
      refine j_s1 ?_
      refine j_rs (.row x4.1 x4.2 3 1 (ii (([] : List Int) ++ a0_0)) :: .row x6.1 x6.2 3 1 (ii (([] : List Int) ++ a0_1)) :: .box x2 34 [(.slice none 0 0), (.slice none 0 0), (.slice none 0 0)] :: .box x1 34 [(.slice a0_0_A a0_0_n a0_0_c), (.slice a0_1_A a0_1_n a0_1_c), (.slice a0_2_A a0_2_n a0_2_c)] :: F) (fun _ h => h) ?_
      refine j_env [(2, (pt x2)), (6, (.slice x4.1 (0 + a0_0_n) x4.2)), (10, (.slice x6.1 (0 + a0_1_n) x6.2)), (13, (.slice a0_2_A a0_2_n a0_2_c))] ⟨rfl, rfl, rfl, rfl, trivial⟩ ?_
      exact hD1791 (x3, x4, x5, x6)
    · refine o_do rfl (a_litX (vs := []) (ii ([] : List Int)) un22 sz3 zr3 rfl rfl rfl rfl rfl rfl rfl rfl rfl) rfl rfl (fun x7 w h => (h.drop 4)) (fun x7 => ?_)
      refine j_rs (.row x4.1 x4.2 3 1 (ii (([] : List Int) ++ a0_0)) :: .row x5 0 3 1 (ii ([] : List Int)) :: .row x7 0 3 1 (ii ([] : List Int)) :: .box x2 34 [(.slice none 0 0), (.slice none 0 0), (.slice none 0 0)] :: .box x1 34 [(.slice a0_0_A a0_0_n a0_0_c), (.slice a0_1_A a0_1_n a0_1_c), (.slice a0_2_A a0_2_n a0_2_c)] :: F) (fun _ h => h.pick 5 [1, 2, 0, 3, 4] rfl) ?_
      refine j_env [(2, (pt x2)), (6, (.slice x4.1 (0 + a0_0_n) x4.2)), (7, (.slice x5 0 0)), (9, (.slice a0_1_A a0_1_n a0_1_c)), (11, (.slice x7 0 0)), (13, (.slice a0_2_A a0_2_n a0_2_c))] ⟨rfl, rfl, rfl, rfl, rfl, rfl, trivial⟩ ?_
      exact hD1919 (x3, x4, x5, x7)
  refine d_join (σ := (Option Addr) × (Option Addr × Nat) × (Option Addr)) 5 #[true, true, true, true, false, true, true, false, true, true, true, false, false, false] (fun s => [(2, (pt x2)), (6, (.slice s.2.1.1 (0 + a0_0_n) s.2.1.2)), (9, (.slice a0_1_A a0_1_n a0_1_c)), (11, (.slice s.2.2 0 0)), (13, (.slice a0_2_A a0_2_n a0_2_c))]) (fun s => .row s.2.1.1 s.2.1.2 3 1 (ii (([] : List Int) ++ a0_0)) :: .row s.2.2 0 3 1 (ii ([] : List Int)) :: .box x2 34 [(.slice none 0 0), (.slice none 0 0), (.slice none 0 0)] :: .box x1 34 [(.slice a0_0_A a0_0_n a0_0_c), (.slice a0_1_A a0_1_n a0_1_c), (.slice a0_2_A a0_2_n a0_2_c)] :: F) ?_ (fun hD1903 => ?_)
  · rintro ⟨x3, x4, x7⟩
    show J _ _ [(2, (pt x2)), (6, (.slice x4.1 (0 + a0_0_n) x4.2)), (9, (.slice a0_1_A a0_1_n a0_1_c)), (11, (.slice x7 0 0)), (13, (.slice a0_2_A a0_2_n a0_2_c))] _ (.row x4.1 x4.2 3 1 (ii (([] : List Int) ++ a0_0)) :: .row x7 0 3 1 (ii ([] : List Int)) :: .box x2 34 [(.slice none 0 0), (.slice none 0 0), (.slice none 0 0)] :: .box x1 34 [(.slice a0_0_A a0_0_n a0_0_c), (.slice a0_1_A a0_1_n a0_1_c), (.slice a0_2_A a0_2_n a0_2_c)] :: F)
    refine d_one 4 (by kernel_rfl) ?_
    · refine o_do rfl (a_litX (vs := []) (ii ([] : List Int)) un22 sz3 zr3 rfl rfl rfl rfl rfl rfl rfl rfl rfl) rfl rfl (fun x5 w h => (h.drop 4)) (fun x5 => ?_)
      refine j_rs (.row x4.1 x4.2 3 1 (ii (([] : List Int) ++ a0_0)) :: .row x5 0 3 1 (ii ([] : List Int)) :: .row x7 0 3 1 (ii ([] : List Int)) :: .box x2 34 [(.slice none 0 0), (.slice none 0 0), (.slice none 0 0)] :: .box x1 34 [(.slice a0_0_A a0_0_n a0_0_c), (.slice a0_1_A a0_1_n a0_1_c), (.slice a0_2_A a0_2_n a0_2_c)] :: F) (fun _ h => h.pick 5 [1, 0, 2, 3, 4] rfl) ?_
      refine j_env [(2, (pt x2)), (6, (.slice x4.1 (0 + a0_0_n) x4.2)), (7, (.slice x5 0 0)), (9, (.slice a0_1_A a0_1_n a0_1_c)), (11, (.slice x7 0 0)), (13, (.slice a0_2_A a0_2_n a0_2_c))] ⟨rfl, rfl, rfl, rfl, rfl, rfl, trivial⟩ ?_
      exact hD1919 (x3, x4, x5, x7)
  refine d_join (σ := (Option Addr) × (Option Addr) × (Option Addr)) 5 #[true, true, true, false, true, true, true, false, true, true, true, false, false, false] (fun s => [(2, (pt x2)), (3, (.slice s.1 0 0)), (5, (.slice a0_0_A a0_0_n a0_0_c)), (7, (.slice s.2.1 0 0)), (9, (.slice a0_1_A a0_1_n a0_1_c)), (11, (.slice s.2.2 0 0)), (13, (.slice a0_2_A a0_2_n a0_2_c))]) (fun s => .row s.1 0 3 1 (ii ([] : List Int)) :: .row s.2.1 0 3 1 (ii ([] : List Int)) :: .row s.2.2 0 3 1 (ii ([] : List Int)) :: .box x2 34 [(.slice none 0 0), (.slice none 0 0), (.slice none 0 0)] :: .box x1 34 [(.slice a0_0_A a0_0_n a0_0_c), (.slice a0_1_A a0_1_n a0_1_c), (.slice a0_2_A a0_2_n a0_2_c)] :: F) ?_ (fun hD1911 => ?_)
  · rintro ⟨x3, x5, x7⟩
    show J _ _ [(2, (pt x2)), (3, (.slice x3 0 0)), (5, (.slice a0_0_A a0_0_n a0_0_c)), (7, (.slice x5 0 0)), (9, (.slice a0_1_A a0_1_n a0_1_c)), (11, (.slice x7 0 0)), (13, (.slice a0_2_A a0_2_n a0_2_c))] _ (.row x3 0 3 1 (ii ([] : List Int)) :: .row x5 0 3 1 (ii ([] : List Int)) :: .row x7 0 3 1 (ii ([] : List Int)) :: .box x2 34 [(.slice none 0 0), (.slice none 0 0), (.slice none 0 0)] :: .box x1 34 [(.slice a0_0_A a0_0_n a0_0_c), (.slice a0_1_A a0_1_n a0_1_c), (.slice a0_2_A a0_2_n a0_2_c)] :: F)
    refine d_one 3 (by kernel_rfl) ?_
    · refine o_do rfl (a_appI (xs := ([] : List Int)) (ys := a0_0) 0 un22 un22 sz3 by3 zr3 rfl rfl rfl rfl rfl rfl rfl rfl rfl rfl a0_0_h (Rd.drop 5 a0_0_R) c1) rfl rfl (fun x4 w h => (h.drop 4)) (fun x4 => ?_)
      refine j_s0 ?_
      refine j_rs (.row x4.1 x4.2 3 1 (ii (([] : List Int) ++ a0_0)) :: .row x5 0 3 1 (ii ([] : List Int)) :: .row x7 0 3 1 (ii ([] : List Int)) :: .box x2 34 [(.slice none 0 0), (.slice none 0 0), (.slice none 0 0)] :: .box x1 34 [(.slice a0_0_A a0_0_n a0_0_c), (.slice a0_1_A a0_1_n a0_1_c), (.slice a0_2_A a0_2_n a0_2_c)] :: F) (fun _ h => h) ?_
      refine j_env [(2, (pt x2)), (6, (.slice x4.1 (0 + a0_0_n) x4.2)), (7, (.slice x5 0 0)), (9, (.slice a0_1_A a0_1_n a0_1_c)), (11, (.slice x7 0 0)), (13, (.slice a0_2_A a0_2_n a0_2_c))] ⟨rfl, rfl, rfl, rfl, rfl, rfl, trivial⟩ ?_
      exact hD1919 (x3, x4, x5, x7)
  refine d_join (σ := (Option Addr) × (Option Addr × Nat)) 6 #[true, true, true, true, false, true, true, false, false, true, true, false, false, false] (fun s => [(2, (pt x2)), (6, (.slice s.2.1 (0 + a0_0_n) s.2.2)), (9, (.slice a0_1_A a0_1_n a0_1_c)), (13, (.slice a0_2_A a0_2_n a0_2_c))]) (fun s => .row s.2.1 s.2.2 3 1 (ii (([] : List Int) ++ a0_0)) :: .box x2 34 [(.slice none 0 0), (.slice none 0 0), (.slice none 0 0)] :: .box x1 34 [(.slice a0_0_A a0_0_n a0_0_c), (.slice a0_1_A a0_1_n a0_1_c), (.slice a0_2_A a0_2_n a0_2_c)] :: F) ?_ (fun hD1647 => ?_)
  · rintro ⟨x3, x4⟩
    show J _ _ [(2, (pt x2)), (6, (.slice x4.1 (0 + a0_0_n) x4.2)), (9, (.slice a0_1_A a0_1_n a0_1_c)), (13, (.slice a0_2_A a0_2_n a0_2_c))] _ (.row x4.1 x4.2 3 1 (ii (([] : List Int) ++ a0_0)) :: .box x2 34 [(.slice none 0 0), (.slice none 0 0), (.slice none 0 0)] :: .box x1 34 [(.slice a0_0_A a0_0_n a0_0_c), (.slice a0_1_A a0_1_n a0_1_c), (.slice a0_2_A a0_2_n a0_2_c)] :: F)
    refine d_two 4 8 (by kernel_rfl) ?_ ?_
    · refine o_do rfl (a_litX (vs := []) (ii ([] : List Int)) un22 sz3 zr3 rfl rfl rfl rfl rfl rfl rfl rfl rfl) rfl rfl (fun x5 w h => (h.drop 3)) (fun x5 => ?_)
      refine j_rs (.row x4.1 x4.2 3 1 (ii (([] : List Int) ++ a0_0)) :: .row x5 0 3 1 (ii ([] : List Int)) :: .box x2 34 [(.slice none 0 0), (.slice none 0 0), (.slice none 0 0)] :: .box x1 34 [(.slice a0_0_A a0_0_n a0_0_c), (.slice a0_1_A a0_1_n a0_1_c), (.slice a0_2_A a0_2_n a0_2_c)] :: F) (fun _ h => h.pick 4 [1, 0, 2, 3] rfl) ?_
      refine j_env [(2, (pt x2)), (6, (.slice x4.1 (0 + a0_0_n) x4.2)), (7, (.slice x5 0 0)), (9, (.slice a0_1_A a0_1_n a0_1_c)), (13, (.slice a0_2_A a0_2_n a0_2_c))] ⟨rfl, rfl, rfl, rfl, rfl, trivial⟩ ?_
      exact hD1663 (x3, x4, x5)
    · refine o_do rfl (a_litX (vs := []) (ii ([] : List Int)) un22 sz3 zr3 rfl rfl rfl rfl rfl rfl rfl rfl rfl) rfl rfl (fun x7 w h => (h.drop 3)) (fun x7 => ?_)
      refine j_rs (.row x4.1 x4.2 3 1 (ii (([] : List Int) ++ a0_0)) :: .row x7 0 3 1 (ii ([] : List Int)) :: .box x2 34 [(.slice none 0 0), (.slice none 0 0), (.slice none 0 0)] :: .box x1 34 [(.slice a0_0_A a0_0_n a0_0_c), (.slice a0_1_A a0_1_n a0_1_c), (.slice a0_2_A a0_2_n a0_2_c)] :: F) (fun _ h => h.pick 4 [1, 0, 2, 3] rfl) ?_
      refine j_env [(2, (pt x2)), (6, (.slice x4.1 (0 + a0_0_n) x4.2)), (9, (.slice a0_1_A a0_1_n a0_1_c)), (11, (.slice x7 0 0)), (13, (.slice a0_2_A a0_2_n a0_2_c))] ⟨rfl, rfl, rfl, rfl, rfl, trivial⟩ ?_
      exact hD1903 (x3, x4, x7)
  refine d_join (σ := (Option Addr) × (Option Addr)) 6 #[true, true, true, false, true, true, true, false, false, true, true, false, false, false] (fun s => [(2, (pt x2)), (3, (.slice s.1 0 0)), (5, (.slice a0_0_A a0_0_n a0_0_c)), (7, (.slice s.2 0 0)), (9, (.slice a0_1_A a0_1_n a0_1_c)), (13, (.slice a0_2_A a0_2_n a0_2_c))]) (fun s => .row s.1 0 3 1 (ii ([] : List Int)) :: .row s.2 0 3 1 (ii ([] : List Int)) :: .box x2 34 [(.slice none 0 0), (.slice none 0 0), (.slice none 0 0)] :: .box x1 34 [(.slice a0_0_A a0_0_n a0_0_c), (.slice a0_1_A a0_1_n a0_1_c), (.slice a0_2_A a0_2_n a0_2_c)] :: F) ?_ (fun hD1655 => ?_)
  · rintro ⟨x3, x5⟩
    show J _ _ [(2, (pt x2)), (3, (.slice x3 0 0)), (5, (.slice a0_0_A a0_0_n a0_0_c)), (7, (.slice x5 0 0)), (9, (.slice a0_1_A a0_1_n a0_1_c)), (13, (.slice a0_2_A a0_2_n a0_2_c))] _ (.row x3 0 3 1 (ii ([] : List Int)) :: .row x5 0 3 1 (ii ([] : List Int)) :: .box x2 34 [(.slice none 0 0), (.slice none 0 0), (.slice none 0 0)] :: .box x1 34 [(.slice a0_0_A a0_0_n a0_0_c), (.slice a0_1_A a0_1_n a0_1_c), (.slice a0_2_A a0_2_n a0_2_c)] :: F)
    refine d_two 3 8 (by kernel_rfl) ?_ ?_
    · refine o_do rfl (a_appI (xs := ([] : List Int)) (ys := a0_0) 0 un22 un22 sz3 by3 zr3 rfl rfl rfl rfl rfl rfl rfl rfl rfl rfl a0_0_h (Rd.drop 4 a0_0_R) c1) rfl rfl (fun x4 w h => (h.drop 3)) (fun x4 => ?_)
      refine j_s0 ?_
      refine j_rs (.row x4.1 x4.2 3 1 (ii (([] : List Int) ++ a0_0)) :: .row x5 0 3 1 (ii ([] : List Int)) :: .box x2 34 [(.slice none 0 0), (.slice none 0 0), (.slice none 0 0)] :: .box x1 34 [(.slice a0_0_A a0_0_n a0_0_c), (.slice a0_1_A a0_1_n a0_1_c), (.slice a0_2_A a0_2_n a0_2_c)] :: F) (fun _ h => h) ?_
      refine j_env [(2, (pt x2)), (6, (.slice x4.1 (0 + a0_0_n) x4.2)), (7, (.slice x5 0 0)), (9, (.slice a0_1_A a0_1_n a0_1_c)), (13, (.slice a0_2_A a0_2_n a0_2_c))] ⟨rfl, rfl, rfl, rfl, rfl, trivial⟩ ?_
      exact hD1663 (x3, x4, x5)
    · refine o_do rfl (a_litX (vs := []) (ii ([] : List Int)) un22 sz3 zr3 rfl rfl rfl rfl rfl rfl rfl rfl rfl) rfl rfl (fun x7 w h => (h.drop 4)) (fun x7 => ?_)
      refine j_rs (.row x3 0 3 1 (ii ([] : List Int)) :: .row x5 0 3 1 (ii ([] : List Int)) :: .row x7 0 3 1 (ii ([] : List Int)) :: .box x2 34 [(.slice none 0 0), (.slice none 0 0), (.slice none 0 0)] :: .box x1 34 [(.slice a0_0_A a0_0_n a0_0_c), (.slice a0_1_A a0_1_n a0_1_c), (.slice a0_2_A a0_2_n a0_2_c)] :: F) (fun _ h => h.pick 5 [1, 2, 0, 3, 4] rfl) ?_
      refine j_env [(2, (pt x2)), (3, (.slice x3 0 0)), (5, (.slice a0_0_A a0_0_n a0_0_c)), (7, (.slice x5 0 0)), (9, (.slice a0_1_A a0_1_n a0_1_c)), (11, (.slice x7 0 0)), (13, (.slice a0_2_A a0_2_n a0_2_c))] ⟨rfl, rfl, rfl, rfl, rfl, rfl, rfl, trivial⟩ ?_
      exact hD1911 (x3, x5, x7)
  refine d_join (σ := (Option Addr) × (Option Addr)) 6 #[true, true, true, false, false, true, true, false, true, true, true, false, false, false] (fun s => [(2, (pt x2)), (3, (.slice s.1 0 0)), (5, (.slice a0_0_A a0_0_n a0_0_c)), (9, (.slice a0_1_A a0_1_n a0_1_c)), (11, (.slice s.2 0 0)), (13, (.slice a0_2_A a0_2_n a0_2_c))]) (fun s => .row s.1 0 3 1 (ii ([] : List Int)) :: .row s.2 0 3 1 (ii ([] : List Int)) :: .box x2 34 [(.slice none 0 0), (.slice none 0 0), (.slice none 0 0)] :: .box x1 34 [(.slice a0_0_A a0_0_n a0_0_c), (.slice a0_1_A a0_1_n a0_1_c), (.slice a0_2_A a0_2_n a0_2_c)] :: F) ?_ (fun hD1895 => ?_)
  · rintro ⟨x3, x7⟩
    show J _ _ [(2, (pt x2)), (3, (.slice x3 0 0)), (5, (.slice a0_0_A a0_0_n a0_0_c)), (9, (.slice a0_1_A a0_1_n a0_1_c)), (11, (.slice x7 0 0)), (13, (.slice a0_2_A a0_2_n a0_2_c))] _ (.row x3 0 3 1 (ii ([] : List Int)) :: .row x7 0 3 1 (ii ([] : List Int)) :: .box x2 34 [(.slice none 0 0), (.slice none 0 0), (.slice none 0 0)] :: .box x1 34 [(.slice a0_0_A a0_0_n a0_0_c), (.slice a0_1_A a0_1_n a0_1_c), (.slice a0_2_A a0_2_n a0_2_c)] :: F)
    refine d_two 3 4 (by kernel_rfl) ?_ ?_
    · refine o_do rfl (a_appI (xs := ([] : List Int)) (ys := a0_0) 0 un22 un22 sz3 by3 zr3 rfl rfl rfl rfl rfl rfl rfl rfl rfl rfl a0_0_h (Rd.drop 4 a0_0_R) c1) rfl rfl (fun x4 w h => (h.drop 3)) (fun x4 => ?_)
      refine j_s0 ?_
      refine j_rs (.row x4.1 x4.2 3 1 (ii (([] : List Int) ++ a0_0)) :: .row x7 0 3 1 (ii ([] : List Int)) :: .box x2 34 [(.slice none 0 0), (.slice none 0 0), (.slice none 0 0)] :: .box x1 34 [(.slice a0_0_A a0_0_n a0_0_c), (.slice a0_1_A a0_1_n a0_1_c), (.slice a0_2_A a0_2_n a0_2_c)] :: F) (fun _ h => h) ?_
      refine j_env [(2, (pt x2)), (6, (.slice x4.1 (0 + a0_0_n) x4.2)), (9, (.slice a0_1_A a0_1_n a0_1_c)), (11, (.slice x7 0 0)), (13, (.slice a0_2_A a0_2_n a0_2_c))] ⟨rfl, rfl, rfl, rfl, rfl, trivial⟩ ?_
      exact hD1903 (x3, x4, x7)
    · refine o_do rfl (a_litX (vs := []) (ii ([] : List Int)) un22 sz3 zr3 rfl rfl rfl rfl rfl rfl rfl rfl rfl) rfl rfl (fun x5 w h => (h.drop 4)) (fun x5 => ?_)
      refine j_rs (.row x3 0 3 1 (ii ([] : List Int)) :: .row x5 0 3 1 (ii ([] : List Int)) :: .row x7 0 3 1 (ii ([] : List Int)) :: .box x2 34 [(.slice none 0 0), (.slice none 0 0), (.slice none 0 0)] :: .box x1 34 [(.slice a0_0_A a0_0_n a0_0_c), (.slice a0_1_A a0_1_n a0_1_c), (.slice a0_2_A a0_2_n a0_2_c)] :: F) (fun _ h => h.pick 5 [1, 0, 2, 3, 4] rfl) ?_
      refine j_env [(2, (pt x2)), (3, (.slice x3 0 0)), (5, (.slice a0_0_A a0_0_n a0_0_c)), (7, (.slice x5 0 0)), (9, (.slice a0_1_A a0_1_n a0_1_c)), (11, (.slice x7 0 0)), (13, (.slice a0_2_A a0_2_n a0_2_c))] ⟨rfl, rfl, rfl, rfl, rfl, rfl, rfl, trivial⟩ ?_
      exact hD1911 (x3, x5, x7)
  refine d_join (σ := (Option Addr) × (Option Addr)) 6 #[false, true, true, false, true, true, true, false, true, true, true, false, false, false] (fun s => [(2, (pt x2)), (5, (.slice a0_0_A a0_0_n a0_0_c)), (7, (.slice s.1 0 0)), (9, (.slice a0_1_A a0_1_n a0_1_c)), (11, (.slice s.2 0 0)), (13, (.slice a0_2_A a0_2_n a0_2_c))]) (fun s => .row s.1 0 3 1 (ii ([] : List Int)) :: .row s.2 0 3 1 (ii ([] : List Int)) :: .box x2 34 [(.slice none 0 0), (.slice none 0 0), (.slice none 0 0)] :: .box x1 34 [(.slice a0_0_A a0_0_n a0_0_c), (.slice a0_1_A a0_1_n a0_1_c), (.slice a0_2_A a0_2_n a0_2_c)] :: F) ?_ (fun hD1910 => ?_)
  · rintro ⟨x5, x7⟩
    show J _ _ [(2, (pt x2)), (5, (.slice a0_0_A a0_0_n a0_0_c)), (7, (.slice x5 0 0)), (9, (.slice a0_1_A a0_1_n a0_1_c)), (11, (.slice x7 0 0)), (13, (.slice a0_2_A a0_2_n a0_2_c))] _ (.row x5 0 3 1 (ii ([] : List Int)) :: .row x7 0 3 1 (ii ([] : List Int)) :: .box x2 34 [(.slice none 0 0), (.slice none 0 0), (.slice none 0 0)] :: .box x1 34 [(.slice a0_0_A a0_0_n a0_0_c), (.slice a0_1_A a0_1_n a0_1_c), (.slice a0_2_A a0_2_n a0_2_c)] :: F)
    refine d_one 0 (by kernel_rfl) ?_
    · refine o_do rfl (a_litX (vs := []) (ii ([] : List Int)) un22 sz3 zr3 rfl rfl rfl rfl rfl rfl rfl rfl rfl) rfl rfl (fun x3 w h => (h.drop 4)) (fun x3 => ?_)
      refine j_rs (.row x3 0 3 1 (ii ([] : List Int)) :: .row x5 0 3 1 (ii ([] : List Int)) :: .row x7 0 3 1 (ii ([] : List Int)) :: .box x2 34 [(.slice none 0 0), (.slice none 0 0), (.slice none 0 0)] :: .box x1 34 [(.slice a0_0_A a0_0_n a0_0_c), (.slice a0_1_A a0_1_n a0_1_c), (.slice a0_2_A a0_2_n a0_2_c)] :: F) (fun _ h => h) ?_
      refine j_env [(2, (pt x2)), (3, (.slice x3 0 0)), (5, (.slice a0_0_A a0_0_n a0_0_c)), (7, (.slice x5 0 0)), (9, (.slice a0_1_A a0_1_n a0_1_c)), (11, (.slice x7 0 0)), (13, (.slice a0_2_A a0_2_n a0_2_c))] ⟨rfl, rfl, rfl, rfl, rfl, rfl, rfl, trivial⟩ ?_
      exact hD1911 (x3, x5, x7)
  refine d_join (σ := (Option Addr)) 7 #[true, true, true, false, false, true, true, false, false, true, true, false, false, false] (fun s => [(2, (pt x2)), (3, (.slice s 0 0)), (5, (.slice a0_0_A a0_0_n a0_0_c)), (9, (.slice a0_1_A a0_1_n a0_1_c)), (13, (.slice a0_2_A a0_2_n a0_2_c))]) (fun s => .row s 0 3 1 (ii ([] : List Int)) :: .box x2 34 [(.slice none 0 0), (.slice none 0 0), (.slice none 0 0)] :: .box x1 34 [(.slice a0_0_A a0_0_n a0_0_c), (.slice a0_1_A a0_1_n a0_1_c), (.slice a0_2_A a0_2_n a0_2_c)] :: F) ?_ (fun hD1639 => ?_)
  · rintro x3
    show J _ _ [(2, (pt x2)), (3, (.slice x3 0 0)), (5, (.slice a0_0_A a0_0_n a0_0_c)), (9, (.slice a0_1_A a0_1_n a0_1_c)), (13, (.slice a0_2_A a0_2_n a0_2_c))] _ (.row x3 0 3 1 (ii ([] : List Int)) :: .box x2 34 [(.slice none 0 0), (.slice none 0 0), (.slice none 0 0)] :: .box x1 34 [(.slice a0_0_A a0_0_n a0_0_c), (.slice a0_1_A a0_1_n a0_1_c), (.slice a0_2_A a0_2_n a0_2_c)] :: F)
    refine d_three 3 4 8 (by kernel_rfl) ?_ ?_ ?_
    · refine o_do rfl (a_appI (xs := ([] : List Int)) (ys := a0_0) 0 un22 un22 sz3 by3 zr3 rfl rfl rfl rfl rfl rfl rfl rfl rfl rfl a0_0_h (Rd.drop 3 a0_0_R) c1) rfl rfl (fun x4 w h => (h.drop 2)) (fun x4 => ?_)
      refine j_s0 ?_
      refine j_rs (.row x4.1 x4.2 3 1 (ii (([] : List Int) ++ a0_0)) :: .box x2 34 [(.slice none 0 0), (.slice none 0 0), (.slice none 0 0)] :: .box x1 34 [(.slice a0_0_A a0_0_n a0_0_c), (.slice a0_1_A a0_1_n a0_1_c), (.slice a0_2_A a0_2_n a0_2_c)] :: F) (fun _ h => h) ?_
      refine j_env [(2, (pt x2)), (6, (.slice x4.1 (0 + a0_0_n) x4.2)), (9, (.slice a0_1_A a0_1_n a0_1_c)), (13, (.slice a0_2_A a0_2_n a0_2_c))] ⟨rfl, rfl, rfl, rfl, trivial⟩ ?_
      exact hD1647 (x3, x4)
    · refine o_do rfl (a_litX (vs := []) (ii ([] : List Int)) un22 sz3 zr3 rfl rfl rfl rfl rfl rfl rfl rfl rfl) rfl rfl (fun x5 w h => (h.drop 3)) (fun x5 => ?_)
      refine j_rs (.row x3 0 3 1 (ii ([] : List Int)) :: .row x5 0 3 1 (ii ([] : List Int)) :: .box x2 34 [(.slice none 0 0), (.slice none 0 0), (.slice none 0 0)] :: .box x1 34 [(.slice a0_0_A a0_0_n a0_0_c), (.slice a0_1_A a0_1_n a0_1_c), (.slice a0_2_A a0_2_n a0_2_c)] :: F) (fun _ h => h.pick 4 [1, 0, 2, 3] rfl) ?_
      refine j_env [(2, (pt x2)), (3, (.slice x3 0 0)), (5, (.slice a0_0_A a0_0_n a0_0_c)), (7, (.slice x5 0 0)), (9, (.slice a0_1_A a0_1_n a0_1_c)), (13, (.slice a0_2_A a0_2_n a0_2_c))] ⟨rfl, rfl, rfl, rfl, rfl, rfl, trivial⟩ ?_
      exact hD1655 (x3, x5)
    · refine o_do rfl (a_litX (vs := []) (ii ([] : List Int)) un22 sz3 zr3 rfl rfl rfl rfl rfl rfl rfl rfl rfl) rfl rfl (fun x7 w h => (h.drop 3)) (fun x7 => ?_)
      refine j_rs (.row x3 0 3 1 (ii ([] : List Int)) :: .row x7 0 3 1 (ii ([] : List Int)) :: .box x2 34 [(.slice none 0 0), (.slice none 0 0), (.slice none 0 0)] :: .box x1 34 [(.slice a0_0_A a0_0_n a0_0_c), (.slice a0_1_A a0_1_n a0_1_c), (.slice a0_2_A a0_2_n a0_2_c)] :: F) (fun _ h => h.pick 4 [1, 0, 2, 3] rfl) ?_
      refine j_env [(2, (pt x2)), (3, (.slice x3 0 0)), (5, (.slice a0_0_A a0_0_n a0_0_c)), (9, (.slice a0_1_A a0_1_n a0_1_c)), (11, (.slice x7 0 0)), (13, (.slice a0_2_A a0_2_n a0_2_c))] ⟨rfl, rfl, rfl, rfl, rfl, rfl, trivial⟩ ?_
      exact hD1895 (x3, x7)
  refine d_join (σ := (Option Addr)) 7 #[false, true, true, false, true, true, true, false, false, true, true, false, false, false] (fun s => [(2, (pt x2)), (5, (.slice a0_0_A a0_0_n a0_0_c)), (7, (.slice s 0 0)), (9, (.slice a0_1_A a0_1_n a0_1_c)), (13, (.slice a0_2_A a0_2_n a0_2_c))]) (fun s => .row s 0 3 1 (ii ([] : List Int)) :: .box x2 34 [(.slice none 0 0), (.slice none 0 0), (.slice none 0 0)] :: .box x1 34 [(.slice a0_0_A a0_0_n a0_0_c), (.slice a0_1_A a0_1_n a0_1_c), (.slice a0_2_A a0_2_n a0_2_c)] :: F) ?_ (fun hD1654 => ?_)
  · rintro x5
    show J _ _ [(2, (pt x2)), (5, (.slice a0_0_A a0_0_n a0_0_c)), (7, (.slice x5 0 0)), (9, (.slice a0_1_A a0_1_n a0_1_c)), (13, (.slice a0_2_A a0_2_n a0_2_c))] _ (.row x5 0 3 1 (ii ([] : List Int)) :: .box x2 34 [(.slice none 0 0), (.slice none 0 0), (.slice none 0 0)] :: .box x1 34 [(.slice a0_0_A a0_0_n a0_0_c), (.slice a0_1_A a0_1_n a0_1_c), (.slice a0_2_A a0_2_n a0_2_c)] :: F)
    refine d_two 0 8 (by kernel_rfl) ?_ ?_
    · refine o_do rfl (a_litX (vs := []) (ii ([] : List Int)) un22 sz3 zr3 rfl rfl rfl rfl rfl rfl rfl rfl rfl) rfl rfl (fun x3 w h => (h.drop 3)) (fun x3 => ?_)
      refine j_rs (.row x3 0 3 1 (ii ([] : List Int)) :: .row x5 0 3 1 (ii ([] : List Int)) :: .box x2 34 [(.slice none 0 0), (.slice none 0 0), (.slice none 0 0)] :: .box x1 34 [(.slice a0_0_A a0_0_n a0_0_c), (.slice a0_1_A a0_1_n a0_1_c), (.slice a0_2_A a0_2_n a0_2_c)] :: F) (fun _ h => h) ?_
      refine j_env [(2, (pt x2)), (3, (.slice x3 0 0)), (5, (.slice a0_0_A a0_0_n a0_0_c)), (7, (.slice x5 0 0)), (9, (.slice a0_1_A a0_1_n a0_1_c)), (13, (.slice a0_2_A a0_2_n a0_2_c))] ⟨rfl, rfl, rfl, rfl, rfl, rfl, trivial⟩ ?_
      exact hD1655 (x3, x5)
    · refine o_do rfl (a_litX (vs := []) (ii ([] : List Int)) un22 sz3 zr3 rfl rfl rfl rfl rfl rfl rfl rfl rfl) rfl rfl (fun x7 w h => (h.drop 3)) (fun x7 => ?_)
      refine j_rs (.row x5 0 3 1 (ii ([] : List Int)) :: .row x7 0 3 1 (ii ([] : List Int)) :: .box x2 34 [(.slice none 0 0), (.slice none 0 0), (.slice none 0 0)] :: .box x1 34 [(.slice a0_0_A a0_0_n a0_0_c), (.slice a0_1_A a0_1_n a0_1_c), (.slice a0_2_A a0_2_n a0_2_c)] :: F) (fun _ h => h.pick 4 [1, 0, 2, 3] rfl) ?_
      refine j_env [(2, (pt x2)), (5, (.slice a0_0_A a0_0_n a0_0_c)), (7, (.slice x5 0 0)), (9, (.slice a0_1_A a0_1_n a0_1_c)), (11, (.slice x7 0 0)), (13, (.slice a0_2_A a0_2_n a0_2_c))] ⟨rfl, rfl, rfl, rfl, rfl, rfl, trivial⟩ ?_
      exact hD1910 (x5, x7)
  refine d_join (σ := (Option Addr)) 7 #[false, true, true, false, false, true, true, false, true, true, true, false, false, false] (fun s => [(2, (pt x2)), (5, (.slice a0_0_A a0_0_n a0_0_c)), (9, (.slice a0_1_A a0_1_n a0_1_c)), (11, (.slice s 0 0)), (13, (.slice a0_2_A a0_2_n a0_2_c))]) (fun s => .row s 0 3 1 (ii ([] : List Int)) :: .box x2 34 [(.slice none 0 0), (.slice none 0 0), (.slice none 0 0)] :: .box x1 34 [(.slice a0_0_A a0_0_n a0_0_c), (.slice a0_1_A a0_1_n a0_1_c), (.slice a0_2_A a0_2_n a0_2_c)] :: F) ?_ (fun hD1894 => ?_)
  · rintro x7
    show J _ _ [(2, (pt x2)), (5, (.slice a0_0_A a0_0_n a0_0_c)), (9, (.slice a0_1_A a0_1_n a0_1_c)), (11, (.slice x7 0 0)), (13, (.slice a0_2_A a0_2_n a0_2_c))] _ (.row x7 0 3 1 (ii ([] : List Int)) :: .box x2 34 [(.slice none 0 0), (.slice none 0 0), (.slice none 0 0)] :: .box x1 34 [(.slice a0_0_A a0_0_n a0_0_c), (.slice a0_1_A a0_1_n a0_1_c), (.slice a0_2_A a0_2_n a0_2_c)] :: F)
    refine d_two 0 4 (by kernel_rfl) ?_ ?_
    · refine o_do rfl (a_litX (vs := []) (ii ([] : List Int)) un22 sz3 zr3 rfl rfl rfl rfl rfl rfl rfl rfl rfl) rfl rfl (fun x3 w h => (h.drop 3)) (fun x3 => ?_)
      refine j_rs (.row x3 0 3 1 (ii ([] : List Int)) :: .row x7 0 3 1 (ii ([] : List Int)) :: .box x2 34 [(.slice none 0 0), (.slice none 0 0), (.slice none 0 0)] :: .box x1 34 [(.slice a0_0_A a0_0_n a0_0_c), (.slice a0_1_A a0_1_n a0_1_c), (.slice a0_2_A a0_2_n a0_2_c)] :: F) (fun _ h => h) ?_
      refine j_env [(2, (pt x2)), (3, (.slice x3 0 0)), (5, (.slice a0_0_A a0_0_n a0_0_c)), (9, (.slice a0_1_A a0_1_n a0_1_c)), (11, (.slice x7 0 0)), (13, (.slice a0_2_A a0_2_n a0_2_c))] ⟨rfl, rfl, rfl, rfl, rfl, rfl, trivial⟩ ?_
      exact hD1895 (x3, x7)
    · refine o_do rfl (a_litX (vs := []) (ii ([] : List Int)) un22 sz3 zr3 rfl rfl rfl rfl rfl rfl rfl rfl rfl) rfl rfl (fun x5 w h => (h.drop 3)) (fun x5 => ?_)
      refine j_rs (.row x5 0 3 1 (ii ([] : List Int)) :: .row x7 0 3 1 (ii ([] : List Int)) :: .box x2 34 [(.slice none 0 0), (.slice none 0 0), (.slice none 0 0)] :: .box x1 34 [(.slice a0_0_A a0_0_n a0_0_c), (.slice a0_1_A a0_1_n a0_1_c), (.slice a0_2_A a0_2_n a0_2_c)] :: F) (fun _ h => h) ?_
      refine j_env [(2, (pt x2)), (5, (.slice a0_0_A a0_0_n a0_0_c)), (7, (.slice x5 0 0)), (9, (.slice a0_1_A a0_1_n a0_1_c)), (11, (.slice x7 0 0)), (13, (.slice a0_2_A a0_2_n a0_2_c))] ⟨rfl, rfl, rfl, rfl, rfl, rfl, trivial⟩ ?_
      exact hD1910 (x5, x7)
  refine d_three 0 4 8 (by kernel_rfl) ?_ ?_ ?_
  · refine o_do rfl (a_litX (vs := []) (ii ([] : List Int)) un22 sz3 zr3 rfl rfl rfl rfl rfl rfl rfl rfl rfl) rfl rfl (fun x3 w h => (h.drop 2)) (fun x3 => ?_)
    refine j_rs (.row x3 0 3 1 (ii ([] : List Int)) :: .box x2 34 [(.slice none 0 0), (.slice none 0 0), (.slice none 0 0)] :: .box x1 34 [(.slice a0_0_A a0_0_n a0_0_c), (.slice a0_1_A a0_1_n a0_1_c), (.slice a0_2_A a0_2_n a0_2_c)] :: F) (fun _ h => h) ?_
    refine j_env [(2, (pt x2)), (3, (.slice x3 0 0)), (5, (.slice a0_0_A a0_0_n a0_0_c)), (9, (.slice a0_1_A a0_1_n a0_1_c)), (13, (.slice a0_2_A a0_2_n a0_2_c))] ⟨rfl, rfl, rfl, rfl, rfl, trivial⟩ ?_
    exact hD1639 x3
  · refine o_do rfl (a_litX (vs := []) (ii ([] : List Int)) un22 sz3 zr3 rfl rfl rfl rfl rfl rfl rfl rfl rfl) rfl rfl (fun x5 w h => (h.drop 2)) (fun x5 => ?_)
    refine j_rs (.row x5 0 3 1 (ii ([] : List Int)) :: .box x2 34 [(.slice none 0 0), (.slice none 0 0), (.slice none 0 0)] :: .box x1 34 [(.slice a0_0_A a0_0_n a0_0_c), (.slice a0_1_A a0_1_n a0_1_c), (.slice a0_2_A a0_2_n a0_2_c)] :: F) (fun _ h => h) ?_
    refine j_env [(2, (pt x2)), (5, (.slice a0_0_A a0_0_n a0_0_c)), (7, (.slice x5 0 0)), (9, (.slice a0_1_A a0_1_n a0_1_c)), (13, (.slice a0_2_A a0_2_n a0_2_c))] ⟨rfl, rfl, rfl, rfl, rfl, trivial⟩ ?_
    exact hD1654 x5
  · refine o_do rfl (a_litX (vs := []) (ii ([] : List Int)) un22 sz3 zr3 rfl rfl rfl rfl rfl rfl rfl rfl rfl) rfl rfl (fun x7 w h => (h.drop 2)) (fun x7 => ?_)
    refine j_rs (.row x7 0 3 1 (ii ([] : List Int)) :: .box x2 34 [(.slice none 0 0), (.slice none 0 0), (.slice none 0 0)] :: .box x1 34 [(.slice a0_0_A a0_0_n a0_0_c), (.slice a0_1_A a0_1_n a0_1_c), (.slice a0_2_A a0_2_n a0_2_c)] :: F) (fun _ h => h) ?_
    refine j_env [(2, (pt x2)), (5, (.slice a0_0_A a0_0_n a0_0_c)), (9, (.slice a0_1_A a0_1_n a0_1_c)), (11, (.slice x7 0 0)), (13, (.slice a0_2_A a0_2_n a0_2_c))] ⟨rfl, rfl, rfl, rfl, rfl, trivial⟩ ?_
    exact hD1894 x7

theorem spec_l4Copy.calls (K : Nat) (a0_0 : List Int) (a0_0_A : Option Addr) (a0_0_n a0_0_c : Nat) (a0_1 : List Int) (a0_1_A : Option Addr) (a0_1_n a0_1_c : Nat) (a0_2 : List Int) (a0_2_A : Option Addr) (a0_2_n a0_2_c : Nat) (a0_3 : List Int) (a0_3_A : Option Addr) (a0_3_n a0_3_c : Nat) {w0 w : World} {F : List Res} {r1 : List Int} {r2 : List Int} {r3 : List Int} {r4 : List Int} (hm : Mem w0 (F) w) (a0_0_h : a0_0.length = a0_0_n) (a0_0_R : Rd w0 F a0_0_A (ii a0_0)) (a0_1_h : a0_1.length = a0_1_n) (a0_1_R : Rd w0 F a0_1_A (ii a0_1)) (a0_2_h : a0_2.length = a0_2_n) (a0_2_R : Rd w0 F a0_2_A (ii a0_2)) (a0_3_h : a0_3.length = a0_3_n) (a0_3_R : Rd w0 F a0_3_A (ii a0_3)) (h : spec_l4Copy.f K a0_0 a0_1 a0_2 a0_3 = some (r1, r2, r3, r4)) :
    Calls Try.prog 52 (List.toArray [.agg (List.toArray [.slice a0_0_A a0_0_n a0_0_c, .slice a0_1_A a0_1_n a0_1_c, .slice a0_2_A a0_2_n a0_2_c, .slice a0_3_A a0_3_n a0_3_c])]) w fun e w' => ∃ x : (Sl r1.length) × (Sl r2.length) × (Sl r3.length) × (Sl r4.length), e = .returned (.agg (List.toArray [.slice x.1.A x.1.n x.1.c, .slice x.2.1.A x.2.1.n x.2.1.c, .slice x.2.2.1.A x.2.2.1.n x.2.2.1.c, .slice x.2.2.2.A x.2.2.2.n x.2.2.2.c])) ∧ Mem w0 (.row x.1.A x.1.c 3 1 (ii r1) :: .row x.2.1.A x.2.1.c 3 1 (ii r2) :: .row x.2.2.1.A x.2.2.1.c 3 1 (ii r3) :: .row x.2.2.2.A x.2.2.2.c 3 1 (ii r4) :: F) w' := by
  unfold spec_l4Copy.f at h
  refine calls_of_J (n := 11) Try.func52 rfl rfl rfl hm ?_
  refine j_seq ?_
  refine j_region ?_
  refine r_do (a_box rfl rfl) rfl rfl (fun x1 => ?_)
  refine r_do (a_alloc zr36 rfl) rfl rfl (fun x2 => ?_)
  refine r_nil ?_
  refine j_then ?_
  refine j_seq ?_
  obtain ⟨v1, v2, v3, hb1, h⟩ := of_b3 h
  obtain ⟨c1, h⟩ := of_guard h
  refine j_draw (.box x1 36 [(.slice a0_0_A a0_0_n a0_0_c), (.slice a0_1_A a0_1_n a0_1_c), (.slice a0_2_A a0_2_n a0_2_c), (.slice a0_3_A a0_3_n a0_3_c)] :: F) 9 follows_any rfl ?_
  refine d_take 0 rfl (q_fieldAddr fi36_0 sz34 rfl rfl rfl) rfl rfl (by kernel_rfl) (by kernel_rfl) (by kernel_rfl) (fun w h => h.tail) ?_
  refine d_take 1 rfl (q_loadb_agg 0 rfl ag34 sz34 rfl rfl rfl rfl) rfl rfl (by kernel_rfl) (by kernel_rfl) (by kernel_rfl) (fun w h => h.tail) ?_
  refine d_take 4 rfl (q_fieldAddr fi36_1 sz22 rfl rfl rfl) rfl rfl (by kernel_rfl) (by kernel_rfl) (by kernel_rfl) (fun w h => h.tail) ?_
  refine d_take 5 rfl (q_loadb 0 rfl ag22 rfl rfl rfl) rfl rfl (by kernel_rfl) (by kernel_rfl) (by kernel_rfl) (fun w h => h.tail) ?_
  refine d_join (σ := ((Sl v1.length) × (Sl v2.length) × (Sl v3.length)) × (Option Addr) × (Option Addr × Nat)) 0 #[true, true, true, true, true, true, true, true, true] (fun s => [(2, (pt x2))]) (fun s => .row s.1.1.A s.1.1.c 3 1 (ii v1) :: .row s.1.2.1.A s.1.2.1.c 3 1 (ii v2) :: .row s.1.2.2.A s.1.2.2.c 3 1 (ii v3) :: .row s.2.2.1 s.2.2.2 3 1 (ii (([] : List Int) ++ a0_3)) :: .box x2 36 [(.slice s.1.1.A s.1.1.n s.1.1.c), (.slice s.1.2.1.A s.1.2.1.n s.1.2.1.c), (.slice s.1.2.2.A s.1.2.2.n s.1.2.2.c), (.slice s.2.2.1 (0 + a0_3_n) s.2.2.2)] :: .box x1 36 [(.slice a0_0_A a0_0_n a0_0_c), (.slice a0_1_A a0_1_n a0_1_c), (.slice a0_2_A a0_2_n a0_2_c), (.slice a0_3_A a0_3_n a0_3_c)] :: F) ?_ (fun hD511 => ?_)
  · rintro ⟨x3, x4, x5⟩
    show J _ _ [(2, (pt x2))] _ (.row x3.1.A x3.1.c 3 1 (ii v1) :: .row x3.2.1.A x3.2.1.c 3 1 (ii v2) :: .row x3.2.2.A x3.2.2.c 3 1 (ii v3) :: .row x5.1 x5.2 3 1 (ii (([] : List Int) ++ a0_3)) :: .box x2 36 [(.slice x3.1.A x3.1.n x3.1.c), (.slice x3.2.1.A x3.2.1.n x3.2.1.c), (.slice x3.2.2.A x3.2.2.n x3.2.2.c), (.slice x5.1 (0 + a0_3_n) x5.2)] :: .box x1 36 [(.slice a0_0_A a0_0_n a0_0_c), (.slice a0_1_A a0_1_n a0_1_c), (.slice a0_2_A a0_2_n a0_2_c), (.slice a0_3_A a0_3_n a0_3_c)] :: F)
    refine d_done (by kernel_rfl) ?_
    refine j_then ?_
    refine j_ret ?_
    cases h
    exact j_return rfl (ResOf.cell 4 rfl rfl ag36 sz36 ResOf.nil) rfl (fun w h => ⟨(⟨x3.1.A, x3.1.n, x3.1.c, x3.1.h⟩, ⟨x3.2.1.A, x3.2.1.n, x3.2.1.c, x3.2.1.h⟩, ⟨x3.2.2.A, x3.2.2.n, x3.2.2.c, x3.2.2.h⟩, ⟨x5.1, (0 + a0_3_n), x5.2, (app_len rfl a0_3_h)⟩), rfl, h.pick 6 [0, 1, 2, 3] rfl⟩)
  refine d_join (σ := ((Sl v1.length) × (Sl v2.length) × (Sl v3.length)) × (Option Addr) × (Option Addr × Nat)) 1 #[true, true, true, true, true, true, true, true, false] (fun s => [(2, (pt x2)), (10, (.agg (List.toArray [(.slice s.1.1.A s.1.1.n s.1.1.c), (.slice s.1.2.1.A s.1.2.1.n s.1.2.1.c), (.slice s.1.2.2.A s.1.2.2.n s.1.2.2.c), (.slice s.2.2.1 (0 + a0_3_n) s.2.2.2)])))]) (fun s => .row s.1.1.A s.1.1.c 3 1 (ii v1) :: .row s.1.2.1.A s.1.2.1.c 3 1 (ii v2) :: .row s.1.2.2.A s.1.2.2.c 3 1 (ii v3) :: .row s.2.2.1 s.2.2.2 3 1 (ii (([] : List Int) ++ a0_3)) :: .box x2 36 [(.slice none 0 0), (.slice none 0 0), (.slice none 0 0), (.slice none 0 0)] :: .box x1 36 [(.slice a0_0_A a0_0_n a0_0_c), (.slice a0_1_A a0_1_n a0_1_c), (.slice a0_2_A a0_2_n a0_2_c), (.slice a0_3_A a0_3_n a0_3_c)] :: F) ?_ (fun hD255 => ?_)
  · rintro ⟨x3, x4, x5⟩
    show J _ _ [(2, (pt x2)), (10, (.agg (List.toArray [(.slice x3.1.A x3.1.n x3.1.c), (.slice x3.2.1.A x3.2.1.n x3.2.1.c), (.slice x3.2.2.A x3.2.2.n x3.2.2.c), (.slice x5.1 (0 + a0_3_n) x5.2)])))] _ (.row x3.1.A x3.1.c 3 1 (ii v1) :: .row x3.2.1.A x3.2.1.c 3 1 (ii v2) :: .row x3.2.2.A x3.2.2.c 3 1 (ii v3) :: .row x5.1 x5.2 3 1 (ii (([] : List Int) ++ a0_3)) :: .box x2 36 [(.slice none 0 0), (.slice none 0 0), (.slice none 0 0), (.slice none 0 0)] :: .box x1 36 [(.slice a0_0_A a0_0_n a0_0_c), (.slice a0_1_A a0_1_n a0_1_c), (.slice a0_2_A a0_2_n a0_2_c), (.slice a0_3_A a0_3_n a0_3_c)] :: F)
    refine d_one 8 (by kernel_rfl) ?_
    · refine o_do rfl (a_storeb 4 rfl sz36 rfl rfl rfl rfl (Nat.le_of_ble_eq_true rfl) rfl) rfl rfl (fun _ w h => (h.drop 5)) (fun _ => ?_)
      refine j_b4 [(.slice x3.1.A x3.1.n x3.1.c), (.slice x3.2.1.A x3.2.1.n x3.2.1.c), (.slice x3.2.2.A x3.2.2.n x3.2.2.c), (.slice x5.1 (0 + a0_3_n) x5.2)] rfl ?_
      refine j_rs (.row x3.1.A x3.1.c 3 1 (ii v1) :: .row x3.2.1.A x3.2.1.c 3 1 (ii v2) :: .row x3.2.2.A x3.2.2.c 3 1 (ii v3) :: .row x5.1 x5.2 3 1 (ii (([] : List Int) ++ a0_3)) :: .box x2 36 [(.slice x3.1.A x3.1.n x3.1.c), (.slice x3.2.1.A x3.2.1.n x3.2.1.c), (.slice x3.2.2.A x3.2.2.n x3.2.2.c), (.slice x5.1 (0 + a0_3_n) x5.2)] :: .box x1 36 [(.slice a0_0_A a0_0_n a0_0_c), (.slice a0_1_A a0_1_n a0_1_c), (.slice a0_2_A a0_2_n a0_2_c), (.slice a0_3_A a0_3_n a0_3_c)] :: F) (fun _ h => h) ?_
      refine j_env [(2, (pt x2))] ⟨rfl, trivial⟩ ?_
      exact hD511 (x3, x4, x5)
  refine d_join (σ := ((Sl v1.length) × (Sl v2.length) × (Sl v3.length)) × (Option Addr)) 3 #[true, true, true, true, true, true, false, false, false] (fun s => [(2, (pt x2)), (5, (.agg (List.toArray [(.slice s.1.1.A s.1.1.n s.1.1.c), (.slice s.1.2.1.A s.1.2.1.n s.1.2.1.c), (.slice s.1.2.2.A s.1.2.2.n s.1.2.2.c)]))), (6, (.slice s.2 0 0)), (8, (.slice a0_3_A a0_3_n a0_3_c))]) (fun s => .row s.1.1.A s.1.1.c 3 1 (ii v1) :: .row s.1.2.1.A s.1.2.1.c 3 1 (ii v2) :: .row s.1.2.2.A s.1.2.2.c 3 1 (ii v3) :: .row s.2 0 3 1 (ii ([] : List Int)) :: .box x2 36 [(.slice none 0 0), (.slice none 0 0), (.slice none 0 0), (.slice none 0 0)] :: .box x1 36 [(.slice a0_0_A a0_0_n a0_0_c), (.slice a0_1_A a0_1_n a0_1_c), (.slice a0_2_A a0_2_n a0_2_c), (.slice a0_3_A a0_3_n a0_3_c)] :: F) ?_ (fun hD63 => ?_)
  · rintro ⟨x3, x4⟩
    show J _ _ [(2, (pt x2)), (5, (.agg (List.toArray [(.slice x3.1.A x3.1.n x3.1.c), (.slice x3.2.1.A x3.2.1.n x3.2.1.c), (.slice x3.2.2.A x3.2.2.n x3.2.2.c)]))), (6, (.slice x4 0 0)), (8, (.slice a0_3_A a0_3_n a0_3_c))] _ (.row x3.1.A x3.1.c 3 1 (ii v1) :: .row x3.2.1.A x3.2.1.c 3 1 (ii v2) :: .row x3.2.2.A x3.2.2.c 3 1 (ii v3) :: .row x4 0 3 1 (ii ([] : List Int)) :: .box x2 36 [(.slice none 0 0), (.slice none 0 0), (.slice none 0 0), (.slice none 0 0)] :: .box x1 36 [(.slice a0_0_A a0_0_n a0_0_c), (.slice a0_1_A a0_1_n a0_1_c), (.slice a0_2_A a0_2_n a0_2_c), (.slice a0_3_A a0_3_n a0_3_c)] :: F)
    refine d_one 6 (by kernel_rfl) ?_
    · refine o_do rfl (a_appI (xs := ([] : List Int)) (ys := a0_3) 3 un22 un22 sz3 by3 zr3 rfl rfl rfl rfl rfl rfl rfl rfl rfl rfl a0_3_h (Rd.drop 6 a0_3_R) c1) rfl rfl (fun x5 w h => (h.drop 5)) (fun x5 => ?_)
      refine j_s3 ?_
      refine d_take 7 rfl (q_build (cs := [(.slice x3.1.A x3.1.n x3.1.c), (.slice x3.2.1.A x3.2.1.n x3.2.1.c), (.slice x3.2.2.A x3.2.2.n x3.2.2.c), (.slice x5.1 (0 + a0_3_n) x5.2)]) zr36 pl36 rfl rfl rfl rfl) rfl rfl (by kernel_rfl) (by kernel_rfl) (by kernel_rfl) (fun w h => (h.drop 5)) ?_
      refine j_rs (.row x3.1.A x3.1.c 3 1 (ii v1) :: .row x3.2.1.A x3.2.1.c 3 1 (ii v2) :: .row x3.2.2.A x3.2.2.c 3 1 (ii v3) :: .row x5.1 x5.2 3 1 (ii (([] : List Int) ++ a0_3)) :: .box x2 36 [(.slice none 0 0), (.slice none 0 0), (.slice none 0 0), (.slice none 0 0)] :: .box x1 36 [(.slice a0_0_A a0_0_n a0_0_c), (.slice a0_1_A a0_1_n a0_1_c), (.slice a0_2_A a0_2_n a0_2_c), (.slice a0_3_A a0_3_n a0_3_c)] :: F) (fun _ h => h) ?_
      refine j_env [(2, (pt x2)), (10, (.agg (List.toArray [(.slice x3.1.A x3.1.n x3.1.c), (.slice x3.2.1.A x3.2.1.n x3.2.1.c), (.slice x3.2.2.A x3.2.2.n x3.2.2.c), (.slice x5.1 (0 + a0_3_n) x5.2)])))] ⟨rfl, rfl, trivial⟩ ?_
      exact hD255 (x3, x4, x5)
  refine d_join (σ := ((Sl v1.length) × (Sl v2.length) × (Sl v3.length))) 4 #[true, true, true, false, true, true, false, false, false] (fun s => [(2, (pt x2)), (5, (.agg (List.toArray [(.slice s.1.A s.1.n s.1.c), (.slice s.2.1.A s.2.1.n s.2.1.c), (.slice s.2.2.A s.2.2.n s.2.2.c)]))), (8, (.slice a0_3_A a0_3_n a0_3_c))]) (fun s => .row s.1.A s.1.c 3 1 (ii v1) :: .row s.2.1.A s.2.1.c 3 1 (ii v2) :: .row s.2.2.A s.2.2.c 3 1 (ii v3) :: .box x2 36 [(.slice none 0 0), (.slice none 0 0), (.slice none 0 0), (.slice none 0 0)] :: .box x1 36 [(.slice a0_0_A a0_0_n a0_0_c), (.slice a0_1_A a0_1_n a0_1_c), (.slice a0_2_A a0_2_n a0_2_c), (.slice a0_3_A a0_3_n a0_3_c)] :: F) ?_ (fun hD55 => ?_)
  · rintro x3
    show J _ _ [(2, (pt x2)), (5, (.agg (List.toArray [(.slice x3.1.A x3.1.n x3.1.c), (.slice x3.2.1.A x3.2.1.n x3.2.1.c), (.slice x3.2.2.A x3.2.2.n x3.2.2.c)]))), (8, (.slice a0_3_A a0_3_n a0_3_c))] _ (.row x3.1.A x3.1.c 3 1 (ii v1) :: .row x3.2.1.A x3.2.1.c 3 1 (ii v2) :: .row x3.2.2.A x3.2.2.c 3 1 (ii v3) :: .box x2 36 [(.slice none 0 0), (.slice none 0 0), (.slice none 0 0), (.slice none 0 0)] :: .box x1 36 [(.slice a0_0_A a0_0_n a0_0_c), (.slice a0_1_A a0_1_n a0_1_c), (.slice a0_2_A a0_2_n a0_2_c), (.slice a0_3_A a0_3_n a0_3_c)] :: F)
    refine d_one 3 (by kernel_rfl) ?_
    · refine o_do rfl (a_litX (vs := []) (ii ([] : List Int)) un22 sz3 zr3 rfl rfl rfl rfl rfl rfl rfl rfl rfl) rfl rfl (fun x4 w h => (h.drop 5)) (fun x4 => ?_)
      refine j_rs (.row x3.1.A x3.1.c 3 1 (ii v1) :: .row x3.2.1.A x3.2.1.c 3 1 (ii v2) :: .row x3.2.2.A x3.2.2.c 3 1 (ii v3) :: .row x4 0 3 1 (ii ([] : List Int)) :: .box x2 36 [(.slice none 0 0), (.slice none 0 0), (.slice none 0 0), (.slice none 0 0)] :: .box x1 36 [(.slice a0_0_A a0_0_n a0_0_c), (.slice a0_1_A a0_1_n a0_1_c), (.slice a0_2_A a0_2_n a0_2_c), (.slice a0_3_A a0_3_n a0_3_c)] :: F) (fun _ h => h.pick 6 [1, 2, 3, 0, 4, 5] rfl) ?_
      refine j_env [(2, (pt x2)), (5, (.agg (List.toArray [(.slice x3.1.A x3.1.n x3.1.c), (.slice x3.2.1.A x3.2.1.n x3.2.1.c), (.slice x3.2.2.A x3.2.2.n x3.2.2.c)]))), (6, (.slice x4 0 0)), (8, (.slice a0_3_A a0_3_n a0_3_c))] ⟨rfl, rfl, rfl, rfl, trivial⟩ ?_
      exact hD63 (x3, x4)
  refine d_join (σ := (Option Addr)) 4 #[true, true, false, true, true, true, false, false, false] (fun s => [(2, (pt x2)), (4, (.agg (List.toArray [(.slice a0_0_A a0_0_n a0_0_c), (.slice a0_1_A a0_1_n a0_1_c), (.slice a0_2_A a0_2_n a0_2_c)]))), (6, (.slice s 0 0)), (8, (.slice a0_3_A a0_3_n a0_3_c))]) (fun s => .row s 0 3 1 (ii ([] : List Int)) :: .box x2 36 [(.slice none 0 0), (.slice none 0 0), (.slice none 0 0), (.slice none 0 0)] :: .box x1 36 [(.slice a0_0_A a0_0_n a0_0_c), (.slice a0_1_A a0_1_n a0_1_c), (.slice a0_2_A a0_2_n a0_2_c), (.slice a0_3_A a0_3_n a0_3_c)] :: F) ?_ (fun hD59 => ?_)
  · rintro x4
    show J _ _ [(2, (pt x2)), (4, (.agg (List.toArray [(.slice a0_0_A a0_0_n a0_0_c), (.slice a0_1_A a0_1_n a0_1_c), (.slice a0_2_A a0_2_n a0_2_c)]))), (6, (.slice x4 0 0)), (8, (.slice a0_3_A a0_3_n a0_3_c))] _ (.row x4 0 3 1 (ii ([] : List Int)) :: .box x2 36 [(.slice none 0 0), (.slice none 0 0), (.slice none 0 0), (.slice none 0 0)] :: .box x1 36 [(.slice a0_0_A a0_0_n a0_0_c), (.slice a0_1_A a0_1_n a0_1_c), (.slice a0_2_A a0_2_n a0_2_c), (.slice a0_3_A a0_3_n a0_3_c)] :: F)
    refine d_one 2 (by kernel_rfl) ?_
    · refine o_do rfl (a_call ok81 rfl rfl rfl rfl (fun w hm => spec_l1Copy.calls K a0_0 a0_0_A a0_0_n a0_0_c a0_1 a0_1_A a0_1_n a0_1_c a0_2 a0_2_A a0_2_n a0_2_c hm a0_0_h (Rd.drop 3 a0_0_R) a0_1_h (Rd.drop 3 a0_1_R) a0_2_h (Rd.drop 3 a0_2_R) hb1)) rfl rfl (fun x3 w h => (h.drop 5)) (fun x3 => ?_)
      refine j_rs (.row x3.1.A x3.1.c 3 1 (ii v1) :: .row x3.2.1.A x3.2.1.c 3 1 (ii v2) :: .row x3.2.2.A x3.2.2.c 3 1 (ii v3) :: .row x4 0 3 1 (ii ([] : List Int)) :: .box x2 36 [(.slice none 0 0), (.slice none 0 0), (.slice none 0 0), (.slice none 0 0)] :: .box x1 36 [(.slice a0_0_A a0_0_n a0_0_c), (.slice a0_1_A a0_1_n a0_1_c), (.slice a0_2_A a0_2_n a0_2_c), (.slice a0_3_A a0_3_n a0_3_c)] :: F) (fun _ h => h) ?_
      refine j_env [(2, (pt x2)), (5, (.agg (List.toArray [(.slice x3.1.A x3.1.n x3.1.c), (.slice x3.2.1.A x3.2.1.n x3.2.1.c), (.slice x3.2.2.A x3.2.2.n x3.2.2.c)]))), (6, (.slice x4 0 0)), (8, (.slice a0_3_A a0_3_n a0_3_c))] ⟨rfl, rfl, rfl, rfl, trivial⟩ ?_
      exact hD63 (x3, x4)
  refine d_two 2 3 (by kernel_rfl) ?_ ?_
  · refine o_do rfl (a_call ok81 rfl rfl rfl rfl (fun w hm => spec_l1Copy.calls K a0_0 a0_0_A a0_0_n a0_0_c a0_1 a0_1_A a0_1_n a0_1_c a0_2 a0_2_A a0_2_n a0_2_c hm a0_0_h (Rd.drop 2 a0_0_R) a0_1_h (Rd.drop 2 a0_1_R) a0_2_h (Rd.drop 2 a0_2_R) hb1)) rfl rfl (fun x3 w h => (h.drop 4)) (fun x3 => ?_)
    refine j_rs (.row x3.1.A x3.1.c 3 1 (ii v1) :: .row x3.2.1.A x3.2.1.c 3 1 (ii v2) :: .row x3.2.2.A x3.2.2.c 3 1 (ii v3) :: .box x2 36 [(.slice none 0 0), (.slice none 0 0), (.slice none 0 0), (.slice none 0 0)] :: .box x1 36 [(.slice a0_0_A a0_0_n a0_0_c), (.slice a0_1_A a0_1_n a0_1_c), (.slice a0_2_A a0_2_n a0_2_c), (.slice a0_3_A a0_3_n a0_3_c)] :: F) (fun _ h => h) ?_
    refine j_env [(2, (pt x2)), (5, (.agg (List.toArray [(.slice x3.1.A x3.1.n x3.1.c), (.slice x3.2.1.A x3.2.1.n x3.2.1.c), (.slice x3.2.2.A x3.2.2.n x3.2.2.c)]))), (8, (.slice a0_3_A a0_3_n a0_3_c))] ⟨rfl, rfl, rfl, trivial⟩ ?_
    exact hD55 x3
  · refine o_do rfl (a_litX (vs := []) (ii ([] : List Int)) un22 sz3 zr3 rfl rfl rfl rfl rfl rfl rfl rfl rfl) rfl rfl (fun x4 w h => (h.drop 2)) (fun x4 => ?_)
    refine j_rs (.row x4 0 3 1 (ii ([] : List Int)) :: .box x2 36 [(.slice none 0 0), (.slice none 0 0), (.slice none 0 0), (.slice none 0 0)] :: .box x1 36 [(.slice a0_0_A a0_0_n a0_0_c), (.slice a0_1_A a0_1_n a0_1_c), (.slice a0_2_A a0_2_n a0_2_c), (.slice a0_3_A a0_3_n a0_3_c)] :: F) (fun _ h => h) ?_
    refine j_env [(2, (pt x2)), (4, (.agg (List.toArray [(.slice a0_0_A a0_0_n a0_0_c), (.slice a0_1_A a0_1_n a0_1_c), (.slice a0_2_A a0_2_n a0_2_c)]))), (6, (.slice x4 0 0)), (8, (.slice a0_3_A a0_3_n a0_3_c))] ⟨rfl, rfl, rfl, rfl, trivial⟩ ?_
    exact hD59 x4

theorem spec_AllocCell.calls (K : Nat) (a0_0 : List Int) (a0_0_A : Option Addr) (a0_0_n a0_0_c : Nat) (a0_1 : List Int) (a0_1_A : Option Addr) (a0_1_n a0_1_c : Nat) (a0_2 : List Int) (a0_2_A : Option Addr) (a0_2_n a0_2_c : Nat) (a0_3 : List Int) (a0_3_A : Option Addr) (a0_3_n a0_3_c : Nat) (a1 : Int) {w0 w : World} {F : List Res} {r1 : List Int} {r2 : List Int} {r3 : List Int} {r4 : List Int} {r5 : Int} {r6 : Bool} (hm : Mem w0 (F) w) (a0_0_h : a0_0.length = a0_0_n) (a0_0_R : Rd w0 F a0_0_A (ii a0_0)) (a0_1_h : a0_1.length = a0_1_n) (a0_1_R : Rd w0 F a0_1_A (ii a0_1)) (a0_2_h : a0_2.length = a0_2_n) (a0_2_R : Rd w0 F a0_2_A (ii a0_2)) (a0_3_h : a0_3.length = a0_3_n) (a0_3_R : Rd w0 F a0_3_A (ii a0_3)) (a0_3_k : a0_3.length ≤ a0_3_c) (h : spec_AllocCell.f K a0_0 a0_1 a0_2 a0_3 a1 = some (r1, r2, r3, r4, r5, r6)) :
    Calls Try.prog 88 (List.toArray [.agg (List.toArray [.slice a0_0_A a0_0_n a0_0_c, .slice a0_1_A a0_1_n a0_1_c, .slice a0_2_A a0_2_n a0_2_c, .slice a0_3_A a0_3_n a0_3_c]), i6 a1]) w fun e w' => ∃ x : (Sl r1.length) × (Sl r2.length) × (Sl r3.length) × (Sl r4.length), e = .returned (.tuple (List.toArray [.agg (List.toArray [.slice x.1.A x.1.n x.1.c, .slice x.2.1.A x.2.1.n x.2.1.c, .slice x.2.2.1.A x.2.2.1.n x.2.2.1.c, .slice x.2.2.2.A x.2.2.2.n x.2.2.2.c]), i6 r5, .bool r6])) ∧ Mem w0 (.row x.1.A x.1.c 3 1 (ii r1) :: .row x.2.1.A x.2.1.c 3 1 (ii r2) :: .row x.2.2.1.A x.2.2.1.c 3 1 (ii r3) :: .row x.2.2.2.A x.2.2.2.c 3 1 (ii r4) :: F) w' := by
  unfold spec_AllocCell.f at h
  refine calls_of_J (n := 51) Try.func88 rfl rfl rfl hm ?_
  refine j_seq ?_
  refine j_region ?_
  refine r_do (a_box rfl rfl) rfl rfl (fun x1 => ?_)
  refine r_do (a_alloc zr36 rfl) rfl rfl (fun x2 => ?_)
  refine r_q (q_assign rfl rfl) rfl rfl ?_
  refine r_q (q_assign rfl rfl) rfl rfl ?_
  refine r_nil ?_
  refine j_then ?_
  refine j_seq ?_
  refine j_seq ?_
  refine j_region ?_
  refine r_q (q_loadb_agg 1 rfl ag36 sz36 rfl rfl rfl rfl) rfl rfl ?_
  obtain ⟨v1, hb1, h⟩ := of_b1 h
  refine r_do (a_call ok79 rfl rfl rfl rfl (fun w hm => spec_StoreValid.calls K a0_0 a0_0_A a0_0_n a0_0_c a0_1 a0_1_A a0_1_n a0_1_c a0_2 a0_2_A a0_2_n a0_2_c a0_3 a0_3_A a0_3_n a0_3_c hm a0_0_h (Rd.drop 2 a0_0_R) a0_1_h (Rd.drop 2 a0_1_R) a0_2_h (Rd.drop 2 a0_2_R) a0_3_h (Rd.drop 2 a0_3_R) a0_3_k hb1)) rfl rfl (fun x3 => ?_)
  refine r_q (q_not rfl rfl) rfl rfl ?_
  refine r_q (q_move rfl rfl) rfl rfl ?_
  rcases of_if h with ⟨c1, h⟩ | ⟨c1, h⟩
  · refine r_qon (q_move rfl rfl) rfl rfl rfl rfl (not_f c1) rfl ?_
    refine r_qon (q_lss rfl rfl rfl) rfl rfl rfl rfl (not_f c1) rfl ?_
    refine r_q (q_pick_f rfl rfl (not_f c1) rfl) rfl rfl ?_
    refine r_q (q_move rfl rfl) rfl rfl ?_
    rcases of_if h with ⟨c2, h⟩ | ⟨c2, h⟩
    · refine r_off rfl rfl rfl rfl (decide_eq_true c2) rfl ?_
      refine r_off rfl rfl rfl rfl (decide_eq_true c2) rfl ?_
      refine r_off rfl rfl rfl rfl (decide_eq_true c2) rfl ?_
      refine r_off rfl rfl rfl rfl (decide_eq_true c2) rfl ?_
      refine r_off rfl rfl rfl rfl (decide_eq_true c2) rfl ?_
      refine r_off rfl rfl rfl rfl (decide_eq_true c2) rfl ?_
      refine r_q (q_pick_t rfl rfl (decide_eq_true c2) rfl) rfl rfl ?_
      refine r_q (q_move rfl rfl) rfl rfl ?_
      refine r_off rfl rfl rfl rfl rfl rfl ?_
      refine r_off rfl rfl rfl rfl rfl rfl ?_
      refine r_off rfl rfl rfl rfl rfl rfl ?_
      refine r_off rfl rfl rfl rfl rfl rfl ?_
      refine r_q (q_pick_t rfl rfl rfl rfl) rfl rfl ?_
      refine r_nil ?_
      refine j_then ?_
      refine j_true rfl rfl ?_
      refine j_seq ?_
      refine j_region ?_
      refine r_q (q_build (cs := [(.slice none 0 0), (.slice none 0 0), (.slice none 0 0), (.slice none 0 0)]) zr36 pl36 rfl rfl rfl rfl) rfl rfl ?_
      refine r_do (a_storeb 0 rfl sz36 rfl rfl rfl rfl (Nat.le_of_ble_eq_true rfl) rfl) rfl rfl (fun _ => ?_)
      refine j_b0 [(.slice none 0 0), (.slice none 0 0), (.slice none 0 0), (.slice none 0 0)] rfl ?_
      refine r_q (q_assign rfl rfl) rfl rfl ?_
      refine r_q (q_assign rfl rfl) rfl rfl ?_
      refine r_nil ?_
      refine j_then ?_
      refine j_ret ?_
      refine j_then_ret ?_
      refine j_nil 3 1 ?_
      refine j_nil 3 1 ?_
      refine j_nil 3 1 ?_
      refine j_nil 3 1 ?_
      cases h
      exact j_return rfl (ResOf.cell 4 rfl rfl ag36 sz36 (ResOf.tmp rfl (ResOf.tmp rfl ResOf.nil))) rfl (fun w h => ⟨(⟨none, 0, 0, rfl⟩, ⟨none, 0, 0, rfl⟩, ⟨none, 0, 0, rfl⟩, ⟨none, 0, 0, rfl⟩), rfl, h.pick 6 [3, 2, 1, 0] rfl⟩)
    · refine r_qon (q_move rfl rfl) rfl rfl rfl rfl (decide_eq_false c2) rfl ?_
      refine r_qon (q_fieldAddr fi36_0 sz34 rfl rfl rfl) rfl rfl rfl rfl (decide_eq_false c2) rfl ?_
      refine r_qon (q_fieldAddr fi34_2 sz22 rfl rfl rfl) rfl rfl rfl rfl (decide_eq_false c2) rfl ?_
      refine r_qon (q_loadb 1 rfl ag22 rfl rfl rfl) rfl rfl rfl rfl (decide_eq_false c2) rfl ?_
      refine r_qon (q_lenX a0_2 a0_2_h un22 rfl rfl rfl rfl rfl) rfl rfl rfl rfl (decide_eq_false c2) rfl ?_
      refine r_qon (q_geq rfl rfl rfl) rfl rfl rfl rfl (decide_eq_false c2) rfl ?_
      refine r_q (q_pick_f rfl rfl (decide_eq_false c2) rfl) rfl rfl ?_
      refine r_q (q_move rfl rfl) rfl rfl ?_
      rcases of_if h with ⟨c3, h⟩ | ⟨c3, h⟩
      · refine r_off rfl rfl rfl rfl (decide_eq_true c3) rfl ?_
        refine r_off rfl rfl rfl rfl (decide_eq_true c3) rfl ?_
        refine r_off rfl rfl rfl rfl (decide_eq_true c3) rfl ?_
        refine r_off rfl rfl rfl rfl (decide_eq_true c3) rfl ?_
        refine r_q (q_pick_t rfl rfl (decide_eq_true c3) rfl) rfl rfl ?_
        refine r_nil ?_
        refine j_then ?_
        refine j_true rfl rfl ?_
        refine j_seq ?_
        refine j_region ?_
        refine r_q (q_build (cs := [(.slice none 0 0), (.slice none 0 0), (.slice none 0 0), (.slice none 0 0)]) zr36 pl36 rfl rfl rfl rfl) rfl rfl ?_
        refine r_do (a_storeb 0 rfl sz36 rfl rfl rfl rfl (Nat.le_of_ble_eq_true rfl) rfl) rfl rfl (fun _ => ?_)
        refine j_b0 [(.slice none 0 0), (.slice none 0 0), (.slice none 0 0), (.slice none 0 0)] rfl ?_
        refine r_q (q_assign rfl rfl) rfl rfl ?_
        refine r_q (q_assign rfl rfl) rfl rfl ?_
        refine r_nil ?_
        refine j_then ?_
        refine j_ret ?_
        refine j_then_ret ?_
        refine j_nil 3 1 ?_
        refine j_nil 3 1 ?_
        refine j_nil 3 1 ?_
        refine j_nil 3 1 ?_
        cases h
        exact j_return rfl (ResOf.cell 4 rfl rfl ag36 sz36 (ResOf.tmp rfl (ResOf.tmp rfl ResOf.nil))) rfl (fun w h => ⟨(⟨none, 0, 0, rfl⟩, ⟨none, 0, 0, rfl⟩, ⟨none, 0, 0, rfl⟩, ⟨none, 0, 0, rfl⟩), rfl, h.pick 6 [3, 2, 1, 0] rfl⟩)
      · refine r_qon (q_fieldAddr fi36_1 sz22 rfl rfl rfl) rfl rfl rfl rfl (decide_eq_false c3) rfl ?_
        refine r_qon (q_loadb 1 rfl ag22 rfl rfl rfl) rfl rfl rfl rfl (decide_eq_false c3) rfl ?_
        refine r_qon (q_lenX a0_3 a0_3_h un22 rfl rfl rfl rfl rfl) rfl rfl rfl rfl (decide_eq_false c3) rfl ?_
        refine r_qon (q_eql rfl rfl rfl) rfl rfl rfl rfl (decide_eq_false c3) rfl ?_
        refine r_q (q_pick_f rfl rfl (decide_eq_false c3) rfl) rfl rfl ?_
        refine r_nil ?_
        refine j_then ?_
        rcases of_if h with ⟨c4, h⟩ | ⟨c4, h⟩
        · refine j_true rfl (beq_t c4) ?_
          refine j_seq ?_
          refine j_region ?_
          refine r_q (q_build (cs := [(.slice none 0 0), (.slice none 0 0), (.slice none 0 0), (.slice none 0 0)]) zr36 pl36 rfl rfl rfl rfl) rfl rfl ?_
          refine r_do (a_storeb 0 rfl sz36 rfl rfl rfl rfl (Nat.le_of_ble_eq_true rfl) rfl) rfl rfl (fun _ => ?_)
          refine j_b0 [(.slice none 0 0), (.slice none 0 0), (.slice none 0 0), (.slice none 0 0)] rfl ?_
          refine r_q (q_assign rfl rfl) rfl rfl ?_
          refine r_q (q_assign rfl rfl) rfl rfl ?_
          refine r_nil ?_
          refine j_then ?_
          refine j_ret ?_
          refine j_then_ret ?_
          refine j_nil 3 1 ?_
          refine j_nil 3 1 ?_
          refine j_nil 3 1 ?_
          refine j_nil 3 1 ?_
          cases h
          exact j_return rfl (ResOf.cell 4 rfl rfl ag36 sz36 (ResOf.tmp rfl (ResOf.tmp rfl ResOf.nil))) rfl (fun w h => ⟨(⟨none, 0, 0, rfl⟩, ⟨none, 0, 0, rfl⟩, ⟨none, 0, 0, rfl⟩, ⟨none, 0, 0, rfl⟩), rfl, h.pick 6 [3, 2, 1, 0] rfl⟩)
        · refine j_false rfl (beq_f c4) ?_
          refine j_skip ?_
          refine j_then ?_
          refine j_seq ?_
          refine j_region ?_
          refine r_q (q_loadb_agg 1 rfl ag36 sz36 rfl rfl rfl rfl) rfl rfl ?_
          obtain ⟨v2, v3, v4, v5, hb2, h⟩ := of_b4 h
          refine r_do (a_call ok52 rfl rfl rfl rfl (fun w hm => spec_l4Copy.calls K a0_0 a0_0_A a0_0_n a0_0_c a0_1 a0_1_A a0_1_n a0_1_c a0_2 a0_2_A a0_2_n a0_2_c a0_3 a0_3_A a0_3_n a0_3_c hm a0_0_h (Rd.drop 2 a0_0_R) a0_1_h (Rd.drop 2 a0_1_R) a0_2_h (Rd.drop 2 a0_2_R) a0_3_h (Rd.drop 2 a0_3_R) hb2)) rfl rfl (fun x4 => ?_)
          refine r_do (a_alloc zr36 rfl) rfl rfl (fun x5 => ?_)
          refine r_do (a_storeb 0 rfl sz36 rfl rfl rfl rfl (Nat.le_of_ble_eq_true rfl) rfl) rfl rfl (fun _ => ?_)
          refine j_b0 [(.slice x4.1.A x4.1.n x4.1.c), (.slice x4.2.1.A x4.2.1.n x4.2.1.c), (.slice x4.2.2.1.A x4.2.2.1.n x4.2.2.1.c), (.slice x4.2.2.2.A x4.2.2.2.n x4.2.2.2.c)] rfl ?_
          refine r_nil ?_
          refine j_then ?_
          refine j_seq ?_
          refine j_region ?_
          refine r_q (q_fieldAddr fi36_1 sz22 rfl rfl rfl) rfl rfl ?_
          refine r_q (q_loadb 6 rfl ag22 rfl rfl rfl) rfl rfl ?_
          obtain ⟨c5, h⟩ := of_guard h
          refine r_q (q_ix (Rd.drop 7 a0_3_R) (ints_len1 _ a0_3) (by decide) a0_3_h c5 un22 sz3 rfl rfl rfl) rfl rfl ?_
          refine r_q (q_ldI (Rd.drop 7 a0_3_R) c5 ag3 rfl rfl) rfl rfl ?_
          refine r_q (q_assign rfl rfl) rfl rfl ?_
          refine r_nil ?_
          refine j_then ?_
          refine j_seq ?_
          refine j_region ?_
          refine r_do (a_litX (vs := []) (ii ([] : List Int)) un22 sz3 zr3 rfl rfl rfl rfl rfl rfl rfl rfl rfl) rfl rfl (fun x6 => ?_)
          refine r_q (q_fieldAddr fi36_1 sz22 rfl rfl rfl) rfl rfl ?_
          refine r_q (q_loadb 7 rfl ag22 rfl rfl rfl) rfl rfl ?_
          obtain ⟨c6, h⟩ := of_guard h
          refine j_fact (fun w hm => a0_3_k) (fun k2 => ?_)
          refine r_q (q_lo a0_3 a0_3_h c6 un22 sz3 rfl rfl rfl) rfl rfl ?_
          obtain ⟨c7, h⟩ := of_guard h
          refine r_do (a_appI (xs := ([] : List Int)) (ys := (a0_3.drop (1:Int).toNat)) 0 un22 un22 sz3 by3 zr3 rfl rfl rfl rfl rfl rfl rfl rfl rfl rfl rfl (rd_loI (Rd.drop 8 a0_3_R) k2 (1:Int).toNat) c7) rfl rfl (fun x7 => ?_)
          refine j_s0 ?_
          refine r_q (q_fieldAddr fi36_1 sz22 rfl rfl rfl) rfl rfl ?_
          refine r_do (a_storeb 1 rfl sz22 rfl rfl rfl rfl (Nat.le_of_ble_eq_true rfl) rfl) rfl rfl (fun _ => ?_)
          refine j_b1 [(.slice x4.1.A x4.1.n x4.1.c), (.slice x4.2.1.A x4.2.1.n x4.2.1.c), (.slice x4.2.2.1.A x4.2.2.1.n x4.2.2.1.c), (.slice x7.1 (0 + (a0_3.drop (1:Int).toNat).length) x7.2)] rfl ?_
          refine r_nil ?_
          refine j_then ?_
          refine j_seq ?_
          refine j_region ?_
          refine r_q (q_fieldAddr fi36_0 sz34 rfl rfl rfl) rfl rfl ?_
          refine r_q (q_fieldAddr fi34_2 sz22 rfl rfl rfl) rfl rfl ?_
          refine r_q (q_loadb 1 rfl ag22 rfl rfl rfl) rfl rfl ?_
          refine r_q (q_move rfl rfl) rfl rfl ?_
          refine r_q (q_move rfl rfl) rfl rfl ?_
          obtain ⟨c8, h⟩ := of_guard h
          refine r_q (q_ix (Rd.row 4 rfl) (ints_len1 _ v4) (by decide) x4.2.2.1.h c8 un22 sz3 rfl rfl rfl) rfl rfl ?_
          refine r_do (a_stI 4 rfl c8 sz3 rfl rfl rfl) rfl rfl (fun _ => ?_)
          refine j_s4 ?_
          refine r_nil ?_
          refine j_then ?_
          refine j_seq ?_
          refine j_region ?_
          refine r_q (q_loadb_agg 1 rfl ag36 sz36 rfl rfl rfl rfl) rfl rfl ?_
          refine r_q (q_move rfl rfl) rfl rfl ?_
          refine r_do (a_storeb 6 rfl sz36 rfl rfl rfl rfl (Nat.le_of_ble_eq_true rfl) rfl) rfl rfl (fun _ => ?_)
          refine j_b6 [(.slice x4.1.A x4.1.n x4.1.c), (.slice x4.2.1.A x4.2.1.n x4.2.1.c), (.slice x4.2.2.1.A x4.2.2.1.n x4.2.2.1.c), (.slice x7.1 (0 + (a0_3.drop (1:Int).toNat).length) x7.2)] rfl ?_
          refine r_q (q_assign rfl rfl) rfl rfl ?_
          refine r_q (q_assign rfl rfl) rfl rfl ?_
          refine r_nil ?_
          refine j_then ?_
          refine j_ret ?_
          cases h
          exact j_return rfl (ResOf.cell 6 rfl rfl ag36 sz36 (ResOf.tmp rfl (ResOf.tmp rfl ResOf.nil))) rfl (fun w h => ⟨(⟨x4.1.A, x4.1.n, x4.1.c, x4.1.h⟩, ⟨x4.2.1.A, x4.2.1.n, x4.2.1.c, x4.2.1.h⟩, ⟨x4.2.2.1.A, x4.2.2.1.n, x4.2.2.1.c, (set_len x4.2.2.1.h _ _)⟩, ⟨x7.1, (0 + (a0_3.drop (1:Int).toNat).length), x7.2, (app_len rfl rfl)⟩), rfl, h.pick 8 [2, 3, 4, 0] rfl⟩)
  · refine r_off rfl rfl rfl rfl (not_t (var_f c1)) rfl ?_
    refine r_off rfl rfl rfl rfl (not_t (var_f c1)) rfl ?_
    refine r_q (q_pick_t rfl rfl (not_t (var_f c1)) rfl) rfl rfl ?_
    refine r_q (q_move rfl rfl) rfl rfl ?_
    refine r_off rfl rfl rfl rfl rfl rfl ?_
    refine r_off rfl rfl rfl rfl rfl rfl ?_
    refine r_off rfl rfl rfl rfl rfl rfl ?_
    refine r_off rfl rfl rfl rfl rfl rfl ?_
    refine r_off rfl rfl rfl rfl rfl rfl ?_
    refine r_off rfl rfl rfl rfl rfl rfl ?_
    refine r_q (q_pick_t rfl rfl rfl rfl) rfl rfl ?_
    refine r_q (q_move rfl rfl) rfl rfl ?_
    refine r_off rfl rfl rfl rfl rfl rfl ?_
    refine r_off rfl rfl rfl rfl rfl rfl ?_
    refine r_off rfl rfl rfl rfl rfl rfl ?_
    refine r_off rfl rfl rfl rfl rfl rfl ?_
    refine r_q (q_pick_t rfl rfl rfl rfl) rfl rfl ?_
    refine r_nil ?_
    refine j_then ?_
    refine j_true rfl rfl ?_
    refine j_seq ?_
    refine j_region ?_
    refine r_q (q_build (cs := [(.slice none 0 0), (.slice none 0 0), (.slice none 0 0), (.slice none 0 0)]) zr36 pl36 rfl rfl rfl rfl) rfl rfl ?_
    refine r_do (a_storeb 0 rfl sz36 rfl rfl rfl rfl (Nat.le_of_ble_eq_true rfl) rfl) rfl rfl (fun _ => ?_)
    refine j_b0 [(.slice none 0 0), (.slice none 0 0), (.slice none 0 0), (.slice none 0 0)] rfl ?_
    refine r_q (q_assign rfl rfl) rfl rfl ?_
    refine r_q (q_assign rfl rfl) rfl rfl ?_
    refine r_nil ?_
    refine j_then ?_
    refine j_ret ?_
    refine j_then_ret ?_
    refine j_nil 3 1 ?_
    refine j_nil 3 1 ?_
    refine j_nil 3 1 ?_
    refine j_nil 3 1 ?_
    cases h
    exact j_return rfl (ResOf.cell 4 rfl rfl ag36 sz36 (ResOf.tmp rfl (ResOf.tmp rfl ResOf.nil))) rfl (fun w h => ⟨(⟨none, 0, 0, rfl⟩, ⟨none, 0, 0, rfl⟩, ⟨none, 0, 0, rfl⟩, ⟨none, 0, 0, rfl⟩), rfl, h.pick 6 [3, 2, 1, 0] rfl⟩)

theorem spec_l4Draw.calls (K : Nat) (a0_g : Nat) (a0_0 : List Int) (a0_0_A : Option Addr) (a0_0_n a0_0_c : Nat) (a0_1 : Int) {w0 w : World} {F : List Res} {r1 : List Int} {r2 : List Int} {r3 : List Int} {r4 : List Int} {r5 : Int} (hm : Mem w0 (.box a0_g 92 [.slice a0_0_A a0_0_n a0_0_c, i6 a0_1] :: F) w) (a0_0_h : a0_0.length = a0_0_n) (a0_0_R : Rd w0 F a0_0_A (ints .u8 a0_0)) (h : spec_l4Draw.f K a0_0 a0_1 = some (r1, r2, r3, r4, r5)) :
    Calls Try.prog 69 (List.toArray [pt a0_g]) w fun e w' => ∃ x : (Sl r1.length) × (Sl r2.length) × (Sl r3.length) × (Sl r4.length), e = .returned (.agg (List.toArray [.slice x.1.A x.1.n x.1.c, .slice x.2.1.A x.2.1.n x.2.1.c, .slice x.2.2.1.A x.2.2.1.n x.2.2.1.c, .slice x.2.2.2.A x.2.2.2.n x.2.2.2.c])) ∧ Mem w0 (.row x.1.A x.1.c 3 1 (ii r1) :: .row x.2.1.A x.2.1.c 3 1 (ii r2) :: .row x.2.2.1.A x.2.2.1.c 3 1 (ii r3) :: .row x.2.2.2.A x.2.2.2.c 3 1 (ii r4) :: .box a0_g 92 [.slice a0_0_A a0_0_n a0_0_c, i6 r5] :: F) w' := by
  unfold spec_l4Draw.f at h
  refine calls_of_J (n := 102) Try.func69 rfl rfl rfl hm ?_
  refine j_seq ?_
  refine j_region ?_
  refine r_do (a_alloc zr36 rfl) rfl rfl (fun x1 => ?_)
  refine r_nil ?_
  refine j_then ?_
  refine j_seq ?_
  refine j_region ?_
  refine r_q (q_move rfl rfl) rfl rfl ?_
  refine r_do (a_litX (vs := [(i6 (4:Int)), (i6 (3:Int)), (i6 (5:Int)), (i6 (6:Int)), (i6 (2:Int)), (i6 (8:Int))]) (ii ([(4:Int), (3:Int), (5:Int), (6:Int), (2:Int), (8:Int)] : List Int)) un22 sz3 zr3 rfl rfl rfl rfl rfl rfl rfl rfl rfl) rfl rfl (fun x2 => ?_)
  obtain ⟨v1, v2, hb1, h⟩ := of_b2 h
  refine j_rs (.box a0_g 92 [(.slice a0_0_A a0_0_n a0_0_c), (i6 a0_1)] :: .row x2 6 3 1 (ii ([(4:Int), (3:Int), (5:Int), (6:Int), (2:Int), (8:Int)] : List Int)) :: .box x1 36 [(.slice none 0 0), (.slice none 0 0), (.slice none 0 0), (.slice none 0 0)] :: F) (fun _ h => h.pick 3 [2, 0, 1] rfl) ?_
  refine r_do (a_call ok70 rfl rfl rfl rfl (fun w hm => spec_l13Rd_num.calls K a0_g a0_0 a0_0_A a0_0_n a0_0_c a0_1 ([(4:Int), (3:Int), (5:Int), (6:Int), (2:Int), (8:Int)] : List Int) x2 6 6 hm a0_0_h (Rd.drop 2 a0_0_R) rfl (Rd.row 0 rfl) hb1)) rfl rfl (fun x3 => ?_)
  refine r_q (q_move rfl rfl) rfl rfl ?_
  refine r_do (a_litX (vs := [(i6 (2:Int)), (i6 (1:Int)), (i6 (3:Int))]) (ii ([(2:Int), (1:Int), (3:Int)] : List Int)) un22 sz3 zr3 rfl rfl rfl rfl rfl rfl rfl rfl rfl) rfl rfl (fun x4 => ?_)
  obtain ⟨v3, v4, hb2, h⟩ := of_b2 h
  refine j_rs (.box a0_g 92 [(.slice a0_0_A a0_0_n a0_0_c), (i6 v2)] :: .row x4 3 3 1 (ii ([(2:Int), (1:Int), (3:Int)] : List Int)) :: .row x2 6 3 1 (ii ([(4:Int), (3:Int), (5:Int), (6:Int), (2:Int), (8:Int)] : List Int)) :: .box x1 36 [(.slice none 0 0), (.slice none 0 0), (.slice none 0 0), (.slice none 0 0)] :: F) (fun _ h => h.pick 4 [1, 0, 2, 3] rfl) ?_
  refine r_do (a_call ok70 rfl rfl rfl rfl (fun w hm => spec_l13Rd_num.calls K a0_g a0_0 a0_0_A a0_0_n a0_0_c v2 ([(2:Int), (1:Int), (3:Int)] : List Int) x4 3 3 hm a0_0_h (Rd.drop 3 a0_0_R) rfl (Rd.row 0 rfl) hb2)) rfl rfl (fun x5 => ?_)
  obtain ⟨v5, v6, v7, v8, v9, hb3, h⟩ := of_b5 h
  refine r_do (a_call ok87 rfl rfl rfl rfl (fun w hm => spec_NewStore.calls K v1 v3 hm hb3)) rfl rfl (fun x6 => ?_)
  refine r_q (q_move rfl rfl) rfl rfl ?_
  refine r_q (q_extract rfl rfl rfl) rfl rfl ?_
  refine r_q (q_extract rfl rfl rfl) rfl rfl ?_
  refine r_do (a_alloc zr36 rfl) rfl rfl (fun x7 => ?_)
  refine r_do (a_storeb 0 rfl sz36 rfl rfl rfl rfl (Nat.le_of_ble_eq_true rfl) rfl) rfl rfl (fun _ => ?_)
  refine j_b0 [(.slice x6.1.A x6.1.n x6.1.c), (.slice x6.2.1.A x6.2.1.n x6.2.1.c), (.slice x6.2.2.1.A x6.2.2.1.n x6.2.2.1.c), (.slice x6.2.2.2.A x6.2.2.2.n x6.2.2.2.c)] rfl ?_
  refine r_q (q_assign rfl rfl) rfl rfl ?_
  refine r_nil ?_
  refine j_then ?_
  refine j_seq ?_
  refine j_seq ?_
  refine j_region ?_
  refine r_q (q_move rfl rfl) rfl rfl ?_
  refine r_do (a_litX (vs := [(i6 (5:Int)), (i6 (3:Int)), (i6 (8:Int)), (i6 (2:Int)), (i6 (0:Int)), (i6 (12:Int))]) (ii ([(5:Int), (3:Int), (8:Int), (2:Int), (0:Int), (12:Int)] : List Int)) un22 sz3 zr3 rfl rfl rfl rfl rfl rfl rfl rfl rfl) rfl rfl (fun x8 => ?_)
  obtain ⟨v10, v11, hb4, h⟩ := of_b2 h
  refine j_rs (.box a0_g 92 [(.slice a0_0_A a0_0_n a0_0_c), (i6 v4)] :: .row x8 6 3 1 (ii ([(5:Int), (3:Int), (8:Int), (2:Int), (0:Int), (12:Int)] : List Int)) :: .box x7 36 [(.slice x6.1.A x6.1.n x6.1.c), (.slice x6.2.1.A x6.2.1.n x6.2.1.c), (.slice x6.2.2.1.A x6.2.2.1.n x6.2.2.1.c), (.slice x6.2.2.2.A x6.2.2.2.n x6.2.2.2.c)] :: .row x6.1.A x6.1.c 3 1 (ii v5) :: .row x6.2.1.A x6.2.1.c 3 1 (ii v6) :: .row x6.2.2.1.A x6.2.2.1.c 3 1 (ii v7) :: .row x6.2.2.2.A x6.2.2.2.c 3 1 (ii v8) :: .row x4 3 3 1 (ii ([(2:Int), (1:Int), (3:Int)] : List Int)) :: .row x2 6 3 1 (ii ([(4:Int), (3:Int), (5:Int), (6:Int), (2:Int), (8:Int)] : List Int)) :: .box x1 36 [(.slice none 0 0), (.slice none 0 0), (.slice none 0 0), (.slice none 0 0)] :: F) (fun _ h => h.pick 10 [6, 0, 1, 2, 3, 4, 5, 7, 8, 9] rfl) ?_
  refine r_do (a_call ok70 rfl rfl rfl rfl (fun w hm => spec_l13Rd_num.calls K a0_g a0_0 a0_0_A a0_0_n a0_0_c v4 ([(5:Int), (3:Int), (8:Int), (2:Int), (0:Int), (12:Int)] : List Int) x8 6 6 hm a0_0_h (Rd.drop 9 a0_0_R) rfl (Rd.row 0 rfl) hb4)) rfl rfl (fun x9 => ?_)
  refine r_q (q_assign rfl rfl) rfl rfl ?_
  refine r_nil ?_
  refine j_then ?_
  obtain ⟨κ0, h, hκ0⟩ := ex_k (g := fun κ => spec_l4Draw.loop0 K κ a0_0 K v10 v11 v5 v6 v7 v8 = some (r1, r2, r3, r4, r5)) h
  refine j_cut (σ := (Option Addr) × Nat × Nat × (List Int) × (Option Addr) × Nat × Nat × (List Int) × (Option Addr) × Nat × Nat × (List Int) × (Option Addr) × Nat × Nat × (List Int) × Int) (fun s => [(2, (pt x1)), (3, (pt x7))]) (fun s => .box x1 36 [(.slice none 0 0), (.slice none 0 0), (.slice none 0 0), (.slice none 0 0)] :: .box x7 36 [(.slice s.1 s.2.1 s.2.2.1), (.slice s.2.2.2.2.1 s.2.2.2.2.2.1 s.2.2.2.2.2.2.1), (.slice s.2.2.2.2.2.2.2.2.1 s.2.2.2.2.2.2.2.2.2.1 s.2.2.2.2.2.2.2.2.2.2.1), (.slice s.2.2.2.2.2.2.2.2.2.2.2.2.1 s.2.2.2.2.2.2.2.2.2.2.2.2.2.1 s.2.2.2.2.2.2.2.2.2.2.2.2.2.2.1)] :: .box a0_g 92 [(.slice a0_0_A a0_0_n a0_0_c), (i6 s.2.2.2.2.2.2.2.2.2.2.2.2.2.2.2.2)] :: .row s.1 s.2.2.1 3 1 (ii s.2.2.2.1) :: .row s.2.2.2.2.1 s.2.2.2.2.2.2.1 3 1 (ii s.2.2.2.2.2.2.2.1) :: .row s.2.2.2.2.2.2.2.2.1 s.2.2.2.2.2.2.2.2.2.2.1 3 1 (ii s.2.2.2.2.2.2.2.2.2.2.2.1) :: .row s.2.2.2.2.2.2.2.2.2.2.2.2.1 s.2.2.2.2.2.2.2.2.2.2.2.2.2.2.1 3 1 (ii s.2.2.2.2.2.2.2.2.2.2.2.2.2.2.2.1) :: F) (fun s => κ0 s.2.2.2.1 s.2.2.2.2.2.2.2.1 s.2.2.2.2.2.2.2.2.2.2.2.1 s.2.2.2.2.2.2.2.2.2.2.2.2.2.2.2.1 s.2.2.2.2.2.2.2.2.2.2.2.2.2.2.2.2 = some (r1, r2, r3, r4, r5) ∧ (s.2.2.2.1.length = s.2.1) ∧ (s.2.2.2.2.2.2.2.1.length = s.2.2.2.2.2.1) ∧ (s.2.2.2.2.2.2.2.2.2.2.2.1.length = s.2.2.2.2.2.2.2.2.2.1) ∧ (s.2.2.2.2.2.2.2.2.2.2.2.2.2.2.2.1.length = s.2.2.2.2.2.2.2.2.2.2.2.2.2.1)) ?_ ?_
  · refine j_block ?_
    refine j_loop (σ := Int × Int × (Option Addr) × Nat × Nat × (List Int) × (Option Addr) × Nat × Nat × (List Int) × (Option Addr) × Nat × Nat × (List Int) × (Option Addr) × Nat × Nat × (List Int)) (fun s => [(0, (pt a0_g)), (2, (pt x1)), (3, (pt x7)), (5, (i6 s.1))]) (fun s => .box a0_g 92 [(.slice a0_0_A a0_0_n a0_0_c), (i6 s.2.1)] :: .box x1 36 [(.slice none 0 0), (.slice none 0 0), (.slice none 0 0), (.slice none 0 0)] :: .box x7 36 [(.slice s.2.2.1 s.2.2.2.1 s.2.2.2.2.1), (.slice s.2.2.2.2.2.2.1 s.2.2.2.2.2.2.2.1 s.2.2.2.2.2.2.2.2.1), (.slice s.2.2.2.2.2.2.2.2.2.2.1 s.2.2.2.2.2.2.2.2.2.2.2.1 s.2.2.2.2.2.2.2.2.2.2.2.2.1), (.slice s.2.2.2.2.2.2.2.2.2.2.2.2.2.2.1 s.2.2.2.2.2.2.2.2.2.2.2.2.2.2.2.1 s.2.2.2.2.2.2.2.2.2.2.2.2.2.2.2.2.1)] :: .row s.2.2.1 s.2.2.2.2.1 3 1 (ii s.2.2.2.2.2.1) :: .row s.2.2.2.2.2.2.1 s.2.2.2.2.2.2.2.2.1 3 1 (ii s.2.2.2.2.2.2.2.2.2.1) :: .row s.2.2.2.2.2.2.2.2.2.2.1 s.2.2.2.2.2.2.2.2.2.2.2.2.1 3 1 (ii s.2.2.2.2.2.2.2.2.2.2.2.2.2.1) :: .row s.2.2.2.2.2.2.2.2.2.2.2.2.2.2.1 s.2.2.2.2.2.2.2.2.2.2.2.2.2.2.2.2.1 3 1 (ii s.2.2.2.2.2.2.2.2.2.2.2.2.2.2.2.2.2) :: F) (fun m s => spec_l4Draw.loop0 K κ0 a0_0 m s.1 s.2.1 s.2.2.2.2.2.1 s.2.2.2.2.2.2.2.2.2.1 s.2.2.2.2.2.2.2.2.2.2.2.2.2.1 s.2.2.2.2.2.2.2.2.2.2.2.2.2.2.2.2.2 = some (r1, r2, r3, r4, r5) ∧ (s.2.2.2.2.2.1.length = s.2.2.2.1) ∧ (s.2.2.2.2.2.2.2.2.2.1.length = s.2.2.2.2.2.2.2.1) ∧ (s.2.2.2.2.2.2.2.2.2.2.2.2.2.1.length = s.2.2.2.2.2.2.2.2.2.2.2.1) ∧ (s.2.2.2.2.2.2.2.2.2.2.2.2.2.2.2.2.2.length = s.2.2.2.2.2.2.2.2.2.2.2.2.2.2.2.1)) K (v10, v11, x6.1.A, x6.1.n, x6.1.c, v5, x6.2.1.A, x6.2.1.n, x6.2.1.c, v6, x6.2.2.1.A, x6.2.2.1.n, x6.2.2.1.c, v7, x6.2.2.2.A, x6.2.2.2.n, x6.2.2.2.c, v8) ⟨h, x6.1.h, x6.2.1.h, x6.2.2.1.h, x6.2.2.2.h⟩ (fun a he => he.sub ⟨rfl, rfl, rfl, rfl, trivial⟩) (fun w h => h.pick 10 [0, 9, 2, 3, 4, 5, 6] rfl) ?_
    rintro m ⟨p3, p4, A5, n5, d5, l5, A6, n6, d6, l6, A7, n7, d7, l7, A8, n8, d8, l8⟩ ⟨h, q5, q6, q7, q8⟩
    cases m with
    | zero => exact absurd h (by rw [spec_l4Draw.loop0]; exact nofun)
    | succ m =>
      rw [spec_l4Draw.loop0] at h
      show J _ _ [(0, (pt a0_g)), (2, (pt x1)), (3, (pt x7)), (5, (i6 p3))] _ (.box a0_g 92 [(.slice a0_0_A a0_0_n a0_0_c), (i6 p4)] :: .box x1 36 [(.slice none 0 0), (.slice none 0 0), (.slice none 0 0), (.slice none 0 0)] :: .box x7 36 [(.slice A5 n5 d5), (.slice A6 n6 d6), (.slice A7 n7 d7), (.slice A8 n8 d8)] :: .row A5 d5 3 1 (ii l5) :: .row A6 d6 3 1 (ii l6) :: .row A7 d7 3 1 (ii l7) :: .row A8 d8 3 1 (ii l8) :: F)
      refine j_seq ?_
      refine j_seq ?_
      refine j_region ?_
      refine r_q (q_move rfl rfl) rfl rfl ?_
      refine r_q (q_gtr rfl rfl rfl) rfl rfl ?_
      refine r_nil ?_
      refine j_then ?_
      rcases of_if h with ⟨c46, h⟩ | ⟨c46, h⟩
      · refine j_true rfl (decide_eq_true c46) ?_
        refine j_skip ?_
        refine j_then ?_
        refine j_seq ?_
        refine j_block ?_
        refine j_seq ?_
        refine j_region ?_
        refine r_q (q_move rfl rfl) rfl rfl ?_
        refine r_q (q_fieldAddr fi36_0 sz34 rfl rfl rfl) rfl rfl ?_
        refine r_q (q_fieldAddr fi34_2 sz22 rfl rfl rfl) rfl rfl ?_
        refine r_q (q_loadb 2 rfl ag22 rfl rfl rfl) rfl rfl ?_
        refine r_q (q_lenX l7 q7 un22 rfl rfl rfl rfl rfl) rfl rfl ?_
        obtain ⟨v66, v67, hb20, h⟩ := of_b2 h
        refine r_do (a_call ok73 rfl rfl rfl rfl (fun w hm => spec_l13Rd_pick.calls K a0_g a0_0 a0_0_A a0_0_n a0_0_c p4 (l7.length : Int) hm a0_0_h (Rd.drop 6 a0_0_R) hb20)) rfl rfl (fun x10 => ?_)
        refine r_q (q_assign rfl rfl) rfl rfl ?_
        refine r_nil ?_
        refine j_then ?_
        refine j_seq ?_
        refine j_region ?_
        refine r_q (q_move rfl rfl) rfl rfl ?_
        refine r_q (q_fieldAddr fi36_0 sz34 rfl rfl rfl) rfl rfl ?_
        refine r_q (q_fieldAddr fi34_2 sz22 rfl rfl rfl) rfl rfl ?_
        refine r_q (q_loadb 2 rfl ag22 rfl rfl rfl) rfl rfl ?_
        refine r_q (q_lenX l7 q7 un22 rfl rfl rfl rfl rfl) rfl rfl ?_
        obtain ⟨v68, v69, hb21, h⟩ := of_b2 h
        refine r_do (a_call ok73 rfl rfl rfl rfl (fun w hm => spec_l13Rd_pick.calls K a0_g a0_0 a0_0_A a0_0_n a0_0_c v67 (l7.length : Int) hm a0_0_h (Rd.drop 6 a0_0_R) hb21)) rfl rfl (fun x11 => ?_)
        refine r_q (q_assign rfl rfl) rfl rfl ?_
        refine r_nil ?_
        refine j_then ?_
        refine j_seq ?_
        refine j_region ?_
        refine r_q (q_fieldAddr fi36_0 sz34 rfl rfl rfl) rfl rfl ?_
        refine r_q (q_fieldAddr fi34_2 sz22 rfl rfl rfl) rfl rfl ?_
        refine r_q (q_loadb 2 rfl ag22 rfl rfl rfl) rfl rfl ?_
        refine r_q (q_move rfl rfl) rfl rfl ?_
        obtain ⟨c47, h⟩ := of_guard h
        refine r_q (q_ix (Rd.row 5 rfl) (ints_len1 _ l7) (by decide) q7 c47 un22 sz3 rfl rfl rfl) rfl rfl ?_
        refine r_q (q_ldI (Rd.row 5 rfl) c47 ag3 rfl rfl) rfl rfl ?_
        refine r_q (q_assign rfl rfl) rfl rfl ?_
        refine r_nil ?_
        refine j_then ?_
        refine j_seq ?_
        refine j_region ?_
        refine r_q (q_fieldAddr fi36_0 sz34 rfl rfl rfl) rfl rfl ?_
        refine r_q (q_fieldAddr fi34_2 sz22 rfl rfl rfl) rfl rfl ?_
        refine r_q (q_loadb 2 rfl ag22 rfl rfl rfl) rfl rfl ?_
        refine r_q (q_move rfl rfl) rfl rfl ?_
        obtain ⟨c48, h⟩ := of_guard h
        refine r_q (q_ix (Rd.row 5 rfl) (ints_len1 _ l7) (by decide) q7 c48 un22 sz3 rfl rfl rfl) rfl rfl ?_
        refine r_q (q_ldI (Rd.row 5 rfl) c48 ag3 rfl rfl) rfl rfl ?_
        refine r_q (q_assign rfl rfl) rfl rfl ?_
        refine r_nil ?_
        refine j_then ?_
        refine j_seq ?_
        refine j_region ?_
        refine r_q (q_move rfl rfl) rfl rfl ?_
        obtain ⟨v70, v71, hb22, h⟩ := of_b2 h
        refine r_do (a_call ok73 rfl rfl rfl rfl (fun w hm => spec_l13Rd_pick.calls K a0_g a0_0 a0_0_A a0_0_n a0_0_c v69 (5:Int) hm a0_0_h (Rd.drop 6 a0_0_R) hb22)) rfl rfl (fun x12 => ?_)
        refine r_nil ?_
        refine j_then ?_
        refine j_block ?_
        refine j_seq ?_
        refine j_seq ?_
        refine j_region ?_
        refine r_q (q_eql rfl rfl rfl) rfl rfl ?_
        refine r_q (q_assign rfl rfl) rfl rfl ?_
        refine r_nil ?_
        refine j_then ?_
        rcases of_if h with ⟨c49, h⟩ | ⟨c49, h⟩
        · refine j_true rfl (beq_t c49) ?_
          refine j_skip ?_
          refine j_then ?_
          refine j_true rfl (beq_t c49) ?_
          refine j_seq ?_
          refine j_region ?_
          refine r_q (q_loadb_agg 2 rfl ag36 sz36 rfl rfl rfl rfl) rfl rfl ?_
          refine r_q (q_move rfl rfl) rfl rfl ?_
          obtain ⟨v72, v73, v74, v75, v76, v77, hb23, h⟩ := of_b6 h
          refine r_do (a_call ok88 rfl rfl rfl rfl (fun w hm => spec_AllocCell.calls K l5 A5 n5 d5 l6 A6 n6 d6 l7 A7 n7 d7 l8 A8 n8 d8 v66 hm q5 (Rd.row 3 rfl) q6 (Rd.row 4 rfl) q7 (Rd.row 5 rfl) q8 (Rd.row 6 rfl) (hm.roomI 6 rfl) hb23)) rfl rfl (fun x13 => ?_)
          refine r_q (q_move rfl rfl) rfl rfl ?_
          refine r_q (q_extract rfl rfl rfl) rfl rfl ?_
          refine r_q (q_extract rfl rfl rfl) rfl rfl ?_
          refine r_q (q_extract rfl rfl rfl) rfl rfl ?_
          refine r_do (a_alloc zr36 rfl) rfl rfl (fun x14 => ?_)
          refine r_do (a_storeb 0 rfl sz36 rfl rfl rfl rfl (Nat.le_of_ble_eq_true rfl) rfl) rfl rfl (fun _ => ?_)
          refine j_b0 [(.slice x13.1.A x13.1.n x13.1.c), (.slice x13.2.1.A x13.2.1.n x13.2.1.c), (.slice x13.2.2.1.A x13.2.2.1.n x13.2.2.1.c), (.slice x13.2.2.2.A x13.2.2.2.n x13.2.2.2.c)] rfl ?_
          refine r_q (q_assign rfl rfl) rfl rfl ?_
          refine r_q (q_assign rfl rfl) rfl rfl ?_
          refine r_nil ?_
          refine j_then ?_
          refine j_seq ?_
          refine j_region ?_
          refine r_q (q_move rfl rfl) rfl rfl ?_
          refine r_nil ?_
          refine j_then ?_
          rcases of_if h with ⟨c50, h⟩ | ⟨c50, h⟩
          · refine j_true rfl c50 ?_
            refine j_region ?_
            refine r_q (q_loadb_agg 0 rfl ag36 sz36 rfl rfl rfl rfl) rfl rfl ?_
            refine r_do (a_storeb 7 rfl sz36 rfl rfl rfl rfl (Nat.le_of_ble_eq_true rfl) rfl) rfl rfl (fun _ => ?_)
            refine j_b7 [(.slice x13.1.A x13.1.n x13.1.c), (.slice x13.2.1.A x13.2.1.n x13.2.1.c), (.slice x13.2.2.1.A x13.2.2.1.n x13.2.2.1.c), (.slice x13.2.2.2.A x13.2.2.2.n x13.2.2.2.c)] rfl ?_
            refine r_nil ?_
            refine j_in ?_
            refine j_in ?_
            refine j_then ?_
            refine j_region ?_
            refine r_q (q_move rfl rfl) rfl rfl ?_
            refine r_q (q_sub rfl rfl rfl) rfl rfl ?_
            refine r_q (q_assign rfl rfl) rfl rfl ?_
            refine r_nil ?_
            refine j_then ?_
            exact j_again m ((wrap64 (p3 - (1:Int))), v71, x13.1.A, x13.1.n, x13.1.c, v72, x13.2.1.A, x13.2.1.n, x13.2.1.c, v73, x13.2.2.1.A, x13.2.2.1.n, x13.2.2.1.c, v74, x13.2.2.2.A, x13.2.2.2.n, x13.2.2.2.c, v75) (Nat.lt_succ_self m) ⟨h, x13.1.h, x13.2.1.h, x13.2.2.1.h, x13.2.2.2.h⟩ (fun a he => he.sub ⟨rfl, rfl, rfl, rfl, trivial⟩) (fun w h => h.pick 12 [5, 6, 7, 1, 2, 3, 4] rfl)
          · refine j_false rfl (var_f c50) ?_
            refine j_skip ?_
            refine j_in ?_
            refine j_in ?_
            refine j_then ?_
            refine j_region ?_
            refine r_q (q_move rfl rfl) rfl rfl ?_
            refine r_q (q_sub rfl rfl rfl) rfl rfl ?_
            refine r_q (q_assign rfl rfl) rfl rfl ?_
            refine r_nil ?_
            refine j_then ?_
            exact j_again m ((wrap64 (p3 - (1:Int))), v71, A5, n5, d5, l5, A6, n6, d6, l6, A7, n7, d7, l7, A8, n8, d8, l8) (Nat.lt_succ_self m) ⟨h, q5, q6, q7, q8⟩ (fun a he => he.sub ⟨rfl, rfl, rfl, rfl, trivial⟩) (fun w h => (h.drop 5))
        · refine j_false rfl (beq_f c49) ?_
          refine j_region ?_
          refine r_q (q_eql rfl rfl rfl) rfl rfl ?_
          refine r_q (q_assign rfl rfl) rfl rfl ?_
          refine r_nil ?_
          refine j_then ?_
          rcases of_if h with ⟨c51, h⟩ | ⟨c51, h⟩
          · refine j_true rfl (beq_t c51) ?_
            refine j_seq ?_
            refine j_region ?_
            refine r_q (q_loadb_agg 2 rfl ag36 sz36 rfl rfl rfl rfl) rfl rfl ?_
            refine r_q (q_move rfl rfl) rfl rfl ?_
            obtain ⟨v78, v79, v80, v81, v82, v83, hb24, h⟩ := of_b6 h
            refine r_do (a_call ok88 rfl rfl rfl rfl (fun w hm => spec_AllocCell.calls K l5 A5 n5 d5 l6 A6 n6 d6 l7 A7 n7 d7 l8 A8 n8 d8 v66 hm q5 (Rd.row 3 rfl) q6 (Rd.row 4 rfl) q7 (Rd.row 5 rfl) q8 (Rd.row 6 rfl) (hm.roomI 6 rfl) hb24)) rfl rfl (fun x13 => ?_)
            refine r_q (q_move rfl rfl) rfl rfl ?_
            refine r_q (q_extract rfl rfl rfl) rfl rfl ?_
            refine r_q (q_extract rfl rfl rfl) rfl rfl ?_
            refine r_q (q_extract rfl rfl rfl) rfl rfl ?_
            refine r_do (a_alloc zr36 rfl) rfl rfl (fun x14 => ?_)
            refine r_do (a_storeb 0 rfl sz36 rfl rfl rfl rfl (Nat.le_of_ble_eq_true rfl) rfl) rfl rfl (fun _ => ?_)
            refine j_b0 [(.slice x13.1.A x13.1.n x13.1.c), (.slice x13.2.1.A x13.2.1.n x13.2.1.c), (.slice x13.2.2.1.A x13.2.2.1.n x13.2.2.1.c), (.slice x13.2.2.2.A x13.2.2.2.n x13.2.2.2.c)] rfl ?_
            refine r_q (q_assign rfl rfl) rfl rfl ?_
            refine r_q (q_assign rfl rfl) rfl rfl ?_
            refine r_nil ?_
            refine j_then ?_
            refine j_seq ?_
            refine j_region ?_
            refine r_q (q_move rfl rfl) rfl rfl ?_
            refine r_nil ?_
            refine j_then ?_
            rcases of_if h with ⟨c52, h⟩ | ⟨c52, h⟩
            · refine j_true rfl c52 ?_
              refine j_region ?_
              refine r_q (q_loadb_agg 0 rfl ag36 sz36 rfl rfl rfl rfl) rfl rfl ?_
              refine r_do (a_storeb 7 rfl sz36 rfl rfl rfl rfl (Nat.le_of_ble_eq_true rfl) rfl) rfl rfl (fun _ => ?_)
              refine j_b7 [(.slice x13.1.A x13.1.n x13.1.c), (.slice x13.2.1.A x13.2.1.n x13.2.1.c), (.slice x13.2.2.1.A x13.2.2.1.n x13.2.2.1.c), (.slice x13.2.2.2.A x13.2.2.2.n x13.2.2.2.c)] rfl ?_
              refine r_nil ?_
              refine j_in ?_
              refine j_in ?_
              refine j_then ?_
              refine j_region ?_
              refine r_q (q_move rfl rfl) rfl rfl ?_
              refine r_q (q_sub rfl rfl rfl) rfl rfl ?_
              refine r_q (q_assign rfl rfl) rfl rfl ?_
              refine r_nil ?_
              refine j_then ?_
              exact j_again m ((wrap64 (p3 - (1:Int))), v71, x13.1.A, x13.1.n, x13.1.c, v78, x13.2.1.A, x13.2.1.n, x13.2.1.c, v79, x13.2.2.1.A, x13.2.2.1.n, x13.2.2.1.c, v80, x13.2.2.2.A, x13.2.2.2.n, x13.2.2.2.c, v81) (Nat.lt_succ_self m) ⟨h, x13.1.h, x13.2.1.h, x13.2.2.1.h, x13.2.2.2.h⟩ (fun a he => he.sub ⟨rfl, rfl, rfl, rfl, trivial⟩) (fun w h => h.pick 12 [5, 6, 7, 1, 2, 3, 4] rfl)
            · refine j_false rfl (var_f c52) ?_
              refine j_skip ?_
              refine j_in ?_
              refine j_in ?_
              refine j_then ?_
              refine j_region ?_
              refine r_q (q_move rfl rfl) rfl rfl ?_
              refine r_q (q_sub rfl rfl rfl) rfl rfl ?_
              refine r_q (q_assign rfl rfl) rfl rfl ?_
              refine r_nil ?_
              refine j_then ?_
              exact j_again m ((wrap64 (p3 - (1:Int))), v71, A5, n5, d5, l5, A6, n6, d6, l6, A7, n7, d7, l7, A8, n8, d8, l8) (Nat.lt_succ_self m) ⟨h, q5, q6, q7, q8⟩ (fun a he => he.sub ⟨rfl, rfl, rfl, rfl, trivial⟩) (fun w h => (h.drop 5))
          · refine j_false rfl (beq_f c51) ?_
            refine j_seq ?_
            refine j_region ?_
            refine r_q (q_eql rfl rfl rfl) rfl rfl ?_
            refine r_q (q_assign rfl rfl) rfl rfl ?_
            refine r_nil ?_
            refine j_then ?_
            rcases of_if h with ⟨c53, h⟩ | ⟨c53, h⟩
            · refine j_true rfl (beq_t c53) ?_
              refine j_seq ?_
              refine j_region ?_
              refine r_q (q_move rfl rfl) rfl rfl ?_
              refine r_q (q_neq rfl rfl rfl) rfl rfl ?_
              refine r_nil ?_
              refine j_then ?_
              rcases of_if h with ⟨c54, h⟩ | ⟨c54, h⟩
              · refine j_false rfl (bne_f c54) ?_
                refine j_skip ?_
                refine j_in ?_
                refine j_in ?_
                refine j_then ?_
                refine j_region ?_
                refine r_q (q_move rfl rfl) rfl rfl ?_
                refine r_q (q_sub rfl rfl rfl) rfl rfl ?_
                refine r_q (q_assign rfl rfl) rfl rfl ?_
                refine r_nil ?_
                refine j_then ?_
                exact j_again m ((wrap64 (p3 - (1:Int))), v71, A5, n5, d5, l5, A6, n6, d6, l6, A7, n7, d7, l7, A8, n8, d8, l8) (Nat.lt_succ_self m) ⟨h, q5, q6, q7, q8⟩ (fun a he => he.sub ⟨rfl, rfl, rfl, rfl, trivial⟩) (fun w h => h)
              · refine j_true rfl (bne_t c54) ?_
                refine j_region ?_
                refine r_q (q_fieldAddr fi36_0 sz34 rfl rfl rfl) rfl rfl ?_
                refine r_q (q_fieldAddr fi34_0 sz22 rfl rfl rfl) rfl rfl ?_
                refine r_q (q_loadb 2 rfl ag22 rfl rfl rfl) rfl rfl ?_
                refine r_q (q_move rfl rfl) rfl rfl ?_
                refine r_q (q_move rfl rfl) rfl rfl ?_
                obtain ⟨c55, h⟩ := of_guard h
                refine r_q (q_ix (Rd.row 3 rfl) (ints_len1 _ l5) (by decide) q5 c55 un22 sz3 rfl rfl rfl) rfl rfl ?_
                refine r_do (a_stI 3 rfl c55 sz3 rfl rfl rfl) rfl rfl (fun _ => ?_)
                refine j_s3 ?_
                refine r_nil ?_
                refine j_in ?_
                refine j_in ?_
                refine j_then ?_
                refine j_region ?_
                refine r_q (q_move rfl rfl) rfl rfl ?_
                refine r_q (q_sub rfl rfl rfl) rfl rfl ?_
                refine r_q (q_assign rfl rfl) rfl rfl ?_
                refine r_nil ?_
                refine j_then ?_
                exact j_again m ((wrap64 (p3 - (1:Int))), v71, A5, n5, d5, (l5.set (rd l7 v66).toNat (rd l7 v68)), A6, n6, d6, l6, A7, n7, d7, l7, A8, n8, d8, l8) (Nat.lt_succ_self m) ⟨h, (set_len q5 _ _), q6, q7, q8⟩ (fun a he => he.sub ⟨rfl, rfl, rfl, rfl, trivial⟩) (fun w h => h)
            · refine j_false rfl (beq_f c53) ?_
              refine j_seq ?_
              refine j_region ?_
              refine r_q (q_eql rfl rfl rfl) rfl rfl ?_
              refine r_q (q_assign rfl rfl) rfl rfl ?_
              refine r_nil ?_
              refine j_then ?_
              rcases of_if h with ⟨c56, h⟩ | ⟨c56, h⟩
              · refine j_true rfl (beq_t c56) ?_
                refine j_seq ?_
                refine j_region ?_
                refine r_q (q_move rfl rfl) rfl rfl ?_
                refine r_q (q_neq rfl rfl rfl) rfl rfl ?_
                refine r_nil ?_
                refine j_then ?_
                rcases of_if h with ⟨c57, h⟩ | ⟨c57, h⟩
                · refine j_false rfl (bne_f c57) ?_
                  refine j_skip ?_
                  refine j_in ?_
                  refine j_in ?_
                  refine j_then ?_
                  refine j_region ?_
                  refine r_q (q_move rfl rfl) rfl rfl ?_
                  refine r_q (q_sub rfl rfl rfl) rfl rfl ?_
                  refine r_q (q_assign rfl rfl) rfl rfl ?_
                  refine r_nil ?_
                  refine j_then ?_
                  exact j_again m ((wrap64 (p3 - (1:Int))), v71, A5, n5, d5, l5, A6, n6, d6, l6, A7, n7, d7, l7, A8, n8, d8, l8) (Nat.lt_succ_self m) ⟨h, q5, q6, q7, q8⟩ (fun a he => he.sub ⟨rfl, rfl, rfl, rfl, trivial⟩) (fun w h => h)
                · refine j_true rfl (bne_t c57) ?_
                  refine j_region ?_
                  refine r_q (q_fieldAddr fi36_0 sz34 rfl rfl rfl) rfl rfl ?_
                  refine r_q (q_fieldAddr fi34_1 sz22 rfl rfl rfl) rfl rfl ?_
                  refine r_q (q_loadb 2 rfl ag22 rfl rfl rfl) rfl rfl ?_
                  refine r_q (q_move rfl rfl) rfl rfl ?_
                  refine r_q (q_move rfl rfl) rfl rfl ?_
                  obtain ⟨c58, h⟩ := of_guard h
                  refine r_q (q_ix (Rd.row 4 rfl) (ints_len1 _ l6) (by decide) q6 c58 un22 sz3 rfl rfl rfl) rfl rfl ?_
                  refine r_do (a_stI 4 rfl c58 sz3 rfl rfl rfl) rfl rfl (fun _ => ?_)
                  refine j_s4 ?_
                  refine r_nil ?_
                  refine j_in ?_
                  refine j_in ?_
                  refine j_then ?_
                  refine j_region ?_
                  refine r_q (q_move rfl rfl) rfl rfl ?_
                  refine r_q (q_sub rfl rfl rfl) rfl rfl ?_
                  refine r_q (q_assign rfl rfl) rfl rfl ?_
                  refine r_nil ?_
                  refine j_then ?_
                  exact j_again m ((wrap64 (p3 - (1:Int))), v71, A5, n5, d5, l5, A6, n6, d6, (l6.set (rd l7 v66).toNat (rd l7 v68)), A7, n7, d7, l7, A8, n8, d8, l8) (Nat.lt_succ_self m) ⟨h, q5, (set_len q6 _ _), q7, q8⟩ (fun a he => he.sub ⟨rfl, rfl, rfl, rfl, trivial⟩) (fun w h => h)
              · refine j_false rfl (beq_f c56) ?_
                refine j_seq ?_
                refine j_region ?_
                refine r_q (q_move rfl rfl) rfl rfl ?_
                refine r_q (q_neq rfl rfl rfl) rfl rfl ?_
                refine r_nil ?_
                refine j_then ?_
                rcases of_if h with ⟨c59, h⟩ | ⟨c59, h⟩
                · refine j_false rfl (bne_f c59) ?_
                  refine j_skip ?_
                  refine j_in ?_
                  refine j_in ?_
                  refine j_then ?_
                  refine j_region ?_
                  refine r_q (q_move rfl rfl) rfl rfl ?_
                  refine r_q (q_sub rfl rfl rfl) rfl rfl ?_
                  refine r_q (q_assign rfl rfl) rfl rfl ?_
                  refine r_nil ?_
                  refine j_then ?_
                  exact j_again m ((wrap64 (p3 - (1:Int))), v71, A5, n5, d5, l5, A6, n6, d6, l6, A7, n7, d7, l7, A8, n8, d8, l8) (Nat.lt_succ_self m) ⟨h, q5, q6, q7, q8⟩ (fun a he => he.sub ⟨rfl, rfl, rfl, rfl, trivial⟩) (fun w h => h)
                · refine j_true rfl (bne_t c59) ?_
                  obtain ⟨c60, h⟩ := of_guard h
                  refine j_draw (.box a0_g 92 [(.slice a0_0_A a0_0_n a0_0_c), (i6 v71)] :: .box x1 36 [(.slice none 0 0), (.slice none 0 0), (.slice none 0 0), (.slice none 0 0)] :: .box x7 36 [(.slice A5 n5 d5), (.slice A6 n6 d6), (.slice A7 n7 d7), (.slice A8 n8 d8)] :: .row A5 d5 3 1 (ii l5) :: .row A6 d6 3 1 (ii l6) :: .row A8 d8 3 1 (ii l8) :: F) 12 follows_any rfl ?_
                  refine d_take 0 rfl (q_fieldAddr fi36_0 sz34 rfl rfl rfl) rfl rfl (by kernel_rfl) (by kernel_rfl) (by kernel_rfl) (fun w h => h.pick 7 [0, 1, 2, 3, 4, 6] rfl) ?_
                  refine d_take 1 rfl (q_fieldAddr fi34_2 sz22 rfl rfl rfl) rfl rfl (by kernel_rfl) (by kernel_rfl) (by kernel_rfl) (fun w h => h.pick 7 [0, 1, 2, 3, 4, 6] rfl) ?_
                  refine d_take 2 rfl (q_loadb 2 rfl ag22 rfl rfl rfl) rfl rfl (by kernel_rfl) (by kernel_rfl) (by kernel_rfl) (fun w h => h.pick 7 [0, 1, 2, 3, 4, 6] rfl) ?_
                  refine d_take 3 rfl (q_move rfl rfl) rfl rfl (by kernel_rfl) (by kernel_rfl) (by kernel_rfl) (fun w h => h.pick 7 [0, 1, 2, 3, 4, 6] rfl) ?_
                  refine d_take 4 rfl (q_fieldAddr fi36_0 sz34 rfl rfl rfl) rfl rfl (by kernel_rfl) (by kernel_rfl) (by kernel_rfl) (fun w h => h.pick 7 [0, 1, 2, 3, 4, 6] rfl) ?_
                  refine d_take 5 rfl (q_fieldAddr fi34_0 sz22 rfl rfl rfl) rfl rfl (by kernel_rfl) (by kernel_rfl) (by kernel_rfl) (fun w h => h.pick 7 [0, 1, 2, 3, 4, 6] rfl) ?_
                  refine d_take 6 rfl (q_loadb 2 rfl ag22 rfl rfl rfl) rfl rfl (by kernel_rfl) (by kernel_rfl) (by kernel_rfl) (fun w h => h.pick 7 [0, 1, 2, 3, 4, 6] rfl) ?_
                  refine d_take 7 rfl (q_move rfl rfl) rfl rfl (by kernel_rfl) (by kernel_rfl) (by kernel_rfl) (fun w h => h.pick 7 [0, 1, 2, 3, 4, 6] rfl) ?_
                  refine d_take 8 rfl (q_ix (Rd.row 3 rfl) (ints_len1 _ l5) (by decide) q5 c60 un22 sz3 rfl rfl rfl) rfl rfl (by kernel_rfl) (by kernel_rfl) (by kernel_rfl) (fun w h => h.pick 7 [0, 1, 2, 3, 4, 6] rfl) ?_
                  refine d_take 9 rfl (q_ldI (Rd.row 3 rfl) c60 ag3 rfl rfl) rfl rfl (by kernel_rfl) (by kernel_rfl) (by kernel_rfl) (fun w h => h.pick 7 [0, 1, 2, 3, 4, 6] rfl) ?_
                  refine d_one 10 (by kernel_rfl) ?_
                  refine o_do rfl ((q_ix (Rd.row 5 rfl) (ints_len1 _ l7) (by decide) q7 c47 un22 sz3 rfl rfl rfl)).acts rfl rfl (fun _ w h => h.pick 7 [0, 1, 2, 3, 4, 6] rfl) (fun _ => ?_)
                  refine d_one 11 (by kernel_rfl) ?_
                  refine o_do rfl (a_stI 5 rfl c47 sz3 rfl rfl rfl) rfl rfl (fun _ w h => h.pick 7 [0, 1, 2, 3, 4, 6] rfl) (fun _ => ?_)
                  refine j_s5 ?_
                  refine d_done (by kernel_rfl) ?_
                  refine j_in ?_
                  refine j_in ?_
                  refine j_then ?_
                  refine j_region ?_
                  refine r_q (q_move rfl rfl) rfl rfl ?_
                  refine r_q (q_sub rfl rfl rfl) rfl rfl ?_
                  refine r_q (q_assign rfl rfl) rfl rfl ?_
                  refine r_nil ?_
                  refine j_then ?_
                  exact j_again m ((wrap64 (p3 - (1:Int))), v71, A5, n5, d5, l5, A6, n6, d6, l6, A7, n7, d7, (l7.set v66.toNat (rd l5 (rd l7 v68))), A8, n8, d8, l8) (Nat.lt_succ_self m) ⟨h, q5, q6, (set_len q7 _ _), q8⟩ (fun a he => he.sub ⟨rfl, rfl, rfl, rfl, trivial⟩) (fun w h => h)
      · refine j_false rfl (decide_eq_false c46) ?_
        refine j_exit ?_
        refine j_then_exit ?_
        refine j_then_exit ?_
        refine j_in_exit ?_
        refine j_then ?_
        exact j_meet (A5, n5, d5, l5, A6, n6, d6, l6, A7, n7, d7, l7, A8, n8, d8, l8, p4) ⟨h, q5, q6, q7, q8⟩ (fun a he => he.sub ⟨rfl, rfl, trivial⟩) (fun w h => h.pick 7 [1, 2, 0, 3, 4, 5, 6] rfl)
  · rintro ⟨A9, n9, d9, l9, A10, n10, d10, l10, A11, n11, d11, l11, A12, n12, d12, l12, p5⟩ ⟨h, q9, q10, q11, q12⟩
    subst hκ0
    show J _ _ [(2, (pt x1)), (3, (pt x7))] _ (.box x1 36 [(.slice none 0 0), (.slice none 0 0), (.slice none 0 0), (.slice none 0 0)] :: .box x7 36 [(.slice A9 n9 d9), (.slice A10 n10 d10), (.slice A11 n11 d11), (.slice A12 n12 d12)] :: .box a0_g 92 [(.slice a0_0_A a0_0_n a0_0_c), (i6 p5)] :: .row A9 d9 3 1 (ii l9) :: .row A10 d10 3 1 (ii l10) :: .row A11 d11 3 1 (ii l11) :: .row A12 d12 3 1 (ii l12) :: F)
    refine j_then ?_
    refine j_seq ?_
    refine j_region ?_
    refine r_q (q_loadb_agg 1 rfl ag36 sz36 rfl rfl rfl rfl) rfl rfl ?_
    refine r_do (a_storeb 0 rfl sz36 rfl rfl rfl rfl (Nat.le_of_ble_eq_true rfl) rfl) rfl rfl (fun _ => ?_)
    refine j_b0 [(.slice A9 n9 d9), (.slice A10 n10 d10), (.slice A11 n11 d11), (.slice A12 n12 d12)] rfl ?_
    refine r_nil ?_
    refine j_then ?_
    refine j_ret ?_
    cases h
    exact j_return rfl (ResOf.cell 0 rfl rfl ag36 sz36 ResOf.nil) rfl (fun w h => ⟨(⟨A9, n9, d9, q9⟩, ⟨A10, n10, d10, q10⟩, ⟨A11, n11, d11, q11⟩, ⟨A12, n12, d12, q12⟩), rfl, h.pick 7 [3, 4, 5, 6, 2] rfl⟩)

theorem spec_NewGc.calls (K : Nat) (a0_0 : List Int) (a0_0_A : Option Addr) (a0_0_n a0_0_c : Nat) (a0_1 : List Int) (a0_1_A : Option Addr) (a0_1_n a0_1_c : Nat) (a0_2 : List Int) (a0_2_A : Option Addr) (a0_2_n a0_2_c : Nat) (a0_3 : List Int) (a0_3_A : Option Addr) (a0_3_n a0_3_c : Nat) {w0 w : World} {F : List Res} {r1 : Int} {r2 : List Int} {r3 : Int} {r4 : Bool} (hm : Mem w0 (F) w) (a0_0_h : a0_0.length = a0_0_n) (a0_0_R : Rd w0 F a0_0_A (ii a0_0)) (a0_1_h : a0_1.length = a0_1_n) (a0_1_R : Rd w0 F a0_1_A (ii a0_1)) (a0_2_h : a0_2.length = a0_2_n) (a0_2_R : Rd w0 F a0_2_A (ii a0_2)) (a0_3_h : a0_3.length = a0_3_n) (a0_3_R : Rd w0 F a0_3_A (ii a0_3)) (a0_3_k : a0_3.length ≤ a0_3_c) (h : spec_NewGc.f K a0_0 a0_1 a0_2 a0_3 = some (r1, r2, r3, r4)) :
    Calls Try.prog 50 (List.toArray [.agg (List.toArray [.slice a0_0_A a0_0_n a0_0_c, .slice a0_1_A a0_1_n a0_1_c, .slice a0_2_A a0_2_n a0_2_c, .slice a0_3_A a0_3_n a0_3_c])]) w fun e w' => ∃ x : (Sl r2.length), e = .returned (.tuple (List.toArray [.agg (List.toArray [i6 r1, .slice x.A x.n x.c, i6 r3]), .bool r4])) ∧ Mem w0 (.row x.A x.c 3 1 (ii r2) :: F) w' := by
  unfold spec_NewGc.f at h
  refine calls_of_J (n := 14) Try.func50 rfl rfl rfl hm ?_
  refine j_seq ?_
  refine j_region ?_
  refine r_do (a_box rfl rfl) rfl rfl (fun x1 => ?_)
  refine r_do (a_alloc zr37 rfl) rfl rfl (fun x2 => ?_)
  refine r_q (q_assign rfl rfl) rfl rfl ?_
  refine r_nil ?_
  refine j_then ?_
  refine j_seq ?_
  refine j_seq ?_
  refine j_region ?_
  refine r_q (q_loadb_agg 1 rfl ag36 sz36 rfl rfl rfl rfl) rfl rfl ?_
  obtain ⟨v1, hb1, h⟩ := of_b1 h
  refine r_do (a_call ok79 rfl rfl rfl rfl (fun w hm => spec_StoreValid.calls K a0_0 a0_0_A a0_0_n a0_0_c a0_1 a0_1_A a0_1_n a0_1_c a0_2 a0_2_A a0_2_n a0_2_c a0_3 a0_3_A a0_3_n a0_3_c hm a0_0_h (Rd.drop 2 a0_0_R) a0_1_h (Rd.drop 2 a0_1_R) a0_2_h (Rd.drop 2 a0_2_R) a0_3_h (Rd.drop 2 a0_3_R) a0_3_k hb1)) rfl rfl (fun x3 => ?_)
  refine r_q (q_not rfl rfl) rfl rfl ?_
  refine r_nil ?_
  refine j_then ?_
  rcases of_if h with ⟨c1, h⟩ | ⟨c1, h⟩
  · refine j_false rfl (not_f c1) ?_
    refine j_skip ?_
    refine j_then ?_
    refine j_seq ?_
    refine j_region ?_
    refine r_q (q_fieldAddr fi36_0 sz34 rfl rfl rfl) rfl rfl ?_
    refine r_q (q_fieldAddr fi34_0 sz22 rfl rfl rfl) rfl rfl ?_
    refine r_q (q_loadb 1 rfl ag22 rfl rfl rfl) rfl rfl ?_
    refine r_q (q_lenX a0_0 a0_0_h un22 rfl rfl rfl rfl rfl) rfl rfl ?_
    obtain ⟨c2, h⟩ := of_guard h
    refine r_do (a_mkI un22 sz3 by3 zr3 rfl c2 rfl rfl rfl) rfl rfl (fun x4 => ?_)
    refine r_q (q_build (cs := [(i6 (0:Int)), (.slice x4 ((a0_0.length : Int).toNat) ((a0_0.length : Int).toNat)), (i6 (0:Int))]) zr37 pl37 rfl rfl rfl rfl) rfl rfl ?_
    refine r_do (a_storeb 1 rfl sz37 rfl rfl rfl rfl (Nat.le_of_ble_eq_true rfl) rfl) rfl rfl (fun _ => ?_)
    refine j_b1 [(i6 (0:Int)), (.slice x4 ((a0_0.length : Int).toNat) ((a0_0.length : Int).toNat)), (i6 (0:Int))] rfl ?_
    refine r_q (q_assign rfl rfl) rfl rfl ?_
    refine r_nil ?_
    refine j_then ?_
    refine j_ret ?_
    cases h
    exact j_return rfl (ResOf.cell 1 rfl rfl ag37 sz37 (ResOf.tmp rfl ResOf.nil)) rfl (fun w h => ⟨⟨x4, ((a0_0.length : Int).toNat), ((a0_0.length : Int).toNat), List.length_replicate⟩, rfl, h.pick 3 [0] rfl⟩)
  · refine j_true rfl (not_t (var_f c1)) ?_
    refine j_seq ?_
    refine j_region ?_
    refine r_q (q_build (cs := [(i6 (0:Int)), (.slice none 0 0), (i6 (0:Int))]) zr37 pl37 rfl rfl rfl rfl) rfl rfl ?_
    refine r_do (a_storeb 0 rfl sz37 rfl rfl rfl rfl (Nat.le_of_ble_eq_true rfl) rfl) rfl rfl (fun _ => ?_)
    refine j_b0 [(i6 (0:Int)), (.slice none 0 0), (i6 (0:Int))] rfl ?_
    refine r_q (q_assign rfl rfl) rfl rfl ?_
    refine r_nil ?_
    refine j_then ?_
    refine j_ret ?_
    refine j_then_ret ?_
    refine j_nil 3 1 ?_
    cases h
    exact j_return rfl (ResOf.cell 1 rfl rfl ag37 sz37 (ResOf.tmp rfl ResOf.nil)) rfl (fun w h => ⟨⟨none, 0, 0, rfl⟩, rfl, h.pick 3 [0] rfl⟩)

end Go.Proofs.Ytpfkcjddilpbkaa.F
