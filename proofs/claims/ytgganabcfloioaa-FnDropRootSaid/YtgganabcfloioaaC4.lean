/- The program computes these pure functions, printed by the generator of wip/gen. -/
import Derived.Test.YtgganabcfloioaaFa
import Derived.Test.YtgganabcfloioaaFb
import Derived.Test.YtgganabcfloioaaC2
namespace Go.Proofs.Ytgganabcfloioaa.F
open Go Go.RowKit Go.Proofs.Ytgganabcfloioaa.S
set_option linter.unusedVariables false
set_option maxRecDepth 100000
theorem spec_l13Open.calls (K : Nat) (a0 : List Int) (a0_A : Option Addr) (a0_n a0_c : Nat) {w0 w : World} {F : List Res} (hm : Mem w0 (F) w) (a0_h : a0.length = a0_n) (a0_R : Rd w0 F a0_A (ints .u8 a0)) (a0_k : a0.length ≤ a0_c) (h : spec_l13Open.f K a0 = some ()) :
    Calls Try.prog 57 (List.toArray [.slice a0_A a0_n a0_c]) w fun e w' => ∃ x : Nat, e = .returned (pt x) ∧ Mem w0 (.box x 84 [.slice a0_A (a0.take 2000).length a0_c, i6 (0:Int)] :: F) w' := by
  unfold spec_l13Open.f at h
  refine calls_of_J (n := 11) Try.func57 rfl rfl rfl hm ?_
  refine j_seq ?_
  refine j_region ?_
  refine r_q (q_assign rfl rfl) rfl rfl ?_
  refine r_nil ?_
  refine j_then ?_
  refine j_seq ?_
  refine j_seq ?_
  refine j_region ?_
  refine r_q (q_move rfl rfl) rfl rfl ?_
  refine r_q (q_lenX a0 a0_h un22 rfl rfl rfl rfl rfl) rfl rfl ?_
  refine r_q (q_gtr rfl rfl rfl) rfl rfl ?_
  refine r_nil ?_
  refine j_then ?_
  rcases of_if h with ⟨c1, h⟩ | ⟨c1, h⟩
  · refine j_true rfl (decide_eq_true c1) ?_
    refine j_region ?_
    refine r_q (q_move rfl rfl) rfl rfl ?_
    obtain ⟨c2, h⟩ := of_guard h
    refine j_fact (fun w hm => a0_k) (fun k2 => ?_)
    refine r_q (q_hi a0 a0_h k2 c2 un22 sz5 rfl rfl rfl) rfl rfl ?_
    refine r_q (q_assign rfl rfl) rfl rfl ?_
    refine r_nil ?_
    refine j_then ?_
    refine j_seq ?_
    refine j_region ?_
    refine r_q (q_move rfl rfl) rfl rfl ?_
    refine r_q (q_build (cs := [(.slice a0_A (a0.take (2000:Int).toNat).length a0_c), (i6 (0:Int))]) zr84 pl84 rfl rfl rfl rfl) rfl rfl ?_
    refine r_do (a_box rfl rfl) rfl rfl (fun x1 => ?_)
    refine r_q (q_assign rfl rfl) rfl rfl ?_
    refine r_nil ?_
    refine j_then ?_
    refine j_ret ?_
    refine j_rs (.box x1 84 [.slice a0_A (a0.take 2000).length a0_c, i6 (0:Int)] :: F) (fun _ h => h) ?_
    cases h
    exact j_return rfl (ResOf.tmp rfl ResOf.nil) rfl (fun w h => ⟨x1, rfl, h⟩)
  · refine j_false rfl (decide_eq_false c1) ?_
    refine j_skip ?_
    refine j_then ?_
    refine j_seq ?_
    refine j_region ?_
    refine r_q (q_move rfl rfl) rfl rfl ?_
    refine r_q (q_build (cs := [(.slice a0_A a0_n a0_c), (i6 (0:Int))]) zr84 pl84 rfl rfl rfl rfl) rfl rfl ?_
    refine r_do (a_box rfl rfl) rfl rfl (fun x1 => ?_)
    refine r_q (q_assign rfl rfl) rfl rfl ?_
    refine r_nil ?_
    refine j_then ?_
    refine j_ret ?_
    refine j_rs (.box x1 84 [.slice a0_A (a0.take 2000).length a0_c, i6 (0:Int)] :: F) (fun _ h => by rw [take_all (k := 2000) a0_h c1]; exact h) ?_
    cases h
    exact j_return rfl (ResOf.tmp rfl ResOf.nil) rfl (fun w h => ⟨x1, rfl, h⟩)

theorem spec_l13Rd_pick.calls (K : Nat) (a0_g : Nat) (a0_0 : List Int) (a0_0_A : Option Addr) (a0_0_n a0_0_c : Nat) (a0_1 : Int) (a1 : Int) {w0 w : World} {F : List Res} {r1 : Int} {r2 : Int} (hm : Mem w0 (.box a0_g 84 [.slice a0_0_A a0_0_n a0_0_c, i6 a0_1] :: F) w) (a0_0_h : a0_0.length = a0_0_n) (a0_0_R : Rd w0 F a0_0_A (ints .u8 a0_0)) (h : spec_l13Rd_pick.f K a0_0 a0_1 a1 = some (r1, r2)) :
    Calls Try.prog 82 (List.toArray [pt a0_g, i6 a1]) w fun e w' => ∃ x : Unit, e = .returned (i6 r1) ∧ Mem w0 (.box a0_g 84 [.slice a0_0_A a0_0_n a0_0_c, i6 r2] :: F) w' := by
  unfold spec_l13Rd_pick.f at h
  refine calls_of_J (n := 99) Try.func82 rfl rfl rfl hm ?_
  refine j_seq ?_
  refine j_region ?_
  refine r_q (q_assign rfl rfl) rfl rfl ?_
  refine r_nil ?_
  refine j_then ?_
  refine j_seq ?_
  refine j_region ?_
  refine r_q (q_move rfl rfl) rfl rfl ?_
  refine r_q (q_move rfl rfl) rfl rfl ?_
  refine r_q (q_nilCheck rfl rfl) rfl rfl ?_
  refine r_q (q_fieldAddr fi84_1 sz3 rfl rfl rfl) rfl rfl ?_
  refine r_q (q_loadb 0 rfl ag3 rfl rfl rfl) rfl rfl ?_
  refine r_q (q_add rfl rfl rfl) rfl rfl ?_
  refine r_q (q_nilCheck rfl rfl) rfl rfl ?_
  refine r_q (q_fieldAddr fi84_1 sz3 rfl rfl rfl) rfl rfl ?_
  refine r_do (a_storeb 0 rfl sz3 rfl rfl rfl rfl (Nat.le_of_ble_eq_true rfl) rfl) rfl rfl (fun _ => ?_)
  refine j_b0 [(.slice a0_0_A a0_0_n a0_0_c), (i6 (wrap64 (a0_1 + (1:Int))))] rfl ?_
  refine r_nil ?_
  refine j_then ?_
  refine j_seq ?_
  refine j_seq ?_
  refine j_region ?_
  refine r_q (q_move rfl rfl) rfl rfl ?_
  refine r_q (q_lss rfl rfl rfl) rfl rfl ?_
  refine r_q (q_move rfl rfl) rfl rfl ?_
  rcases of_if h with ⟨c1, h⟩ | ⟨c1, h⟩
  · refine r_off rfl rfl rfl rfl (decide_eq_true c1) rfl ?_
    refine r_off rfl rfl rfl rfl (decide_eq_true c1) rfl ?_
    refine r_off rfl rfl rfl rfl (decide_eq_true c1) rfl ?_
    refine r_off rfl rfl rfl rfl (decide_eq_true c1) rfl ?_
    refine r_off rfl rfl rfl rfl (decide_eq_true c1) rfl ?_
    refine r_off rfl rfl rfl rfl (decide_eq_true c1) rfl ?_
    refine r_q (q_pick_t rfl rfl (decide_eq_true c1) rfl) rfl rfl ?_
    refine r_nil ?_
    refine j_then ?_
    refine j_true rfl rfl ?_
    refine j_seq ?_
    refine j_region ?_
    refine r_q (q_assign rfl rfl) rfl rfl ?_
    refine r_nil ?_
    refine j_then ?_
    refine j_ret ?_
    refine j_then_ret ?_
    cases h
    exact j_return rfl (ResOf.tmp rfl ResOf.nil) rfl (fun w h => ⟨(), rfl, h⟩)
  · refine r_qon (q_move rfl rfl) rfl rfl rfl rfl (decide_eq_false c1) rfl ?_
    refine r_qon (q_nilCheck rfl rfl) rfl rfl rfl rfl (decide_eq_false c1) rfl ?_
    refine r_qon (q_fieldAddr fi84_0 sz22 rfl rfl rfl) rfl rfl rfl rfl (decide_eq_false c1) rfl ?_
    refine r_qon (q_loadb 0 rfl ag22 rfl rfl rfl) rfl rfl rfl rfl (decide_eq_false c1) rfl ?_
    refine r_qon (q_lenX a0_0 a0_0_h un22 rfl rfl rfl rfl rfl) rfl rfl rfl rfl (decide_eq_false c1) rfl ?_
    refine r_qon (q_eql rfl rfl rfl) rfl rfl rfl rfl (decide_eq_false c1) rfl ?_
    refine r_q (q_pick_f rfl rfl (decide_eq_false c1) rfl) rfl rfl ?_
    refine r_nil ?_
    refine j_then ?_
    rcases of_if h with ⟨c2, h⟩ | ⟨c2, h⟩
    · refine j_true rfl (beq_t c2) ?_
      refine j_seq ?_
      refine j_region ?_
      refine r_q (q_assign rfl rfl) rfl rfl ?_
      refine r_nil ?_
      refine j_then ?_
      refine j_ret ?_
      refine j_then_ret ?_
      cases h
      exact j_return rfl (ResOf.tmp rfl ResOf.nil) rfl (fun w h => ⟨(), rfl, h⟩)
    · refine j_false rfl (beq_f c2) ?_
      refine j_skip ?_
      refine j_then ?_
      refine j_seq ?_
      refine j_region ?_
      refine r_q (q_move rfl rfl) rfl rfl ?_
      refine r_q (q_nilCheck rfl rfl) rfl rfl ?_
      refine r_q (q_fieldAddr fi84_1 sz3 rfl rfl rfl) rfl rfl ?_
      refine r_q (q_loadb 0 rfl ag3 rfl rfl rfl) rfl rfl ?_
      refine r_q (q_sub rfl rfl rfl) rfl rfl ?_
      refine r_q (q_assign rfl rfl) rfl rfl ?_
      refine r_nil ?_
      refine j_then ?_
      refine j_seq ?_
      refine j_seq ?_
      refine j_region ?_
      refine r_q (q_move rfl rfl) rfl rfl ?_
      refine r_q (q_move rfl rfl) rfl rfl ?_
      refine r_q (q_nilCheck rfl rfl) rfl rfl ?_
      refine r_q (q_fieldAddr fi84_0 sz22 rfl rfl rfl) rfl rfl ?_
      refine r_q (q_loadb 0 rfl ag22 rfl rfl rfl) rfl rfl ?_
      refine r_q (q_lenX a0_0 a0_0_h un22 rfl rfl rfl rfl rfl) rfl rfl ?_
      refine r_q (q_lss rfl rfl rfl) rfl rfl ?_
      refine r_nil ?_
      refine j_then ?_
      rcases of_if h with ⟨c3, h⟩ | ⟨c3, h⟩
      · refine j_true rfl (decide_eq_true c3) ?_
        refine j_seq ?_
        refine j_region ?_
        refine r_q (q_move rfl rfl) rfl rfl ?_
        refine r_q (q_nilCheck rfl rfl) rfl rfl ?_
        refine r_q (q_fieldAddr fi84_0 sz22 rfl rfl rfl) rfl rfl ?_
        refine r_q (q_loadb 0 rfl ag22 rfl rfl rfl) rfl rfl ?_
        refine r_q (q_move rfl rfl) rfl rfl ?_
        obtain ⟨c4, h⟩ := of_guard h
        refine r_q (q_ix (Rd.drop 1 a0_0_R) (ints_len1 _ a0_0) (by decide) a0_0_h c4 un22 sz5 rfl rfl rfl) rfl rfl ?_
        refine r_q (q_ldI (Rd.drop 1 a0_0_R) c4 ag5 rfl rfl) rfl rfl ?_
        refine r_q (q_int un5 un3 rfl rfl) rfl rfl ?_
        refine r_q (q_move rfl rfl) rfl rfl ?_
        obtain ⟨c5, h⟩ := of_guard h
        refine r_q (q_rem rfl rfl rfl c5) rfl rfl ?_
        refine r_q (q_assign rfl rfl) rfl rfl ?_
        refine r_nil ?_
        refine j_then ?_
        refine j_ret ?_
        refine j_then_ret ?_
        cases h
        exact j_return rfl (ResOf.tmp rfl ResOf.nil) rfl (fun w h => ⟨(), rfl, h⟩)
      · refine j_false rfl (decide_eq_false c3) ?_
        refine j_skip ?_
        refine j_then ?_
        refine j_seq ?_
        obtain ⟨c6, h⟩ := of_guard h
        obtain ⟨c7, h⟩ := of_guard h
        obtain ⟨c8, h⟩ := of_guard h
        refine j_draw (.box a0_g 84 [(.slice a0_0_A a0_0_n a0_0_c), (i6 (wrap64 (a0_1 + (1:Int))))] :: F) 46 follows_any rfl ?_
        refine d_take 0 rfl (q_move rfl rfl) rfl rfl (by kernel_rfl) (by kernel_rfl) (by kernel_rfl) (fun w h => h) ?_
        refine d_take 1 rfl (q_nilCheck rfl rfl) rfl rfl (by kernel_rfl) (by kernel_rfl) (by kernel_rfl) (fun w h => h) ?_
        refine d_take 2 rfl (q_fieldAddr fi84_0 sz22 rfl rfl rfl) rfl rfl (by kernel_rfl) (by kernel_rfl) (by kernel_rfl) (fun w h => h) ?_
        refine d_take 3 rfl (q_loadb 0 rfl ag22 rfl rfl rfl) rfl rfl (by kernel_rfl) (by kernel_rfl) (by kernel_rfl) (fun w h => h) ?_
        refine d_take 4 rfl (q_move rfl rfl) rfl rfl (by kernel_rfl) (by kernel_rfl) (by kernel_rfl) (fun w h => h) ?_
        refine d_take 5 rfl (q_move rfl rfl) rfl rfl (by kernel_rfl) (by kernel_rfl) (by kernel_rfl) (fun w h => h) ?_
        refine d_take 6 rfl (q_nilCheck rfl rfl) rfl rfl (by kernel_rfl) (by kernel_rfl) (by kernel_rfl) (fun w h => h) ?_
        refine d_take 7 rfl (q_fieldAddr fi84_0 sz22 rfl rfl rfl) rfl rfl (by kernel_rfl) (by kernel_rfl) (by kernel_rfl) (fun w h => h) ?_
        refine d_take 8 rfl (q_loadb 0 rfl ag22 rfl rfl rfl) rfl rfl (by kernel_rfl) (by kernel_rfl) (by kernel_rfl) (fun w h => h) ?_
        refine d_take 9 rfl (q_lenX a0_0 a0_0_h un22 rfl rfl rfl rfl rfl) rfl rfl (by kernel_rfl) (by kernel_rfl) (by kernel_rfl) (fun w h => h) ?_
        refine d_take 10 rfl (q_rem rfl rfl rfl c6) rfl rfl (by kernel_rfl) (by kernel_rfl) (by kernel_rfl) (fun w h => h) ?_
        refine d_take 11 rfl (q_ix (Rd.drop 1 a0_0_R) (ints_len1 _ a0_0) (by decide) a0_0_h c7 un22 sz5 rfl rfl rfl) rfl rfl (by kernel_rfl) (by kernel_rfl) (by kernel_rfl) (fun w h => h) ?_
        refine d_take 12 rfl (q_ldI (Rd.drop 1 a0_0_R) c7 ag5 rfl rfl) rfl rfl (by kernel_rfl) (by kernel_rfl) (by kernel_rfl) (fun w h => h) ?_
        refine d_take 13 rfl (q_int un5 un3 rfl rfl) rfl rfl (by kernel_rfl) (by kernel_rfl) (by kernel_rfl) (fun w h => h) ?_
        refine d_take 14 rfl (q_mul rfl rfl rfl) rfl rfl (by kernel_rfl) (by kernel_rfl) (by kernel_rfl) (fun w h => h) ?_
        refine d_take 15 rfl (q_move rfl rfl) rfl rfl (by kernel_rfl) (by kernel_rfl) (by kernel_rfl) (fun w h => h) ?_
        refine d_take 16 rfl (q_nilCheck rfl rfl) rfl rfl (by kernel_rfl) (by kernel_rfl) (by kernel_rfl) (fun w h => h) ?_
        refine d_take 17 rfl (q_fieldAddr fi84_0 sz22 rfl rfl rfl) rfl rfl (by kernel_rfl) (by kernel_rfl) (by kernel_rfl) (fun w h => h) ?_
        refine d_take 18 rfl (q_loadb 0 rfl ag22 rfl rfl rfl) rfl rfl (by kernel_rfl) (by kernel_rfl) (by kernel_rfl) (fun w h => h) ?_
        refine d_take 19 rfl (q_move rfl rfl) rfl rfl (by kernel_rfl) (by kernel_rfl) (by kernel_rfl) (fun w h => h) ?_
        refine d_take 20 rfl (q_mul rfl rfl rfl) rfl rfl (by kernel_rfl) (by kernel_rfl) (by kernel_rfl) (fun w h => h) ?_
        refine d_take 21 rfl (q_add rfl rfl rfl) rfl rfl (by kernel_rfl) (by kernel_rfl) (by kernel_rfl) (fun w h => h) ?_
        refine d_take 22 rfl (q_move rfl rfl) rfl rfl (by kernel_rfl) (by kernel_rfl) (by kernel_rfl) (fun w h => h) ?_
        refine d_take 23 rfl (q_nilCheck rfl rfl) rfl rfl (by kernel_rfl) (by kernel_rfl) (by kernel_rfl) (fun w h => h) ?_
        refine d_take 24 rfl (q_fieldAddr fi84_0 sz22 rfl rfl rfl) rfl rfl (by kernel_rfl) (by kernel_rfl) (by kernel_rfl) (fun w h => h) ?_
        refine d_take 25 rfl (q_loadb 0 rfl ag22 rfl rfl rfl) rfl rfl (by kernel_rfl) (by kernel_rfl) (by kernel_rfl) (fun w h => h) ?_
        refine d_take 26 rfl (q_lenX a0_0 a0_0_h un22 rfl rfl rfl rfl rfl) rfl rfl (by kernel_rfl) (by kernel_rfl) (by kernel_rfl) (fun w h => h) ?_
        refine d_take 27 rfl (q_rem rfl rfl rfl c6) rfl rfl (by kernel_rfl) (by kernel_rfl) (by kernel_rfl) (fun w h => h) ?_
        refine d_take 28 rfl (q_ix (Rd.drop 1 a0_0_R) (ints_len1 _ a0_0) (by decide) a0_0_h c8 un22 sz5 rfl rfl rfl) rfl rfl (by kernel_rfl) (by kernel_rfl) (by kernel_rfl) (fun w h => h) ?_
        refine d_take 29 rfl (q_ldI (Rd.drop 1 a0_0_R) c8 ag5 rfl rfl) rfl rfl (by kernel_rfl) (by kernel_rfl) (by kernel_rfl) (fun w h => h) ?_
        refine d_take 30 rfl (q_int un5 un3 rfl rfl) rfl rfl (by kernel_rfl) (by kernel_rfl) (by kernel_rfl) (fun w h => h) ?_
        refine d_take 31 rfl (q_mul rfl rfl rfl) rfl rfl (by kernel_rfl) (by kernel_rfl) (by kernel_rfl) (fun w h => h) ?_
        refine d_take 32 rfl (q_add rfl rfl rfl) rfl rfl (by kernel_rfl) (by kernel_rfl) (by kernel_rfl) (fun w h => h) ?_
        refine d_take 33 rfl (q_move rfl rfl) rfl rfl (by kernel_rfl) (by kernel_rfl) (by kernel_rfl) (fun w h => h) ?_
        refine d_take 34 rfl (q_mul rfl rfl rfl) rfl rfl (by kernel_rfl) (by kernel_rfl) (by kernel_rfl) (fun w h => h) ?_
        refine d_take 35 rfl (q_add rfl rfl rfl) rfl rfl (by kernel_rfl) (by kernel_rfl) (by kernel_rfl) (fun w h => h) ?_
        refine d_take 36 rfl (q_move rfl rfl) rfl rfl (by kernel_rfl) (by kernel_rfl) (by kernel_rfl) (fun w h => h) ?_
        refine d_take 37 rfl (q_move rfl rfl) rfl rfl (by kernel_rfl) (by kernel_rfl) (by kernel_rfl) (fun w h => h) ?_
        refine d_take 38 rfl (q_nilCheck rfl rfl) rfl rfl (by kernel_rfl) (by kernel_rfl) (by kernel_rfl) (fun w h => h) ?_
        refine d_take 39 rfl (q_fieldAddr fi84_0 sz22 rfl rfl rfl) rfl rfl (by kernel_rfl) (by kernel_rfl) (by kernel_rfl) (fun w h => h) ?_
        refine d_take 40 rfl (q_loadb 0 rfl ag22 rfl rfl rfl) rfl rfl (by kernel_rfl) (by kernel_rfl) (by kernel_rfl) (fun w h => h) ?_
        refine d_take 41 rfl (q_lenX a0_0 a0_0_h un22 rfl rfl rfl rfl rfl) rfl rfl (by kernel_rfl) (by kernel_rfl) (by kernel_rfl) (fun w h => h) ?_
        refine d_take 42 rfl (q_quo rfl rfl rfl c6) rfl rfl (by kernel_rfl) (by kernel_rfl) (by kernel_rfl) (fun w h => h) ?_
        refine d_take 43 rfl (q_mul rfl rfl rfl) rfl rfl (by kernel_rfl) (by kernel_rfl) (by kernel_rfl) (fun w h => h) ?_
        refine d_take 44 rfl (q_add rfl rfl rfl) rfl rfl (by kernel_rfl) (by kernel_rfl) (by kernel_rfl) (fun w h => h) ?_
        refine d_take 45 rfl (q_assign rfl rfl) rfl rfl (by kernel_rfl) (by kernel_rfl) (by kernel_rfl) (fun w h => h) ?_
        refine d_done (by kernel_rfl) ?_
        refine j_then ?_
        refine j_seq ?_
        refine j_region ?_
        refine r_q (q_move rfl rfl) rfl rfl ?_
        refine r_q (q_move rfl rfl) rfl rfl ?_
        refine r_q (q_quo rfl rfl rfl (by decide)) rfl rfl ?_
        refine r_q (q_xor rfl rfl rfl) rfl rfl ?_
        refine r_q (q_assign rfl rfl) rfl rfl ?_
        refine r_nil ?_
        refine j_then ?_
        refine j_seq ?_
        refine j_region ?_
        refine r_q (q_move rfl rfl) rfl rfl ?_
        refine r_q (q_move rfl rfl) rfl rfl ?_
        obtain ⟨c9, h⟩ := of_guard h
        refine r_q (q_rem rfl rfl rfl c9) rfl rfl ?_
        refine r_q (q_assign rfl rfl) rfl rfl ?_
        refine r_nil ?_
        refine j_then ?_
        refine j_ret ?_
        cases h
        exact j_return rfl (ResOf.tmp rfl ResOf.nil) rfl (fun w h => ⟨(), rfl, h⟩)

theorem spec_l13Rd_num.calls (K : Nat) (a0_g : Nat) (a0_0 : List Int) (a0_0_A : Option Addr) (a0_0_n a0_0_c : Nat) (a0_1 : Int) (a1 : List Int) (a1_A : Option Addr) (a1_n a1_c : Nat) {w0 w : World} {F : List Res} {r1 : Int} {r2 : Int} (hm : Mem w0 (.box a0_g 84 [.slice a0_0_A a0_0_n a0_0_c, i6 a0_1] :: F) w) (a0_0_h : a0_0.length = a0_0_n) (a0_0_R : Rd w0 F a0_0_A (ints .u8 a0_0)) (a1_h : a1.length = a1_n) (a1_R : Rd w0 F a1_A (ii a1)) (h : spec_l13Rd_num.f K a0_0 a0_1 a1 = some (r1, r2)) :
    Calls Try.prog 80 (List.toArray [pt a0_g, .slice a1_A a1_n a1_c]) w fun e w' => ∃ x : Unit, e = .returned (i6 r1) ∧ Mem w0 (.box a0_g 84 [.slice a0_0_A a0_0_n a0_0_c, i6 r2] :: F) w' := by
  unfold spec_l13Rd_num.f at h
  refine calls_of_J (n := 12) Try.func80 rfl rfl rfl hm ?_
  refine j_seq ?_
  refine j_region ?_
  refine r_q (q_assign rfl rfl) rfl rfl ?_
  refine r_nil ?_
  refine j_then ?_
  refine j_seq ?_
  refine j_region ?_
  refine r_q (q_move rfl rfl) rfl rfl ?_
  refine r_q (q_move rfl rfl) rfl rfl ?_
  refine r_q (q_move rfl rfl) rfl rfl ?_
  refine r_q (q_lenX a1 a1_h un23 rfl rfl rfl rfl rfl) rfl rfl ?_
  obtain ⟨v1, v2, hb1, h⟩ := of_b2 h
  refine r_do (a_call ok82 rfl rfl rfl rfl (fun w hm => spec_l13Rd_pick.calls K a0_g a0_0 a0_0_A a0_0_n a0_0_c a0_1 (a1.length : Int) hm a0_0_h a0_0_R hb1)) rfl rfl (fun x1 => ?_)
  obtain ⟨c1, h⟩ := of_guard h
  refine r_q (q_ix (Rd.drop 1 a1_R) (ints_len1 _ a1) (by decide) a1_h c1 un23 sz3 rfl rfl rfl) rfl rfl ?_
  refine r_q (q_ldI (Rd.drop 1 a1_R) c1 ag3 rfl rfl) rfl rfl ?_
  refine r_q (q_assign rfl rfl) rfl rfl ?_
  refine r_nil ?_
  refine j_then ?_
  refine j_ret ?_
  cases h
  exact j_return rfl (ResOf.tmp rfl ResOf.nil) rfl (fun w h => ⟨(), rfl, h⟩)

theorem spec_l1Many.calls (K : Nat) (a0 : Int) {w0 w : World} {F : List Res} {r1 : List Int} (hm : Mem w0 (F) w)  (h : spec_l1Many.f K a0 = some r1) :
    Calls Try.prog 99 (List.toArray [i6 a0]) w fun e w' => ∃ x : (Sl r1.length), e = .returned (.slice x.A x.n x.c) ∧ Mem w0 (.row x.A x.c 3 1 (ii r1) :: F) w' := by
  unfold spec_l1Many.f at h
  refine calls_of_J (n := 15) Try.func99 rfl rfl rfl hm ?_
  refine j_seq ?_
  refine j_region ?_
  refine r_q (q_assign rfl rfl) rfl rfl ?_
  refine r_nil ?_
  refine j_then ?_
  refine j_seq ?_
  refine j_region ?_
  refine r_do (a_litX (vs := []) (ii ([] : List Int)) un23 sz3 zr3 rfl rfl rfl rfl rfl rfl rfl rfl rfl) rfl rfl (fun x1 => ?_)
  refine r_q (q_assign rfl rfl) rfl rfl ?_
  refine r_nil ?_
  refine j_then ?_
  refine j_seq ?_
  refine j_seq ?_
  refine j_region ?_
  refine r_q (q_assign rfl rfl) rfl rfl ?_
  refine r_nil ?_
  refine j_then ?_
  obtain ⟨κ0, h, hκ0⟩ := ex_k (g := fun κ => spec_l1Many.loop0 K κ a0 K ([] : List Int) (0:Int) = some r1) h
  refine j_cut (σ := (Option Addr) × Nat × Nat × (List Int)) (fun s => [(3, (.slice s.1 s.2.1 s.2.2.1))]) (fun s => .row s.1 s.2.2.1 3 1 (ii s.2.2.2) :: F) (fun s => κ0 s.2.2.2 = some r1 ∧ (s.2.2.2.length = s.2.1)) ?_ ?_
  · refine j_block ?_
    refine j_loop (σ := (Option Addr) × Nat × Nat × (List Int) × Int) (fun s => [(0, (i6 a0)), (3, (.slice s.1 s.2.1 s.2.2.1)), (4, (i6 s.2.2.2.2))]) (fun s => .row s.1 s.2.2.1 3 1 (ii s.2.2.2.1) :: F) (fun m s => spec_l1Many.loop0 K κ0 a0 m s.2.2.2.1 s.2.2.2.2 = some r1 ∧ (s.2.2.2.1.length = s.2.1)) K (x1, 0, 0, ([] : List Int), (0:Int)) ⟨h, rfl⟩ (fun a he => he.sub ⟨rfl, rfl, rfl, trivial⟩) (fun w h => h) ?_
    rintro m ⟨A2, n2, d2, l2, p2⟩ ⟨h, q2⟩
    cases m with
    | zero => exact absurd h (by rw [spec_l1Many.loop0]; exact nofun)
    | succ m =>
      rw [spec_l1Many.loop0] at h
      show J _ _ [(0, (i6 a0)), (3, (.slice A2 n2 d2)), (4, (i6 p2))] _ (.row A2 d2 3 1 (ii l2) :: F)
      refine j_seq ?_
      refine j_seq ?_
      refine j_region ?_
      refine r_q (q_move rfl rfl) rfl rfl ?_
      refine r_q (q_move rfl rfl) rfl rfl ?_
      refine r_q (q_lss rfl rfl rfl) rfl rfl ?_
      refine r_nil ?_
      refine j_then ?_
      rcases of_if h with ⟨c7, h⟩ | ⟨c7, h⟩
      · refine j_true rfl (decide_eq_true c7) ?_
        refine j_skip ?_
        refine j_then ?_
        refine j_seq ?_
        refine j_block ?_
        refine j_region ?_
        refine r_q (q_move rfl rfl) rfl rfl ?_
        refine r_do (a_litX (vs := [(i6 (-1:Int))]) (ii ([(-1:Int)] : List Int)) un23 sz3 zr3 rfl rfl rfl rfl rfl rfl rfl rfl rfl) rfl rfl (fun x2 => ?_)
        obtain ⟨c8, h⟩ := of_guard h
        refine r_do (a_appI (xs := l2) (ys := ([(-1:Int)] : List Int)) 1 un23 un23 sz3 by3 zr3 rfl rfl rfl rfl rfl rfl rfl rfl rfl q2 rfl (Rd.row 0 rfl) c8) rfl rfl (fun x3 => ?_)
        refine j_s1 ?_
        refine r_q (q_assign rfl rfl) rfl rfl ?_
        refine r_nil ?_
        refine j_in ?_
        refine j_then ?_
        refine j_region ?_
        refine r_q (q_move rfl rfl) rfl rfl ?_
        refine r_q (q_add rfl rfl rfl) rfl rfl ?_
        refine r_q (q_assign rfl rfl) rfl rfl ?_
        refine r_nil ?_
        refine j_then ?_
        exact j_again m (x3.1, (n2 + 1), x3.2, (l2 ++ ([(-1:Int)] : List Int)), (wrap64 (p2 + (1:Int)))) (Nat.lt_succ_self m) ⟨h, (app_len q2 rfl)⟩ (fun a he => he.sub ⟨rfl, rfl, rfl, trivial⟩) (fun w h => h.tail)
      · refine j_false rfl (decide_eq_false c7) ?_
        refine j_exit ?_
        refine j_then_exit ?_
        refine j_then_exit ?_
        refine j_in_exit ?_
        refine j_then ?_
        exact j_meet (A2, n2, d2, l2) ⟨h, q2⟩ (fun a he => he.sub ⟨rfl, trivial⟩) (fun w h => h)
  · rintro ⟨A3, n3, d3, l3⟩ ⟨h, q3⟩
    subst hκ0
    show J _ _ [(3, (.slice A3 n3 d3))] _ (.row A3 d3 3 1 (ii l3) :: F)
    refine j_then ?_
    refine j_seq ?_
    refine j_region ?_
    refine r_q (q_move rfl rfl) rfl rfl ?_
    refine r_q (q_assign rfl rfl) rfl rfl ?_
    refine r_nil ?_
    refine j_then ?_
    refine j_ret ?_
    cases h
    exact j_return rfl (ResOf.tmp rfl ResOf.nil) rfl (fun w h => ⟨⟨A3, n3, d3, q3⟩, rfl, h⟩)

theorem spec_NewHeap.calls (K : Nat) (a0 : Int) (a1 : Int) {w0 w : World} {F : List Res} {r1 : List Int} {r2 : List Int} {r3 : List Int} {r4 : Bool} (hm : Mem w0 (F) w)  (h : spec_NewHeap.f K a0 a1 = some (r1, r2, r3, r4)) :
    Calls Try.prog 95 (List.toArray [i6 a0, i6 a1]) w fun e w' => ∃ x : (Sl r1.length) × (Sl r2.length) × (Sl r3.length), e = .returned (.tuple (List.toArray [.agg (List.toArray [.slice x.1.A x.1.n x.1.c, .slice x.2.1.A x.2.1.n x.2.1.c, .slice x.2.2.A x.2.2.n x.2.2.c]), .bool r4])) ∧ Mem w0 (.row x.1.A x.1.c 3 1 (ii r1) :: .row x.2.1.A x.2.1.c 3 1 (ii r2) :: .row x.2.2.A x.2.2.c 3 1 (ii r3) :: F) w' := by
  unfold spec_NewHeap.f at h
  refine calls_of_J (n := 28) Try.func95 rfl rfl rfl hm ?_
  refine j_seq ?_
  refine j_region ?_
  refine r_do (a_alloc zr25 rfl) rfl rfl (fun x1 => ?_)
  refine r_q (q_assign rfl rfl) rfl rfl ?_
  refine r_nil ?_
  refine j_then ?_
  refine j_seq ?_
  refine j_seq ?_
  refine j_region ?_
  refine r_q (q_move rfl rfl) rfl rfl ?_
  refine r_q (q_lss rfl rfl rfl) rfl rfl ?_
  refine r_q (q_move rfl rfl) rfl rfl ?_
  rcases of_if h with ⟨c1, h⟩ | ⟨c1, h⟩
  · refine r_off rfl rfl rfl rfl (decide_eq_true c1) rfl ?_
    refine r_off rfl rfl rfl rfl (decide_eq_true c1) rfl ?_
    refine r_q (q_pick_t rfl rfl (decide_eq_true c1) rfl) rfl rfl ?_
    refine r_q (q_move rfl rfl) rfl rfl ?_
    refine r_off rfl rfl rfl rfl rfl rfl ?_
    refine r_off rfl rfl rfl rfl rfl rfl ?_
    refine r_q (q_pick_t rfl rfl rfl rfl) rfl rfl ?_
    refine r_q (q_move rfl rfl) rfl rfl ?_
    refine r_off rfl rfl rfl rfl rfl rfl ?_
    refine r_off rfl rfl rfl rfl rfl rfl ?_
    refine r_q (q_pick_t rfl rfl rfl rfl) rfl rfl ?_
    refine r_nil ?_
    refine j_then ?_
    refine j_true rfl rfl ?_
    refine j_seq ?_
    refine j_region ?_
    refine r_q (q_build (cs := [(.slice none 0 0), (.slice none 0 0), (.slice none 0 0)]) zr25 pl25 rfl rfl rfl rfl) rfl rfl ?_
    refine r_do (a_storeb 0 rfl sz25 rfl rfl rfl rfl (Nat.le_of_ble_eq_true rfl) rfl) rfl rfl (fun _ => ?_)
    refine j_b0 [(.slice none 0 0), (.slice none 0 0), (.slice none 0 0)] rfl ?_
    refine r_q (q_assign rfl rfl) rfl rfl ?_
    refine r_nil ?_
    refine j_then ?_
    refine j_ret ?_
    refine j_then_ret ?_
    refine j_nil 3 1 ?_
    refine j_nil 3 1 ?_
    refine j_nil 3 1 ?_
    cases h
    exact j_return rfl (ResOf.cell 3 rfl rfl ag25 sz25 (ResOf.tmp rfl ResOf.nil)) rfl (fun w h => ⟨(⟨none, 0, 0, rfl⟩, ⟨none, 0, 0, rfl⟩, ⟨none, 0, 0, rfl⟩), rfl, h.pick 4 [2, 1, 0] rfl⟩)
  · refine r_qon (q_move rfl rfl) rfl rfl rfl rfl (decide_eq_false c1) rfl ?_
    refine r_qon (q_gtr rfl rfl rfl) rfl rfl rfl rfl (decide_eq_false c1) rfl ?_
    refine r_q (q_pick_f rfl rfl (decide_eq_false c1) rfl) rfl rfl ?_
    refine r_q (q_move rfl rfl) rfl rfl ?_
    rcases of_if h with ⟨c2, h⟩ | ⟨c2, h⟩
    · refine r_off rfl rfl rfl rfl (decide_eq_true c2) rfl ?_
      refine r_off rfl rfl rfl rfl (decide_eq_true c2) rfl ?_
      refine r_q (q_pick_t rfl rfl (decide_eq_true c2) rfl) rfl rfl ?_
      refine r_q (q_move rfl rfl) rfl rfl ?_
      refine r_off rfl rfl rfl rfl rfl rfl ?_
      refine r_off rfl rfl rfl rfl rfl rfl ?_
      refine r_q (q_pick_t rfl rfl rfl rfl) rfl rfl ?_
      refine r_nil ?_
      refine j_then ?_
      refine j_true rfl rfl ?_
      refine j_seq ?_
      refine j_region ?_
      refine r_q (q_build (cs := [(.slice none 0 0), (.slice none 0 0), (.slice none 0 0)]) zr25 pl25 rfl rfl rfl rfl) rfl rfl ?_
      refine r_do (a_storeb 0 rfl sz25 rfl rfl rfl rfl (Nat.le_of_ble_eq_true rfl) rfl) rfl rfl (fun _ => ?_)
      refine j_b0 [(.slice none 0 0), (.slice none 0 0), (.slice none 0 0)] rfl ?_
      refine r_q (q_assign rfl rfl) rfl rfl ?_
      refine r_nil ?_
      refine j_then ?_
      refine j_ret ?_
      refine j_then_ret ?_
      refine j_nil 3 1 ?_
      refine j_nil 3 1 ?_
      refine j_nil 3 1 ?_
      cases h
      exact j_return rfl (ResOf.cell 3 rfl rfl ag25 sz25 (ResOf.tmp rfl ResOf.nil)) rfl (fun w h => ⟨(⟨none, 0, 0, rfl⟩, ⟨none, 0, 0, rfl⟩, ⟨none, 0, 0, rfl⟩), rfl, h.pick 4 [2, 1, 0] rfl⟩)
    · refine r_qon (q_move rfl rfl) rfl rfl rfl rfl (decide_eq_false c2) rfl ?_
      refine r_qon (q_lss rfl rfl rfl) rfl rfl rfl rfl (decide_eq_false c2) rfl ?_
      refine r_q (q_pick_f rfl rfl (decide_eq_false c2) rfl) rfl rfl ?_
      refine r_q (q_move rfl rfl) rfl rfl ?_
      rcases of_if h with ⟨c3, h⟩ | ⟨c3, h⟩
      · refine r_off rfl rfl rfl rfl (decide_eq_true c3) rfl ?_
        refine r_off rfl rfl rfl rfl (decide_eq_true c3) rfl ?_
        refine r_q (q_pick_t rfl rfl (decide_eq_true c3) rfl) rfl rfl ?_
        refine r_nil ?_
        refine j_then ?_
        refine j_true rfl rfl ?_
        refine j_seq ?_
        refine j_region ?_
        refine r_q (q_build (cs := [(.slice none 0 0), (.slice none 0 0), (.slice none 0 0)]) zr25 pl25 rfl rfl rfl rfl) rfl rfl ?_
        refine r_do (a_storeb 0 rfl sz25 rfl rfl rfl rfl (Nat.le_of_ble_eq_true rfl) rfl) rfl rfl (fun _ => ?_)
        refine j_b0 [(.slice none 0 0), (.slice none 0 0), (.slice none 0 0)] rfl ?_
        refine r_q (q_assign rfl rfl) rfl rfl ?_
        refine r_nil ?_
        refine j_then ?_
        refine j_ret ?_
        refine j_then_ret ?_
        refine j_nil 3 1 ?_
        refine j_nil 3 1 ?_
        refine j_nil 3 1 ?_
        cases h
        exact j_return rfl (ResOf.cell 3 rfl rfl ag25 sz25 (ResOf.tmp rfl ResOf.nil)) rfl (fun w h => ⟨(⟨none, 0, 0, rfl⟩, ⟨none, 0, 0, rfl⟩, ⟨none, 0, 0, rfl⟩), rfl, h.pick 4 [2, 1, 0] rfl⟩)
      · refine r_qon (q_move rfl rfl) rfl rfl rfl rfl (decide_eq_false c3) rfl ?_
        refine r_qon (q_gtr rfl rfl rfl) rfl rfl rfl rfl (decide_eq_false c3) rfl ?_
        refine r_q (q_pick_f rfl rfl (decide_eq_false c3) rfl) rfl rfl ?_
        refine r_nil ?_
        refine j_then ?_
        rcases of_if h with ⟨c4, h⟩ | ⟨c4, h⟩
        · refine j_true rfl (decide_eq_true c4) ?_
          refine j_seq ?_
          refine j_region ?_
          refine r_q (q_build (cs := [(.slice none 0 0), (.slice none 0 0), (.slice none 0 0)]) zr25 pl25 rfl rfl rfl rfl) rfl rfl ?_
          refine r_do (a_storeb 0 rfl sz25 rfl rfl rfl rfl (Nat.le_of_ble_eq_true rfl) rfl) rfl rfl (fun _ => ?_)
          refine j_b0 [(.slice none 0 0), (.slice none 0 0), (.slice none 0 0)] rfl ?_
          refine r_q (q_assign rfl rfl) rfl rfl ?_
          refine r_nil ?_
          refine j_then ?_
          refine j_ret ?_
          refine j_then_ret ?_
          refine j_nil 3 1 ?_
          refine j_nil 3 1 ?_
          refine j_nil 3 1 ?_
          cases h
          exact j_return rfl (ResOf.cell 3 rfl rfl ag25 sz25 (ResOf.tmp rfl ResOf.nil)) rfl (fun w h => ⟨(⟨none, 0, 0, rfl⟩, ⟨none, 0, 0, rfl⟩, ⟨none, 0, 0, rfl⟩), rfl, h.pick 4 [2, 1, 0] rfl⟩)
        · refine j_false rfl (decide_eq_false c4) ?_
          refine j_skip ?_
          refine j_then ?_
          refine j_seq ?_
          refine j_region ?_
          refine r_q (q_move rfl rfl) rfl rfl ?_
          obtain ⟨v1, hb1, h⟩ := of_b1 h
          refine r_do (a_call ok99 rfl rfl rfl rfl (fun w hm => spec_l1Many.calls K a0 hm hb1)) rfl rfl (fun x2 => ?_)
          refine r_q (q_move rfl rfl) rfl rfl ?_
          obtain ⟨v2, hb2, h⟩ := of_b1 h
          refine r_do (a_call ok99 rfl rfl rfl rfl (fun w hm => spec_l1Many.calls K a0 hm hb2)) rfl rfl (fun x3 => ?_)
          refine r_q (q_move rfl rfl) rfl rfl ?_
          obtain ⟨v3, hb3, h⟩ := of_b1 h
          refine r_do (a_call ok99 rfl rfl rfl rfl (fun w hm => spec_l1Many.calls K a1 hm hb3)) rfl rfl (fun x4 => ?_)
          refine r_q (q_build (cs := [(.slice x2.A x2.n x2.c), (.slice x3.A x3.n x3.c), (.slice x4.A x4.n x4.c)]) zr25 pl25 rfl rfl rfl rfl) rfl rfl ?_
          refine r_do (a_storeb 3 rfl sz25 rfl rfl rfl rfl (Nat.le_of_ble_eq_true rfl) rfl) rfl rfl (fun _ => ?_)
          refine j_b3 [(.slice x2.A x2.n x2.c), (.slice x3.A x3.n x3.c), (.slice x4.A x4.n x4.c)] rfl ?_
          refine r_q (q_assign rfl rfl) rfl rfl ?_
          refine r_nil ?_
          refine j_then ?_
          refine j_ret ?_
          cases h
          exact j_return rfl (ResOf.cell 3 rfl rfl ag25 sz25 (ResOf.tmp rfl ResOf.nil)) rfl (fun w h => ⟨(⟨x2.A, x2.n, x2.c, x2.h⟩, ⟨x3.A, x3.n, x3.c, x3.h⟩, ⟨x4.A, x4.n, x4.c, x4.h⟩), rfl, h.pick 4 [2, 1, 0] rfl⟩)

theorem spec_NewStore.calls (K : Nat) (a0 : Int) (a1 : Int) {w0 w : World} {F : List Res} {r1 : List Int} {r2 : List Int} {r3 : List Int} {r4 : List Int} {r5 : Bool} (hm : Mem w0 (F) w)  (h : spec_NewStore.f K a0 a1 = some (r1, r2, r3, r4, r5)) :
    Calls Try.prog 84 (List.toArray [i6 a0, i6 a1]) w fun e w' => ∃ x : (Sl r1.length) × (Sl r2.length) × (Sl r3.length) × (Sl r4.length), e = .returned (.tuple (List.toArray [.agg (List.toArray [.slice x.1.A x.1.n x.1.c, .slice x.2.1.A x.2.1.n x.2.1.c, .slice x.2.2.1.A x.2.2.1.n x.2.2.1.c, .slice x.2.2.2.A x.2.2.2.n x.2.2.2.c]), .bool r5])) ∧ Mem w0 (.row x.1.A x.1.c 3 1 (ii r1) :: .row x.2.1.A x.2.1.c 3 1 (ii r2) :: .row x.2.2.1.A x.2.2.1.c 3 1 (ii r3) :: .row x.2.2.2.A x.2.2.2.c 3 1 (ii r4) :: F) w' := by
  unfold spec_NewStore.f at h
  refine calls_of_J (n := 33) Try.func84 rfl rfl rfl hm ?_
  refine j_seq ?_
  refine j_region ?_
  refine r_do (a_alloc zr27 rfl) rfl rfl (fun x1 => ?_)
  refine r_q (q_assign rfl rfl) rfl rfl ?_
  refine r_nil ?_
  refine j_then ?_
  refine j_seq ?_
  refine j_region ?_
  refine r_q (q_move rfl rfl) rfl rfl ?_
  refine r_q (q_move rfl rfl) rfl rfl ?_
  obtain ⟨v1, v2, v3, v4, hb1, h⟩ := of_b4 h
  refine r_do (a_call ok95 rfl rfl rfl rfl (fun w hm => spec_NewHeap.calls K a0 a1 hm hb1)) rfl rfl (fun x2 => ?_)
  refine r_q (q_move rfl rfl) rfl rfl ?_
  refine r_q (q_extract rfl rfl rfl) rfl rfl ?_
  refine r_q (q_extract rfl rfl rfl) rfl rfl ?_
  refine r_do (a_alloc zr25 rfl) rfl rfl (fun x3 => ?_)
  refine r_do (a_storeb 0 rfl sz25 rfl rfl rfl rfl (Nat.le_of_ble_eq_true rfl) rfl) rfl rfl (fun _ => ?_)
  refine j_b0 [(.slice x2.1.A x2.1.n x2.1.c), (.slice x2.2.1.A x2.2.1.n x2.2.1.c), (.slice x2.2.2.A x2.2.2.n x2.2.2.c)] rfl ?_
  refine r_q (q_assign rfl rfl) rfl rfl ?_
  refine r_nil ?_
  refine j_then ?_
  refine j_seq ?_
  refine j_seq ?_
  refine j_region ?_
  refine r_q (q_move rfl rfl) rfl rfl ?_
  refine r_q (q_not rfl rfl) rfl rfl ?_
  refine r_nil ?_
  refine j_then ?_
  rcases of_if h with ⟨c1, h⟩ | ⟨c1, h⟩
  · refine j_false rfl (not_f c1) ?_
    refine j_skip ?_
    refine j_then ?_
    refine j_seq ?_
    refine j_region ?_
    refine r_q (q_loadb_agg 0 rfl ag25 sz25 rfl rfl rfl rfl) rfl rfl ?_
    refine r_q (q_build (cs := [(.slice x2.1.A x2.1.n x2.1.c), (.slice x2.2.1.A x2.2.1.n x2.2.1.c), (.slice x2.2.2.A x2.2.2.n x2.2.2.c), (.slice none 0 0)]) zr27 pl27 rfl rfl rfl rfl) rfl rfl ?_
    refine r_do (a_alloc zr27 rfl) rfl rfl (fun x4 => ?_)
    refine r_do (a_storeb 0 rfl sz27 rfl rfl rfl rfl (Nat.le_of_ble_eq_true rfl) rfl) rfl rfl (fun _ => ?_)
    refine j_b0 [(.slice x2.1.A x2.1.n x2.1.c), (.slice x2.2.1.A x2.2.1.n x2.2.1.c), (.slice x2.2.2.A x2.2.2.n x2.2.2.c), (.slice none 0 0)] rfl ?_
    refine r_nil ?_
    refine j_then ?_
    refine j_seq ?_
    refine j_seq ?_
    refine j_region ?_
    refine r_q (q_assign rfl rfl) rfl rfl ?_
    refine r_nil ?_
    refine j_then ?_
    refine j_nil 3 1 ?_
    obtain ⟨κ0, h, hκ0⟩ := ex_k (g := fun κ => spec_NewStore.loop0 K κ a0 K (0:Int) ([] : List Int) = some (r1, r2, r3, r4, r5)) h
    refine j_cut (σ := (Option Addr) × Nat × Nat × (List Int)) (fun s => [(4, (pt x1)), (8, (pt x4))]) (fun s => .box x1 27 [(.slice none 0 0), (.slice none 0 0), (.slice none 0 0), (.slice none 0 0)] :: .box x4 27 [(.slice x2.1.A x2.1.n x2.1.c), (.slice x2.2.1.A x2.2.1.n x2.2.1.c), (.slice x2.2.2.A x2.2.2.n x2.2.2.c), (.slice s.1 s.2.1 s.2.2.1)] :: .row x2.1.A x2.1.c 3 1 (ii v1) :: .row x2.2.1.A x2.2.1.c 3 1 (ii v2) :: .row x2.2.2.A x2.2.2.c 3 1 (ii v3) :: .row s.1 s.2.2.1 3 1 (ii s.2.2.2) :: F) (fun s => κ0 s.2.2.2 = some (r1, r2, r3, r4, r5) ∧ (s.2.2.2.length = s.2.1)) ?_ ?_
    · refine j_block ?_
      refine j_loop (σ := Int × (Option Addr) × Nat × Nat × (List Int)) (fun s => [(0, (i6 a0)), (4, (pt x1)), (8, (pt x4)), (9, (i6 s.1))]) (fun s => .box x1 27 [(.slice none 0 0), (.slice none 0 0), (.slice none 0 0), (.slice none 0 0)] :: .box x4 27 [(.slice x2.1.A x2.1.n x2.1.c), (.slice x2.2.1.A x2.2.1.n x2.2.1.c), (.slice x2.2.2.A x2.2.2.n x2.2.2.c), (.slice s.2.1 s.2.2.1 s.2.2.2.1)] :: .row x2.1.A x2.1.c 3 1 (ii v1) :: .row x2.2.1.A x2.2.1.c 3 1 (ii v2) :: .row x2.2.2.A x2.2.2.c 3 1 (ii v3) :: .row s.2.1 s.2.2.2.1 3 1 (ii s.2.2.2.2) :: F) (fun m s => spec_NewStore.loop0 K κ0 a0 m s.1 s.2.2.2.2 = some (r1, r2, r3, r4, r5) ∧ (s.2.2.2.2.length = s.2.2.1)) K ((0:Int), none, 0, 0, ([] : List Int)) ⟨h, rfl⟩ (fun a he => he.sub ⟨rfl, rfl, rfl, rfl, trivial⟩) (fun w h => h.pick 7 [6, 1, 3, 4, 5, 0] rfl) ?_
      rintro m ⟨p2, A2, n2, d2, l2⟩ ⟨h, q2⟩
      cases m with
      | zero => exact absurd h (by rw [spec_NewStore.loop0]; exact nofun)
      | succ m =>
        rw [spec_NewStore.loop0] at h
        show J _ _ [(0, (i6 a0)), (4, (pt x1)), (8, (pt x4)), (9, (i6 p2))] _ (.box x1 27 [(.slice none 0 0), (.slice none 0 0), (.slice none 0 0), (.slice none 0 0)] :: .box x4 27 [(.slice x2.1.A x2.1.n x2.1.c), (.slice x2.2.1.A x2.2.1.n x2.2.1.c), (.slice x2.2.2.A x2.2.2.n x2.2.2.c), (.slice A2 n2 d2)] :: .row x2.1.A x2.1.c 3 1 (ii v1) :: .row x2.2.1.A x2.2.1.c 3 1 (ii v2) :: .row x2.2.2.A x2.2.2.c 3 1 (ii v3) :: .row A2 d2 3 1 (ii l2) :: F)
        refine j_seq ?_
        refine j_seq ?_
        refine j_region ?_
        refine r_q (q_move rfl rfl) rfl rfl ?_
        refine r_q (q_move rfl rfl) rfl rfl ?_
        refine r_q (q_lss rfl rfl rfl) rfl rfl ?_
        refine r_nil ?_
        refine j_then ?_
        rcases of_if h with ⟨c8, h⟩ | ⟨c8, h⟩
        · refine j_true rfl (decide_eq_true c8) ?_
          refine j_skip ?_
          refine j_then ?_
          refine j_seq ?_
          refine j_block ?_
          refine j_region ?_
          refine r_q (q_fieldAddr fi27_1 sz23 rfl rfl rfl) rfl rfl ?_
          refine r_q (q_loadb 1 rfl ag23 rfl rfl rfl) rfl rfl ?_
          refine r_q (q_move rfl rfl) rfl rfl ?_
          refine r_do (a_litX (vs := [(i6 p2)]) (ii ([p2] : List Int)) un23 sz3 zr3 rfl rfl rfl rfl rfl rfl rfl rfl rfl) rfl rfl (fun x5 => ?_)
          obtain ⟨c9, h⟩ := of_guard h
          refine r_do (a_appI (xs := l2) (ys := ([p2] : List Int)) 6 un23 un23 sz3 by3 zr3 rfl rfl rfl rfl rfl rfl rfl rfl rfl q2 rfl (Rd.row 0 rfl) c9) rfl rfl (fun x6 => ?_)
          refine j_s6 ?_
          refine r_q (q_fieldAddr fi27_1 sz23 rfl rfl rfl) rfl rfl ?_
          refine r_do (a_storeb 2 rfl sz23 rfl rfl rfl rfl (Nat.le_of_ble_eq_true rfl) rfl) rfl rfl (fun _ => ?_)
          refine j_b2 [(.slice x2.1.A x2.1.n x2.1.c), (.slice x2.2.1.A x2.2.1.n x2.2.1.c), (.slice x2.2.2.A x2.2.2.n x2.2.2.c), (.slice x6.1 (n2 + 1) x6.2)] rfl ?_
          refine r_nil ?_
          refine j_in ?_
          refine j_then ?_
          refine j_region ?_
          refine r_q (q_move rfl rfl) rfl rfl ?_
          refine r_q (q_add rfl rfl rfl) rfl rfl ?_
          refine r_q (q_assign rfl rfl) rfl rfl ?_
          refine r_nil ?_
          refine j_then ?_
          exact j_again m ((wrap64 (p2 + (1:Int))), x6.1, (n2 + 1), x6.2, (l2 ++ ([p2] : List Int))) (Nat.lt_succ_self m) ⟨h, (app_len q2 rfl)⟩ (fun a he => he.sub ⟨rfl, rfl, rfl, rfl, trivial⟩) (fun w h => h.tail)
        · refine j_false rfl (decide_eq_false c8) ?_
          refine j_exit ?_
          refine j_then_exit ?_
          refine j_then_exit ?_
          refine j_in_exit ?_
          refine j_then ?_
          exact j_meet (A2, n2, d2, l2) ⟨h, q2⟩ (fun a he => he.sub ⟨rfl, rfl, trivial⟩) (fun w h => h)
    · rintro ⟨A3, n3, d3, l3⟩ ⟨h, q3⟩
      subst hκ0
      show J _ _ [(4, (pt x1)), (8, (pt x4))] _ (.box x1 27 [(.slice none 0 0), (.slice none 0 0), (.slice none 0 0), (.slice none 0 0)] :: .box x4 27 [(.slice x2.1.A x2.1.n x2.1.c), (.slice x2.2.1.A x2.2.1.n x2.2.1.c), (.slice x2.2.2.A x2.2.2.n x2.2.2.c), (.slice A3 n3 d3)] :: .row x2.1.A x2.1.c 3 1 (ii v1) :: .row x2.2.1.A x2.2.1.c 3 1 (ii v2) :: .row x2.2.2.A x2.2.2.c 3 1 (ii v3) :: .row A3 d3 3 1 (ii l3) :: F)
      refine j_then ?_
      refine j_seq ?_
      refine j_region ?_
      refine r_q (q_loadb_agg 1 rfl ag27 sz27 rfl rfl rfl rfl) rfl rfl ?_
      refine r_do (a_storeb 0 rfl sz27 rfl rfl rfl rfl (Nat.le_of_ble_eq_true rfl) rfl) rfl rfl (fun _ => ?_)
      refine j_b0 [(.slice x2.1.A x2.1.n x2.1.c), (.slice x2.2.1.A x2.2.1.n x2.2.1.c), (.slice x2.2.2.A x2.2.2.n x2.2.2.c), (.slice A3 n3 d3)] rfl ?_
      refine r_q (q_assign rfl rfl) rfl rfl ?_
      refine r_nil ?_
      refine j_then ?_
      refine j_ret ?_
      cases h
      exact j_return rfl (ResOf.cell 0 rfl rfl ag27 sz27 (ResOf.tmp rfl ResOf.nil)) rfl (fun w h => ⟨(⟨x2.1.A, x2.1.n, x2.1.c, x2.1.h⟩, ⟨x2.2.1.A, x2.2.1.n, x2.2.1.c, x2.2.1.h⟩, ⟨x2.2.2.A, x2.2.2.n, x2.2.2.c, x2.2.2.h⟩, ⟨A3, n3, d3, q3⟩), rfl, (h.drop 2)⟩)
  · refine j_true rfl (not_t (var_f c1)) ?_
    refine j_seq ?_
    refine j_region ?_
    refine r_q (q_build (cs := [(.slice none 0 0), (.slice none 0 0), (.slice none 0 0), (.slice none 0 0)]) zr27 pl27 rfl rfl rfl rfl) rfl rfl ?_
    refine r_do (a_storeb 4 rfl sz27 rfl rfl rfl rfl (Nat.le_of_ble_eq_true rfl) rfl) rfl rfl (fun _ => ?_)
    refine j_b4 [(.slice none 0 0), (.slice none 0 0), (.slice none 0 0), (.slice none 0 0)] rfl ?_
    refine r_q (q_assign rfl rfl) rfl rfl ?_
    refine r_nil ?_
    refine j_then ?_
    refine j_ret ?_
    refine j_then_ret ?_
    refine j_nil 3 1 ?_
    refine j_nil 3 1 ?_
    refine j_nil 3 1 ?_
    refine j_nil 3 1 ?_
    cases h
    exact j_return rfl (ResOf.cell 8 rfl rfl ag27 sz27 (ResOf.tmp rfl ResOf.nil)) rfl (fun w h => ⟨(⟨none, 0, 0, rfl⟩, ⟨none, 0, 0, rfl⟩, ⟨none, 0, 0, rfl⟩, ⟨none, 0, 0, rfl⟩), rfl, h.pick 9 [3, 2, 1, 0] rfl⟩)

theorem spec_l1Wrong.calls (K : Nat) (a0_g : Nat) (a0_0 : List Int) (a0_0_A : Option Addr) (a0_0_n a0_0_c : Nat) (a0_1 : Int) (a1_0 : List Int) (a1_0_A : Option Addr) (a1_0_n a1_0_c : Nat) (a1_1 : List Int) (a1_1_A : Option Addr) (a1_1_n a1_1_c : Nat) (a1_2 : List Int) (a1_2_A : Option Addr) (a1_2_n a1_2_c : Nat) {w0 w : World} {F : List Res} {r1 : List Int} {r2 : List Int} {r3 : List Int} {r4 : Int} (hm : Mem w0 (.box a0_g 84 [.slice a0_0_A a0_0_n a0_0_c, i6 a0_1] :: F) w) (a0_0_h : a0_0.length = a0_0_n) (a0_0_R : Rd w0 F a0_0_A (ints .u8 a0_0)) (a1_0_h : a1_0.length = a1_0_n) (a1_0_R : Rd w0 F a1_0_A (ii a1_0)) (a1_1_h : a1_1.length = a1_1_n) (a1_1_R : Rd w0 F a1_1_A (ii a1_1)) (a1_2_h : a1_2.length = a1_2_n) (a1_2_R : Rd w0 F a1_2_A (ii a1_2)) (h : spec_l1Wrong.f K a0_0 a0_1 a1_0 a1_1 a1_2 = some (r1, r2, r3, r4)) :
    Calls Try.prog 94 (List.toArray [pt a0_g, .agg (List.toArray [.slice a1_0_A a1_0_n a1_0_c, .slice a1_1_A a1_1_n a1_1_c, .slice a1_2_A a1_2_n a1_2_c])]) w fun e w' => ∃ x : (Sl r1.length) × (Sl r2.length) × (Sl r3.length), e = .returned (.agg (List.toArray [.slice x.1.A x.1.n x.1.c, .slice x.2.1.A x.2.1.n x.2.1.c, .slice x.2.2.A x.2.2.n x.2.2.c])) ∧ Mem w0 (.row x.1.A x.1.c 3 1 (ii r1) :: .row x.2.1.A x.2.1.c 3 1 (ii r2) :: .row x.2.2.A x.2.2.c 3 1 (ii r3) :: .box a0_g 84 [.slice a0_0_A a0_0_n a0_0_c, i6 r4] :: F) w' := by
  unfold spec_l1Wrong.f at h
  refine calls_of_J (n := 45) Try.func94 rfl rfl rfl hm ?_
  refine j_seq ?_
  refine j_region ?_
  refine r_do (a_box rfl rfl) rfl rfl (fun x1 => ?_)
  refine r_do (a_alloc zr25 rfl) rfl rfl (fun x2 => ?_)
  refine r_nil ?_
  refine j_then ?_
  refine j_seq ?_
  refine j_region ?_
  refine r_q (q_loadb_agg 1 rfl ag25 sz25 rfl rfl rfl rfl) rfl rfl ?_
  obtain ⟨v1, v2, v3, hb1, h⟩ := of_b3 h
  refine r_do (a_call ok91 rfl rfl rfl rfl (fun w hm => spec_l1Copy.calls K a1_0 a1_0_A a1_0_n a1_0_c a1_1 a1_1_A a1_1_n a1_1_c a1_2 a1_2_A a1_2_n a1_2_c hm a1_0_h (Rd.drop 3 a1_0_R) a1_1_h (Rd.drop 3 a1_1_R) a1_2_h (Rd.drop 3 a1_2_R) hb1)) rfl rfl (fun x3 => ?_)
  refine r_do (a_alloc zr25 rfl) rfl rfl (fun x4 => ?_)
  refine r_do (a_storeb 0 rfl sz25 rfl rfl rfl rfl (Nat.le_of_ble_eq_true rfl) rfl) rfl rfl (fun _ => ?_)
  refine j_b0 [(.slice x3.1.A x3.1.n x3.1.c), (.slice x3.2.1.A x3.2.1.n x3.2.1.c), (.slice x3.2.2.A x3.2.2.n x3.2.2.c)] rfl ?_
  refine r_nil ?_
  refine j_then ?_
  refine j_seq ?_
  refine j_seq ?_
  refine j_region ?_
  refine r_q (q_move rfl rfl) rfl rfl ?_
  obtain ⟨v4, v5, hb2, h⟩ := of_b2 h
  refine j_rs (.box a0_g 84 [(.slice a0_0_A a0_0_n a0_0_c), (i6 a0_1)] :: .box x4 25 [(.slice x3.1.A x3.1.n x3.1.c), (.slice x3.2.1.A x3.2.1.n x3.2.1.c), (.slice x3.2.2.A x3.2.2.n x3.2.2.c)] :: .row x3.1.A x3.1.c 3 1 (ii v1) :: .row x3.2.1.A x3.2.1.c 3 1 (ii v2) :: .row x3.2.2.A x3.2.2.c 3 1 (ii v3) :: .box x2 25 [(.slice none 0 0), (.slice none 0 0), (.slice none 0 0)] :: .box x1 25 [(.slice a1_0_A a1_0_n a1_0_c), (.slice a1_1_A a1_1_n a1_1_c), (.slice a1_2_A a1_2_n a1_2_c)] :: F) (fun _ h => h.pick 7 [6, 0, 1, 2, 3, 4, 5] rfl) ?_
  refine r_do (a_call ok82 rfl rfl rfl rfl (fun w hm => spec_l13Rd_pick.calls K a0_g a0_0 a0_0_A a0_0_n a0_0_c a0_1 (20:Int) hm a0_0_h (Rd.drop 6 a0_0_R) hb2)) rfl rfl (fun x5 => ?_)
  refine r_nil ?_
  refine j_then ?_
  refine j_block ?_
  refine j_seq ?_
  refine j_region ?_
  refine r_q (q_eql rfl rfl rfl) rfl rfl ?_
  refine r_q (q_assign rfl rfl) rfl rfl ?_
  refine r_nil ?_
  refine j_then ?_
  rcases of_if h with ⟨c1, h⟩ | ⟨c1, h⟩
  · refine j_true rfl (beq_t c1) ?_
    obtain ⟨v6, v7, hb3, h⟩ := of_b2 h
    obtain ⟨v8, v9, hb4, h⟩ := of_b2 h
    obtain ⟨c2, h⟩ := of_guard h
    refine j_draw (.box x4 25 [(.slice x3.1.A x3.1.n x3.1.c), (.slice x3.2.1.A x3.2.1.n x3.2.1.c), (.slice x3.2.2.A x3.2.2.n x3.2.2.c)] :: .row x3.2.1.A x3.2.1.c 3 1 (ii v2) :: .row x3.2.2.A x3.2.2.c 3 1 (ii v3) :: .box x2 25 [(.slice none 0 0), (.slice none 0 0), (.slice none 0 0)] :: .box x1 25 [(.slice a1_0_A a1_0_n a1_0_c), (.slice a1_1_A a1_1_n a1_1_c), (.slice a1_2_A a1_2_n a1_2_c)] :: F) 12 follows_any rfl ?_
    refine d_take 0 rfl (q_fieldAddr fi25_0 sz23 rfl rfl rfl) rfl rfl (by kernel_rfl) (by kernel_rfl) (by kernel_rfl) (fun w h => h.pick 7 [1, 3, 4, 5, 6] rfl) ?_
    refine d_take 1 rfl (q_loadb 0 rfl ag23 rfl rfl rfl) rfl rfl (by kernel_rfl) (by kernel_rfl) (by kernel_rfl) (fun w h => h.pick 7 [1, 3, 4, 5, 6] rfl) ?_
    refine d_take 2 rfl (q_move rfl rfl) rfl rfl (by kernel_rfl) (by kernel_rfl) (by kernel_rfl) (fun w h => h.pick 7 [1, 3, 4, 5, 6] rfl) ?_
    refine d_take 3 rfl (q_fieldAddr fi25_0 sz23 rfl rfl rfl) rfl rfl (by kernel_rfl) (by kernel_rfl) (by kernel_rfl) (fun w h => h.pick 7 [1, 3, 4, 5, 6] rfl) ?_
    refine d_take 4 rfl (q_loadb 0 rfl ag23 rfl rfl rfl) rfl rfl (by kernel_rfl) (by kernel_rfl) (by kernel_rfl) (fun w h => h.pick 7 [1, 3, 4, 5, 6] rfl) ?_
    refine d_take 5 rfl (q_lenX v1 x3.1.h un23 rfl rfl rfl rfl rfl) rfl rfl (by kernel_rfl) (by kernel_rfl) (by kernel_rfl) (fun w h => h.pick 7 [1, 3, 4, 5, 6] rfl) ?_
    refine d_take 7 rfl (q_move rfl rfl) rfl rfl (by kernel_rfl) (by kernel_rfl) (by kernel_rfl) (fun w h => h.pick 7 [1, 3, 4, 5, 6] rfl) ?_
    refine d_join (σ := Unit × (Option Addr) × Unit) 0 #[true, true, true, true, true, true, true, true, true, true, true, true] (fun s => [(4, (pt x2)), (5, (pt x4))]) (fun s => .row s.2.1 3 3 1 (ii ([(-2:Int), (8:Int), (0:Int)] : List Int)) :: .box a0_g 84 [(.slice a0_0_A a0_0_n a0_0_c), (i6 v9)] :: .box x4 25 [(.slice x3.1.A x3.1.n x3.1.c), (.slice x3.2.1.A x3.2.1.n x3.2.1.c), (.slice x3.2.2.A x3.2.2.n x3.2.2.c)] :: .row x3.1.A x3.1.c 3 1 (ii (v1.set v6.toNat v8)) :: .row x3.2.1.A x3.2.1.c 3 1 (ii v2) :: .row x3.2.2.A x3.2.2.c 3 1 (ii v3) :: .box x2 25 [(.slice none 0 0), (.slice none 0 0), (.slice none 0 0)] :: .box x1 25 [(.slice a1_0_A a1_0_n a1_0_c), (.slice a1_1_A a1_1_n a1_1_c), (.slice a1_2_A a1_2_n a1_2_c)] :: F) ?_ (fun hD4095 => ?_)
    · rintro ⟨x6, x7, x8⟩
      show J _ _ [(4, (pt x2)), (5, (pt x4))] _ (.row x7 3 3 1 (ii ([(-2:Int), (8:Int), (0:Int)] : List Int)) :: .box a0_g 84 [(.slice a0_0_A a0_0_n a0_0_c), (i6 v9)] :: .box x4 25 [(.slice x3.1.A x3.1.n x3.1.c), (.slice x3.2.1.A x3.2.1.n x3.2.1.c), (.slice x3.2.2.A x3.2.2.n x3.2.2.c)] :: .row x3.1.A x3.1.c 3 1 (ii (v1.set v6.toNat v8)) :: .row x3.2.1.A x3.2.1.c 3 1 (ii v2) :: .row x3.2.2.A x3.2.2.c 3 1 (ii v3) :: .box x2 25 [(.slice none 0 0), (.slice none 0 0), (.slice none 0 0)] :: .box x1 25 [(.slice a1_0_A a1_0_n a1_0_c), (.slice a1_1_A a1_1_n a1_1_c), (.slice a1_2_A a1_2_n a1_2_c)] :: F)
      refine d_done (by kernel_rfl) ?_
      refine j_in ?_
      refine j_then ?_
      refine j_seq ?_
      refine j_region ?_
      refine r_q (q_loadb_agg 2 rfl ag25 sz25 rfl rfl rfl rfl) rfl rfl ?_
      refine r_do (a_storeb 6 rfl sz25 rfl rfl rfl rfl (Nat.le_of_ble_eq_true rfl) rfl) rfl rfl (fun _ => ?_)
      refine j_b6 [(.slice x3.1.A x3.1.n x3.1.c), (.slice x3.2.1.A x3.2.1.n x3.2.1.c), (.slice x3.2.2.A x3.2.2.n x3.2.2.c)] rfl ?_
      refine r_nil ?_
      refine j_then ?_
      refine j_ret ?_
      cases h
      exact j_return rfl (ResOf.cell 6 rfl rfl ag25 sz25 ResOf.nil) rfl (fun w h => ⟨(⟨x3.1.A, x3.1.n, x3.1.c, (set_len x3.1.h _ _)⟩, ⟨x3.2.1.A, x3.2.1.n, x3.2.1.c, x3.2.1.h⟩, ⟨x3.2.2.A, x3.2.2.n, x3.2.2.c, x3.2.2.h⟩), rfl, h.pick 8 [3, 4, 5, 1] rfl⟩)
    refine d_join (σ := Unit × (Option Addr) × Unit) 1 #[true, true, true, true, true, true, true, true, true, true, true, false] (fun s => [(4, (pt x2)), (5, (pt x4)), (21, (i6 v8)), (22, (.pointer (x3.1.A.map (·.add (v6.toNat * 1)))))]) (fun s => .row s.2.1 3 3 1 (ii ([(-2:Int), (8:Int), (0:Int)] : List Int)) :: .box a0_g 84 [(.slice a0_0_A a0_0_n a0_0_c), (i6 v9)] :: .box x4 25 [(.slice x3.1.A x3.1.n x3.1.c), (.slice x3.2.1.A x3.2.1.n x3.2.1.c), (.slice x3.2.2.A x3.2.2.n x3.2.2.c)] :: .row x3.1.A x3.1.c 3 1 (ii v1) :: .row x3.2.1.A x3.2.1.c 3 1 (ii v2) :: .row x3.2.2.A x3.2.2.c 3 1 (ii v3) :: .box x2 25 [(.slice none 0 0), (.slice none 0 0), (.slice none 0 0)] :: .box x1 25 [(.slice a1_0_A a1_0_n a1_0_c), (.slice a1_1_A a1_1_n a1_1_c), (.slice a1_2_A a1_2_n a1_2_c)] :: F) ?_ (fun hD2047 => ?_)
    · rintro ⟨x6, x7, x8⟩
      show J _ _ [(4, (pt x2)), (5, (pt x4)), (21, (i6 v8)), (22, (.pointer (x3.1.A.map (·.add (v6.toNat * 1)))))] _ (.row x7 3 3 1 (ii ([(-2:Int), (8:Int), (0:Int)] : List Int)) :: .box a0_g 84 [(.slice a0_0_A a0_0_n a0_0_c), (i6 v9)] :: .box x4 25 [(.slice x3.1.A x3.1.n x3.1.c), (.slice x3.2.1.A x3.2.1.n x3.2.1.c), (.slice x3.2.2.A x3.2.2.n x3.2.2.c)] :: .row x3.1.A x3.1.c 3 1 (ii v1) :: .row x3.2.1.A x3.2.1.c 3 1 (ii v2) :: .row x3.2.2.A x3.2.2.c 3 1 (ii v3) :: .box x2 25 [(.slice none 0 0), (.slice none 0 0), (.slice none 0 0)] :: .box x1 25 [(.slice a1_0_A a1_0_n a1_0_c), (.slice a1_1_A a1_1_n a1_1_c), (.slice a1_2_A a1_2_n a1_2_c)] :: F)
      refine d_one 11 (by kernel_rfl) ?_
      · refine o_do rfl (a_stI 3 rfl c2 sz3 rfl rfl rfl) rfl rfl (fun _ w h => h.pick 8 [2, 4, 5, 6, 7] rfl) (fun _ => ?_)
        refine j_s3 ?_
        refine j_rs (.row x7 3 3 1 (ii ([(-2:Int), (8:Int), (0:Int)] : List Int)) :: .box a0_g 84 [(.slice a0_0_A a0_0_n a0_0_c), (i6 v9)] :: .box x4 25 [(.slice x3.1.A x3.1.n x3.1.c), (.slice x3.2.1.A x3.2.1.n x3.2.1.c), (.slice x3.2.2.A x3.2.2.n x3.2.2.c)] :: .row x3.1.A x3.1.c 3 1 (ii (v1.set v6.toNat v8)) :: .row x3.2.1.A x3.2.1.c 3 1 (ii v2) :: .row x3.2.2.A x3.2.2.c 3 1 (ii v3) :: .box x2 25 [(.slice none 0 0), (.slice none 0 0), (.slice none 0 0)] :: .box x1 25 [(.slice a1_0_A a1_0_n a1_0_c), (.slice a1_1_A a1_1_n a1_1_c), (.slice a1_2_A a1_2_n a1_2_c)] :: F) (fun _ h => h) ?_
        refine j_env [(4, (pt x2)), (5, (pt x4))] ⟨rfl, rfl, trivial⟩ ?_
        exact hD4095 (x6, x7, x8)
    refine d_join (σ := Unit × (Option Addr) × Unit) 2 #[true, true, true, true, true, true, true, true, true, true, false, false] (fun s => [(4, (pt x2)), (5, (pt x4)), (13, (.slice x3.1.A x3.1.n x3.1.c)), (18, (i6 v6)), (21, (i6 v8))]) (fun s => .row s.2.1 3 3 1 (ii ([(-2:Int), (8:Int), (0:Int)] : List Int)) :: .box a0_g 84 [(.slice a0_0_A a0_0_n a0_0_c), (i6 v9)] :: .box x4 25 [(.slice x3.1.A x3.1.n x3.1.c), (.slice x3.2.1.A x3.2.1.n x3.2.1.c), (.slice x3.2.2.A x3.2.2.n x3.2.2.c)] :: .row x3.1.A x3.1.c 3 1 (ii v1) :: .row x3.2.1.A x3.2.1.c 3 1 (ii v2) :: .row x3.2.2.A x3.2.2.c 3 1 (ii v3) :: .box x2 25 [(.slice none 0 0), (.slice none 0 0), (.slice none 0 0)] :: .box x1 25 [(.slice a1_0_A a1_0_n a1_0_c), (.slice a1_1_A a1_1_n a1_1_c), (.slice a1_2_A a1_2_n a1_2_c)] :: F) ?_ (fun hD1023 => ?_)
    · rintro ⟨x6, x7, x8⟩
      show J _ _ [(4, (pt x2)), (5, (pt x4)), (13, (.slice x3.1.A x3.1.n x3.1.c)), (18, (i6 v6)), (21, (i6 v8))] _ (.row x7 3 3 1 (ii ([(-2:Int), (8:Int), (0:Int)] : List Int)) :: .box a0_g 84 [(.slice a0_0_A a0_0_n a0_0_c), (i6 v9)] :: .box x4 25 [(.slice x3.1.A x3.1.n x3.1.c), (.slice x3.2.1.A x3.2.1.n x3.2.1.c), (.slice x3.2.2.A x3.2.2.n x3.2.2.c)] :: .row x3.1.A x3.1.c 3 1 (ii v1) :: .row x3.2.1.A x3.2.1.c 3 1 (ii v2) :: .row x3.2.2.A x3.2.2.c 3 1 (ii v3) :: .box x2 25 [(.slice none 0 0), (.slice none 0 0), (.slice none 0 0)] :: .box x1 25 [(.slice a1_0_A a1_0_n a1_0_c), (.slice a1_1_A a1_1_n a1_1_c), (.slice a1_2_A a1_2_n a1_2_c)] :: F)
      refine d_one 10 (by kernel_rfl) ?_
      · refine o_do rfl ((q_ix (Rd.row 3 rfl) (ints_len1 _ v1) (by decide) x3.1.h c2 un23 sz3 rfl rfl rfl)).acts rfl rfl (fun _ w h => h.pick 8 [2, 4, 5, 6, 7] rfl) (fun _ => ?_)
        refine j_rs (.row x7 3 3 1 (ii ([(-2:Int), (8:Int), (0:Int)] : List Int)) :: .box a0_g 84 [(.slice a0_0_A a0_0_n a0_0_c), (i6 v9)] :: .box x4 25 [(.slice x3.1.A x3.1.n x3.1.c), (.slice x3.2.1.A x3.2.1.n x3.2.1.c), (.slice x3.2.2.A x3.2.2.n x3.2.2.c)] :: .row x3.1.A x3.1.c 3 1 (ii v1) :: .row x3.2.1.A x3.2.1.c 3 1 (ii v2) :: .row x3.2.2.A x3.2.2.c 3 1 (ii v3) :: .box x2 25 [(.slice none 0 0), (.slice none 0 0), (.slice none 0 0)] :: .box x1 25 [(.slice a1_0_A a1_0_n a1_0_c), (.slice a1_1_A a1_1_n a1_1_c), (.slice a1_2_A a1_2_n a1_2_c)] :: F) (fun _ h => h) ?_
        refine j_env [(4, (pt x2)), (5, (pt x4)), (21, (i6 v8)), (22, (.pointer (x3.1.A.map (·.add (v6.toNat * 1)))))] ⟨rfl, rfl, rfl, rfl, trivial⟩ ?_
        exact hD2047 (x6, x7, x8)
    refine d_join (σ := Unit × (Option Addr)) 3 #[true, true, true, true, true, true, true, true, true, false, false, false] (fun s => [(4, (pt x2)), (5, (pt x4)), (13, (.slice x3.1.A x3.1.n x3.1.c)), (18, (i6 v6)), (19, (pt a0_g)), (20, (.slice s.2 3 3))]) (fun s => .row s.2 3 3 1 (ii ([(-2:Int), (8:Int), (0:Int)] : List Int)) :: .box a0_g 84 [(.slice a0_0_A a0_0_n a0_0_c), (i6 v7)] :: .box x4 25 [(.slice x3.1.A x3.1.n x3.1.c), (.slice x3.2.1.A x3.2.1.n x3.2.1.c), (.slice x3.2.2.A x3.2.2.n x3.2.2.c)] :: .row x3.1.A x3.1.c 3 1 (ii v1) :: .row x3.2.1.A x3.2.1.c 3 1 (ii v2) :: .row x3.2.2.A x3.2.2.c 3 1 (ii v3) :: .box x2 25 [(.slice none 0 0), (.slice none 0 0), (.slice none 0 0)] :: .box x1 25 [(.slice a1_0_A a1_0_n a1_0_c), (.slice a1_1_A a1_1_n a1_1_c), (.slice a1_2_A a1_2_n a1_2_c)] :: F) ?_ (fun hD511 => ?_)
    · rintro ⟨x6, x7⟩
      show J _ _ [(4, (pt x2)), (5, (pt x4)), (13, (.slice x3.1.A x3.1.n x3.1.c)), (18, (i6 v6)), (19, (pt a0_g)), (20, (.slice x7 3 3))] _ (.row x7 3 3 1 (ii ([(-2:Int), (8:Int), (0:Int)] : List Int)) :: .box a0_g 84 [(.slice a0_0_A a0_0_n a0_0_c), (i6 v7)] :: .box x4 25 [(.slice x3.1.A x3.1.n x3.1.c), (.slice x3.2.1.A x3.2.1.n x3.2.1.c), (.slice x3.2.2.A x3.2.2.n x3.2.2.c)] :: .row x3.1.A x3.1.c 3 1 (ii v1) :: .row x3.2.1.A x3.2.1.c 3 1 (ii v2) :: .row x3.2.2.A x3.2.2.c 3 1 (ii v3) :: .box x2 25 [(.slice none 0 0), (.slice none 0 0), (.slice none 0 0)] :: .box x1 25 [(.slice a1_0_A a1_0_n a1_0_c), (.slice a1_1_A a1_1_n a1_1_c), (.slice a1_2_A a1_2_n a1_2_c)] :: F)
      refine d_one 9 (by kernel_rfl) ?_
      · refine j_rs (.box a0_g 84 [(.slice a0_0_A a0_0_n a0_0_c), (i6 v7)] :: .row x7 3 3 1 (ii ([(-2:Int), (8:Int), (0:Int)] : List Int)) :: .box x4 25 [(.slice x3.1.A x3.1.n x3.1.c), (.slice x3.2.1.A x3.2.1.n x3.2.1.c), (.slice x3.2.2.A x3.2.2.n x3.2.2.c)] :: .row x3.1.A x3.1.c 3 1 (ii v1) :: .row x3.2.1.A x3.2.1.c 3 1 (ii v2) :: .row x3.2.2.A x3.2.2.c 3 1 (ii v3) :: .box x2 25 [(.slice none 0 0), (.slice none 0 0), (.slice none 0 0)] :: .box x1 25 [(.slice a1_0_A a1_0_n a1_0_c), (.slice a1_1_A a1_1_n a1_1_c), (.slice a1_2_A a1_2_n a1_2_c)] :: F) (fun _ h => h.pick 8 [1, 0, 2, 3, 4, 5, 6, 7] rfl) ?_
        refine o_do rfl (a_call ok80 rfl rfl rfl rfl (fun w hm => spec_l13Rd_num.calls K a0_g a0_0 a0_0_A a0_0_n a0_0_c v7 ([(-2:Int), (8:Int), (0:Int)] : List Int) x7 3 3 hm a0_0_h (Rd.drop 7 a0_0_R) rfl (Rd.row 0 rfl) hb4)) rfl rfl (fun x8 w h => h.pick 8 [2, 4, 5, 6, 7] rfl) (fun x8 => ?_)
        refine j_rs (.row x7 3 3 1 (ii ([(-2:Int), (8:Int), (0:Int)] : List Int)) :: .box a0_g 84 [(.slice a0_0_A a0_0_n a0_0_c), (i6 v9)] :: .box x4 25 [(.slice x3.1.A x3.1.n x3.1.c), (.slice x3.2.1.A x3.2.1.n x3.2.1.c), (.slice x3.2.2.A x3.2.2.n x3.2.2.c)] :: .row x3.1.A x3.1.c 3 1 (ii v1) :: .row x3.2.1.A x3.2.1.c 3 1 (ii v2) :: .row x3.2.2.A x3.2.2.c 3 1 (ii v3) :: .box x2 25 [(.slice none 0 0), (.slice none 0 0), (.slice none 0 0)] :: .box x1 25 [(.slice a1_0_A a1_0_n a1_0_c), (.slice a1_1_A a1_1_n a1_1_c), (.slice a1_2_A a1_2_n a1_2_c)] :: F) (fun _ h => h.pick 8 [1, 0, 2, 3, 4, 5, 6, 7] rfl) ?_
        refine j_env [(4, (pt x2)), (5, (pt x4)), (13, (.slice x3.1.A x3.1.n x3.1.c)), (18, (i6 v6)), (21, (i6 v8))] ⟨rfl, rfl, rfl, rfl, rfl, trivial⟩ ?_
        exact hD1023 (x6, x7, x8)
    refine d_join (σ := Unit) 4 #[true, true, true, true, true, true, true, true, false, false, false, false] (fun s => [(4, (pt x2)), (5, (pt x4)), (13, (.slice x3.1.A x3.1.n x3.1.c)), (18, (i6 v6)), (19, (pt a0_g))]) (fun s => .box a0_g 84 [(.slice a0_0_A a0_0_n a0_0_c), (i6 v7)] :: .box x4 25 [(.slice x3.1.A x3.1.n x3.1.c), (.slice x3.2.1.A x3.2.1.n x3.2.1.c), (.slice x3.2.2.A x3.2.2.n x3.2.2.c)] :: .row x3.1.A x3.1.c 3 1 (ii v1) :: .row x3.2.1.A x3.2.1.c 3 1 (ii v2) :: .row x3.2.2.A x3.2.2.c 3 1 (ii v3) :: .box x2 25 [(.slice none 0 0), (.slice none 0 0), (.slice none 0 0)] :: .box x1 25 [(.slice a1_0_A a1_0_n a1_0_c), (.slice a1_1_A a1_1_n a1_1_c), (.slice a1_2_A a1_2_n a1_2_c)] :: F) ?_ (fun hD255 => ?_)
    · rintro x6
      show J _ _ [(4, (pt x2)), (5, (pt x4)), (13, (.slice x3.1.A x3.1.n x3.1.c)), (18, (i6 v6)), (19, (pt a0_g))] _ (.box a0_g 84 [(.slice a0_0_A a0_0_n a0_0_c), (i6 v7)] :: .box x4 25 [(.slice x3.1.A x3.1.n x3.1.c), (.slice x3.2.1.A x3.2.1.n x3.2.1.c), (.slice x3.2.2.A x3.2.2.n x3.2.2.c)] :: .row x3.1.A x3.1.c 3 1 (ii v1) :: .row x3.2.1.A x3.2.1.c 3 1 (ii v2) :: .row x3.2.2.A x3.2.2.c 3 1 (ii v3) :: .box x2 25 [(.slice none 0 0), (.slice none 0 0), (.slice none 0 0)] :: .box x1 25 [(.slice a1_0_A a1_0_n a1_0_c), (.slice a1_1_A a1_1_n a1_1_c), (.slice a1_2_A a1_2_n a1_2_c)] :: F)
      refine d_one 8 (by kernel_rfl) ?_
      · refine o_do rfl (a_litX (vs := [(i6 (-2:Int)), (i6 (8:Int)), (i6 (0:Int))]) (ii ([(-2:Int), (8:Int), (0:Int)] : List Int)) un23 sz3 zr3 rfl rfl rfl rfl rfl rfl rfl rfl rfl) rfl rfl (fun x7 w h => h.pick 8 [2, 4, 5, 6, 7] rfl) (fun x7 => ?_)
        refine j_rs (.row x7 3 3 1 (ii ([(-2:Int), (8:Int), (0:Int)] : List Int)) :: .box a0_g 84 [(.slice a0_0_A a0_0_n a0_0_c), (i6 v7)] :: .box x4 25 [(.slice x3.1.A x3.1.n x3.1.c), (.slice x3.2.1.A x3.2.1.n x3.2.1.c), (.slice x3.2.2.A x3.2.2.n x3.2.2.c)] :: .row x3.1.A x3.1.c 3 1 (ii v1) :: .row x3.2.1.A x3.2.1.c 3 1 (ii v2) :: .row x3.2.2.A x3.2.2.c 3 1 (ii v3) :: .box x2 25 [(.slice none 0 0), (.slice none 0 0), (.slice none 0 0)] :: .box x1 25 [(.slice a1_0_A a1_0_n a1_0_c), (.slice a1_1_A a1_1_n a1_1_c), (.slice a1_2_A a1_2_n a1_2_c)] :: F) (fun _ h => h) ?_
        refine j_env [(4, (pt x2)), (5, (pt x4)), (13, (.slice x3.1.A x3.1.n x3.1.c)), (18, (i6 v6)), (19, (pt a0_g)), (20, (.slice x7 3 3))] ⟨rfl, rfl, rfl, rfl, rfl, rfl, trivial⟩ ?_
        exact hD511 (x6, x7)
    refine d_join (σ := (Option Addr)) 4 #[true, true, true, true, true, true, false, true, true, false, false, false] (fun s => [(4, (pt x2)), (5, (pt x4)), (13, (.slice x3.1.A x3.1.n x3.1.c)), (14, (pt a0_g)), (17, (i6 (v1.length : Int))), (19, (pt a0_g)), (20, (.slice s 3 3))]) (fun s => .row s 3 3 1 (ii ([(-2:Int), (8:Int), (0:Int)] : List Int)) :: .box a0_g 84 [(.slice a0_0_A a0_0_n a0_0_c), (i6 v5)] :: .box x4 25 [(.slice x3.1.A x3.1.n x3.1.c), (.slice x3.2.1.A x3.2.1.n x3.2.1.c), (.slice x3.2.2.A x3.2.2.n x3.2.2.c)] :: .row x3.1.A x3.1.c 3 1 (ii v1) :: .row x3.2.1.A x3.2.1.c 3 1 (ii v2) :: .row x3.2.2.A x3.2.2.c 3 1 (ii v3) :: .box x2 25 [(.slice none 0 0), (.slice none 0 0), (.slice none 0 0)] :: .box x1 25 [(.slice a1_0_A a1_0_n a1_0_c), (.slice a1_1_A a1_1_n a1_1_c), (.slice a1_2_A a1_2_n a1_2_c)] :: F) ?_ (fun hD447 => ?_)
    · rintro x7
      show J _ _ [(4, (pt x2)), (5, (pt x4)), (13, (.slice x3.1.A x3.1.n x3.1.c)), (14, (pt a0_g)), (17, (i6 (v1.length : Int))), (19, (pt a0_g)), (20, (.slice x7 3 3))] _ (.row x7 3 3 1 (ii ([(-2:Int), (8:Int), (0:Int)] : List Int)) :: .box a0_g 84 [(.slice a0_0_A a0_0_n a0_0_c), (i6 v5)] :: .box x4 25 [(.slice x3.1.A x3.1.n x3.1.c), (.slice x3.2.1.A x3.2.1.n x3.2.1.c), (.slice x3.2.2.A x3.2.2.n x3.2.2.c)] :: .row x3.1.A x3.1.c 3 1 (ii v1) :: .row x3.2.1.A x3.2.1.c 3 1 (ii v2) :: .row x3.2.2.A x3.2.2.c 3 1 (ii v3) :: .box x2 25 [(.slice none 0 0), (.slice none 0 0), (.slice none 0 0)] :: .box x1 25 [(.slice a1_0_A a1_0_n a1_0_c), (.slice a1_1_A a1_1_n a1_1_c), (.slice a1_2_A a1_2_n a1_2_c)] :: F)
      refine d_one 6 (by kernel_rfl) ?_
      · refine j_rs (.box a0_g 84 [(.slice a0_0_A a0_0_n a0_0_c), (i6 v5)] :: .row x7 3 3 1 (ii ([(-2:Int), (8:Int), (0:Int)] : List Int)) :: .box x4 25 [(.slice x3.1.A x3.1.n x3.1.c), (.slice x3.2.1.A x3.2.1.n x3.2.1.c), (.slice x3.2.2.A x3.2.2.n x3.2.2.c)] :: .row x3.1.A x3.1.c 3 1 (ii v1) :: .row x3.2.1.A x3.2.1.c 3 1 (ii v2) :: .row x3.2.2.A x3.2.2.c 3 1 (ii v3) :: .box x2 25 [(.slice none 0 0), (.slice none 0 0), (.slice none 0 0)] :: .box x1 25 [(.slice a1_0_A a1_0_n a1_0_c), (.slice a1_1_A a1_1_n a1_1_c), (.slice a1_2_A a1_2_n a1_2_c)] :: F) (fun _ h => h.pick 8 [1, 0, 2, 3, 4, 5, 6, 7] rfl) ?_
        refine o_do rfl (a_call ok82 rfl rfl rfl rfl (fun w hm => spec_l13Rd_pick.calls K a0_g a0_0 a0_0_A a0_0_n a0_0_c v5 (v1.length : Int) hm a0_0_h (Rd.drop 7 a0_0_R) hb3)) rfl rfl (fun x6 w h => h.pick 8 [2, 4, 5, 6, 7] rfl) (fun x6 => ?_)
        refine j_rs (.row x7 3 3 1 (ii ([(-2:Int), (8:Int), (0:Int)] : List Int)) :: .box a0_g 84 [(.slice a0_0_A a0_0_n a0_0_c), (i6 v7)] :: .box x4 25 [(.slice x3.1.A x3.1.n x3.1.c), (.slice x3.2.1.A x3.2.1.n x3.2.1.c), (.slice x3.2.2.A x3.2.2.n x3.2.2.c)] :: .row x3.1.A x3.1.c 3 1 (ii v1) :: .row x3.2.1.A x3.2.1.c 3 1 (ii v2) :: .row x3.2.2.A x3.2.2.c 3 1 (ii v3) :: .box x2 25 [(.slice none 0 0), (.slice none 0 0), (.slice none 0 0)] :: .box x1 25 [(.slice a1_0_A a1_0_n a1_0_c), (.slice a1_1_A a1_1_n a1_1_c), (.slice a1_2_A a1_2_n a1_2_c)] :: F) (fun _ h => h.pick 8 [1, 0, 2, 3, 4, 5, 6, 7] rfl) ?_
        refine j_env [(4, (pt x2)), (5, (pt x4)), (13, (.slice x3.1.A x3.1.n x3.1.c)), (18, (i6 v6)), (19, (pt a0_g)), (20, (.slice x7 3 3))] ⟨rfl, rfl, rfl, rfl, rfl, rfl, trivial⟩ ?_
        exact hD511 (x6, x7)
    refine d_two 6 8 (by kernel_rfl) ?_ ?_
    · refine o_do rfl (a_call ok82 rfl rfl rfl rfl (fun w hm => spec_l13Rd_pick.calls K a0_g a0_0 a0_0_A a0_0_n a0_0_c v5 (v1.length : Int) hm a0_0_h (Rd.drop 6 a0_0_R) hb3)) rfl rfl (fun x6 w h => h.pick 7 [1, 3, 4, 5, 6] rfl) (fun x6 => ?_)
      refine j_rs (.box a0_g 84 [(.slice a0_0_A a0_0_n a0_0_c), (i6 v7)] :: .box x4 25 [(.slice x3.1.A x3.1.n x3.1.c), (.slice x3.2.1.A x3.2.1.n x3.2.1.c), (.slice x3.2.2.A x3.2.2.n x3.2.2.c)] :: .row x3.1.A x3.1.c 3 1 (ii v1) :: .row x3.2.1.A x3.2.1.c 3 1 (ii v2) :: .row x3.2.2.A x3.2.2.c 3 1 (ii v3) :: .box x2 25 [(.slice none 0 0), (.slice none 0 0), (.slice none 0 0)] :: .box x1 25 [(.slice a1_0_A a1_0_n a1_0_c), (.slice a1_1_A a1_1_n a1_1_c), (.slice a1_2_A a1_2_n a1_2_c)] :: F) (fun _ h => h) ?_
      refine j_env [(4, (pt x2)), (5, (pt x4)), (13, (.slice x3.1.A x3.1.n x3.1.c)), (18, (i6 v6)), (19, (pt a0_g))] ⟨rfl, rfl, rfl, rfl, rfl, trivial⟩ ?_
      exact hD255 x6
    · refine o_do rfl (a_litX (vs := [(i6 (-2:Int)), (i6 (8:Int)), (i6 (0:Int))]) (ii ([(-2:Int), (8:Int), (0:Int)] : List Int)) un23 sz3 zr3 rfl rfl rfl rfl rfl rfl rfl rfl rfl) rfl rfl (fun x7 w h => h.pick 8 [2, 4, 5, 6, 7] rfl) (fun x7 => ?_)
      refine j_rs (.row x7 3 3 1 (ii ([(-2:Int), (8:Int), (0:Int)] : List Int)) :: .box a0_g 84 [(.slice a0_0_A a0_0_n a0_0_c), (i6 v5)] :: .box x4 25 [(.slice x3.1.A x3.1.n x3.1.c), (.slice x3.2.1.A x3.2.1.n x3.2.1.c), (.slice x3.2.2.A x3.2.2.n x3.2.2.c)] :: .row x3.1.A x3.1.c 3 1 (ii v1) :: .row x3.2.1.A x3.2.1.c 3 1 (ii v2) :: .row x3.2.2.A x3.2.2.c 3 1 (ii v3) :: .box x2 25 [(.slice none 0 0), (.slice none 0 0), (.slice none 0 0)] :: .box x1 25 [(.slice a1_0_A a1_0_n a1_0_c), (.slice a1_1_A a1_1_n a1_1_c), (.slice a1_2_A a1_2_n a1_2_c)] :: F) (fun _ h => h) ?_
      refine j_env [(4, (pt x2)), (5, (pt x4)), (13, (.slice x3.1.A x3.1.n x3.1.c)), (14, (pt a0_g)), (17, (i6 (v1.length : Int))), (19, (pt a0_g)), (20, (.slice x7 3 3))] ⟨rfl, rfl, rfl, rfl, rfl, rfl, rfl, trivial⟩ ?_
      exact hD447 x7
  · refine j_false rfl (beq_f c1) ?_
    refine j_seq ?_
    refine j_region ?_
    refine r_q (q_eql rfl rfl rfl) rfl rfl ?_
    refine r_q (q_assign rfl rfl) rfl rfl ?_
    refine r_nil ?_
    refine j_then ?_
    rcases of_if h with ⟨c3, h⟩ | ⟨c3, h⟩
    · refine j_true rfl (beq_t c3) ?_
      refine j_region ?_
      refine r_q (q_fieldAddr fi25_1 sz23 rfl rfl rfl) rfl rfl ?_
      refine r_q (q_loadb 1 rfl ag23 rfl rfl rfl) rfl rfl ?_
      refine r_do (a_litX (vs := [(i6 (-1:Int))]) (ii ([(-1:Int)] : List Int)) un23 sz3 zr3 rfl rfl rfl rfl rfl rfl rfl rfl rfl) rfl rfl (fun x9 => ?_)
      obtain ⟨c4, h⟩ := of_guard h
      refine r_do (a_appI (xs := v2) (ys := ([(-1:Int)] : List Int)) 4 un23 un23 sz3 by3 zr3 rfl rfl rfl rfl rfl rfl rfl rfl rfl x3.2.1.h rfl (Rd.row 0 rfl) c4) rfl rfl (fun x10 => ?_)
      refine j_s4 ?_
      refine r_q (q_fieldAddr fi25_1 sz23 rfl rfl rfl) rfl rfl ?_
      refine r_do (a_storeb 2 rfl sz23 rfl rfl rfl rfl (Nat.le_of_ble_eq_true rfl) rfl) rfl rfl (fun _ => ?_)
      refine j_b2 [(.slice x3.1.A x3.1.n x3.1.c), (.slice x10.1 (x3.2.1.n + 1) x10.2), (.slice x3.2.2.A x3.2.2.n x3.2.2.c)] rfl ?_
      refine r_nil ?_
      refine j_in ?_
      refine j_then ?_
      refine j_seq ?_
      refine j_region ?_
      refine r_q (q_loadb_agg 2 rfl ag25 sz25 rfl rfl rfl rfl) rfl rfl ?_
      refine r_do (a_storeb 6 rfl sz25 rfl rfl rfl rfl (Nat.le_of_ble_eq_true rfl) rfl) rfl rfl (fun _ => ?_)
      refine j_b6 [(.slice x3.1.A x3.1.n x3.1.c), (.slice x10.1 (x3.2.1.n + 1) x10.2), (.slice x3.2.2.A x3.2.2.n x3.2.2.c)] rfl ?_
      refine r_nil ?_
      refine j_then ?_
      refine j_ret ?_
      cases h
      exact j_return rfl (ResOf.cell 6 rfl rfl ag25 sz25 ResOf.nil) rfl (fun w h => ⟨(⟨x3.1.A, x3.1.n, x3.1.c, x3.1.h⟩, ⟨x10.1, (x3.2.1.n + 1), x10.2, (app_len x3.2.1.h rfl)⟩, ⟨x3.2.2.A, x3.2.2.n, x3.2.2.c, x3.2.2.h⟩), rfl, h.pick 8 [3, 4, 5, 1] rfl⟩)
    · refine j_false rfl (beq_f c3) ?_
      refine j_seq ?_
      refine j_region ?_
      refine r_q (q_eql rfl rfl rfl) rfl rfl ?_
      refine r_q (q_assign rfl rfl) rfl rfl ?_
      refine r_nil ?_
      refine j_then ?_
      rcases of_if h with ⟨c5, h⟩ | ⟨c5, h⟩
      · refine j_true rfl (beq_t c5) ?_
        obtain ⟨v10, v11, hb5, h⟩ := of_b2 h
        obtain ⟨c6, h⟩ := of_guard h
        refine j_draw (.row x3.1.A x3.1.c 3 1 (ii v1) :: .row x3.2.1.A x3.2.1.c 3 1 (ii v2) :: .box x2 25 [(.slice none 0 0), (.slice none 0 0), (.slice none 0 0)] :: .box x1 25 [(.slice a1_0_A a1_0_n a1_0_c), (.slice a1_1_A a1_1_n a1_1_c), (.slice a1_2_A a1_2_n a1_2_c)] :: F) 9 follows_any rfl ?_
        refine d_take 0 rfl (q_fieldAddr fi25_2 sz23 rfl rfl rfl) rfl rfl (by kernel_rfl) (by kernel_rfl) (by kernel_rfl) (fun w h => h.pick 7 [2, 3, 5, 6] rfl) ?_
        refine d_take 2 rfl (q_move rfl rfl) rfl rfl (by kernel_rfl) (by kernel_rfl) (by kernel_rfl) (fun w h => h.pick 7 [2, 3, 5, 6] rfl) ?_
        refine d_join (σ := (Option Addr) × Unit × (Option Addr) × (Option Addr × Nat)) 0 #[true, true, true, true, true, true, true, true, true] (fun s => [(4, (pt x2)), (5, (pt x4))]) (fun s => .row s.1 3 3 1 (ii ([(0:Int), (-1:Int), (9:Int)] : List Int)) :: .row s.2.2.1 1 3 1 (ii ([v10] : List Int)) :: .row s.2.2.2.1 s.2.2.2.2 3 1 (ii (v3 ++ ([v10] : List Int))) :: .box a0_g 84 [(.slice a0_0_A a0_0_n a0_0_c), (i6 v11)] :: .box x4 25 [(.slice x3.1.A x3.1.n x3.1.c), (.slice x3.2.1.A x3.2.1.n x3.2.1.c), (.slice s.2.2.2.1 (x3.2.2.n + 1) s.2.2.2.2)] :: .row x3.1.A x3.1.c 3 1 (ii v1) :: .row x3.2.1.A x3.2.1.c 3 1 (ii v2) :: .box x2 25 [(.slice none 0 0), (.slice none 0 0), (.slice none 0 0)] :: .box x1 25 [(.slice a1_0_A a1_0_n a1_0_c), (.slice a1_1_A a1_1_n a1_1_c), (.slice a1_2_A a1_2_n a1_2_c)] :: F) ?_ (fun hD511 => ?_)
        · rintro ⟨x11, x12, x13, x14⟩
          show J _ _ [(4, (pt x2)), (5, (pt x4))] _ (.row x11 3 3 1 (ii ([(0:Int), (-1:Int), (9:Int)] : List Int)) :: .row x13 1 3 1 (ii ([v10] : List Int)) :: .row x14.1 x14.2 3 1 (ii (v3 ++ ([v10] : List Int))) :: .box a0_g 84 [(.slice a0_0_A a0_0_n a0_0_c), (i6 v11)] :: .box x4 25 [(.slice x3.1.A x3.1.n x3.1.c), (.slice x3.2.1.A x3.2.1.n x3.2.1.c), (.slice x14.1 (x3.2.2.n + 1) x14.2)] :: .row x3.1.A x3.1.c 3 1 (ii v1) :: .row x3.2.1.A x3.2.1.c 3 1 (ii v2) :: .box x2 25 [(.slice none 0 0), (.slice none 0 0), (.slice none 0 0)] :: .box x1 25 [(.slice a1_0_A a1_0_n a1_0_c), (.slice a1_1_A a1_1_n a1_1_c), (.slice a1_2_A a1_2_n a1_2_c)] :: F)
          refine d_done (by kernel_rfl) ?_
          refine j_in ?_
          refine j_then ?_
          refine j_seq ?_
          refine j_region ?_
          refine r_q (q_loadb_agg 4 rfl ag25 sz25 rfl rfl rfl rfl) rfl rfl ?_
          refine r_do (a_storeb 7 rfl sz25 rfl rfl rfl rfl (Nat.le_of_ble_eq_true rfl) rfl) rfl rfl (fun _ => ?_)
          refine j_b7 [(.slice x3.1.A x3.1.n x3.1.c), (.slice x3.2.1.A x3.2.1.n x3.2.1.c), (.slice x14.1 (x3.2.2.n + 1) x14.2)] rfl ?_
          refine r_nil ?_
          refine j_then ?_
          refine j_ret ?_
          cases h
          exact j_return rfl (ResOf.cell 7 rfl rfl ag25 sz25 ResOf.nil) rfl (fun w h => ⟨(⟨x3.1.A, x3.1.n, x3.1.c, x3.1.h⟩, ⟨x3.2.1.A, x3.2.1.n, x3.2.1.c, x3.2.1.h⟩, ⟨x14.1, (x3.2.2.n + 1), x14.2, (app_len x3.2.2.h rfl)⟩), rfl, h.pick 9 [5, 6, 2, 3] rfl⟩)
        refine d_join (σ := (Option Addr) × Unit × (Option Addr) × (Option Addr × Nat)) 1 #[true, true, true, true, true, true, true, true, false] (fun s => [(4, (pt x2)), (5, (pt x4)), (38, (.slice s.2.2.2.1 (x3.2.2.n + 1) s.2.2.2.2)), (39, (.pointer (some ⟨x4, 2, none⟩)))]) (fun s => .row s.1 3 3 1 (ii ([(0:Int), (-1:Int), (9:Int)] : List Int)) :: .row s.2.2.1 1 3 1 (ii ([v10] : List Int)) :: .row s.2.2.2.1 s.2.2.2.2 3 1 (ii (v3 ++ ([v10] : List Int))) :: .box a0_g 84 [(.slice a0_0_A a0_0_n a0_0_c), (i6 v11)] :: .box x4 25 [(.slice x3.1.A x3.1.n x3.1.c), (.slice x3.2.1.A x3.2.1.n x3.2.1.c), (.slice x3.2.2.A x3.2.2.n x3.2.2.c)] :: .row x3.1.A x3.1.c 3 1 (ii v1) :: .row x3.2.1.A x3.2.1.c 3 1 (ii v2) :: .box x2 25 [(.slice none 0 0), (.slice none 0 0), (.slice none 0 0)] :: .box x1 25 [(.slice a1_0_A a1_0_n a1_0_c), (.slice a1_1_A a1_1_n a1_1_c), (.slice a1_2_A a1_2_n a1_2_c)] :: F) ?_ (fun hD255 => ?_)
        · rintro ⟨x11, x12, x13, x14⟩
          show J _ _ [(4, (pt x2)), (5, (pt x4)), (38, (.slice x14.1 (x3.2.2.n + 1) x14.2)), (39, (.pointer (some ⟨x4, 2, none⟩)))] _ (.row x11 3 3 1 (ii ([(0:Int), (-1:Int), (9:Int)] : List Int)) :: .row x13 1 3 1 (ii ([v10] : List Int)) :: .row x14.1 x14.2 3 1 (ii (v3 ++ ([v10] : List Int))) :: .box a0_g 84 [(.slice a0_0_A a0_0_n a0_0_c), (i6 v11)] :: .box x4 25 [(.slice x3.1.A x3.1.n x3.1.c), (.slice x3.2.1.A x3.2.1.n x3.2.1.c), (.slice x3.2.2.A x3.2.2.n x3.2.2.c)] :: .row x3.1.A x3.1.c 3 1 (ii v1) :: .row x3.2.1.A x3.2.1.c 3 1 (ii v2) :: .box x2 25 [(.slice none 0 0), (.slice none 0 0), (.slice none 0 0)] :: .box x1 25 [(.slice a1_0_A a1_0_n a1_0_c), (.slice a1_1_A a1_1_n a1_1_c), (.slice a1_2_A a1_2_n a1_2_c)] :: F)
          refine d_one 8 (by kernel_rfl) ?_
          · refine o_do rfl (a_storeb 4 rfl sz23 rfl rfl rfl rfl (Nat.le_of_ble_eq_true rfl) rfl) rfl rfl (fun _ w h => (h.drop 5)) (fun _ => ?_)
            refine j_b4 [(.slice x3.1.A x3.1.n x3.1.c), (.slice x3.2.1.A x3.2.1.n x3.2.1.c), (.slice x14.1 (x3.2.2.n + 1) x14.2)] rfl ?_
            refine j_rs (.row x11 3 3 1 (ii ([(0:Int), (-1:Int), (9:Int)] : List Int)) :: .row x13 1 3 1 (ii ([v10] : List Int)) :: .row x14.1 x14.2 3 1 (ii (v3 ++ ([v10] : List Int))) :: .box a0_g 84 [(.slice a0_0_A a0_0_n a0_0_c), (i6 v11)] :: .box x4 25 [(.slice x3.1.A x3.1.n x3.1.c), (.slice x3.2.1.A x3.2.1.n x3.2.1.c), (.slice x14.1 (x3.2.2.n + 1) x14.2)] :: .row x3.1.A x3.1.c 3 1 (ii v1) :: .row x3.2.1.A x3.2.1.c 3 1 (ii v2) :: .box x2 25 [(.slice none 0 0), (.slice none 0 0), (.slice none 0 0)] :: .box x1 25 [(.slice a1_0_A a1_0_n a1_0_c), (.slice a1_1_A a1_1_n a1_1_c), (.slice a1_2_A a1_2_n a1_2_c)] :: F) (fun _ h => h) ?_
            refine j_env [(4, (pt x2)), (5, (pt x4))] ⟨rfl, rfl, trivial⟩ ?_
            exact hD511 (x11, x12, x13, x14)
        refine d_join (σ := (Option Addr) × Unit × (Option Addr)) 3 #[true, true, true, true, true, true, false, false, false] (fun s => [(4, (pt x2)), (5, (pt x4)), (33, (.slice x3.2.2.A x3.2.2.n x3.2.2.c)), (37, (.slice s.2.2 1 1))]) (fun s => .row s.1 3 3 1 (ii ([(0:Int), (-1:Int), (9:Int)] : List Int)) :: .row s.2.2 1 3 1 (ii ([v10] : List Int)) :: .box a0_g 84 [(.slice a0_0_A a0_0_n a0_0_c), (i6 v11)] :: .box x4 25 [(.slice x3.1.A x3.1.n x3.1.c), (.slice x3.2.1.A x3.2.1.n x3.2.1.c), (.slice x3.2.2.A x3.2.2.n x3.2.2.c)] :: .row x3.1.A x3.1.c 3 1 (ii v1) :: .row x3.2.1.A x3.2.1.c 3 1 (ii v2) :: .row x3.2.2.A x3.2.2.c 3 1 (ii v3) :: .box x2 25 [(.slice none 0 0), (.slice none 0 0), (.slice none 0 0)] :: .box x1 25 [(.slice a1_0_A a1_0_n a1_0_c), (.slice a1_1_A a1_1_n a1_1_c), (.slice a1_2_A a1_2_n a1_2_c)] :: F) ?_ (fun hD63 => ?_)
        · rintro ⟨x11, x12, x13⟩
          show J _ _ [(4, (pt x2)), (5, (pt x4)), (33, (.slice x3.2.2.A x3.2.2.n x3.2.2.c)), (37, (.slice x13 1 1))] _ (.row x11 3 3 1 (ii ([(0:Int), (-1:Int), (9:Int)] : List Int)) :: .row x13 1 3 1 (ii ([v10] : List Int)) :: .box a0_g 84 [(.slice a0_0_A a0_0_n a0_0_c), (i6 v11)] :: .box x4 25 [(.slice x3.1.A x3.1.n x3.1.c), (.slice x3.2.1.A x3.2.1.n x3.2.1.c), (.slice x3.2.2.A x3.2.2.n x3.2.2.c)] :: .row x3.1.A x3.1.c 3 1 (ii v1) :: .row x3.2.1.A x3.2.1.c 3 1 (ii v2) :: .row x3.2.2.A x3.2.2.c 3 1 (ii v3) :: .box x2 25 [(.slice none 0 0), (.slice none 0 0), (.slice none 0 0)] :: .box x1 25 [(.slice a1_0_A a1_0_n a1_0_c), (.slice a1_1_A a1_1_n a1_1_c), (.slice a1_2_A a1_2_n a1_2_c)] :: F)
          refine d_one 6 (by kernel_rfl) ?_
          · refine o_do rfl (a_appI (xs := v3) (ys := ([v10] : List Int)) 6 un23 un23 sz3 by3 zr3 rfl rfl rfl rfl rfl rfl rfl rfl rfl x3.2.2.h rfl (Rd.row 1 rfl) c6) rfl rfl (fun x14 w h => h.pick 9 [4, 5, 7, 8] rfl) (fun x14 => ?_)
            refine j_s6 ?_
            refine d_take 7 rfl (q_fieldAddr fi25_2 sz23 rfl rfl rfl) rfl rfl (by kernel_rfl) (by kernel_rfl) (by kernel_rfl) (fun w h => h.pick 9 [4, 5, 7, 8] rfl) ?_
            refine j_rs (.row x11 3 3 1 (ii ([(0:Int), (-1:Int), (9:Int)] : List Int)) :: .row x13 1 3 1 (ii ([v10] : List Int)) :: .row x14.1 x14.2 3 1 (ii (v3 ++ ([v10] : List Int))) :: .box a0_g 84 [(.slice a0_0_A a0_0_n a0_0_c), (i6 v11)] :: .box x4 25 [(.slice x3.1.A x3.1.n x3.1.c), (.slice x3.2.1.A x3.2.1.n x3.2.1.c), (.slice x3.2.2.A x3.2.2.n x3.2.2.c)] :: .row x3.1.A x3.1.c 3 1 (ii v1) :: .row x3.2.1.A x3.2.1.c 3 1 (ii v2) :: .box x2 25 [(.slice none 0 0), (.slice none 0 0), (.slice none 0 0)] :: .box x1 25 [(.slice a1_0_A a1_0_n a1_0_c), (.slice a1_1_A a1_1_n a1_1_c), (.slice a1_2_A a1_2_n a1_2_c)] :: F) (fun _ h => h.pick 9 [0, 1, 6, 2, 3, 4, 5, 7, 8] rfl) ?_
            refine j_env [(4, (pt x2)), (5, (pt x4)), (38, (.slice x14.1 (x3.2.2.n + 1) x14.2)), (39, (.pointer (some ⟨x4, 2, none⟩)))] ⟨rfl, rfl, rfl, rfl, trivial⟩ ?_
            exact hD255 (x11, x12, x13, x14)
        refine d_join (σ := (Option Addr) × Unit) 4 #[true, true, true, true, true, false, false, false, false] (fun s => [(4, (pt x2)), (5, (pt x4)), (33, (.slice x3.2.2.A x3.2.2.n x3.2.2.c)), (36, (i6 v10))]) (fun s => .row s.1 3 3 1 (ii ([(0:Int), (-1:Int), (9:Int)] : List Int)) :: .box a0_g 84 [(.slice a0_0_A a0_0_n a0_0_c), (i6 v11)] :: .box x4 25 [(.slice x3.1.A x3.1.n x3.1.c), (.slice x3.2.1.A x3.2.1.n x3.2.1.c), (.slice x3.2.2.A x3.2.2.n x3.2.2.c)] :: .row x3.1.A x3.1.c 3 1 (ii v1) :: .row x3.2.1.A x3.2.1.c 3 1 (ii v2) :: .row x3.2.2.A x3.2.2.c 3 1 (ii v3) :: .box x2 25 [(.slice none 0 0), (.slice none 0 0), (.slice none 0 0)] :: .box x1 25 [(.slice a1_0_A a1_0_n a1_0_c), (.slice a1_1_A a1_1_n a1_1_c), (.slice a1_2_A a1_2_n a1_2_c)] :: F) ?_ (fun hD31 => ?_)
        · rintro ⟨x11, x12⟩
          show J _ _ [(4, (pt x2)), (5, (pt x4)), (33, (.slice x3.2.2.A x3.2.2.n x3.2.2.c)), (36, (i6 v10))] _ (.row x11 3 3 1 (ii ([(0:Int), (-1:Int), (9:Int)] : List Int)) :: .box a0_g 84 [(.slice a0_0_A a0_0_n a0_0_c), (i6 v11)] :: .box x4 25 [(.slice x3.1.A x3.1.n x3.1.c), (.slice x3.2.1.A x3.2.1.n x3.2.1.c), (.slice x3.2.2.A x3.2.2.n x3.2.2.c)] :: .row x3.1.A x3.1.c 3 1 (ii v1) :: .row x3.2.1.A x3.2.1.c 3 1 (ii v2) :: .row x3.2.2.A x3.2.2.c 3 1 (ii v3) :: .box x2 25 [(.slice none 0 0), (.slice none 0 0), (.slice none 0 0)] :: .box x1 25 [(.slice a1_0_A a1_0_n a1_0_c), (.slice a1_1_A a1_1_n a1_1_c), (.slice a1_2_A a1_2_n a1_2_c)] :: F)
          refine d_one 5 (by kernel_rfl) ?_
          · refine o_do rfl (a_litX (vs := [(i6 v10)]) (ii ([v10] : List Int)) un23 sz3 zr3 rfl rfl rfl rfl rfl rfl rfl rfl rfl) rfl rfl (fun x13 w h => h.pick 9 [4, 5, 7, 8] rfl) (fun x13 => ?_)
            refine j_rs (.row x11 3 3 1 (ii ([(0:Int), (-1:Int), (9:Int)] : List Int)) :: .row x13 1 3 1 (ii ([v10] : List Int)) :: .box a0_g 84 [(.slice a0_0_A a0_0_n a0_0_c), (i6 v11)] :: .box x4 25 [(.slice x3.1.A x3.1.n x3.1.c), (.slice x3.2.1.A x3.2.1.n x3.2.1.c), (.slice x3.2.2.A x3.2.2.n x3.2.2.c)] :: .row x3.1.A x3.1.c 3 1 (ii v1) :: .row x3.2.1.A x3.2.1.c 3 1 (ii v2) :: .row x3.2.2.A x3.2.2.c 3 1 (ii v3) :: .box x2 25 [(.slice none 0 0), (.slice none 0 0), (.slice none 0 0)] :: .box x1 25 [(.slice a1_0_A a1_0_n a1_0_c), (.slice a1_1_A a1_1_n a1_1_c), (.slice a1_2_A a1_2_n a1_2_c)] :: F) (fun _ h => h.pick 9 [1, 0, 2, 3, 4, 5, 6, 7, 8] rfl) ?_
            refine j_env [(4, (pt x2)), (5, (pt x4)), (33, (.slice x3.2.2.A x3.2.2.n x3.2.2.c)), (37, (.slice x13 1 1))] ⟨rfl, rfl, rfl, rfl, trivial⟩ ?_
            exact hD63 (x11, x12, x13)
        refine d_join (σ := (Option Addr) × Unit × (Option Addr)) 4 #[true, false, true, true, true, true, false, false, false] (fun s => [(4, (pt x2)), (5, (pt x4)), (32, (.pointer (some ⟨x4, 2, none⟩))), (37, (.slice s.2.2 1 1))]) (fun s => .row s.1 3 3 1 (ii ([(0:Int), (-1:Int), (9:Int)] : List Int)) :: .row s.2.2 1 3 1 (ii ([v10] : List Int)) :: .box a0_g 84 [(.slice a0_0_A a0_0_n a0_0_c), (i6 v11)] :: .box x4 25 [(.slice x3.1.A x3.1.n x3.1.c), (.slice x3.2.1.A x3.2.1.n x3.2.1.c), (.slice x3.2.2.A x3.2.2.n x3.2.2.c)] :: .row x3.1.A x3.1.c 3 1 (ii v1) :: .row x3.2.1.A x3.2.1.c 3 1 (ii v2) :: .row x3.2.2.A x3.2.2.c 3 1 (ii v3) :: .box x2 25 [(.slice none 0 0), (.slice none 0 0), (.slice none 0 0)] :: .box x1 25 [(.slice a1_0_A a1_0_n a1_0_c), (.slice a1_1_A a1_1_n a1_1_c), (.slice a1_2_A a1_2_n a1_2_c)] :: F) ?_ (fun hD61 => ?_)
        · rintro ⟨x11, x12, x13⟩
          show J _ _ [(4, (pt x2)), (5, (pt x4)), (32, (.pointer (some ⟨x4, 2, none⟩))), (37, (.slice x13 1 1))] _ (.row x11 3 3 1 (ii ([(0:Int), (-1:Int), (9:Int)] : List Int)) :: .row x13 1 3 1 (ii ([v10] : List Int)) :: .box a0_g 84 [(.slice a0_0_A a0_0_n a0_0_c), (i6 v11)] :: .box x4 25 [(.slice x3.1.A x3.1.n x3.1.c), (.slice x3.2.1.A x3.2.1.n x3.2.1.c), (.slice x3.2.2.A x3.2.2.n x3.2.2.c)] :: .row x3.1.A x3.1.c 3 1 (ii v1) :: .row x3.2.1.A x3.2.1.c 3 1 (ii v2) :: .row x3.2.2.A x3.2.2.c 3 1 (ii v3) :: .box x2 25 [(.slice none 0 0), (.slice none 0 0), (.slice none 0 0)] :: .box x1 25 [(.slice a1_0_A a1_0_n a1_0_c), (.slice a1_1_A a1_1_n a1_1_c), (.slice a1_2_A a1_2_n a1_2_c)] :: F)
          refine d_one 1 (by kernel_rfl) ?_
          · refine o_do rfl ((q_loadb 3 rfl ag23 rfl rfl rfl)).acts rfl rfl (fun _ w h => h.pick 9 [4, 5, 7, 8] rfl) (fun _ => ?_)
            refine j_rs (.row x11 3 3 1 (ii ([(0:Int), (-1:Int), (9:Int)] : List Int)) :: .row x13 1 3 1 (ii ([v10] : List Int)) :: .box a0_g 84 [(.slice a0_0_A a0_0_n a0_0_c), (i6 v11)] :: .box x4 25 [(.slice x3.1.A x3.1.n x3.1.c), (.slice x3.2.1.A x3.2.1.n x3.2.1.c), (.slice x3.2.2.A x3.2.2.n x3.2.2.c)] :: .row x3.1.A x3.1.c 3 1 (ii v1) :: .row x3.2.1.A x3.2.1.c 3 1 (ii v2) :: .row x3.2.2.A x3.2.2.c 3 1 (ii v3) :: .box x2 25 [(.slice none 0 0), (.slice none 0 0), (.slice none 0 0)] :: .box x1 25 [(.slice a1_0_A a1_0_n a1_0_c), (.slice a1_1_A a1_1_n a1_1_c), (.slice a1_2_A a1_2_n a1_2_c)] :: F) (fun _ h => h) ?_
            refine j_env [(4, (pt x2)), (5, (pt x4)), (33, (.slice x3.2.2.A x3.2.2.n x3.2.2.c)), (37, (.slice x13 1 1))] ⟨rfl, rfl, rfl, rfl, trivial⟩ ?_
            exact hD63 (x11, x12, x13)
        refine d_join (σ := (Option Addr)) 5 #[true, true, true, true, false, false, false, false, false] (fun s => [(4, (pt x2)), (5, (pt x4)), (33, (.slice x3.2.2.A x3.2.2.n x3.2.2.c)), (34, (pt a0_g)), (35, (.slice s 3 3))]) (fun s => .row s 3 3 1 (ii ([(0:Int), (-1:Int), (9:Int)] : List Int)) :: .box a0_g 84 [(.slice a0_0_A a0_0_n a0_0_c), (i6 v5)] :: .box x4 25 [(.slice x3.1.A x3.1.n x3.1.c), (.slice x3.2.1.A x3.2.1.n x3.2.1.c), (.slice x3.2.2.A x3.2.2.n x3.2.2.c)] :: .row x3.1.A x3.1.c 3 1 (ii v1) :: .row x3.2.1.A x3.2.1.c 3 1 (ii v2) :: .row x3.2.2.A x3.2.2.c 3 1 (ii v3) :: .box x2 25 [(.slice none 0 0), (.slice none 0 0), (.slice none 0 0)] :: .box x1 25 [(.slice a1_0_A a1_0_n a1_0_c), (.slice a1_1_A a1_1_n a1_1_c), (.slice a1_2_A a1_2_n a1_2_c)] :: F) ?_ (fun hD15 => ?_)
        · rintro x11
          show J _ _ [(4, (pt x2)), (5, (pt x4)), (33, (.slice x3.2.2.A x3.2.2.n x3.2.2.c)), (34, (pt a0_g)), (35, (.slice x11 3 3))] _ (.row x11 3 3 1 (ii ([(0:Int), (-1:Int), (9:Int)] : List Int)) :: .box a0_g 84 [(.slice a0_0_A a0_0_n a0_0_c), (i6 v5)] :: .box x4 25 [(.slice x3.1.A x3.1.n x3.1.c), (.slice x3.2.1.A x3.2.1.n x3.2.1.c), (.slice x3.2.2.A x3.2.2.n x3.2.2.c)] :: .row x3.1.A x3.1.c 3 1 (ii v1) :: .row x3.2.1.A x3.2.1.c 3 1 (ii v2) :: .row x3.2.2.A x3.2.2.c 3 1 (ii v3) :: .box x2 25 [(.slice none 0 0), (.slice none 0 0), (.slice none 0 0)] :: .box x1 25 [(.slice a1_0_A a1_0_n a1_0_c), (.slice a1_1_A a1_1_n a1_1_c), (.slice a1_2_A a1_2_n a1_2_c)] :: F)
          refine d_one 4 (by kernel_rfl) ?_
          · refine j_rs (.box a0_g 84 [(.slice a0_0_A a0_0_n a0_0_c), (i6 v5)] :: .row x11 3 3 1 (ii ([(0:Int), (-1:Int), (9:Int)] : List Int)) :: .box x4 25 [(.slice x3.1.A x3.1.n x3.1.c), (.slice x3.2.1.A x3.2.1.n x3.2.1.c), (.slice x3.2.2.A x3.2.2.n x3.2.2.c)] :: .row x3.1.A x3.1.c 3 1 (ii v1) :: .row x3.2.1.A x3.2.1.c 3 1 (ii v2) :: .row x3.2.2.A x3.2.2.c 3 1 (ii v3) :: .box x2 25 [(.slice none 0 0), (.slice none 0 0), (.slice none 0 0)] :: .box x1 25 [(.slice a1_0_A a1_0_n a1_0_c), (.slice a1_1_A a1_1_n a1_1_c), (.slice a1_2_A a1_2_n a1_2_c)] :: F) (fun _ h => h.pick 8 [1, 0, 2, 3, 4, 5, 6, 7] rfl) ?_
            refine o_do rfl (a_call ok80 rfl rfl rfl rfl (fun w hm => spec_l13Rd_num.calls K a0_g a0_0 a0_0_A a0_0_n a0_0_c v5 ([(0:Int), (-1:Int), (9:Int)] : List Int) x11 3 3 hm a0_0_h (Rd.drop 7 a0_0_R) rfl (Rd.row 0 rfl) hb5)) rfl rfl (fun x12 w h => h.pick 8 [3, 4, 6, 7] rfl) (fun x12 => ?_)
            refine j_rs (.row x11 3 3 1 (ii ([(0:Int), (-1:Int), (9:Int)] : List Int)) :: .box a0_g 84 [(.slice a0_0_A a0_0_n a0_0_c), (i6 v11)] :: .box x4 25 [(.slice x3.1.A x3.1.n x3.1.c), (.slice x3.2.1.A x3.2.1.n x3.2.1.c), (.slice x3.2.2.A x3.2.2.n x3.2.2.c)] :: .row x3.1.A x3.1.c 3 1 (ii v1) :: .row x3.2.1.A x3.2.1.c 3 1 (ii v2) :: .row x3.2.2.A x3.2.2.c 3 1 (ii v3) :: .box x2 25 [(.slice none 0 0), (.slice none 0 0), (.slice none 0 0)] :: .box x1 25 [(.slice a1_0_A a1_0_n a1_0_c), (.slice a1_1_A a1_1_n a1_1_c), (.slice a1_2_A a1_2_n a1_2_c)] :: F) (fun _ h => h.pick 8 [1, 0, 2, 3, 4, 5, 6, 7] rfl) ?_
            refine j_env [(4, (pt x2)), (5, (pt x4)), (33, (.slice x3.2.2.A x3.2.2.n x3.2.2.c)), (36, (i6 v10))] ⟨rfl, rfl, rfl, rfl, trivial⟩ ?_
            exact hD31 (x11, x12)
        refine d_join (σ := (Option Addr) × Unit) 5 #[true, false, true, true, true, false, false, false, false] (fun s => [(4, (pt x2)), (5, (pt x4)), (32, (.pointer (some ⟨x4, 2, none⟩))), (36, (i6 v10))]) (fun s => .row s.1 3 3 1 (ii ([(0:Int), (-1:Int), (9:Int)] : List Int)) :: .box a0_g 84 [(.slice a0_0_A a0_0_n a0_0_c), (i6 v11)] :: .box x4 25 [(.slice x3.1.A x3.1.n x3.1.c), (.slice x3.2.1.A x3.2.1.n x3.2.1.c), (.slice x3.2.2.A x3.2.2.n x3.2.2.c)] :: .row x3.1.A x3.1.c 3 1 (ii v1) :: .row x3.2.1.A x3.2.1.c 3 1 (ii v2) :: .row x3.2.2.A x3.2.2.c 3 1 (ii v3) :: .box x2 25 [(.slice none 0 0), (.slice none 0 0), (.slice none 0 0)] :: .box x1 25 [(.slice a1_0_A a1_0_n a1_0_c), (.slice a1_1_A a1_1_n a1_1_c), (.slice a1_2_A a1_2_n a1_2_c)] :: F) ?_ (fun hD29 => ?_)
        · rintro ⟨x11, x12⟩
          show J _ _ [(4, (pt x2)), (5, (pt x4)), (32, (.pointer (some ⟨x4, 2, none⟩))), (36, (i6 v10))] _ (.row x11 3 3 1 (ii ([(0:Int), (-1:Int), (9:Int)] : List Int)) :: .box a0_g 84 [(.slice a0_0_A a0_0_n a0_0_c), (i6 v11)] :: .box x4 25 [(.slice x3.1.A x3.1.n x3.1.c), (.slice x3.2.1.A x3.2.1.n x3.2.1.c), (.slice x3.2.2.A x3.2.2.n x3.2.2.c)] :: .row x3.1.A x3.1.c 3 1 (ii v1) :: .row x3.2.1.A x3.2.1.c 3 1 (ii v2) :: .row x3.2.2.A x3.2.2.c 3 1 (ii v3) :: .box x2 25 [(.slice none 0 0), (.slice none 0 0), (.slice none 0 0)] :: .box x1 25 [(.slice a1_0_A a1_0_n a1_0_c), (.slice a1_1_A a1_1_n a1_1_c), (.slice a1_2_A a1_2_n a1_2_c)] :: F)
          refine d_two 1 5 (by kernel_rfl) ?_ ?_
          · refine o_do rfl ((q_loadb 2 rfl ag23 rfl rfl rfl)).acts rfl rfl (fun _ w h => h.pick 8 [3, 4, 6, 7] rfl) (fun _ => ?_)
            refine j_rs (.row x11 3 3 1 (ii ([(0:Int), (-1:Int), (9:Int)] : List Int)) :: .box a0_g 84 [(.slice a0_0_A a0_0_n a0_0_c), (i6 v11)] :: .box x4 25 [(.slice x3.1.A x3.1.n x3.1.c), (.slice x3.2.1.A x3.2.1.n x3.2.1.c), (.slice x3.2.2.A x3.2.2.n x3.2.2.c)] :: .row x3.1.A x3.1.c 3 1 (ii v1) :: .row x3.2.1.A x3.2.1.c 3 1 (ii v2) :: .row x3.2.2.A x3.2.2.c 3 1 (ii v3) :: .box x2 25 [(.slice none 0 0), (.slice none 0 0), (.slice none 0 0)] :: .box x1 25 [(.slice a1_0_A a1_0_n a1_0_c), (.slice a1_1_A a1_1_n a1_1_c), (.slice a1_2_A a1_2_n a1_2_c)] :: F) (fun _ h => h) ?_
            refine j_env [(4, (pt x2)), (5, (pt x4)), (33, (.slice x3.2.2.A x3.2.2.n x3.2.2.c)), (36, (i6 v10))] ⟨rfl, rfl, rfl, rfl, trivial⟩ ?_
            exact hD31 (x11, x12)
          · refine o_do rfl (a_litX (vs := [(i6 v10)]) (ii ([v10] : List Int)) un23 sz3 zr3 rfl rfl rfl rfl rfl rfl rfl rfl rfl) rfl rfl (fun x13 w h => h.pick 9 [4, 5, 7, 8] rfl) (fun x13 => ?_)
            refine j_rs (.row x11 3 3 1 (ii ([(0:Int), (-1:Int), (9:Int)] : List Int)) :: .row x13 1 3 1 (ii ([v10] : List Int)) :: .box a0_g 84 [(.slice a0_0_A a0_0_n a0_0_c), (i6 v11)] :: .box x4 25 [(.slice x3.1.A x3.1.n x3.1.c), (.slice x3.2.1.A x3.2.1.n x3.2.1.c), (.slice x3.2.2.A x3.2.2.n x3.2.2.c)] :: .row x3.1.A x3.1.c 3 1 (ii v1) :: .row x3.2.1.A x3.2.1.c 3 1 (ii v2) :: .row x3.2.2.A x3.2.2.c 3 1 (ii v3) :: .box x2 25 [(.slice none 0 0), (.slice none 0 0), (.slice none 0 0)] :: .box x1 25 [(.slice a1_0_A a1_0_n a1_0_c), (.slice a1_1_A a1_1_n a1_1_c), (.slice a1_2_A a1_2_n a1_2_c)] :: F) (fun _ h => h.pick 9 [1, 0, 2, 3, 4, 5, 6, 7, 8] rfl) ?_
            refine j_env [(4, (pt x2)), (5, (pt x4)), (32, (.pointer (some ⟨x4, 2, none⟩))), (37, (.slice x13 1 1))] ⟨rfl, rfl, rfl, rfl, trivial⟩ ?_
            exact hD61 (x11, x12, x13)
        refine d_join (σ := Unit) 6 #[true, true, true, false, false, false, false, false, false] (fun s => [(4, (pt x2)), (5, (pt x4)), (33, (.slice x3.2.2.A x3.2.2.n x3.2.2.c)), (34, (pt a0_g))]) (fun s => .box a0_g 84 [(.slice a0_0_A a0_0_n a0_0_c), (i6 v5)] :: .box x4 25 [(.slice x3.1.A x3.1.n x3.1.c), (.slice x3.2.1.A x3.2.1.n x3.2.1.c), (.slice x3.2.2.A x3.2.2.n x3.2.2.c)] :: .row x3.1.A x3.1.c 3 1 (ii v1) :: .row x3.2.1.A x3.2.1.c 3 1 (ii v2) :: .row x3.2.2.A x3.2.2.c 3 1 (ii v3) :: .box x2 25 [(.slice none 0 0), (.slice none 0 0), (.slice none 0 0)] :: .box x1 25 [(.slice a1_0_A a1_0_n a1_0_c), (.slice a1_1_A a1_1_n a1_1_c), (.slice a1_2_A a1_2_n a1_2_c)] :: F) ?_ (fun hD7 => ?_)
        · rintro _
          show J _ _ [(4, (pt x2)), (5, (pt x4)), (33, (.slice x3.2.2.A x3.2.2.n x3.2.2.c)), (34, (pt a0_g))] _ (.box a0_g 84 [(.slice a0_0_A a0_0_n a0_0_c), (i6 v5)] :: .box x4 25 [(.slice x3.1.A x3.1.n x3.1.c), (.slice x3.2.1.A x3.2.1.n x3.2.1.c), (.slice x3.2.2.A x3.2.2.n x3.2.2.c)] :: .row x3.1.A x3.1.c 3 1 (ii v1) :: .row x3.2.1.A x3.2.1.c 3 1 (ii v2) :: .row x3.2.2.A x3.2.2.c 3 1 (ii v3) :: .box x2 25 [(.slice none 0 0), (.slice none 0 0), (.slice none 0 0)] :: .box x1 25 [(.slice a1_0_A a1_0_n a1_0_c), (.slice a1_1_A a1_1_n a1_1_c), (.slice a1_2_A a1_2_n a1_2_c)] :: F)
          refine d_one 3 (by kernel_rfl) ?_
          · refine o_do rfl (a_litX (vs := [(i6 (0:Int)), (i6 (-1:Int)), (i6 (9:Int))]) (ii ([(0:Int), (-1:Int), (9:Int)] : List Int)) un23 sz3 zr3 rfl rfl rfl rfl rfl rfl rfl rfl rfl) rfl rfl (fun x11 w h => h.pick 8 [3, 4, 6, 7] rfl) (fun x11 => ?_)
            refine j_rs (.row x11 3 3 1 (ii ([(0:Int), (-1:Int), (9:Int)] : List Int)) :: .box a0_g 84 [(.slice a0_0_A a0_0_n a0_0_c), (i6 v5)] :: .box x4 25 [(.slice x3.1.A x3.1.n x3.1.c), (.slice x3.2.1.A x3.2.1.n x3.2.1.c), (.slice x3.2.2.A x3.2.2.n x3.2.2.c)] :: .row x3.1.A x3.1.c 3 1 (ii v1) :: .row x3.2.1.A x3.2.1.c 3 1 (ii v2) :: .row x3.2.2.A x3.2.2.c 3 1 (ii v3) :: .box x2 25 [(.slice none 0 0), (.slice none 0 0), (.slice none 0 0)] :: .box x1 25 [(.slice a1_0_A a1_0_n a1_0_c), (.slice a1_1_A a1_1_n a1_1_c), (.slice a1_2_A a1_2_n a1_2_c)] :: F) (fun _ h => h) ?_
            refine j_env [(4, (pt x2)), (5, (pt x4)), (33, (.slice x3.2.2.A x3.2.2.n x3.2.2.c)), (34, (pt a0_g)), (35, (.slice x11 3 3))] ⟨rfl, rfl, rfl, rfl, rfl, trivial⟩ ?_
            exact hD15 x11
        refine d_join (σ := (Option Addr)) 6 #[true, false, true, true, false, false, false, false, false] (fun s => [(4, (pt x2)), (5, (pt x4)), (32, (.pointer (some ⟨x4, 2, none⟩))), (34, (pt a0_g)), (35, (.slice s 3 3))]) (fun s => .row s 3 3 1 (ii ([(0:Int), (-1:Int), (9:Int)] : List Int)) :: .box a0_g 84 [(.slice a0_0_A a0_0_n a0_0_c), (i6 v5)] :: .box x4 25 [(.slice x3.1.A x3.1.n x3.1.c), (.slice x3.2.1.A x3.2.1.n x3.2.1.c), (.slice x3.2.2.A x3.2.2.n x3.2.2.c)] :: .row x3.1.A x3.1.c 3 1 (ii v1) :: .row x3.2.1.A x3.2.1.c 3 1 (ii v2) :: .row x3.2.2.A x3.2.2.c 3 1 (ii v3) :: .box x2 25 [(.slice none 0 0), (.slice none 0 0), (.slice none 0 0)] :: .box x1 25 [(.slice a1_0_A a1_0_n a1_0_c), (.slice a1_1_A a1_1_n a1_1_c), (.slice a1_2_A a1_2_n a1_2_c)] :: F) ?_ (fun hD13 => ?_)
        · rintro x11
          show J _ _ [(4, (pt x2)), (5, (pt x4)), (32, (.pointer (some ⟨x4, 2, none⟩))), (34, (pt a0_g)), (35, (.slice x11 3 3))] _ (.row x11 3 3 1 (ii ([(0:Int), (-1:Int), (9:Int)] : List Int)) :: .box a0_g 84 [(.slice a0_0_A a0_0_n a0_0_c), (i6 v5)] :: .box x4 25 [(.slice x3.1.A x3.1.n x3.1.c), (.slice x3.2.1.A x3.2.1.n x3.2.1.c), (.slice x3.2.2.A x3.2.2.n x3.2.2.c)] :: .row x3.1.A x3.1.c 3 1 (ii v1) :: .row x3.2.1.A x3.2.1.c 3 1 (ii v2) :: .row x3.2.2.A x3.2.2.c 3 1 (ii v3) :: .box x2 25 [(.slice none 0 0), (.slice none 0 0), (.slice none 0 0)] :: .box x1 25 [(.slice a1_0_A a1_0_n a1_0_c), (.slice a1_1_A a1_1_n a1_1_c), (.slice a1_2_A a1_2_n a1_2_c)] :: F)
          refine d_two 1 4 (by kernel_rfl) ?_ ?_
          · refine o_do rfl ((q_loadb 2 rfl ag23 rfl rfl rfl)).acts rfl rfl (fun _ w h => h.pick 8 [3, 4, 6, 7] rfl) (fun _ => ?_)
            refine j_rs (.row x11 3 3 1 (ii ([(0:Int), (-1:Int), (9:Int)] : List Int)) :: .box a0_g 84 [(.slice a0_0_A a0_0_n a0_0_c), (i6 v5)] :: .box x4 25 [(.slice x3.1.A x3.1.n x3.1.c), (.slice x3.2.1.A x3.2.1.n x3.2.1.c), (.slice x3.2.2.A x3.2.2.n x3.2.2.c)] :: .row x3.1.A x3.1.c 3 1 (ii v1) :: .row x3.2.1.A x3.2.1.c 3 1 (ii v2) :: .row x3.2.2.A x3.2.2.c 3 1 (ii v3) :: .box x2 25 [(.slice none 0 0), (.slice none 0 0), (.slice none 0 0)] :: .box x1 25 [(.slice a1_0_A a1_0_n a1_0_c), (.slice a1_1_A a1_1_n a1_1_c), (.slice a1_2_A a1_2_n a1_2_c)] :: F) (fun _ h => h) ?_
            refine j_env [(4, (pt x2)), (5, (pt x4)), (33, (.slice x3.2.2.A x3.2.2.n x3.2.2.c)), (34, (pt a0_g)), (35, (.slice x11 3 3))] ⟨rfl, rfl, rfl, rfl, rfl, trivial⟩ ?_
            exact hD15 x11
          · refine j_rs (.box a0_g 84 [(.slice a0_0_A a0_0_n a0_0_c), (i6 v5)] :: .row x11 3 3 1 (ii ([(0:Int), (-1:Int), (9:Int)] : List Int)) :: .box x4 25 [(.slice x3.1.A x3.1.n x3.1.c), (.slice x3.2.1.A x3.2.1.n x3.2.1.c), (.slice x3.2.2.A x3.2.2.n x3.2.2.c)] :: .row x3.1.A x3.1.c 3 1 (ii v1) :: .row x3.2.1.A x3.2.1.c 3 1 (ii v2) :: .row x3.2.2.A x3.2.2.c 3 1 (ii v3) :: .box x2 25 [(.slice none 0 0), (.slice none 0 0), (.slice none 0 0)] :: .box x1 25 [(.slice a1_0_A a1_0_n a1_0_c), (.slice a1_1_A a1_1_n a1_1_c), (.slice a1_2_A a1_2_n a1_2_c)] :: F) (fun _ h => h.pick 8 [1, 0, 2, 3, 4, 5, 6, 7] rfl) ?_
            refine o_do rfl (a_call ok80 rfl rfl rfl rfl (fun w hm => spec_l13Rd_num.calls K a0_g a0_0 a0_0_A a0_0_n a0_0_c v5 ([(0:Int), (-1:Int), (9:Int)] : List Int) x11 3 3 hm a0_0_h (Rd.drop 7 a0_0_R) rfl (Rd.row 0 rfl) hb5)) rfl rfl (fun x12 w h => h.pick 8 [3, 4, 6, 7] rfl) (fun x12 => ?_)
            refine j_rs (.row x11 3 3 1 (ii ([(0:Int), (-1:Int), (9:Int)] : List Int)) :: .box a0_g 84 [(.slice a0_0_A a0_0_n a0_0_c), (i6 v11)] :: .box x4 25 [(.slice x3.1.A x3.1.n x3.1.c), (.slice x3.2.1.A x3.2.1.n x3.2.1.c), (.slice x3.2.2.A x3.2.2.n x3.2.2.c)] :: .row x3.1.A x3.1.c 3 1 (ii v1) :: .row x3.2.1.A x3.2.1.c 3 1 (ii v2) :: .row x3.2.2.A x3.2.2.c 3 1 (ii v3) :: .box x2 25 [(.slice none 0 0), (.slice none 0 0), (.slice none 0 0)] :: .box x1 25 [(.slice a1_0_A a1_0_n a1_0_c), (.slice a1_1_A a1_1_n a1_1_c), (.slice a1_2_A a1_2_n a1_2_c)] :: F) (fun _ h => h.pick 8 [1, 0, 2, 3, 4, 5, 6, 7] rfl) ?_
            refine j_env [(4, (pt x2)), (5, (pt x4)), (32, (.pointer (some ⟨x4, 2, none⟩))), (36, (i6 v10))] ⟨rfl, rfl, rfl, rfl, trivial⟩ ?_
            exact hD29 (x11, x12)
        refine d_two 1 3 (by kernel_rfl) ?_ ?_
        · refine o_do rfl ((q_loadb 1 rfl ag23 rfl rfl rfl)).acts rfl rfl (fun _ w h => h.pick 7 [2, 3, 5, 6] rfl) (fun _ => ?_)
          refine j_rs (.box a0_g 84 [(.slice a0_0_A a0_0_n a0_0_c), (i6 v5)] :: .box x4 25 [(.slice x3.1.A x3.1.n x3.1.c), (.slice x3.2.1.A x3.2.1.n x3.2.1.c), (.slice x3.2.2.A x3.2.2.n x3.2.2.c)] :: .row x3.1.A x3.1.c 3 1 (ii v1) :: .row x3.2.1.A x3.2.1.c 3 1 (ii v2) :: .row x3.2.2.A x3.2.2.c 3 1 (ii v3) :: .box x2 25 [(.slice none 0 0), (.slice none 0 0), (.slice none 0 0)] :: .box x1 25 [(.slice a1_0_A a1_0_n a1_0_c), (.slice a1_1_A a1_1_n a1_1_c), (.slice a1_2_A a1_2_n a1_2_c)] :: F) (fun _ h => h) ?_
          refine j_env [(4, (pt x2)), (5, (pt x4)), (33, (.slice x3.2.2.A x3.2.2.n x3.2.2.c)), (34, (pt a0_g))] ⟨rfl, rfl, rfl, rfl, trivial⟩ ?_
          exact hD7 ()
        · refine o_do rfl (a_litX (vs := [(i6 (0:Int)), (i6 (-1:Int)), (i6 (9:Int))]) (ii ([(0:Int), (-1:Int), (9:Int)] : List Int)) un23 sz3 zr3 rfl rfl rfl rfl rfl rfl rfl rfl rfl) rfl rfl (fun x11 w h => h.pick 8 [3, 4, 6, 7] rfl) (fun x11 => ?_)
          refine j_rs (.row x11 3 3 1 (ii ([(0:Int), (-1:Int), (9:Int)] : List Int)) :: .box a0_g 84 [(.slice a0_0_A a0_0_n a0_0_c), (i6 v5)] :: .box x4 25 [(.slice x3.1.A x3.1.n x3.1.c), (.slice x3.2.1.A x3.2.1.n x3.2.1.c), (.slice x3.2.2.A x3.2.2.n x3.2.2.c)] :: .row x3.1.A x3.1.c 3 1 (ii v1) :: .row x3.2.1.A x3.2.1.c 3 1 (ii v2) :: .row x3.2.2.A x3.2.2.c 3 1 (ii v3) :: .box x2 25 [(.slice none 0 0), (.slice none 0 0), (.slice none 0 0)] :: .box x1 25 [(.slice a1_0_A a1_0_n a1_0_c), (.slice a1_1_A a1_1_n a1_1_c), (.slice a1_2_A a1_2_n a1_2_c)] :: F) (fun _ h => h) ?_
          refine j_env [(4, (pt x2)), (5, (pt x4)), (32, (.pointer (some ⟨x4, 2, none⟩))), (34, (pt a0_g)), (35, (.slice x11 3 3))] ⟨rfl, rfl, rfl, rfl, rfl, trivial⟩ ?_
          exact hD13 x11
      · refine j_false rfl (beq_f c5) ?_
        refine j_seq ?_
        refine j_region ?_
        refine r_q (q_eql rfl rfl rfl) rfl rfl ?_
        refine r_q (q_assign rfl rfl) rfl rfl ?_
        refine r_nil ?_
        refine j_then ?_
        rcases of_if h with ⟨c7, h⟩ | ⟨c7, h⟩
        · refine j_true rfl (beq_t c7) ?_
          refine j_region ?_
          refine r_do (a_litX (vs := []) (ii ([] : List Int)) un23 sz3 zr3 rfl rfl rfl rfl rfl rfl rfl rfl rfl) rfl rfl (fun x15 => ?_)
          refine r_q (q_fieldAddr fi25_2 sz23 rfl rfl rfl) rfl rfl ?_
          refine r_do (a_storeb 2 rfl sz23 rfl rfl rfl rfl (Nat.le_of_ble_eq_true rfl) rfl) rfl rfl (fun _ => ?_)
          refine j_b2 [(.slice x3.1.A x3.1.n x3.1.c), (.slice x3.2.1.A x3.2.1.n x3.2.1.c), (.slice x15 0 0)] rfl ?_
          refine r_nil ?_
          refine j_in ?_
          refine j_then ?_
          refine j_seq ?_
          refine j_region ?_
          refine r_q (q_loadb_agg 2 rfl ag25 sz25 rfl rfl rfl rfl) rfl rfl ?_
          refine r_do (a_storeb 6 rfl sz25 rfl rfl rfl rfl (Nat.le_of_ble_eq_true rfl) rfl) rfl rfl (fun _ => ?_)
          refine j_b6 [(.slice x3.1.A x3.1.n x3.1.c), (.slice x3.2.1.A x3.2.1.n x3.2.1.c), (.slice x15 0 0)] rfl ?_
          refine r_nil ?_
          refine j_then ?_
          refine j_ret ?_
          cases h
          exact j_return rfl (ResOf.cell 6 rfl rfl ag25 sz25 ResOf.nil) rfl (fun w h => ⟨(⟨x3.1.A, x3.1.n, x3.1.c, x3.1.h⟩, ⟨x3.2.1.A, x3.2.1.n, x3.2.1.c, x3.2.1.h⟩, ⟨x15, 0, 0, rfl⟩), rfl, h.pick 8 [3, 4, 0, 1] rfl⟩)
        · refine j_false rfl (beq_f c7) ?_
          refine j_skip ?_
          refine j_in ?_
          refine j_then ?_
          refine j_seq ?_
          refine j_region ?_
          refine r_q (q_loadb_agg 1 rfl ag25 sz25 rfl rfl rfl rfl) rfl rfl ?_
          refine r_do (a_storeb 5 rfl sz25 rfl rfl rfl rfl (Nat.le_of_ble_eq_true rfl) rfl) rfl rfl (fun _ => ?_)
          refine j_b5 [(.slice x3.1.A x3.1.n x3.1.c), (.slice x3.2.1.A x3.2.1.n x3.2.1.c), (.slice x3.2.2.A x3.2.2.n x3.2.2.c)] rfl ?_
          refine r_nil ?_
          refine j_then ?_
          refine j_ret ?_
          cases h
          exact j_return rfl (ResOf.cell 5 rfl rfl ag25 sz25 ResOf.nil) rfl (fun w h => ⟨(⟨x3.1.A, x3.1.n, x3.1.c, x3.1.h⟩, ⟨x3.2.1.A, x3.2.1.n, x3.2.1.c, x3.2.1.h⟩, ⟨x3.2.2.A, x3.2.2.n, x3.2.2.c, x3.2.2.h⟩), rfl, h.pick 7 [2, 3, 4, 0] rfl⟩)

theorem spec_l4Wrong.calls (K : Nat) (a0_g : Nat) (a0_0 : List Int) (a0_0_A : Option Addr) (a0_0_n a0_0_c : Nat) (a0_1 : Int) (a1_0 : List Int) (a1_0_A : Option Addr) (a1_0_n a1_0_c : Nat) (a1_1 : List Int) (a1_1_A : Option Addr) (a1_1_n a1_1_c : Nat) (a1_2 : List Int) (a1_2_A : Option Addr) (a1_2_n a1_2_c : Nat) (a1_3 : List Int) (a1_3_A : Option Addr) (a1_3_n a1_3_c : Nat) {w0 w : World} {F : List Res} {r1 : List Int} {r2 : List Int} {r3 : List Int} {r4 : List Int} {r5 : Int} (hm : Mem w0 (.box a0_g 84 [.slice a0_0_A a0_0_n a0_0_c, i6 a0_1] :: F) w) (a0_0_h : a0_0.length = a0_0_n) (a0_0_R : Rd w0 F a0_0_A (ints .u8 a0_0)) (a1_0_h : a1_0.length = a1_0_n) (a1_0_R : Rd w0 F a1_0_A (ii a1_0)) (a1_1_h : a1_1.length = a1_1_n) (a1_1_R : Rd w0 F a1_1_A (ii a1_1)) (a1_2_h : a1_2.length = a1_2_n) (a1_2_R : Rd w0 F a1_2_A (ii a1_2)) (a1_3_h : a1_3.length = a1_3_n) (a1_3_R : Rd w0 F a1_3_A (ii a1_3)) (h : spec_l4Wrong.f K a0_0 a0_1 a1_0 a1_1 a1_2 a1_3 = some (r1, r2, r3, r4, r5)) :
    Calls Try.prog 83 (List.toArray [pt a0_g, .agg (List.toArray [.slice a1_0_A a1_0_n a1_0_c, .slice a1_1_A a1_1_n a1_1_c, .slice a1_2_A a1_2_n a1_2_c, .slice a1_3_A a1_3_n a1_3_c])]) w fun e w' => ∃ x : (Sl r1.length) × (Sl r2.length) × (Sl r3.length) × (Sl r4.length), e = .returned (.agg (List.toArray [.slice x.1.A x.1.n x.1.c, .slice x.2.1.A x.2.1.n x.2.1.c, .slice x.2.2.1.A x.2.2.1.n x.2.2.1.c, .slice x.2.2.2.A x.2.2.2.n x.2.2.2.c])) ∧ Mem w0 (.row x.1.A x.1.c 3 1 (ii r1) :: .row x.2.1.A x.2.1.c 3 1 (ii r2) :: .row x.2.2.1.A x.2.2.1.c 3 1 (ii r3) :: .row x.2.2.2.A x.2.2.2.c 3 1 (ii r4) :: .box a0_g 84 [.slice a0_0_A a0_0_n a0_0_c, i6 r5] :: F) w' := by
  unfold spec_l4Wrong.f at h
  refine calls_of_J (n := 30) Try.func83 rfl rfl rfl hm ?_
  refine j_seq ?_
  refine j_region ?_
  refine r_do (a_box rfl rfl) rfl rfl (fun x1 => ?_)
  refine r_do (a_alloc zr27 rfl) rfl rfl (fun x2 => ?_)
  refine r_nil ?_
  refine j_then ?_
  refine j_seq ?_
  refine j_region ?_
  refine r_q (q_loadb_agg 1 rfl ag27 sz27 rfl rfl rfl rfl) rfl rfl ?_
  obtain ⟨v1, v2, v3, v4, hb1, h⟩ := of_b4 h
  refine r_do (a_call ok67 rfl rfl rfl rfl (fun w hm => spec_l4Copy.calls K a1_0 a1_0_A a1_0_n a1_0_c a1_1 a1_1_A a1_1_n a1_1_c a1_2 a1_2_A a1_2_n a1_2_c a1_3 a1_3_A a1_3_n a1_3_c hm a1_0_h (Rd.drop 3 a1_0_R) a1_1_h (Rd.drop 3 a1_1_R) a1_2_h (Rd.drop 3 a1_2_R) a1_3_h (Rd.drop 3 a1_3_R) hb1)) rfl rfl (fun x3 => ?_)
  refine r_do (a_alloc zr27 rfl) rfl rfl (fun x4 => ?_)
  refine r_do (a_storeb 0 rfl sz27 rfl rfl rfl rfl (Nat.le_of_ble_eq_true rfl) rfl) rfl rfl (fun _ => ?_)
  refine j_b0 [(.slice x3.1.A x3.1.n x3.1.c), (.slice x3.2.1.A x3.2.1.n x3.2.1.c), (.slice x3.2.2.1.A x3.2.2.1.n x3.2.2.1.c), (.slice x3.2.2.2.A x3.2.2.2.n x3.2.2.2.c)] rfl ?_
  refine r_nil ?_
  refine j_then ?_
  refine j_seq ?_
  refine j_seq ?_
  refine j_region ?_
  refine r_q (q_move rfl rfl) rfl rfl ?_
  obtain ⟨v5, v6, hb2, h⟩ := of_b2 h
  refine j_rs (.box a0_g 84 [(.slice a0_0_A a0_0_n a0_0_c), (i6 a0_1)] :: .box x4 27 [(.slice x3.1.A x3.1.n x3.1.c), (.slice x3.2.1.A x3.2.1.n x3.2.1.c), (.slice x3.2.2.1.A x3.2.2.1.n x3.2.2.1.c), (.slice x3.2.2.2.A x3.2.2.2.n x3.2.2.2.c)] :: .row x3.1.A x3.1.c 3 1 (ii v1) :: .row x3.2.1.A x3.2.1.c 3 1 (ii v2) :: .row x3.2.2.1.A x3.2.2.1.c 3 1 (ii v3) :: .row x3.2.2.2.A x3.2.2.2.c 3 1 (ii v4) :: .box x2 27 [(.slice none 0 0), (.slice none 0 0), (.slice none 0 0), (.slice none 0 0)] :: .box x1 27 [(.slice a1_0_A a1_0_n a1_0_c), (.slice a1_1_A a1_1_n a1_1_c), (.slice a1_2_A a1_2_n a1_2_c), (.slice a1_3_A a1_3_n a1_3_c)] :: F) (fun _ h => h.pick 8 [7, 0, 1, 2, 3, 4, 5, 6] rfl) ?_
  refine r_do (a_call ok82 rfl rfl rfl rfl (fun w hm => spec_l13Rd_pick.calls K a0_g a0_0 a0_0_A a0_0_n a0_0_c a0_1 (20:Int) hm a0_0_h (Rd.drop 7 a0_0_R) hb2)) rfl rfl (fun x5 => ?_)
  refine r_nil ?_
  refine j_then ?_
  refine j_block ?_
  refine j_seq ?_
  refine j_region ?_
  refine r_q (q_eql rfl rfl rfl) rfl rfl ?_
  refine r_q (q_assign rfl rfl) rfl rfl ?_
  refine r_nil ?_
  refine j_then ?_
  rcases of_if h with ⟨c1, h⟩ | ⟨c1, h⟩
  · refine j_true rfl (beq_t c1) ?_
    obtain ⟨v7, v8, hb3, h⟩ := of_b2 h
    obtain ⟨c2, h⟩ := of_guard h
    refine j_draw (.row x3.1.A x3.1.c 3 1 (ii v1) :: .row x3.2.1.A x3.2.1.c 3 1 (ii v2) :: .row x3.2.2.1.A x3.2.2.1.c 3 1 (ii v3) :: .box x2 27 [(.slice none 0 0), (.slice none 0 0), (.slice none 0 0), (.slice none 0 0)] :: .box x1 27 [(.slice a1_0_A a1_0_n a1_0_c), (.slice a1_1_A a1_1_n a1_1_c), (.slice a1_2_A a1_2_n a1_2_c), (.slice a1_3_A a1_3_n a1_3_c)] :: F) 9 follows_any rfl ?_
    refine d_take 0 rfl (q_fieldAddr fi27_1 sz23 rfl rfl rfl) rfl rfl (by kernel_rfl) (by kernel_rfl) (by kernel_rfl) (fun w h => h.pick 8 [2, 3, 4, 6, 7] rfl) ?_
    refine d_take 2 rfl (q_move rfl rfl) rfl rfl (by kernel_rfl) (by kernel_rfl) (by kernel_rfl) (fun w h => h.pick 8 [2, 3, 4, 6, 7] rfl) ?_
    refine d_join (σ := (Option Addr) × Unit × (Option Addr) × (Option Addr × Nat)) 0 #[true, true, true, true, true, true, true, true, true] (fun s => [(4, (pt x2)), (5, (pt x4))]) (fun s => .row s.1 4 3 1 (ii ([(0:Int), (1:Int), (8:Int), (-1:Int)] : List Int)) :: .row s.2.2.1 1 3 1 (ii ([v7] : List Int)) :: .row s.2.2.2.1 s.2.2.2.2 3 1 (ii (v4 ++ ([v7] : List Int))) :: .box a0_g 84 [(.slice a0_0_A a0_0_n a0_0_c), (i6 v8)] :: .box x4 27 [(.slice x3.1.A x3.1.n x3.1.c), (.slice x3.2.1.A x3.2.1.n x3.2.1.c), (.slice x3.2.2.1.A x3.2.2.1.n x3.2.2.1.c), (.slice s.2.2.2.1 (x3.2.2.2.n + 1) s.2.2.2.2)] :: .row x3.1.A x3.1.c 3 1 (ii v1) :: .row x3.2.1.A x3.2.1.c 3 1 (ii v2) :: .row x3.2.2.1.A x3.2.2.1.c 3 1 (ii v3) :: .box x2 27 [(.slice none 0 0), (.slice none 0 0), (.slice none 0 0), (.slice none 0 0)] :: .box x1 27 [(.slice a1_0_A a1_0_n a1_0_c), (.slice a1_1_A a1_1_n a1_1_c), (.slice a1_2_A a1_2_n a1_2_c), (.slice a1_3_A a1_3_n a1_3_c)] :: F) ?_ (fun hD511 => ?_)
    · rintro ⟨x6, x7, x8, x9⟩
      show J _ _ [(4, (pt x2)), (5, (pt x4))] _ (.row x6 4 3 1 (ii ([(0:Int), (1:Int), (8:Int), (-1:Int)] : List Int)) :: .row x8 1 3 1 (ii ([v7] : List Int)) :: .row x9.1 x9.2 3 1 (ii (v4 ++ ([v7] : List Int))) :: .box a0_g 84 [(.slice a0_0_A a0_0_n a0_0_c), (i6 v8)] :: .box x4 27 [(.slice x3.1.A x3.1.n x3.1.c), (.slice x3.2.1.A x3.2.1.n x3.2.1.c), (.slice x3.2.2.1.A x3.2.2.1.n x3.2.2.1.c), (.slice x9.1 (x3.2.2.2.n + 1) x9.2)] :: .row x3.1.A x3.1.c 3 1 (ii v1) :: .row x3.2.1.A x3.2.1.c 3 1 (ii v2) :: .row x3.2.2.1.A x3.2.2.1.c 3 1 (ii v3) :: .box x2 27 [(.slice none 0 0), (.slice none 0 0), (.slice none 0 0), (.slice none 0 0)] :: .box x1 27 [(.slice a1_0_A a1_0_n a1_0_c), (.slice a1_1_A a1_1_n a1_1_c), (.slice a1_2_A a1_2_n a1_2_c), (.slice a1_3_A a1_3_n a1_3_c)] :: F)
      refine d_done (by kernel_rfl) ?_
      refine j_in ?_
      refine j_then ?_
      refine j_seq ?_
      refine j_region ?_
      refine r_q (q_loadb_agg 4 rfl ag27 sz27 rfl rfl rfl rfl) rfl rfl ?_
      refine r_do (a_storeb 8 rfl sz27 rfl rfl rfl rfl (Nat.le_of_ble_eq_true rfl) rfl) rfl rfl (fun _ => ?_)
      refine j_b8 [(.slice x3.1.A x3.1.n x3.1.c), (.slice x3.2.1.A x3.2.1.n x3.2.1.c), (.slice x3.2.2.1.A x3.2.2.1.n x3.2.2.1.c), (.slice x9.1 (x3.2.2.2.n + 1) x9.2)] rfl ?_
      refine r_nil ?_
      refine j_then ?_
      refine j_ret ?_
      cases h
      exact j_return rfl (ResOf.cell 8 rfl rfl ag27 sz27 ResOf.nil) rfl (fun w h => ⟨(⟨x3.1.A, x3.1.n, x3.1.c, x3.1.h⟩, ⟨x3.2.1.A, x3.2.1.n, x3.2.1.c, x3.2.1.h⟩, ⟨x3.2.2.1.A, x3.2.2.1.n, x3.2.2.1.c, x3.2.2.1.h⟩, ⟨x9.1, (x3.2.2.2.n + 1), x9.2, (app_len x3.2.2.2.h rfl)⟩), rfl, h.pick 10 [5, 6, 7, 2, 3] rfl⟩)
    refine d_join (σ := (Option Addr) × Unit × (Option Addr) × (Option Addr × Nat)) 1 #[true, true, true, true, true, true, true, true, false] (fun s => [(4, (pt x2)), (5, (pt x4)), (18, (.slice s.2.2.2.1 (x3.2.2.2.n + 1) s.2.2.2.2)), (19, (.pointer (some ⟨x4, 3, none⟩)))]) (fun s => .row s.1 4 3 1 (ii ([(0:Int), (1:Int), (8:Int), (-1:Int)] : List Int)) :: .row s.2.2.1 1 3 1 (ii ([v7] : List Int)) :: .row s.2.2.2.1 s.2.2.2.2 3 1 (ii (v4 ++ ([v7] : List Int))) :: .box a0_g 84 [(.slice a0_0_A a0_0_n a0_0_c), (i6 v8)] :: .box x4 27 [(.slice x3.1.A x3.1.n x3.1.c), (.slice x3.2.1.A x3.2.1.n x3.2.1.c), (.slice x3.2.2.1.A x3.2.2.1.n x3.2.2.1.c), (.slice x3.2.2.2.A x3.2.2.2.n x3.2.2.2.c)] :: .row x3.1.A x3.1.c 3 1 (ii v1) :: .row x3.2.1.A x3.2.1.c 3 1 (ii v2) :: .row x3.2.2.1.A x3.2.2.1.c 3 1 (ii v3) :: .box x2 27 [(.slice none 0 0), (.slice none 0 0), (.slice none 0 0), (.slice none 0 0)] :: .box x1 27 [(.slice a1_0_A a1_0_n a1_0_c), (.slice a1_1_A a1_1_n a1_1_c), (.slice a1_2_A a1_2_n a1_2_c), (.slice a1_3_A a1_3_n a1_3_c)] :: F) ?_ (fun hD255 => ?_)
    · rintro ⟨x6, x7, x8, x9⟩
      show J _ _ [(4, (pt x2)), (5, (pt x4)), (18, (.slice x9.1 (x3.2.2.2.n + 1) x9.2)), (19, (.pointer (some ⟨x4, 3, none⟩)))] _ (.row x6 4 3 1 (ii ([(0:Int), (1:Int), (8:Int), (-1:Int)] : List Int)) :: .row x8 1 3 1 (ii ([v7] : List Int)) :: .row x9.1 x9.2 3 1 (ii (v4 ++ ([v7] : List Int))) :: .box a0_g 84 [(.slice a0_0_A a0_0_n a0_0_c), (i6 v8)] :: .box x4 27 [(.slice x3.1.A x3.1.n x3.1.c), (.slice x3.2.1.A x3.2.1.n x3.2.1.c), (.slice x3.2.2.1.A x3.2.2.1.n x3.2.2.1.c), (.slice x3.2.2.2.A x3.2.2.2.n x3.2.2.2.c)] :: .row x3.1.A x3.1.c 3 1 (ii v1) :: .row x3.2.1.A x3.2.1.c 3 1 (ii v2) :: .row x3.2.2.1.A x3.2.2.1.c 3 1 (ii v3) :: .box x2 27 [(.slice none 0 0), (.slice none 0 0), (.slice none 0 0), (.slice none 0 0)] :: .box x1 27 [(.slice a1_0_A a1_0_n a1_0_c), (.slice a1_1_A a1_1_n a1_1_c), (.slice a1_2_A a1_2_n a1_2_c), (.slice a1_3_A a1_3_n a1_3_c)] :: F)
      refine d_one 8 (by kernel_rfl) ?_
      · refine o_do rfl (a_storeb 4 rfl sz23 rfl rfl rfl rfl (Nat.le_of_ble_eq_true rfl) rfl) rfl rfl (fun _ w h => (h.drop 5)) (fun _ => ?_)
        refine j_b4 [(.slice x3.1.A x3.1.n x3.1.c), (.slice x3.2.1.A x3.2.1.n x3.2.1.c), (.slice x3.2.2.1.A x3.2.2.1.n x3.2.2.1.c), (.slice x9.1 (x3.2.2.2.n + 1) x9.2)] rfl ?_
        refine j_rs (.row x6 4 3 1 (ii ([(0:Int), (1:Int), (8:Int), (-1:Int)] : List Int)) :: .row x8 1 3 1 (ii ([v7] : List Int)) :: .row x9.1 x9.2 3 1 (ii (v4 ++ ([v7] : List Int))) :: .box a0_g 84 [(.slice a0_0_A a0_0_n a0_0_c), (i6 v8)] :: .box x4 27 [(.slice x3.1.A x3.1.n x3.1.c), (.slice x3.2.1.A x3.2.1.n x3.2.1.c), (.slice x3.2.2.1.A x3.2.2.1.n x3.2.2.1.c), (.slice x9.1 (x3.2.2.2.n + 1) x9.2)] :: .row x3.1.A x3.1.c 3 1 (ii v1) :: .row x3.2.1.A x3.2.1.c 3 1 (ii v2) :: .row x3.2.2.1.A x3.2.2.1.c 3 1 (ii v3) :: .box x2 27 [(.slice none 0 0), (.slice none 0 0), (.slice none 0 0), (.slice none 0 0)] :: .box x1 27 [(.slice a1_0_A a1_0_n a1_0_c), (.slice a1_1_A a1_1_n a1_1_c), (.slice a1_2_A a1_2_n a1_2_c), (.slice a1_3_A a1_3_n a1_3_c)] :: F) (fun _ h => h) ?_
        refine j_env [(4, (pt x2)), (5, (pt x4))] ⟨rfl, rfl, trivial⟩ ?_
        exact hD511 (x6, x7, x8, x9)
    refine d_join (σ := (Option Addr) × Unit × (Option Addr)) 3 #[true, true, true, true, true, true, false, false, false] (fun s => [(4, (pt x2)), (5, (pt x4)), (13, (.slice x3.2.2.2.A x3.2.2.2.n x3.2.2.2.c)), (17, (.slice s.2.2 1 1))]) (fun s => .row s.1 4 3 1 (ii ([(0:Int), (1:Int), (8:Int), (-1:Int)] : List Int)) :: .row s.2.2 1 3 1 (ii ([v7] : List Int)) :: .box a0_g 84 [(.slice a0_0_A a0_0_n a0_0_c), (i6 v8)] :: .box x4 27 [(.slice x3.1.A x3.1.n x3.1.c), (.slice x3.2.1.A x3.2.1.n x3.2.1.c), (.slice x3.2.2.1.A x3.2.2.1.n x3.2.2.1.c), (.slice x3.2.2.2.A x3.2.2.2.n x3.2.2.2.c)] :: .row x3.1.A x3.1.c 3 1 (ii v1) :: .row x3.2.1.A x3.2.1.c 3 1 (ii v2) :: .row x3.2.2.1.A x3.2.2.1.c 3 1 (ii v3) :: .row x3.2.2.2.A x3.2.2.2.c 3 1 (ii v4) :: .box x2 27 [(.slice none 0 0), (.slice none 0 0), (.slice none 0 0), (.slice none 0 0)] :: .box x1 27 [(.slice a1_0_A a1_0_n a1_0_c), (.slice a1_1_A a1_1_n a1_1_c), (.slice a1_2_A a1_2_n a1_2_c), (.slice a1_3_A a1_3_n a1_3_c)] :: F) ?_ (fun hD63 => ?_)
    · rintro ⟨x6, x7, x8⟩
      show J _ _ [(4, (pt x2)), (5, (pt x4)), (13, (.slice x3.2.2.2.A x3.2.2.2.n x3.2.2.2.c)), (17, (.slice x8 1 1))] _ (.row x6 4 3 1 (ii ([(0:Int), (1:Int), (8:Int), (-1:Int)] : List Int)) :: .row x8 1 3 1 (ii ([v7] : List Int)) :: .box a0_g 84 [(.slice a0_0_A a0_0_n a0_0_c), (i6 v8)] :: .box x4 27 [(.slice x3.1.A x3.1.n x3.1.c), (.slice x3.2.1.A x3.2.1.n x3.2.1.c), (.slice x3.2.2.1.A x3.2.2.1.n x3.2.2.1.c), (.slice x3.2.2.2.A x3.2.2.2.n x3.2.2.2.c)] :: .row x3.1.A x3.1.c 3 1 (ii v1) :: .row x3.2.1.A x3.2.1.c 3 1 (ii v2) :: .row x3.2.2.1.A x3.2.2.1.c 3 1 (ii v3) :: .row x3.2.2.2.A x3.2.2.2.c 3 1 (ii v4) :: .box x2 27 [(.slice none 0 0), (.slice none 0 0), (.slice none 0 0), (.slice none 0 0)] :: .box x1 27 [(.slice a1_0_A a1_0_n a1_0_c), (.slice a1_1_A a1_1_n a1_1_c), (.slice a1_2_A a1_2_n a1_2_c), (.slice a1_3_A a1_3_n a1_3_c)] :: F)
      refine d_one 6 (by kernel_rfl) ?_
      · refine o_do rfl (a_appI (xs := v4) (ys := ([v7] : List Int)) 7 un23 un23 sz3 by3 zr3 rfl rfl rfl rfl rfl rfl rfl rfl rfl x3.2.2.2.h rfl (Rd.row 1 rfl) c2) rfl rfl (fun x9 w h => h.pick 10 [4, 5, 6, 8, 9] rfl) (fun x9 => ?_)
        refine j_s7 ?_
        refine d_take 7 rfl (q_fieldAddr fi27_1 sz23 rfl rfl rfl) rfl rfl (by kernel_rfl) (by kernel_rfl) (by kernel_rfl) (fun w h => h.pick 10 [4, 5, 6, 8, 9] rfl) ?_
        refine j_rs (.row x6 4 3 1 (ii ([(0:Int), (1:Int), (8:Int), (-1:Int)] : List Int)) :: .row x8 1 3 1 (ii ([v7] : List Int)) :: .row x9.1 x9.2 3 1 (ii (v4 ++ ([v7] : List Int))) :: .box a0_g 84 [(.slice a0_0_A a0_0_n a0_0_c), (i6 v8)] :: .box x4 27 [(.slice x3.1.A x3.1.n x3.1.c), (.slice x3.2.1.A x3.2.1.n x3.2.1.c), (.slice x3.2.2.1.A x3.2.2.1.n x3.2.2.1.c), (.slice x3.2.2.2.A x3.2.2.2.n x3.2.2.2.c)] :: .row x3.1.A x3.1.c 3 1 (ii v1) :: .row x3.2.1.A x3.2.1.c 3 1 (ii v2) :: .row x3.2.2.1.A x3.2.2.1.c 3 1 (ii v3) :: .box x2 27 [(.slice none 0 0), (.slice none 0 0), (.slice none 0 0), (.slice none 0 0)] :: .box x1 27 [(.slice a1_0_A a1_0_n a1_0_c), (.slice a1_1_A a1_1_n a1_1_c), (.slice a1_2_A a1_2_n a1_2_c), (.slice a1_3_A a1_3_n a1_3_c)] :: F) (fun _ h => h.pick 10 [0, 1, 7, 2, 3, 4, 5, 6, 8, 9] rfl) ?_
        refine j_env [(4, (pt x2)), (5, (pt x4)), (18, (.slice x9.1 (x3.2.2.2.n + 1) x9.2)), (19, (.pointer (some ⟨x4, 3, none⟩)))] ⟨rfl, rfl, rfl, rfl, trivial⟩ ?_
        exact hD255 (x6, x7, x8, x9)
    refine d_join (σ := (Option Addr) × Unit) 4 #[true, true, true, true, true, false, false, false, false] (fun s => [(4, (pt x2)), (5, (pt x4)), (13, (.slice x3.2.2.2.A x3.2.2.2.n x3.2.2.2.c)), (16, (i6 v7))]) (fun s => .row s.1 4 3 1 (ii ([(0:Int), (1:Int), (8:Int), (-1:Int)] : List Int)) :: .box a0_g 84 [(.slice a0_0_A a0_0_n a0_0_c), (i6 v8)] :: .box x4 27 [(.slice x3.1.A x3.1.n x3.1.c), (.slice x3.2.1.A x3.2.1.n x3.2.1.c), (.slice x3.2.2.1.A x3.2.2.1.n x3.2.2.1.c), (.slice x3.2.2.2.A x3.2.2.2.n x3.2.2.2.c)] :: .row x3.1.A x3.1.c 3 1 (ii v1) :: .row x3.2.1.A x3.2.1.c 3 1 (ii v2) :: .row x3.2.2.1.A x3.2.2.1.c 3 1 (ii v3) :: .row x3.2.2.2.A x3.2.2.2.c 3 1 (ii v4) :: .box x2 27 [(.slice none 0 0), (.slice none 0 0), (.slice none 0 0), (.slice none 0 0)] :: .box x1 27 [(.slice a1_0_A a1_0_n a1_0_c), (.slice a1_1_A a1_1_n a1_1_c), (.slice a1_2_A a1_2_n a1_2_c), (.slice a1_3_A a1_3_n a1_3_c)] :: F) ?_ (fun hD31 => ?_)
    · rintro ⟨x6, x7⟩
      show J _ _ [(4, (pt x2)), (5, (pt x4)), (13, (.slice x3.2.2.2.A x3.2.2.2.n x3.2.2.2.c)), (16, (i6 v7))] _ (.row x6 4 3 1 (ii ([(0:Int), (1:Int), (8:Int), (-1:Int)] : List Int)) :: .box a0_g 84 [(.slice a0_0_A a0_0_n a0_0_c), (i6 v8)] :: .box x4 27 [(.slice x3.1.A x3.1.n x3.1.c), (.slice x3.2.1.A x3.2.1.n x3.2.1.c), (.slice x3.2.2.1.A x3.2.2.1.n x3.2.2.1.c), (.slice x3.2.2.2.A x3.2.2.2.n x3.2.2.2.c)] :: .row x3.1.A x3.1.c 3 1 (ii v1) :: .row x3.2.1.A x3.2.1.c 3 1 (ii v2) :: .row x3.2.2.1.A x3.2.2.1.c 3 1 (ii v3) :: .row x3.2.2.2.A x3.2.2.2.c 3 1 (ii v4) :: .box x2 27 [(.slice none 0 0), (.slice none 0 0), (.slice none 0 0), (.slice none 0 0)] :: .box x1 27 [(.slice a1_0_A a1_0_n a1_0_c), (.slice a1_1_A a1_1_n a1_1_c), (.slice a1_2_A a1_2_n a1_2_c), (.slice a1_3_A a1_3_n a1_3_c)] :: F)
      refine d_one 5 (by kernel_rfl) ?_
      · refine o_do rfl (a_litX (vs := [(i6 v7)]) (ii ([v7] : List Int)) un23 sz3 zr3 rfl rfl rfl rfl rfl rfl rfl rfl rfl) rfl rfl (fun x8 w h => h.pick 10 [4, 5, 6, 8, 9] rfl) (fun x8 => ?_)
        refine j_rs (.row x6 4 3 1 (ii ([(0:Int), (1:Int), (8:Int), (-1:Int)] : List Int)) :: .row x8 1 3 1 (ii ([v7] : List Int)) :: .box a0_g 84 [(.slice a0_0_A a0_0_n a0_0_c), (i6 v8)] :: .box x4 27 [(.slice x3.1.A x3.1.n x3.1.c), (.slice x3.2.1.A x3.2.1.n x3.2.1.c), (.slice x3.2.2.1.A x3.2.2.1.n x3.2.2.1.c), (.slice x3.2.2.2.A x3.2.2.2.n x3.2.2.2.c)] :: .row x3.1.A x3.1.c 3 1 (ii v1) :: .row x3.2.1.A x3.2.1.c 3 1 (ii v2) :: .row x3.2.2.1.A x3.2.2.1.c 3 1 (ii v3) :: .row x3.2.2.2.A x3.2.2.2.c 3 1 (ii v4) :: .box x2 27 [(.slice none 0 0), (.slice none 0 0), (.slice none 0 0), (.slice none 0 0)] :: .box x1 27 [(.slice a1_0_A a1_0_n a1_0_c), (.slice a1_1_A a1_1_n a1_1_c), (.slice a1_2_A a1_2_n a1_2_c), (.slice a1_3_A a1_3_n a1_3_c)] :: F) (fun _ h => h.pick 10 [1, 0, 2, 3, 4, 5, 6, 7, 8, 9] rfl) ?_
        refine j_env [(4, (pt x2)), (5, (pt x4)), (13, (.slice x3.2.2.2.A x3.2.2.2.n x3.2.2.2.c)), (17, (.slice x8 1 1))] ⟨rfl, rfl, rfl, rfl, trivial⟩ ?_
        exact hD63 (x6, x7, x8)
    refine d_join (σ := (Option Addr) × Unit × (Option Addr)) 4 #[true, false, true, true, true, true, false, false, false] (fun s => [(4, (pt x2)), (5, (pt x4)), (12, (.pointer (some ⟨x4, 3, none⟩))), (17, (.slice s.2.2 1 1))]) (fun s => .row s.1 4 3 1 (ii ([(0:Int), (1:Int), (8:Int), (-1:Int)] : List Int)) :: .row s.2.2 1 3 1 (ii ([v7] : List Int)) :: .box a0_g 84 [(.slice a0_0_A a0_0_n a0_0_c), (i6 v8)] :: .box x4 27 [(.slice x3.1.A x3.1.n x3.1.c), (.slice x3.2.1.A x3.2.1.n x3.2.1.c), (.slice x3.2.2.1.A x3.2.2.1.n x3.2.2.1.c), (.slice x3.2.2.2.A x3.2.2.2.n x3.2.2.2.c)] :: .row x3.1.A x3.1.c 3 1 (ii v1) :: .row x3.2.1.A x3.2.1.c 3 1 (ii v2) :: .row x3.2.2.1.A x3.2.2.1.c 3 1 (ii v3) :: .row x3.2.2.2.A x3.2.2.2.c 3 1 (ii v4) :: .box x2 27 [(.slice none 0 0), (.slice none 0 0), (.slice none 0 0), (.slice none 0 0)] :: .box x1 27 [(.slice a1_0_A a1_0_n a1_0_c), (.slice a1_1_A a1_1_n a1_1_c), (.slice a1_2_A a1_2_n a1_2_c), (.slice a1_3_A a1_3_n a1_3_c)] :: F) ?_ (fun hD61 => ?_)
    · rintro ⟨x6, x7, x8⟩
      show J _ _ [(4, (pt x2)), (5, (pt x4)), (12, (.pointer (some ⟨x4, 3, none⟩))), (17, (.slice x8 1 1))] _ (.row x6 4 3 1 (ii ([(0:Int), (1:Int), (8:Int), (-1:Int)] : List Int)) :: .row x8 1 3 1 (ii ([v7] : List Int)) :: .box a0_g 84 [(.slice a0_0_A a0_0_n a0_0_c), (i6 v8)] :: .box x4 27 [(.slice x3.1.A x3.1.n x3.1.c), (.slice x3.2.1.A x3.2.1.n x3.2.1.c), (.slice x3.2.2.1.A x3.2.2.1.n x3.2.2.1.c), (.slice x3.2.2.2.A x3.2.2.2.n x3.2.2.2.c)] :: .row x3.1.A x3.1.c 3 1 (ii v1) :: .row x3.2.1.A x3.2.1.c 3 1 (ii v2) :: .row x3.2.2.1.A x3.2.2.1.c 3 1 (ii v3) :: .row x3.2.2.2.A x3.2.2.2.c 3 1 (ii v4) :: .box x2 27 [(.slice none 0 0), (.slice none 0 0), (.slice none 0 0), (.slice none 0 0)] :: .box x1 27 [(.slice a1_0_A a1_0_n a1_0_c), (.slice a1_1_A a1_1_n a1_1_c), (.slice a1_2_A a1_2_n a1_2_c), (.slice a1_3_A a1_3_n a1_3_c)] :: F)
      refine d_one 1 (by kernel_rfl) ?_
      · refine o_do rfl ((q_loadb 3 rfl ag23 rfl rfl rfl)).acts rfl rfl (fun _ w h => h.pick 10 [4, 5, 6, 8, 9] rfl) (fun _ => ?_)
        refine j_rs (.row x6 4 3 1 (ii ([(0:Int), (1:Int), (8:Int), (-1:Int)] : List Int)) :: .row x8 1 3 1 (ii ([v7] : List Int)) :: .box a0_g 84 [(.slice a0_0_A a0_0_n a0_0_c), (i6 v8)] :: .box x4 27 [(.slice x3.1.A x3.1.n x3.1.c), (.slice x3.2.1.A x3.2.1.n x3.2.1.c), (.slice x3.2.2.1.A x3.2.2.1.n x3.2.2.1.c), (.slice x3.2.2.2.A x3.2.2.2.n x3.2.2.2.c)] :: .row x3.1.A x3.1.c 3 1 (ii v1) :: .row x3.2.1.A x3.2.1.c 3 1 (ii v2) :: .row x3.2.2.1.A x3.2.2.1.c 3 1 (ii v3) :: .row x3.2.2.2.A x3.2.2.2.c 3 1 (ii v4) :: .box x2 27 [(.slice none 0 0), (.slice none 0 0), (.slice none 0 0), (.slice none 0 0)] :: .box x1 27 [(.slice a1_0_A a1_0_n a1_0_c), (.slice a1_1_A a1_1_n a1_1_c), (.slice a1_2_A a1_2_n a1_2_c), (.slice a1_3_A a1_3_n a1_3_c)] :: F) (fun _ h => h) ?_
        refine j_env [(4, (pt x2)), (5, (pt x4)), (13, (.slice x3.2.2.2.A x3.2.2.2.n x3.2.2.2.c)), (17, (.slice x8 1 1))] ⟨rfl, rfl, rfl, rfl, trivial⟩ ?_
        exact hD63 (x6, x7, x8)
    refine d_join (σ := (Option Addr)) 5 #[true, true, true, true, false, false, false, false, false] (fun s => [(4, (pt x2)), (5, (pt x4)), (13, (.slice x3.2.2.2.A x3.2.2.2.n x3.2.2.2.c)), (14, (pt a0_g)), (15, (.slice s 4 4))]) (fun s => .row s 4 3 1 (ii ([(0:Int), (1:Int), (8:Int), (-1:Int)] : List Int)) :: .box a0_g 84 [(.slice a0_0_A a0_0_n a0_0_c), (i6 v6)] :: .box x4 27 [(.slice x3.1.A x3.1.n x3.1.c), (.slice x3.2.1.A x3.2.1.n x3.2.1.c), (.slice x3.2.2.1.A x3.2.2.1.n x3.2.2.1.c), (.slice x3.2.2.2.A x3.2.2.2.n x3.2.2.2.c)] :: .row x3.1.A x3.1.c 3 1 (ii v1) :: .row x3.2.1.A x3.2.1.c 3 1 (ii v2) :: .row x3.2.2.1.A x3.2.2.1.c 3 1 (ii v3) :: .row x3.2.2.2.A x3.2.2.2.c 3 1 (ii v4) :: .box x2 27 [(.slice none 0 0), (.slice none 0 0), (.slice none 0 0), (.slice none 0 0)] :: .box x1 27 [(.slice a1_0_A a1_0_n a1_0_c), (.slice a1_1_A a1_1_n a1_1_c), (.slice a1_2_A a1_2_n a1_2_c), (.slice a1_3_A a1_3_n a1_3_c)] :: F) ?_ (fun hD15 => ?_)
    · rintro x6
      show J _ _ [(4, (pt x2)), (5, (pt x4)), (13, (.slice x3.2.2.2.A x3.2.2.2.n x3.2.2.2.c)), (14, (pt a0_g)), (15, (.slice x6 4 4))] _ (.row x6 4 3 1 (ii ([(0:Int), (1:Int), (8:Int), (-1:Int)] : List Int)) :: .box a0_g 84 [(.slice a0_0_A a0_0_n a0_0_c), (i6 v6)] :: .box x4 27 [(.slice x3.1.A x3.1.n x3.1.c), (.slice x3.2.1.A x3.2.1.n x3.2.1.c), (.slice x3.2.2.1.A x3.2.2.1.n x3.2.2.1.c), (.slice x3.2.2.2.A x3.2.2.2.n x3.2.2.2.c)] :: .row x3.1.A x3.1.c 3 1 (ii v1) :: .row x3.2.1.A x3.2.1.c 3 1 (ii v2) :: .row x3.2.2.1.A x3.2.2.1.c 3 1 (ii v3) :: .row x3.2.2.2.A x3.2.2.2.c 3 1 (ii v4) :: .box x2 27 [(.slice none 0 0), (.slice none 0 0), (.slice none 0 0), (.slice none 0 0)] :: .box x1 27 [(.slice a1_0_A a1_0_n a1_0_c), (.slice a1_1_A a1_1_n a1_1_c), (.slice a1_2_A a1_2_n a1_2_c), (.slice a1_3_A a1_3_n a1_3_c)] :: F)
      refine d_one 4 (by kernel_rfl) ?_
      · refine j_rs (.box a0_g 84 [(.slice a0_0_A a0_0_n a0_0_c), (i6 v6)] :: .row x6 4 3 1 (ii ([(0:Int), (1:Int), (8:Int), (-1:Int)] : List Int)) :: .box x4 27 [(.slice x3.1.A x3.1.n x3.1.c), (.slice x3.2.1.A x3.2.1.n x3.2.1.c), (.slice x3.2.2.1.A x3.2.2.1.n x3.2.2.1.c), (.slice x3.2.2.2.A x3.2.2.2.n x3.2.2.2.c)] :: .row x3.1.A x3.1.c 3 1 (ii v1) :: .row x3.2.1.A x3.2.1.c 3 1 (ii v2) :: .row x3.2.2.1.A x3.2.2.1.c 3 1 (ii v3) :: .row x3.2.2.2.A x3.2.2.2.c 3 1 (ii v4) :: .box x2 27 [(.slice none 0 0), (.slice none 0 0), (.slice none 0 0), (.slice none 0 0)] :: .box x1 27 [(.slice a1_0_A a1_0_n a1_0_c), (.slice a1_1_A a1_1_n a1_1_c), (.slice a1_2_A a1_2_n a1_2_c), (.slice a1_3_A a1_3_n a1_3_c)] :: F) (fun _ h => h.pick 9 [1, 0, 2, 3, 4, 5, 6, 7, 8] rfl) ?_
        refine o_do rfl (a_call ok80 rfl rfl rfl rfl (fun w hm => spec_l13Rd_num.calls K a0_g a0_0 a0_0_A a0_0_n a0_0_c v6 ([(0:Int), (1:Int), (8:Int), (-1:Int)] : List Int) x6 4 4 hm a0_0_h (Rd.drop 8 a0_0_R) rfl (Rd.row 0 rfl) hb3)) rfl rfl (fun x7 w h => h.pick 9 [3, 4, 5, 7, 8] rfl) (fun x7 => ?_)
        refine j_rs (.row x6 4 3 1 (ii ([(0:Int), (1:Int), (8:Int), (-1:Int)] : List Int)) :: .box a0_g 84 [(.slice a0_0_A a0_0_n a0_0_c), (i6 v8)] :: .box x4 27 [(.slice x3.1.A x3.1.n x3.1.c), (.slice x3.2.1.A x3.2.1.n x3.2.1.c), (.slice x3.2.2.1.A x3.2.2.1.n x3.2.2.1.c), (.slice x3.2.2.2.A x3.2.2.2.n x3.2.2.2.c)] :: .row x3.1.A x3.1.c 3 1 (ii v1) :: .row x3.2.1.A x3.2.1.c 3 1 (ii v2) :: .row x3.2.2.1.A x3.2.2.1.c 3 1 (ii v3) :: .row x3.2.2.2.A x3.2.2.2.c 3 1 (ii v4) :: .box x2 27 [(.slice none 0 0), (.slice none 0 0), (.slice none 0 0), (.slice none 0 0)] :: .box x1 27 [(.slice a1_0_A a1_0_n a1_0_c), (.slice a1_1_A a1_1_n a1_1_c), (.slice a1_2_A a1_2_n a1_2_c), (.slice a1_3_A a1_3_n a1_3_c)] :: F) (fun _ h => h.pick 9 [1, 0, 2, 3, 4, 5, 6, 7, 8] rfl) ?_
        refine j_env [(4, (pt x2)), (5, (pt x4)), (13, (.slice x3.2.2.2.A x3.2.2.2.n x3.2.2.2.c)), (16, (i6 v7))] ⟨rfl, rfl, rfl, rfl, trivial⟩ ?_
        exact hD31 (x6, x7)
    refine d_join (σ := (Option Addr) × Unit) 5 #[true, false, true, true, true, false, false, false, false] (fun s => [(4, (pt x2)), (5, (pt x4)), (12, (.pointer (some ⟨x4, 3, none⟩))), (16, (i6 v7))]) (fun s => .row s.1 4 3 1 (ii ([(0:Int), (1:Int), (8:Int), (-1:Int)] : List Int)) :: .box a0_g 84 [(.slice a0_0_A a0_0_n a0_0_c), (i6 v8)] :: .box x4 27 [(.slice x3.1.A x3.1.n x3.1.c), (.slice x3.2.1.A x3.2.1.n x3.2.1.c), (.slice x3.2.2.1.A x3.2.2.1.n x3.2.2.1.c), (.slice x3.2.2.2.A x3.2.2.2.n x3.2.2.2.c)] :: .row x3.1.A x3.1.c 3 1 (ii v1) :: .row x3.2.1.A x3.2.1.c 3 1 (ii v2) :: .row x3.2.2.1.A x3.2.2.1.c 3 1 (ii v3) :: .row x3.2.2.2.A x3.2.2.2.c 3 1 (ii v4) :: .box x2 27 [(.slice none 0 0), (.slice none 0 0), (.slice none 0 0), (.slice none 0 0)] :: .box x1 27 [(.slice a1_0_A a1_0_n a1_0_c), (.slice a1_1_A a1_1_n a1_1_c), (.slice a1_2_A a1_2_n a1_2_c), (.slice a1_3_A a1_3_n a1_3_c)] :: F) ?_ (fun hD29 => ?_)
    · rintro ⟨x6, x7⟩
      show J _ _ [(4, (pt x2)), (5, (pt x4)), (12, (.pointer (some ⟨x4, 3, none⟩))), (16, (i6 v7))] _ (.row x6 4 3 1 (ii ([(0:Int), (1:Int), (8:Int), (-1:Int)] : List Int)) :: .box a0_g 84 [(.slice a0_0_A a0_0_n a0_0_c), (i6 v8)] :: .box x4 27 [(.slice x3.1.A x3.1.n x3.1.c), (.slice x3.2.1.A x3.2.1.n x3.2.1.c), (.slice x3.2.2.1.A x3.2.2.1.n x3.2.2.1.c), (.slice x3.2.2.2.A x3.2.2.2.n x3.2.2.2.c)] :: .row x3.1.A x3.1.c 3 1 (ii v1) :: .row x3.2.1.A x3.2.1.c 3 1 (ii v2) :: .row x3.2.2.1.A x3.2.2.1.c 3 1 (ii v3) :: .row x3.2.2.2.A x3.2.2.2.c 3 1 (ii v4) :: .box x2 27 [(.slice none 0 0), (.slice none 0 0), (.slice none 0 0), (.slice none 0 0)] :: .box x1 27 [(.slice a1_0_A a1_0_n a1_0_c), (.slice a1_1_A a1_1_n a1_1_c), (.slice a1_2_A a1_2_n a1_2_c), (.slice a1_3_A a1_3_n a1_3_c)] :: F)
      refine d_two 1 5 (by kernel_rfl) ?_ ?_
      · refine o_do rfl ((q_loadb 2 rfl ag23 rfl rfl rfl)).acts rfl rfl (fun _ w h => h.pick 9 [3, 4, 5, 7, 8] rfl) (fun _ => ?_)
        refine j_rs (.row x6 4 3 1 (ii ([(0:Int), (1:Int), (8:Int), (-1:Int)] : List Int)) :: .box a0_g 84 [(.slice a0_0_A a0_0_n a0_0_c), (i6 v8)] :: .box x4 27 [(.slice x3.1.A x3.1.n x3.1.c), (.slice x3.2.1.A x3.2.1.n x3.2.1.c), (.slice x3.2.2.1.A x3.2.2.1.n x3.2.2.1.c), (.slice x3.2.2.2.A x3.2.2.2.n x3.2.2.2.c)] :: .row x3.1.A x3.1.c 3 1 (ii v1) :: .row x3.2.1.A x3.2.1.c 3 1 (ii v2) :: .row x3.2.2.1.A x3.2.2.1.c 3 1 (ii v3) :: .row x3.2.2.2.A x3.2.2.2.c 3 1 (ii v4) :: .box x2 27 [(.slice none 0 0), (.slice none 0 0), (.slice none 0 0), (.slice none 0 0)] :: .box x1 27 [(.slice a1_0_A a1_0_n a1_0_c), (.slice a1_1_A a1_1_n a1_1_c), (.slice a1_2_A a1_2_n a1_2_c), (.slice a1_3_A a1_3_n a1_3_c)] :: F) (fun _ h => h) ?_
        refine j_env [(4, (pt x2)), (5, (pt x4)), (13, (.slice x3.2.2.2.A x3.2.2.2.n x3.2.2.2.c)), (16, (i6 v7))] ⟨rfl, rfl, rfl, rfl, trivial⟩ ?_
        exact hD31 (x6, x7)
      · refine o_do rfl (a_litX (vs := [(i6 v7)]) (ii ([v7] : List Int)) un23 sz3 zr3 rfl rfl rfl rfl rfl rfl rfl rfl rfl) rfl rfl (fun x8 w h => h.pick 10 [4, 5, 6, 8, 9] rfl) (fun x8 => ?_)
        refine j_rs (.row x6 4 3 1 (ii ([(0:Int), (1:Int), (8:Int), (-1:Int)] : List Int)) :: .row x8 1 3 1 (ii ([v7] : List Int)) :: .box a0_g 84 [(.slice a0_0_A a0_0_n a0_0_c), (i6 v8)] :: .box x4 27 [(.slice x3.1.A x3.1.n x3.1.c), (.slice x3.2.1.A x3.2.1.n x3.2.1.c), (.slice x3.2.2.1.A x3.2.2.1.n x3.2.2.1.c), (.slice x3.2.2.2.A x3.2.2.2.n x3.2.2.2.c)] :: .row x3.1.A x3.1.c 3 1 (ii v1) :: .row x3.2.1.A x3.2.1.c 3 1 (ii v2) :: .row x3.2.2.1.A x3.2.2.1.c 3 1 (ii v3) :: .row x3.2.2.2.A x3.2.2.2.c 3 1 (ii v4) :: .box x2 27 [(.slice none 0 0), (.slice none 0 0), (.slice none 0 0), (.slice none 0 0)] :: .box x1 27 [(.slice a1_0_A a1_0_n a1_0_c), (.slice a1_1_A a1_1_n a1_1_c), (.slice a1_2_A a1_2_n a1_2_c), (.slice a1_3_A a1_3_n a1_3_c)] :: F) (fun _ h => h.pick 10 [1, 0, 2, 3, 4, 5, 6, 7, 8, 9] rfl) ?_
        refine j_env [(4, (pt x2)), (5, (pt x4)), (12, (.pointer (some ⟨x4, 3, none⟩))), (17, (.slice x8 1 1))] ⟨rfl, rfl, rfl, rfl, trivial⟩ ?_
        exact hD61 (x6, x7, x8)
    refine d_join (σ := Unit) 6 #[true, true, true, false, false, false, false, false, false] (fun s => [(4, (pt x2)), (5, (pt x4)), (13, (.slice x3.2.2.2.A x3.2.2.2.n x3.2.2.2.c)), (14, (pt a0_g))]) (fun s => .box a0_g 84 [(.slice a0_0_A a0_0_n a0_0_c), (i6 v6)] :: .box x4 27 [(.slice x3.1.A x3.1.n x3.1.c), (.slice x3.2.1.A x3.2.1.n x3.2.1.c), (.slice x3.2.2.1.A x3.2.2.1.n x3.2.2.1.c), (.slice x3.2.2.2.A x3.2.2.2.n x3.2.2.2.c)] :: .row x3.1.A x3.1.c 3 1 (ii v1) :: .row x3.2.1.A x3.2.1.c 3 1 (ii v2) :: .row x3.2.2.1.A x3.2.2.1.c 3 1 (ii v3) :: .row x3.2.2.2.A x3.2.2.2.c 3 1 (ii v4) :: .box x2 27 [(.slice none 0 0), (.slice none 0 0), (.slice none 0 0), (.slice none 0 0)] :: .box x1 27 [(.slice a1_0_A a1_0_n a1_0_c), (.slice a1_1_A a1_1_n a1_1_c), (.slice a1_2_A a1_2_n a1_2_c), (.slice a1_3_A a1_3_n a1_3_c)] :: F) ?_ (fun hD7 => ?_)
    · rintro _
      show J _ _ [(4, (pt x2)), (5, (pt x4)), (13, (.slice x3.2.2.2.A x3.2.2.2.n x3.2.2.2.c)), (14, (pt a0_g))] _ (.box a0_g 84 [(.slice a0_0_A a0_0_n a0_0_c), (i6 v6)] :: .box x4 27 [(.slice x3.1.A x3.1.n x3.1.c), (.slice x3.2.1.A x3.2.1.n x3.2.1.c), (.slice x3.2.2.1.A x3.2.2.1.n x3.2.2.1.c), (.slice x3.2.2.2.A x3.2.2.2.n x3.2.2.2.c)] :: .row x3.1.A x3.1.c 3 1 (ii v1) :: .row x3.2.1.A x3.2.1.c 3 1 (ii v2) :: .row x3.2.2.1.A x3.2.2.1.c 3 1 (ii v3) :: .row x3.2.2.2.A x3.2.2.2.c 3 1 (ii v4) :: .box x2 27 [(.slice none 0 0), (.slice none 0 0), (.slice none 0 0), (.slice none 0 0)] :: .box x1 27 [(.slice a1_0_A a1_0_n a1_0_c), (.slice a1_1_A a1_1_n a1_1_c), (.slice a1_2_A a1_2_n a1_2_c), (.slice a1_3_A a1_3_n a1_3_c)] :: F)
      refine d_one 3 (by kernel_rfl) ?_
      · refine o_do rfl (a_litX (vs := [(i6 (0:Int)), (i6 (1:Int)), (i6 (8:Int)), (i6 (-1:Int))]) (ii ([(0:Int), (1:Int), (8:Int), (-1:Int)] : List Int)) un23 sz3 zr3 rfl rfl rfl rfl rfl rfl rfl rfl rfl) rfl rfl (fun x6 w h => h.pick 9 [3, 4, 5, 7, 8] rfl) (fun x6 => ?_)
        refine j_rs (.row x6 4 3 1 (ii ([(0:Int), (1:Int), (8:Int), (-1:Int)] : List Int)) :: .box a0_g 84 [(.slice a0_0_A a0_0_n a0_0_c), (i6 v6)] :: .box x4 27 [(.slice x3.1.A x3.1.n x3.1.c), (.slice x3.2.1.A x3.2.1.n x3.2.1.c), (.slice x3.2.2.1.A x3.2.2.1.n x3.2.2.1.c), (.slice x3.2.2.2.A x3.2.2.2.n x3.2.2.2.c)] :: .row x3.1.A x3.1.c 3 1 (ii v1) :: .row x3.2.1.A x3.2.1.c 3 1 (ii v2) :: .row x3.2.2.1.A x3.2.2.1.c 3 1 (ii v3) :: .row x3.2.2.2.A x3.2.2.2.c 3 1 (ii v4) :: .box x2 27 [(.slice none 0 0), (.slice none 0 0), (.slice none 0 0), (.slice none 0 0)] :: .box x1 27 [(.slice a1_0_A a1_0_n a1_0_c), (.slice a1_1_A a1_1_n a1_1_c), (.slice a1_2_A a1_2_n a1_2_c), (.slice a1_3_A a1_3_n a1_3_c)] :: F) (fun _ h => h) ?_
        refine j_env [(4, (pt x2)), (5, (pt x4)), (13, (.slice x3.2.2.2.A x3.2.2.2.n x3.2.2.2.c)), (14, (pt a0_g)), (15, (.slice x6 4 4))] ⟨rfl, rfl, rfl, rfl, rfl, trivial⟩ ?_
        exact hD15 x6
    refine d_join (σ := (Option Addr)) 6 #[true, false, true, true, false, false, false, false, false] (fun s => [(4, (pt x2)), (5, (pt x4)), (12, (.pointer (some ⟨x4, 3, none⟩))), (14, (pt a0_g)), (15, (.slice s 4 4))]) (fun s => .row s 4 3 1 (ii ([(0:Int), (1:Int), (8:Int), (-1:Int)] : List Int)) :: .box a0_g 84 [(.slice a0_0_A a0_0_n a0_0_c), (i6 v6)] :: .box x4 27 [(.slice x3.1.A x3.1.n x3.1.c), (.slice x3.2.1.A x3.2.1.n x3.2.1.c), (.slice x3.2.2.1.A x3.2.2.1.n x3.2.2.1.c), (.slice x3.2.2.2.A x3.2.2.2.n x3.2.2.2.c)] :: .row x3.1.A x3.1.c 3 1 (ii v1) :: .row x3.2.1.A x3.2.1.c 3 1 (ii v2) :: .row x3.2.2.1.A x3.2.2.1.c 3 1 (ii v3) :: .row x3.2.2.2.A x3.2.2.2.c 3 1 (ii v4) :: .box x2 27 [(.slice none 0 0), (.slice none 0 0), (.slice none 0 0), (.slice none 0 0)] :: .box x1 27 [(.slice a1_0_A a1_0_n a1_0_c), (.slice a1_1_A a1_1_n a1_1_c), (.slice a1_2_A a1_2_n a1_2_c), (.slice a1_3_A a1_3_n a1_3_c)] :: F) ?_ (fun hD13 => ?_)
    · rintro x6
      show J _ _ [(4, (pt x2)), (5, (pt x4)), (12, (.pointer (some ⟨x4, 3, none⟩))), (14, (pt a0_g)), (15, (.slice x6 4 4))] _ (.row x6 4 3 1 (ii ([(0:Int), (1:Int), (8:Int), (-1:Int)] : List Int)) :: .box a0_g 84 [(.slice a0_0_A a0_0_n a0_0_c), (i6 v6)] :: .box x4 27 [(.slice x3.1.A x3.1.n x3.1.c), (.slice x3.2.1.A x3.2.1.n x3.2.1.c), (.slice x3.2.2.1.A x3.2.2.1.n x3.2.2.1.c), (.slice x3.2.2.2.A x3.2.2.2.n x3.2.2.2.c)] :: .row x3.1.A x3.1.c 3 1 (ii v1) :: .row x3.2.1.A x3.2.1.c 3 1 (ii v2) :: .row x3.2.2.1.A x3.2.2.1.c 3 1 (ii v3) :: .row x3.2.2.2.A x3.2.2.2.c 3 1 (ii v4) :: .box x2 27 [(.slice none 0 0), (.slice none 0 0), (.slice none 0 0), (.slice none 0 0)] :: .box x1 27 [(.slice a1_0_A a1_0_n a1_0_c), (.slice a1_1_A a1_1_n a1_1_c), (.slice a1_2_A a1_2_n a1_2_c), (.slice a1_3_A a1_3_n a1_3_c)] :: F)
      refine d_two 1 4 (by kernel_rfl) ?_ ?_
      · refine o_do rfl ((q_loadb 2 rfl ag23 rfl rfl rfl)).acts rfl rfl (fun _ w h => h.pick 9 [3, 4, 5, 7, 8] rfl) (fun _ => ?_)
        refine j_rs (.row x6 4 3 1 (ii ([(0:Int), (1:Int), (8:Int), (-1:Int)] : List Int)) :: .box a0_g 84 [(.slice a0_0_A a0_0_n a0_0_c), (i6 v6)] :: .box x4 27 [(.slice x3.1.A x3.1.n x3.1.c), (.slice x3.2.1.A x3.2.1.n x3.2.1.c), (.slice x3.2.2.1.A x3.2.2.1.n x3.2.2.1.c), (.slice x3.2.2.2.A x3.2.2.2.n x3.2.2.2.c)] :: .row x3.1.A x3.1.c 3 1 (ii v1) :: .row x3.2.1.A x3.2.1.c 3 1 (ii v2) :: .row x3.2.2.1.A x3.2.2.1.c 3 1 (ii v3) :: .row x3.2.2.2.A x3.2.2.2.c 3 1 (ii v4) :: .box x2 27 [(.slice none 0 0), (.slice none 0 0), (.slice none 0 0), (.slice none 0 0)] :: .box x1 27 [(.slice a1_0_A a1_0_n a1_0_c), (.slice a1_1_A a1_1_n a1_1_c), (.slice a1_2_A a1_2_n a1_2_c), (.slice a1_3_A a1_3_n a1_3_c)] :: F) (fun _ h => h) ?_
        refine j_env [(4, (pt x2)), (5, (pt x4)), (13, (.slice x3.2.2.2.A x3.2.2.2.n x3.2.2.2.c)), (14, (pt a0_g)), (15, (.slice x6 4 4))] ⟨rfl, rfl, rfl, rfl, rfl, trivial⟩ ?_
        exact hD15 x6
      · refine j_rs (.box a0_g 84 [(.slice a0_0_A a0_0_n a0_0_c), (i6 v6)] :: .row x6 4 3 1 (ii ([(0:Int), (1:Int), (8:Int), (-1:Int)] : List Int)) :: .box x4 27 [(.slice x3.1.A x3.1.n x3.1.c), (.slice x3.2.1.A x3.2.1.n x3.2.1.c), (.slice x3.2.2.1.A x3.2.2.1.n x3.2.2.1.c), (.slice x3.2.2.2.A x3.2.2.2.n x3.2.2.2.c)] :: .row x3.1.A x3.1.c 3 1 (ii v1) :: .row x3.2.1.A x3.2.1.c 3 1 (ii v2) :: .row x3.2.2.1.A x3.2.2.1.c 3 1 (ii v3) :: .row x3.2.2.2.A x3.2.2.2.c 3 1 (ii v4) :: .box x2 27 [(.slice none 0 0), (.slice none 0 0), (.slice none 0 0), (.slice none 0 0)] :: .box x1 27 [(.slice a1_0_A a1_0_n a1_0_c), (.slice a1_1_A a1_1_n a1_1_c), (.slice a1_2_A a1_2_n a1_2_c), (.slice a1_3_A a1_3_n a1_3_c)] :: F) (fun _ h => h.pick 9 [1, 0, 2, 3, 4, 5, 6, 7, 8] rfl) ?_
        refine o_do rfl (a_call ok80 rfl rfl rfl rfl (fun w hm => spec_l13Rd_num.calls K a0_g a0_0 a0_0_A a0_0_n a0_0_c v6 ([(0:Int), (1:Int), (8:Int), (-1:Int)] : List Int) x6 4 4 hm a0_0_h (Rd.drop 8 a0_0_R) rfl (Rd.row 0 rfl) hb3)) rfl rfl (fun x7 w h => h.pick 9 [3, 4, 5, 7, 8] rfl) (fun x7 => ?_)
        refine j_rs (.row x6 4 3 1 (ii ([(0:Int), (1:Int), (8:Int), (-1:Int)] : List Int)) :: .box a0_g 84 [(.slice a0_0_A a0_0_n a0_0_c), (i6 v8)] :: .box x4 27 [(.slice x3.1.A x3.1.n x3.1.c), (.slice x3.2.1.A x3.2.1.n x3.2.1.c), (.slice x3.2.2.1.A x3.2.2.1.n x3.2.2.1.c), (.slice x3.2.2.2.A x3.2.2.2.n x3.2.2.2.c)] :: .row x3.1.A x3.1.c 3 1 (ii v1) :: .row x3.2.1.A x3.2.1.c 3 1 (ii v2) :: .row x3.2.2.1.A x3.2.2.1.c 3 1 (ii v3) :: .row x3.2.2.2.A x3.2.2.2.c 3 1 (ii v4) :: .box x2 27 [(.slice none 0 0), (.slice none 0 0), (.slice none 0 0), (.slice none 0 0)] :: .box x1 27 [(.slice a1_0_A a1_0_n a1_0_c), (.slice a1_1_A a1_1_n a1_1_c), (.slice a1_2_A a1_2_n a1_2_c), (.slice a1_3_A a1_3_n a1_3_c)] :: F) (fun _ h => h.pick 9 [1, 0, 2, 3, 4, 5, 6, 7, 8] rfl) ?_
        refine j_env [(4, (pt x2)), (5, (pt x4)), (12, (.pointer (some ⟨x4, 3, none⟩))), (16, (i6 v7))] ⟨rfl, rfl, rfl, rfl, trivial⟩ ?_
        exact hD29 (x6, x7)
    refine d_two 1 3 (by kernel_rfl) ?_ ?_
    · refine o_do rfl ((q_loadb 1 rfl ag23 rfl rfl rfl)).acts rfl rfl (fun _ w h => h.pick 8 [2, 3, 4, 6, 7] rfl) (fun _ => ?_)
      refine j_rs (.box a0_g 84 [(.slice a0_0_A a0_0_n a0_0_c), (i6 v6)] :: .box x4 27 [(.slice x3.1.A x3.1.n x3.1.c), (.slice x3.2.1.A x3.2.1.n x3.2.1.c), (.slice x3.2.2.1.A x3.2.2.1.n x3.2.2.1.c), (.slice x3.2.2.2.A x3.2.2.2.n x3.2.2.2.c)] :: .row x3.1.A x3.1.c 3 1 (ii v1) :: .row x3.2.1.A x3.2.1.c 3 1 (ii v2) :: .row x3.2.2.1.A x3.2.2.1.c 3 1 (ii v3) :: .row x3.2.2.2.A x3.2.2.2.c 3 1 (ii v4) :: .box x2 27 [(.slice none 0 0), (.slice none 0 0), (.slice none 0 0), (.slice none 0 0)] :: .box x1 27 [(.slice a1_0_A a1_0_n a1_0_c), (.slice a1_1_A a1_1_n a1_1_c), (.slice a1_2_A a1_2_n a1_2_c), (.slice a1_3_A a1_3_n a1_3_c)] :: F) (fun _ h => h) ?_
      refine j_env [(4, (pt x2)), (5, (pt x4)), (13, (.slice x3.2.2.2.A x3.2.2.2.n x3.2.2.2.c)), (14, (pt a0_g))] ⟨rfl, rfl, rfl, rfl, trivial⟩ ?_
      exact hD7 ()
    · refine o_do rfl (a_litX (vs := [(i6 (0:Int)), (i6 (1:Int)), (i6 (8:Int)), (i6 (-1:Int))]) (ii ([(0:Int), (1:Int), (8:Int), (-1:Int)] : List Int)) un23 sz3 zr3 rfl rfl rfl rfl rfl rfl rfl rfl rfl) rfl rfl (fun x6 w h => h.pick 9 [3, 4, 5, 7, 8] rfl) (fun x6 => ?_)
      refine j_rs (.row x6 4 3 1 (ii ([(0:Int), (1:Int), (8:Int), (-1:Int)] : List Int)) :: .box a0_g 84 [(.slice a0_0_A a0_0_n a0_0_c), (i6 v6)] :: .box x4 27 [(.slice x3.1.A x3.1.n x3.1.c), (.slice x3.2.1.A x3.2.1.n x3.2.1.c), (.slice x3.2.2.1.A x3.2.2.1.n x3.2.2.1.c), (.slice x3.2.2.2.A x3.2.2.2.n x3.2.2.2.c)] :: .row x3.1.A x3.1.c 3 1 (ii v1) :: .row x3.2.1.A x3.2.1.c 3 1 (ii v2) :: .row x3.2.2.1.A x3.2.2.1.c 3 1 (ii v3) :: .row x3.2.2.2.A x3.2.2.2.c 3 1 (ii v4) :: .box x2 27 [(.slice none 0 0), (.slice none 0 0), (.slice none 0 0), (.slice none 0 0)] :: .box x1 27 [(.slice a1_0_A a1_0_n a1_0_c), (.slice a1_1_A a1_1_n a1_1_c), (.slice a1_2_A a1_2_n a1_2_c), (.slice a1_3_A a1_3_n a1_3_c)] :: F) (fun _ h => h) ?_
      refine j_env [(4, (pt x2)), (5, (pt x4)), (12, (.pointer (some ⟨x4, 3, none⟩))), (14, (pt a0_g)), (15, (.slice x6 4 4))] ⟨rfl, rfl, rfl, rfl, rfl, trivial⟩ ?_
      exact hD13 x6
  · refine j_false rfl (beq_f c1) ?_
    refine j_seq ?_
    refine j_region ?_
    refine r_q (q_eql rfl rfl rfl) rfl rfl ?_
    refine r_q (q_assign rfl rfl) rfl rfl ?_
    refine r_nil ?_
    refine j_then ?_
    rcases of_if h with ⟨c3, h⟩ | ⟨c3, h⟩
    · refine j_true rfl (beq_t c3) ?_
      refine j_region ?_
      refine r_q (q_move rfl rfl) rfl rfl ?_
      refine r_q (q_move rfl rfl) rfl rfl ?_
      refine r_q (q_fieldAddr fi27_0 sz25 rfl rfl rfl) rfl rfl ?_
      refine r_q (q_loadb_agg 1 rfl ag25 sz25 rfl rfl rfl rfl) rfl rfl ?_
      obtain ⟨v9, v10, v11, v12, hb4, h⟩ := of_b4 h
      refine r_do (a_call ok94 rfl rfl rfl rfl (fun w hm => spec_l1Wrong.calls K a0_g a0_0 a0_0_A a0_0_n a0_0_c v6 v1 x3.1.A x3.1.n x3.1.c v2 x3.2.1.A x3.2.1.n x3.2.1.c v3 x3.2.2.1.A x3.2.2.1.n x3.2.2.1.c hm a0_0_h (Rd.drop 7 a0_0_R) x3.1.h (Rd.row 1 rfl) x3.2.1.h (Rd.row 2 rfl) x3.2.2.1.h (Rd.row 3 rfl) hb4)) rfl rfl (fun x10 => ?_)
      obtain ⟨v13, v14, v15, v16, hb5, h⟩ := of_b4 h
      refine j_rs (.box a0_g 84 [(.slice a0_0_A a0_0_n a0_0_c), (i6 v12)] :: .row x10.1.A x10.1.c 3 1 (ii v9) :: .row x10.2.1.A x10.2.1.c 3 1 (ii v10) :: .row x10.2.2.A x10.2.2.c 3 1 (ii v11) :: .box x4 27 [(.slice x3.1.A x3.1.n x3.1.c), (.slice x3.2.1.A x3.2.1.n x3.2.1.c), (.slice x3.2.2.1.A x3.2.2.1.n x3.2.2.1.c), (.slice x3.2.2.2.A x3.2.2.2.n x3.2.2.2.c)] :: .row x3.1.A x3.1.c 3 1 (ii v1) :: .row x3.2.1.A x3.2.1.c 3 1 (ii v2) :: .row x3.2.2.1.A x3.2.2.1.c 3 1 (ii v3) :: .row x3.2.2.2.A x3.2.2.2.c 3 1 (ii v4) :: .box x2 27 [(.slice none 0 0), (.slice none 0 0), (.slice none 0 0), (.slice none 0 0)] :: .box x1 27 [(.slice a1_0_A a1_0_n a1_0_c), (.slice a1_1_A a1_1_n a1_1_c), (.slice a1_2_A a1_2_n a1_2_c), (.slice a1_3_A a1_3_n a1_3_c)] :: F) (fun _ h => h.pick 11 [3, 0, 1, 2, 4, 5, 6, 7, 8, 9, 10] rfl) ?_
      refine r_do (a_call ok94 rfl rfl rfl rfl (fun w hm => spec_l1Wrong.calls K a0_g a0_0 a0_0_A a0_0_n a0_0_c v12 v9 x10.1.A x10.1.n x10.1.c v10 x10.2.1.A x10.2.1.n x10.2.1.c v11 x10.2.2.A x10.2.2.n x10.2.2.c hm a0_0_h (Rd.drop 10 a0_0_R) x10.1.h (Rd.row 0 rfl) x10.2.1.h (Rd.row 1 rfl) x10.2.2.h (Rd.row 2 rfl) hb5)) rfl rfl (fun x11 => ?_)
      refine r_q (q_fieldAddr fi27_0 sz25 rfl rfl rfl) rfl rfl ?_
      refine r_do (a_storeb 7 rfl sz25 rfl rfl rfl rfl (Nat.le_of_ble_eq_true rfl) rfl) rfl rfl (fun _ => ?_)
      refine j_b7 [(.slice x11.1.A x11.1.n x11.1.c), (.slice x11.2.1.A x11.2.1.n x11.2.1.c), (.slice x11.2.2.A x11.2.2.n x11.2.2.c), (.slice x3.2.2.2.A x3.2.2.2.n x3.2.2.2.c)] rfl ?_
      refine r_nil ?_
      refine j_in ?_
      refine j_then ?_
      refine j_seq ?_
      refine j_region ?_
      refine r_q (q_loadb_agg 7 rfl ag27 sz27 rfl rfl rfl rfl) rfl rfl ?_
      refine r_do (a_storeb 12 rfl sz27 rfl rfl rfl rfl (Nat.le_of_ble_eq_true rfl) rfl) rfl rfl (fun _ => ?_)
      refine j_b12 [(.slice x11.1.A x11.1.n x11.1.c), (.slice x11.2.1.A x11.2.1.n x11.2.1.c), (.slice x11.2.2.A x11.2.2.n x11.2.2.c), (.slice x3.2.2.2.A x3.2.2.2.n x3.2.2.2.c)] rfl ?_
      refine r_nil ?_
      refine j_then ?_
      refine j_ret ?_
      cases h
      exact j_return rfl (ResOf.cell 12 rfl rfl ag27 sz27 ResOf.nil) rfl (fun w h => ⟨(⟨x11.1.A, x11.1.n, x11.1.c, x11.1.h⟩, ⟨x11.2.1.A, x11.2.1.n, x11.2.1.c, x11.2.1.h⟩, ⟨x11.2.2.A, x11.2.2.n, x11.2.2.c, x11.2.2.h⟩, ⟨x3.2.2.2.A, x3.2.2.2.n, x3.2.2.2.c, x3.2.2.2.h⟩), rfl, h.pick 14 [0, 1, 2, 11, 3] rfl⟩)
    · refine j_false rfl (beq_f c3) ?_
      refine j_skip ?_
      refine j_in ?_
      refine j_then ?_
      refine j_seq ?_
      refine j_region ?_
      refine r_q (q_loadb_agg 1 rfl ag27 sz27 rfl rfl rfl rfl) rfl rfl ?_
      refine r_do (a_storeb 6 rfl sz27 rfl rfl rfl rfl (Nat.le_of_ble_eq_true rfl) rfl) rfl rfl (fun _ => ?_)
      refine j_b6 [(.slice x3.1.A x3.1.n x3.1.c), (.slice x3.2.1.A x3.2.1.n x3.2.1.c), (.slice x3.2.2.1.A x3.2.2.1.n x3.2.2.1.c), (.slice x3.2.2.2.A x3.2.2.2.n x3.2.2.2.c)] rfl ?_
      refine r_nil ?_
      refine j_then ?_
      refine j_ret ?_
      cases h
      exact j_return rfl (ResOf.cell 6 rfl rfl ag27 sz27 ResOf.nil) rfl (fun w h => ⟨(⟨x3.1.A, x3.1.n, x3.1.c, x3.1.h⟩, ⟨x3.2.1.A, x3.2.1.n, x3.2.1.c, x3.2.1.h⟩, ⟨x3.2.2.1.A, x3.2.2.1.n, x3.2.2.1.c, x3.2.2.1.h⟩, ⟨x3.2.2.2.A, x3.2.2.2.n, x3.2.2.2.c, x3.2.2.2.h⟩), rfl, h.pick 8 [2, 3, 4, 5, 0] rfl⟩)

end Go.Proofs.Ytgganabcfloioaa.F
