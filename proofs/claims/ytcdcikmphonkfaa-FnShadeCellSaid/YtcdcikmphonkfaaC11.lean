/- The program computes these pure functions, printed by the generator of wip/gen. -/
import Derived.Test.YtcdcikmphonkfaaFa
import Derived.Test.YtcdcikmphonkfaaFi
import Derived.Test.YtcdcikmphonkfaaFb
import Derived.Test.YtcdcikmphonkfaaC0
import Derived.Test.YtcdcikmphonkfaaC2
import Derived.Test.YtcdcikmphonkfaaC4
import Derived.Test.YtcdcikmphonkfaaC6
import Derived.Test.YtcdcikmphonkfaaC8
namespace Go.Proofs.Ytcdcikmphonkfaa.F
open Go Go.RowKit Go.Proofs.Ytcdcikmphonkfaa.S
set_option linter.unusedVariables false
set_option maxRecDepth 100000
theorem spec_l13Open.calls (K : Nat) (a0 : List Int) (a0_A : Option Addr) (a0_n a0_c : Nat) {w0 w : World} {F : List Res} (hm : Mem w0 (F) w) (a0_h : a0.length = a0_n) (a0_R : Rd w0 F a0_A (ints .u8 a0)) (a0_k : a0.length ≤ a0_c) (h : spec_l13Open.f K a0 = some ()) :
    Calls Try.prog 54 (List.toArray [.slice a0_A a0_n a0_c]) w fun e w' => ∃ x : Nat, e = .returned (pt x) ∧ Mem w0 (.box x 94 [.slice a0_A (a0.take 2000).length a0_c, i6 (0:Int)] :: F) w' := by
  unfold spec_l13Open.f at h
  refine calls_of_J (n := 11) Try.func54 rfl rfl rfl hm ?_
  refine j_seq ?_
  refine j_region ?_
  refine r_q (q_assign rfl rfl) rfl rfl ?_
  refine r_nil ?_
  refine j_then ?_
  refine j_seq ?_
  refine j_seq ?_
  refine j_region ?_
  refine r_q (q_move rfl rfl) rfl rfl ?_
  refine r_q (q_lenX a0 a0_h un22 rfl rfl rfl rfl rfl) rfl rfl ?_
  refine r_q (q_gtr rfl rfl rfl) rfl rfl ?_
  refine r_nil ?_
  refine j_then ?_
  rcases of_if h with ⟨c1, h⟩ | ⟨c1, h⟩
  · refine j_true rfl (decide_eq_true c1) ?_
    refine j_region ?_
    refine r_q (q_move rfl rfl) rfl rfl ?_
    obtain ⟨c2, h⟩ := of_guard h
    refine j_fact (fun w hm => a0_k) (fun k2 => ?_)
    refine r_q (q_hi a0 a0_h k2 c2 un22 sz5 rfl rfl rfl) rfl rfl ?_
    refine r_q (q_assign rfl rfl) rfl rfl ?_
    refine r_nil ?_
    refine j_then ?_
    refine j_seq ?_
    refine j_region ?_
    refine r_q (q_move rfl rfl) rfl rfl ?_
    refine r_q (q_build (cs := [(.slice a0_A (a0.take (2000:Int).toNat).length a0_c), (i6 (0:Int))]) zr94 pl94 rfl rfl rfl rfl) rfl rfl ?_
    refine r_do (a_box rfl rfl) rfl rfl (fun x1 => ?_)
    refine r_q (q_assign rfl rfl) rfl rfl ?_
    refine r_nil ?_
    refine j_then ?_
    refine j_ret ?_
    refine j_rs (.box x1 94 [.slice a0_A (a0.take 2000).length a0_c, i6 (0:Int)] :: F) (fun _ h => h) ?_
    cases h
    exact j_return rfl (ResOf.tmp rfl ResOf.nil) rfl (fun w h => ⟨x1, rfl, h⟩)
  · refine j_false rfl (decide_eq_false c1) ?_
    refine j_skip ?_
    refine j_then ?_
    refine j_seq ?_
    refine j_region ?_
    refine r_q (q_move rfl rfl) rfl rfl ?_
    refine r_q (q_build (cs := [(.slice a0_A a0_n a0_c), (i6 (0:Int))]) zr94 pl94 rfl rfl rfl rfl) rfl rfl ?_
    refine r_do (a_box rfl rfl) rfl rfl (fun x1 => ?_)
    refine r_q (q_assign rfl rfl) rfl rfl ?_
    refine r_nil ?_
    refine j_then ?_
    refine j_ret ?_
    refine j_rs (.box x1 94 [.slice a0_A (a0.take 2000).length a0_c, i6 (0:Int)] :: F) (fun _ h => by rw [take_all (k := 2000) a0_h c1]; exact h) ?_
    cases h
    exact j_return rfl (ResOf.tmp rfl ResOf.nil) rfl (fun w h => ⟨x1, rfl, h⟩)

theorem spec_l13Rd_pick.calls (K : Nat) (a0_g : Nat) (a0_0 : List Int) (a0_0_A : Option Addr) (a0_0_n a0_0_c : Nat) (a0_1 : Int) (a1 : Int) {w0 w : World} {F : List Res} {r1 : Int} {r2 : Int} (hm : Mem w0 (.box a0_g 94 [.slice a0_0_A a0_0_n a0_0_c, i6 a0_1] :: F) w) (a0_0_h : a0_0.length = a0_0_n) (a0_0_R : Rd w0 F a0_0_A (ints .u8 a0_0)) (h : spec_l13Rd_pick.f K a0_0 a0_1 a1 = some (r1, r2)) :
    Calls Try.prog 89 (List.toArray [pt a0_g, i6 a1]) w fun e w' => ∃ x : Unit, e = .returned (i6 r1) ∧ Mem w0 (.box a0_g 94 [.slice a0_0_A a0_0_n a0_0_c, i6 r2] :: F) w' := by
  unfold spec_l13Rd_pick.f at h
  refine calls_of_J (n := 99) Try.func89 rfl rfl rfl hm ?_
  refine j_seq ?_
  refine j_region ?_
  refine r_q (q_assign rfl rfl) rfl rfl ?_
  refine r_nil ?_
  refine j_then ?_
  refine j_seq ?_
  refine j_region ?_
  refine r_q (q_move rfl rfl) rfl rfl ?_
  refine r_q (q_move rfl rfl) rfl rfl ?_
  refine r_q (q_nilCheck rfl rfl) rfl rfl ?_
  refine r_q (q_fieldAddr fi94_1 sz3 rfl rfl rfl) rfl rfl ?_
  refine r_q (q_loadb 0 rfl ag3 rfl rfl rfl) rfl rfl ?_
  refine r_q (q_add rfl rfl rfl) rfl rfl ?_
  refine r_q (q_nilCheck rfl rfl) rfl rfl ?_
  refine r_q (q_fieldAddr fi94_1 sz3 rfl rfl rfl) rfl rfl ?_
  refine r_do (a_storeb 0 rfl sz3 rfl rfl rfl rfl (Nat.le_of_ble_eq_true rfl) rfl) rfl rfl (fun _ => ?_)
  refine j_b0 [(.slice a0_0_A a0_0_n a0_0_c), (i6 (wrap64 (a0_1 + (1:Int))))] rfl ?_
  refine r_nil ?_
  refine j_then ?_
  refine j_seq ?_
  refine j_seq ?_
  refine j_region ?_
  refine r_q (q_move rfl rfl) rfl rfl ?_
  refine r_q (q_lss rfl rfl rfl) rfl rfl ?_
  refine r_q (q_move rfl rfl) rfl rfl ?_
  rcases of_if h with ⟨c1, h⟩ | ⟨c1, h⟩
  · refine r_off rfl rfl rfl rfl (decide_eq_true c1) rfl ?_
    refine r_off rfl rfl rfl rfl (decide_eq_true c1) rfl ?_
    refine r_off rfl rfl rfl rfl (decide_eq_true c1) rfl ?_
    refine r_off rfl rfl rfl rfl (decide_eq_true c1) rfl ?_
    refine r_off rfl rfl rfl rfl (decide_eq_true c1) rfl ?_
    refine r_off rfl rfl rfl rfl (decide_eq_true c1) rfl ?_
    refine r_q (q_pick_t rfl rfl (decide_eq_true c1) rfl) rfl rfl ?_
    refine r_nil ?_
    refine j_then ?_
    refine j_true rfl rfl ?_
    refine j_seq ?_
    refine j_region ?_
    refine r_q (q_assign rfl rfl) rfl rfl ?_
    refine r_nil ?_
    refine j_then ?_
    refine j_ret ?_
    refine j_then_ret ?_
    cases h
    exact j_return rfl (ResOf.tmp rfl ResOf.nil) rfl (fun w h => ⟨(), rfl, h⟩)
  · refine r_qon (q_move rfl rfl) rfl rfl rfl rfl (decide_eq_false c1) rfl ?_
    refine r_qon (q_nilCheck rfl rfl) rfl rfl rfl rfl (decide_eq_false c1) rfl ?_
    refine r_qon (q_fieldAddr fi94_0 sz22 rfl rfl rfl) rfl rfl rfl rfl (decide_eq_false c1) rfl ?_
    refine r_qon (q_loadb 0 rfl ag22 rfl rfl rfl) rfl rfl rfl rfl (decide_eq_false c1) rfl ?_
    refine r_qon (q_lenX a0_0 a0_0_h un22 rfl rfl rfl rfl rfl) rfl rfl rfl rfl (decide_eq_false c1) rfl ?_
    refine r_qon (q_eql rfl rfl rfl) rfl rfl rfl rfl (decide_eq_false c1) rfl ?_
    refine r_q (q_pick_f rfl rfl (decide_eq_false c1) rfl) rfl rfl ?_
    refine r_nil ?_
    refine j_then ?_
    rcases of_if h with ⟨c2, h⟩ | ⟨c2, h⟩
    · refine j_true rfl (beq_t c2) ?_
      refine j_seq ?_
      refine j_region ?_
      refine r_q (q_assign rfl rfl) rfl rfl ?_
      refine r_nil ?_
      refine j_then ?_
      refine j_ret ?_
      refine j_then_ret ?_
      cases h
      exact j_return rfl (ResOf.tmp rfl ResOf.nil) rfl (fun w h => ⟨(), rfl, h⟩)
    · refine j_false rfl (beq_f c2) ?_
      refine j_skip ?_
      refine j_then ?_
      refine j_seq ?_
      refine j_region ?_
      refine r_q (q_move rfl rfl) rfl rfl ?_
      refine r_q (q_nilCheck rfl rfl) rfl rfl ?_
      refine r_q (q_fieldAddr fi94_1 sz3 rfl rfl rfl) rfl rfl ?_
      refine r_q (q_loadb 0 rfl ag3 rfl rfl rfl) rfl rfl ?_
      refine r_q (q_sub rfl rfl rfl) rfl rfl ?_
      refine r_q (q_assign rfl rfl) rfl rfl ?_
      refine r_nil ?_
      refine j_then ?_
      refine j_seq ?_
      refine j_seq ?_
      refine j_region ?_
      refine r_q (q_move rfl rfl) rfl rfl ?_
      refine r_q (q_move rfl rfl) rfl rfl ?_
      refine r_q (q_nilCheck rfl rfl) rfl rfl ?_
      refine r_q (q_fieldAddr fi94_0 sz22 rfl rfl rfl) rfl rfl ?_
      refine r_q (q_loadb 0 rfl ag22 rfl rfl rfl) rfl rfl ?_
      refine r_q (q_lenX a0_0 a0_0_h un22 rfl rfl rfl rfl rfl) rfl rfl ?_
      refine r_q (q_lss rfl rfl rfl) rfl rfl ?_
      refine r_nil ?_
      refine j_then ?_
      rcases of_if h with ⟨c3, h⟩ | ⟨c3, h⟩
      · refine j_true rfl (decide_eq_true c3) ?_
        refine j_seq ?_
        refine j_region ?_
        refine r_q (q_move rfl rfl) rfl rfl ?_
        refine r_q (q_nilCheck rfl rfl) rfl rfl ?_
        refine r_q (q_fieldAddr fi94_0 sz22 rfl rfl rfl) rfl rfl ?_
        refine r_q (q_loadb 0 rfl ag22 rfl rfl rfl) rfl rfl ?_
        refine r_q (q_move rfl rfl) rfl rfl ?_
        obtain ⟨c4, h⟩ := of_guard h
        refine r_q (q_ix (Rd.drop 1 a0_0_R) (ints_len1 _ a0_0) (by decide) a0_0_h c4 un22 sz5 rfl rfl rfl) rfl rfl ?_
        refine r_q (q_ldI (Rd.drop 1 a0_0_R) c4 ag5 rfl rfl) rfl rfl ?_
        refine r_q (q_int un5 un3 rfl rfl) rfl rfl ?_
        refine r_q (q_move rfl rfl) rfl rfl ?_
        obtain ⟨c5, h⟩ := of_guard h
        refine r_q (q_rem rfl rfl rfl c5) rfl rfl ?_
        refine r_q (q_assign rfl rfl) rfl rfl ?_
        refine r_nil ?_
        refine j_then ?_
        refine j_ret ?_
        refine j_then_ret ?_
        cases h
        exact j_return rfl (ResOf.tmp rfl ResOf.nil) rfl (fun w h => ⟨(), rfl, h⟩)
      · refine j_false rfl (decide_eq_false c3) ?_
        refine j_skip ?_
        refine j_then ?_
        refine j_seq ?_
        obtain ⟨c6, h⟩ := of_guard h
        obtain ⟨c7, h⟩ := of_guard h
        obtain ⟨c8, h⟩ := of_guard h
        refine j_draw (.box a0_g 94 [(.slice a0_0_A a0_0_n a0_0_c), (i6 (wrap64 (a0_1 + (1:Int))))] :: F) 46 follows_any rfl ?_
        refine d_take 0 rfl (q_move rfl rfl) rfl rfl (by kernel_rfl) (by kernel_rfl) (by kernel_rfl) (fun w h => h) ?_
        refine d_take 1 rfl (q_nilCheck rfl rfl) rfl rfl (by kernel_rfl) (by kernel_rfl) (by kernel_rfl) (fun w h => h) ?_
        refine d_take 2 rfl (q_fieldAddr fi94_0 sz22 rfl rfl rfl) rfl rfl (by kernel_rfl) (by kernel_rfl) (by kernel_rfl) (fun w h => h) ?_
        refine d_take 3 rfl (q_loadb 0 rfl ag22 rfl rfl rfl) rfl rfl (by kernel_rfl) (by kernel_rfl) (by kernel_rfl) (fun w h => h) ?_
        refine d_take 4 rfl (q_move rfl rfl) rfl rfl (by kernel_rfl) (by kernel_rfl) (by kernel_rfl) (fun w h => h) ?_
        refine d_take 5 rfl (q_move rfl rfl) rfl rfl (by kernel_rfl) (by kernel_rfl) (by kernel_rfl) (fun w h => h) ?_
        refine d_take 6 rfl (q_nilCheck rfl rfl) rfl rfl (by kernel_rfl) (by kernel_rfl) (by kernel_rfl) (fun w h => h) ?_
        refine d_take 7 rfl (q_fieldAddr fi94_0 sz22 rfl rfl rfl) rfl rfl (by kernel_rfl) (by kernel_rfl) (by kernel_rfl) (fun w h => h) ?_
        refine d_take 8 rfl (q_loadb 0 rfl ag22 rfl rfl rfl) rfl rfl (by kernel_rfl) (by kernel_rfl) (by kernel_rfl) (fun w h => h) ?_
        refine d_take 9 rfl (q_lenX a0_0 a0_0_h un22 rfl rfl rfl rfl rfl) rfl rfl (by kernel_rfl) (by kernel_rfl) (by kernel_rfl) (fun w h => h) ?_
        refine d_take 10 rfl (q_rem rfl rfl rfl c6) rfl rfl (by kernel_rfl) (by kernel_rfl) (by kernel_rfl) (fun w h => h) ?_
        refine d_take 11 rfl (q_ix (Rd.drop 1 a0_0_R) (ints_len1 _ a0_0) (by decide) a0_0_h c7 un22 sz5 rfl rfl rfl) rfl rfl (by kernel_rfl) (by kernel_rfl) (by kernel_rfl) (fun w h => h) ?_
        refine d_take 12 rfl (q_ldI (Rd.drop 1 a0_0_R) c7 ag5 rfl rfl) rfl rfl (by kernel_rfl) (by kernel_rfl) (by kernel_rfl) (fun w h => h) ?_
        refine d_take 13 rfl (q_int un5 un3 rfl rfl) rfl rfl (by kernel_rfl) (by kernel_rfl) (by kernel_rfl) (fun w h => h) ?_
        refine d_take 14 rfl (q_mul rfl rfl rfl) rfl rfl (by kernel_rfl) (by kernel_rfl) (by kernel_rfl) (fun w h => h) ?_
        refine d_take 15 rfl (q_move rfl rfl) rfl rfl (by kernel_rfl) (by kernel_rfl) (by kernel_rfl) (fun w h => h) ?_
        refine d_take 16 rfl (q_nilCheck rfl rfl) rfl rfl (by kernel_rfl) (by kernel_rfl) (by kernel_rfl) (fun w h => h) ?_
        refine d_take 17 rfl (q_fieldAddr fi94_0 sz22 rfl rfl rfl) rfl rfl (by kernel_rfl) (by kernel_rfl) (by kernel_rfl) (fun w h => h) ?_
        refine d_take 18 rfl (q_loadb 0 rfl ag22 rfl rfl rfl) rfl rfl (by kernel_rfl) (by kernel_rfl) (by kernel_rfl) (fun w h => h) ?_
        refine d_take 19 rfl (q_move rfl rfl) rfl rfl (by kernel_rfl) (by kernel_rfl) (by kernel_rfl) (fun w h => h) ?_
        refine d_take 20 rfl (q_mul rfl rfl rfl) rfl rfl (by kernel_rfl) (by kernel_rfl) (by kernel_rfl) (fun w h => h) ?_
        refine d_take 21 rfl (q_add rfl rfl rfl) rfl rfl (by kernel_rfl) (by kernel_rfl) (by kernel_rfl) (fun w h => h) ?_
        refine d_take 22 rfl (q_move rfl rfl) rfl rfl (by kernel_rfl) (by kernel_rfl) (by kernel_rfl) (fun w h => h) ?_
        refine d_take 23 rfl (q_nilCheck rfl rfl) rfl rfl (by kernel_rfl) (by kernel_rfl) (by kernel_rfl) (fun w h => h) ?_
        refine d_take 24 rfl (q_fieldAddr fi94_0 sz22 rfl rfl rfl) rfl rfl (by kernel_rfl) (by kernel_rfl) (by kernel_rfl) (fun w h => h) ?_
        refine d_take 25 rfl (q_loadb 0 rfl ag22 rfl rfl rfl) rfl rfl (by kernel_rfl) (by kernel_rfl) (by kernel_rfl) (fun w h => h) ?_
        refine d_take 26 rfl (q_lenX a0_0 a0_0_h un22 rfl rfl rfl rfl rfl) rfl rfl (by kernel_rfl) (by kernel_rfl) (by kernel_rfl) (fun w h => h) ?_
        refine d_take 27 rfl (q_rem rfl rfl rfl c6) rfl rfl (by kernel_rfl) (by kernel_rfl) (by kernel_rfl) (fun w h => h) ?_
        refine d_take 28 rfl (q_ix (Rd.drop 1 a0_0_R) (ints_len1 _ a0_0) (by decide) a0_0_h c8 un22 sz5 rfl rfl rfl) rfl rfl (by kernel_rfl) (by kernel_rfl) (by kernel_rfl) (fun w h => h) ?_
        refine d_take 29 rfl (q_ldI (Rd.drop 1 a0_0_R) c8 ag5 rfl rfl) rfl rfl (by kernel_rfl) (by kernel_rfl) (by kernel_rfl) (fun w h => h) ?_
        refine d_take 30 rfl (q_int un5 un3 rfl rfl) rfl rfl (by kernel_rfl) (by kernel_rfl) (by kernel_rfl) (fun w h => h) ?_
        refine d_take 31 rfl (q_mul rfl rfl rfl) rfl rfl (by kernel_rfl) (by kernel_rfl) (by kernel_rfl) (fun w h => h) ?_
        refine d_take 32 rfl (q_add rfl rfl rfl) rfl rfl (by kernel_rfl) (by kernel_rfl) (by kernel_rfl) (fun w h => h) ?_
        refine d_take 33 rfl (q_move rfl rfl) rfl rfl (by kernel_rfl) (by kernel_rfl) (by kernel_rfl) (fun w h => h) ?_
        refine d_take 34 rfl (q_mul rfl rfl rfl) rfl rfl (by kernel_rfl) (by kernel_rfl) (by kernel_rfl) (fun w h => h) ?_
        refine d_take 35 rfl (q_add rfl rfl rfl) rfl rfl (by kernel_rfl) (by kernel_rfl) (by kernel_rfl) (fun w h => h) ?_
        refine d_take 36 rfl (q_move rfl rfl) rfl rfl (by kernel_rfl) (by kernel_rfl) (by kernel_rfl) (fun w h => h) ?_
        refine d_take 37 rfl (q_move rfl rfl) rfl rfl (by kernel_rfl) (by kernel_rfl) (by kernel_rfl) (fun w h => h) ?_
        refine d_take 38 rfl (q_nilCheck rfl rfl) rfl rfl (by kernel_rfl) (by kernel_rfl) (by kernel_rfl) (fun w h => h) ?_
        refine d_take 39 rfl (q_fieldAddr fi94_0 sz22 rfl rfl rfl) rfl rfl (by kernel_rfl) (by kernel_rfl) (by kernel_rfl) (fun w h => h) ?_
        refine d_take 40 rfl (q_loadb 0 rfl ag22 rfl rfl rfl) rfl rfl (by kernel_rfl) (by kernel_rfl) (by kernel_rfl) (fun w h => h) ?_
        refine d_take 41 rfl (q_lenX a0_0 a0_0_h un22 rfl rfl rfl rfl rfl) rfl rfl (by kernel_rfl) (by kernel_rfl) (by kernel_rfl) (fun w h => h) ?_
        refine d_take 42 rfl (q_quo rfl rfl rfl c6) rfl rfl (by kernel_rfl) (by kernel_rfl) (by kernel_rfl) (fun w h => h) ?_
        refine d_take 43 rfl (q_mul rfl rfl rfl) rfl rfl (by kernel_rfl) (by kernel_rfl) (by kernel_rfl) (fun w h => h) ?_
        refine d_take 44 rfl (q_add rfl rfl rfl) rfl rfl (by kernel_rfl) (by kernel_rfl) (by kernel_rfl) (fun w h => h) ?_
        refine d_take 45 rfl (q_assign rfl rfl) rfl rfl (by kernel_rfl) (by kernel_rfl) (by kernel_rfl) (fun w h => h) ?_
        refine d_done (by kernel_rfl) ?_
        refine j_then ?_
        refine j_seq ?_
        refine j_region ?_
        refine r_q (q_move rfl rfl) rfl rfl ?_
        refine r_q (q_move rfl rfl) rfl rfl ?_
        refine r_q (q_quo rfl rfl rfl (by decide)) rfl rfl ?_
        refine r_q (q_xor rfl rfl rfl) rfl rfl ?_
        refine r_q (q_assign rfl rfl) rfl rfl ?_
        refine r_nil ?_
        refine j_then ?_
        refine j_seq ?_
        refine j_region ?_
        refine r_q (q_move rfl rfl) rfl rfl ?_
        refine r_q (q_move rfl rfl) rfl rfl ?_
        obtain ⟨c9, h⟩ := of_guard h
        refine r_q (q_rem rfl rfl rfl c9) rfl rfl ?_
        refine r_q (q_assign rfl rfl) rfl rfl ?_
        refine r_nil ?_
        refine j_then ?_
        refine j_ret ?_
        cases h
        exact j_return rfl (ResOf.tmp rfl ResOf.nil) rfl (fun w h => ⟨(), rfl, h⟩)

theorem spec_l13Rd_num.calls (K : Nat) (a0_g : Nat) (a0_0 : List Int) (a0_0_A : Option Addr) (a0_0_n a0_0_c : Nat) (a0_1 : Int) (a1 : List Int) (a1_A : Option Addr) (a1_n a1_c : Nat) {w0 w : World} {F : List Res} {r1 : Int} {r2 : Int} (hm : Mem w0 (.box a0_g 94 [.slice a0_0_A a0_0_n a0_0_c, i6 a0_1] :: F) w) (a0_0_h : a0_0.length = a0_0_n) (a0_0_R : Rd w0 F a0_0_A (ints .u8 a0_0)) (a1_h : a1.length = a1_n) (a1_R : Rd w0 F a1_A (ii a1)) (h : spec_l13Rd_num.f K a0_0 a0_1 a1 = some (r1, r2)) :
    Calls Try.prog 55 (List.toArray [pt a0_g, .slice a1_A a1_n a1_c]) w fun e w' => ∃ x : Unit, e = .returned (i6 r1) ∧ Mem w0 (.box a0_g 94 [.slice a0_0_A a0_0_n a0_0_c, i6 r2] :: F) w' := by
  unfold spec_l13Rd_num.f at h
  refine calls_of_J (n := 12) Try.func55 rfl rfl rfl hm ?_
  refine j_seq ?_
  refine j_region ?_
  refine r_q (q_assign rfl rfl) rfl rfl ?_
  refine r_nil ?_
  refine j_then ?_
  refine j_seq ?_
  refine j_region ?_
  refine r_q (q_move rfl rfl) rfl rfl ?_
  refine r_q (q_move rfl rfl) rfl rfl ?_
  refine r_q (q_move rfl rfl) rfl rfl ?_
  refine r_q (q_lenX a1 a1_h un23 rfl rfl rfl rfl rfl) rfl rfl ?_
  obtain ⟨v1, v2, hb1, h⟩ := of_b2 h
  refine r_do (a_call ok89 rfl rfl rfl rfl (fun w hm => spec_l13Rd_pick.calls K a0_g a0_0 a0_0_A a0_0_n a0_0_c a0_1 (a1.length : Int) hm a0_0_h a0_0_R hb1)) rfl rfl (fun x1 => ?_)
  obtain ⟨c1, h⟩ := of_guard h
  refine r_q (q_ix (Rd.drop 1 a1_R) (ints_len1 _ a1) (by decide) a1_h c1 un23 sz3 rfl rfl rfl) rfl rfl ?_
  refine r_q (q_ldI (Rd.drop 1 a1_R) c1 ag3 rfl rfl) rfl rfl ?_
  refine r_q (q_assign rfl rfl) rfl rfl ?_
  refine r_nil ?_
  refine j_then ?_
  refine j_ret ?_
  cases h
  exact j_return rfl (ResOf.tmp rfl ResOf.nil) rfl (fun w h => ⟨(), rfl, h⟩)

theorem spec_l1Many.calls (K : Nat) (a0 : Int) {w0 w : World} {F : List Res} {r1 : List Int} (hm : Mem w0 (F) w)  (h : spec_l1Many.f K a0 = some r1) :
    Calls Try.prog 105 (List.toArray [i6 a0]) w fun e w' => ∃ x : (Sl r1.length), e = .returned (.slice x.A x.n x.c) ∧ Mem w0 (.row x.A x.c 3 1 (ii r1) :: F) w' := by
  unfold spec_l1Many.f at h
  refine calls_of_J (n := 15) Try.func105 rfl rfl rfl hm ?_
  refine j_seq ?_
  refine j_region ?_
  refine r_q (q_assign rfl rfl) rfl rfl ?_
  refine r_nil ?_
  refine j_then ?_
  refine j_seq ?_
  refine j_region ?_
  refine r_do (a_litX (vs := []) (ii ([] : List Int)) un23 sz3 zr3 rfl rfl rfl rfl rfl rfl rfl rfl rfl) rfl rfl (fun x1 => ?_)
  refine r_q (q_assign rfl rfl) rfl rfl ?_
  refine r_nil ?_
  refine j_then ?_
  refine j_seq ?_
  refine j_seq ?_
  refine j_region ?_
  refine r_q (q_assign rfl rfl) rfl rfl ?_
  refine r_nil ?_
  refine j_then ?_
  obtain ⟨κ0, h, hκ0⟩ := ex_k (g := fun κ => spec_l1Many.loop0 K κ a0 K ([] : List Int) (0:Int) = some r1) h
  refine j_cut (σ := (Option Addr) × Nat × Nat × (List Int)) (fun s => [(3, (.slice s.1 s.2.1 s.2.2.1))]) (fun s => .row s.1 s.2.2.1 3 1 (ii s.2.2.2) :: F) (fun s => κ0 s.2.2.2 = some r1 ∧ (s.2.2.2.length = s.2.1)) ?_ ?_
  · refine j_block ?_
    refine j_loop (σ := (Option Addr) × Nat × Nat × (List Int) × Int) (fun s => [(0, (i6 a0)), (3, (.slice s.1 s.2.1 s.2.2.1)), (4, (i6 s.2.2.2.2))]) (fun s => .row s.1 s.2.2.1 3 1 (ii s.2.2.2.1) :: F) (fun m s => spec_l1Many.loop0 K κ0 a0 m s.2.2.2.1 s.2.2.2.2 = some r1 ∧ (s.2.2.2.1.length = s.2.1)) K (x1, 0, 0, ([] : List Int), (0:Int)) ⟨h, rfl⟩ (fun a he => he.sub ⟨rfl, rfl, rfl, trivial⟩) (fun w h => h) ?_
    rintro m ⟨A2, n2, d2, l2, p2⟩ ⟨h, q2⟩
    cases m with
    | zero => exact absurd h (by rw [spec_l1Many.loop0]; exact nofun)
    | succ m =>
      rw [spec_l1Many.loop0] at h
      show J _ _ [(0, (i6 a0)), (3, (.slice A2 n2 d2)), (4, (i6 p2))] _ (.row A2 d2 3 1 (ii l2) :: F)
      refine j_seq ?_
      refine j_seq ?_
      refine j_region ?_
      refine r_q (q_move rfl rfl) rfl rfl ?_
      refine r_q (q_move rfl rfl) rfl rfl ?_
      refine r_q (q_lss rfl rfl rfl) rfl rfl ?_
      refine r_nil ?_
      refine j_then ?_
      rcases of_if h with ⟨c7, h⟩ | ⟨c7, h⟩
      · refine j_true rfl (decide_eq_true c7) ?_
        refine j_skip ?_
        refine j_then ?_
        refine j_seq ?_
        refine j_block ?_
        refine j_region ?_
        refine r_q (q_move rfl rfl) rfl rfl ?_
        refine r_do (a_litX (vs := [(i6 (-1:Int))]) (ii ([(-1:Int)] : List Int)) un23 sz3 zr3 rfl rfl rfl rfl rfl rfl rfl rfl rfl) rfl rfl (fun x2 => ?_)
        obtain ⟨c8, h⟩ := of_guard h
        refine r_do (a_appI (xs := l2) (ys := ([(-1:Int)] : List Int)) 1 un23 un23 sz3 by3 zr3 rfl rfl rfl rfl rfl rfl rfl rfl rfl q2 rfl (Rd.row 0 rfl) c8) rfl rfl (fun x3 => ?_)
        refine j_s1 ?_
        refine r_q (q_assign rfl rfl) rfl rfl ?_
        refine r_nil ?_
        refine j_in ?_
        refine j_then ?_
        refine j_region ?_
        refine r_q (q_move rfl rfl) rfl rfl ?_
        refine r_q (q_add rfl rfl rfl) rfl rfl ?_
        refine r_q (q_assign rfl rfl) rfl rfl ?_
        refine r_nil ?_
        refine j_then ?_
        exact j_again m (x3.1, (n2 + 1), x3.2, (l2 ++ ([(-1:Int)] : List Int)), (wrap64 (p2 + (1:Int)))) (Nat.lt_succ_self m) ⟨h, (app_len q2 rfl)⟩ (fun a he => he.sub ⟨rfl, rfl, rfl, trivial⟩) (fun w h => h.tail)
      · refine j_false rfl (decide_eq_false c7) ?_
        refine j_exit ?_
        refine j_then_exit ?_
        refine j_then_exit ?_
        refine j_in_exit ?_
        refine j_then ?_
        exact j_meet (A2, n2, d2, l2) ⟨h, q2⟩ (fun a he => he.sub ⟨rfl, trivial⟩) (fun w h => h)
  · rintro ⟨A3, n3, d3, l3⟩ ⟨h, q3⟩
    subst hκ0
    show J _ _ [(3, (.slice A3 n3 d3))] _ (.row A3 d3 3 1 (ii l3) :: F)
    refine j_then ?_
    refine j_seq ?_
    refine j_region ?_
    refine r_q (q_move rfl rfl) rfl rfl ?_
    refine r_q (q_assign rfl rfl) rfl rfl ?_
    refine r_nil ?_
    refine j_then ?_
    refine j_ret ?_
    cases h
    exact j_return rfl (ResOf.tmp rfl ResOf.nil) rfl (fun w h => ⟨⟨A3, n3, d3, q3⟩, rfl, h⟩)

theorem spec_NewHeap.calls (K : Nat) (a0 : Int) (a1 : Int) {w0 w : World} {F : List Res} {r1 : List Int} {r2 : List Int} {r3 : List Int} {r4 : Bool} (hm : Mem w0 (F) w)  (h : spec_NewHeap.f K a0 a1 = some (r1, r2, r3, r4)) :
    Calls Try.prog 103 (List.toArray [i6 a0, i6 a1]) w fun e w' => ∃ x : (Sl r1.length) × (Sl r2.length) × (Sl r3.length), e = .returned (.tuple (List.toArray [.agg (List.toArray [.slice x.1.A x.1.n x.1.c, .slice x.2.1.A x.2.1.n x.2.1.c, .slice x.2.2.A x.2.2.n x.2.2.c]), .bool r4])) ∧ Mem w0 (.row x.1.A x.1.c 3 1 (ii r1) :: .row x.2.1.A x.2.1.c 3 1 (ii r2) :: .row x.2.2.A x.2.2.c 3 1 (ii r3) :: F) w' := by
  unfold spec_NewHeap.f at h
  refine calls_of_J (n := 28) Try.func103 rfl rfl rfl hm ?_
  refine j_seq ?_
  refine j_region ?_
  refine r_do (a_alloc zr25 rfl) rfl rfl (fun x1 => ?_)
  refine r_q (q_assign rfl rfl) rfl rfl ?_
  refine r_nil ?_
  refine j_then ?_
  refine j_seq ?_
  refine j_seq ?_
  refine j_region ?_
  refine r_q (q_move rfl rfl) rfl rfl ?_
  refine r_q (q_lss rfl rfl rfl) rfl rfl ?_
  refine r_q (q_move rfl rfl) rfl rfl ?_
  rcases of_if h with ⟨c1, h⟩ | ⟨c1, h⟩
  · refine r_off rfl rfl rfl rfl (decide_eq_true c1) rfl ?_
    refine r_off rfl rfl rfl rfl (decide_eq_true c1) rfl ?_
    refine r_q (q_pick_t rfl rfl (decide_eq_true c1) rfl) rfl rfl ?_
    refine r_q (q_move rfl rfl) rfl rfl ?_
    refine r_off rfl rfl rfl rfl rfl rfl ?_
    refine r_off rfl rfl rfl rfl rfl rfl ?_
    refine r_q (q_pick_t rfl rfl rfl rfl) rfl rfl ?_
    refine r_q (q_move rfl rfl) rfl rfl ?_
    refine r_off rfl rfl rfl rfl rfl rfl ?_
    refine r_off rfl rfl rfl rfl rfl rfl ?_
    refine r_q (q_pick_t rfl rfl rfl rfl) rfl rfl ?_
    refine r_nil ?_
    refine j_then ?_
    refine j_true rfl rfl ?_
    refine j_seq ?_
    refine j_region ?_
    refine r_q (q_build (cs := [(.slice none 0 0), (.slice none 0 0), (.slice none 0 0)]) zr25 pl25 rfl rfl rfl rfl) rfl rfl ?_
    refine r_do (a_storeb 0 rfl sz25 rfl rfl rfl rfl (Nat.le_of_ble_eq_true rfl) rfl) rfl rfl (fun _ => ?_)
    refine j_b0 [(.slice none 0 0), (.slice none 0 0), (.slice none 0 0)] rfl ?_
    refine r_q (q_assign rfl rfl) rfl rfl ?_
    refine r_nil ?_
    refine j_then ?_
    refine j_ret ?_
    refine j_then_ret ?_
    refine j_nil 3 1 ?_
    refine j_nil 3 1 ?_
    refine j_nil 3 1 ?_
    cases h
    exact j_return rfl (ResOf.cell 3 rfl rfl ag25 sz25 (ResOf.tmp rfl ResOf.nil)) rfl (fun w h => ⟨(⟨none, 0, 0, rfl⟩, ⟨none, 0, 0, rfl⟩, ⟨none, 0, 0, rfl⟩), rfl, h.pick 4 [2, 1, 0] rfl⟩)
  · refine r_qon (q_move rfl rfl) rfl rfl rfl rfl (decide_eq_false c1) rfl ?_
    refine r_qon (q_gtr rfl rfl rfl) rfl rfl rfl rfl (decide_eq_false c1) rfl ?_
    refine r_q (q_pick_f rfl rfl (decide_eq_false c1) rfl) rfl rfl ?_
    refine r_q (q_move rfl rfl) rfl rfl ?_
    rcases of_if h with ⟨c2, h⟩ | ⟨c2, h⟩
    · refine r_off rfl rfl rfl rfl (decide_eq_true c2) rfl ?_
      refine r_off rfl rfl rfl rfl (decide_eq_true c2) rfl ?_
      refine r_q (q_pick_t rfl rfl (decide_eq_true c2) rfl) rfl rfl ?_
      refine r_q (q_move rfl rfl) rfl rfl ?_
      refine r_off rfl rfl rfl rfl rfl rfl ?_
      refine r_off rfl rfl rfl rfl rfl rfl ?_
      refine r_q (q_pick_t rfl rfl rfl rfl) rfl rfl ?_
      refine r_nil ?_
      refine j_then ?_
      refine j_true rfl rfl ?_
      refine j_seq ?_
      refine j_region ?_
      refine r_q (q_build (cs := [(.slice none 0 0), (.slice none 0 0), (.slice none 0 0)]) zr25 pl25 rfl rfl rfl rfl) rfl rfl ?_
      refine r_do (a_storeb 0 rfl sz25 rfl rfl rfl rfl (Nat.le_of_ble_eq_true rfl) rfl) rfl rfl (fun _ => ?_)
      refine j_b0 [(.slice none 0 0), (.slice none 0 0), (.slice none 0 0)] rfl ?_
      refine r_q (q_assign rfl rfl) rfl rfl ?_
      refine r_nil ?_
      refine j_then ?_
      refine j_ret ?_
      refine j_then_ret ?_
      refine j_nil 3 1 ?_
      refine j_nil 3 1 ?_
      refine j_nil 3 1 ?_
      cases h
      exact j_return rfl (ResOf.cell 3 rfl rfl ag25 sz25 (ResOf.tmp rfl ResOf.nil)) rfl (fun w h => ⟨(⟨none, 0, 0, rfl⟩, ⟨none, 0, 0, rfl⟩, ⟨none, 0, 0, rfl⟩), rfl, h.pick 4 [2, 1, 0] rfl⟩)
    · refine r_qon (q_move rfl rfl) rfl rfl rfl rfl (decide_eq_false c2) rfl ?_
      refine r_qon (q_lss rfl rfl rfl) rfl rfl rfl rfl (decide_eq_false c2) rfl ?_
      refine r_q (q_pick_f rfl rfl (decide_eq_false c2) rfl) rfl rfl ?_
      refine r_q (q_move rfl rfl) rfl rfl ?_
      rcases of_if h with ⟨c3, h⟩ | ⟨c3, h⟩
      · refine r_off rfl rfl rfl rfl (decide_eq_true c3) rfl ?_
        refine r_off rfl rfl rfl rfl (decide_eq_true c3) rfl ?_
        refine r_q (q_pick_t rfl rfl (decide_eq_true c3) rfl) rfl rfl ?_
        refine r_nil ?_
        refine j_then ?_
        refine j_true rfl rfl ?_
        refine j_seq ?_
        refine j_region ?_
        refine r_q (q_build (cs := [(.slice none 0 0), (.slice none 0 0), (.slice none 0 0)]) zr25 pl25 rfl rfl rfl rfl) rfl rfl ?_
        refine r_do (a_storeb 0 rfl sz25 rfl rfl rfl rfl (Nat.le_of_ble_eq_true rfl) rfl) rfl rfl (fun _ => ?_)
        refine j_b0 [(.slice none 0 0), (.slice none 0 0), (.slice none 0 0)] rfl ?_
        refine r_q (q_assign rfl rfl) rfl rfl ?_
        refine r_nil ?_
        refine j_then ?_
        refine j_ret ?_
        refine j_then_ret ?_
        refine j_nil 3 1 ?_
        refine j_nil 3 1 ?_
        refine j_nil 3 1 ?_
        cases h
        exact j_return rfl (ResOf.cell 3 rfl rfl ag25 sz25 (ResOf.tmp rfl ResOf.nil)) rfl (fun w h => ⟨(⟨none, 0, 0, rfl⟩, ⟨none, 0, 0, rfl⟩, ⟨none, 0, 0, rfl⟩), rfl, h.pick 4 [2, 1, 0] rfl⟩)
      · refine r_qon (q_move rfl rfl) rfl rfl rfl rfl (decide_eq_false c3) rfl ?_
        refine r_qon (q_gtr rfl rfl rfl) rfl rfl rfl rfl (decide_eq_false c3) rfl ?_
        refine r_q (q_pick_f rfl rfl (decide_eq_false c3) rfl) rfl rfl ?_
        refine r_nil ?_
        refine j_then ?_
        rcases of_if h with ⟨c4, h⟩ | ⟨c4, h⟩
        · refine j_true rfl (decide_eq_true c4) ?_
          refine j_seq ?_
          refine j_region ?_
          refine r_q (q_build (cs := [(.slice none 0 0), (.slice none 0 0), (.slice none 0 0)]) zr25 pl25 rfl rfl rfl rfl) rfl rfl ?_
          refine r_do (a_storeb 0 rfl sz25 rfl rfl rfl rfl (Nat.le_of_ble_eq_true rfl) rfl) rfl rfl (fun _ => ?_)
          refine j_b0 [(.slice none 0 0), (.slice none 0 0), (.slice none 0 0)] rfl ?_
          refine r_q (q_assign rfl rfl) rfl rfl ?_
          refine r_nil ?_
          refine j_then ?_
          refine j_ret ?_
          refine j_then_ret ?_
          refine j_nil 3 1 ?_
          refine j_nil 3 1 ?_
          refine j_nil 3 1 ?_
          cases h
          exact j_return rfl (ResOf.cell 3 rfl rfl ag25 sz25 (ResOf.tmp rfl ResOf.nil)) rfl (fun w h => ⟨(⟨none, 0, 0, rfl⟩, ⟨none, 0, 0, rfl⟩, ⟨none, 0, 0, rfl⟩), rfl, h.pick 4 [2, 1, 0] rfl⟩)
        · refine j_false rfl (decide_eq_false c4) ?_
          refine j_skip ?_
          refine j_then ?_
          refine j_seq ?_
          refine j_region ?_
          refine r_q (q_move rfl rfl) rfl rfl ?_
          obtain ⟨v1, hb1, h⟩ := of_b1 h
          refine r_do (a_call ok105 rfl rfl rfl rfl (fun w hm => spec_l1Many.calls K a0 hm hb1)) rfl rfl (fun x2 => ?_)
          refine r_q (q_move rfl rfl) rfl rfl ?_
          obtain ⟨v2, hb2, h⟩ := of_b1 h
          refine r_do (a_call ok105 rfl rfl rfl rfl (fun w hm => spec_l1Many.calls K a0 hm hb2)) rfl rfl (fun x3 => ?_)
          refine r_q (q_move rfl rfl) rfl rfl ?_
          obtain ⟨v3, hb3, h⟩ := of_b1 h
          refine r_do (a_call ok105 rfl rfl rfl rfl (fun w hm => spec_l1Many.calls K a1 hm hb3)) rfl rfl (fun x4 => ?_)
          refine r_q (q_build (cs := [(.slice x2.A x2.n x2.c), (.slice x3.A x3.n x3.c), (.slice x4.A x4.n x4.c)]) zr25 pl25 rfl rfl rfl rfl) rfl rfl ?_
          refine r_do (a_storeb 3 rfl sz25 rfl rfl rfl rfl (Nat.le_of_ble_eq_true rfl) rfl) rfl rfl (fun _ => ?_)
          refine j_b3 [(.slice x2.A x2.n x2.c), (.slice x3.A x3.n x3.c), (.slice x4.A x4.n x4.c)] rfl ?_
          refine r_q (q_assign rfl rfl) rfl rfl ?_
          refine r_nil ?_
          refine j_then ?_
          refine j_ret ?_
          cases h
          exact j_return rfl (ResOf.cell 3 rfl rfl ag25 sz25 (ResOf.tmp rfl ResOf.nil)) rfl (fun w h => ⟨(⟨x2.A, x2.n, x2.c, x2.h⟩, ⟨x3.A, x3.n, x3.c, x3.h⟩, ⟨x4.A, x4.n, x4.c, x4.h⟩), rfl, h.pick 4 [2, 1, 0] rfl⟩)

theorem spec_l1Draw.calls (K : Nat) (a0_g : Nat) (a0_0 : List Int) (a0_0_A : Option Addr) (a0_0_n a0_0_c : Nat) (a0_1 : Int) {w0 w : World} {F : List Res} {r1 : List Int} {r2 : List Int} {r3 : List Int} {r4 : Int} (hm : Mem w0 (.box a0_g 94 [.slice a0_0_A a0_0_n a0_0_c, i6 a0_1] :: F) w) (a0_0_h : a0_0.length = a0_0_n) (a0_0_R : Rd w0 F a0_0_A (ints .u8 a0_0)) (h : spec_l1Draw.f K a0_0 a0_1 = some (r1, r2, r3, r4)) :
    Calls Try.prog 99 (List.toArray [pt a0_g]) w fun e w' => ∃ x : (Sl r1.length) × (Sl r2.length) × (Sl r3.length), e = .returned (.agg (List.toArray [.slice x.1.A x.1.n x.1.c, .slice x.2.1.A x.2.1.n x.2.1.c, .slice x.2.2.A x.2.2.n x.2.2.c])) ∧ Mem w0 (.row x.1.A x.1.c 3 1 (ii r1) :: .row x.2.1.A x.2.1.c 3 1 (ii r2) :: .row x.2.2.A x.2.2.c 3 1 (ii r3) :: .box a0_g 94 [.slice a0_0_A a0_0_n a0_0_c, i6 r4] :: F) w' := by
  unfold spec_l1Draw.f at h
  refine calls_of_J (n := 80) Try.func99 rfl rfl rfl hm ?_
  refine j_seq ?_
  refine j_region ?_
  refine r_do (a_alloc zr25 rfl) rfl rfl (fun x1 => ?_)
  refine r_nil ?_
  refine j_then ?_
  refine j_seq ?_
  refine j_region ?_
  refine r_q (q_move rfl rfl) rfl rfl ?_
  refine r_do (a_litX (vs := [(i6 (4:Int)), (i6 (3:Int)), (i6 (5:Int)), (i6 (6:Int)), (i6 (2:Int)), (i6 (8:Int)), (i6 (1:Int))]) (ii ([(4:Int), (3:Int), (5:Int), (6:Int), (2:Int), (8:Int), (1:Int)] : List Int)) un23 sz3 zr3 rfl rfl rfl rfl rfl rfl rfl rfl rfl) rfl rfl (fun x2 => ?_)
  obtain ⟨v1, v2, hb1, h⟩ := of_b2 h
  refine j_rs (.box a0_g 94 [(.slice a0_0_A a0_0_n a0_0_c), (i6 a0_1)] :: .row x2 7 3 1 (ii ([(4:Int), (3:Int), (5:Int), (6:Int), (2:Int), (8:Int), (1:Int)] : List Int)) :: .box x1 25 [(.slice none 0 0), (.slice none 0 0), (.slice none 0 0)] :: F) (fun _ h => h.pick 3 [2, 0, 1] rfl) ?_
  refine r_do (a_call ok55 rfl rfl rfl rfl (fun w hm => spec_l13Rd_num.calls K a0_g a0_0 a0_0_A a0_0_n a0_0_c a0_1 ([(4:Int), (3:Int), (5:Int), (6:Int), (2:Int), (8:Int), (1:Int)] : List Int) x2 7 7 hm a0_0_h (Rd.drop 2 a0_0_R) rfl (Rd.row 0 rfl) hb1)) rfl rfl (fun x3 => ?_)
  refine r_q (q_assign rfl rfl) rfl rfl ?_
  refine r_nil ?_
  refine j_then ?_
  refine j_seq ?_
  refine j_region ?_
  refine r_q (q_move rfl rfl) rfl rfl ?_
  refine r_q (q_move rfl rfl) rfl rfl ?_
  refine r_do (a_litX (vs := [(i6 (2:Int)), (i6 (1:Int)), (i6 (3:Int))]) (ii ([(2:Int), (1:Int), (3:Int)] : List Int)) un23 sz3 zr3 rfl rfl rfl rfl rfl rfl rfl rfl rfl) rfl rfl (fun x4 => ?_)
  obtain ⟨v3, v4, hb2, h⟩ := of_b2 h
  refine j_rs (.box a0_g 94 [(.slice a0_0_A a0_0_n a0_0_c), (i6 v2)] :: .row x4 3 3 1 (ii ([(2:Int), (1:Int), (3:Int)] : List Int)) :: .row x2 7 3 1 (ii ([(4:Int), (3:Int), (5:Int), (6:Int), (2:Int), (8:Int), (1:Int)] : List Int)) :: .box x1 25 [(.slice none 0 0), (.slice none 0 0), (.slice none 0 0)] :: F) (fun _ h => h.pick 4 [1, 0, 2, 3] rfl) ?_
  refine r_do (a_call ok55 rfl rfl rfl rfl (fun w hm => spec_l13Rd_num.calls K a0_g a0_0 a0_0_A a0_0_n a0_0_c v2 ([(2:Int), (1:Int), (3:Int)] : List Int) x4 3 3 hm a0_0_h (Rd.drop 3 a0_0_R) rfl (Rd.row 0 rfl) hb2)) rfl rfl (fun x5 => ?_)
  obtain ⟨v5, v6, v7, v8, hb3, h⟩ := of_b4 h
  refine r_do (a_call ok103 rfl rfl rfl rfl (fun w hm => spec_NewHeap.calls K v1 v3 hm hb3)) rfl rfl (fun x6 => ?_)
  refine r_q (q_move rfl rfl) rfl rfl ?_
  refine r_q (q_extract rfl rfl rfl) rfl rfl ?_
  refine r_q (q_extract rfl rfl rfl) rfl rfl ?_
  refine r_do (a_alloc zr25 rfl) rfl rfl (fun x7 => ?_)
  refine r_do (a_storeb 0 rfl sz25 rfl rfl rfl rfl (Nat.le_of_ble_eq_true rfl) rfl) rfl rfl (fun _ => ?_)
  refine j_b0 [(.slice x6.1.A x6.1.n x6.1.c), (.slice x6.2.1.A x6.2.1.n x6.2.1.c), (.slice x6.2.2.A x6.2.2.n x6.2.2.c)] rfl ?_
  refine r_q (q_assign rfl rfl) rfl rfl ?_
  refine r_nil ?_
  refine j_then ?_
  refine j_seq ?_
  refine j_seq ?_
  refine j_region ?_
  refine r_q (q_assign rfl rfl) rfl rfl ?_
  refine r_nil ?_
  refine j_then ?_
  obtain ⟨κ0, h, hκ0⟩ := ex_k (g := fun κ => spec_l1Draw.loop0 K κ a0_0 v1 K (0:Int) v4 v5 v6 = some (r1, r2, r3, r4)) h
  refine j_cut (σ := Int × (List Int) × (List Int)) (fun s => [(0, (pt a0_g)), (2, (pt x1)), (3, (i6 v1)), (4, (pt x7))]) (fun s => .box a0_g 94 [(.slice a0_0_A a0_0_n a0_0_c), (i6 s.1)] :: .box x1 25 [(.slice none 0 0), (.slice none 0 0), (.slice none 0 0)] :: .box x7 25 [(.slice x6.1.A x6.1.n x6.1.c), (.slice x6.2.1.A x6.2.1.n x6.2.1.c), (.slice x6.2.2.A x6.2.2.n x6.2.2.c)] :: .row x6.1.A x6.1.c 3 1 (ii s.2.1) :: .row x6.2.1.A x6.2.1.c 3 1 (ii s.2.2) :: .row x6.2.2.A x6.2.2.c 3 1 (ii v7) :: F) (fun s => κ0 s.1 s.2.1 s.2.2 = some (r1, r2, r3, r4) ∧ (s.2.1.length = x6.1.n) ∧ (s.2.2.length = x6.2.1.n)) ?_ ?_
  · refine j_block ?_
    refine j_loop (σ := Int × Int × (List Int) × (List Int)) (fun s => [(0, (pt a0_g)), (2, (pt x1)), (3, (i6 v1)), (4, (pt x7)), (6, (i6 s.1))]) (fun s => .box a0_g 94 [(.slice a0_0_A a0_0_n a0_0_c), (i6 s.2.1)] :: .box x1 25 [(.slice none 0 0), (.slice none 0 0), (.slice none 0 0)] :: .box x7 25 [(.slice x6.1.A x6.1.n x6.1.c), (.slice x6.2.1.A x6.2.1.n x6.2.1.c), (.slice x6.2.2.A x6.2.2.n x6.2.2.c)] :: .row x6.1.A x6.1.c 3 1 (ii s.2.2.1) :: .row x6.2.1.A x6.2.1.c 3 1 (ii s.2.2.2) :: .row x6.2.2.A x6.2.2.c 3 1 (ii v7) :: F) (fun m s => spec_l1Draw.loop0 K κ0 a0_0 v1 m s.1 s.2.1 s.2.2.1 s.2.2.2 = some (r1, r2, r3, r4) ∧ (s.2.2.1.length = x6.1.n) ∧ (s.2.2.2.length = x6.2.1.n)) K ((0:Int), v4, v5, v6) ⟨h, x6.1.h, x6.2.1.h⟩ (fun a he => he.sub ⟨rfl, rfl, rfl, rfl, rfl, trivial⟩) (fun w h => h.pick 8 [4, 7, 0, 1, 2, 3] rfl) ?_
    rintro m ⟨p3, p4, l3, l4⟩ ⟨h, q3, q4⟩
    cases m with
    | zero => exact absurd h (by rw [spec_l1Draw.loop0]; exact nofun)
    | succ m =>
      rw [spec_l1Draw.loop0] at h
      show J _ _ [(0, (pt a0_g)), (2, (pt x1)), (3, (i6 v1)), (4, (pt x7)), (6, (i6 p3))] _ (.box a0_g 94 [(.slice a0_0_A a0_0_n a0_0_c), (i6 p4)] :: .box x1 25 [(.slice none 0 0), (.slice none 0 0), (.slice none 0 0)] :: .box x7 25 [(.slice x6.1.A x6.1.n x6.1.c), (.slice x6.2.1.A x6.2.1.n x6.2.1.c), (.slice x6.2.2.A x6.2.2.n x6.2.2.c)] :: .row x6.1.A x6.1.c 3 1 (ii l3) :: .row x6.2.1.A x6.2.1.c 3 1 (ii l4) :: .row x6.2.2.A x6.2.2.c 3 1 (ii v7) :: F)
      refine j_seq ?_
      refine j_seq ?_
      refine j_region ?_
      refine r_q (q_move rfl rfl) rfl rfl ?_
      refine r_q (q_move rfl rfl) rfl rfl ?_
      refine r_q (q_lss rfl rfl rfl) rfl rfl ?_
      refine r_nil ?_
      refine j_then ?_
      rcases of_if h with ⟨c28, h⟩ | ⟨c28, h⟩
      · refine j_true rfl (decide_eq_true c28) ?_
        refine j_skip ?_
        refine j_then ?_
        refine j_seq ?_
        refine j_block ?_
        refine j_seq ?_
        obtain ⟨v21, v22, hb10, h⟩ := of_b2 h
        obtain ⟨c29, h⟩ := of_guard h
        refine j_draw (.box x1 25 [(.slice none 0 0), (.slice none 0 0), (.slice none 0 0)] :: .box x7 25 [(.slice x6.1.A x6.1.n x6.1.c), (.slice x6.2.1.A x6.2.1.n x6.2.1.c), (.slice x6.2.2.A x6.2.2.n x6.2.2.c)] :: .row x6.2.1.A x6.2.1.c 3 1 (ii l4) :: .row x6.2.2.A x6.2.2.c 3 1 (ii v7) :: F) 10 follows_any rfl ?_
        refine d_take 0 rfl (q_fieldAddr fi25_0 sz23 rfl rfl rfl) rfl rfl (by kernel_rfl) (by kernel_rfl) (by kernel_rfl) (fun w h => h.pick 6 [1, 2, 4, 5] rfl) ?_
        refine d_take 1 rfl (q_loadb 1 rfl ag23 rfl rfl rfl) rfl rfl (by kernel_rfl) (by kernel_rfl) (by kernel_rfl) (fun w h => h.pick 6 [1, 2, 4, 5] rfl) ?_
        refine d_take 2 rfl (q_move rfl rfl) rfl rfl (by kernel_rfl) (by kernel_rfl) (by kernel_rfl) (fun w h => h.pick 6 [1, 2, 4, 5] rfl) ?_
        refine d_take 3 rfl (q_move rfl rfl) rfl rfl (by kernel_rfl) (by kernel_rfl) (by kernel_rfl) (fun w h => h.pick 6 [1, 2, 4, 5] rfl) ?_
        refine d_take 4 rfl (q_move rfl rfl) rfl rfl (by kernel_rfl) (by kernel_rfl) (by kernel_rfl) (fun w h => h.pick 6 [1, 2, 4, 5] rfl) ?_
        refine d_take 5 rfl (q_add rfl rfl rfl) rfl rfl (by kernel_rfl) (by kernel_rfl) (by kernel_rfl) (fun w h => h.pick 6 [1, 2, 4, 5] rfl) ?_
        refine d_one 6 (by kernel_rfl) ?_
        refine o_do rfl (a_call ok89 rfl rfl rfl rfl (fun w hm => spec_l13Rd_pick.calls K a0_g a0_0 a0_0_A a0_0_n a0_0_c p4 (wrap64 (v1 + (2:Int))) hm a0_0_h (Rd.drop 5 a0_0_R) hb10)) rfl rfl (fun x8 w h => h.pick 6 [1, 2, 4, 5] rfl) (fun x8 => ?_)
        refine d_take 7 rfl (q_sub rfl rfl rfl) rfl rfl (by kernel_rfl) (by kernel_rfl) (by kernel_rfl) (fun w h => h.pick 6 [1, 2, 4, 5] rfl) ?_
        refine d_one 8 (by kernel_rfl) ?_
        refine o_do rfl ((q_ix (Rd.row 3 rfl) (ints_len1 _ l3) (by decide) q3 c29 un23 sz3 rfl rfl rfl)).acts rfl rfl (fun _ w h => h.pick 6 [1, 2, 4, 5] rfl) (fun _ => ?_)
        refine d_one 9 (by kernel_rfl) ?_
        refine o_do rfl (a_stI 3 rfl c29 sz3 rfl rfl rfl) rfl rfl (fun _ w h => h.pick 6 [1, 2, 4, 5] rfl) (fun _ => ?_)
        refine j_s3 ?_
        refine d_done (by kernel_rfl) ?_
        refine j_then ?_
        refine j_seq ?_
        obtain ⟨v23, v24, hb11, h⟩ := of_b2 h
        obtain ⟨c30, h⟩ := of_guard h
        refine j_draw (.box x1 25 [(.slice none 0 0), (.slice none 0 0), (.slice none 0 0)] :: .box x7 25 [(.slice x6.1.A x6.1.n x6.1.c), (.slice x6.2.1.A x6.2.1.n x6.2.1.c), (.slice x6.2.2.A x6.2.2.n x6.2.2.c)] :: .row x6.1.A x6.1.c 3 1 (ii (l3.set p3.toNat (wrap64 (v21 - (1:Int))))) :: .row x6.2.2.A x6.2.2.c 3 1 (ii v7) :: F) 10 follows_any rfl ?_
        refine d_take 0 rfl (q_fieldAddr fi25_1 sz23 rfl rfl rfl) rfl rfl (by kernel_rfl) (by kernel_rfl) (by kernel_rfl) (fun w h => h.pick 6 [1, 2, 3, 5] rfl) ?_
        refine d_take 1 rfl (q_loadb 1 rfl ag23 rfl rfl rfl) rfl rfl (by kernel_rfl) (by kernel_rfl) (by kernel_rfl) (fun w h => h.pick 6 [1, 2, 3, 5] rfl) ?_
        refine d_take 2 rfl (q_move rfl rfl) rfl rfl (by kernel_rfl) (by kernel_rfl) (by kernel_rfl) (fun w h => h.pick 6 [1, 2, 3, 5] rfl) ?_
        refine d_take 3 rfl (q_move rfl rfl) rfl rfl (by kernel_rfl) (by kernel_rfl) (by kernel_rfl) (fun w h => h.pick 6 [1, 2, 3, 5] rfl) ?_
        refine d_take 4 rfl (q_move rfl rfl) rfl rfl (by kernel_rfl) (by kernel_rfl) (by kernel_rfl) (fun w h => h.pick 6 [1, 2, 3, 5] rfl) ?_
        refine d_take 5 rfl (q_add rfl rfl rfl) rfl rfl (by kernel_rfl) (by kernel_rfl) (by kernel_rfl) (fun w h => h.pick 6 [1, 2, 3, 5] rfl) ?_
        refine d_one 6 (by kernel_rfl) ?_
        refine o_do rfl (a_call ok89 rfl rfl rfl rfl (fun w hm => spec_l13Rd_pick.calls K a0_g a0_0 a0_0_A a0_0_n a0_0_c v22 (wrap64 (v1 + (2:Int))) hm a0_0_h (Rd.drop 5 a0_0_R) hb11)) rfl rfl (fun x9 w h => h.pick 6 [1, 2, 3, 5] rfl) (fun x9 => ?_)
        refine d_take 7 rfl (q_sub rfl rfl rfl) rfl rfl (by kernel_rfl) (by kernel_rfl) (by kernel_rfl) (fun w h => h.pick 6 [1, 2, 3, 5] rfl) ?_
        refine d_one 8 (by kernel_rfl) ?_
        refine o_do rfl ((q_ix (Rd.row 4 rfl) (ints_len1 _ l4) (by decide) q4 c30 un23 sz3 rfl rfl rfl)).acts rfl rfl (fun _ w h => h.pick 6 [1, 2, 3, 5] rfl) (fun _ => ?_)
        refine d_one 9 (by kernel_rfl) ?_
        refine o_do rfl (a_stI 4 rfl c30 sz3 rfl rfl rfl) rfl rfl (fun _ w h => h.pick 6 [1, 2, 3, 5] rfl) (fun _ => ?_)
        refine j_s4 ?_
        refine d_done (by kernel_rfl) ?_
        refine j_then ?_
        refine j_seq ?_
        refine j_seq ?_
        refine j_region ?_
        refine r_q (q_fieldAddr fi25_0 sz23 rfl rfl rfl) rfl rfl ?_
        refine r_q (q_loadb 2 rfl ag23 rfl rfl rfl) rfl rfl ?_
        refine r_q (q_move rfl rfl) rfl rfl ?_
        obtain ⟨c31, h⟩ := of_guard h
        refine r_q (q_ix (Rd.row 3 rfl) (ints_len1 _ (l3.set p3.toNat (wrap64 (v21 - (1:Int))))) (by decide) (set_len q3 _ _) c31 un23 sz3 rfl rfl rfl) rfl rfl ?_
        refine r_q (q_ldI (Rd.row 3 rfl) c31 ag3 rfl rfl) rfl rfl ?_
        refine r_q (q_move rfl rfl) rfl rfl ?_
        refine r_q (q_geq rfl rfl rfl) rfl rfl ?_
        refine r_nil ?_
        refine j_then ?_
        rcases of_if h with ⟨c32, h⟩ | ⟨c32, h⟩
        · refine j_true rfl (decide_eq_true c32) ?_
          refine j_region ?_
          refine r_q (q_fieldAddr fi25_0 sz23 rfl rfl rfl) rfl rfl ?_
          refine r_q (q_loadb 2 rfl ag23 rfl rfl rfl) rfl rfl ?_
          refine r_q (q_move rfl rfl) rfl rfl ?_
          refine r_q (q_ix (Rd.row 3 rfl) (ints_len1 _ (l3.set p3.toNat (wrap64 (v21 - (1:Int))))) (by decide) (set_len q3 _ _) c31 un23 sz3 rfl rfl rfl) rfl rfl ?_
          refine r_do (a_stI 3 rfl c31 sz3 rfl rfl rfl) rfl rfl (fun _ => ?_)
          refine j_s3 ?_
          refine r_nil ?_
          refine j_then ?_
          refine j_seq ?_
          refine j_region ?_
          refine r_q (q_fieldAddr fi25_1 sz23 rfl rfl rfl) rfl rfl ?_
          refine r_q (q_loadb 2 rfl ag23 rfl rfl rfl) rfl rfl ?_
          refine r_q (q_move rfl rfl) rfl rfl ?_
          obtain ⟨c33, h⟩ := of_guard h
          refine r_q (q_ix (Rd.row 4 rfl) (ints_len1 _ (l4.set p3.toNat (wrap64 (v23 - (2:Int))))) (by decide) (set_len q4 _ _) c33 un23 sz3 rfl rfl rfl) rfl rfl ?_
          refine r_q (q_ldI (Rd.row 4 rfl) c33 ag3 rfl rfl) rfl rfl ?_
          refine r_q (q_lss rfl rfl rfl) rfl rfl ?_
          refine r_nil ?_
          refine j_then ?_
          rcases of_if h with ⟨c34, h⟩ | ⟨c34, h⟩
          · refine j_true rfl (decide_eq_true c34) ?_
            refine j_region ?_
            refine r_q (q_fieldAddr fi25_1 sz23 rfl rfl rfl) rfl rfl ?_
            refine r_q (q_loadb 2 rfl ag23 rfl rfl rfl) rfl rfl ?_
            refine r_q (q_move rfl rfl) rfl rfl ?_
            refine r_q (q_ix (Rd.row 4 rfl) (ints_len1 _ (l4.set p3.toNat (wrap64 (v23 - (2:Int))))) (by decide) (set_len q4 _ _) c33 un23 sz3 rfl rfl rfl) rfl rfl ?_
            refine r_do (a_stI 4 rfl c33 sz3 rfl rfl rfl) rfl rfl (fun _ => ?_)
            refine j_s4 ?_
            refine r_nil ?_
            refine j_in ?_
            refine j_then ?_
            refine j_region ?_
            refine r_q (q_move rfl rfl) rfl rfl ?_
            refine r_q (q_add rfl rfl rfl) rfl rfl ?_
            refine r_q (q_assign rfl rfl) rfl rfl ?_
            refine r_nil ?_
            refine j_then ?_
            exact j_again m ((wrap64 (p3 + (1:Int))), v24, ((l3.set p3.toNat (wrap64 (v21 - (1:Int)))).set p3.toNat (-1:Int)), ((l4.set p3.toNat (wrap64 (v23 - (2:Int)))).set p3.toNat (-1:Int))) (Nat.lt_succ_self m) ⟨h, (set_len (set_len q3 _ _) _ _), (set_len (set_len q4 _ _) _ _)⟩ (fun a he => he.sub ⟨rfl, rfl, rfl, rfl, rfl, trivial⟩) (fun w h => h)
          · refine j_false rfl (decide_eq_false c34) ?_
            refine j_skip ?_
            refine j_in ?_
            refine j_then ?_
            refine j_region ?_
            refine r_q (q_move rfl rfl) rfl rfl ?_
            refine r_q (q_add rfl rfl rfl) rfl rfl ?_
            refine r_q (q_assign rfl rfl) rfl rfl ?_
            refine r_nil ?_
            refine j_then ?_
            exact j_again m ((wrap64 (p3 + (1:Int))), v24, ((l3.set p3.toNat (wrap64 (v21 - (1:Int)))).set p3.toNat (-1:Int)), (l4.set p3.toNat (wrap64 (v23 - (2:Int))))) (Nat.lt_succ_self m) ⟨h, (set_len (set_len q3 _ _) _ _), (set_len q4 _ _)⟩ (fun a he => he.sub ⟨rfl, rfl, rfl, rfl, rfl, trivial⟩) (fun w h => h)
        · refine j_false rfl (decide_eq_false c32) ?_
          refine j_skip ?_
          refine j_then ?_
          refine j_seq ?_
          refine j_region ?_
          refine r_q (q_fieldAddr fi25_1 sz23 rfl rfl rfl) rfl rfl ?_
          refine r_q (q_loadb 2 rfl ag23 rfl rfl rfl) rfl rfl ?_
          refine r_q (q_move rfl rfl) rfl rfl ?_
          obtain ⟨c35, h⟩ := of_guard h
          refine r_q (q_ix (Rd.row 4 rfl) (ints_len1 _ (l4.set p3.toNat (wrap64 (v23 - (2:Int))))) (by decide) (set_len q4 _ _) c35 un23 sz3 rfl rfl rfl) rfl rfl ?_
          refine r_q (q_ldI (Rd.row 4 rfl) c35 ag3 rfl rfl) rfl rfl ?_
          refine r_q (q_lss rfl rfl rfl) rfl rfl ?_
          refine r_nil ?_
          refine j_then ?_
          rcases of_if h with ⟨c36, h⟩ | ⟨c36, h⟩
          · refine j_true rfl (decide_eq_true c36) ?_
            refine j_region ?_
            refine r_q (q_fieldAddr fi25_1 sz23 rfl rfl rfl) rfl rfl ?_
            refine r_q (q_loadb 2 rfl ag23 rfl rfl rfl) rfl rfl ?_
            refine r_q (q_move rfl rfl) rfl rfl ?_
            refine r_q (q_ix (Rd.row 4 rfl) (ints_len1 _ (l4.set p3.toNat (wrap64 (v23 - (2:Int))))) (by decide) (set_len q4 _ _) c35 un23 sz3 rfl rfl rfl) rfl rfl ?_
            refine r_do (a_stI 4 rfl c35 sz3 rfl rfl rfl) rfl rfl (fun _ => ?_)
            refine j_s4 ?_
            refine r_nil ?_
            refine j_in ?_
            refine j_then ?_
            refine j_region ?_
            refine r_q (q_move rfl rfl) rfl rfl ?_
            refine r_q (q_add rfl rfl rfl) rfl rfl ?_
            refine r_q (q_assign rfl rfl) rfl rfl ?_
            refine r_nil ?_
            refine j_then ?_
            exact j_again m ((wrap64 (p3 + (1:Int))), v24, (l3.set p3.toNat (wrap64 (v21 - (1:Int)))), ((l4.set p3.toNat (wrap64 (v23 - (2:Int)))).set p3.toNat (-1:Int))) (Nat.lt_succ_self m) ⟨h, (set_len q3 _ _), (set_len (set_len q4 _ _) _ _)⟩ (fun a he => he.sub ⟨rfl, rfl, rfl, rfl, rfl, trivial⟩) (fun w h => h)
          · refine j_false rfl (decide_eq_false c36) ?_
            refine j_skip ?_
            refine j_in ?_
            refine j_then ?_
            refine j_region ?_
            refine r_q (q_move rfl rfl) rfl rfl ?_
            refine r_q (q_add rfl rfl rfl) rfl rfl ?_
            refine r_q (q_assign rfl rfl) rfl rfl ?_
            refine r_nil ?_
            refine j_then ?_
            exact j_again m ((wrap64 (p3 + (1:Int))), v24, (l3.set p3.toNat (wrap64 (v21 - (1:Int)))), (l4.set p3.toNat (wrap64 (v23 - (2:Int))))) (Nat.lt_succ_self m) ⟨h, (set_len q3 _ _), (set_len q4 _ _)⟩ (fun a he => he.sub ⟨rfl, rfl, rfl, rfl, rfl, trivial⟩) (fun w h => h)
      · refine j_false rfl (decide_eq_false c28) ?_
        refine j_exit ?_
        refine j_then_exit ?_
        refine j_then_exit ?_
        refine j_in_exit ?_
        refine j_then ?_
        exact j_meet (p4, l3, l4) ⟨h, q3, q4⟩ (fun a he => he.sub ⟨rfl, rfl, rfl, rfl, trivial⟩) (fun w h => h)
  · rintro ⟨p5, l5, l6⟩ ⟨h, q5, q6⟩
    subst hκ0
    show J _ _ [(0, (pt a0_g)), (2, (pt x1)), (3, (i6 v1)), (4, (pt x7))] _ (.box a0_g 94 [(.slice a0_0_A a0_0_n a0_0_c), (i6 p5)] :: .box x1 25 [(.slice none 0 0), (.slice none 0 0), (.slice none 0 0)] :: .box x7 25 [(.slice x6.1.A x6.1.n x6.1.c), (.slice x6.2.1.A x6.2.1.n x6.2.1.c), (.slice x6.2.2.A x6.2.2.n x6.2.2.c)] :: .row x6.1.A x6.1.c 3 1 (ii l5) :: .row x6.2.1.A x6.2.1.c 3 1 (ii l6) :: .row x6.2.2.A x6.2.2.c 3 1 (ii v7) :: F)
    refine j_then ?_
    refine j_seq ?_
    refine j_seq ?_
    refine j_region ?_
    refine r_q (q_assign rfl rfl) rfl rfl ?_
    refine r_nil ?_
    refine j_then ?_
    obtain ⟨κ1, h, hκ1⟩ := ex_k (g := fun κ => spec_l1Draw.loop1 K κ a0_0 v1 K (0:Int) p5 v7 = some (r1, r2, r3, r4)) h
    refine j_cut (σ := Int × (List Int)) (fun s => [(2, (pt x1)), (4, (pt x7))]) (fun s => .box x1 25 [(.slice none 0 0), (.slice none 0 0), (.slice none 0 0)] :: .box x7 25 [(.slice x6.1.A x6.1.n x6.1.c), (.slice x6.2.1.A x6.2.1.n x6.2.1.c), (.slice x6.2.2.A x6.2.2.n x6.2.2.c)] :: .box a0_g 94 [(.slice a0_0_A a0_0_n a0_0_c), (i6 s.1)] :: .row x6.1.A x6.1.c 3 1 (ii l5) :: .row x6.2.1.A x6.2.1.c 3 1 (ii l6) :: .row x6.2.2.A x6.2.2.c 3 1 (ii s.2) :: F) (fun s => κ1 s.1 s.2 = some (r1, r2, r3, r4) ∧ (s.2.length = x6.2.2.n)) ?_ ?_
    · refine j_block ?_
      refine j_loop (σ := Int × Int × (List Int)) (fun s => [(0, (pt a0_g)), (2, (pt x1)), (3, (i6 v1)), (4, (pt x7)), (7, (i6 s.1))]) (fun s => .box a0_g 94 [(.slice a0_0_A a0_0_n a0_0_c), (i6 s.2.1)] :: .box x1 25 [(.slice none 0 0), (.slice none 0 0), (.slice none 0 0)] :: .box x7 25 [(.slice x6.1.A x6.1.n x6.1.c), (.slice x6.2.1.A x6.2.1.n x6.2.1.c), (.slice x6.2.2.A x6.2.2.n x6.2.2.c)] :: .row x6.1.A x6.1.c 3 1 (ii l5) :: .row x6.2.1.A x6.2.1.c 3 1 (ii l6) :: .row x6.2.2.A x6.2.2.c 3 1 (ii s.2.2) :: F) (fun m s => spec_l1Draw.loop1 K κ1 a0_0 v1 m s.1 s.2.1 s.2.2 = some (r1, r2, r3, r4) ∧ (s.2.2.length = x6.2.2.n)) K ((0:Int), p5, v7) ⟨h, x6.2.2.h⟩ (fun a he => he.sub ⟨rfl, rfl, rfl, rfl, rfl, trivial⟩) (fun w h => h) ?_
      rintro m ⟨p8, p9, l8⟩ ⟨h, q8⟩
      cases m with
      | zero => exact absurd h (by rw [spec_l1Draw.loop1]; exact nofun)
      | succ m =>
        rw [spec_l1Draw.loop1] at h
        show J _ _ [(0, (pt a0_g)), (2, (pt x1)), (3, (i6 v1)), (4, (pt x7)), (7, (i6 p8))] _ (.box a0_g 94 [(.slice a0_0_A a0_0_n a0_0_c), (i6 p9)] :: .box x1 25 [(.slice none 0 0), (.slice none 0 0), (.slice none 0 0)] :: .box x7 25 [(.slice x6.1.A x6.1.n x6.1.c), (.slice x6.2.1.A x6.2.1.n x6.2.1.c), (.slice x6.2.2.A x6.2.2.n x6.2.2.c)] :: .row x6.1.A x6.1.c 3 1 (ii l5) :: .row x6.2.1.A x6.2.1.c 3 1 (ii l6) :: .row x6.2.2.A x6.2.2.c 3 1 (ii l8) :: F)
        refine j_seq ?_
        refine j_seq ?_
        refine j_region ?_
        refine r_q (q_move rfl rfl) rfl rfl ?_
        refine r_q (q_fieldAddr fi25_2 sz23 rfl rfl rfl) rfl rfl ?_
        refine r_q (q_loadb 2 rfl ag23 rfl rfl rfl) rfl rfl ?_
        refine r_q (q_lenX l8 q8 un23 rfl rfl rfl rfl rfl) rfl rfl ?_
        refine r_q (q_lss rfl rfl rfl) rfl rfl ?_
        refine r_nil ?_
        refine j_then ?_
        rcases of_if h with ⟨c43, h⟩ | ⟨c43, h⟩
        · refine j_true rfl (decide_eq_true c43) ?_
          refine j_skip ?_
          refine j_then ?_
          refine j_seq ?_
          refine j_block ?_
          obtain ⟨v31, v32, hb15, h⟩ := of_b2 h
          obtain ⟨c44, h⟩ := of_guard h
          refine j_draw (.box x1 25 [(.slice none 0 0), (.slice none 0 0), (.slice none 0 0)] :: .box x7 25 [(.slice x6.1.A x6.1.n x6.1.c), (.slice x6.2.1.A x6.2.1.n x6.2.1.c), (.slice x6.2.2.A x6.2.2.n x6.2.2.c)] :: .row x6.1.A x6.1.c 3 1 (ii l5) :: .row x6.2.1.A x6.2.1.c 3 1 (ii l6) :: F) 10 follows_any rfl ?_
          refine d_take 0 rfl (q_fieldAddr fi25_2 sz23 rfl rfl rfl) rfl rfl (by kernel_rfl) (by kernel_rfl) (by kernel_rfl) (fun w h => h.pick 6 [1, 2, 3, 4] rfl) ?_
          refine d_take 1 rfl (q_loadb 1 rfl ag23 rfl rfl rfl) rfl rfl (by kernel_rfl) (by kernel_rfl) (by kernel_rfl) (fun w h => h.pick 6 [1, 2, 3, 4] rfl) ?_
          refine d_take 2 rfl (q_move rfl rfl) rfl rfl (by kernel_rfl) (by kernel_rfl) (by kernel_rfl) (fun w h => h.pick 6 [1, 2, 3, 4] rfl) ?_
          refine d_take 3 rfl (q_move rfl rfl) rfl rfl (by kernel_rfl) (by kernel_rfl) (by kernel_rfl) (fun w h => h.pick 6 [1, 2, 3, 4] rfl) ?_
          refine d_take 4 rfl (q_move rfl rfl) rfl rfl (by kernel_rfl) (by kernel_rfl) (by kernel_rfl) (fun w h => h.pick 6 [1, 2, 3, 4] rfl) ?_
          refine d_take 5 rfl (q_add rfl rfl rfl) rfl rfl (by kernel_rfl) (by kernel_rfl) (by kernel_rfl) (fun w h => h.pick 6 [1, 2, 3, 4] rfl) ?_
          refine d_one 6 (by kernel_rfl) ?_
          refine o_do rfl (a_call ok89 rfl rfl rfl rfl (fun w hm => spec_l13Rd_pick.calls K a0_g a0_0 a0_0_A a0_0_n a0_0_c p9 (wrap64 (v1 + (1:Int))) hm a0_0_h (Rd.drop 5 a0_0_R) hb15)) rfl rfl (fun x10 w h => h.pick 6 [1, 2, 3, 4] rfl) (fun x10 => ?_)
          refine d_take 7 rfl (q_sub rfl rfl rfl) rfl rfl (by kernel_rfl) (by kernel_rfl) (by kernel_rfl) (fun w h => h.pick 6 [1, 2, 3, 4] rfl) ?_
          refine d_one 8 (by kernel_rfl) ?_
          refine o_do rfl ((q_ix (Rd.row 5 rfl) (ints_len1 _ l8) (by decide) q8 c44 un23 sz3 rfl rfl rfl)).acts rfl rfl (fun _ w h => h.pick 6 [1, 2, 3, 4] rfl) (fun _ => ?_)
          refine d_one 9 (by kernel_rfl) ?_
          refine o_do rfl (a_stI 5 rfl c44 sz3 rfl rfl rfl) rfl rfl (fun _ w h => h.pick 6 [1, 2, 3, 4] rfl) (fun _ => ?_)
          refine j_s5 ?_
          refine d_done (by kernel_rfl) ?_
          refine j_in ?_
          refine j_then ?_
          refine j_region ?_
          refine r_q (q_move rfl rfl) rfl rfl ?_
          refine r_q (q_add rfl rfl rfl) rfl rfl ?_
          refine r_q (q_assign rfl rfl) rfl rfl ?_
          refine r_nil ?_
          refine j_then ?_
          exact j_again m ((wrap64 (p8 + (1:Int))), v32, (l8.set p8.toNat (wrap64 (v31 - (1:Int))))) (Nat.lt_succ_self m) ⟨h, (set_len q8 _ _)⟩ (fun a he => he.sub ⟨rfl, rfl, rfl, rfl, rfl, trivial⟩) (fun w h => h)
        · refine j_false rfl (decide_eq_false c43) ?_
          refine j_exit ?_
          refine j_then_exit ?_
          refine j_then_exit ?_
          refine j_in_exit ?_
          refine j_then ?_
          exact j_meet (p9, l8) ⟨h, q8⟩ (fun a he => he.sub ⟨rfl, rfl, trivial⟩) (fun w h => h.pick 6 [1, 2, 0, 3, 4, 5] rfl)
    · rintro ⟨p10, l9⟩ ⟨h, q9⟩
      subst hκ1
      show J _ _ [(2, (pt x1)), (4, (pt x7))] _ (.box x1 25 [(.slice none 0 0), (.slice none 0 0), (.slice none 0 0)] :: .box x7 25 [(.slice x6.1.A x6.1.n x6.1.c), (.slice x6.2.1.A x6.2.1.n x6.2.1.c), (.slice x6.2.2.A x6.2.2.n x6.2.2.c)] :: .box a0_g 94 [(.slice a0_0_A a0_0_n a0_0_c), (i6 p10)] :: .row x6.1.A x6.1.c 3 1 (ii l5) :: .row x6.2.1.A x6.2.1.c 3 1 (ii l6) :: .row x6.2.2.A x6.2.2.c 3 1 (ii l9) :: F)
      refine j_then ?_
      refine j_seq ?_
      refine j_region ?_
      refine r_q (q_loadb_agg 1 rfl ag25 sz25 rfl rfl rfl rfl) rfl rfl ?_
      refine r_do (a_storeb 0 rfl sz25 rfl rfl rfl rfl (Nat.le_of_ble_eq_true rfl) rfl) rfl rfl (fun _ => ?_)
      refine j_b0 [(.slice x6.1.A x6.1.n x6.1.c), (.slice x6.2.1.A x6.2.1.n x6.2.1.c), (.slice x6.2.2.A x6.2.2.n x6.2.2.c)] rfl ?_
      refine r_nil ?_
      refine j_then ?_
      refine j_ret ?_
      cases h
      exact j_return rfl (ResOf.cell 0 rfl rfl ag25 sz25 ResOf.nil) rfl (fun w h => ⟨(⟨x6.1.A, x6.1.n, x6.1.c, q5⟩, ⟨x6.2.1.A, x6.2.1.n, x6.2.1.c, q6⟩, ⟨x6.2.2.A, x6.2.2.n, x6.2.2.c, q9⟩), rfl, h.pick 6 [3, 4, 5, 2] rfl⟩)

theorem spec_NewColored.calls (K : Nat) (a0_0 : List Int) (a0_0_A : Option Addr) (a0_0_n a0_0_c : Nat) (a0_1 : List Int) (a0_1_A : Option Addr) (a0_1_n a0_1_c : Nat) (a0_2 : List Int) (a0_2_A : Option Addr) (a0_2_n a0_2_c : Nat) {w0 w : World} {F : List Res} {r1 : List Int} {r2 : List Int} {r3 : List Int} {r4 : List Int} {r5 : Bool} (hm : Mem w0 (F) w) (a0_0_h : a0_0.length = a0_0_n) (a0_0_R : Rd w0 F a0_0_A (ii a0_0)) (a0_1_h : a0_1.length = a0_1_n) (a0_1_R : Rd w0 F a0_1_A (ii a0_1)) (a0_2_h : a0_2.length = a0_2_n) (a0_2_R : Rd w0 F a0_2_A (ii a0_2)) (h : spec_NewColored.f K a0_0 a0_1 a0_2 = some (r1, r2, r3, r4, r5)) :
    Calls Try.prog 98 (List.toArray [.agg (List.toArray [.slice a0_0_A a0_0_n a0_0_c, .slice a0_1_A a0_1_n a0_1_c, .slice a0_2_A a0_2_n a0_2_c])]) w fun e w' => ∃ x : (Sl r1.length) × (Sl r2.length) × (Sl r3.length) × (Sl r4.length), e = .returned (.tuple (List.toArray [.agg (List.toArray [.slice x.1.A x.1.n x.1.c, .slice x.2.1.A x.2.1.n x.2.1.c, .slice x.2.2.1.A x.2.2.1.n x.2.2.1.c, .slice x.2.2.2.A x.2.2.2.n x.2.2.2.c]), .bool r5])) ∧ Mem w0 (.row x.1.A x.1.c 3 1 (ii r1) :: .row x.2.1.A x.2.1.c 3 1 (ii r2) :: .row x.2.2.1.A x.2.2.1.c 3 1 (ii r3) :: .row x.2.2.2.A x.2.2.2.c 3 1 (ii r4) :: F) w' := by
  unfold spec_NewColored.f at h
  refine calls_of_J (n := 15) Try.func98 rfl rfl rfl hm ?_
  refine j_seq ?_
  refine j_region ?_
  refine r_do (a_box rfl rfl) rfl rfl (fun x1 => ?_)
  refine r_do (a_alloc zr27 rfl) rfl rfl (fun x2 => ?_)
  refine r_q (q_assign rfl rfl) rfl rfl ?_
  refine r_nil ?_
  refine j_then ?_
  refine j_seq ?_
  refine j_seq ?_
  refine j_region ?_
  refine r_q (q_loadb_agg 1 rfl ag25 sz25 rfl rfl rfl rfl) rfl rfl ?_
  obtain ⟨v1, hb1, h⟩ := of_b1 h
  refine r_do (a_call ok91 rfl rfl rfl rfl (fun w hm => spec_HeapValid.calls K a0_0 a0_0_A a0_0_n a0_0_c a0_1 a0_1_A a0_1_n a0_1_c a0_2 a0_2_A a0_2_n a0_2_c hm a0_0_h (Rd.drop 2 a0_0_R) a0_1_h (Rd.drop 2 a0_1_R) a0_2_h (Rd.drop 2 a0_2_R) hb1)) rfl rfl (fun x3 => ?_)
  refine r_q (q_not rfl rfl) rfl rfl ?_
  refine r_nil ?_
  refine j_then ?_
  rcases of_if h with ⟨c1, h⟩ | ⟨c1, h⟩
  · refine j_false rfl (not_f c1) ?_
    refine j_skip ?_
    refine j_then ?_
    refine j_seq ?_
    obtain ⟨v2, v3, v4, hb2, h⟩ := of_b3 h
    obtain ⟨c2, h⟩ := of_guard h
    refine j_draw (.box x1 25 [(.slice a0_0_A a0_0_n a0_0_c), (.slice a0_1_A a0_1_n a0_1_c), (.slice a0_2_A a0_2_n a0_2_c)] :: F) 9 follows_any rfl ?_
    refine d_take 0 rfl (q_loadb_agg 0 rfl ag25 sz25 rfl rfl rfl rfl) rfl rfl (by kernel_rfl) (by kernel_rfl) (by kernel_rfl) (fun w h => h.tail) ?_
    refine d_take 2 rfl (q_fieldAddr fi25_0 sz23 rfl rfl rfl) rfl rfl (by kernel_rfl) (by kernel_rfl) (by kernel_rfl) (fun w h => h.tail) ?_
    refine d_take 3 rfl (q_loadb 0 rfl ag23 rfl rfl rfl) rfl rfl (by kernel_rfl) (by kernel_rfl) (by kernel_rfl) (fun w h => h.tail) ?_
    refine d_take 4 rfl (q_lenX a0_0 a0_0_h un23 rfl rfl rfl rfl rfl) rfl rfl (by kernel_rfl) (by kernel_rfl) (by kernel_rfl) (fun w h => h.tail) ?_
    refine d_join (σ := ((Sl v2.length) × (Sl v3.length) × (Sl v4.length)) × (Option Addr)) 0 #[true, true, true, true, true, true, true, true, true] (fun s => [(2, (pt x2)), (3, (.bool true))]) (fun s => .row s.1.1.A s.1.1.c 3 1 (ii v2) :: .row s.1.2.1.A s.1.2.1.c 3 1 (ii v3) :: .row s.1.2.2.A s.1.2.2.c 3 1 (ii v4) :: .row s.2 ((a0_0.length : Int).toNat) 3 1 (ii (List.replicate (a0_0.length : Int).toNat (0:Int))) :: .box x2 27 [(.slice s.1.1.A s.1.1.n s.1.1.c), (.slice s.1.2.1.A s.1.2.1.n s.1.2.1.c), (.slice s.1.2.2.A s.1.2.2.n s.1.2.2.c), (.slice s.2 ((a0_0.length : Int).toNat) ((a0_0.length : Int).toNat))] :: .box x1 25 [(.slice a0_0_A a0_0_n a0_0_c), (.slice a0_1_A a0_1_n a0_1_c), (.slice a0_2_A a0_2_n a0_2_c)] :: F) ?_ (fun hD511 => ?_)
    · rintro ⟨x4, x5⟩
      show J _ _ [(2, (pt x2)), (3, (.bool true))] _ (.row x4.1.A x4.1.c 3 1 (ii v2) :: .row x4.2.1.A x4.2.1.c 3 1 (ii v3) :: .row x4.2.2.A x4.2.2.c 3 1 (ii v4) :: .row x5 ((a0_0.length : Int).toNat) 3 1 (ii (List.replicate (a0_0.length : Int).toNat (0:Int))) :: .box x2 27 [(.slice x4.1.A x4.1.n x4.1.c), (.slice x4.2.1.A x4.2.1.n x4.2.1.c), (.slice x4.2.2.A x4.2.2.n x4.2.2.c), (.slice x5 ((a0_0.length : Int).toNat) ((a0_0.length : Int).toNat))] :: .box x1 25 [(.slice a0_0_A a0_0_n a0_0_c), (.slice a0_1_A a0_1_n a0_1_c), (.slice a0_2_A a0_2_n a0_2_c)] :: F)
      refine d_done (by kernel_rfl) ?_
      refine j_then ?_
      refine j_ret ?_
      cases h
      exact j_return rfl (ResOf.cell 4 rfl rfl ag27 sz27 (ResOf.tmp rfl ResOf.nil)) rfl (fun w h => ⟨(⟨x4.1.A, x4.1.n, x4.1.c, x4.1.h⟩, ⟨x4.2.1.A, x4.2.1.n, x4.2.1.c, x4.2.1.h⟩, ⟨x4.2.2.A, x4.2.2.n, x4.2.2.c, x4.2.2.h⟩, ⟨x5, ((a0_0.length : Int).toNat), ((a0_0.length : Int).toNat), List.length_replicate⟩), rfl, h.pick 6 [0, 1, 2, 3] rfl⟩)
    refine d_join (σ := ((Sl v2.length) × (Sl v3.length) × (Sl v4.length)) × (Option Addr)) 2 #[true, true, true, true, true, true, true, false, false] (fun s => [(2, (pt x2)), (3, (.bool false)), (14, (.agg (List.toArray [(.slice s.1.1.A s.1.1.n s.1.1.c), (.slice s.1.2.1.A s.1.2.1.n s.1.2.1.c), (.slice s.1.2.2.A s.1.2.2.n s.1.2.2.c), (.slice s.2 ((a0_0.length : Int).toNat) ((a0_0.length : Int).toNat))])))]) (fun s => .row s.1.1.A s.1.1.c 3 1 (ii v2) :: .row s.1.2.1.A s.1.2.1.c 3 1 (ii v3) :: .row s.1.2.2.A s.1.2.2.c 3 1 (ii v4) :: .row s.2 ((a0_0.length : Int).toNat) 3 1 (ii (List.replicate (a0_0.length : Int).toNat (0:Int))) :: .box x2 27 [(.slice none 0 0), (.slice none 0 0), (.slice none 0 0), (.slice none 0 0)] :: .box x1 25 [(.slice a0_0_A a0_0_n a0_0_c), (.slice a0_1_A a0_1_n a0_1_c), (.slice a0_2_A a0_2_n a0_2_c)] :: F) ?_ (fun hD127 => ?_)
    · rintro ⟨x4, x5⟩
      show J _ _ [(2, (pt x2)), (3, (.bool false)), (14, (.agg (List.toArray [(.slice x4.1.A x4.1.n x4.1.c), (.slice x4.2.1.A x4.2.1.n x4.2.1.c), (.slice x4.2.2.A x4.2.2.n x4.2.2.c), (.slice x5 ((a0_0.length : Int).toNat) ((a0_0.length : Int).toNat))])))] _ (.row x4.1.A x4.1.c 3 1 (ii v2) :: .row x4.2.1.A x4.2.1.c 3 1 (ii v3) :: .row x4.2.2.A x4.2.2.c 3 1 (ii v4) :: .row x5 ((a0_0.length : Int).toNat) 3 1 (ii (List.replicate (a0_0.length : Int).toNat (0:Int))) :: .box x2 27 [(.slice none 0 0), (.slice none 0 0), (.slice none 0 0), (.slice none 0 0)] :: .box x1 25 [(.slice a0_0_A a0_0_n a0_0_c), (.slice a0_1_A a0_1_n a0_1_c), (.slice a0_2_A a0_2_n a0_2_c)] :: F)
      refine d_one 7 (by kernel_rfl) ?_
      · refine o_do rfl (a_storeb 4 rfl sz27 rfl rfl rfl rfl (Nat.le_of_ble_eq_true rfl) rfl) rfl rfl (fun _ w h => (h.drop 5)) (fun _ => ?_)
        refine j_b4 [(.slice x4.1.A x4.1.n x4.1.c), (.slice x4.2.1.A x4.2.1.n x4.2.1.c), (.slice x4.2.2.A x4.2.2.n x4.2.2.c), (.slice x5 ((a0_0.length : Int).toNat) ((a0_0.length : Int).toNat))] rfl ?_
        refine d_take 8 rfl (q_assign rfl rfl) rfl rfl (by kernel_rfl) (by kernel_rfl) (by kernel_rfl) (fun w h => (h.drop 5)) ?_
        refine j_rs (.row x4.1.A x4.1.c 3 1 (ii v2) :: .row x4.2.1.A x4.2.1.c 3 1 (ii v3) :: .row x4.2.2.A x4.2.2.c 3 1 (ii v4) :: .row x5 ((a0_0.length : Int).toNat) 3 1 (ii (List.replicate (a0_0.length : Int).toNat (0:Int))) :: .box x2 27 [(.slice x4.1.A x4.1.n x4.1.c), (.slice x4.2.1.A x4.2.1.n x4.2.1.c), (.slice x4.2.2.A x4.2.2.n x4.2.2.c), (.slice x5 ((a0_0.length : Int).toNat) ((a0_0.length : Int).toNat))] :: .box x1 25 [(.slice a0_0_A a0_0_n a0_0_c), (.slice a0_1_A a0_1_n a0_1_c), (.slice a0_2_A a0_2_n a0_2_c)] :: F) (fun _ h => h) ?_
        refine j_env [(2, (pt x2)), (3, (.bool true))] ⟨rfl, rfl, trivial⟩ ?_
        exact hD511 (x4, x5)
    refine d_join (σ := ((Sl v2.length) × (Sl v3.length) × (Sl v4.length))) 4 #[true, true, true, true, true, false, false, false, false] (fun s => [(2, (pt x2)), (3, (.bool false)), (9, (.agg (List.toArray [(.slice s.1.A s.1.n s.1.c), (.slice s.2.1.A s.2.1.n s.2.1.c), (.slice s.2.2.A s.2.2.n s.2.2.c)]))), (12, (i6 (a0_0.length : Int)))]) (fun s => .row s.1.A s.1.c 3 1 (ii v2) :: .row s.2.1.A s.2.1.c 3 1 (ii v3) :: .row s.2.2.A s.2.2.c 3 1 (ii v4) :: .box x2 27 [(.slice none 0 0), (.slice none 0 0), (.slice none 0 0), (.slice none 0 0)] :: .box x1 25 [(.slice a0_0_A a0_0_n a0_0_c), (.slice a0_1_A a0_1_n a0_1_c), (.slice a0_2_A a0_2_n a0_2_c)] :: F) ?_ (fun hD31 => ?_)
    · rintro x4
      show J _ _ [(2, (pt x2)), (3, (.bool false)), (9, (.agg (List.toArray [(.slice x4.1.A x4.1.n x4.1.c), (.slice x4.2.1.A x4.2.1.n x4.2.1.c), (.slice x4.2.2.A x4.2.2.n x4.2.2.c)]))), (12, (i6 (a0_0.length : Int)))] _ (.row x4.1.A x4.1.c 3 1 (ii v2) :: .row x4.2.1.A x4.2.1.c 3 1 (ii v3) :: .row x4.2.2.A x4.2.2.c 3 1 (ii v4) :: .box x2 27 [(.slice none 0 0), (.slice none 0 0), (.slice none 0 0), (.slice none 0 0)] :: .box x1 25 [(.slice a0_0_A a0_0_n a0_0_c), (.slice a0_1_A a0_1_n a0_1_c), (.slice a0_2_A a0_2_n a0_2_c)] :: F)
      refine d_one 5 (by kernel_rfl) ?_
      · refine o_do rfl (a_mkI un23 sz3 by3 zr3 rfl c2 rfl rfl rfl) rfl rfl (fun x5 w h => (h.drop 5)) (fun x5 => ?_)
        refine d_take 6 rfl (q_build (cs := [(.slice x4.1.A x4.1.n x4.1.c), (.slice x4.2.1.A x4.2.1.n x4.2.1.c), (.slice x4.2.2.A x4.2.2.n x4.2.2.c), (.slice x5 ((a0_0.length : Int).toNat) ((a0_0.length : Int).toNat))]) zr27 pl27 rfl rfl rfl rfl) rfl rfl (by kernel_rfl) (by kernel_rfl) (by kernel_rfl) (fun w h => (h.drop 5)) ?_
        refine j_rs (.row x4.1.A x4.1.c 3 1 (ii v2) :: .row x4.2.1.A x4.2.1.c 3 1 (ii v3) :: .row x4.2.2.A x4.2.2.c 3 1 (ii v4) :: .row x5 ((a0_0.length : Int).toNat) 3 1 (ii (List.replicate (a0_0.length : Int).toNat (0:Int))) :: .box x2 27 [(.slice none 0 0), (.slice none 0 0), (.slice none 0 0), (.slice none 0 0)] :: .box x1 25 [(.slice a0_0_A a0_0_n a0_0_c), (.slice a0_1_A a0_1_n a0_1_c), (.slice a0_2_A a0_2_n a0_2_c)] :: F) (fun _ h => h.pick 6 [1, 2, 3, 0, 4, 5] rfl) ?_
        refine j_env [(2, (pt x2)), (3, (.bool false)), (14, (.agg (List.toArray [(.slice x4.1.A x4.1.n x4.1.c), (.slice x4.2.1.A x4.2.1.n x4.2.1.c), (.slice x4.2.2.A x4.2.2.n x4.2.2.c), (.slice x5 ((a0_0.length : Int).toNat) ((a0_0.length : Int).toNat))])))] ⟨rfl, rfl, rfl, trivial⟩ ?_
        exact hD127 (x4, x5)
    refine d_join (σ := (Option Addr)) 4 #[true, false, true, true, true, true, false, false, false] (fun s => [(2, (pt x2)), (3, (.bool false)), (8, (.agg (List.toArray [(.slice a0_0_A a0_0_n a0_0_c), (.slice a0_1_A a0_1_n a0_1_c), (.slice a0_2_A a0_2_n a0_2_c)]))), (13, (.slice s ((a0_0.length : Int).toNat) ((a0_0.length : Int).toNat)))]) (fun s => .row s ((a0_0.length : Int).toNat) 3 1 (ii (List.replicate (a0_0.length : Int).toNat (0:Int))) :: .box x2 27 [(.slice none 0 0), (.slice none 0 0), (.slice none 0 0), (.slice none 0 0)] :: .box x1 25 [(.slice a0_0_A a0_0_n a0_0_c), (.slice a0_1_A a0_1_n a0_1_c), (.slice a0_2_A a0_2_n a0_2_c)] :: F) ?_ (fun hD61 => ?_)
    · rintro x5
      show J _ _ [(2, (pt x2)), (3, (.bool false)), (8, (.agg (List.toArray [(.slice a0_0_A a0_0_n a0_0_c), (.slice a0_1_A a0_1_n a0_1_c), (.slice a0_2_A a0_2_n a0_2_c)]))), (13, (.slice x5 ((a0_0.length : Int).toNat) ((a0_0.length : Int).toNat)))] _ (.row x5 ((a0_0.length : Int).toNat) 3 1 (ii (List.replicate (a0_0.length : Int).toNat (0:Int))) :: .box x2 27 [(.slice none 0 0), (.slice none 0 0), (.slice none 0 0), (.slice none 0 0)] :: .box x1 25 [(.slice a0_0_A a0_0_n a0_0_c), (.slice a0_1_A a0_1_n a0_1_c), (.slice a0_2_A a0_2_n a0_2_c)] :: F)
      refine d_one 1 (by kernel_rfl) ?_
      · refine o_do rfl (a_call ok92 rfl rfl rfl rfl (fun w hm => spec_l1Copy.calls K a0_0 a0_0_A a0_0_n a0_0_c a0_1 a0_1_A a0_1_n a0_1_c a0_2 a0_2_A a0_2_n a0_2_c hm a0_0_h (Rd.drop 3 a0_0_R) a0_1_h (Rd.drop 3 a0_1_R) a0_2_h (Rd.drop 3 a0_2_R) hb2)) rfl rfl (fun x4 w h => (h.drop 5)) (fun x4 => ?_)
        refine d_take 6 rfl (q_build (cs := [(.slice x4.1.A x4.1.n x4.1.c), (.slice x4.2.1.A x4.2.1.n x4.2.1.c), (.slice x4.2.2.A x4.2.2.n x4.2.2.c), (.slice x5 ((a0_0.length : Int).toNat) ((a0_0.length : Int).toNat))]) zr27 pl27 rfl rfl rfl rfl) rfl rfl (by kernel_rfl) (by kernel_rfl) (by kernel_rfl) (fun w h => (h.drop 5)) ?_
        refine j_rs (.row x4.1.A x4.1.c 3 1 (ii v2) :: .row x4.2.1.A x4.2.1.c 3 1 (ii v3) :: .row x4.2.2.A x4.2.2.c 3 1 (ii v4) :: .row x5 ((a0_0.length : Int).toNat) 3 1 (ii (List.replicate (a0_0.length : Int).toNat (0:Int))) :: .box x2 27 [(.slice none 0 0), (.slice none 0 0), (.slice none 0 0), (.slice none 0 0)] :: .box x1 25 [(.slice a0_0_A a0_0_n a0_0_c), (.slice a0_1_A a0_1_n a0_1_c), (.slice a0_2_A a0_2_n a0_2_c)] :: F) (fun _ h => h) ?_
        refine j_env [(2, (pt x2)), (3, (.bool false)), (14, (.agg (List.toArray [(.slice x4.1.A x4.1.n x4.1.c), (.slice x4.2.1.A x4.2.1.n x4.2.1.c), (.slice x4.2.2.A x4.2.2.n x4.2.2.c), (.slice x5 ((a0_0.length : Int).toNat) ((a0_0.length : Int).toNat))])))] ⟨rfl, rfl, rfl, trivial⟩ ?_
        exact hD127 (x4, x5)
    refine d_two 1 5 (by kernel_rfl) ?_ ?_
    · refine o_do rfl (a_call ok92 rfl rfl rfl rfl (fun w hm => spec_l1Copy.calls K a0_0 a0_0_A a0_0_n a0_0_c a0_1 a0_1_A a0_1_n a0_1_c a0_2 a0_2_A a0_2_n a0_2_c hm a0_0_h (Rd.drop 2 a0_0_R) a0_1_h (Rd.drop 2 a0_1_R) a0_2_h (Rd.drop 2 a0_2_R) hb2)) rfl rfl (fun x4 w h => (h.drop 4)) (fun x4 => ?_)
      refine j_rs (.row x4.1.A x4.1.c 3 1 (ii v2) :: .row x4.2.1.A x4.2.1.c 3 1 (ii v3) :: .row x4.2.2.A x4.2.2.c 3 1 (ii v4) :: .box x2 27 [(.slice none 0 0), (.slice none 0 0), (.slice none 0 0), (.slice none 0 0)] :: .box x1 25 [(.slice a0_0_A a0_0_n a0_0_c), (.slice a0_1_A a0_1_n a0_1_c), (.slice a0_2_A a0_2_n a0_2_c)] :: F) (fun _ h => h) ?_
      refine j_env [(2, (pt x2)), (3, (.bool false)), (9, (.agg (List.toArray [(.slice x4.1.A x4.1.n x4.1.c), (.slice x4.2.1.A x4.2.1.n x4.2.1.c), (.slice x4.2.2.A x4.2.2.n x4.2.2.c)]))), (12, (i6 (a0_0.length : Int)))] ⟨rfl, rfl, rfl, rfl, trivial⟩ ?_
      exact hD31 x4
    · refine o_do rfl (a_mkI un23 sz3 by3 zr3 rfl c2 rfl rfl rfl) rfl rfl (fun x5 w h => (h.drop 2)) (fun x5 => ?_)
      refine j_rs (.row x5 ((a0_0.length : Int).toNat) 3 1 (ii (List.replicate (a0_0.length : Int).toNat (0:Int))) :: .box x2 27 [(.slice none 0 0), (.slice none 0 0), (.slice none 0 0), (.slice none 0 0)] :: .box x1 25 [(.slice a0_0_A a0_0_n a0_0_c), (.slice a0_1_A a0_1_n a0_1_c), (.slice a0_2_A a0_2_n a0_2_c)] :: F) (fun _ h => h) ?_
      refine j_env [(2, (pt x2)), (3, (.bool false)), (8, (.agg (List.toArray [(.slice a0_0_A a0_0_n a0_0_c), (.slice a0_1_A a0_1_n a0_1_c), (.slice a0_2_A a0_2_n a0_2_c)]))), (13, (.slice x5 ((a0_0.length : Int).toNat) ((a0_0.length : Int).toNat)))] ⟨rfl, rfl, rfl, rfl, trivial⟩ ?_
      exact hD61 x5
  · refine j_true rfl (not_t (var_f c1)) ?_
    refine j_seq ?_
    refine j_region ?_
    refine r_q (q_build (cs := [(.slice none 0 0), (.slice none 0 0), (.slice none 0 0), (.slice none 0 0)]) zr27 pl27 rfl rfl rfl rfl) rfl rfl ?_
    refine r_do (a_storeb 0 rfl sz27 rfl rfl rfl rfl (Nat.le_of_ble_eq_true rfl) rfl) rfl rfl (fun _ => ?_)
    refine j_b0 [(.slice none 0 0), (.slice none 0 0), (.slice none 0 0), (.slice none 0 0)] rfl ?_
    refine r_q (q_assign rfl rfl) rfl rfl ?_
    refine r_nil ?_
    refine j_then ?_
    refine j_ret ?_
    refine j_then_ret ?_
    refine j_nil 3 1 ?_
    refine j_nil 3 1 ?_
    refine j_nil 3 1 ?_
    refine j_nil 3 1 ?_
    cases h
    exact j_return rfl (ResOf.cell 4 rfl rfl ag27 sz27 (ResOf.tmp rfl ResOf.nil)) rfl (fun w h => ⟨(⟨none, 0, 0, rfl⟩, ⟨none, 0, 0, rfl⟩, ⟨none, 0, 0, rfl⟩, ⟨none, 0, 0, rfl⟩), rfl, h.pick 6 [3, 2, 1, 0] rfl⟩)

theorem spec_ShadeRoots.calls (K : Nat) (a0_0 : List Int) (a0_0_A : Option Addr) (a0_0_n a0_0_c : Nat) (a0_1 : List Int) (a0_1_A : Option Addr) (a0_1_n a0_1_c : Nat) (a0_2 : List Int) (a0_2_A : Option Addr) (a0_2_n a0_2_c : Nat) (a0_3 : List Int) (a0_3_A : Option Addr) (a0_3_n a0_3_c : Nat) {w0 w : World} {F : List Res} {r1 : List Int} {r2 : List Int} {r3 : List Int} {r4 : List Int} {r5 : Bool} (hm : Mem w0 (F) w) (a0_0_h : a0_0.length = a0_0_n) (a0_0_R : Rd w0 F a0_0_A (ii a0_0)) (a0_1_h : a0_1.length = a0_1_n) (a0_1_R : Rd w0 F a0_1_A (ii a0_1)) (a0_2_h : a0_2.length = a0_2_n) (a0_2_R : Rd w0 F a0_2_A (ii a0_2)) (a0_3_h : a0_3.length = a0_3_n) (a0_3_R : Rd w0 F a0_3_A (ii a0_3)) (h : spec_ShadeRoots.f K a0_0 a0_1 a0_2 a0_3 = some (r1, r2, r3, r4, r5)) :
    Calls Try.prog 100 (List.toArray [.agg (List.toArray [.slice a0_0_A a0_0_n a0_0_c, .slice a0_1_A a0_1_n a0_1_c, .slice a0_2_A a0_2_n a0_2_c, .slice a0_3_A a0_3_n a0_3_c])]) w fun e w' => ∃ x : (Sl r1.length) × (Sl r2.length) × (Sl r3.length) × (Sl r4.length), e = .returned (.tuple (List.toArray [.agg (List.toArray [.slice x.1.A x.1.n x.1.c, .slice x.2.1.A x.2.1.n x.2.1.c, .slice x.2.2.1.A x.2.2.1.n x.2.2.1.c, .slice x.2.2.2.A x.2.2.2.n x.2.2.2.c]), .bool r5])) ∧ Mem w0 (.row x.1.A x.1.c 3 1 (ii r1) :: .row x.2.1.A x.2.1.c 3 1 (ii r2) :: .row x.2.2.1.A x.2.2.1.c 3 1 (ii r3) :: .row x.2.2.2.A x.2.2.2.c 3 1 (ii r4) :: F) w' := by
  unfold spec_ShadeRoots.f at h
  refine calls_of_J (n := 31) Try.func100 rfl rfl rfl hm ?_
  refine j_seq ?_
  refine j_region ?_
  refine r_do (a_box rfl rfl) rfl rfl (fun x1 => ?_)
  refine r_do (a_alloc zr27 rfl) rfl rfl (fun x2 => ?_)
  refine r_q (q_assign rfl rfl) rfl rfl ?_
  refine r_nil ?_
  refine j_then ?_
  refine j_seq ?_
  refine j_seq ?_
  refine j_region ?_
  refine r_q (q_loadb_agg 1 rfl ag27 sz27 rfl rfl rfl rfl) rfl rfl ?_
  obtain ⟨v1, hb1, h⟩ := of_b1 h
  refine r_do (a_call ok59 rfl rfl rfl rfl (fun w hm => spec_ColoredValid.calls K a0_0 a0_0_A a0_0_n a0_0_c a0_1 a0_1_A a0_1_n a0_1_c a0_2 a0_2_A a0_2_n a0_2_c a0_3 a0_3_A a0_3_n a0_3_c hm a0_0_h (Rd.drop 2 a0_0_R) a0_1_h (Rd.drop 2 a0_1_R) a0_2_h (Rd.drop 2 a0_2_R) a0_3_h (Rd.drop 2 a0_3_R) hb1)) rfl rfl (fun x3 => ?_)
  refine r_q (q_not rfl rfl) rfl rfl ?_
  refine r_nil ?_
  refine j_then ?_
  rcases of_if h with ⟨c1, h⟩ | ⟨c1, h⟩
  · refine j_false rfl (not_f c1) ?_
    refine j_skip ?_
    refine j_then ?_
    refine j_seq ?_
    refine j_region ?_
    refine r_q (q_loadb_agg 1 rfl ag27 sz27 rfl rfl rfl rfl) rfl rfl ?_
    obtain ⟨v2, v3, v4, v5, hb2, h⟩ := of_b4 h
    refine r_do (a_call ok61 rfl rfl rfl rfl (fun w hm => spec_l3Copy.calls K a0_0 a0_0_A a0_0_n a0_0_c a0_1 a0_1_A a0_1_n a0_1_c a0_2 a0_2_A a0_2_n a0_2_c a0_3 a0_3_A a0_3_n a0_3_c hm a0_0_h (Rd.drop 2 a0_0_R) a0_1_h (Rd.drop 2 a0_1_R) a0_2_h (Rd.drop 2 a0_2_R) a0_3_h (Rd.drop 2 a0_3_R) hb2)) rfl rfl (fun x4 => ?_)
    refine r_do (a_alloc zr27 rfl) rfl rfl (fun x5 => ?_)
    refine r_do (a_storeb 0 rfl sz27 rfl rfl rfl rfl (Nat.le_of_ble_eq_true rfl) rfl) rfl rfl (fun _ => ?_)
    refine j_b0 [(.slice x4.1.A x4.1.n x4.1.c), (.slice x4.2.1.A x4.2.1.n x4.2.1.c), (.slice x4.2.2.1.A x4.2.2.1.n x4.2.2.1.c), (.slice x4.2.2.2.A x4.2.2.2.n x4.2.2.2.c)] rfl ?_
    refine r_nil ?_
    refine j_then ?_
    refine j_seq ?_
    refine j_seq ?_
    refine j_region ?_
    refine r_q (q_assign rfl rfl) rfl rfl ?_
    refine r_nil ?_
    refine j_then ?_
    obtain ⟨κ0, h, hκ0⟩ := ex_k (g := fun κ => spec_ShadeRoots.loop0 K κ a0_2 K (0:Int) v5 = some (r1, r2, r3, r4, r5)) h
    refine j_cut (σ := (List Int)) (fun s => [(2, (pt x2)), (4, (pt x5))]) (fun s => .box x2 27 [(.slice none 0 0), (.slice none 0 0), (.slice none 0 0), (.slice none 0 0)] :: .box x5 27 [(.slice x4.1.A x4.1.n x4.1.c), (.slice x4.2.1.A x4.2.1.n x4.2.1.c), (.slice x4.2.2.1.A x4.2.2.1.n x4.2.2.1.c), (.slice x4.2.2.2.A x4.2.2.2.n x4.2.2.2.c)] :: .row x4.1.A x4.1.c 3 1 (ii v2) :: .row x4.2.1.A x4.2.1.c 3 1 (ii v3) :: .row x4.2.2.1.A x4.2.2.1.c 3 1 (ii v4) :: .row x4.2.2.2.A x4.2.2.2.c 3 1 (ii s) :: F) (fun s => κ0 s = some (r1, r2, r3, r4, r5) ∧ (s.length = x4.2.2.2.n)) ?_ ?_
    · refine j_block ?_
      refine j_loop (σ := Int × (List Int)) (fun s => [(1, (pt x1)), (2, (pt x2)), (4, (pt x5)), (5, (i6 s.1))]) (fun s => .box x1 27 [(.slice a0_0_A a0_0_n a0_0_c), (.slice a0_1_A a0_1_n a0_1_c), (.slice a0_2_A a0_2_n a0_2_c), (.slice a0_3_A a0_3_n a0_3_c)] :: .box x2 27 [(.slice none 0 0), (.slice none 0 0), (.slice none 0 0), (.slice none 0 0)] :: .box x5 27 [(.slice x4.1.A x4.1.n x4.1.c), (.slice x4.2.1.A x4.2.1.n x4.2.1.c), (.slice x4.2.2.1.A x4.2.2.1.n x4.2.2.1.c), (.slice x4.2.2.2.A x4.2.2.2.n x4.2.2.2.c)] :: .row x4.1.A x4.1.c 3 1 (ii v2) :: .row x4.2.1.A x4.2.1.c 3 1 (ii v3) :: .row x4.2.2.1.A x4.2.2.1.c 3 1 (ii v4) :: .row x4.2.2.2.A x4.2.2.2.c 3 1 (ii s.2) :: F) (fun m s => spec_ShadeRoots.loop0 K κ0 a0_2 m s.1 s.2 = some (r1, r2, r3, r4, r5) ∧ (s.2.length = x4.2.2.2.n)) K ((0:Int), v5) ⟨h, x4.2.2.2.h⟩ (fun a he => he.sub ⟨rfl, rfl, rfl, rfl, trivial⟩) (fun w h => h.pick 7 [6, 5, 0, 1, 2, 3, 4] rfl) ?_
      rintro m ⟨p2, l2⟩ ⟨h, q2⟩
      cases m with
      | zero => exact absurd h (by rw [spec_ShadeRoots.loop0]; exact nofun)
      | succ m =>
        rw [spec_ShadeRoots.loop0] at h
        show J _ _ [(1, (pt x1)), (2, (pt x2)), (4, (pt x5)), (5, (i6 p2))] _ (.box x1 27 [(.slice a0_0_A a0_0_n a0_0_c), (.slice a0_1_A a0_1_n a0_1_c), (.slice a0_2_A a0_2_n a0_2_c), (.slice a0_3_A a0_3_n a0_3_c)] :: .box x2 27 [(.slice none 0 0), (.slice none 0 0), (.slice none 0 0), (.slice none 0 0)] :: .box x5 27 [(.slice x4.1.A x4.1.n x4.1.c), (.slice x4.2.1.A x4.2.1.n x4.2.1.c), (.slice x4.2.2.1.A x4.2.2.1.n x4.2.2.1.c), (.slice x4.2.2.2.A x4.2.2.2.n x4.2.2.2.c)] :: .row x4.1.A x4.1.c 3 1 (ii v2) :: .row x4.2.1.A x4.2.1.c 3 1 (ii v3) :: .row x4.2.2.1.A x4.2.2.1.c 3 1 (ii v4) :: .row x4.2.2.2.A x4.2.2.2.c 3 1 (ii l2) :: F)
        refine j_seq ?_
        refine j_seq ?_
        refine j_region ?_
        refine r_q (q_move rfl rfl) rfl rfl ?_
        refine r_q (q_fieldAddr fi27_0 sz25 rfl rfl rfl) rfl rfl ?_
        refine r_q (q_fieldAddr fi25_2 sz23 rfl rfl rfl) rfl rfl ?_
        refine r_q (q_loadb 0 rfl ag23 rfl rfl rfl) rfl rfl ?_
        refine r_q (q_lenX a0_2 a0_2_h un23 rfl rfl rfl rfl rfl) rfl rfl ?_
        refine r_q (q_lss rfl rfl rfl) rfl rfl ?_
        refine r_nil ?_
        refine j_then ?_
        rcases of_if h with ⟨c8, h⟩ | ⟨c8, h⟩
        · refine j_true rfl (decide_eq_true c8) ?_
          refine j_skip ?_
          refine j_then ?_
          refine j_seq ?_
          refine j_block ?_
          obtain ⟨c9, h⟩ := of_guard h
          obtain ⟨v9, hb6, h⟩ := of_b1 h
          refine j_draw (.box x1 27 [(.slice a0_0_A a0_0_n a0_0_c), (.slice a0_1_A a0_1_n a0_1_c), (.slice a0_2_A a0_2_n a0_2_c), (.slice a0_3_A a0_3_n a0_3_c)] :: .box x2 27 [(.slice none 0 0), (.slice none 0 0), (.slice none 0 0), (.slice none 0 0)] :: .row x4.1.A x4.1.c 3 1 (ii v2) :: .row x4.2.1.A x4.2.1.c 3 1 (ii v3) :: .row x4.2.2.1.A x4.2.2.1.c 3 1 (ii v4) :: F) 11 follows_any rfl ?_
          refine d_take 0 rfl (q_fieldAddr fi27_1 sz23 rfl rfl rfl) rfl rfl (by kernel_rfl) (by kernel_rfl) (by kernel_rfl) (fun w h => h.pick 7 [0, 1, 3, 4, 5] rfl) ?_
          refine d_take 2 rfl (q_fieldAddr fi27_0 sz25 rfl rfl rfl) rfl rfl (by kernel_rfl) (by kernel_rfl) (by kernel_rfl) (fun w h => h.pick 7 [0, 1, 3, 4, 5] rfl) ?_
          refine d_take 3 rfl (q_fieldAddr fi25_2 sz23 rfl rfl rfl) rfl rfl (by kernel_rfl) (by kernel_rfl) (by kernel_rfl) (fun w h => h.pick 7 [0, 1, 3, 4, 5] rfl) ?_
          refine d_take 4 rfl (q_loadb 0 rfl ag23 rfl rfl rfl) rfl rfl (by kernel_rfl) (by kernel_rfl) (by kernel_rfl) (fun w h => h.pick 7 [0, 1, 3, 4, 5] rfl) ?_
          refine d_take 5 rfl (q_move rfl rfl) rfl rfl (by kernel_rfl) (by kernel_rfl) (by kernel_rfl) (fun w h => h.pick 7 [0, 1, 3, 4, 5] rfl) ?_
          refine d_take 6 rfl (q_ix (Rd.drop 5 a0_2_R) (ints_len1 _ a0_2) (by decide) a0_2_h c9 un23 sz3 rfl rfl rfl) rfl rfl (by kernel_rfl) (by kernel_rfl) (by kernel_rfl) (fun w h => h.pick 7 [0, 1, 3, 4, 5] rfl) ?_
          refine d_take 7 rfl (q_ldI (Rd.drop 5 a0_2_R) c9 ag3 rfl rfl) rfl rfl (by kernel_rfl) (by kernel_rfl) (by kernel_rfl) (fun w h => h.pick 7 [0, 1, 3, 4, 5] rfl) ?_
          refine d_one 1 (by kernel_rfl) ?_
          refine o_do rfl ((q_loadb 2 rfl ag23 rfl rfl rfl)).acts rfl rfl (fun _ w h => h.pick 7 [0, 1, 3, 4, 5] rfl) (fun _ => ?_)
          refine d_one 8 (by kernel_rfl) ?_
          refine j_rs (.row x4.2.2.2.A x4.2.2.2.c 3 1 (ii l2) :: .box x1 27 [(.slice a0_0_A a0_0_n a0_0_c), (.slice a0_1_A a0_1_n a0_1_c), (.slice a0_2_A a0_2_n a0_2_c), (.slice a0_3_A a0_3_n a0_3_c)] :: .box x2 27 [(.slice none 0 0), (.slice none 0 0), (.slice none 0 0), (.slice none 0 0)] :: .box x5 27 [(.slice x4.1.A x4.1.n x4.1.c), (.slice x4.2.1.A x4.2.1.n x4.2.1.c), (.slice x4.2.2.1.A x4.2.2.1.n x4.2.2.1.c), (.slice x4.2.2.2.A x4.2.2.2.n x4.2.2.2.c)] :: .row x4.1.A x4.1.c 3 1 (ii v2) :: .row x4.2.1.A x4.2.1.c 3 1 (ii v3) :: .row x4.2.2.1.A x4.2.2.1.c 3 1 (ii v4) :: F) (fun _ h => h.pick 7 [6, 0, 1, 2, 3, 4, 5] rfl) ?_
          refine o_do rfl (a_call ok62 rfl rfl rfl rfl (fun w hm => spec_l3Shade.calls K l2 x4.2.2.2.A x4.2.2.2.n x4.2.2.2.c (rd a0_2 p2) hm q2 hb6)) rfl rfl (fun x6 w h => h.pick 7 [1, 2, 4, 5, 6] rfl) (fun x6 => ?_)
          refine d_take 9 rfl (q_fieldAddr fi27_1 sz23 rfl rfl rfl) rfl rfl (by kernel_rfl) (by kernel_rfl) (by kernel_rfl) (fun w h => h.pick 7 [1, 2, 4, 5, 6] rfl) ?_
          refine d_one 10 (by kernel_rfl) ?_
          refine o_do rfl (a_storeb 3 rfl sz23 rfl rfl rfl rfl (Nat.le_of_ble_eq_true rfl) rfl) rfl rfl (fun _ w h => h.pick 7 [1, 2, 4, 5, 6] rfl) (fun _ => ?_)
          refine j_b3 [(.slice x4.1.A x4.1.n x4.1.c), (.slice x4.2.1.A x4.2.1.n x4.2.1.c), (.slice x4.2.2.1.A x4.2.2.1.n x4.2.2.1.c), (.slice x4.2.2.2.A x4.2.2.2.n x4.2.2.2.c)] rfl ?_
          refine d_done (by kernel_rfl) ?_
          refine j_in ?_
          refine j_then ?_
          refine j_region ?_
          refine r_q (q_move rfl rfl) rfl rfl ?_
          refine r_q (q_add rfl rfl rfl) rfl rfl ?_
          refine r_q (q_assign rfl rfl) rfl rfl ?_
          refine r_nil ?_
          refine j_then ?_
          exact j_again m ((wrap64 (p2 + (1:Int))), v9) (Nat.lt_succ_self m) ⟨h, (x6.h.trans q2)⟩ (fun a he => he.sub ⟨rfl, rfl, rfl, rfl, trivial⟩) (fun w h => h.pick 7 [1, 2, 3, 4, 5, 6, 0] rfl)
        · refine j_false rfl (decide_eq_false c8) ?_
          refine j_exit ?_
          refine j_then_exit ?_
          refine j_then_exit ?_
          refine j_in_exit ?_
          refine j_then ?_
          exact j_meet l2 ⟨h, q2⟩ (fun a he => he.sub ⟨rfl, rfl, trivial⟩) (fun w h => h.tail)
    · rintro l3 ⟨h, q3⟩
      subst hκ0
      show J _ _ [(2, (pt x2)), (4, (pt x5))] _ (.box x2 27 [(.slice none 0 0), (.slice none 0 0), (.slice none 0 0), (.slice none 0 0)] :: .box x5 27 [(.slice x4.1.A x4.1.n x4.1.c), (.slice x4.2.1.A x4.2.1.n x4.2.1.c), (.slice x4.2.2.1.A x4.2.2.1.n x4.2.2.1.c), (.slice x4.2.2.2.A x4.2.2.2.n x4.2.2.2.c)] :: .row x4.1.A x4.1.c 3 1 (ii v2) :: .row x4.2.1.A x4.2.1.c 3 1 (ii v3) :: .row x4.2.2.1.A x4.2.2.1.c 3 1 (ii v4) :: .row x4.2.2.2.A x4.2.2.2.c 3 1 (ii l3) :: F)
      refine j_then ?_
      refine j_seq ?_
      refine j_region ?_
      refine r_q (q_loadb_agg 1 rfl ag27 sz27 rfl rfl rfl rfl) rfl rfl ?_
      refine r_do (a_storeb 0 rfl sz27 rfl rfl rfl rfl (Nat.le_of_ble_eq_true rfl) rfl) rfl rfl (fun _ => ?_)
      refine j_b0 [(.slice x4.1.A x4.1.n x4.1.c), (.slice x4.2.1.A x4.2.1.n x4.2.1.c), (.slice x4.2.2.1.A x4.2.2.1.n x4.2.2.1.c), (.slice x4.2.2.2.A x4.2.2.2.n x4.2.2.2.c)] rfl ?_
      refine r_q (q_assign rfl rfl) rfl rfl ?_
      refine r_nil ?_
      refine j_then ?_
      refine j_ret ?_
      cases h
      exact j_return rfl (ResOf.cell 0 rfl rfl ag27 sz27 (ResOf.tmp rfl ResOf.nil)) rfl (fun w h => ⟨(⟨x4.1.A, x4.1.n, x4.1.c, x4.1.h⟩, ⟨x4.2.1.A, x4.2.1.n, x4.2.1.c, x4.2.1.h⟩, ⟨x4.2.2.1.A, x4.2.2.1.n, x4.2.2.1.c, x4.2.2.1.h⟩, ⟨x4.2.2.2.A, x4.2.2.2.n, x4.2.2.2.c, q3⟩), rfl, (h.drop 2)⟩)
  · refine j_true rfl (not_t (var_f c1)) ?_
    refine j_seq ?_
    refine j_region ?_
    refine r_q (q_build (cs := [(.slice none 0 0), (.slice none 0 0), (.slice none 0 0), (.slice none 0 0)]) zr27 pl27 rfl rfl rfl rfl) rfl rfl ?_
    refine r_do (a_storeb 0 rfl sz27 rfl rfl rfl rfl (Nat.le_of_ble_eq_true rfl) rfl) rfl rfl (fun _ => ?_)
    refine j_b0 [(.slice none 0 0), (.slice none 0 0), (.slice none 0 0), (.slice none 0 0)] rfl ?_
    refine r_q (q_assign rfl rfl) rfl rfl ?_
    refine r_nil ?_
    refine j_then ?_
    refine j_ret ?_
    refine j_then_ret ?_
    refine j_nil 3 1 ?_
    refine j_nil 3 1 ?_
    refine j_nil 3 1 ?_
    refine j_nil 3 1 ?_
    cases h
    exact j_return rfl (ResOf.cell 4 rfl rfl ag27 sz27 (ResOf.tmp rfl ResOf.nil)) rfl (fun w h => ⟨(⟨none, 0, 0, rfl⟩, ⟨none, 0, 0, rfl⟩, ⟨none, 0, 0, rfl⟩, ⟨none, 0, 0, rfl⟩), rfl, h.pick 6 [3, 2, 1, 0] rfl⟩)

theorem spec_l3Draw.calls (K : Nat) (a0_g : Nat) (a0_0 : List Int) (a0_0_A : Option Addr) (a0_0_n a0_0_c : Nat) (a0_1 : Int) {w0 w : World} {F : List Res} {r1 : List Int} {r2 : List Int} {r3 : List Int} {r4 : List Int} {r5 : Int} (hm : Mem w0 (.box a0_g 94 [.slice a0_0_A a0_0_n a0_0_c, i6 a0_1] :: F) w) (a0_0_h : a0_0.length = a0_0_n) (a0_0_R : Rd w0 F a0_0_A (ints .u8 a0_0)) (h : spec_l3Draw.f K a0_0 a0_1 = some (r1, r2, r3, r4, r5)) :
    Calls Try.prog 88 (List.toArray [pt a0_g]) w fun e w' => ∃ x : (Sl r1.length) × (Sl r2.length) × (Sl r3.length) × (Sl r4.length), e = .returned (.agg (List.toArray [.slice x.1.A x.1.n x.1.c, .slice x.2.1.A x.2.1.n x.2.1.c, .slice x.2.2.1.A x.2.2.1.n x.2.2.1.c, .slice x.2.2.2.A x.2.2.2.n x.2.2.2.c])) ∧ Mem w0 (.row x.1.A x.1.c 3 1 (ii r1) :: .row x.2.1.A x.2.1.c 3 1 (ii r2) :: .row x.2.2.1.A x.2.2.1.c 3 1 (ii r3) :: .row x.2.2.2.A x.2.2.2.c 3 1 (ii r4) :: .box a0_g 94 [.slice a0_0_A a0_0_n a0_0_c, i6 r5] :: F) w' := by
  unfold spec_l3Draw.f at h
  refine calls_of_J (n := 48) Try.func88 rfl rfl rfl hm ?_
  refine j_seq ?_
  refine j_region ?_
  refine r_do (a_alloc zr27 rfl) rfl rfl (fun x1 => ?_)
  refine r_nil ?_
  refine j_then ?_
  refine j_seq ?_
  refine j_region ?_
  refine r_q (q_move rfl rfl) rfl rfl ?_
  obtain ⟨v1, v2, v3, v4, hb1, h⟩ := of_b4 h
  refine j_rs (.box a0_g 94 [(.slice a0_0_A a0_0_n a0_0_c), (i6 a0_1)] :: .box x1 27 [(.slice none 0 0), (.slice none 0 0), (.slice none 0 0), (.slice none 0 0)] :: F) (fun _ h => h.pick 2 [1, 0] rfl) ?_
  refine r_do (a_call ok99 rfl rfl rfl rfl (fun w hm => spec_l1Draw.calls K a0_g a0_0 a0_0_A a0_0_n a0_0_c a0_1 hm a0_0_h (Rd.drop 1 a0_0_R) hb1)) rfl rfl (fun x2 => ?_)
  obtain ⟨v5, v6, v7, v8, v9, hb2, h⟩ := of_b5 h
  refine r_do (a_call ok98 rfl rfl rfl rfl (fun w hm => spec_NewColored.calls K v1 x2.1.A x2.1.n x2.1.c v2 x2.2.1.A x2.2.1.n x2.2.1.c v3 x2.2.2.A x2.2.2.n x2.2.2.c hm x2.1.h (Rd.row 0 rfl) x2.2.1.h (Rd.row 1 rfl) x2.2.2.h (Rd.row 2 rfl) hb2)) rfl rfl (fun x3 => ?_)
  refine r_q (q_move rfl rfl) rfl rfl ?_
  refine r_q (q_extract rfl rfl rfl) rfl rfl ?_
  refine r_q (q_extract rfl rfl rfl) rfl rfl ?_
  refine r_do (a_alloc zr27 rfl) rfl rfl (fun x4 => ?_)
  refine r_do (a_storeb 0 rfl sz27 rfl rfl rfl rfl (Nat.le_of_ble_eq_true rfl) rfl) rfl rfl (fun _ => ?_)
  refine j_b0 [(.slice x3.1.A x3.1.n x3.1.c), (.slice x3.2.1.A x3.2.1.n x3.2.1.c), (.slice x3.2.2.1.A x3.2.2.1.n x3.2.2.1.c), (.slice x3.2.2.2.A x3.2.2.2.n x3.2.2.2.c)] rfl ?_
  refine r_q (q_assign rfl rfl) rfl rfl ?_
  refine r_nil ?_
  refine j_then ?_
  refine j_seq ?_
  refine j_seq ?_
  refine j_region ?_
  refine r_q (q_move rfl rfl) rfl rfl ?_
  obtain ⟨v10, v11, hb3, h⟩ := of_b2 h
  refine j_rs (.box a0_g 94 [(.slice a0_0_A a0_0_n a0_0_c), (i6 v4)] :: .box x4 27 [(.slice x3.1.A x3.1.n x3.1.c), (.slice x3.2.1.A x3.2.1.n x3.2.1.c), (.slice x3.2.2.1.A x3.2.2.1.n x3.2.2.1.c), (.slice x3.2.2.2.A x3.2.2.2.n x3.2.2.2.c)] :: .row x3.1.A x3.1.c 3 1 (ii v5) :: .row x3.2.1.A x3.2.1.c 3 1 (ii v6) :: .row x3.2.2.1.A x3.2.2.1.c 3 1 (ii v7) :: .row x3.2.2.2.A x3.2.2.2.c 3 1 (ii v8) :: .row x2.1.A x2.1.c 3 1 (ii v1) :: .row x2.2.1.A x2.2.1.c 3 1 (ii v2) :: .row x2.2.2.A x2.2.2.c 3 1 (ii v3) :: .box x1 27 [(.slice none 0 0), (.slice none 0 0), (.slice none 0 0), (.slice none 0 0)] :: F) (fun _ h => h.pick 10 [8, 0, 1, 2, 3, 4, 5, 6, 7, 9] rfl) ?_
  refine r_do (a_call ok89 rfl rfl rfl rfl (fun w hm => spec_l13Rd_pick.calls K a0_g a0_0 a0_0_A a0_0_n a0_0_c v4 (3:Int) hm a0_0_h (Rd.drop 9 a0_0_R) hb3)) rfl rfl (fun x5 => ?_)
  refine r_q (q_eql rfl rfl rfl) rfl rfl ?_
  refine r_nil ?_
  refine j_then ?_
  rcases of_if h with ⟨c1, h⟩ | ⟨c1, h⟩
  · refine j_true rfl (beq_t c1) ?_
    refine j_seq ?_
    refine j_seq ?_
    refine j_region ?_
    refine r_q (q_assign rfl rfl) rfl rfl ?_
    refine r_nil ?_
    refine j_then ?_
    obtain ⟨κ0, h, hκ0⟩ := ex_k (g := fun κ => spec_l3Draw.loop0 K κ a0_0 K (0:Int) v11 v8 = some (r1, r2, r3, r4, r5)) h
    refine j_cut (σ := Int × (List Int)) (fun s => [(2, (pt x1)), (3, (pt x4))]) (fun s => .box x1 27 [(.slice none 0 0), (.slice none 0 0), (.slice none 0 0), (.slice none 0 0)] :: .box x4 27 [(.slice x3.1.A x3.1.n x3.1.c), (.slice x3.2.1.A x3.2.1.n x3.2.1.c), (.slice x3.2.2.1.A x3.2.2.1.n x3.2.2.1.c), (.slice x3.2.2.2.A x3.2.2.2.n x3.2.2.2.c)] :: .box a0_g 94 [(.slice a0_0_A a0_0_n a0_0_c), (i6 s.1)] :: .row x3.1.A x3.1.c 3 1 (ii v5) :: .row x3.2.1.A x3.2.1.c 3 1 (ii v6) :: .row x3.2.2.1.A x3.2.2.1.c 3 1 (ii v7) :: .row x3.2.2.2.A x3.2.2.2.c 3 1 (ii s.2) :: F) (fun s => κ0 s.1 s.2 = some (r1, r2, r3, r4, r5) ∧ (s.2.length = x3.2.2.2.n)) ?_ ?_
    · refine j_block ?_
      refine j_loop (σ := Int × Int × (List Int)) (fun s => [(0, (pt a0_g)), (2, (pt x1)), (3, (pt x4)), (5, (i6 s.1))]) (fun s => .box a0_g 94 [(.slice a0_0_A a0_0_n a0_0_c), (i6 s.2.1)] :: .box x1 27 [(.slice none 0 0), (.slice none 0 0), (.slice none 0 0), (.slice none 0 0)] :: .box x4 27 [(.slice x3.1.A x3.1.n x3.1.c), (.slice x3.2.1.A x3.2.1.n x3.2.1.c), (.slice x3.2.2.1.A x3.2.2.1.n x3.2.2.1.c), (.slice x3.2.2.2.A x3.2.2.2.n x3.2.2.2.c)] :: .row x3.1.A x3.1.c 3 1 (ii v5) :: .row x3.2.1.A x3.2.1.c 3 1 (ii v6) :: .row x3.2.2.1.A x3.2.2.1.c 3 1 (ii v7) :: .row x3.2.2.2.A x3.2.2.2.c 3 1 (ii s.2.2) :: F) (fun m s => spec_l3Draw.loop0 K κ0 a0_0 m s.1 s.2.1 s.2.2 = some (r1, r2, r3, r4, r5) ∧ (s.2.2.length = x3.2.2.2.n)) K ((0:Int), v11, v8) ⟨h, x3.2.2.2.h⟩ (fun a he => he.sub ⟨rfl, rfl, rfl, rfl, trivial⟩) (fun w h => h.pick 10 [0, 9, 1, 2, 3, 4, 5] rfl) ?_
      rintro m ⟨p3, p4, l2⟩ ⟨h, q2⟩
      cases m with
      | zero => exact absurd h (by rw [spec_l3Draw.loop0]; exact nofun)
      | succ m =>
        rw [spec_l3Draw.loop0] at h
        show J _ _ [(0, (pt a0_g)), (2, (pt x1)), (3, (pt x4)), (5, (i6 p3))] _ (.box a0_g 94 [(.slice a0_0_A a0_0_n a0_0_c), (i6 p4)] :: .box x1 27 [(.slice none 0 0), (.slice none 0 0), (.slice none 0 0), (.slice none 0 0)] :: .box x4 27 [(.slice x3.1.A x3.1.n x3.1.c), (.slice x3.2.1.A x3.2.1.n x3.2.1.c), (.slice x3.2.2.1.A x3.2.2.1.n x3.2.2.1.c), (.slice x3.2.2.2.A x3.2.2.2.n x3.2.2.2.c)] :: .row x3.1.A x3.1.c 3 1 (ii v5) :: .row x3.2.1.A x3.2.1.c 3 1 (ii v6) :: .row x3.2.2.1.A x3.2.2.1.c 3 1 (ii v7) :: .row x3.2.2.2.A x3.2.2.2.c 3 1 (ii l2) :: F)
        refine j_seq ?_
        refine j_seq ?_
        refine j_region ?_
        refine r_q (q_move rfl rfl) rfl rfl ?_
        refine r_q (q_fieldAddr fi27_1 sz23 rfl rfl rfl) rfl rfl ?_
        refine r_q (q_loadb 2 rfl ag23 rfl rfl rfl) rfl rfl ?_
        refine r_q (q_lenX l2 q2 un23 rfl rfl rfl rfl rfl) rfl rfl ?_
        refine r_q (q_lss rfl rfl rfl) rfl rfl ?_
        refine r_nil ?_
        refine j_then ?_
        rcases of_if h with ⟨c8, h⟩ | ⟨c8, h⟩
        · refine j_true rfl (decide_eq_true c8) ?_
          refine j_skip ?_
          refine j_then ?_
          refine j_seq ?_
          refine j_block ?_
          obtain ⟨v18, v19, hb7, h⟩ := of_b2 h
          obtain ⟨c9, h⟩ := of_guard h
          refine j_draw (.box x1 27 [(.slice none 0 0), (.slice none 0 0), (.slice none 0 0), (.slice none 0 0)] :: .box x4 27 [(.slice x3.1.A x3.1.n x3.1.c), (.slice x3.2.1.A x3.2.1.n x3.2.1.c), (.slice x3.2.2.1.A x3.2.2.1.n x3.2.2.1.c), (.slice x3.2.2.2.A x3.2.2.2.n x3.2.2.2.c)] :: .row x3.1.A x3.1.c 3 1 (ii v5) :: .row x3.2.1.A x3.2.1.c 3 1 (ii v6) :: .row x3.2.2.1.A x3.2.2.1.c 3 1 (ii v7) :: F) 7 follows_any rfl ?_
          refine d_take 0 rfl (q_fieldAddr fi27_1 sz23 rfl rfl rfl) rfl rfl (by kernel_rfl) (by kernel_rfl) (by kernel_rfl) (fun w h => h.pick 7 [1, 2, 3, 4, 5] rfl) ?_
          refine d_take 1 rfl (q_loadb 1 rfl ag23 rfl rfl rfl) rfl rfl (by kernel_rfl) (by kernel_rfl) (by kernel_rfl) (fun w h => h.pick 7 [1, 2, 3, 4, 5] rfl) ?_
          refine d_take 2 rfl (q_move rfl rfl) rfl rfl (by kernel_rfl) (by kernel_rfl) (by kernel_rfl) (fun w h => h.pick 7 [1, 2, 3, 4, 5] rfl) ?_
          refine d_take 3 rfl (q_move rfl rfl) rfl rfl (by kernel_rfl) (by kernel_rfl) (by kernel_rfl) (fun w h => h.pick 7 [1, 2, 3, 4, 5] rfl) ?_
          refine d_one 4 (by kernel_rfl) ?_
          refine o_do rfl (a_call ok89 rfl rfl rfl rfl (fun w hm => spec_l13Rd_pick.calls K a0_g a0_0 a0_0_A a0_0_n a0_0_c p4 (3:Int) hm a0_0_h (Rd.drop 6 a0_0_R) hb7)) rfl rfl (fun x6 w h => h.pick 7 [1, 2, 3, 4, 5] rfl) (fun x6 => ?_)
          refine d_one 5 (by kernel_rfl) ?_
          refine o_do rfl ((q_ix (Rd.row 6 rfl) (ints_len1 _ l2) (by decide) q2 c9 un23 sz3 rfl rfl rfl)).acts rfl rfl (fun _ w h => h.pick 7 [1, 2, 3, 4, 5] rfl) (fun _ => ?_)
          refine d_one 6 (by kernel_rfl) ?_
          refine o_do rfl (a_stI 6 rfl c9 sz3 rfl rfl rfl) rfl rfl (fun _ w h => h.pick 7 [1, 2, 3, 4, 5] rfl) (fun _ => ?_)
          refine j_s6 ?_
          refine d_done (by kernel_rfl) ?_
          refine j_in ?_
          refine j_then ?_
          refine j_region ?_
          refine r_q (q_move rfl rfl) rfl rfl ?_
          refine r_q (q_add rfl rfl rfl) rfl rfl ?_
          refine r_q (q_assign rfl rfl) rfl rfl ?_
          refine r_nil ?_
          refine j_then ?_
          exact j_again m ((wrap64 (p3 + (1:Int))), v19, (l2.set p3.toNat v18)) (Nat.lt_succ_self m) ⟨h, (set_len q2 _ _)⟩ (fun a he => he.sub ⟨rfl, rfl, rfl, rfl, trivial⟩) (fun w h => h)
        · refine j_false rfl (decide_eq_false c8) ?_
          refine j_exit ?_
          refine j_then_exit ?_
          refine j_then_exit ?_
          refine j_in_exit ?_
          refine j_then ?_
          exact j_meet (p4, l2) ⟨h, q2⟩ (fun a he => he.sub ⟨rfl, rfl, trivial⟩) (fun w h => h.pick 7 [1, 2, 0, 3, 4, 5, 6] rfl)
    · rintro ⟨p5, l3⟩ ⟨h, q3⟩
      subst hκ0
      show J _ _ [(2, (pt x1)), (3, (pt x4))] _ (.box x1 27 [(.slice none 0 0), (.slice none 0 0), (.slice none 0 0), (.slice none 0 0)] :: .box x4 27 [(.slice x3.1.A x3.1.n x3.1.c), (.slice x3.2.1.A x3.2.1.n x3.2.1.c), (.slice x3.2.2.1.A x3.2.2.1.n x3.2.2.1.c), (.slice x3.2.2.2.A x3.2.2.2.n x3.2.2.2.c)] :: .box a0_g 94 [(.slice a0_0_A a0_0_n a0_0_c), (i6 p5)] :: .row x3.1.A x3.1.c 3 1 (ii v5) :: .row x3.2.1.A x3.2.1.c 3 1 (ii v6) :: .row x3.2.2.1.A x3.2.2.1.c 3 1 (ii v7) :: .row x3.2.2.2.A x3.2.2.2.c 3 1 (ii l3) :: F)
      refine j_then ?_
      refine j_seq ?_
      refine j_region ?_
      refine r_q (q_loadb_agg 1 rfl ag27 sz27 rfl rfl rfl rfl) rfl rfl ?_
      refine r_do (a_storeb 0 rfl sz27 rfl rfl rfl rfl (Nat.le_of_ble_eq_true rfl) rfl) rfl rfl (fun _ => ?_)
      refine j_b0 [(.slice x3.1.A x3.1.n x3.1.c), (.slice x3.2.1.A x3.2.1.n x3.2.1.c), (.slice x3.2.2.1.A x3.2.2.1.n x3.2.2.1.c), (.slice x3.2.2.2.A x3.2.2.2.n x3.2.2.2.c)] rfl ?_
      refine r_nil ?_
      refine j_then ?_
      refine j_ret ?_
      refine j_then_ret ?_
      cases h
      exact j_return rfl (ResOf.cell 0 rfl rfl ag27 sz27 ResOf.nil) rfl (fun w h => ⟨(⟨x3.1.A, x3.1.n, x3.1.c, x3.1.h⟩, ⟨x3.2.1.A, x3.2.1.n, x3.2.1.c, x3.2.1.h⟩, ⟨x3.2.2.1.A, x3.2.2.1.n, x3.2.2.1.c, x3.2.2.1.h⟩, ⟨x3.2.2.2.A, x3.2.2.2.n, x3.2.2.2.c, q3⟩), rfl, h.pick 7 [3, 4, 5, 6, 2] rfl⟩)
  · refine j_false rfl (beq_f c1) ?_
    refine j_skip ?_
    refine j_then ?_
    refine j_seq ?_
    refine j_region ?_
    refine r_q (q_loadb_agg 1 rfl ag27 sz27 rfl rfl rfl rfl) rfl rfl ?_
    obtain ⟨v20, v21, v22, v23, v24, hb8, h⟩ := of_b5 h
    refine r_do (a_call ok100 rfl rfl rfl rfl (fun w hm => spec_ShadeRoots.calls K v5 x3.1.A x3.1.n x3.1.c v6 x3.2.1.A x3.2.1.n x3.2.1.c v7 x3.2.2.1.A x3.2.2.1.n x3.2.2.1.c v8 x3.2.2.2.A x3.2.2.2.n x3.2.2.2.c hm x3.1.h (Rd.row 2 rfl) x3.2.1.h (Rd.row 3 rfl) x3.2.2.1.h (Rd.row 4 rfl) x3.2.2.2.h (Rd.row 5 rfl) hb8)) rfl rfl (fun x7 => ?_)
    refine r_q (q_move rfl rfl) rfl rfl ?_
    refine r_q (q_extract rfl rfl rfl) rfl rfl ?_
    refine r_q (q_extract rfl rfl rfl) rfl rfl ?_
    refine r_do (a_storeb 5 rfl sz27 rfl rfl rfl rfl (Nat.le_of_ble_eq_true rfl) rfl) rfl rfl (fun _ => ?_)
    refine j_b5 [(.slice x7.1.A x7.1.n x7.1.c), (.slice x7.2.1.A x7.2.1.n x7.2.1.c), (.slice x7.2.2.1.A x7.2.2.1.n x7.2.2.1.c), (.slice x7.2.2.2.A x7.2.2.2.n x7.2.2.2.c)] rfl ?_
    refine r_nil ?_
    refine j_then ?_
    refine j_seq ?_
    refine j_seq ?_
    refine j_region ?_
    refine r_q (q_move rfl rfl) rfl rfl ?_
    obtain ⟨v25, v26, hb9, h⟩ := of_b2 h
    refine j_rs (.box a0_g 94 [(.slice a0_0_A a0_0_n a0_0_c), (i6 v11)] :: .row x7.1.A x7.1.c 3 1 (ii v20) :: .row x7.2.1.A x7.2.1.c 3 1 (ii v21) :: .row x7.2.2.1.A x7.2.2.1.c 3 1 (ii v22) :: .row x7.2.2.2.A x7.2.2.2.c 3 1 (ii v23) :: .box x4 27 [(.slice x7.1.A x7.1.n x7.1.c), (.slice x7.2.1.A x7.2.1.n x7.2.1.c), (.slice x7.2.2.1.A x7.2.2.1.n x7.2.2.1.c), (.slice x7.2.2.2.A x7.2.2.2.n x7.2.2.2.c)] :: .row x3.1.A x3.1.c 3 1 (ii v5) :: .row x3.2.1.A x3.2.1.c 3 1 (ii v6) :: .row x3.2.2.1.A x3.2.2.1.c 3 1 (ii v7) :: .row x3.2.2.2.A x3.2.2.2.c 3 1 (ii v8) :: .row x2.1.A x2.1.c 3 1 (ii v1) :: .row x2.2.1.A x2.2.1.c 3 1 (ii v2) :: .row x2.2.2.A x2.2.2.c 3 1 (ii v3) :: .box x1 27 [(.slice none 0 0), (.slice none 0 0), (.slice none 0 0), (.slice none 0 0)] :: F) (fun _ h => h.pick 14 [4, 0, 1, 2, 3, 5, 6, 7, 8, 9, 10, 11, 12, 13] rfl) ?_
    refine r_do (a_call ok89 rfl rfl rfl rfl (fun w hm => spec_l13Rd_pick.calls K a0_g a0_0 a0_0_A a0_0_n a0_0_c v11 (4:Int) hm a0_0_h (Rd.drop 13 a0_0_R) hb9)) rfl rfl (fun x8 => ?_)
    refine r_q (q_assign rfl rfl) rfl rfl ?_
    refine r_nil ?_
    refine j_then ?_
    obtain ⟨κ1, h, hκ1⟩ := ex_k (g := fun κ => spec_l3Draw.loop1 K κ K v25 v20 v21 v22 v23 = some (r1, r2, r3, r4, r5)) h
    refine j_cut (σ := (Option Addr) × Nat × Nat × (List Int) × (Option Addr) × Nat × Nat × (List Int) × (Option Addr) × Nat × Nat × (List Int) × (Option Addr) × Nat × Nat × (List Int)) (fun s => [(2, (pt x1)), (3, (pt x4))]) (fun s => .box x1 27 [(.slice none 0 0), (.slice none 0 0), (.slice none 0 0), (.slice none 0 0)] :: .box x4 27 [(.slice s.1 s.2.1 s.2.2.1), (.slice s.2.2.2.2.1 s.2.2.2.2.2.1 s.2.2.2.2.2.2.1), (.slice s.2.2.2.2.2.2.2.2.1 s.2.2.2.2.2.2.2.2.2.1 s.2.2.2.2.2.2.2.2.2.2.1), (.slice s.2.2.2.2.2.2.2.2.2.2.2.2.1 s.2.2.2.2.2.2.2.2.2.2.2.2.2.1 s.2.2.2.2.2.2.2.2.2.2.2.2.2.2.1)] :: .box a0_g 94 [(.slice a0_0_A a0_0_n a0_0_c), (i6 v26)] :: .row s.1 s.2.2.1 3 1 (ii s.2.2.2.1) :: .row s.2.2.2.2.1 s.2.2.2.2.2.2.1 3 1 (ii s.2.2.2.2.2.2.2.1) :: .row s.2.2.2.2.2.2.2.2.1 s.2.2.2.2.2.2.2.2.2.2.1 3 1 (ii s.2.2.2.2.2.2.2.2.2.2.2.1) :: .row s.2.2.2.2.2.2.2.2.2.2.2.2.1 s.2.2.2.2.2.2.2.2.2.2.2.2.2.2.1 3 1 (ii s.2.2.2.2.2.2.2.2.2.2.2.2.2.2.2) :: F) (fun s => κ1 s.2.2.2.1 s.2.2.2.2.2.2.2.1 s.2.2.2.2.2.2.2.2.2.2.2.1 s.2.2.2.2.2.2.2.2.2.2.2.2.2.2.2 = some (r1, r2, r3, r4, r5) ∧ (s.2.2.2.1.length = s.2.1) ∧ (s.2.2.2.2.2.2.2.1.length = s.2.2.2.2.2.1) ∧ (s.2.2.2.2.2.2.2.2.2.2.2.1.length = s.2.2.2.2.2.2.2.2.2.1) ∧ (s.2.2.2.2.2.2.2.2.2.2.2.2.2.2.2.length = s.2.2.2.2.2.2.2.2.2.2.2.2.2.1)) ?_ ?_
    · refine j_block ?_
      refine j_loop (σ := Int × (Option Addr) × Nat × Nat × (List Int) × (Option Addr) × Nat × Nat × (List Int) × (Option Addr) × Nat × Nat × (List Int) × (Option Addr) × Nat × Nat × (List Int)) (fun s => [(2, (pt x1)), (3, (pt x4)), (6, (i6 s.1))]) (fun s => .box x1 27 [(.slice none 0 0), (.slice none 0 0), (.slice none 0 0), (.slice none 0 0)] :: .box x4 27 [(.slice s.2.1 s.2.2.1 s.2.2.2.1), (.slice s.2.2.2.2.2.1 s.2.2.2.2.2.2.1 s.2.2.2.2.2.2.2.1), (.slice s.2.2.2.2.2.2.2.2.2.1 s.2.2.2.2.2.2.2.2.2.2.1 s.2.2.2.2.2.2.2.2.2.2.2.1), (.slice s.2.2.2.2.2.2.2.2.2.2.2.2.2.1 s.2.2.2.2.2.2.2.2.2.2.2.2.2.2.1 s.2.2.2.2.2.2.2.2.2.2.2.2.2.2.2.1)] :: .box a0_g 94 [(.slice a0_0_A a0_0_n a0_0_c), (i6 v26)] :: .row s.2.1 s.2.2.2.1 3 1 (ii s.2.2.2.2.1) :: .row s.2.2.2.2.2.1 s.2.2.2.2.2.2.2.1 3 1 (ii s.2.2.2.2.2.2.2.2.1) :: .row s.2.2.2.2.2.2.2.2.2.1 s.2.2.2.2.2.2.2.2.2.2.2.1 3 1 (ii s.2.2.2.2.2.2.2.2.2.2.2.2.1) :: .row s.2.2.2.2.2.2.2.2.2.2.2.2.2.1 s.2.2.2.2.2.2.2.2.2.2.2.2.2.2.2.1 3 1 (ii s.2.2.2.2.2.2.2.2.2.2.2.2.2.2.2.2) :: F) (fun m s => spec_l3Draw.loop1 K κ1 m s.1 s.2.2.2.2.1 s.2.2.2.2.2.2.2.2.1 s.2.2.2.2.2.2.2.2.2.2.2.2.1 s.2.2.2.2.2.2.2.2.2.2.2.2.2.2.2.2 = some (r1, r2, r3, r4, r5) ∧ (s.2.2.2.2.1.length = s.2.2.1) ∧ (s.2.2.2.2.2.2.2.2.1.length = s.2.2.2.2.2.2.1) ∧ (s.2.2.2.2.2.2.2.2.2.2.2.2.1.length = s.2.2.2.2.2.2.2.2.2.2.1) ∧ (s.2.2.2.2.2.2.2.2.2.2.2.2.2.2.2.2.length = s.2.2.2.2.2.2.2.2.2.2.2.2.2.2.1)) K (v25, x7.1.A, x7.1.n, x7.1.c, v20, x7.2.1.A, x7.2.1.n, x7.2.1.c, v21, x7.2.2.1.A, x7.2.2.1.n, x7.2.2.1.c, v22, x7.2.2.2.A, x7.2.2.2.n, x7.2.2.2.c, v23) ⟨h, x7.1.h, x7.2.1.h, x7.2.2.1.h, x7.2.2.2.h⟩ (fun a he => he.sub ⟨rfl, rfl, rfl, trivial⟩) (fun w h => h.pick 14 [13, 5, 0, 1, 2, 3, 4] rfl) ?_
      rintro m ⟨p7, A5, n5, d5, l8, A6, n6, d6, l9, A7, n7, d7, l10, A8, n8, d8, l11⟩ ⟨h, q8, q9, q10, q11⟩
      cases m with
      | zero => exact absurd h (by rw [spec_l3Draw.loop1]; exact nofun)
      | succ m =>
        rw [spec_l3Draw.loop1] at h
        show J _ _ [(2, (pt x1)), (3, (pt x4)), (6, (i6 p7))] _ (.box x1 27 [(.slice none 0 0), (.slice none 0 0), (.slice none 0 0), (.slice none 0 0)] :: .box x4 27 [(.slice A5 n5 d5), (.slice A6 n6 d6), (.slice A7 n7 d7), (.slice A8 n8 d8)] :: .box a0_g 94 [(.slice a0_0_A a0_0_n a0_0_c), (i6 v26)] :: .row A5 d5 3 1 (ii l8) :: .row A6 d6 3 1 (ii l9) :: .row A7 d7 3 1 (ii l10) :: .row A8 d8 3 1 (ii l11) :: F)
        refine j_seq ?_
        refine j_seq ?_
        refine j_region ?_
        refine r_q (q_move rfl rfl) rfl rfl ?_
        refine r_q (q_gtr rfl rfl rfl) rfl rfl ?_
        refine r_nil ?_
        refine j_then ?_
        rcases of_if h with ⟨c13, h⟩ | ⟨c13, h⟩
        · refine j_true rfl (decide_eq_true c13) ?_
          refine j_skip ?_
          refine j_then ?_
          refine j_seq ?_
          refine j_block ?_
          refine j_region ?_
          refine r_q (q_loadb_agg 1 rfl ag27 sz27 rfl rfl rfl rfl) rfl rfl ?_
          obtain ⟨v45, v46, v47, v48, v49, v50, hb13, h⟩ := of_b6 h
          refine r_do (a_call ok21 rfl rfl rfl rfl (fun w hm => spec_MarkStep.calls K l8 A5 n5 d5 l9 A6 n6 d6 l10 A7 n7 d7 l11 A8 n8 d8 hm q8 (Rd.row 3 rfl) q9 (Rd.row 4 rfl) q10 (Rd.row 5 rfl) q11 (Rd.row 6 rfl) hb13)) rfl rfl (fun x9 => ?_)
          refine r_q (q_move rfl rfl) rfl rfl ?_
          refine r_q (q_extract rfl rfl rfl) rfl rfl ?_
          refine r_q (q_extract rfl rfl rfl) rfl rfl ?_
          refine r_q (q_extract rfl rfl rfl) rfl rfl ?_
          refine r_do (a_storeb 5 rfl sz27 rfl rfl rfl rfl (Nat.le_of_ble_eq_true rfl) rfl) rfl rfl (fun _ => ?_)
          refine j_b5 [(.slice x9.1.A x9.1.n x9.1.c), (.slice x9.2.1.A x9.2.1.n x9.2.1.c), (.slice x9.2.2.1.A x9.2.2.1.n x9.2.2.1.c), (.slice x9.2.2.2.A x9.2.2.2.n x9.2.2.2.c)] rfl ?_
          refine r_nil ?_
          refine j_in ?_
          refine j_then ?_
          refine j_region ?_
          refine r_q (q_move rfl rfl) rfl rfl ?_
          refine r_q (q_sub rfl rfl rfl) rfl rfl ?_
          refine r_q (q_assign rfl rfl) rfl rfl ?_
          refine r_nil ?_
          refine j_then ?_
          exact j_again m ((wrap64 (p7 - (1:Int))), x9.1.A, x9.1.n, x9.1.c, v45, x9.2.1.A, x9.2.1.n, x9.2.1.c, v46, x9.2.2.1.A, x9.2.2.1.n, x9.2.2.1.c, v47, x9.2.2.2.A, x9.2.2.2.n, x9.2.2.2.c, v48) (Nat.lt_succ_self m) ⟨h, x9.1.h, x9.2.1.h, x9.2.2.1.h, x9.2.2.2.h⟩ (fun a he => he.sub ⟨rfl, rfl, rfl, trivial⟩) (fun w h => h.pick 11 [4, 5, 6, 0, 1, 2, 3] rfl)
        · refine j_false rfl (decide_eq_false c13) ?_
          refine j_exit ?_
          refine j_then_exit ?_
          refine j_then_exit ?_
          refine j_in_exit ?_
          refine j_then ?_
          exact j_meet (A5, n5, d5, l8, A6, n6, d6, l9, A7, n7, d7, l10, A8, n8, d8, l11) ⟨h, q8, q9, q10, q11⟩ (fun a he => he.sub ⟨rfl, rfl, trivial⟩) (fun w h => h)
    · rintro ⟨A9, n9, d9, l12, A10, n10, d10, l13, A11, n11, d11, l14, A12, n12, d12, l15⟩ ⟨h, q12, q13, q14, q15⟩
      subst hκ1
      show J _ _ [(2, (pt x1)), (3, (pt x4))] _ (.box x1 27 [(.slice none 0 0), (.slice none 0 0), (.slice none 0 0), (.slice none 0 0)] :: .box x4 27 [(.slice A9 n9 d9), (.slice A10 n10 d10), (.slice A11 n11 d11), (.slice A12 n12 d12)] :: .box a0_g 94 [(.slice a0_0_A a0_0_n a0_0_c), (i6 v26)] :: .row A9 d9 3 1 (ii l12) :: .row A10 d10 3 1 (ii l13) :: .row A11 d11 3 1 (ii l14) :: .row A12 d12 3 1 (ii l15) :: F)
      refine j_then ?_
      refine j_seq ?_
      refine j_region ?_
      refine r_q (q_loadb_agg 1 rfl ag27 sz27 rfl rfl rfl rfl) rfl rfl ?_
      refine r_do (a_storeb 0 rfl sz27 rfl rfl rfl rfl (Nat.le_of_ble_eq_true rfl) rfl) rfl rfl (fun _ => ?_)
      refine j_b0 [(.slice A9 n9 d9), (.slice A10 n10 d10), (.slice A11 n11 d11), (.slice A12 n12 d12)] rfl ?_
      refine r_nil ?_
      refine j_then ?_
      refine j_ret ?_
      cases h
      exact j_return rfl (ResOf.cell 0 rfl rfl ag27 sz27 ResOf.nil) rfl (fun w h => ⟨(⟨A9, n9, d9, q12⟩, ⟨A10, n10, d10, q13⟩, ⟨A11, n11, d11, q14⟩, ⟨A12, n12, d12, q15⟩), rfl, h.pick 7 [3, 4, 5, 6, 2] rfl⟩)

theorem spec_l1Wrong.calls (K : Nat) (a0_g : Nat) (a0_0 : List Int) (a0_0_A : Option Addr) (a0_0_n a0_0_c : Nat) (a0_1 : Int) (a1_0 : List Int) (a1_0_A : Option Addr) (a1_0_n a1_0_c : Nat) (a1_1 : List Int) (a1_1_A : Option Addr) (a1_1_n a1_1_c : Nat) (a1_2 : List Int) (a1_2_A : Option Addr) (a1_2_n a1_2_c : Nat) {w0 w : World} {F : List Res} {r1 : List Int} {r2 : List Int} {r3 : List Int} {r4 : Int} (hm : Mem w0 (.box a0_g 94 [.slice a0_0_A a0_0_n a0_0_c, i6 a0_1] :: F) w) (a0_0_h : a0_0.length = a0_0_n) (a0_0_R : Rd w0 F a0_0_A (ints .u8 a0_0)) (a1_0_h : a1_0.length = a1_0_n) (a1_0_R : Rd w0 F a1_0_A (ii a1_0)) (a1_1_h : a1_1.length = a1_1_n) (a1_1_R : Rd w0 F a1_1_A (ii a1_1)) (a1_2_h : a1_2.length = a1_2_n) (a1_2_R : Rd w0 F a1_2_A (ii a1_2)) (h : spec_l1Wrong.f K a0_0 a0_1 a1_0 a1_1 a1_2 = some (r1, r2, r3, r4)) :
    Calls Try.prog 97 (List.toArray [pt a0_g, .agg (List.toArray [.slice a1_0_A a1_0_n a1_0_c, .slice a1_1_A a1_1_n a1_1_c, .slice a1_2_A a1_2_n a1_2_c])]) w fun e w' => ∃ x : (Sl r1.length) × (Sl r2.length) × (Sl r3.length), e = .returned (.agg (List.toArray [.slice x.1.A x.1.n x.1.c, .slice x.2.1.A x.2.1.n x.2.1.c, .slice x.2.2.A x.2.2.n x.2.2.c])) ∧ Mem w0 (.row x.1.A x.1.c 3 1 (ii r1) :: .row x.2.1.A x.2.1.c 3 1 (ii r2) :: .row x.2.2.A x.2.2.c 3 1 (ii r3) :: .box a0_g 94 [.slice a0_0_A a0_0_n a0_0_c, i6 r4] :: F) w' := by
  unfold spec_l1Wrong.f at h
  refine calls_of_J (n := 45) Try.func97 rfl rfl rfl hm ?_
  refine j_seq ?_
  refine j_region ?_
  refine r_do (a_box rfl rfl) rfl rfl (fun x1 => ?_)
  refine r_do (a_alloc zr25 rfl) rfl rfl (fun x2 => ?_)
  refine r_nil ?_
  refine j_then ?_
  refine j_seq ?_
  refine j_region ?_
  refine r_q (q_loadb_agg 1 rfl ag25 sz25 rfl rfl rfl rfl) rfl rfl ?_
  obtain ⟨v1, v2, v3, hb1, h⟩ := of_b3 h
  refine r_do (a_call ok92 rfl rfl rfl rfl (fun w hm => spec_l1Copy.calls K a1_0 a1_0_A a1_0_n a1_0_c a1_1 a1_1_A a1_1_n a1_1_c a1_2 a1_2_A a1_2_n a1_2_c hm a1_0_h (Rd.drop 3 a1_0_R) a1_1_h (Rd.drop 3 a1_1_R) a1_2_h (Rd.drop 3 a1_2_R) hb1)) rfl rfl (fun x3 => ?_)
  refine r_do (a_alloc zr25 rfl) rfl rfl (fun x4 => ?_)
  refine r_do (a_storeb 0 rfl sz25 rfl rfl rfl rfl (Nat.le_of_ble_eq_true rfl) rfl) rfl rfl (fun _ => ?_)
  refine j_b0 [(.slice x3.1.A x3.1.n x3.1.c), (.slice x3.2.1.A x3.2.1.n x3.2.1.c), (.slice x3.2.2.A x3.2.2.n x3.2.2.c)] rfl ?_
  refine r_nil ?_
  refine j_then ?_
  refine j_seq ?_
  refine j_seq ?_
  refine j_region ?_
  refine r_q (q_move rfl rfl) rfl rfl ?_
  obtain ⟨v4, v5, hb2, h⟩ := of_b2 h
  refine j_rs (.box a0_g 94 [(.slice a0_0_A a0_0_n a0_0_c), (i6 a0_1)] :: .box x4 25 [(.slice x3.1.A x3.1.n x3.1.c), (.slice x3.2.1.A x3.2.1.n x3.2.1.c), (.slice x3.2.2.A x3.2.2.n x3.2.2.c)] :: .row x3.1.A x3.1.c 3 1 (ii v1) :: .row x3.2.1.A x3.2.1.c 3 1 (ii v2) :: .row x3.2.2.A x3.2.2.c 3 1 (ii v3) :: .box x2 25 [(.slice none 0 0), (.slice none 0 0), (.slice none 0 0)] :: .box x1 25 [(.slice a1_0_A a1_0_n a1_0_c), (.slice a1_1_A a1_1_n a1_1_c), (.slice a1_2_A a1_2_n a1_2_c)] :: F) (fun _ h => h.pick 7 [6, 0, 1, 2, 3, 4, 5] rfl) ?_
  refine r_do (a_call ok89 rfl rfl rfl rfl (fun w hm => spec_l13Rd_pick.calls K a0_g a0_0 a0_0_A a0_0_n a0_0_c a0_1 (20:Int) hm a0_0_h (Rd.drop 6 a0_0_R) hb2)) rfl rfl (fun x5 => ?_)
  refine r_nil ?_
  refine j_then ?_
  refine j_block ?_
  refine j_seq ?_
  refine j_region ?_
  refine r_q (q_eql rfl rfl rfl) rfl rfl ?_
  refine r_q (q_assign rfl rfl) rfl rfl ?_
  refine r_nil ?_
  refine j_then ?_
  rcases of_if h with ⟨c1, h⟩ | ⟨c1, h⟩
  · refine j_true rfl (beq_t c1) ?_
    obtain ⟨v6, v7, hb3, h⟩ := of_b2 h
    obtain ⟨v8, v9, hb4, h⟩ := of_b2 h
    obtain ⟨c2, h⟩ := of_guard h
    refine j_draw (.box x4 25 [(.slice x3.1.A x3.1.n x3.1.c), (.slice x3.2.1.A x3.2.1.n x3.2.1.c), (.slice x3.2.2.A x3.2.2.n x3.2.2.c)] :: .row x3.2.1.A x3.2.1.c 3 1 (ii v2) :: .row x3.2.2.A x3.2.2.c 3 1 (ii v3) :: .box x2 25 [(.slice none 0 0), (.slice none 0 0), (.slice none 0 0)] :: .box x1 25 [(.slice a1_0_A a1_0_n a1_0_c), (.slice a1_1_A a1_1_n a1_1_c), (.slice a1_2_A a1_2_n a1_2_c)] :: F) 12 follows_any rfl ?_
    refine d_take 0 rfl (q_fieldAddr fi25_0 sz23 rfl rfl rfl) rfl rfl (by kernel_rfl) (by kernel_rfl) (by kernel_rfl) (fun w h => h.pick 7 [1, 3, 4, 5, 6] rfl) ?_
    refine d_take 1 rfl (q_loadb 0 rfl ag23 rfl rfl rfl) rfl rfl (by kernel_rfl) (by kernel_rfl) (by kernel_rfl) (fun w h => h.pick 7 [1, 3, 4, 5, 6] rfl) ?_
    refine d_take 2 rfl (q_move rfl rfl) rfl rfl (by kernel_rfl) (by kernel_rfl) (by kernel_rfl) (fun w h => h.pick 7 [1, 3, 4, 5, 6] rfl) ?_
    refine d_take 3 rfl (q_fieldAddr fi25_0 sz23 rfl rfl rfl) rfl rfl (by kernel_rfl) (by kernel_rfl) (by kernel_rfl) (fun w h => h.pick 7 [1, 3, 4, 5, 6] rfl) ?_
    refine d_take 4 rfl (q_loadb 0 rfl ag23 rfl rfl rfl) rfl rfl (by kernel_rfl) (by kernel_rfl) (by kernel_rfl) (fun w h => h.pick 7 [1, 3, 4, 5, 6] rfl) ?_
    refine d_take 5 rfl (q_lenX v1 x3.1.h un23 rfl rfl rfl rfl rfl) rfl rfl (by kernel_rfl) (by kernel_rfl) (by kernel_rfl) (fun w h => h.pick 7 [1, 3, 4, 5, 6] rfl) ?_
    refine d_take 7 rfl (q_move rfl rfl) rfl rfl (by kernel_rfl) (by kernel_rfl) (by kernel_rfl) (fun w h => h.pick 7 [1, 3, 4, 5, 6] rfl) ?_
    refine d_join (σ := Unit × (Option Addr) × Unit) 0 #[true, true, true, true, true, true, true, true, true, true, true, true] (fun s => [(4, (pt x2)), (5, (pt x4))]) (fun s => .row s.2.1 3 3 1 (ii ([(-2:Int), (8:Int), (0:Int)] : List Int)) :: .box a0_g 94 [(.slice a0_0_A a0_0_n a0_0_c), (i6 v9)] :: .box x4 25 [(.slice x3.1.A x3.1.n x3.1.c), (.slice x3.2.1.A x3.2.1.n x3.2.1.c), (.slice x3.2.2.A x3.2.2.n x3.2.2.c)] :: .row x3.1.A x3.1.c 3 1 (ii (v1.set v6.toNat v8)) :: .row x3.2.1.A x3.2.1.c 3 1 (ii v2) :: .row x3.2.2.A x3.2.2.c 3 1 (ii v3) :: .box x2 25 [(.slice none 0 0), (.slice none 0 0), (.slice none 0 0)] :: .box x1 25 [(.slice a1_0_A a1_0_n a1_0_c), (.slice a1_1_A a1_1_n a1_1_c), (.slice a1_2_A a1_2_n a1_2_c)] :: F) ?_ (fun hD4095 => ?_)
    · rintro ⟨x6, x7, x8⟩
      show J _ _ [(4, (pt x2)), (5, (pt x4))] _ (.row x7 3 3 1 (ii ([(-2:Int), (8:Int), (0:Int)] : List Int)) :: .box a0_g 94 [(.slice a0_0_A a0_0_n a0_0_c), (i6 v9)] :: .box x4 25 [(.slice x3.1.A x3.1.n x3.1.c), (.slice x3.2.1.A x3.2.1.n x3.2.1.c), (.slice x3.2.2.A x3.2.2.n x3.2.2.c)] :: .row x3.1.A x3.1.c 3 1 (ii (v1.set v6.toNat v8)) :: .row x3.2.1.A x3.2.1.c 3 1 (ii v2) :: .row x3.2.2.A x3.2.2.c 3 1 (ii v3) :: .box x2 25 [(.slice none 0 0), (.slice none 0 0), (.slice none 0 0)] :: .box x1 25 [(.slice a1_0_A a1_0_n a1_0_c), (.slice a1_1_A a1_1_n a1_1_c), (.slice a1_2_A a1_2_n a1_2_c)] :: F)
      refine d_done (by kernel_rfl) ?_
      refine j_in ?_
      refine j_then ?_
      refine j_seq ?_
      refine j_region ?_
      refine r_q (q_loadb_agg 2 rfl ag25 sz25 rfl rfl rfl rfl) rfl rfl ?_
      refine r_do (a_storeb 6 rfl sz25 rfl rfl rfl rfl (Nat.le_of_ble_eq_true rfl) rfl) rfl rfl (fun _ => ?_)
      refine j_b6 [(.slice x3.1.A x3.1.n x3.1.c), (.slice x3.2.1.A x3.2.1.n x3.2.1.c), (.slice x3.2.2.A x3.2.2.n x3.2.2.c)] rfl ?_
      refine r_nil ?_
      refine j_then ?_
      refine j_ret ?_
      cases h
      exact j_return rfl (ResOf.cell 6 rfl rfl ag25 sz25 ResOf.nil) rfl (fun w h => ⟨(⟨x3.1.A, x3.1.n, x3.1.c, (set_len x3.1.h _ _)⟩, ⟨x3.2.1.A, x3.2.1.n, x3.2.1.c, x3.2.1.h⟩, ⟨x3.2.2.A, x3.2.2.n, x3.2.2.c, x3.2.2.h⟩), rfl, h.pick 8 [3, 4, 5, 1] rfl⟩)
    refine d_join (σ := Unit × (Option Addr) × Unit) 1 #[true, true, true, true, true, true, true, true, true, true, true, false] (fun s => [(4, (pt x2)), (5, (pt x4)), (21, (i6 v8)), (22, (.pointer (x3.1.A.map (·.add (v6.toNat * 1)))))]) (fun s => .row s.2.1 3 3 1 (ii ([(-2:Int), (8:Int), (0:Int)] : List Int)) :: .box a0_g 94 [(.slice a0_0_A a0_0_n a0_0_c), (i6 v9)] :: .box x4 25 [(.slice x3.1.A x3.1.n x3.1.c), (.slice x3.2.1.A x3.2.1.n x3.2.1.c), (.slice x3.2.2.A x3.2.2.n x3.2.2.c)] :: .row x3.1.A x3.1.c 3 1 (ii v1) :: .row x3.2.1.A x3.2.1.c 3 1 (ii v2) :: .row x3.2.2.A x3.2.2.c 3 1 (ii v3) :: .box x2 25 [(.slice none 0 0), (.slice none 0 0), (.slice none 0 0)] :: .box x1 25 [(.slice a1_0_A a1_0_n a1_0_c), (.slice a1_1_A a1_1_n a1_1_c), (.slice a1_2_A a1_2_n a1_2_c)] :: F) ?_ (fun hD2047 => ?_)
    · rintro ⟨x6, x7, x8⟩
      show J _ _ [(4, (pt x2)), (5, (pt x4)), (21, (i6 v8)), (22, (.pointer (x3.1.A.map (·.add (v6.toNat * 1)))))] _ (.row x7 3 3 1 (ii ([(-2:Int), (8:Int), (0:Int)] : List Int)) :: .box a0_g 94 [(.slice a0_0_A a0_0_n a0_0_c), (i6 v9)] :: .box x4 25 [(.slice x3.1.A x3.1.n x3.1.c), (.slice x3.2.1.A x3.2.1.n x3.2.1.c), (.slice x3.2.2.A x3.2.2.n x3.2.2.c)] :: .row x3.1.A x3.1.c 3 1 (ii v1) :: .row x3.2.1.A x3.2.1.c 3 1 (ii v2) :: .row x3.2.2.A x3.2.2.c 3 1 (ii v3) :: .box x2 25 [(.slice none 0 0), (.slice none 0 0), (.slice none 0 0)] :: .box x1 25 [(.slice a1_0_A a1_0_n a1_0_c), (.slice a1_1_A a1_1_n a1_1_c), (.slice a1_2_A a1_2_n a1_2_c)] :: F)
      refine d_one 11 (by kernel_rfl) ?_
      · refine o_do rfl (a_stI 3 rfl c2 sz3 rfl rfl rfl) rfl rfl (fun _ w h => h.pick 8 [2, 4, 5, 6, 7] rfl) (fun _ => ?_)
        refine j_s3 ?_
        refine j_rs (.row x7 3 3 1 (ii ([(-2:Int), (8:Int), (0:Int)] : List Int)) :: .box a0_g 94 [(.slice a0_0_A a0_0_n a0_0_c), (i6 v9)] :: .box x4 25 [(.slice x3.1.A x3.1.n x3.1.c), (.slice x3.2.1.A x3.2.1.n x3.2.1.c), (.slice x3.2.2.A x3.2.2.n x3.2.2.c)] :: .row x3.1.A x3.1.c 3 1 (ii (v1.set v6.toNat v8)) :: .row x3.2.1.A x3.2.1.c 3 1 (ii v2) :: .row x3.2.2.A x3.2.2.c 3 1 (ii v3) :: .box x2 25 [(.slice none 0 0), (.slice none 0 0), (.slice none 0 0)] :: .box x1 25 [(.slice a1_0_A a1_0_n a1_0_c), (.slice a1_1_A a1_1_n a1_1_c), (.slice a1_2_A a1_2_n a1_2_c)] :: F) (fun _ h => h) ?_
        refine j_env [(4, (pt x2)), (5, (pt x4))] ⟨rfl, rfl, trivial⟩ ?_
        exact hD4095 (x6, x7, x8)
    refine d_join (σ := Unit × (Option Addr) × Unit) 2 #[true, true, true, true, true, true, true, true, true, true, false, false] (fun s => [(4, (pt x2)), (5, (pt x4)), (13, (.slice x3.1.A x3.1.n x3.1.c)), (18, (i6 v6)), (21, (i6 v8))]) (fun s => .row s.2.1 3 3 1 (ii ([(-2:Int), (8:Int), (0:Int)] : List Int)) :: .box a0_g 94 [(.slice a0_0_A a0_0_n a0_0_c), (i6 v9)] :: .box x4 25 [(.slice x3.1.A x3.1.n x3.1.c), (.slice x3.2.1.A x3.2.1.n x3.2.1.c), (.slice x3.2.2.A x3.2.2.n x3.2.2.c)] :: .row x3.1.A x3.1.c 3 1 (ii v1) :: .row x3.2.1.A x3.2.1.c 3 1 (ii v2) :: .row x3.2.2.A x3.2.2.c 3 1 (ii v3) :: .box x2 25 [(.slice none 0 0), (.slice none 0 0), (.slice none 0 0)] :: .box x1 25 [(.slice a1_0_A a1_0_n a1_0_c), (.slice a1_1_A a1_1_n a1_1_c), (.slice a1_2_A a1_2_n a1_2_c)] :: F) ?_ (fun hD1023 => ?_)
    · rintro ⟨x6, x7, x8⟩
      show J _ _ [(4, (pt x2)), (5, (pt x4)), (13, (.slice x3.1.A x3.1.n x3.1.c)), (18, (i6 v6)), (21, (i6 v8))] _ (.row x7 3 3 1 (ii ([(-2:Int), (8:Int), (0:Int)] : List Int)) :: .box a0_g 94 [(.slice a0_0_A a0_0_n a0_0_c), (i6 v9)] :: .box x4 25 [(.slice x3.1.A x3.1.n x3.1.c), (.slice x3.2.1.A x3.2.1.n x3.2.1.c), (.slice x3.2.2.A x3.2.2.n x3.2.2.c)] :: .row x3.1.A x3.1.c 3 1 (ii v1) :: .row x3.2.1.A x3.2.1.c 3 1 (ii v2) :: .row x3.2.2.A x3.2.2.c 3 1 (ii v3) :: .box x2 25 [(.slice none 0 0), (.slice none 0 0), (.slice none 0 0)] :: .box x1 25 [(.slice a1_0_A a1_0_n a1_0_c), (.slice a1_1_A a1_1_n a1_1_c), (.slice a1_2_A a1_2_n a1_2_c)] :: F)
      refine d_one 10 (by kernel_rfl) ?_
      · refine o_do rfl ((q_ix (Rd.row 3 rfl) (ints_len1 _ v1) (by decide) x3.1.h c2 un23 sz3 rfl rfl rfl)).acts rfl rfl (fun _ w h => h.pick 8 [2, 4, 5, 6, 7] rfl) (fun _ => ?_)
        refine j_rs (.row x7 3 3 1 (ii ([(-2:Int), (8:Int), (0:Int)] : List Int)) :: .box a0_g 94 [(.slice a0_0_A a0_0_n a0_0_c), (i6 v9)] :: .box x4 25 [(.slice x3.1.A x3.1.n x3.1.c), (.slice x3.2.1.A x3.2.1.n x3.2.1.c), (.slice x3.2.2.A x3.2.2.n x3.2.2.c)] :: .row x3.1.A x3.1.c 3 1 (ii v1) :: .row x3.2.1.A x3.2.1.c 3 1 (ii v2) :: .row x3.2.2.A x3.2.2.c 3 1 (ii v3) :: .box x2 25 [(.slice none 0 0), (.slice none 0 0), (.slice none 0 0)] :: .box x1 25 [(.slice a1_0_A a1_0_n a1_0_c), (.slice a1_1_A a1_1_n a1_1_c), (.slice a1_2_A a1_2_n a1_2_c)] :: F) (fun _ h => h) ?_
        refine j_env [(4, (pt x2)), (5, (pt x4)), (21, (i6 v8)), (22, (.pointer (x3.1.A.map (·.add (v6.toNat * 1)))))] ⟨rfl, rfl, rfl, rfl, trivial⟩ ?_
        exact hD2047 (x6, x7, x8)
    refine d_join (σ := Unit × (Option Addr)) 3 #[true, true, true, true, true, true, true, true, true, false, false, false] (fun s => [(4, (pt x2)), (5, (pt x4)), (13, (.slice x3.1.A x3.1.n x3.1.c)), (18, (i6 v6)), (19, (pt a0_g)), (20, (.slice s.2 3 3))]) (fun s => .row s.2 3 3 1 (ii ([(-2:Int), (8:Int), (0:Int)] : List Int)) :: .box a0_g 94 [(.slice a0_0_A a0_0_n a0_0_c), (i6 v7)] :: .box x4 25 [(.slice x3.1.A x3.1.n x3.1.c), (.slice x3.2.1.A x3.2.1.n x3.2.1.c), (.slice x3.2.2.A x3.2.2.n x3.2.2.c)] :: .row x3.1.A x3.1.c 3 1 (ii v1) :: .row x3.2.1.A x3.2.1.c 3 1 (ii v2) :: .row x3.2.2.A x3.2.2.c 3 1 (ii v3) :: .box x2 25 [(.slice none 0 0), (.slice none 0 0), (.slice none 0 0)] :: .box x1 25 [(.slice a1_0_A a1_0_n a1_0_c), (.slice a1_1_A a1_1_n a1_1_c), (.slice a1_2_A a1_2_n a1_2_c)] :: F) ?_ (fun hD511 => ?_)
    · rintro ⟨x6, x7⟩
      show J _ _ [(4, (pt x2)), (5, (pt x4)), (13, (.slice x3.1.A x3.1.n x3.1.c)), (18, (i6 v6)), (19, (pt a0_g)), (20, (.slice x7 3 3))] _ (.row x7 3 3 1 (ii ([(-2:Int), (8:Int), (0:Int)] : List Int)) :: .box a0_g 94 [(.slice a0_0_A a0_0_n a0_0_c), (i6 v7)] :: .box x4 25 [(.slice x3.1.A x3.1.n x3.1.c), (.slice x3.2.1.A x3.2.1.n x3.2.1.c), (.slice x3.2.2.A x3.2.2.n x3.2.2.c)] :: .row x3.1.A x3.1.c 3 1 (ii v1) :: .row x3.2.1.A x3.2.1.c 3 1 (ii v2) :: .row x3.2.2.A x3.2.2.c 3 1 (ii v3) :: .box x2 25 [(.slice none 0 0), (.slice none 0 0), (.slice none 0 0)] :: .box x1 25 [(.slice a1_0_A a1_0_n a1_0_c), (.slice a1_1_A a1_1_n a1_1_c), (.slice a1_2_A a1_2_n a1_2_c)] :: F)
      refine d_one 9 (by kernel_rfl) ?_
      · refine j_rs (.box a0_g 94 [(.slice a0_0_A a0_0_n a0_0_c), (i6 v7)] :: .row x7 3 3 1 (ii ([(-2:Int), (8:Int), (0:Int)] : List Int)) :: .box x4 25 [(.slice x3.1.A x3.1.n x3.1.c), (.slice x3.2.1.A x3.2.1.n x3.2.1.c), (.slice x3.2.2.A x3.2.2.n x3.2.2.c)] :: .row x3.1.A x3.1.c 3 1 (ii v1) :: .row x3.2.1.A x3.2.1.c 3 1 (ii v2) :: .row x3.2.2.A x3.2.2.c 3 1 (ii v3) :: .box x2 25 [(.slice none 0 0), (.slice none 0 0), (.slice none 0 0)] :: .box x1 25 [(.slice a1_0_A a1_0_n a1_0_c), (.slice a1_1_A a1_1_n a1_1_c), (.slice a1_2_A a1_2_n a1_2_c)] :: F) (fun _ h => h.pick 8 [1, 0, 2, 3, 4, 5, 6, 7] rfl) ?_
        refine o_do rfl (a_call ok55 rfl rfl rfl rfl (fun w hm => spec_l13Rd_num.calls K a0_g a0_0 a0_0_A a0_0_n a0_0_c v7 ([(-2:Int), (8:Int), (0:Int)] : List Int) x7 3 3 hm a0_0_h (Rd.drop 7 a0_0_R) rfl (Rd.row 0 rfl) hb4)) rfl rfl (fun x8 w h => h.pick 8 [2, 4, 5, 6, 7] rfl) (fun x8 => ?_)
        refine j_rs (.row x7 3 3 1 (ii ([(-2:Int), (8:Int), (0:Int)] : List Int)) :: .box a0_g 94 [(.slice a0_0_A a0_0_n a0_0_c), (i6 v9)] :: .box x4 25 [(.slice x3.1.A x3.1.n x3.1.c), (.slice x3.2.1.A x3.2.1.n x3.2.1.c), (.slice x3.2.2.A x3.2.2.n x3.2.2.c)] :: .row x3.1.A x3.1.c 3 1 (ii v1) :: .row x3.2.1.A x3.2.1.c 3 1 (ii v2) :: .row x3.2.2.A x3.2.2.c 3 1 (ii v3) :: .box x2 25 [(.slice none 0 0), (.slice none 0 0), (.slice none 0 0)] :: .box x1 25 [(.slice a1_0_A a1_0_n a1_0_c), (.slice a1_1_A a1_1_n a1_1_c), (.slice a1_2_A a1_2_n a1_2_c)] :: F) (fun _ h => h.pick 8 [1, 0, 2, 3, 4, 5, 6, 7] rfl) ?_
        refine j_env [(4, (pt x2)), (5, (pt x4)), (13, (.slice x3.1.A x3.1.n x3.1.c)), (18, (i6 v6)), (21, (i6 v8))] ⟨rfl, rfl, rfl, rfl, rfl, trivial⟩ ?_
        exact hD1023 (x6, x7, x8)
    refine d_join (σ := Unit) 4 #[true, true, true, true, true, true, true, true, false, false, false, false] (fun s => [(4, (pt x2)), (5, (pt x4)), (13, (.slice x3.1.A x3.1.n x3.1.c)), (18, (i6 v6)), (19, (pt a0_g))]) (fun s => .box a0_g 94 [(.slice a0_0_A a0_0_n a0_0_c), (i6 v7)] :: .box x4 25 [(.slice x3.1.A x3.1.n x3.1.c), (.slice x3.2.1.A x3.2.1.n x3.2.1.c), (.slice x3.2.2.A x3.2.2.n x3.2.2.c)] :: .row x3.1.A x3.1.c 3 1 (ii v1) :: .row x3.2.1.A x3.2.1.c 3 1 (ii v2) :: .row x3.2.2.A x3.2.2.c 3 1 (ii v3) :: .box x2 25 [(.slice none 0 0), (.slice none 0 0), (.slice none 0 0)] :: .box x1 25 [(.slice a1_0_A a1_0_n a1_0_c), (.slice a1_1_A a1_1_n a1_1_c), (.slice a1_2_A a1_2_n a1_2_c)] :: F) ?_ (fun hD255 => ?_)
    · rintro x6
      show J _ _ [(4, (pt x2)), (5, (pt x4)), (13, (.slice x3.1.A x3.1.n x3.1.c)), (18, (i6 v6)), (19, (pt a0_g))] _ (.box a0_g 94 [(.slice a0_0_A a0_0_n a0_0_c), (i6 v7)] :: .box x4 25 [(.slice x3.1.A x3.1.n x3.1.c), (.slice x3.2.1.A x3.2.1.n x3.2.1.c), (.slice x3.2.2.A x3.2.2.n x3.2.2.c)] :: .row x3.1.A x3.1.c 3 1 (ii v1) :: .row x3.2.1.A x3.2.1.c 3 1 (ii v2) :: .row x3.2.2.A x3.2.2.c 3 1 (ii v3) :: .box x2 25 [(.slice none 0 0), (.slice none 0 0), (.slice none 0 0)] :: .box x1 25 [(.slice a1_0_A a1_0_n a1_0_c), (.slice a1_1_A a1_1_n a1_1_c), (.slice a1_2_A a1_2_n a1_2_c)] :: F)
      refine d_one 8 (by kernel_rfl) ?_
      · refine o_do rfl (a_litX (vs := [(i6 (-2:Int)), (i6 (8:Int)), (i6 (0:Int))]) (ii ([(-2:Int), (8:Int), (0:Int)] : List Int)) un23 sz3 zr3 rfl rfl rfl rfl rfl rfl rfl rfl rfl) rfl rfl (fun x7 w h => h.pick 8 [2, 4, 5, 6, 7] rfl) (fun x7 => ?_)
        refine j_rs (.row x7 3 3 1 (ii ([(-2:Int), (8:Int), (0:Int)] : List Int)) :: .box a0_g 94 [(.slice a0_0_A a0_0_n a0_0_c), (i6 v7)] :: .box x4 25 [(.slice x3.1.A x3.1.n x3.1.c), (.slice x3.2.1.A x3.2.1.n x3.2.1.c), (.slice x3.2.2.A x3.2.2.n x3.2.2.c)] :: .row x3.1.A x3.1.c 3 1 (ii v1) :: .row x3.2.1.A x3.2.1.c 3 1 (ii v2) :: .row x3.2.2.A x3.2.2.c 3 1 (ii v3) :: .box x2 25 [(.slice none 0 0), (.slice none 0 0), (.slice none 0 0)] :: .box x1 25 [(.slice a1_0_A a1_0_n a1_0_c), (.slice a1_1_A a1_1_n a1_1_c), (.slice a1_2_A a1_2_n a1_2_c)] :: F) (fun _ h => h) ?_
        refine j_env [(4, (pt x2)), (5, (pt x4)), (13, (.slice x3.1.A x3.1.n x3.1.c)), (18, (i6 v6)), (19, (pt a0_g)), (20, (.slice x7 3 3))] ⟨rfl, rfl, rfl, rfl, rfl, rfl, trivial⟩ ?_
        exact hD511 (x6, x7)
    refine d_join (σ := (Option Addr)) 4 #[true, true, true, true, true, true, false, true, true, false, false, false] (fun s => [(4, (pt x2)), (5, (pt x4)), (13, (.slice x3.1.A x3.1.n x3.1.c)), (14, (pt a0_g)), (17, (i6 (v1.length : Int))), (19, (pt a0_g)), (20, (.slice s 3 3))]) (fun s => .row s 3 3 1 (ii ([(-2:Int), (8:Int), (0:Int)] : List Int)) :: .box a0_g 94 [(.slice a0_0_A a0_0_n a0_0_c), (i6 v5)] :: .box x4 25 [(.slice x3.1.A x3.1.n x3.1.c), (.slice x3.2.1.A x3.2.1.n x3.2.1.c), (.slice x3.2.2.A x3.2.2.n x3.2.2.c)] :: .row x3.1.A x3.1.c 3 1 (ii v1) :: .row x3.2.1.A x3.2.1.c 3 1 (ii v2) :: .row x3.2.2.A x3.2.2.c 3 1 (ii v3) :: .box x2 25 [(.slice none 0 0), (.slice none 0 0), (.slice none 0 0)] :: .box x1 25 [(.slice a1_0_A a1_0_n a1_0_c), (.slice a1_1_A a1_1_n a1_1_c), (.slice a1_2_A a1_2_n a1_2_c)] :: F) ?_ (fun hD447 => ?_)
    · rintro x7
      show J _ _ [(4, (pt x2)), (5, (pt x4)), (13, (.slice x3.1.A x3.1.n x3.1.c)), (14, (pt a0_g)), (17, (i6 (v1.length : Int))), (19, (pt a0_g)), (20, (.slice x7 3 3))] _ (.row x7 3 3 1 (ii ([(-2:Int), (8:Int), (0:Int)] : List Int)) :: .box a0_g 94 [(.slice a0_0_A a0_0_n a0_0_c), (i6 v5)] :: .box x4 25 [(.slice x3.1.A x3.1.n x3.1.c), (.slice x3.2.1.A x3.2.1.n x3.2.1.c), (.slice x3.2.2.A x3.2.2.n x3.2.2.c)] :: .row x3.1.A x3.1.c 3 1 (ii v1) :: .row x3.2.1.A x3.2.1.c 3 1 (ii v2) :: .row x3.2.2.A x3.2.2.c 3 1 (ii v3) :: .box x2 25 [(.slice none 0 0), (.slice none 0 0), (.slice none 0 0)] :: .box x1 25 [(.slice a1_0_A a1_0_n a1_0_c), (.slice a1_1_A a1_1_n a1_1_c), (.slice a1_2_A a1_2_n a1_2_c)] :: F)
      refine d_one 6 (by kernel_rfl) ?_
      · refine j_rs (.box a0_g 94 [(.slice a0_0_A a0_0_n a0_0_c), (i6 v5)] :: .row x7 3 3 1 (ii ([(-2:Int), (8:Int), (0:Int)] : List Int)) :: .box x4 25 [(.slice x3.1.A x3.1.n x3.1.c), (.slice x3.2.1.A x3.2.1.n x3.2.1.c), (.slice x3.2.2.A x3.2.2.n x3.2.2.c)] :: .row x3.1.A x3.1.c 3 1 (ii v1) :: .row x3.2.1.A x3.2.1.c 3 1 (ii v2) :: .row x3.2.2.A x3.2.2.c 3 1 (ii v3) :: .box x2 25 [(.slice none 0 0), (.slice none 0 0), (.slice none 0 0)] :: .box x1 25 [(.slice a1_0_A a1_0_n a1_0_c), (.slice a1_1_A a1_1_n a1_1_c), (.slice a1_2_A a1_2_n a1_2_c)] :: F) (fun _ h => h.pick 8 [1, 0, 2, 3, 4, 5, 6, 7] rfl) ?_
        refine o_do rfl (a_call ok89 rfl rfl rfl rfl (fun w hm => spec_l13Rd_pick.calls K a0_g a0_0 a0_0_A a0_0_n a0_0_c v5 (v1.length : Int) hm a0_0_h (Rd.drop 7 a0_0_R) hb3)) rfl rfl (fun x6 w h => h.pick 8 [2, 4, 5, 6, 7] rfl) (fun x6 => ?_)
        refine j_rs (.row x7 3 3 1 (ii ([(-2:Int), (8:Int), (0:Int)] : List Int)) :: .box a0_g 94 [(.slice a0_0_A a0_0_n a0_0_c), (i6 v7)] :: .box x4 25 [(.slice x3.1.A x3.1.n x3.1.c), (.slice x3.2.1.A x3.2.1.n x3.2.1.c), (.slice x3.2.2.A x3.2.2.n x3.2.2.c)] :: .row x3.1.A x3.1.c 3 1 (ii v1) :: .row x3.2.1.A x3.2.1.c 3 1 (ii v2) :: .row x3.2.2.A x3.2.2.c 3 1 (ii v3) :: .box x2 25 [(.slice none 0 0), (.slice none 0 0), (.slice none 0 0)] :: .box x1 25 [(.slice a1_0_A a1_0_n a1_0_c), (.slice a1_1_A a1_1_n a1_1_c), (.slice a1_2_A a1_2_n a1_2_c)] :: F) (fun _ h => h.pick 8 [1, 0, 2, 3, 4, 5, 6, 7] rfl) ?_
        refine j_env [(4, (pt x2)), (5, (pt x4)), (13, (.slice x3.1.A x3.1.n x3.1.c)), (18, (i6 v6)), (19, (pt a0_g)), (20, (.slice x7 3 3))] ⟨rfl, rfl, rfl, rfl, rfl, rfl, trivial⟩ ?_
        exact hD511 (x6, x7)
    refine d_two 6 8 (by kernel_rfl) ?_ ?_
    · refine o_do rfl (a_call ok89 rfl rfl rfl rfl (fun w hm => spec_l13Rd_pick.calls K a0_g a0_0 a0_0_A a0_0_n a0_0_c v5 (v1.length : Int) hm a0_0_h (Rd.drop 6 a0_0_R) hb3)) rfl rfl (fun x6 w h => h.pick 7 [1, 3, 4, 5, 6] rfl) (fun x6 => ?_)
      refine j_rs (.box a0_g 94 [(.slice a0_0_A a0_0_n a0_0_c), (i6 v7)] :: .box x4 25 [(.slice x3.1.A x3.1.n x3.1.c), (.slice x3.2.1.A x3.2.1.n x3.2.1.c), (.slice x3.2.2.A x3.2.2.n x3.2.2.c)] :: .row x3.1.A x3.1.c 3 1 (ii v1) :: .row x3.2.1.A x3.2.1.c 3 1 (ii v2) :: .row x3.2.2.A x3.2.2.c 3 1 (ii v3) :: .box x2 25 [(.slice none 0 0), (.slice none 0 0), (.slice none 0 0)] :: .box x1 25 [(.slice a1_0_A a1_0_n a1_0_c), (.slice a1_1_A a1_1_n a1_1_c), (.slice a1_2_A a1_2_n a1_2_c)] :: F) (fun _ h => h) ?_
      refine j_env [(4, (pt x2)), (5, (pt x4)), (13, (.slice x3.1.A x3.1.n x3.1.c)), (18, (i6 v6)), (19, (pt a0_g))] ⟨rfl, rfl, rfl, rfl, rfl, trivial⟩ ?_
      exact hD255 x6
    · refine o_do rfl (a_litX (vs := [(i6 (-2:Int)), (i6 (8:Int)), (i6 (0:Int))]) (ii ([(-2:Int), (8:Int), (0:Int)] : List Int)) un23 sz3 zr3 rfl rfl rfl rfl rfl rfl rfl rfl rfl) rfl rfl (fun x7 w h => h.pick 8 [2, 4, 5, 6, 7] rfl) (fun x7 => ?_)
      refine j_rs (.row x7 3 3 1 (ii ([(-2:Int), (8:Int), (0:Int)] : List Int)) :: .box a0_g 94 [(.slice a0_0_A a0_0_n a0_0_c), (i6 v5)] :: .box x4 25 [(.slice x3.1.A x3.1.n x3.1.c), (.slice x3.2.1.A x3.2.1.n x3.2.1.c), (.slice x3.2.2.A x3.2.2.n x3.2.2.c)] :: .row x3.1.A x3.1.c 3 1 (ii v1) :: .row x3.2.1.A x3.2.1.c 3 1 (ii v2) :: .row x3.2.2.A x3.2.2.c 3 1 (ii v3) :: .box x2 25 [(.slice none 0 0), (.slice none 0 0), (.slice none 0 0)] :: .box x1 25 [(.slice a1_0_A a1_0_n a1_0_c), (.slice a1_1_A a1_1_n a1_1_c), (.slice a1_2_A a1_2_n a1_2_c)] :: F) (fun _ h => h) ?_
      refine j_env [(4, (pt x2)), (5, (pt x4)), (13, (.slice x3.1.A x3.1.n x3.1.c)), (14, (pt a0_g)), (17, (i6 (v1.length : Int))), (19, (pt a0_g)), (20, (.slice x7 3 3))] ⟨rfl, rfl, rfl, rfl, rfl, rfl, rfl, trivial⟩ ?_
      exact hD447 x7
  · refine j_false rfl (beq_f c1) ?_
    refine j_seq ?_
    refine j_region ?_
    refine r_q (q_eql rfl rfl rfl) rfl rfl ?_
    refine r_q (q_assign rfl rfl) rfl rfl ?_
    refine r_nil ?_
    refine j_then ?_
    rcases of_if h with ⟨c3, h⟩ | ⟨c3, h⟩
    · refine j_true rfl (beq_t c3) ?_
      refine j_region ?_
      refine r_q (q_fieldAddr fi25_1 sz23 rfl rfl rfl) rfl rfl ?_
      refine r_q (q_loadb 1 rfl ag23 rfl rfl rfl) rfl rfl ?_
      refine r_do (a_litX (vs := [(i6 (-1:Int))]) (ii ([(-1:Int)] : List Int)) un23 sz3 zr3 rfl rfl rfl rfl rfl rfl rfl rfl rfl) rfl rfl (fun x9 => ?_)
      obtain ⟨c4, h⟩ := of_guard h
      refine r_do (a_appI (xs := v2) (ys := ([(-1:Int)] : List Int)) 4 un23 un23 sz3 by3 zr3 rfl rfl rfl rfl rfl rfl rfl rfl rfl x3.2.1.h rfl (Rd.row 0 rfl) c4) rfl rfl (fun x10 => ?_)
      refine j_s4 ?_
      refine r_q (q_fieldAddr fi25_1 sz23 rfl rfl rfl) rfl rfl ?_
      refine r_do (a_storeb 2 rfl sz23 rfl rfl rfl rfl (Nat.le_of_ble_eq_true rfl) rfl) rfl rfl (fun _ => ?_)
      refine j_b2 [(.slice x3.1.A x3.1.n x3.1.c), (.slice x10.1 (x3.2.1.n + 1) x10.2), (.slice x3.2.2.A x3.2.2.n x3.2.2.c)] rfl ?_
      refine r_nil ?_
      refine j_in ?_
      refine j_then ?_
      refine j_seq ?_
      refine j_region ?_
      refine r_q (q_loadb_agg 2 rfl ag25 sz25 rfl rfl rfl rfl) rfl rfl ?_
      refine r_do (a_storeb 6 rfl sz25 rfl rfl rfl rfl (Nat.le_of_ble_eq_true rfl) rfl) rfl rfl (fun _ => ?_)
      refine j_b6 [(.slice x3.1.A x3.1.n x3.1.c), (.slice x10.1 (x3.2.1.n + 1) x10.2), (.slice x3.2.2.A x3.2.2.n x3.2.2.c)] rfl ?_
      refine r_nil ?_
      refine j_then ?_
      refine j_ret ?_
      cases h
      exact j_return rfl (ResOf.cell 6 rfl rfl ag25 sz25 ResOf.nil) rfl (fun w h => ⟨(⟨x3.1.A, x3.1.n, x3.1.c, x3.1.h⟩, ⟨x10.1, (x3.2.1.n + 1), x10.2, (app_len x3.2.1.h rfl)⟩, ⟨x3.2.2.A, x3.2.2.n, x3.2.2.c, x3.2.2.h⟩), rfl, h.pick 8 [3, 4, 5, 1] rfl⟩)
    · refine j_false rfl (beq_f c3) ?_
      refine j_seq ?_
      refine j_region ?_
      refine r_q (q_eql rfl rfl rfl) rfl rfl ?_
      refine r_q (q_assign rfl rfl) rfl rfl ?_
      refine r_nil ?_
      refine j_then ?_
      rcases of_if h with ⟨c5, h⟩ | ⟨c5, h⟩
      · refine j_true rfl (beq_t c5) ?_
        obtain ⟨v10, v11, hb5, h⟩ := of_b2 h
        obtain ⟨c6, h⟩ := of_guard h
        refine j_draw (.row x3.1.A x3.1.c 3 1 (ii v1) :: .row x3.2.1.A x3.2.1.c 3 1 (ii v2) :: .box x2 25 [(.slice none 0 0), (.slice none 0 0), (.slice none 0 0)] :: .box x1 25 [(.slice a1_0_A a1_0_n a1_0_c), (.slice a1_1_A a1_1_n a1_1_c), (.slice a1_2_A a1_2_n a1_2_c)] :: F) 9 follows_any rfl ?_
        refine d_take 0 rfl (q_fieldAddr fi25_2 sz23 rfl rfl rfl) rfl rfl (by kernel_rfl) (by kernel_rfl) (by kernel_rfl) (fun w h => h.pick 7 [2, 3, 5, 6] rfl) ?_
        refine d_take 2 rfl (q_move rfl rfl) rfl rfl (by kernel_rfl) (by kernel_rfl) (by kernel_rfl) (fun w h => h.pick 7 [2, 3, 5, 6] rfl) ?_
        refine d_join (σ := (Option Addr) × Unit × (Option Addr) × (Option Addr × Nat)) 0 #[true, true, true, true, true, true, true, true, true] (fun s => [(4, (pt x2)), (5, (pt x4))]) (fun s => .row s.1 3 3 1 (ii ([(0:Int), (-1:Int), (9:Int)] : List Int)) :: .row s.2.2.1 1 3 1 (ii ([v10] : List Int)) :: .row s.2.2.2.1 s.2.2.2.2 3 1 (ii (v3 ++ ([v10] : List Int))) :: .box a0_g 94 [(.slice a0_0_A a0_0_n a0_0_c), (i6 v11)] :: .box x4 25 [(.slice x3.1.A x3.1.n x3.1.c), (.slice x3.2.1.A x3.2.1.n x3.2.1.c), (.slice s.2.2.2.1 (x3.2.2.n + 1) s.2.2.2.2)] :: .row x3.1.A x3.1.c 3 1 (ii v1) :: .row x3.2.1.A x3.2.1.c 3 1 (ii v2) :: .box x2 25 [(.slice none 0 0), (.slice none 0 0), (.slice none 0 0)] :: .box x1 25 [(.slice a1_0_A a1_0_n a1_0_c), (.slice a1_1_A a1_1_n a1_1_c), (.slice a1_2_A a1_2_n a1_2_c)] :: F) ?_ (fun hD511 => ?_)
        · rintro ⟨x11, x12, x13, x14⟩
          show J _ _ [(4, (pt x2)), (5, (pt x4))] _ (.row x11 3 3 1 (ii ([(0:Int), (-1:Int), (9:Int)] : List Int)) :: .row x13 1 3 1 (ii ([v10] : List Int)) :: .row x14.1 x14.2 3 1 (ii (v3 ++ ([v10] : List Int))) :: .box a0_g 94 [(.slice a0_0_A a0_0_n a0_0_c), (i6 v11)] :: .box x4 25 [(.slice x3.1.A x3.1.n x3.1.c), (.slice x3.2.1.A x3.2.1.n x3.2.1.c), (.slice x14.1 (x3.2.2.n + 1) x14.2)] :: .row x3.1.A x3.1.c 3 1 (ii v1) :: .row x3.2.1.A x3.2.1.c 3 1 (ii v2) :: .box x2 25 [(.slice none 0 0), (.slice none 0 0), (.slice none 0 0)] :: .box x1 25 [(.slice a1_0_A a1_0_n a1_0_c), (.slice a1_1_A a1_1_n a1_1_c), (.slice a1_2_A a1_2_n a1_2_c)] :: F)
          refine d_done (by kernel_rfl) ?_
          refine j_in ?_
          refine j_then ?_
          refine j_seq ?_
          refine j_region ?_
          refine r_q (q_loadb_agg 4 rfl ag25 sz25 rfl rfl rfl rfl) rfl rfl ?_
          refine r_do (a_storeb 7 rfl sz25 rfl rfl rfl rfl (Nat.le_of_ble_eq_true rfl) rfl) rfl rfl (fun _ => ?_)
          refine j_b7 [(.slice x3.1.A x3.1.n x3.1.c), (.slice x3.2.1.A x3.2.1.n x3.2.1.c), (.slice x14.1 (x3.2.2.n + 1) x14.2)] rfl ?_
          refine r_nil ?_
          refine j_then ?_
          refine j_ret ?_
          cases h
          exact j_return rfl (ResOf.cell 7 rfl rfl ag25 sz25 ResOf.nil) rfl (fun w h => ⟨(⟨x3.1.A, x3.1.n, x3.1.c, x3.1.h⟩, ⟨x3.2.1.A, x3.2.1.n, x3.2.1.c, x3.2.1.h⟩, ⟨x14.1, (x3.2.2.n + 1), x14.2, (app_len x3.2.2.h rfl)⟩), rfl, h.pick 9 [5, 6, 2, 3] rfl⟩)
        refine d_join (σ := (Option Addr) × Unit × (Option Addr) × (Option Addr × Nat)) 1 #[true, true, true, true, true, true, true, true, false] (fun s => [(4, (pt x2)), (5, (pt x4)), (38, (.slice s.2.2.2.1 (x3.2.2.n + 1) s.2.2.2.2)), (39, (.pointer (some ⟨x4, 2, none⟩)))]) (fun s => .row s.1 3 3 1 (ii ([(0:Int), (-1:Int), (9:Int)] : List Int)) :: .row s.2.2.1 1 3 1 (ii ([v10] : List Int)) :: .row s.2.2.2.1 s.2.2.2.2 3 1 (ii (v3 ++ ([v10] : List Int))) :: .box a0_g 94 [(.slice a0_0_A a0_0_n a0_0_c), (i6 v11)] :: .box x4 25 [(.slice x3.1.A x3.1.n x3.1.c), (.slice x3.2.1.A x3.2.1.n x3.2.1.c), (.slice x3.2.2.A x3.2.2.n x3.2.2.c)] :: .row x3.1.A x3.1.c 3 1 (ii v1) :: .row x3.2.1.A x3.2.1.c 3 1 (ii v2) :: .box x2 25 [(.slice none 0 0), (.slice none 0 0), (.slice none 0 0)] :: .box x1 25 [(.slice a1_0_A a1_0_n a1_0_c), (.slice a1_1_A a1_1_n a1_1_c), (.slice a1_2_A a1_2_n a1_2_c)] :: F) ?_ (fun hD255 => ?_)
        · rintro ⟨x11, x12, x13, x14⟩
          show J _ _ [(4, (pt x2)), (5, (pt x4)), (38, (.slice x14.1 (x3.2.2.n + 1) x14.2)), (39, (.pointer (some ⟨x4, 2, none⟩)))] _ (.row x11 3 3 1 (ii ([(0:Int), (-1:Int), (9:Int)] : List Int)) :: .row x13 1 3 1 (ii ([v10] : List Int)) :: .row x14.1 x14.2 3 1 (ii (v3 ++ ([v10] : List Int))) :: .box a0_g 94 [(.slice a0_0_A a0_0_n a0_0_c), (i6 v11)] :: .box x4 25 [(.slice x3.1.A x3.1.n x3.1.c), (.slice x3.2.1.A x3.2.1.n x3.2.1.c), (.slice x3.2.2.A x3.2.2.n x3.2.2.c)] :: .row x3.1.A x3.1.c 3 1 (ii v1) :: .row x3.2.1.A x3.2.1.c 3 1 (ii v2) :: .box x2 25 [(.slice none 0 0), (.slice none 0 0), (.slice none 0 0)] :: .box x1 25 [(.slice a1_0_A a1_0_n a1_0_c), (.slice a1_1_A a1_1_n a1_1_c), (.slice a1_2_A a1_2_n a1_2_c)] :: F)
          refine d_one 8 (by kernel_rfl) ?_
          · refine o_do rfl (a_storeb 4 rfl sz23 rfl rfl rfl rfl (Nat.le_of_ble_eq_true rfl) rfl) rfl rfl (fun _ w h => (h.drop 5)) (fun _ => ?_)
            refine j_b4 [(.slice x3.1.A x3.1.n x3.1.c), (.slice x3.2.1.A x3.2.1.n x3.2.1.c), (.slice x14.1 (x3.2.2.n + 1) x14.2)] rfl ?_
            refine j_rs (.row x11 3 3 1 (ii ([(0:Int), (-1:Int), (9:Int)] : List Int)) :: .row x13 1 3 1 (ii ([v10] : List Int)) :: .row x14.1 x14.2 3 1 (ii (v3 ++ ([v10] : List Int))) :: .box a0_g 94 [(.slice a0_0_A a0_0_n a0_0_c), (i6 v11)] :: .box x4 25 [(.slice x3.1.A x3.1.n x3.1.c), (.slice x3.2.1.A x3.2.1.n x3.2.1.c), (.slice x14.1 (x3.2.2.n + 1) x14.2)] :: .row x3.1.A x3.1.c 3 1 (ii v1) :: .row x3.2.1.A x3.2.1.c 3 1 (ii v2) :: .box x2 25 [(.slice none 0 0), (.slice none 0 0), (.slice none 0 0)] :: .box x1 25 [(.slice a1_0_A a1_0_n a1_0_c), (.slice a1_1_A a1_1_n a1_1_c), (.slice a1_2_A a1_2_n a1_2_c)] :: F) (fun _ h => h) ?_
            refine j_env [(4, (pt x2)), (5, (pt x4))] ⟨rfl, rfl, trivial⟩ ?_
            exact hD511 (x11, x12, x13, x14)
        refine d_join (σ := (Option Addr) × Unit × (Option Addr)) 3 #[true, true, true, true, true, true, false, false, false] (fun s => [(4, (pt x2)), (5, (pt x4)), (33, (.slice x3.2.2.A x3.2.2.n x3.2.2.c)), (37, (.slice s.2.2 1 1))]) (fun s => .row s.1 3 3 1 (ii ([(0:Int), (-1:Int), (9:Int)] : List Int)) :: .row s.2.2 1 3 1 (ii ([v10] : List Int)) :: .box a0_g 94 [(.slice a0_0_A a0_0_n a0_0_c), (i6 v11)] :: .box x4 25 [(.slice x3.1.A x3.1.n x3.1.c), (.slice x3.2.1.A x3.2.1.n x3.2.1.c), (.slice x3.2.2.A x3.2.2.n x3.2.2.c)] :: .row x3.1.A x3.1.c 3 1 (ii v1) :: .row x3.2.1.A x3.2.1.c 3 1 (ii v2) :: .row x3.2.2.A x3.2.2.c 3 1 (ii v3) :: .box x2 25 [(.slice none 0 0), (.slice none 0 0), (.slice none 0 0)] :: .box x1 25 [(.slice a1_0_A a1_0_n a1_0_c), (.slice a1_1_A a1_1_n a1_1_c), (.slice a1_2_A a1_2_n a1_2_c)] :: F) ?_ (fun hD63 => ?_)
        · rintro ⟨x11, x12, x13⟩
          show J _ _ [(4, (pt x2)), (5, (pt x4)), (33, (.slice x3.2.2.A x3.2.2.n x3.2.2.c)), (37, (.slice x13 1 1))] _ (.row x11 3 3 1 (ii ([(0:Int), (-1:Int), (9:Int)] : List Int)) :: .row x13 1 3 1 (ii ([v10] : List Int)) :: .box a0_g 94 [(.slice a0_0_A a0_0_n a0_0_c), (i6 v11)] :: .box x4 25 [(.slice x3.1.A x3.1.n x3.1.c), (.slice x3.2.1.A x3.2.1.n x3.2.1.c), (.slice x3.2.2.A x3.2.2.n x3.2.2.c)] :: .row x3.1.A x3.1.c 3 1 (ii v1) :: .row x3.2.1.A x3.2.1.c 3 1 (ii v2) :: .row x3.2.2.A x3.2.2.c 3 1 (ii v3) :: .box x2 25 [(.slice none 0 0), (.slice none 0 0), (.slice none 0 0)] :: .box x1 25 [(.slice a1_0_A a1_0_n a1_0_c), (.slice a1_1_A a1_1_n a1_1_c), (.slice a1_2_A a1_2_n a1_2_c)] :: F)
          refine d_one 6 (by kernel_rfl) ?_
          · refine o_do rfl (a_appI (xs := v3) (ys := ([v10] : List Int)) 6 un23 un23 sz3 by3 zr3 rfl rfl rfl rfl rfl rfl rfl rfl rfl x3.2.2.h rfl (Rd.row 1 rfl) c6) rfl rfl (fun x14 w h => h.pick 9 [4, 5, 7, 8] rfl) (fun x14 => ?_)
            refine j_s6 ?_
            refine d_take 7 rfl (q_fieldAddr fi25_2 sz23 rfl rfl rfl) rfl rfl (by kernel_rfl) (by kernel_rfl) (by kernel_rfl) (fun w h => h.pick 9 [4, 5, 7, 8] rfl) ?_
            refine j_rs (.row x11 3 3 1 (ii ([(0:Int), (-1:Int), (9:Int)] : List Int)) :: .row x13 1 3 1 (ii ([v10] : List Int)) :: .row x14.1 x14.2 3 1 (ii (v3 ++ ([v10] : List Int))) :: .box a0_g 94 [(.slice a0_0_A a0_0_n a0_0_c), (i6 v11)] :: .box x4 25 [(.slice x3.1.A x3.1.n x3.1.c), (.slice x3.2.1.A x3.2.1.n x3.2.1.c), (.slice x3.2.2.A x3.2.2.n x3.2.2.c)] :: .row x3.1.A x3.1.c 3 1 (ii v1) :: .row x3.2.1.A x3.2.1.c 3 1 (ii v2) :: .box x2 25 [(.slice none 0 0), (.slice none 0 0), (.slice none 0 0)] :: .box x1 25 [(.slice a1_0_A a1_0_n a1_0_c), (.slice a1_1_A a1_1_n a1_1_c), (.slice a1_2_A a1_2_n a1_2_c)] :: F) (fun _ h => h.pick 9 [0, 1, 6, 2, 3, 4, 5, 7, 8] rfl) ?_
            refine j_env [(4, (pt x2)), (5, (pt x4)), (38, (.slice x14.1 (x3.2.2.n + 1) x14.2)), (39, (.pointer (some ⟨x4, 2, none⟩)))] ⟨rfl, rfl, rfl, rfl, trivial⟩ ?_
            exact hD255 (x11, x12, x13, x14)
        refine d_join (σ := (Option Addr) × Unit) 4 #[true, true, true, true, true, false, false, false, false] (fun s => [(4, (pt x2)), (5, (pt x4)), (33, (.slice x3.2.2.A x3.2.2.n x3.2.2.c)), (36, (i6 v10))]) (fun s => .row s.1 3 3 1 (ii ([(0:Int), (-1:Int), (9:Int)] : List Int)) :: .box a0_g 94 [(.slice a0_0_A a0_0_n a0_0_c), (i6 v11)] :: .box x4 25 [(.slice x3.1.A x3.1.n x3.1.c), (.slice x3.2.1.A x3.2.1.n x3.2.1.c), (.slice x3.2.2.A x3.2.2.n x3.2.2.c)] :: .row x3.1.A x3.1.c 3 1 (ii v1) :: .row x3.2.1.A x3.2.1.c 3 1 (ii v2) :: .row x3.2.2.A x3.2.2.c 3 1 (ii v3) :: .box x2 25 [(.slice none 0 0), (.slice none 0 0), (.slice none 0 0)] :: .box x1 25 [(.slice a1_0_A a1_0_n a1_0_c), (.slice a1_1_A a1_1_n a1_1_c), (.slice a1_2_A a1_2_n a1_2_c)] :: F) ?_ (fun hD31 => ?_)
        · rintro ⟨x11, x12⟩
          show J _ _ [(4, (pt x2)), (5, (pt x4)), (33, (.slice x3.2.2.A x3.2.2.n x3.2.2.c)), (36, (i6 v10))] _ (.row x11 3 3 1 (ii ([(0:Int), (-1:Int), (9:Int)] : List Int)) :: .box a0_g 94 [(.slice a0_0_A a0_0_n a0_0_c), (i6 v11)] :: .box x4 25 [(.slice x3.1.A x3.1.n x3.1.c), (.slice x3.2.1.A x3.2.1.n x3.2.1.c), (.slice x3.2.2.A x3.2.2.n x3.2.2.c)] :: .row x3.1.A x3.1.c 3 1 (ii v1) :: .row x3.2.1.A x3.2.1.c 3 1 (ii v2) :: .row x3.2.2.A x3.2.2.c 3 1 (ii v3) :: .box x2 25 [(.slice none 0 0), (.slice none 0 0), (.slice none 0 0)] :: .box x1 25 [(.slice a1_0_A a1_0_n a1_0_c), (.slice a1_1_A a1_1_n a1_1_c), (.slice a1_2_A a1_2_n a1_2_c)] :: F)
          refine d_one 5 (by kernel_rfl) ?_
          · refine o_do rfl (a_litX (vs := [(i6 v10)]) (ii ([v10] : List Int)) un23 sz3 zr3 rfl rfl rfl rfl rfl rfl rfl rfl rfl) rfl rfl (fun x13 w h => h.pick 9 [4, 5, 7, 8] rfl) (fun x13 => ?_)
            refine j_rs (.row x11 3 3 1 (ii ([(0:Int), (-1:Int), (9:Int)] : List Int)) :: .row x13 1 3 1 (ii ([v10] : List Int)) :: .box a0_g 94 [(.slice a0_0_A a0_0_n a0_0_c), (i6 v11)] :: .box x4 25 [(.slice x3.1.A x3.1.n x3.1.c), (.slice x3.2.1.A x3.2.1.n x3.2.1.c), (.slice x3.2.2.A x3.2.2.n x3.2.2.c)] :: .row x3.1.A x3.1.c 3 1 (ii v1) :: .row x3.2.1.A x3.2.1.c 3 1 (ii v2) :: .row x3.2.2.A x3.2.2.c 3 1 (ii v3) :: .box x2 25 [(.slice none 0 0), (.slice none 0 0), (.slice none 0 0)] :: .box x1 25 [(.slice a1_0_A a1_0_n a1_0_c), (.slice a1_1_A a1_1_n a1_1_c), (.slice a1_2_A a1_2_n a1_2_c)] :: F) (fun _ h => h.pick 9 [1, 0, 2, 3, 4, 5, 6, 7, 8] rfl) ?_
            refine j_env [(4, (pt x2)), (5, (pt x4)), (33, (.slice x3.2.2.A x3.2.2.n x3.2.2.c)), (37, (.slice x13 1 1))] ⟨rfl, rfl, rfl, rfl, trivial⟩ ?_
            exact hD63 (x11, x12, x13)
        refine d_join (σ := (Option Addr) × Unit × (Option Addr)) 4 #[true, false, true, true, true, true, false, false, false] (fun s => [(4, (pt x2)), (5, (pt x4)), (32, (.pointer (some ⟨x4, 2, none⟩))), (37, (.slice s.2.2 1 1))]) (fun s => .row s.1 3 3 1 (ii ([(0:Int), (-1:Int), (9:Int)] : List Int)) :: .row s.2.2 1 3 1 (ii ([v10] : List Int)) :: .box a0_g 94 [(.slice a0_0_A a0_0_n a0_0_c), (i6 v11)] :: .box x4 25 [(.slice x3.1.A x3.1.n x3.1.c), (.slice x3.2.1.A x3.2.1.n x3.2.1.c), (.slice x3.2.2.A x3.2.2.n x3.2.2.c)] :: .row x3.1.A x3.1.c 3 1 (ii v1) :: .row x3.2.1.A x3.2.1.c 3 1 (ii v2) :: .row x3.2.2.A x3.2.2.c 3 1 (ii v3) :: .box x2 25 [(.slice none 0 0), (.slice none 0 0), (.slice none 0 0)] :: .box x1 25 [(.slice a1_0_A a1_0_n a1_0_c), (.slice a1_1_A a1_1_n a1_1_c), (.slice a1_2_A a1_2_n a1_2_c)] :: F) ?_ (fun hD61 => ?_)
        · rintro ⟨x11, x12, x13⟩
          show J _ _ [(4, (pt x2)), (5, (pt x4)), (32, (.pointer (some ⟨x4, 2, none⟩))), (37, (.slice x13 1 1))] _ (.row x11 3 3 1 (ii ([(0:Int), (-1:Int), (9:Int)] : List Int)) :: .row x13 1 3 1 (ii ([v10] : List Int)) :: .box a0_g 94 [(.slice a0_0_A a0_0_n a0_0_c), (i6 v11)] :: .box x4 25 [(.slice x3.1.A x3.1.n x3.1.c), (.slice x3.2.1.A x3.2.1.n x3.2.1.c), (.slice x3.2.2.A x3.2.2.n x3.2.2.c)] :: .row x3.1.A x3.1.c 3 1 (ii v1) :: .row x3.2.1.A x3.2.1.c 3 1 (ii v2) :: .row x3.2.2.A x3.2.2.c 3 1 (ii v3) :: .box x2 25 [(.slice none 0 0), (.slice none 0 0), (.slice none 0 0)] :: .box x1 25 [(.slice a1_0_A a1_0_n a1_0_c), (.slice a1_1_A a1_1_n a1_1_c), (.slice a1_2_A a1_2_n a1_2_c)] :: F)
          refine d_one 1 (by kernel_rfl) ?_
          · refine o_do rfl ((q_loadb 3 rfl ag23 rfl rfl rfl)).acts rfl rfl (fun _ w h => h.pick 9 [4, 5, 7, 8] rfl) (fun _ => ?_)
            refine j_rs (.row x11 3 3 1 (ii ([(0:Int), (-1:Int), (9:Int)] : List Int)) :: .row x13 1 3 1 (ii ([v10] : List Int)) :: .box a0_g 94 [(.slice a0_0_A a0_0_n a0_0_c), (i6 v11)] :: .box x4 25 [(.slice x3.1.A x3.1.n x3.1.c), (.slice x3.2.1.A x3.2.1.n x3.2.1.c), (.slice x3.2.2.A x3.2.2.n x3.2.2.c)] :: .row x3.1.A x3.1.c 3 1 (ii v1) :: .row x3.2.1.A x3.2.1.c 3 1 (ii v2) :: .row x3.2.2.A x3.2.2.c 3 1 (ii v3) :: .box x2 25 [(.slice none 0 0), (.slice none 0 0), (.slice none 0 0)] :: .box x1 25 [(.slice a1_0_A a1_0_n a1_0_c), (.slice a1_1_A a1_1_n a1_1_c), (.slice a1_2_A a1_2_n a1_2_c)] :: F) (fun _ h => h) ?_
            refine j_env [(4, (pt x2)), (5, (pt x4)), (33, (.slice x3.2.2.A x3.2.2.n x3.2.2.c)), (37, (.slice x13 1 1))] ⟨rfl, rfl, rfl, rfl, trivial⟩ ?_
            exact hD63 (x11, x12, x13)
        refine d_join (σ := (Option Addr)) 5 #[true, true, true, true, false, false, false, false, false] (fun s => [(4, (pt x2)), (5, (pt x4)), (33, (.slice x3.2.2.A x3.2.2.n x3.2.2.c)), (34, (pt a0_g)), (35, (.slice s 3 3))]) (fun s => .row s 3 3 1 (ii ([(0:Int), (-1:Int), (9:Int)] : List Int)) :: .box a0_g 94 [(.slice a0_0_A a0_0_n a0_0_c), (i6 v5)] :: .box x4 25 [(.slice x3.1.A x3.1.n x3.1.c), (.slice x3.2.1.A x3.2.1.n x3.2.1.c), (.slice x3.2.2.A x3.2.2.n x3.2.2.c)] :: .row x3.1.A x3.1.c 3 1 (ii v1) :: .row x3.2.1.A x3.2.1.c 3 1 (ii v2) :: .row x3.2.2.A x3.2.2.c 3 1 (ii v3) :: .box x2 25 [(.slice none 0 0), (.slice none 0 0), (.slice none 0 0)] :: .box x1 25 [(.slice a1_0_A a1_0_n a1_0_c), (.slice a1_1_A a1_1_n a1_1_c), (.slice a1_2_A a1_2_n a1_2_c)] :: F) ?_ (fun hD15 => ?_)
        · rintro x11
          show J _ _ [(4, (pt x2)), (5, (pt x4)), (33, (.slice x3.2.2.A x3.2.2.n x3.2.2.c)), (34, (pt a0_g)), (35, (.slice x11 3 3))] _ (.row x11 3 3 1 (ii ([(0:Int), (-1:Int), (9:Int)] : List Int)) :: .box a0_g 94 [(.slice a0_0_A a0_0_n a0_0_c), (i6 v5)] :: .box x4 25 [(.slice x3.1.A x3.1.n x3.1.c), (.slice x3.2.1.A x3.2.1.n x3.2.1.c), (.slice x3.2.2.A x3.2.2.n x3.2.2.c)] :: .row x3.1.A x3.1.c 3 1 (ii v1) :: .row x3.2.1.A x3.2.1.c 3 1 (ii v2) :: .row x3.2.2.A x3.2.2.c 3 1 (ii v3) :: .box x2 25 [(.slice none 0 0), (.slice none 0 0), (.slice none 0 0)] :: .box x1 25 [(.slice a1_0_A a1_0_n a1_0_c), (.slice a1_1_A a1_1_n a1_1_c), (.slice a1_2_A a1_2_n a1_2_c)] :: F)
          refine d_one 4 (by kernel_rfl) ?_
          · refine j_rs (.box a0_g 94 [(.slice a0_0_A a0_0_n a0_0_c), (i6 v5)] :: .row x11 3 3 1 (ii ([(0:Int), (-1:Int), (9:Int)] : List Int)) :: .box x4 25 [(.slice x3.1.A x3.1.n x3.1.c), (.slice x3.2.1.A x3.2.1.n x3.2.1.c), (.slice x3.2.2.A x3.2.2.n x3.2.2.c)] :: .row x3.1.A x3.1.c 3 1 (ii v1) :: .row x3.2.1.A x3.2.1.c 3 1 (ii v2) :: .row x3.2.2.A x3.2.2.c 3 1 (ii v3) :: .box x2 25 [(.slice none 0 0), (.slice none 0 0), (.slice none 0 0)] :: .box x1 25 [(.slice a1_0_A a1_0_n a1_0_c), (.slice a1_1_A a1_1_n a1_1_c), (.slice a1_2_A a1_2_n a1_2_c)] :: F) (fun _ h => h.pick 8 [1, 0, 2, 3, 4, 5, 6, 7] rfl) ?_
            refine o_do rfl (a_call ok55 rfl rfl rfl rfl (fun w hm => spec_l13Rd_num.calls K a0_g a0_0 a0_0_A a0_0_n a0_0_c v5 ([(0:Int), (-1:Int), (9:Int)] : List Int) x11 3 3 hm a0_0_h (Rd.drop 7 a0_0_R) rfl (Rd.row 0 rfl) hb5)) rfl rfl (fun x12 w h => h.pick 8 [3, 4, 6, 7] rfl) (fun x12 => ?_)
            refine j_rs (.row x11 3 3 1 (ii ([(0:Int), (-1:Int), (9:Int)] : List Int)) :: .box a0_g 94 [(.slice a0_0_A a0_0_n a0_0_c), (i6 v11)] :: .box x4 25 [(.slice x3.1.A x3.1.n x3.1.c), (.slice x3.2.1.A x3.2.1.n x3.2.1.c), (.slice x3.2.2.A x3.2.2.n x3.2.2.c)] :: .row x3.1.A x3.1.c 3 1 (ii v1) :: .row x3.2.1.A x3.2.1.c 3 1 (ii v2) :: .row x3.2.2.A x3.2.2.c 3 1 (ii v3) :: .box x2 25 [(.slice none 0 0), (.slice none 0 0), (.slice none 0 0)] :: .box x1 25 [(.slice a1_0_A a1_0_n a1_0_c), (.slice a1_1_A a1_1_n a1_1_c), (.slice a1_2_A a1_2_n a1_2_c)] :: F) (fun _ h => h.pick 8 [1, 0, 2, 3, 4, 5, 6, 7] rfl) ?_
            refine j_env [(4, (pt x2)), (5, (pt x4)), (33, (.slice x3.2.2.A x3.2.2.n x3.2.2.c)), (36, (i6 v10))] ⟨rfl, rfl, rfl, rfl, trivial⟩ ?_
            exact hD31 (x11, x12)
        refine d_join (σ := (Option Addr) × Unit) 5 #[true, false, true, true, true, false, false, false, false] (fun s => [(4, (pt x2)), (5, (pt x4)), (32, (.pointer (some ⟨x4, 2, none⟩))), (36, (i6 v10))]) (fun s => .row s.1 3 3 1 (ii ([(0:Int), (-1:Int), (9:Int)] : List Int)) :: .box a0_g 94 [(.slice a0_0_A a0_0_n a0_0_c), (i6 v11)] :: .box x4 25 [(.slice x3.1.A x3.1.n x3.1.c), (.slice x3.2.1.A x3.2.1.n x3.2.1.c), (.slice x3.2.2.A x3.2.2.n x3.2.2.c)] :: .row x3.1.A x3.1.c 3 1 (ii v1) :: .row x3.2.1.A x3.2.1.c 3 1 (ii v2) :: .row x3.2.2.A x3.2.2.c 3 1 (ii v3) :: .box x2 25 [(.slice none 0 0), (.slice none 0 0), (.slice none 0 0)] :: .box x1 25 [(.slice a1_0_A a1_0_n a1_0_c), (.slice a1_1_A a1_1_n a1_1_c), (.slice a1_2_A a1_2_n a1_2_c)] :: F) ?_ (fun hD29 => ?_)
        · rintro ⟨x11, x12⟩
          show J _ _ [(4, (pt x2)), (5, (pt x4)), (32, (.pointer (some ⟨x4, 2, none⟩))), (36, (i6 v10))] _ (.row x11 3 3 1 (ii ([(0:Int), (-1:Int), (9:Int)] : List Int)) :: .box a0_g 94 [(.slice a0_0_A a0_0_n a0_0_c), (i6 v11)] :: .box x4 25 [(.slice x3.1.A x3.1.n x3.1.c), (.slice x3.2.1.A x3.2.1.n x3.2.1.c), (.slice x3.2.2.A x3.2.2.n x3.2.2.c)] :: .row x3.1.A x3.1.c 3 1 (ii v1) :: .row x3.2.1.A x3.2.1.c 3 1 (ii v2) :: .row x3.2.2.A x3.2.2.c 3 1 (ii v3) :: .box x2 25 [(.slice none 0 0), (.slice none 0 0), (.slice none 0 0)] :: .box x1 25 [(.slice a1_0_A a1_0_n a1_0_c), (.slice a1_1_A a1_1_n a1_1_c), (.slice a1_2_A a1_2_n a1_2_c)] :: F)
          refine d_two 1 5 (by kernel_rfl) ?_ ?_
          · refine o_do rfl ((q_loadb 2 rfl ag23 rfl rfl rfl)).acts rfl rfl (fun _ w h => h.pick 8 [3, 4, 6, 7] rfl) (fun _ => ?_)
            refine j_rs (.row x11 3 3 1 (ii ([(0:Int), (-1:Int), (9:Int)] : List Int)) :: .box a0_g 94 [(.slice a0_0_A a0_0_n a0_0_c), (i6 v11)] :: .box x4 25 [(.slice x3.1.A x3.1.n x3.1.c), (.slice x3.2.1.A x3.2.1.n x3.2.1.c), (.slice x3.2.2.A x3.2.2.n x3.2.2.c)] :: .row x3.1.A x3.1.c 3 1 (ii v1) :: .row x3.2.1.A x3.2.1.c 3 1 (ii v2) :: .row x3.2.2.A x3.2.2.c 3 1 (ii v3) :: .box x2 25 [(.slice none 0 0), (.slice none 0 0), (.slice none 0 0)] :: .box x1 25 [(.slice a1_0_A a1_0_n a1_0_c), (.slice a1_1_A a1_1_n a1_1_c), (.slice a1_2_A a1_2_n a1_2_c)] :: F) (fun _ h => h) ?_
            refine j_env [(4, (pt x2)), (5, (pt x4)), (33, (.slice x3.2.2.A x3.2.2.n x3.2.2.c)), (36, (i6 v10))] ⟨rfl, rfl, rfl, rfl, trivial⟩ ?_
            exact hD31 (x11, x12)
          · refine o_do rfl (a_litX (vs := [(i6 v10)]) (ii ([v10] : List Int)) un23 sz3 zr3 rfl rfl rfl rfl rfl rfl rfl rfl rfl) rfl rfl (fun x13 w h => h.pick 9 [4, 5, 7, 8] rfl) (fun x13 => ?_)
            refine j_rs (.row x11 3 3 1 (ii ([(0:Int), (-1:Int), (9:Int)] : List Int)) :: .row x13 1 3 1 (ii ([v10] : List Int)) :: .box a0_g 94 [(.slice a0_0_A a0_0_n a0_0_c), (i6 v11)] :: .box x4 25 [(.slice x3.1.A x3.1.n x3.1.c), (.slice x3.2.1.A x3.2.1.n x3.2.1.c), (.slice x3.2.2.A x3.2.2.n x3.2.2.c)] :: .row x3.1.A x3.1.c 3 1 (ii v1) :: .row x3.2.1.A x3.2.1.c 3 1 (ii v2) :: .row x3.2.2.A x3.2.2.c 3 1 (ii v3) :: .box x2 25 [(.slice none 0 0), (.slice none 0 0), (.slice none 0 0)] :: .box x1 25 [(.slice a1_0_A a1_0_n a1_0_c), (.slice a1_1_A a1_1_n a1_1_c), (.slice a1_2_A a1_2_n a1_2_c)] :: F) (fun _ h => h.pick 9 [1, 0, 2, 3, 4, 5, 6, 7, 8] rfl) ?_
            refine j_env [(4, (pt x2)), (5, (pt x4)), (32, (.pointer (some ⟨x4, 2, none⟩))), (37, (.slice x13 1 1))] ⟨rfl, rfl, rfl, rfl, trivial⟩ ?_
            exact hD61 (x11, x12, x13)
        refine d_join (σ := Unit) 6 #[true, true, true, false, false, false, false, false, false] (fun s => [(4, (pt x2)), (5, (pt x4)), (33, (.slice x3.2.2.A x3.2.2.n x3.2.2.c)), (34, (pt a0_g))]) (fun s => .box a0_g 94 [(.slice a0_0_A a0_0_n a0_0_c), (i6 v5)] :: .box x4 25 [(.slice x3.1.A x3.1.n x3.1.c), (.slice x3.2.1.A x3.2.1.n x3.2.1.c), (.slice x3.2.2.A x3.2.2.n x3.2.2.c)] :: .row x3.1.A x3.1.c 3 1 (ii v1) :: .row x3.2.1.A x3.2.1.c 3 1 (ii v2) :: .row x3.2.2.A x3.2.2.c 3 1 (ii v3) :: .box x2 25 [(.slice none 0 0), (.slice none 0 0), (.slice none 0 0)] :: .box x1 25 [(.slice a1_0_A a1_0_n a1_0_c), (.slice a1_1_A a1_1_n a1_1_c), (.slice a1_2_A a1_2_n a1_2_c)] :: F) ?_ (fun hD7 => ?_)
        · rintro _
          show J _ _ [(4, (pt x2)), (5, (pt x4)), (33, (.slice x3.2.2.A x3.2.2.n x3.2.2.c)), (34, (pt a0_g))] _ (.box a0_g 94 [(.slice a0_0_A a0_0_n a0_0_c), (i6 v5)] :: .box x4 25 [(.slice x3.1.A x3.1.n x3.1.c), (.slice x3.2.1.A x3.2.1.n x3.2.1.c), (.slice x3.2.2.A x3.2.2.n x3.2.2.c)] :: .row x3.1.A x3.1.c 3 1 (ii v1) :: .row x3.2.1.A x3.2.1.c 3 1 (ii v2) :: .row x3.2.2.A x3.2.2.c 3 1 (ii v3) :: .box x2 25 [(.slice none 0 0), (.slice none 0 0), (.slice none 0 0)] :: .box x1 25 [(.slice a1_0_A a1_0_n a1_0_c), (.slice a1_1_A a1_1_n a1_1_c), (.slice a1_2_A a1_2_n a1_2_c)] :: F)
          refine d_one 3 (by kernel_rfl) ?_
          · refine o_do rfl (a_litX (vs := [(i6 (0:Int)), (i6 (-1:Int)), (i6 (9:Int))]) (ii ([(0:Int), (-1:Int), (9:Int)] : List Int)) un23 sz3 zr3 rfl rfl rfl rfl rfl rfl rfl rfl rfl) rfl rfl (fun x11 w h => h.pick 8 [3, 4, 6, 7] rfl) (fun x11 => ?_)
            refine j_rs (.row x11 3 3 1 (ii ([(0:Int), (-1:Int), (9:Int)] : List Int)) :: .box a0_g 94 [(.slice a0_0_A a0_0_n a0_0_c), (i6 v5)] :: .box x4 25 [(.slice x3.1.A x3.1.n x3.1.c), (.slice x3.2.1.A x3.2.1.n x3.2.1.c), (.slice x3.2.2.A x3.2.2.n x3.2.2.c)] :: .row x3.1.A x3.1.c 3 1 (ii v1) :: .row x3.2.1.A x3.2.1.c 3 1 (ii v2) :: .row x3.2.2.A x3.2.2.c 3 1 (ii v3) :: .box x2 25 [(.slice none 0 0), (.slice none 0 0), (.slice none 0 0)] :: .box x1 25 [(.slice a1_0_A a1_0_n a1_0_c), (.slice a1_1_A a1_1_n a1_1_c), (.slice a1_2_A a1_2_n a1_2_c)] :: F) (fun _ h => h) ?_
            refine j_env [(4, (pt x2)), (5, (pt x4)), (33, (.slice x3.2.2.A x3.2.2.n x3.2.2.c)), (34, (pt a0_g)), (35, (.slice x11 3 3))] ⟨rfl, rfl, rfl, rfl, rfl, trivial⟩ ?_
            exact hD15 x11
        refine d_join (σ := (Option Addr)) 6 #[true, false, true, true, false, false, false, false, false] (fun s => [(4, (pt x2)), (5, (pt x4)), (32, (.pointer (some ⟨x4, 2, none⟩))), (34, (pt a0_g)), (35, (.slice s 3 3))]) (fun s => .row s 3 3 1 (ii ([(0:Int), (-1:Int), (9:Int)] : List Int)) :: .box a0_g 94 [(.slice a0_0_A a0_0_n a0_0_c), (i6 v5)] :: .box x4 25 [(.slice x3.1.A x3.1.n x3.1.c), (.slice x3.2.1.A x3.2.1.n x3.2.1.c), (.slice x3.2.2.A x3.2.2.n x3.2.2.c)] :: .row x3.1.A x3.1.c 3 1 (ii v1) :: .row x3.2.1.A x3.2.1.c 3 1 (ii v2) :: .row x3.2.2.A x3.2.2.c 3 1 (ii v3) :: .box x2 25 [(.slice none 0 0), (.slice none 0 0), (.slice none 0 0)] :: .box x1 25 [(.slice a1_0_A a1_0_n a1_0_c), (.slice a1_1_A a1_1_n a1_1_c), (.slice a1_2_A a1_2_n a1_2_c)] :: F) ?_ (fun hD13 => ?_)
        · rintro x11
          show J _ _ [(4, (pt x2)), (5, (pt x4)), (32, (.pointer (some ⟨x4, 2, none⟩))), (34, (pt a0_g)), (35, (.slice x11 3 3))] _ (.row x11 3 3 1 (ii ([(0:Int), (-1:Int), (9:Int)] : List Int)) :: .box a0_g 94 [(.slice a0_0_A a0_0_n a0_0_c), (i6 v5)] :: .box x4 25 [(.slice x3.1.A x3.1.n x3.1.c), (.slice x3.2.1.A x3.2.1.n x3.2.1.c), (.slice x3.2.2.A x3.2.2.n x3.2.2.c)] :: .row x3.1.A x3.1.c 3 1 (ii v1) :: .row x3.2.1.A x3.2.1.c 3 1 (ii v2) :: .row x3.2.2.A x3.2.2.c 3 1 (ii v3) :: .box x2 25 [(.slice none 0 0), (.slice none 0 0), (.slice none 0 0)] :: .box x1 25 [(.slice a1_0_A a1_0_n a1_0_c), (.slice a1_1_A a1_1_n a1_1_c), (.slice a1_2_A a1_2_n a1_2_c)] :: F)
          refine d_two 1 4 (by kernel_rfl) ?_ ?_
          · refine o_do rfl ((q_loadb 2 rfl ag23 rfl rfl rfl)).acts rfl rfl (fun _ w h => h.pick 8 [3, 4, 6, 7] rfl) (fun _ => ?_)
            refine j_rs (.row x11 3 3 1 (ii ([(0:Int), (-1:Int), (9:Int)] : List Int)) :: .box a0_g 94 [(.slice a0_0_A a0_0_n a0_0_c), (i6 v5)] :: .box x4 25 [(.slice x3.1.A x3.1.n x3.1.c), (.slice x3.2.1.A x3.2.1.n x3.2.1.c), (.slice x3.2.2.A x3.2.2.n x3.2.2.c)] :: .row x3.1.A x3.1.c 3 1 (ii v1) :: .row x3.2.1.A x3.2.1.c 3 1 (ii v2) :: .row x3.2.2.A x3.2.2.c 3 1 (ii v3) :: .box x2 25 [(.slice none 0 0), (.slice none 0 0), (.slice none 0 0)] :: .box x1 25 [(.slice a1_0_A a1_0_n a1_0_c), (.slice a1_1_A a1_1_n a1_1_c), (.slice a1_2_A a1_2_n a1_2_c)] :: F) (fun _ h => h) ?_
            refine j_env [(4, (pt x2)), (5, (pt x4)), (33, (.slice x3.2.2.A x3.2.2.n x3.2.2.c)), (34, (pt a0_g)), (35, (.slice x11 3 3))] ⟨rfl, rfl, rfl, rfl, rfl, trivial⟩ ?_
            exact hD15 x11
          · refine j_rs (.box a0_g 94 [(.slice a0_0_A a0_0_n a0_0_c), (i6 v5)] :: .row x11 3 3 1 (ii ([(0:Int), (-1:Int), (9:Int)] : List Int)) :: .box x4 25 [(.slice x3.1.A x3.1.n x3.1.c), (.slice x3.2.1.A x3.2.1.n x3.2.1.c), (.slice x3.2.2.A x3.2.2.n x3.2.2.c)] :: .row x3.1.A x3.1.c 3 1 (ii v1) :: .row x3.2.1.A x3.2.1.c 3 1 (ii v2) :: .row x3.2.2.A x3.2.2.c 3 1 (ii v3) :: .box x2 25 [(.slice none 0 0), (.slice none 0 0), (.slice none 0 0)] :: .box x1 25 [(.slice a1_0_A a1_0_n a1_0_c), (.slice a1_1_A a1_1_n a1_1_c), (.slice a1_2_A a1_2_n a1_2_c)] :: F) (fun _ h => h.pick 8 [1, 0, 2, 3, 4, 5, 6, 7] rfl) ?_
            refine o_do rfl (a_call ok55 rfl rfl rfl rfl (fun w hm => spec_l13Rd_num.calls K a0_g a0_0 a0_0_A a0_0_n a0_0_c v5 ([(0:Int), (-1:Int), (9:Int)] : List Int) x11 3 3 hm a0_0_h (Rd.drop 7 a0_0_R) rfl (Rd.row 0 rfl) hb5)) rfl rfl (fun x12 w h => h.pick 8 [3, 4, 6, 7] rfl) (fun x12 => ?_)
            refine j_rs (.row x11 3 3 1 (ii ([(0:Int), (-1:Int), (9:Int)] : List Int)) :: .box a0_g 94 [(.slice a0_0_A a0_0_n a0_0_c), (i6 v11)] :: .box x4 25 [(.slice x3.1.A x3.1.n x3.1.c), (.slice x3.2.1.A x3.2.1.n x3.2.1.c), (.slice x3.2.2.A x3.2.2.n x3.2.2.c)] :: .row x3.1.A x3.1.c 3 1 (ii v1) :: .row x3.2.1.A x3.2.1.c 3 1 (ii v2) :: .row x3.2.2.A x3.2.2.c 3 1 (ii v3) :: .box x2 25 [(.slice none 0 0), (.slice none 0 0), (.slice none 0 0)] :: .box x1 25 [(.slice a1_0_A a1_0_n a1_0_c), (.slice a1_1_A a1_1_n a1_1_c), (.slice a1_2_A a1_2_n a1_2_c)] :: F) (fun _ h => h.pick 8 [1, 0, 2, 3, 4, 5, 6, 7] rfl) ?_
            refine j_env [(4, (pt x2)), (5, (pt x4)), (32, (.pointer (some ⟨x4, 2, none⟩))), (36, (i6 v10))] ⟨rfl, rfl, rfl, rfl, trivial⟩ ?_
            exact hD29 (x11, x12)
        refine d_two 1 3 (by kernel_rfl) ?_ ?_
        · refine o_do rfl ((q_loadb 1 rfl ag23 rfl rfl rfl)).acts rfl rfl (fun _ w h => h.pick 7 [2, 3, 5, 6] rfl) (fun _ => ?_)
          refine j_rs (.box a0_g 94 [(.slice a0_0_A a0_0_n a0_0_c), (i6 v5)] :: .box x4 25 [(.slice x3.1.A x3.1.n x3.1.c), (.slice x3.2.1.A x3.2.1.n x3.2.1.c), (.slice x3.2.2.A x3.2.2.n x3.2.2.c)] :: .row x3.1.A x3.1.c 3 1 (ii v1) :: .row x3.2.1.A x3.2.1.c 3 1 (ii v2) :: .row x3.2.2.A x3.2.2.c 3 1 (ii v3) :: .box x2 25 [(.slice none 0 0), (.slice none 0 0), (.slice none 0 0)] :: .box x1 25 [(.slice a1_0_A a1_0_n a1_0_c), (.slice a1_1_A a1_1_n a1_1_c), (.slice a1_2_A a1_2_n a1_2_c)] :: F) (fun _ h => h) ?_
          refine j_env [(4, (pt x2)), (5, (pt x4)), (33, (.slice x3.2.2.A x3.2.2.n x3.2.2.c)), (34, (pt a0_g))] ⟨rfl, rfl, rfl, rfl, trivial⟩ ?_
          exact hD7 ()
        · refine o_do rfl (a_litX (vs := [(i6 (0:Int)), (i6 (-1:Int)), (i6 (9:Int))]) (ii ([(0:Int), (-1:Int), (9:Int)] : List Int)) un23 sz3 zr3 rfl rfl rfl rfl rfl rfl rfl rfl rfl) rfl rfl (fun x11 w h => h.pick 8 [3, 4, 6, 7] rfl) (fun x11 => ?_)
          refine j_rs (.row x11 3 3 1 (ii ([(0:Int), (-1:Int), (9:Int)] : List Int)) :: .box a0_g 94 [(.slice a0_0_A a0_0_n a0_0_c), (i6 v5)] :: .box x4 25 [(.slice x3.1.A x3.1.n x3.1.c), (.slice x3.2.1.A x3.2.1.n x3.2.1.c), (.slice x3.2.2.A x3.2.2.n x3.2.2.c)] :: .row x3.1.A x3.1.c 3 1 (ii v1) :: .row x3.2.1.A x3.2.1.c 3 1 (ii v2) :: .row x3.2.2.A x3.2.2.c 3 1 (ii v3) :: .box x2 25 [(.slice none 0 0), (.slice none 0 0), (.slice none 0 0)] :: .box x1 25 [(.slice a1_0_A a1_0_n a1_0_c), (.slice a1_1_A a1_1_n a1_1_c), (.slice a1_2_A a1_2_n a1_2_c)] :: F) (fun _ h => h) ?_
          refine j_env [(4, (pt x2)), (5, (pt x4)), (32, (.pointer (some ⟨x4, 2, none⟩))), (34, (pt a0_g)), (35, (.slice x11 3 3))] ⟨rfl, rfl, rfl, rfl, rfl, trivial⟩ ?_
          exact hD13 x11
      · refine j_false rfl (beq_f c5) ?_
        refine j_seq ?_
        refine j_region ?_
        refine r_q (q_eql rfl rfl rfl) rfl rfl ?_
        refine r_q (q_assign rfl rfl) rfl rfl ?_
        refine r_nil ?_
        refine j_then ?_
        rcases of_if h with ⟨c7, h⟩ | ⟨c7, h⟩
        · refine j_true rfl (beq_t c7) ?_
          refine j_region ?_
          refine r_do (a_litX (vs := []) (ii ([] : List Int)) un23 sz3 zr3 rfl rfl rfl rfl rfl rfl rfl rfl rfl) rfl rfl (fun x15 => ?_)
          refine r_q (q_fieldAddr fi25_2 sz23 rfl rfl rfl) rfl rfl ?_
          refine r_do (a_storeb 2 rfl sz23 rfl rfl rfl rfl (Nat.le_of_ble_eq_true rfl) rfl) rfl rfl (fun _ => ?_)
          refine j_b2 [(.slice x3.1.A x3.1.n x3.1.c), (.slice x3.2.1.A x3.2.1.n x3.2.1.c), (.slice x15 0 0)] rfl ?_
          refine r_nil ?_
          refine j_in ?_
          refine j_then ?_
          refine j_seq ?_
          refine j_region ?_
          refine r_q (q_loadb_agg 2 rfl ag25 sz25 rfl rfl rfl rfl) rfl rfl ?_
          refine r_do (a_storeb 6 rfl sz25 rfl rfl rfl rfl (Nat.le_of_ble_eq_true rfl) rfl) rfl rfl (fun _ => ?_)
          refine j_b6 [(.slice x3.1.A x3.1.n x3.1.c), (.slice x3.2.1.A x3.2.1.n x3.2.1.c), (.slice x15 0 0)] rfl ?_
          refine r_nil ?_
          refine j_then ?_
          refine j_ret ?_
          cases h
          exact j_return rfl (ResOf.cell 6 rfl rfl ag25 sz25 ResOf.nil) rfl (fun w h => ⟨(⟨x3.1.A, x3.1.n, x3.1.c, x3.1.h⟩, ⟨x3.2.1.A, x3.2.1.n, x3.2.1.c, x3.2.1.h⟩, ⟨x15, 0, 0, rfl⟩), rfl, h.pick 8 [3, 4, 0, 1] rfl⟩)
        · refine j_false rfl (beq_f c7) ?_
          refine j_skip ?_
          refine j_in ?_
          refine j_then ?_
          refine j_seq ?_
          refine j_region ?_
          refine r_q (q_loadb_agg 1 rfl ag25 sz25 rfl rfl rfl rfl) rfl rfl ?_
          refine r_do (a_storeb 5 rfl sz25 rfl rfl rfl rfl (Nat.le_of_ble_eq_true rfl) rfl) rfl rfl (fun _ => ?_)
          refine j_b5 [(.slice x3.1.A x3.1.n x3.1.c), (.slice x3.2.1.A x3.2.1.n x3.2.1.c), (.slice x3.2.2.A x3.2.2.n x3.2.2.c)] rfl ?_
          refine r_nil ?_
          refine j_then ?_
          refine j_ret ?_
          cases h
          exact j_return rfl (ResOf.cell 5 rfl rfl ag25 sz25 ResOf.nil) rfl (fun w h => ⟨(⟨x3.1.A, x3.1.n, x3.1.c, x3.1.h⟩, ⟨x3.2.1.A, x3.2.1.n, x3.2.1.c, x3.2.1.h⟩, ⟨x3.2.2.A, x3.2.2.n, x3.2.2.c, x3.2.2.h⟩), rfl, h.pick 7 [2, 3, 4, 0] rfl⟩)

theorem spec_l3Wrong.calls (K : Nat) (a0_g : Nat) (a0_0 : List Int) (a0_0_A : Option Addr) (a0_0_n a0_0_c : Nat) (a0_1 : Int) (a1_0 : List Int) (a1_0_A : Option Addr) (a1_0_n a1_0_c : Nat) (a1_1 : List Int) (a1_1_A : Option Addr) (a1_1_n a1_1_c : Nat) (a1_2 : List Int) (a1_2_A : Option Addr) (a1_2_n a1_2_c : Nat) (a1_3 : List Int) (a1_3_A : Option Addr) (a1_3_n a1_3_c : Nat) {w0 w : World} {F : List Res} {r1 : List Int} {r2 : List Int} {r3 : List Int} {r4 : List Int} {r5 : Int} (hm : Mem w0 (.box a0_g 94 [.slice a0_0_A a0_0_n a0_0_c, i6 a0_1] :: F) w) (a0_0_h : a0_0.length = a0_0_n) (a0_0_R : Rd w0 F a0_0_A (ints .u8 a0_0)) (a1_0_h : a1_0.length = a1_0_n) (a1_0_R : Rd w0 F a1_0_A (ii a1_0)) (a1_1_h : a1_1.length = a1_1_n) (a1_1_R : Rd w0 F a1_1_A (ii a1_1)) (a1_2_h : a1_2.length = a1_2_n) (a1_2_R : Rd w0 F a1_2_A (ii a1_2)) (a1_3_h : a1_3.length = a1_3_n) (a1_3_R : Rd w0 F a1_3_A (ii a1_3)) (h : spec_l3Wrong.f K a0_0 a0_1 a1_0 a1_1 a1_2 a1_3 = some (r1, r2, r3, r4, r5)) :
    Calls Try.prog 87 (List.toArray [pt a0_g, .agg (List.toArray [.slice a1_0_A a1_0_n a1_0_c, .slice a1_1_A a1_1_n a1_1_c, .slice a1_2_A a1_2_n a1_2_c, .slice a1_3_A a1_3_n a1_3_c])]) w fun e w' => ∃ x : (Sl r1.length) × (Sl r2.length) × (Sl r3.length) × (Sl r4.length), e = .returned (.agg (List.toArray [.slice x.1.A x.1.n x.1.c, .slice x.2.1.A x.2.1.n x.2.1.c, .slice x.2.2.1.A x.2.2.1.n x.2.2.1.c, .slice x.2.2.2.A x.2.2.2.n x.2.2.2.c])) ∧ Mem w0 (.row x.1.A x.1.c 3 1 (ii r1) :: .row x.2.1.A x.2.1.c 3 1 (ii r2) :: .row x.2.2.1.A x.2.2.1.c 3 1 (ii r3) :: .row x.2.2.2.A x.2.2.2.c 3 1 (ii r4) :: .box a0_g 94 [.slice a0_0_A a0_0_n a0_0_c, i6 r5] :: F) w' := by
  unfold spec_l3Wrong.f at h
  refine calls_of_J (n := 38) Try.func87 rfl rfl rfl hm ?_
  refine j_seq ?_
  refine j_region ?_
  refine r_do (a_box rfl rfl) rfl rfl (fun x1 => ?_)
  refine r_do (a_alloc zr27 rfl) rfl rfl (fun x2 => ?_)
  refine r_nil ?_
  refine j_then ?_
  refine j_seq ?_
  refine j_region ?_
  refine r_q (q_loadb_agg 1 rfl ag27 sz27 rfl rfl rfl rfl) rfl rfl ?_
  obtain ⟨v1, v2, v3, v4, hb1, h⟩ := of_b4 h
  refine r_do (a_call ok61 rfl rfl rfl rfl (fun w hm => spec_l3Copy.calls K a1_0 a1_0_A a1_0_n a1_0_c a1_1 a1_1_A a1_1_n a1_1_c a1_2 a1_2_A a1_2_n a1_2_c a1_3 a1_3_A a1_3_n a1_3_c hm a1_0_h (Rd.drop 3 a1_0_R) a1_1_h (Rd.drop 3 a1_1_R) a1_2_h (Rd.drop 3 a1_2_R) a1_3_h (Rd.drop 3 a1_3_R) hb1)) rfl rfl (fun x3 => ?_)
  refine r_do (a_alloc zr27 rfl) rfl rfl (fun x4 => ?_)
  refine r_do (a_storeb 0 rfl sz27 rfl rfl rfl rfl (Nat.le_of_ble_eq_true rfl) rfl) rfl rfl (fun _ => ?_)
  refine j_b0 [(.slice x3.1.A x3.1.n x3.1.c), (.slice x3.2.1.A x3.2.1.n x3.2.1.c), (.slice x3.2.2.1.A x3.2.2.1.n x3.2.2.1.c), (.slice x3.2.2.2.A x3.2.2.2.n x3.2.2.2.c)] rfl ?_
  refine r_nil ?_
  refine j_then ?_
  refine j_seq ?_
  refine j_seq ?_
  refine j_region ?_
  refine r_q (q_move rfl rfl) rfl rfl ?_
  obtain ⟨v5, v6, hb2, h⟩ := of_b2 h
  refine j_rs (.box a0_g 94 [(.slice a0_0_A a0_0_n a0_0_c), (i6 a0_1)] :: .box x4 27 [(.slice x3.1.A x3.1.n x3.1.c), (.slice x3.2.1.A x3.2.1.n x3.2.1.c), (.slice x3.2.2.1.A x3.2.2.1.n x3.2.2.1.c), (.slice x3.2.2.2.A x3.2.2.2.n x3.2.2.2.c)] :: .row x3.1.A x3.1.c 3 1 (ii v1) :: .row x3.2.1.A x3.2.1.c 3 1 (ii v2) :: .row x3.2.2.1.A x3.2.2.1.c 3 1 (ii v3) :: .row x3.2.2.2.A x3.2.2.2.c 3 1 (ii v4) :: .box x2 27 [(.slice none 0 0), (.slice none 0 0), (.slice none 0 0), (.slice none 0 0)] :: .box x1 27 [(.slice a1_0_A a1_0_n a1_0_c), (.slice a1_1_A a1_1_n a1_1_c), (.slice a1_2_A a1_2_n a1_2_c), (.slice a1_3_A a1_3_n a1_3_c)] :: F) (fun _ h => h.pick 8 [7, 0, 1, 2, 3, 4, 5, 6] rfl) ?_
  refine r_do (a_call ok89 rfl rfl rfl rfl (fun w hm => spec_l13Rd_pick.calls K a0_g a0_0 a0_0_A a0_0_n a0_0_c a0_1 (20:Int) hm a0_0_h (Rd.drop 7 a0_0_R) hb2)) rfl rfl (fun x5 => ?_)
  refine r_nil ?_
  refine j_then ?_
  refine j_block ?_
  refine j_seq ?_
  refine j_region ?_
  refine r_q (q_eql rfl rfl rfl) rfl rfl ?_
  refine r_q (q_assign rfl rfl) rfl rfl ?_
  refine r_nil ?_
  refine j_then ?_
  rcases of_if h with ⟨c1, h⟩ | ⟨c1, h⟩
  · refine j_true rfl (beq_t c1) ?_
    obtain ⟨v7, v8, hb3, h⟩ := of_b2 h
    obtain ⟨v9, v10, hb4, h⟩ := of_b2 h
    obtain ⟨c2, h⟩ := of_guard h
    refine j_draw (.box x4 27 [(.slice x3.1.A x3.1.n x3.1.c), (.slice x3.2.1.A x3.2.1.n x3.2.1.c), (.slice x3.2.2.1.A x3.2.2.1.n x3.2.2.1.c), (.slice x3.2.2.2.A x3.2.2.2.n x3.2.2.2.c)] :: .row x3.1.A x3.1.c 3 1 (ii v1) :: .row x3.2.1.A x3.2.1.c 3 1 (ii v2) :: .row x3.2.2.1.A x3.2.2.1.c 3 1 (ii v3) :: .box x2 27 [(.slice none 0 0), (.slice none 0 0), (.slice none 0 0), (.slice none 0 0)] :: .box x1 27 [(.slice a1_0_A a1_0_n a1_0_c), (.slice a1_1_A a1_1_n a1_1_c), (.slice a1_2_A a1_2_n a1_2_c), (.slice a1_3_A a1_3_n a1_3_c)] :: F) 12 follows_any rfl ?_
    refine d_take 0 rfl (q_fieldAddr fi27_1 sz23 rfl rfl rfl) rfl rfl (by kernel_rfl) (by kernel_rfl) (by kernel_rfl) (fun w h => h.pick 8 [1, 2, 3, 4, 6, 7] rfl) ?_
    refine d_take 1 rfl (q_loadb 0 rfl ag23 rfl rfl rfl) rfl rfl (by kernel_rfl) (by kernel_rfl) (by kernel_rfl) (fun w h => h.pick 8 [1, 2, 3, 4, 6, 7] rfl) ?_
    refine d_take 2 rfl (q_move rfl rfl) rfl rfl (by kernel_rfl) (by kernel_rfl) (by kernel_rfl) (fun w h => h.pick 8 [1, 2, 3, 4, 6, 7] rfl) ?_
    refine d_take 3 rfl (q_fieldAddr fi27_1 sz23 rfl rfl rfl) rfl rfl (by kernel_rfl) (by kernel_rfl) (by kernel_rfl) (fun w h => h.pick 8 [1, 2, 3, 4, 6, 7] rfl) ?_
    refine d_take 4 rfl (q_loadb 0 rfl ag23 rfl rfl rfl) rfl rfl (by kernel_rfl) (by kernel_rfl) (by kernel_rfl) (fun w h => h.pick 8 [1, 2, 3, 4, 6, 7] rfl) ?_
    refine d_take 5 rfl (q_lenX v4 x3.2.2.2.h un23 rfl rfl rfl rfl rfl) rfl rfl (by kernel_rfl) (by kernel_rfl) (by kernel_rfl) (fun w h => h.pick 8 [1, 2, 3, 4, 6, 7] rfl) ?_
    refine d_take 7 rfl (q_move rfl rfl) rfl rfl (by kernel_rfl) (by kernel_rfl) (by kernel_rfl) (fun w h => h.pick 8 [1, 2, 3, 4, 6, 7] rfl) ?_
    refine d_join (σ := Unit × (Option Addr) × Unit) 0 #[true, true, true, true, true, true, true, true, true, true, true, true] (fun s => [(4, (pt x2)), (5, (pt x4))]) (fun s => .row s.2.1 3 3 1 (ii ([(3:Int), (-1:Int), (0:Int)] : List Int)) :: .box a0_g 94 [(.slice a0_0_A a0_0_n a0_0_c), (i6 v10)] :: .box x4 27 [(.slice x3.1.A x3.1.n x3.1.c), (.slice x3.2.1.A x3.2.1.n x3.2.1.c), (.slice x3.2.2.1.A x3.2.2.1.n x3.2.2.1.c), (.slice x3.2.2.2.A x3.2.2.2.n x3.2.2.2.c)] :: .row x3.1.A x3.1.c 3 1 (ii v1) :: .row x3.2.1.A x3.2.1.c 3 1 (ii v2) :: .row x3.2.2.1.A x3.2.2.1.c 3 1 (ii v3) :: .row x3.2.2.2.A x3.2.2.2.c 3 1 (ii (v4.set v7.toNat v9)) :: .box x2 27 [(.slice none 0 0), (.slice none 0 0), (.slice none 0 0), (.slice none 0 0)] :: .box x1 27 [(.slice a1_0_A a1_0_n a1_0_c), (.slice a1_1_A a1_1_n a1_1_c), (.slice a1_2_A a1_2_n a1_2_c), (.slice a1_3_A a1_3_n a1_3_c)] :: F) ?_ (fun hD4095 => ?_)
    · rintro ⟨x6, x7, x8⟩
      show J _ _ [(4, (pt x2)), (5, (pt x4))] _ (.row x7 3 3 1 (ii ([(3:Int), (-1:Int), (0:Int)] : List Int)) :: .box a0_g 94 [(.slice a0_0_A a0_0_n a0_0_c), (i6 v10)] :: .box x4 27 [(.slice x3.1.A x3.1.n x3.1.c), (.slice x3.2.1.A x3.2.1.n x3.2.1.c), (.slice x3.2.2.1.A x3.2.2.1.n x3.2.2.1.c), (.slice x3.2.2.2.A x3.2.2.2.n x3.2.2.2.c)] :: .row x3.1.A x3.1.c 3 1 (ii v1) :: .row x3.2.1.A x3.2.1.c 3 1 (ii v2) :: .row x3.2.2.1.A x3.2.2.1.c 3 1 (ii v3) :: .row x3.2.2.2.A x3.2.2.2.c 3 1 (ii (v4.set v7.toNat v9)) :: .box x2 27 [(.slice none 0 0), (.slice none 0 0), (.slice none 0 0), (.slice none 0 0)] :: .box x1 27 [(.slice a1_0_A a1_0_n a1_0_c), (.slice a1_1_A a1_1_n a1_1_c), (.slice a1_2_A a1_2_n a1_2_c), (.slice a1_3_A a1_3_n a1_3_c)] :: F)
      refine d_done (by kernel_rfl) ?_
      refine j_in ?_
      refine j_then ?_
      refine j_seq ?_
      refine j_region ?_
      refine r_q (q_loadb_agg 2 rfl ag27 sz27 rfl rfl rfl rfl) rfl rfl ?_
      refine r_do (a_storeb 7 rfl sz27 rfl rfl rfl rfl (Nat.le_of_ble_eq_true rfl) rfl) rfl rfl (fun _ => ?_)
      refine j_b7 [(.slice x3.1.A x3.1.n x3.1.c), (.slice x3.2.1.A x3.2.1.n x3.2.1.c), (.slice x3.2.2.1.A x3.2.2.1.n x3.2.2.1.c), (.slice x3.2.2.2.A x3.2.2.2.n x3.2.2.2.c)] rfl ?_
      refine r_nil ?_
      refine j_then ?_
      refine j_ret ?_
      cases h
      exact j_return rfl (ResOf.cell 7 rfl rfl ag27 sz27 ResOf.nil) rfl (fun w h => ⟨(⟨x3.1.A, x3.1.n, x3.1.c, x3.1.h⟩, ⟨x3.2.1.A, x3.2.1.n, x3.2.1.c, x3.2.1.h⟩, ⟨x3.2.2.1.A, x3.2.2.1.n, x3.2.2.1.c, x3.2.2.1.h⟩, ⟨x3.2.2.2.A, x3.2.2.2.n, x3.2.2.2.c, (set_len x3.2.2.2.h _ _)⟩), rfl, h.pick 9 [3, 4, 5, 6, 1] rfl⟩)
    refine d_join (σ := Unit × (Option Addr) × Unit) 1 #[true, true, true, true, true, true, true, true, true, true, true, false] (fun s => [(4, (pt x2)), (5, (pt x4)), (21, (i6 v9)), (22, (.pointer (x3.2.2.2.A.map (·.add (v7.toNat * 1)))))]) (fun s => .row s.2.1 3 3 1 (ii ([(3:Int), (-1:Int), (0:Int)] : List Int)) :: .box a0_g 94 [(.slice a0_0_A a0_0_n a0_0_c), (i6 v10)] :: .box x4 27 [(.slice x3.1.A x3.1.n x3.1.c), (.slice x3.2.1.A x3.2.1.n x3.2.1.c), (.slice x3.2.2.1.A x3.2.2.1.n x3.2.2.1.c), (.slice x3.2.2.2.A x3.2.2.2.n x3.2.2.2.c)] :: .row x3.1.A x3.1.c 3 1 (ii v1) :: .row x3.2.1.A x3.2.1.c 3 1 (ii v2) :: .row x3.2.2.1.A x3.2.2.1.c 3 1 (ii v3) :: .row x3.2.2.2.A x3.2.2.2.c 3 1 (ii v4) :: .box x2 27 [(.slice none 0 0), (.slice none 0 0), (.slice none 0 0), (.slice none 0 0)] :: .box x1 27 [(.slice a1_0_A a1_0_n a1_0_c), (.slice a1_1_A a1_1_n a1_1_c), (.slice a1_2_A a1_2_n a1_2_c), (.slice a1_3_A a1_3_n a1_3_c)] :: F) ?_ (fun hD2047 => ?_)
    · rintro ⟨x6, x7, x8⟩
      show J _ _ [(4, (pt x2)), (5, (pt x4)), (21, (i6 v9)), (22, (.pointer (x3.2.2.2.A.map (·.add (v7.toNat * 1)))))] _ (.row x7 3 3 1 (ii ([(3:Int), (-1:Int), (0:Int)] : List Int)) :: .box a0_g 94 [(.slice a0_0_A a0_0_n a0_0_c), (i6 v10)] :: .box x4 27 [(.slice x3.1.A x3.1.n x3.1.c), (.slice x3.2.1.A x3.2.1.n x3.2.1.c), (.slice x3.2.2.1.A x3.2.2.1.n x3.2.2.1.c), (.slice x3.2.2.2.A x3.2.2.2.n x3.2.2.2.c)] :: .row x3.1.A x3.1.c 3 1 (ii v1) :: .row x3.2.1.A x3.2.1.c 3 1 (ii v2) :: .row x3.2.2.1.A x3.2.2.1.c 3 1 (ii v3) :: .row x3.2.2.2.A x3.2.2.2.c 3 1 (ii v4) :: .box x2 27 [(.slice none 0 0), (.slice none 0 0), (.slice none 0 0), (.slice none 0 0)] :: .box x1 27 [(.slice a1_0_A a1_0_n a1_0_c), (.slice a1_1_A a1_1_n a1_1_c), (.slice a1_2_A a1_2_n a1_2_c), (.slice a1_3_A a1_3_n a1_3_c)] :: F)
      refine d_one 11 (by kernel_rfl) ?_
      · refine o_do rfl (a_stI 6 rfl c2 sz3 rfl rfl rfl) rfl rfl (fun _ w h => h.pick 9 [2, 3, 4, 5, 7, 8] rfl) (fun _ => ?_)
        refine j_s6 ?_
        refine j_rs (.row x7 3 3 1 (ii ([(3:Int), (-1:Int), (0:Int)] : List Int)) :: .box a0_g 94 [(.slice a0_0_A a0_0_n a0_0_c), (i6 v10)] :: .box x4 27 [(.slice x3.1.A x3.1.n x3.1.c), (.slice x3.2.1.A x3.2.1.n x3.2.1.c), (.slice x3.2.2.1.A x3.2.2.1.n x3.2.2.1.c), (.slice x3.2.2.2.A x3.2.2.2.n x3.2.2.2.c)] :: .row x3.1.A x3.1.c 3 1 (ii v1) :: .row x3.2.1.A x3.2.1.c 3 1 (ii v2) :: .row x3.2.2.1.A x3.2.2.1.c 3 1 (ii v3) :: .row x3.2.2.2.A x3.2.2.2.c 3 1 (ii (v4.set v7.toNat v9)) :: .box x2 27 [(.slice none 0 0), (.slice none 0 0), (.slice none 0 0), (.slice none 0 0)] :: .box x1 27 [(.slice a1_0_A a1_0_n a1_0_c), (.slice a1_1_A a1_1_n a1_1_c), (.slice a1_2_A a1_2_n a1_2_c), (.slice a1_3_A a1_3_n a1_3_c)] :: F) (fun _ h => h) ?_
        refine j_env [(4, (pt x2)), (5, (pt x4))] ⟨rfl, rfl, trivial⟩ ?_
        exact hD4095 (x6, x7, x8)
    refine d_join (σ := Unit × (Option Addr) × Unit) 2 #[true, true, true, true, true, true, true, true, true, true, false, false] (fun s => [(4, (pt x2)), (5, (pt x4)), (13, (.slice x3.2.2.2.A x3.2.2.2.n x3.2.2.2.c)), (18, (i6 v7)), (21, (i6 v9))]) (fun s => .row s.2.1 3 3 1 (ii ([(3:Int), (-1:Int), (0:Int)] : List Int)) :: .box a0_g 94 [(.slice a0_0_A a0_0_n a0_0_c), (i6 v10)] :: .box x4 27 [(.slice x3.1.A x3.1.n x3.1.c), (.slice x3.2.1.A x3.2.1.n x3.2.1.c), (.slice x3.2.2.1.A x3.2.2.1.n x3.2.2.1.c), (.slice x3.2.2.2.A x3.2.2.2.n x3.2.2.2.c)] :: .row x3.1.A x3.1.c 3 1 (ii v1) :: .row x3.2.1.A x3.2.1.c 3 1 (ii v2) :: .row x3.2.2.1.A x3.2.2.1.c 3 1 (ii v3) :: .row x3.2.2.2.A x3.2.2.2.c 3 1 (ii v4) :: .box x2 27 [(.slice none 0 0), (.slice none 0 0), (.slice none 0 0), (.slice none 0 0)] :: .box x1 27 [(.slice a1_0_A a1_0_n a1_0_c), (.slice a1_1_A a1_1_n a1_1_c), (.slice a1_2_A a1_2_n a1_2_c), (.slice a1_3_A a1_3_n a1_3_c)] :: F) ?_ (fun hD1023 => ?_)
    · rintro ⟨x6, x7, x8⟩
      show J _ _ [(4, (pt x2)), (5, (pt x4)), (13, (.slice x3.2.2.2.A x3.2.2.2.n x3.2.2.2.c)), (18, (i6 v7)), (21, (i6 v9))] _ (.row x7 3 3 1 (ii ([(3:Int), (-1:Int), (0:Int)] : List Int)) :: .box a0_g 94 [(.slice a0_0_A a0_0_n a0_0_c), (i6 v10)] :: .box x4 27 [(.slice x3.1.A x3.1.n x3.1.c), (.slice x3.2.1.A x3.2.1.n x3.2.1.c), (.slice x3.2.2.1.A x3.2.2.1.n x3.2.2.1.c), (.slice x3.2.2.2.A x3.2.2.2.n x3.2.2.2.c)] :: .row x3.1.A x3.1.c 3 1 (ii v1) :: .row x3.2.1.A x3.2.1.c 3 1 (ii v2) :: .row x3.2.2.1.A x3.2.2.1.c 3 1 (ii v3) :: .row x3.2.2.2.A x3.2.2.2.c 3 1 (ii v4) :: .box x2 27 [(.slice none 0 0), (.slice none 0 0), (.slice none 0 0), (.slice none 0 0)] :: .box x1 27 [(.slice a1_0_A a1_0_n a1_0_c), (.slice a1_1_A a1_1_n a1_1_c), (.slice a1_2_A a1_2_n a1_2_c), (.slice a1_3_A a1_3_n a1_3_c)] :: F)
      refine d_one 10 (by kernel_rfl) ?_
      · refine o_do rfl ((q_ix (Rd.row 6 rfl) (ints_len1 _ v4) (by decide) x3.2.2.2.h c2 un23 sz3 rfl rfl rfl)).acts rfl rfl (fun _ w h => h.pick 9 [2, 3, 4, 5, 7, 8] rfl) (fun _ => ?_)
        refine j_rs (.row x7 3 3 1 (ii ([(3:Int), (-1:Int), (0:Int)] : List Int)) :: .box a0_g 94 [(.slice a0_0_A a0_0_n a0_0_c), (i6 v10)] :: .box x4 27 [(.slice x3.1.A x3.1.n x3.1.c), (.slice x3.2.1.A x3.2.1.n x3.2.1.c), (.slice x3.2.2.1.A x3.2.2.1.n x3.2.2.1.c), (.slice x3.2.2.2.A x3.2.2.2.n x3.2.2.2.c)] :: .row x3.1.A x3.1.c 3 1 (ii v1) :: .row x3.2.1.A x3.2.1.c 3 1 (ii v2) :: .row x3.2.2.1.A x3.2.2.1.c 3 1 (ii v3) :: .row x3.2.2.2.A x3.2.2.2.c 3 1 (ii v4) :: .box x2 27 [(.slice none 0 0), (.slice none 0 0), (.slice none 0 0), (.slice none 0 0)] :: .box x1 27 [(.slice a1_0_A a1_0_n a1_0_c), (.slice a1_1_A a1_1_n a1_1_c), (.slice a1_2_A a1_2_n a1_2_c), (.slice a1_3_A a1_3_n a1_3_c)] :: F) (fun _ h => h) ?_
        refine j_env [(4, (pt x2)), (5, (pt x4)), (21, (i6 v9)), (22, (.pointer (x3.2.2.2.A.map (·.add (v7.toNat * 1)))))] ⟨rfl, rfl, rfl, rfl, trivial⟩ ?_
        exact hD2047 (x6, x7, x8)
    refine d_join (σ := Unit × (Option Addr)) 3 #[true, true, true, true, true, true, true, true, true, false, false, false] (fun s => [(4, (pt x2)), (5, (pt x4)), (13, (.slice x3.2.2.2.A x3.2.2.2.n x3.2.2.2.c)), (18, (i6 v7)), (19, (pt a0_g)), (20, (.slice s.2 3 3))]) (fun s => .row s.2 3 3 1 (ii ([(3:Int), (-1:Int), (0:Int)] : List Int)) :: .box a0_g 94 [(.slice a0_0_A a0_0_n a0_0_c), (i6 v8)] :: .box x4 27 [(.slice x3.1.A x3.1.n x3.1.c), (.slice x3.2.1.A x3.2.1.n x3.2.1.c), (.slice x3.2.2.1.A x3.2.2.1.n x3.2.2.1.c), (.slice x3.2.2.2.A x3.2.2.2.n x3.2.2.2.c)] :: .row x3.1.A x3.1.c 3 1 (ii v1) :: .row x3.2.1.A x3.2.1.c 3 1 (ii v2) :: .row x3.2.2.1.A x3.2.2.1.c 3 1 (ii v3) :: .row x3.2.2.2.A x3.2.2.2.c 3 1 (ii v4) :: .box x2 27 [(.slice none 0 0), (.slice none 0 0), (.slice none 0 0), (.slice none 0 0)] :: .box x1 27 [(.slice a1_0_A a1_0_n a1_0_c), (.slice a1_1_A a1_1_n a1_1_c), (.slice a1_2_A a1_2_n a1_2_c), (.slice a1_3_A a1_3_n a1_3_c)] :: F) ?_ (fun hD511 => ?_)
    · rintro ⟨x6, x7⟩
      show J _ _ [(4, (pt x2)), (5, (pt x4)), (13, (.slice x3.2.2.2.A x3.2.2.2.n x3.2.2.2.c)), (18, (i6 v7)), (19, (pt a0_g)), (20, (.slice x7 3 3))] _ (.row x7 3 3 1 (ii ([(3:Int), (-1:Int), (0:Int)] : List Int)) :: .box a0_g 94 [(.slice a0_0_A a0_0_n a0_0_c), (i6 v8)] :: .box x4 27 [(.slice x3.1.A x3.1.n x3.1.c), (.slice x3.2.1.A x3.2.1.n x3.2.1.c), (.slice x3.2.2.1.A x3.2.2.1.n x3.2.2.1.c), (.slice x3.2.2.2.A x3.2.2.2.n x3.2.2.2.c)] :: .row x3.1.A x3.1.c 3 1 (ii v1) :: .row x3.2.1.A x3.2.1.c 3 1 (ii v2) :: .row x3.2.2.1.A x3.2.2.1.c 3 1 (ii v3) :: .row x3.2.2.2.A x3.2.2.2.c 3 1 (ii v4) :: .box x2 27 [(.slice none 0 0), (.slice none 0 0), (.slice none 0 0), (.slice none 0 0)] :: .box x1 27 [(.slice a1_0_A a1_0_n a1_0_c), (.slice a1_1_A a1_1_n a1_1_c), (.slice a1_2_A a1_2_n a1_2_c), (.slice a1_3_A a1_3_n a1_3_c)] :: F)
      refine d_one 9 (by kernel_rfl) ?_
      · refine j_rs (.box a0_g 94 [(.slice a0_0_A a0_0_n a0_0_c), (i6 v8)] :: .row x7 3 3 1 (ii ([(3:Int), (-1:Int), (0:Int)] : List Int)) :: .box x4 27 [(.slice x3.1.A x3.1.n x3.1.c), (.slice x3.2.1.A x3.2.1.n x3.2.1.c), (.slice x3.2.2.1.A x3.2.2.1.n x3.2.2.1.c), (.slice x3.2.2.2.A x3.2.2.2.n x3.2.2.2.c)] :: .row x3.1.A x3.1.c 3 1 (ii v1) :: .row x3.2.1.A x3.2.1.c 3 1 (ii v2) :: .row x3.2.2.1.A x3.2.2.1.c 3 1 (ii v3) :: .row x3.2.2.2.A x3.2.2.2.c 3 1 (ii v4) :: .box x2 27 [(.slice none 0 0), (.slice none 0 0), (.slice none 0 0), (.slice none 0 0)] :: .box x1 27 [(.slice a1_0_A a1_0_n a1_0_c), (.slice a1_1_A a1_1_n a1_1_c), (.slice a1_2_A a1_2_n a1_2_c), (.slice a1_3_A a1_3_n a1_3_c)] :: F) (fun _ h => h.pick 9 [1, 0, 2, 3, 4, 5, 6, 7, 8] rfl) ?_
        refine o_do rfl (a_call ok55 rfl rfl rfl rfl (fun w hm => spec_l13Rd_num.calls K a0_g a0_0 a0_0_A a0_0_n a0_0_c v8 ([(3:Int), (-1:Int), (0:Int)] : List Int) x7 3 3 hm a0_0_h (Rd.drop 8 a0_0_R) rfl (Rd.row 0 rfl) hb4)) rfl rfl (fun x8 w h => h.pick 9 [2, 3, 4, 5, 7, 8] rfl) (fun x8 => ?_)
        refine j_rs (.row x7 3 3 1 (ii ([(3:Int), (-1:Int), (0:Int)] : List Int)) :: .box a0_g 94 [(.slice a0_0_A a0_0_n a0_0_c), (i6 v10)] :: .box x4 27 [(.slice x3.1.A x3.1.n x3.1.c), (.slice x3.2.1.A x3.2.1.n x3.2.1.c), (.slice x3.2.2.1.A x3.2.2.1.n x3.2.2.1.c), (.slice x3.2.2.2.A x3.2.2.2.n x3.2.2.2.c)] :: .row x3.1.A x3.1.c 3 1 (ii v1) :: .row x3.2.1.A x3.2.1.c 3 1 (ii v2) :: .row x3.2.2.1.A x3.2.2.1.c 3 1 (ii v3) :: .row x3.2.2.2.A x3.2.2.2.c 3 1 (ii v4) :: .box x2 27 [(.slice none 0 0), (.slice none 0 0), (.slice none 0 0), (.slice none 0 0)] :: .box x1 27 [(.slice a1_0_A a1_0_n a1_0_c), (.slice a1_1_A a1_1_n a1_1_c), (.slice a1_2_A a1_2_n a1_2_c), (.slice a1_3_A a1_3_n a1_3_c)] :: F) (fun _ h => h.pick 9 [1, 0, 2, 3, 4, 5, 6, 7, 8] rfl) ?_
        refine j_env [(4, (pt x2)), (5, (pt x4)), (13, (.slice x3.2.2.2.A x3.2.2.2.n x3.2.2.2.c)), (18, (i6 v7)), (21, (i6 v9))] ⟨rfl, rfl, rfl, rfl, rfl, trivial⟩ ?_
        exact hD1023 (x6, x7, x8)
    refine d_join (σ := Unit) 4 #[true, true, true, true, true, true, true, true, false, false, false, false] (fun s => [(4, (pt x2)), (5, (pt x4)), (13, (.slice x3.2.2.2.A x3.2.2.2.n x3.2.2.2.c)), (18, (i6 v7)), (19, (pt a0_g))]) (fun s => .box a0_g 94 [(.slice a0_0_A a0_0_n a0_0_c), (i6 v8)] :: .box x4 27 [(.slice x3.1.A x3.1.n x3.1.c), (.slice x3.2.1.A x3.2.1.n x3.2.1.c), (.slice x3.2.2.1.A x3.2.2.1.n x3.2.2.1.c), (.slice x3.2.2.2.A x3.2.2.2.n x3.2.2.2.c)] :: .row x3.1.A x3.1.c 3 1 (ii v1) :: .row x3.2.1.A x3.2.1.c 3 1 (ii v2) :: .row x3.2.2.1.A x3.2.2.1.c 3 1 (ii v3) :: .row x3.2.2.2.A x3.2.2.2.c 3 1 (ii v4) :: .box x2 27 [(.slice none 0 0), (.slice none 0 0), (.slice none 0 0), (.slice none 0 0)] :: .box x1 27 [(.slice a1_0_A a1_0_n a1_0_c), (.slice a1_1_A a1_1_n a1_1_c), (.slice a1_2_A a1_2_n a1_2_c), (.slice a1_3_A a1_3_n a1_3_c)] :: F) ?_ (fun hD255 => ?_)
    · rintro x6
      show J _ _ [(4, (pt x2)), (5, (pt x4)), (13, (.slice x3.2.2.2.A x3.2.2.2.n x3.2.2.2.c)), (18, (i6 v7)), (19, (pt a0_g))] _ (.box a0_g 94 [(.slice a0_0_A a0_0_n a0_0_c), (i6 v8)] :: .box x4 27 [(.slice x3.1.A x3.1.n x3.1.c), (.slice x3.2.1.A x3.2.1.n x3.2.1.c), (.slice x3.2.2.1.A x3.2.2.1.n x3.2.2.1.c), (.slice x3.2.2.2.A x3.2.2.2.n x3.2.2.2.c)] :: .row x3.1.A x3.1.c 3 1 (ii v1) :: .row x3.2.1.A x3.2.1.c 3 1 (ii v2) :: .row x3.2.2.1.A x3.2.2.1.c 3 1 (ii v3) :: .row x3.2.2.2.A x3.2.2.2.c 3 1 (ii v4) :: .box x2 27 [(.slice none 0 0), (.slice none 0 0), (.slice none 0 0), (.slice none 0 0)] :: .box x1 27 [(.slice a1_0_A a1_0_n a1_0_c), (.slice a1_1_A a1_1_n a1_1_c), (.slice a1_2_A a1_2_n a1_2_c), (.slice a1_3_A a1_3_n a1_3_c)] :: F)
      refine d_one 8 (by kernel_rfl) ?_
      · refine o_do rfl (a_litX (vs := [(i6 (3:Int)), (i6 (-1:Int)), (i6 (0:Int))]) (ii ([(3:Int), (-1:Int), (0:Int)] : List Int)) un23 sz3 zr3 rfl rfl rfl rfl rfl rfl rfl rfl rfl) rfl rfl (fun x7 w h => h.pick 9 [2, 3, 4, 5, 7, 8] rfl) (fun x7 => ?_)
        refine j_rs (.row x7 3 3 1 (ii ([(3:Int), (-1:Int), (0:Int)] : List Int)) :: .box a0_g 94 [(.slice a0_0_A a0_0_n a0_0_c), (i6 v8)] :: .box x4 27 [(.slice x3.1.A x3.1.n x3.1.c), (.slice x3.2.1.A x3.2.1.n x3.2.1.c), (.slice x3.2.2.1.A x3.2.2.1.n x3.2.2.1.c), (.slice x3.2.2.2.A x3.2.2.2.n x3.2.2.2.c)] :: .row x3.1.A x3.1.c 3 1 (ii v1) :: .row x3.2.1.A x3.2.1.c 3 1 (ii v2) :: .row x3.2.2.1.A x3.2.2.1.c 3 1 (ii v3) :: .row x3.2.2.2.A x3.2.2.2.c 3 1 (ii v4) :: .box x2 27 [(.slice none 0 0), (.slice none 0 0), (.slice none 0 0), (.slice none 0 0)] :: .box x1 27 [(.slice a1_0_A a1_0_n a1_0_c), (.slice a1_1_A a1_1_n a1_1_c), (.slice a1_2_A a1_2_n a1_2_c), (.slice a1_3_A a1_3_n a1_3_c)] :: F) (fun _ h => h) ?_
        refine j_env [(4, (pt x2)), (5, (pt x4)), (13, (.slice x3.2.2.2.A x3.2.2.2.n x3.2.2.2.c)), (18, (i6 v7)), (19, (pt a0_g)), (20, (.slice x7 3 3))] ⟨rfl, rfl, rfl, rfl, rfl, rfl, trivial⟩ ?_
        exact hD511 (x6, x7)
    refine d_join (σ := (Option Addr)) 4 #[true, true, true, true, true, true, false, true, true, false, false, false] (fun s => [(4, (pt x2)), (5, (pt x4)), (13, (.slice x3.2.2.2.A x3.2.2.2.n x3.2.2.2.c)), (14, (pt a0_g)), (17, (i6 (v4.length : Int))), (19, (pt a0_g)), (20, (.slice s 3 3))]) (fun s => .row s 3 3 1 (ii ([(3:Int), (-1:Int), (0:Int)] : List Int)) :: .box a0_g 94 [(.slice a0_0_A a0_0_n a0_0_c), (i6 v6)] :: .box x4 27 [(.slice x3.1.A x3.1.n x3.1.c), (.slice x3.2.1.A x3.2.1.n x3.2.1.c), (.slice x3.2.2.1.A x3.2.2.1.n x3.2.2.1.c), (.slice x3.2.2.2.A x3.2.2.2.n x3.2.2.2.c)] :: .row x3.1.A x3.1.c 3 1 (ii v1) :: .row x3.2.1.A x3.2.1.c 3 1 (ii v2) :: .row x3.2.2.1.A x3.2.2.1.c 3 1 (ii v3) :: .row x3.2.2.2.A x3.2.2.2.c 3 1 (ii v4) :: .box x2 27 [(.slice none 0 0), (.slice none 0 0), (.slice none 0 0), (.slice none 0 0)] :: .box x1 27 [(.slice a1_0_A a1_0_n a1_0_c), (.slice a1_1_A a1_1_n a1_1_c), (.slice a1_2_A a1_2_n a1_2_c), (.slice a1_3_A a1_3_n a1_3_c)] :: F) ?_ (fun hD447 => ?_)
    · rintro x7
      show J _ _ [(4, (pt x2)), (5, (pt x4)), (13, (.slice x3.2.2.2.A x3.2.2.2.n x3.2.2.2.c)), (14, (pt a0_g)), (17, (i6 (v4.length : Int))), (19, (pt a0_g)), (20, (.slice x7 3 3))] _ (.row x7 3 3 1 (ii ([(3:Int), (-1:Int), (0:Int)] : List Int)) :: .box a0_g 94 [(.slice a0_0_A a0_0_n a0_0_c), (i6 v6)] :: .box x4 27 [(.slice x3.1.A x3.1.n x3.1.c), (.slice x3.2.1.A x3.2.1.n x3.2.1.c), (.slice x3.2.2.1.A x3.2.2.1.n x3.2.2.1.c), (.slice x3.2.2.2.A x3.2.2.2.n x3.2.2.2.c)] :: .row x3.1.A x3.1.c 3 1 (ii v1) :: .row x3.2.1.A x3.2.1.c 3 1 (ii v2) :: .row x3.2.2.1.A x3.2.2.1.c 3 1 (ii v3) :: .row x3.2.2.2.A x3.2.2.2.c 3 1 (ii v4) :: .box x2 27 [(.slice none 0 0), (.slice none 0 0), (.slice none 0 0), (.slice none 0 0)] :: .box x1 27 [(.slice a1_0_A a1_0_n a1_0_c), (.slice a1_1_A a1_1_n a1_1_c), (.slice a1_2_A a1_2_n a1_2_c), (.slice a1_3_A a1_3_n a1_3_c)] :: F)
      refine d_one 6 (by kernel_rfl) ?_
      · refine j_rs (.box a0_g 94 [(.slice a0_0_A a0_0_n a0_0_c), (i6 v6)] :: .row x7 3 3 1 (ii ([(3:Int), (-1:Int), (0:Int)] : List Int)) :: .box x4 27 [(.slice x3.1.A x3.1.n x3.1.c), (.slice x3.2.1.A x3.2.1.n x3.2.1.c), (.slice x3.2.2.1.A x3.2.2.1.n x3.2.2.1.c), (.slice x3.2.2.2.A x3.2.2.2.n x3.2.2.2.c)] :: .row x3.1.A x3.1.c 3 1 (ii v1) :: .row x3.2.1.A x3.2.1.c 3 1 (ii v2) :: .row x3.2.2.1.A x3.2.2.1.c 3 1 (ii v3) :: .row x3.2.2.2.A x3.2.2.2.c 3 1 (ii v4) :: .box x2 27 [(.slice none 0 0), (.slice none 0 0), (.slice none 0 0), (.slice none 0 0)] :: .box x1 27 [(.slice a1_0_A a1_0_n a1_0_c), (.slice a1_1_A a1_1_n a1_1_c), (.slice a1_2_A a1_2_n a1_2_c), (.slice a1_3_A a1_3_n a1_3_c)] :: F) (fun _ h => h.pick 9 [1, 0, 2, 3, 4, 5, 6, 7, 8] rfl) ?_
        refine o_do rfl (a_call ok89 rfl rfl rfl rfl (fun w hm => spec_l13Rd_pick.calls K a0_g a0_0 a0_0_A a0_0_n a0_0_c v6 (v4.length : Int) hm a0_0_h (Rd.drop 8 a0_0_R) hb3)) rfl rfl (fun x6 w h => h.pick 9 [2, 3, 4, 5, 7, 8] rfl) (fun x6 => ?_)
        refine j_rs (.row x7 3 3 1 (ii ([(3:Int), (-1:Int), (0:Int)] : List Int)) :: .box a0_g 94 [(.slice a0_0_A a0_0_n a0_0_c), (i6 v8)] :: .box x4 27 [(.slice x3.1.A x3.1.n x3.1.c), (.slice x3.2.1.A x3.2.1.n x3.2.1.c), (.slice x3.2.2.1.A x3.2.2.1.n x3.2.2.1.c), (.slice x3.2.2.2.A x3.2.2.2.n x3.2.2.2.c)] :: .row x3.1.A x3.1.c 3 1 (ii v1) :: .row x3.2.1.A x3.2.1.c 3 1 (ii v2) :: .row x3.2.2.1.A x3.2.2.1.c 3 1 (ii v3) :: .row x3.2.2.2.A x3.2.2.2.c 3 1 (ii v4) :: .box x2 27 [(.slice none 0 0), (.slice none 0 0), (.slice none 0 0), (.slice none 0 0)] :: .box x1 27 [(.slice a1_0_A a1_0_n a1_0_c), (.slice a1_1_A a1_1_n a1_1_c), (.slice a1_2_A a1_2_n a1_2_c), (.slice a1_3_A a1_3_n a1_3_c)] :: F) (fun _ h => h.pick 9 [1, 0, 2, 3, 4, 5, 6, 7, 8] rfl) ?_
        refine j_env [(4, (pt x2)), (5, (pt x4)), (13, (.slice x3.2.2.2.A x3.2.2.2.n x3.2.2.2.c)), (18, (i6 v7)), (19, (pt a0_g)), (20, (.slice x7 3 3))] ⟨rfl, rfl, rfl, rfl, rfl, rfl, trivial⟩ ?_
        exact hD511 (x6, x7)
    refine d_two 6 8 (by kernel_rfl) ?_ ?_
    · refine o_do rfl (a_call ok89 rfl rfl rfl rfl (fun w hm => spec_l13Rd_pick.calls K a0_g a0_0 a0_0_A a0_0_n a0_0_c v6 (v4.length : Int) hm a0_0_h (Rd.drop 7 a0_0_R) hb3)) rfl rfl (fun x6 w h => h.pick 8 [1, 2, 3, 4, 6, 7] rfl) (fun x6 => ?_)
      refine j_rs (.box a0_g 94 [(.slice a0_0_A a0_0_n a0_0_c), (i6 v8)] :: .box x4 27 [(.slice x3.1.A x3.1.n x3.1.c), (.slice x3.2.1.A x3.2.1.n x3.2.1.c), (.slice x3.2.2.1.A x3.2.2.1.n x3.2.2.1.c), (.slice x3.2.2.2.A x3.2.2.2.n x3.2.2.2.c)] :: .row x3.1.A x3.1.c 3 1 (ii v1) :: .row x3.2.1.A x3.2.1.c 3 1 (ii v2) :: .row x3.2.2.1.A x3.2.2.1.c 3 1 (ii v3) :: .row x3.2.2.2.A x3.2.2.2.c 3 1 (ii v4) :: .box x2 27 [(.slice none 0 0), (.slice none 0 0), (.slice none 0 0), (.slice none 0 0)] :: .box x1 27 [(.slice a1_0_A a1_0_n a1_0_c), (.slice a1_1_A a1_1_n a1_1_c), (.slice a1_2_A a1_2_n a1_2_c), (.slice a1_3_A a1_3_n a1_3_c)] :: F) (fun _ h => h) ?_
      refine j_env [(4, (pt x2)), (5, (pt x4)), (13, (.slice x3.2.2.2.A x3.2.2.2.n x3.2.2.2.c)), (18, (i6 v7)), (19, (pt a0_g))] ⟨rfl, rfl, rfl, rfl, rfl, trivial⟩ ?_
      exact hD255 x6
    · refine o_do rfl (a_litX (vs := [(i6 (3:Int)), (i6 (-1:Int)), (i6 (0:Int))]) (ii ([(3:Int), (-1:Int), (0:Int)] : List Int)) un23 sz3 zr3 rfl rfl rfl rfl rfl rfl rfl rfl rfl) rfl rfl (fun x7 w h => h.pick 9 [2, 3, 4, 5, 7, 8] rfl) (fun x7 => ?_)
      refine j_rs (.row x7 3 3 1 (ii ([(3:Int), (-1:Int), (0:Int)] : List Int)) :: .box a0_g 94 [(.slice a0_0_A a0_0_n a0_0_c), (i6 v6)] :: .box x4 27 [(.slice x3.1.A x3.1.n x3.1.c), (.slice x3.2.1.A x3.2.1.n x3.2.1.c), (.slice x3.2.2.1.A x3.2.2.1.n x3.2.2.1.c), (.slice x3.2.2.2.A x3.2.2.2.n x3.2.2.2.c)] :: .row x3.1.A x3.1.c 3 1 (ii v1) :: .row x3.2.1.A x3.2.1.c 3 1 (ii v2) :: .row x3.2.2.1.A x3.2.2.1.c 3 1 (ii v3) :: .row x3.2.2.2.A x3.2.2.2.c 3 1 (ii v4) :: .box x2 27 [(.slice none 0 0), (.slice none 0 0), (.slice none 0 0), (.slice none 0 0)] :: .box x1 27 [(.slice a1_0_A a1_0_n a1_0_c), (.slice a1_1_A a1_1_n a1_1_c), (.slice a1_2_A a1_2_n a1_2_c), (.slice a1_3_A a1_3_n a1_3_c)] :: F) (fun _ h => h) ?_
      refine j_env [(4, (pt x2)), (5, (pt x4)), (13, (.slice x3.2.2.2.A x3.2.2.2.n x3.2.2.2.c)), (14, (pt a0_g)), (17, (i6 (v4.length : Int))), (19, (pt a0_g)), (20, (.slice x7 3 3))] ⟨rfl, rfl, rfl, rfl, rfl, rfl, rfl, trivial⟩ ?_
      exact hD447 x7
  · refine j_false rfl (beq_f c1) ?_
    refine j_seq ?_
    refine j_region ?_
    refine r_q (q_eql rfl rfl rfl) rfl rfl ?_
    refine r_q (q_assign rfl rfl) rfl rfl ?_
    refine r_nil ?_
    refine j_then ?_
    rcases of_if h with ⟨c3, h⟩ | ⟨c3, h⟩
    · refine j_true rfl (beq_t c3) ?_
      refine j_region ?_
      refine r_q (q_fieldAddr fi27_1 sz23 rfl rfl rfl) rfl rfl ?_
      refine r_q (q_loadb 1 rfl ag23 rfl rfl rfl) rfl rfl ?_
      refine r_do (a_litX (vs := [(i6 (0:Int))]) (ii ([(0:Int)] : List Int)) un23 sz3 zr3 rfl rfl rfl rfl rfl rfl rfl rfl rfl) rfl rfl (fun x9 => ?_)
      obtain ⟨c4, h⟩ := of_guard h
      refine r_do (a_appI (xs := v4) (ys := ([(0:Int)] : List Int)) 6 un23 un23 sz3 by3 zr3 rfl rfl rfl rfl rfl rfl rfl rfl rfl x3.2.2.2.h rfl (Rd.row 0 rfl) c4) rfl rfl (fun x10 => ?_)
      refine j_s6 ?_
      refine r_q (q_fieldAddr fi27_1 sz23 rfl rfl rfl) rfl rfl ?_
      refine r_do (a_storeb 2 rfl sz23 rfl rfl rfl rfl (Nat.le_of_ble_eq_true rfl) rfl) rfl rfl (fun _ => ?_)
      refine j_b2 [(.slice x3.1.A x3.1.n x3.1.c), (.slice x3.2.1.A x3.2.1.n x3.2.1.c), (.slice x3.2.2.1.A x3.2.2.1.n x3.2.2.1.c), (.slice x10.1 (x3.2.2.2.n + 1) x10.2)] rfl ?_
      refine r_nil ?_
      refine j_in ?_
      refine j_then ?_
      refine j_seq ?_
      refine j_region ?_
      refine r_q (q_loadb_agg 2 rfl ag27 sz27 rfl rfl rfl rfl) rfl rfl ?_
      refine r_do (a_storeb 7 rfl sz27 rfl rfl rfl rfl (Nat.le_of_ble_eq_true rfl) rfl) rfl rfl (fun _ => ?_)
      refine j_b7 [(.slice x3.1.A x3.1.n x3.1.c), (.slice x3.2.1.A x3.2.1.n x3.2.1.c), (.slice x3.2.2.1.A x3.2.2.1.n x3.2.2.1.c), (.slice x10.1 (x3.2.2.2.n + 1) x10.2)] rfl ?_
      refine r_nil ?_
      refine j_then ?_
      refine j_ret ?_
      cases h
      exact j_return rfl (ResOf.cell 7 rfl rfl ag27 sz27 ResOf.nil) rfl (fun w h => ⟨(⟨x3.1.A, x3.1.n, x3.1.c, x3.1.h⟩, ⟨x3.2.1.A, x3.2.1.n, x3.2.1.c, x3.2.1.h⟩, ⟨x3.2.2.1.A, x3.2.2.1.n, x3.2.2.1.c, x3.2.2.1.h⟩, ⟨x10.1, (x3.2.2.2.n + 1), x10.2, (app_len x3.2.2.2.h rfl)⟩), rfl, h.pick 9 [3, 4, 5, 6, 1] rfl⟩)
    · refine j_false rfl (beq_f c3) ?_
      refine j_seq ?_
      refine j_region ?_
      refine r_q (q_eql rfl rfl rfl) rfl rfl ?_
      refine r_q (q_assign rfl rfl) rfl rfl ?_
      refine r_nil ?_
      refine j_then ?_
      rcases of_if h with ⟨c5, h⟩ | ⟨c5, h⟩
      · refine j_true rfl (beq_t c5) ?_
        refine j_region ?_
        refine r_q (q_move rfl rfl) rfl rfl ?_
        refine r_q (q_fieldAddr fi27_0 sz25 rfl rfl rfl) rfl rfl ?_
        refine r_q (q_loadb_agg 1 rfl ag25 sz25 rfl rfl rfl rfl) rfl rfl ?_
        obtain ⟨v11, v12, v13, v14, hb5, h⟩ := of_b4 h
        refine r_do (a_call ok97 rfl rfl rfl rfl (fun w hm => spec_l1Wrong.calls K a0_g a0_0 a0_0_A a0_0_n a0_0_c v6 v1 x3.1.A x3.1.n x3.1.c v2 x3.2.1.A x3.2.1.n x3.2.1.c v3 x3.2.2.1.A x3.2.2.1.n x3.2.2.1.c hm a0_0_h (Rd.drop 7 a0_0_R) x3.1.h (Rd.row 1 rfl) x3.2.1.h (Rd.row 2 rfl) x3.2.2.1.h (Rd.row 3 rfl) hb5)) rfl rfl (fun x11 => ?_)
        refine r_q (q_fieldAddr fi27_0 sz25 rfl rfl rfl) rfl rfl ?_
        refine r_do (a_storeb 4 rfl sz25 rfl rfl rfl rfl (Nat.le_of_ble_eq_true rfl) rfl) rfl rfl (fun _ => ?_)
        refine j_b4 [(.slice x11.1.A x11.1.n x11.1.c), (.slice x11.2.1.A x11.2.1.n x11.2.1.c), (.slice x11.2.2.A x11.2.2.n x11.2.2.c), (.slice x3.2.2.2.A x3.2.2.2.n x3.2.2.2.c)] rfl ?_
        refine r_nil ?_
        refine j_in ?_
        refine j_then ?_
        refine j_seq ?_
        refine j_region ?_
        refine r_q (q_loadb_agg 4 rfl ag27 sz27 rfl rfl rfl rfl) rfl rfl ?_
        refine r_do (a_storeb 9 rfl sz27 rfl rfl rfl rfl (Nat.le_of_ble_eq_true rfl) rfl) rfl rfl (fun _ => ?_)
        refine j_b9 [(.slice x11.1.A x11.1.n x11.1.c), (.slice x11.2.1.A x11.2.1.n x11.2.1.c), (.slice x11.2.2.A x11.2.2.n x11.2.2.c), (.slice x3.2.2.2.A x3.2.2.2.n x3.2.2.2.c)] rfl ?_
        refine r_nil ?_
        refine j_then ?_
        refine j_ret ?_
        cases h
        exact j_return rfl (ResOf.cell 9 rfl rfl ag27 sz27 ResOf.nil) rfl (fun w h => ⟨(⟨x11.1.A, x11.1.n, x11.1.c, x11.1.h⟩, ⟨x11.2.1.A, x11.2.1.n, x11.2.1.c, x11.2.1.h⟩, ⟨x11.2.2.A, x11.2.2.n, x11.2.2.c, x11.2.2.h⟩, ⟨x3.2.2.2.A, x3.2.2.2.n, x3.2.2.2.c, x3.2.2.2.h⟩), rfl, h.pick 11 [0, 1, 2, 8, 3] rfl⟩)
      · refine j_false rfl (beq_f c5) ?_
        refine j_skip ?_
        refine j_in ?_
        refine j_then ?_
        refine j_seq ?_
        refine j_region ?_
        refine r_q (q_loadb_agg 1 rfl ag27 sz27 rfl rfl rfl rfl) rfl rfl ?_
        refine r_do (a_storeb 6 rfl sz27 rfl rfl rfl rfl (Nat.le_of_ble_eq_true rfl) rfl) rfl rfl (fun _ => ?_)
        refine j_b6 [(.slice x3.1.A x3.1.n x3.1.c), (.slice x3.2.1.A x3.2.1.n x3.2.1.c), (.slice x3.2.2.1.A x3.2.2.1.n x3.2.2.1.c), (.slice x3.2.2.2.A x3.2.2.2.n x3.2.2.2.c)] rfl ?_
        refine r_nil ?_
        refine j_then ?_
        refine j_ret ?_
        cases h
        exact j_return rfl (ResOf.cell 6 rfl rfl ag27 sz27 ResOf.nil) rfl (fun w h => ⟨(⟨x3.1.A, x3.1.n, x3.1.c, x3.1.h⟩, ⟨x3.2.1.A, x3.2.1.n, x3.2.1.c, x3.2.1.h⟩, ⟨x3.2.2.1.A, x3.2.2.1.n, x3.2.2.1.c, x3.2.2.1.h⟩, ⟨x3.2.2.2.A, x3.2.2.2.n, x3.2.2.2.c, x3.2.2.2.h⟩), rfl, h.pick 8 [2, 3, 4, 5, 0] rfl⟩)

theorem spec_l3Case.calls (K : Nat) (a0 : List Int) (a0_A : Option Addr) (a0_n a0_c : Nat) {w0 w : World} {F : List Res} {r1 : List Int} {r2 : List Int} {r3 : List Int} {r4 : List Int} (hm : Mem w0 (F) w) (a0_h : a0.length = a0_n) (a0_R : Rd w0 F a0_A (ints .u8 a0)) (a0_k : a0.length ≤ a0_c) (h : spec_l3Case.f K a0 = some (r1, r2, r3, r4)) :
    Calls Try.prog 53 (List.toArray [.slice a0_A a0_n a0_c]) w fun e w' => ∃ x : (Sl r1.length) × (Sl r2.length) × (Sl r3.length) × (Sl r4.length), e = .returned (.agg (List.toArray [.slice x.1.A x.1.n x.1.c, .slice x.2.1.A x.2.1.n x.2.1.c, .slice x.2.2.1.A x.2.2.1.n x.2.2.1.c, .slice x.2.2.2.A x.2.2.2.n x.2.2.2.c])) ∧ Mem w0 (.row x.1.A x.1.c 3 1 (ii r1) :: .row x.2.1.A x.2.1.c 3 1 (ii r2) :: .row x.2.2.1.A x.2.2.1.c 3 1 (ii r3) :: .row x.2.2.2.A x.2.2.2.c 3 1 (ii r4) :: F) w' := by
  unfold spec_l3Case.f at h
  refine calls_of_J (n := 10) Try.func53 rfl rfl rfl hm ?_
  refine j_seq ?_
  refine j_region ?_
  refine r_do (a_alloc zr27 rfl) rfl rfl (fun x1 => ?_)
  refine r_nil ?_
  refine j_then ?_
  refine j_seq ?_
  refine j_region ?_
  refine r_q (q_move rfl rfl) rfl rfl ?_
  obtain ⟨_, hb1, h⟩ := of_b1 h
  refine r_do (a_call ok54 rfl rfl rfl rfl (fun w hm => spec_l13Open.calls K a0 a0_A a0_n a0_c hm a0_h (Rd.drop 1 a0_R) a0_k hb1)) rfl rfl (fun x2 => ?_)
  refine r_q (q_assign rfl rfl) rfl rfl ?_
  refine r_nil ?_
  refine j_then ?_
  refine j_seq ?_
  refine j_region ?_
  refine r_q (q_move rfl rfl) rfl rfl ?_
  refine r_q (q_move rfl rfl) rfl rfl ?_
  obtain ⟨v1, v2, v3, v4, v5, hb2, h⟩ := of_b5 h
  refine r_do (a_call ok88 rfl rfl rfl rfl (fun w hm => spec_l3Draw.calls K x2 (a0.take 2000) a0_A (a0.take 2000).length a0_c (0:Int) hm rfl (rd_hiI (Rd.drop 1 a0_R) 2000) hb2)) rfl rfl (fun x3 => ?_)
  obtain ⟨v6, v7, v8, v9, v10, hb3, h⟩ := of_b5 h
  refine j_rs (.box x2 94 [(.slice a0_A (a0.take 2000).length a0_c), (i6 v5)] :: .row x3.1.A x3.1.c 3 1 (ii v1) :: .row x3.2.1.A x3.2.1.c 3 1 (ii v2) :: .row x3.2.2.1.A x3.2.2.1.c 3 1 (ii v3) :: .row x3.2.2.2.A x3.2.2.2.c 3 1 (ii v4) :: .box x1 27 [(.slice none 0 0), (.slice none 0 0), (.slice none 0 0), (.slice none 0 0)] :: F) (fun _ h => h.pick 6 [4, 0, 1, 2, 3, 5] rfl) ?_
  refine r_do (a_call ok87 rfl rfl rfl rfl (fun w hm => spec_l3Wrong.calls K x2 (a0.take 2000) a0_A (a0.take 2000).length a0_c v5 v1 x3.1.A x3.1.n x3.1.c v2 x3.2.1.A x3.2.1.n x3.2.1.c v3 x3.2.2.1.A x3.2.2.1.n x3.2.2.1.c v4 x3.2.2.2.A x3.2.2.2.n x3.2.2.2.c hm rfl (rd_hiI (Rd.drop 5 a0_R) 2000) x3.1.h (Rd.row 0 rfl) x3.2.1.h (Rd.row 1 rfl) x3.2.2.1.h (Rd.row 2 rfl) x3.2.2.2.h (Rd.row 3 rfl) hb3)) rfl rfl (fun x4 => ?_)
  refine r_do (a_storeb 9 rfl sz27 rfl rfl rfl rfl (Nat.le_of_ble_eq_true rfl) rfl) rfl rfl (fun _ => ?_)
  refine j_b9 [(.slice x4.1.A x4.1.n x4.1.c), (.slice x4.2.1.A x4.2.1.n x4.2.1.c), (.slice x4.2.2.1.A x4.2.2.1.n x4.2.2.1.c), (.slice x4.2.2.2.A x4.2.2.2.n x4.2.2.2.c)] rfl ?_
  refine r_nil ?_
  refine j_then ?_
  refine j_ret ?_
  cases h
  exact j_return rfl (ResOf.cell 9 rfl rfl ag27 sz27 ResOf.nil) rfl (fun w h => ⟨(⟨x4.1.A, x4.1.n, x4.1.c, x4.1.h⟩, ⟨x4.2.1.A, x4.2.1.n, x4.2.1.c, x4.2.1.h⟩, ⟨x4.2.2.1.A, x4.2.2.1.n, x4.2.2.1.c, x4.2.2.1.h⟩, ⟨x4.2.2.2.A, x4.2.2.2.n, x4.2.2.2.c, x4.2.2.2.h⟩), rfl, h.pick 10 [0, 1, 2, 3] rfl⟩)

theorem slices_Equal_int.calls (K : Nat) (a0 : List Int) (a0_A : Option Addr) (a0_n a0_c : Nat) (a1 : List Int) (a1_A : Option Addr) (a1_n a1_c : Nat) {w0 w : World} {F : List Res} {r1 : Bool} (hm : Mem w0 (F) w) (a0_h : a0.length = a0_n) (a0_R : Rd w0 F a0_A (ii a0)) (a1_h : a1.length = a1_n) (a1_R : Rd w0 F a1_A (ii a1)) (h : slices_Equal_int.f K a0 a1 = some r1) :
    Calls Try.prog 64 (List.toArray [.slice a0_A a0_n a0_c, .slice a1_A a1_n a1_c]) w fun e w' => ∃ x : Unit, e = .returned (.bool r1) ∧ Mem w0 (F) w' := by
  unfold slices_Equal_int.f at h
  refine calls_of_J (n := 26) Try.func64 rfl rfl rfl hm ?_
  refine j_seq ?_
  refine j_region ?_
  refine r_q (q_assign rfl rfl) rfl rfl ?_
  refine r_nil ?_
  refine j_then ?_
  refine j_seq ?_
  refine j_seq ?_
  refine j_region ?_
  refine r_q (q_move rfl rfl) rfl rfl ?_
  refine r_q (q_lenX a0 a0_h un23 rfl rfl rfl rfl rfl) rfl rfl ?_
  refine r_q (q_move rfl rfl) rfl rfl ?_
  refine r_q (q_lenX a1 a1_h un23 rfl rfl rfl rfl rfl) rfl rfl ?_
  refine r_q (q_neq rfl rfl rfl) rfl rfl ?_
  refine r_nil ?_
  refine j_then ?_
  rcases of_if h with ⟨c1, h⟩ | ⟨c1, h⟩
  · refine j_false rfl (bne_f c1) ?_
    refine j_skip ?_
    refine j_then ?_
    refine j_seq ?_
    refine j_seq ?_
    refine j_region ?_
    refine r_q (q_move rfl rfl) rfl rfl ?_
    refine r_q (q_lenX a0 a0_h un23 rfl rfl rfl rfl rfl) rfl rfl ?_
    refine r_q (q_move rfl rfl) rfl rfl ?_
    refine r_nil ?_
    refine j_then ?_
    obtain ⟨κ0, h, hκ0⟩ := ex_k (g := fun κ => slices_Equal_int.loop0 K κ a0 a1 K (0:Int) = some r1) h
    refine j_cut (σ := Unit) (fun s => []) (fun s => F) (fun s => κ0 () = some r1) ?_ ?_
    · refine j_block ?_
      refine j_loop (σ := Int) (fun s => [(0, (.slice a0_A a0_n a0_c)), (1, (.slice a1_A a1_n a1_c)), (12, (i6 (a0.length : Int))), (13, (i6 s))]) (fun s => F) (fun m s => slices_Equal_int.loop0 K κ0 a0 a1 m s = some r1) K (0:Int) h (fun a he => he.sub ⟨rfl, rfl, rfl, rfl, trivial⟩) (fun w h => h) ?_
      rintro m p2 h
      cases m with
      | zero => exact absurd h (by rw [slices_Equal_int.loop0]; exact nofun)
      | succ m =>
        rw [slices_Equal_int.loop0] at h
        show J _ _ [(0, (.slice a0_A a0_n a0_c)), (1, (.slice a1_A a1_n a1_c)), (12, (i6 (a0.length : Int))), (13, (i6 p2))] _ (F)
        refine j_seq ?_
        refine j_region ?_
        refine r_q (q_lss rfl rfl rfl) rfl rfl ?_
        refine r_nil ?_
        refine j_then ?_
        refine j_seq ?_
        rcases of_if h with ⟨c14, h⟩ | ⟨c14, h⟩
        · refine j_true rfl (decide_eq_true c14) ?_
          refine j_skip ?_
          refine j_then ?_
          refine j_seq ?_
          refine j_block ?_
          refine j_seq ?_
          refine j_region ?_
          refine r_q (q_move rfl rfl) rfl rfl ?_
          refine r_q (q_assign rfl rfl) rfl rfl ?_
          refine r_nil ?_
          refine j_then ?_
          refine j_seq ?_
          obtain ⟨c15, h⟩ := of_guard h
          obtain ⟨c16, h⟩ := of_guard h
          refine j_draw (F) 9 follows_any rfl ?_
          refine d_take 0 rfl (q_move rfl rfl) rfl rfl (by kernel_rfl) (by kernel_rfl) (by kernel_rfl) (fun w h => h) ?_
          refine d_take 1 rfl (q_move rfl rfl) rfl rfl (by kernel_rfl) (by kernel_rfl) (by kernel_rfl) (fun w h => h) ?_
          refine d_take 2 rfl (q_ix a0_R (ints_len1 _ a0) (by decide) a0_h c15 un23 sz3 rfl rfl rfl) rfl rfl (by kernel_rfl) (by kernel_rfl) (by kernel_rfl) (fun w h => h) ?_
          refine d_take 3 rfl (q_ldI a0_R c15 ag3 rfl rfl) rfl rfl (by kernel_rfl) (by kernel_rfl) (by kernel_rfl) (fun w h => h) ?_
          refine d_take 4 rfl (q_move rfl rfl) rfl rfl (by kernel_rfl) (by kernel_rfl) (by kernel_rfl) (fun w h => h) ?_
          refine d_take 5 rfl (q_move rfl rfl) rfl rfl (by kernel_rfl) (by kernel_rfl) (by kernel_rfl) (fun w h => h) ?_
          refine d_take 6 rfl (q_ix a1_R (ints_len1 _ a1) (by decide) a1_h c16 un23 sz3 rfl rfl rfl) rfl rfl (by kernel_rfl) (by kernel_rfl) (by kernel_rfl) (fun w h => h) ?_
          refine d_take 7 rfl (q_ldI a1_R c16 ag3 rfl rfl) rfl rfl (by kernel_rfl) (by kernel_rfl) (by kernel_rfl) (fun w h => h) ?_
          refine d_take 8 rfl (q_neq rfl rfl rfl) rfl rfl (by kernel_rfl) (by kernel_rfl) (by kernel_rfl) (fun w h => h) ?_
          refine d_done (by kernel_rfl) ?_
          refine j_then ?_
          rcases of_if h with ⟨c17, h⟩ | ⟨c17, h⟩
          · refine j_false rfl (bne_f c17) ?_
            refine j_skip ?_
            refine j_in ?_
            refine j_then ?_
            refine j_region ?_
            refine r_q (q_add rfl rfl rfl) rfl rfl ?_
            refine r_q (q_move rfl rfl) rfl rfl ?_
            refine r_nil ?_
            refine j_then ?_
            exact j_again m (wrap64 (p2 + (1:Int))) (Nat.lt_succ_self m) h (fun a he => he.sub ⟨rfl, rfl, rfl, rfl, trivial⟩) (fun w h => h)
          · refine j_true rfl (bne_t c17) ?_
            refine j_seq ?_
            refine j_region ?_
            refine r_q (q_assign rfl rfl) rfl rfl ?_
            refine r_nil ?_
            refine j_then ?_
            refine j_ret ?_
            refine j_in_ret ?_
            refine j_then_ret ?_
            refine j_then_ret ?_
            refine j_in_ret ?_
            refine j_then_ret ?_
            refine j_then_ret ?_
            cases h
            exact j_return rfl (ResOf.tmp rfl ResOf.nil) rfl (fun w h => ⟨(), rfl, h⟩)
        · refine j_false rfl (decide_eq_false c14) ?_
          refine j_exit ?_
          refine j_then_exit ?_
          refine j_then_exit ?_
          refine j_in_exit ?_
          refine j_then ?_
          exact j_meet () h (fun a he => he.sub trivial) (fun w h => h)
    · rintro _ h
      subst hκ0
      show J _ _ [] _ (F)
      refine j_then ?_
      refine j_seq ?_
      refine j_region ?_
      refine r_q (q_assign rfl rfl) rfl rfl ?_
      refine r_nil ?_
      refine j_then ?_
      refine j_ret ?_
      cases h
      exact j_return rfl (ResOf.tmp rfl ResOf.nil) rfl (fun w h => ⟨(), rfl, h⟩)
  · refine j_true rfl (bne_t c1) ?_
    refine j_seq ?_
    refine j_region ?_
    refine r_q (q_assign rfl rfl) rfl rfl ?_
    refine r_nil ?_
    refine j_then ?_
    refine j_ret ?_
    refine j_then_ret ?_
    cases h
    exact j_return rfl (ResOf.tmp rfl ResOf.nil) rfl (fun w h => ⟨(), rfl, h⟩)

theorem impl_HeapSame.calls (K : Nat) (a0_0 : List Int) (a0_0_A : Option Addr) (a0_0_n a0_0_c : Nat) (a0_1 : List Int) (a0_1_A : Option Addr) (a0_1_n a0_1_c : Nat) (a0_2 : List Int) (a0_2_A : Option Addr) (a0_2_n a0_2_c : Nat) (a1_0 : List Int) (a1_0_A : Option Addr) (a1_0_n a1_0_c : Nat) (a1_1 : List Int) (a1_1_A : Option Addr) (a1_1_n a1_1_c : Nat) (a1_2 : List Int) (a1_2_A : Option Addr) (a1_2_n a1_2_c : Nat) {w0 w : World} {F : List Res} {r1 : Bool} (hm : Mem w0 (F) w) (a0_0_h : a0_0.length = a0_0_n) (a0_0_R : Rd w0 F a0_0_A (ii a0_0)) (a0_1_h : a0_1.length = a0_1_n) (a0_1_R : Rd w0 F a0_1_A (ii a0_1)) (a0_2_h : a0_2.length = a0_2_n) (a0_2_R : Rd w0 F a0_2_A (ii a0_2)) (a1_0_h : a1_0.length = a1_0_n) (a1_0_R : Rd w0 F a1_0_A (ii a1_0)) (a1_1_h : a1_1.length = a1_1_n) (a1_1_R : Rd w0 F a1_1_A (ii a1_1)) (a1_2_h : a1_2.length = a1_2_n) (a1_2_R : Rd w0 F a1_2_A (ii a1_2)) (h : impl_HeapSame.f K a0_0 a0_1 a0_2 a1_0 a1_1 a1_2 = some r1) :
    Calls Try.prog 63 (List.toArray [.agg (List.toArray [.slice a0_0_A a0_0_n a0_0_c, .slice a0_1_A a0_1_n a0_1_c, .slice a0_2_A a0_2_n a0_2_c]), .agg (List.toArray [.slice a1_0_A a1_0_n a1_0_c, .slice a1_1_A a1_1_n a1_1_c, .slice a1_2_A a1_2_n a1_2_c])]) w fun e w' => ∃ x : Unit, e = .returned (.bool r1) ∧ Mem w0 (F) w' := by
  unfold impl_HeapSame.f at h
  refine calls_of_J (n := 24) Try.func63 rfl rfl rfl hm ?_
  refine j_seq ?_
  refine j_region ?_
  refine r_do (a_box rfl rfl) rfl rfl (fun x1 => ?_)
  refine r_do (a_box rfl rfl) rfl rfl (fun x2 => ?_)
  refine r_q (q_assign rfl rfl) rfl rfl ?_
  refine r_nil ?_
  refine j_then ?_
  refine j_seq ?_
  refine j_region ?_
  refine r_q (q_fieldAddr fi25_0 sz23 rfl rfl rfl) rfl rfl ?_
  refine r_q (q_loadb 1 rfl ag23 rfl rfl rfl) rfl rfl ?_
  refine r_q (q_fieldAddr fi25_0 sz23 rfl rfl rfl) rfl rfl ?_
  refine r_q (q_loadb 0 rfl ag23 rfl rfl rfl) rfl rfl ?_
  obtain ⟨v1, hb1, h⟩ := of_b1 h
  refine r_do (a_call ok64 rfl rfl rfl rfl (fun w hm => slices_Equal_int.calls K a0_0 a0_0_A a0_0_n a0_0_c a1_0 a1_0_A a1_0_n a1_0_c hm a0_0_h (Rd.drop 2 a0_0_R) a1_0_h (Rd.drop 2 a1_0_R) hb1)) rfl rfl (fun x3 => ?_)
  refine r_q (q_move rfl rfl) rfl rfl ?_
  rcases of_if h with ⟨c1, h⟩ | ⟨c1, h⟩
  · refine r_qon (q_fieldAddr fi25_1 sz23 rfl rfl rfl) rfl rfl rfl rfl c1 rfl ?_
    refine r_qon (q_loadb 1 rfl ag23 rfl rfl rfl) rfl rfl rfl rfl c1 rfl ?_
    refine r_qon (q_fieldAddr fi25_1 sz23 rfl rfl rfl) rfl rfl rfl rfl c1 rfl ?_
    refine r_qon (q_loadb 0 rfl ag23 rfl rfl rfl) rfl rfl rfl rfl c1 rfl ?_
    obtain ⟨v2, hb2, h⟩ := of_b1 h
    refine r_on (a_call ok64 rfl rfl rfl rfl (fun w hm => slices_Equal_int.calls K a0_1 a0_1_A a0_1_n a0_1_c a1_1 a1_1_A a1_1_n a1_1_c hm a0_1_h (Rd.drop 2 a0_1_R) a1_1_h (Rd.drop 2 a1_1_R) hb2)) rfl rfl rfl rfl c1 rfl (fun x4 => ?_)
    refine r_q (q_pick_t rfl rfl c1 rfl) rfl rfl ?_
    refine r_q (q_move rfl rfl) rfl rfl ?_
    rcases of_if h with ⟨c2, h⟩ | ⟨c2, h⟩
    · refine r_qon (q_fieldAddr fi25_2 sz23 rfl rfl rfl) rfl rfl rfl rfl c2 rfl ?_
      refine r_qon (q_loadb 1 rfl ag23 rfl rfl rfl) rfl rfl rfl rfl c2 rfl ?_
      refine r_qon (q_fieldAddr fi25_2 sz23 rfl rfl rfl) rfl rfl rfl rfl c2 rfl ?_
      refine r_qon (q_loadb 0 rfl ag23 rfl rfl rfl) rfl rfl rfl rfl c2 rfl ?_
      obtain ⟨v3, hb3, h⟩ := of_b1 h
      refine r_on (a_call ok64 rfl rfl rfl rfl (fun w hm => slices_Equal_int.calls K a0_2 a0_2_A a0_2_n a0_2_c a1_2 a1_2_A a1_2_n a1_2_c hm a0_2_h (Rd.drop 2 a0_2_R) a1_2_h (Rd.drop 2 a1_2_R) hb3)) rfl rfl rfl rfl c2 rfl (fun x5 => ?_)
      refine r_q (q_pick_t rfl rfl c2 rfl) rfl rfl ?_
      refine r_q (q_assign rfl rfl) rfl rfl ?_
      refine r_nil ?_
      refine j_then ?_
      refine j_ret ?_
      cases h
      exact j_return rfl (ResOf.tmp rfl ResOf.nil) rfl (fun w h => ⟨(), rfl, (h.drop 2)⟩)
    · refine r_off rfl rfl rfl rfl (var_f c2) rfl ?_
      refine r_off rfl rfl rfl rfl (var_f c2) rfl ?_
      refine r_off rfl rfl rfl rfl (var_f c2) rfl ?_
      refine r_off rfl rfl rfl rfl (var_f c2) rfl ?_
      refine r_off rfl rfl rfl rfl (var_f c2) rfl ?_
      refine r_q (q_pick_f rfl rfl (var_f c2) rfl) rfl rfl ?_
      refine r_q (q_assign rfl rfl) rfl rfl ?_
      refine r_nil ?_
      refine j_then ?_
      refine j_ret ?_
      cases h
      exact j_return rfl (ResOf.tmp rfl ResOf.nil) rfl (fun w h => ⟨(), rfl, (h.drop 2)⟩)
  · refine r_off rfl rfl rfl rfl (var_f c1) rfl ?_
    refine r_off rfl rfl rfl rfl (var_f c1) rfl ?_
    refine r_off rfl rfl rfl rfl (var_f c1) rfl ?_
    refine r_off rfl rfl rfl rfl (var_f c1) rfl ?_
    refine r_off rfl rfl rfl rfl (var_f c1) rfl ?_
    refine r_q (q_pick_f rfl rfl (var_f c1) rfl) rfl rfl ?_
    refine r_q (q_move rfl rfl) rfl rfl ?_
    refine r_off rfl rfl rfl rfl rfl rfl ?_
    refine r_off rfl rfl rfl rfl rfl rfl ?_
    refine r_off rfl rfl rfl rfl rfl rfl ?_
    refine r_off rfl rfl rfl rfl rfl rfl ?_
    refine r_off rfl rfl rfl rfl rfl rfl ?_
    refine r_q (q_pick_f rfl rfl rfl rfl) rfl rfl ?_
    refine r_q (q_assign rfl rfl) rfl rfl ?_
    refine r_nil ?_
    refine j_then ?_
    refine j_ret ?_
    cases h
    exact j_return rfl (ResOf.tmp rfl ResOf.nil) rfl (fun w h => ⟨(), rfl, (h.drop 2)⟩)

theorem impl_ColoredSame.calls (K : Nat) (a0_0 : List Int) (a0_0_A : Option Addr) (a0_0_n a0_0_c : Nat) (a0_1 : List Int) (a0_1_A : Option Addr) (a0_1_n a0_1_c : Nat) (a0_2 : List Int) (a0_2_A : Option Addr) (a0_2_n a0_2_c : Nat) (a0_3 : List Int) (a0_3_A : Option Addr) (a0_3_n a0_3_c : Nat) (a1_0 : List Int) (a1_0_A : Option Addr) (a1_0_n a1_0_c : Nat) (a1_1 : List Int) (a1_1_A : Option Addr) (a1_1_n a1_1_c : Nat) (a1_2 : List Int) (a1_2_A : Option Addr) (a1_2_n a1_2_c : Nat) (a1_3 : List Int) (a1_3_A : Option Addr) (a1_3_n a1_3_c : Nat) {w0 w : World} {F : List Res} {r1 : Bool} (hm : Mem w0 (F) w) (a0_0_h : a0_0.length = a0_0_n) (a0_0_R : Rd w0 F a0_0_A (ii a0_0)) (a0_1_h : a0_1.length = a0_1_n) (a0_1_R : Rd w0 F a0_1_A (ii a0_1)) (a0_2_h : a0_2.length = a0_2_n) (a0_2_R : Rd w0 F a0_2_A (ii a0_2)) (a0_3_h : a0_3.length = a0_3_n) (a0_3_R : Rd w0 F a0_3_A (ii a0_3)) (a1_0_h : a1_0.length = a1_0_n) (a1_0_R : Rd w0 F a1_0_A (ii a1_0)) (a1_1_h : a1_1.length = a1_1_n) (a1_1_R : Rd w0 F a1_1_A (ii a1_1)) (a1_2_h : a1_2.length = a1_2_n) (a1_2_R : Rd w0 F a1_2_A (ii a1_2)) (a1_3_h : a1_3.length = a1_3_n) (a1_3_R : Rd w0 F a1_3_A (ii a1_3)) (h : impl_ColoredSame.f K a0_0 a0_1 a0_2 a0_3 a1_0 a1_1 a1_2 a1_3 = some r1) :
    Calls Try.prog 18 (List.toArray [.agg (List.toArray [.slice a0_0_A a0_0_n a0_0_c, .slice a0_1_A a0_1_n a0_1_c, .slice a0_2_A a0_2_n a0_2_c, .slice a0_3_A a0_3_n a0_3_c]), .agg (List.toArray [.slice a1_0_A a1_0_n a1_0_c, .slice a1_1_A a1_1_n a1_1_c, .slice a1_2_A a1_2_n a1_2_c, .slice a1_3_A a1_3_n a1_3_c])]) w fun e w' => ∃ x : Unit, e = .returned (.bool r1) ∧ Mem w0 (F) w' := by
  unfold impl_ColoredSame.f at h
  refine calls_of_J (n := 17) Try.func18 rfl rfl rfl hm ?_
  refine j_seq ?_
  refine j_region ?_
  refine r_do (a_box rfl rfl) rfl rfl (fun x1 => ?_)
  refine r_do (a_box rfl rfl) rfl rfl (fun x2 => ?_)
  refine r_q (q_assign rfl rfl) rfl rfl ?_
  refine r_nil ?_
  refine j_then ?_
  refine j_seq ?_
  refine j_region ?_
  refine r_q (q_fieldAddr fi27_0 sz25 rfl rfl rfl) rfl rfl ?_
  refine r_q (q_loadb_agg 1 rfl ag25 sz25 rfl rfl rfl rfl) rfl rfl ?_
  refine r_q (q_fieldAddr fi27_0 sz25 rfl rfl rfl) rfl rfl ?_
  refine r_q (q_loadb_agg 0 rfl ag25 sz25 rfl rfl rfl rfl) rfl rfl ?_
  obtain ⟨v1, hb1, h⟩ := of_b1 h
  refine r_do (a_call ok63 rfl rfl rfl rfl (fun w hm => impl_HeapSame.calls K a0_0 a0_0_A a0_0_n a0_0_c a0_1 a0_1_A a0_1_n a0_1_c a0_2 a0_2_A a0_2_n a0_2_c a1_0 a1_0_A a1_0_n a1_0_c a1_1 a1_1_A a1_1_n a1_1_c a1_2 a1_2_A a1_2_n a1_2_c hm a0_0_h (Rd.drop 2 a0_0_R) a0_1_h (Rd.drop 2 a0_1_R) a0_2_h (Rd.drop 2 a0_2_R) a1_0_h (Rd.drop 2 a1_0_R) a1_1_h (Rd.drop 2 a1_1_R) a1_2_h (Rd.drop 2 a1_2_R) hb1)) rfl rfl (fun x3 => ?_)
  refine r_q (q_move rfl rfl) rfl rfl ?_
  rcases of_if h with ⟨c1, h⟩ | ⟨c1, h⟩
  · refine r_qon (q_fieldAddr fi27_1 sz23 rfl rfl rfl) rfl rfl rfl rfl c1 rfl ?_
    refine r_qon (q_loadb 1 rfl ag23 rfl rfl rfl) rfl rfl rfl rfl c1 rfl ?_
    refine r_qon (q_fieldAddr fi27_1 sz23 rfl rfl rfl) rfl rfl rfl rfl c1 rfl ?_
    refine r_qon (q_loadb 0 rfl ag23 rfl rfl rfl) rfl rfl rfl rfl c1 rfl ?_
    obtain ⟨v2, hb2, h⟩ := of_b1 h
    refine r_on (a_call ok64 rfl rfl rfl rfl (fun w hm => slices_Equal_int.calls K a0_3 a0_3_A a0_3_n a0_3_c a1_3 a1_3_A a1_3_n a1_3_c hm a0_3_h (Rd.drop 2 a0_3_R) a1_3_h (Rd.drop 2 a1_3_R) hb2)) rfl rfl rfl rfl c1 rfl (fun x4 => ?_)
    refine r_q (q_pick_t rfl rfl c1 rfl) rfl rfl ?_
    refine r_q (q_assign rfl rfl) rfl rfl ?_
    refine r_nil ?_
    refine j_then ?_
    refine j_ret ?_
    cases h
    exact j_return rfl (ResOf.tmp rfl ResOf.nil) rfl (fun w h => ⟨(), rfl, (h.drop 2)⟩)
  · refine r_off rfl rfl rfl rfl (var_f c1) rfl ?_
    refine r_off rfl rfl rfl rfl (var_f c1) rfl ?_
    refine r_off rfl rfl rfl rfl (var_f c1) rfl ?_
    refine r_off rfl rfl rfl rfl (var_f c1) rfl ?_
    refine r_off rfl rfl rfl rfl (var_f c1) rfl ?_
    refine r_q (q_pick_f rfl rfl (var_f c1) rfl) rfl rfl ?_
    refine r_q (q_assign rfl rfl) rfl rfl ?_
    refine r_nil ?_
    refine j_then ?_
    refine j_ret ?_
    cases h
    exact j_return rfl (ResOf.tmp rfl ResOf.nil) rfl (fun w h => ⟨(), rfl, (h.drop 2)⟩)

end Go.Proofs.Ytcdcikmphonkfaa.F
