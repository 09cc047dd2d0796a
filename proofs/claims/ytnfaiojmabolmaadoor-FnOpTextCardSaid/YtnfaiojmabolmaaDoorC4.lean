/- The program computes these pure functions, printed by the generator of wip/gen. -/
import Derived.Test.YtnfaiojmabolmaaDoorFa
import Derived.Test.YtnfaiojmabolmaaDoorFl
import Derived.Test.YtnfaiojmabolmaaDoorFb
import Derived.Test.YtnfaiojmabolmaaDoorC0
import Derived.Test.YtnfaiojmabolmaaDoorC1
namespace Go.Proofs.YtnfaiojmabolmaaDoor.F
open Go Go.RowKit Go.Proofs.YtnfaiojmabolmaaDoor.S
set_option linter.unusedVariables false
set_option maxRecDepth 100000
theorem spec_l13Open.calls (K : Nat) (a0 : List Int) (a0_A : Option Addr) (a0_n a0_c : Nat) {w0 w : World} {F : List Res} (hm : Mem w0 (F) w) (a0_h : a0.length = a0_n) (a0_R : Rd w0 F a0_A (ints .u8 a0)) (a0_k : a0.length ≤ a0_c) (h : spec_l13Open.f K a0 = some ()) :
    Calls Tryd.prog 38 (List.toArray [.slice a0_A a0_n a0_c]) w fun e w' => ∃ x : Nat, e = .returned (pt x) ∧ Mem w0 (.box x 69 [.slice a0_A (a0.take 2000).length a0_c, i6 (0:Int)] :: F) w' := by
  unfold spec_l13Open.f at h
  refine calls_of_J (n := 11) Tryd.func38 rfl rfl rfl hm ?_
  refine j_seq ?_
  refine j_region ?_
  refine r_q (q_assign rfl rfl) rfl rfl ?_
  refine r_nil ?_
  refine j_then ?_
  refine j_seq ?_
  refine j_seq ?_
  refine j_region ?_
  refine r_q (q_move rfl rfl) rfl rfl ?_
  refine r_q (q_lenX a0 a0_h un34 rfl rfl rfl rfl rfl) rfl rfl ?_
  refine r_q (q_gtr rfl rfl rfl) rfl rfl ?_
  refine r_nil ?_
  refine j_then ?_
  rcases of_if h with ⟨c1, h⟩ | ⟨c1, h⟩
  · refine j_true rfl (decide_eq_true c1) ?_
    refine j_region ?_
    refine r_q (q_move rfl rfl) rfl rfl ?_
    obtain ⟨c2, h⟩ := of_guard h
    refine j_fact (fun w hm => a0_k) (fun k2 => ?_)
    refine r_q (q_hi a0 a0_h k2 c2 un34 sz5 rfl rfl rfl) rfl rfl ?_
    refine r_q (q_assign rfl rfl) rfl rfl ?_
    refine r_nil ?_
    refine j_then ?_
    refine j_seq ?_
    refine j_region ?_
    refine r_q (q_move rfl rfl) rfl rfl ?_
    refine r_q (q_build (cs := [(.slice a0_A (a0.take (2000:Int).toNat).length a0_c), (i6 (0:Int))]) zr69 pl69 rfl rfl rfl rfl) rfl rfl ?_
    refine r_do (a_box rfl rfl) rfl rfl (fun x1 => ?_)
    refine r_q (q_assign rfl rfl) rfl rfl ?_
    refine r_nil ?_
    refine j_then ?_
    refine j_ret ?_
    refine j_rs (.box x1 69 [.slice a0_A (a0.take 2000).length a0_c, i6 (0:Int)] :: F) (fun _ h => h) ?_
    cases h
    exact j_return rfl (ResOf.tmp rfl ResOf.nil) rfl (fun w h => ⟨x1, rfl, h⟩)
  · refine j_false rfl (decide_eq_false c1) ?_
    refine j_skip ?_
    refine j_then ?_
    refine j_seq ?_
    refine j_region ?_
    refine r_q (q_move rfl rfl) rfl rfl ?_
    refine r_q (q_build (cs := [(.slice a0_A a0_n a0_c), (i6 (0:Int))]) zr69 pl69 rfl rfl rfl rfl) rfl rfl ?_
    refine r_do (a_box rfl rfl) rfl rfl (fun x1 => ?_)
    refine r_q (q_assign rfl rfl) rfl rfl ?_
    refine r_nil ?_
    refine j_then ?_
    refine j_ret ?_
    refine j_rs (.box x1 69 [.slice a0_A (a0.take 2000).length a0_c, i6 (0:Int)] :: F) (fun _ h => by rw [take_all (k := 2000) a0_h c1]; exact h) ?_
    cases h
    exact j_return rfl (ResOf.tmp rfl ResOf.nil) rfl (fun w h => ⟨x1, rfl, h⟩)

theorem spec_l13Rd_pick.calls (K : Nat) (a0_g : Nat) (a0_0 : List Int) (a0_0_A : Option Addr) (a0_0_n a0_0_c : Nat) (a0_1 : Int) (a1 : Int) {w0 w : World} {F : List Res} {r1 : Int} {r2 : Int} (hm : Mem w0 (.box a0_g 69 [.slice a0_0_A a0_0_n a0_0_c, i6 a0_1] :: F) w) (a0_0_h : a0_0.length = a0_0_n) (a0_0_R : Rd w0 F a0_0_A (ints .u8 a0_0)) (h : spec_l13Rd_pick.f K a0_0 a0_1 a1 = some (r1, r2)) :
    Calls Tryd.prog 40 (List.toArray [pt a0_g, i6 a1]) w fun e w' => ∃ x : Unit, e = .returned (i6 r1) ∧ Mem w0 (.box a0_g 69 [.slice a0_0_A a0_0_n a0_0_c, i6 r2] :: F) w' := by
  unfold spec_l13Rd_pick.f at h
  refine calls_of_J (n := 99) Tryd.func40 rfl rfl rfl hm ?_
  refine j_seq ?_
  refine j_region ?_
  refine r_q (q_assign rfl rfl) rfl rfl ?_
  refine r_nil ?_
  refine j_then ?_
  refine j_seq ?_
  refine j_region ?_
  refine r_q (q_move rfl rfl) rfl rfl ?_
  refine r_q (q_move rfl rfl) rfl rfl ?_
  refine r_q (q_nilCheck rfl rfl) rfl rfl ?_
  refine r_q (q_fieldAddr fi69_1 sz3 rfl rfl rfl) rfl rfl ?_
  refine r_q (q_loadb 0 rfl ag3 rfl rfl rfl) rfl rfl ?_
  refine r_q (q_add rfl rfl rfl) rfl rfl ?_
  refine r_q (q_nilCheck rfl rfl) rfl rfl ?_
  refine r_q (q_fieldAddr fi69_1 sz3 rfl rfl rfl) rfl rfl ?_
  refine r_do (a_storeb 0 rfl sz3 rfl rfl rfl rfl (Nat.le_of_ble_eq_true rfl) rfl) rfl rfl (fun _ => ?_)
  refine j_b0 [(.slice a0_0_A a0_0_n a0_0_c), (i6 (wrap64 (a0_1 + (1:Int))))] rfl ?_
  refine r_nil ?_
  refine j_then ?_
  refine j_seq ?_
  refine j_seq ?_
  refine j_region ?_
  refine r_q (q_move rfl rfl) rfl rfl ?_
  refine r_q (q_lss rfl rfl rfl) rfl rfl ?_
  refine r_q (q_move rfl rfl) rfl rfl ?_
  rcases of_if h with ⟨c1, h⟩ | ⟨c1, h⟩
  · refine r_off rfl rfl rfl rfl (decide_eq_true c1) rfl ?_
    refine r_off rfl rfl rfl rfl (decide_eq_true c1) rfl ?_
    refine r_off rfl rfl rfl rfl (decide_eq_true c1) rfl ?_
    refine r_off rfl rfl rfl rfl (decide_eq_true c1) rfl ?_
    refine r_off rfl rfl rfl rfl (decide_eq_true c1) rfl ?_
    refine r_off rfl rfl rfl rfl (decide_eq_true c1) rfl ?_
    refine r_q (q_pick_t rfl rfl (decide_eq_true c1) rfl) rfl rfl ?_
    refine r_nil ?_
    refine j_then ?_
    refine j_true rfl rfl ?_
    refine j_seq ?_
    refine j_region ?_
    refine r_q (q_assign rfl rfl) rfl rfl ?_
    refine r_nil ?_
    refine j_then ?_
    refine j_ret ?_
    refine j_then_ret ?_
    cases h
    exact j_return rfl (ResOf.tmp rfl ResOf.nil) rfl (fun w h => ⟨(), rfl, h⟩)
  · refine r_qon (q_move rfl rfl) rfl rfl rfl rfl (decide_eq_false c1) rfl ?_
    refine r_qon (q_nilCheck rfl rfl) rfl rfl rfl rfl (decide_eq_false c1) rfl ?_
    refine r_qon (q_fieldAddr fi69_0 sz34 rfl rfl rfl) rfl rfl rfl rfl (decide_eq_false c1) rfl ?_
    refine r_qon (q_loadb 0 rfl ag34 rfl rfl rfl) rfl rfl rfl rfl (decide_eq_false c1) rfl ?_
    refine r_qon (q_lenX a0_0 a0_0_h un34 rfl rfl rfl rfl rfl) rfl rfl rfl rfl (decide_eq_false c1) rfl ?_
    refine r_qon (q_eql rfl rfl rfl) rfl rfl rfl rfl (decide_eq_false c1) rfl ?_
    refine r_q (q_pick_f rfl rfl (decide_eq_false c1) rfl) rfl rfl ?_
    refine r_nil ?_
    refine j_then ?_
    rcases of_if h with ⟨c2, h⟩ | ⟨c2, h⟩
    · refine j_true rfl (beq_t c2) ?_
      refine j_seq ?_
      refine j_region ?_
      refine r_q (q_assign rfl rfl) rfl rfl ?_
      refine r_nil ?_
      refine j_then ?_
      refine j_ret ?_
      refine j_then_ret ?_
      cases h
      exact j_return rfl (ResOf.tmp rfl ResOf.nil) rfl (fun w h => ⟨(), rfl, h⟩)
    · refine j_false rfl (beq_f c2) ?_
      refine j_skip ?_
      refine j_then ?_
      refine j_seq ?_
      refine j_region ?_
      refine r_q (q_move rfl rfl) rfl rfl ?_
      refine r_q (q_nilCheck rfl rfl) rfl rfl ?_
      refine r_q (q_fieldAddr fi69_1 sz3 rfl rfl rfl) rfl rfl ?_
      refine r_q (q_loadb 0 rfl ag3 rfl rfl rfl) rfl rfl ?_
      refine r_q (q_sub rfl rfl rfl) rfl rfl ?_
      refine r_q (q_assign rfl rfl) rfl rfl ?_
      refine r_nil ?_
      refine j_then ?_
      refine j_seq ?_
      refine j_seq ?_
      refine j_region ?_
      refine r_q (q_move rfl rfl) rfl rfl ?_
      refine r_q (q_move rfl rfl) rfl rfl ?_
      refine r_q (q_nilCheck rfl rfl) rfl rfl ?_
      refine r_q (q_fieldAddr fi69_0 sz34 rfl rfl rfl) rfl rfl ?_
      refine r_q (q_loadb 0 rfl ag34 rfl rfl rfl) rfl rfl ?_
      refine r_q (q_lenX a0_0 a0_0_h un34 rfl rfl rfl rfl rfl) rfl rfl ?_
      refine r_q (q_lss rfl rfl rfl) rfl rfl ?_
      refine r_nil ?_
      refine j_then ?_
      rcases of_if h with ⟨c3, h⟩ | ⟨c3, h⟩
      · refine j_true rfl (decide_eq_true c3) ?_
        refine j_seq ?_
        refine j_region ?_
        refine r_q (q_move rfl rfl) rfl rfl ?_
        refine r_q (q_nilCheck rfl rfl) rfl rfl ?_
        refine r_q (q_fieldAddr fi69_0 sz34 rfl rfl rfl) rfl rfl ?_
        refine r_q (q_loadb 0 rfl ag34 rfl rfl rfl) rfl rfl ?_
        refine r_q (q_move rfl rfl) rfl rfl ?_
        obtain ⟨c4, h⟩ := of_guard h
        refine r_q (q_ix (Rd.drop 1 a0_0_R) (ints_len1 _ a0_0) (by decide) a0_0_h c4 un34 sz5 rfl rfl rfl) rfl rfl ?_
        refine r_q (q_ldI (Rd.drop 1 a0_0_R) c4 ag5 rfl rfl) rfl rfl ?_
        refine r_q (q_int un5 un3 rfl rfl) rfl rfl ?_
        refine r_q (q_move rfl rfl) rfl rfl ?_
        obtain ⟨c5, h⟩ := of_guard h
        refine r_q (q_rem rfl rfl rfl c5) rfl rfl ?_
        refine r_q (q_assign rfl rfl) rfl rfl ?_
        refine r_nil ?_
        refine j_then ?_
        refine j_ret ?_
        refine j_then_ret ?_
        cases h
        exact j_return rfl (ResOf.tmp rfl ResOf.nil) rfl (fun w h => ⟨(), rfl, h⟩)
      · refine j_false rfl (decide_eq_false c3) ?_
        refine j_skip ?_
        refine j_then ?_
        refine j_seq ?_
        obtain ⟨c6, h⟩ := of_guard h
        obtain ⟨c7, h⟩ := of_guard h
        obtain ⟨c8, h⟩ := of_guard h
        refine j_draw (.box a0_g 69 [(.slice a0_0_A a0_0_n a0_0_c), (i6 (wrap64 (a0_1 + (1:Int))))] :: F) 46 follows_any rfl ?_
        refine d_take 0 rfl (q_move rfl rfl) rfl rfl (by kernel_rfl) (by kernel_rfl) (by kernel_rfl) (fun w h => h) ?_
        refine d_take 1 rfl (q_nilCheck rfl rfl) rfl rfl (by kernel_rfl) (by kernel_rfl) (by kernel_rfl) (fun w h => h) ?_
        refine d_take 2 rfl (q_fieldAddr fi69_0 sz34 rfl rfl rfl) rfl rfl (by kernel_rfl) (by kernel_rfl) (by kernel_rfl) (fun w h => h) ?_
        refine d_take 3 rfl (q_loadb 0 rfl ag34 rfl rfl rfl) rfl rfl (by kernel_rfl) (by kernel_rfl) (by kernel_rfl) (fun w h => h) ?_
        refine d_take 4 rfl (q_move rfl rfl) rfl rfl (by kernel_rfl) (by kernel_rfl) (by kernel_rfl) (fun w h => h) ?_
        refine d_take 5 rfl (q_move rfl rfl) rfl rfl (by kernel_rfl) (by kernel_rfl) (by kernel_rfl) (fun w h => h) ?_
        refine d_take 6 rfl (q_nilCheck rfl rfl) rfl rfl (by kernel_rfl) (by kernel_rfl) (by kernel_rfl) (fun w h => h) ?_
        refine d_take 7 rfl (q_fieldAddr fi69_0 sz34 rfl rfl rfl) rfl rfl (by kernel_rfl) (by kernel_rfl) (by kernel_rfl) (fun w h => h) ?_
        refine d_take 8 rfl (q_loadb 0 rfl ag34 rfl rfl rfl) rfl rfl (by kernel_rfl) (by kernel_rfl) (by kernel_rfl) (fun w h => h) ?_
        refine d_take 9 rfl (q_lenX a0_0 a0_0_h un34 rfl rfl rfl rfl rfl) rfl rfl (by kernel_rfl) (by kernel_rfl) (by kernel_rfl) (fun w h => h) ?_
        refine d_take 10 rfl (q_rem rfl rfl rfl c6) rfl rfl (by kernel_rfl) (by kernel_rfl) (by kernel_rfl) (fun w h => h) ?_
        refine d_take 11 rfl (q_ix (Rd.drop 1 a0_0_R) (ints_len1 _ a0_0) (by decide) a0_0_h c7 un34 sz5 rfl rfl rfl) rfl rfl (by kernel_rfl) (by kernel_rfl) (by kernel_rfl) (fun w h => h) ?_
        refine d_take 12 rfl (q_ldI (Rd.drop 1 a0_0_R) c7 ag5 rfl rfl) rfl rfl (by kernel_rfl) (by kernel_rfl) (by kernel_rfl) (fun w h => h) ?_
        refine d_take 13 rfl (q_int un5 un3 rfl rfl) rfl rfl (by kernel_rfl) (by kernel_rfl) (by kernel_rfl) (fun w h => h) ?_
        refine d_take 14 rfl (q_mul rfl rfl rfl) rfl rfl (by kernel_rfl) (by kernel_rfl) (by kernel_rfl) (fun w h => h) ?_
        refine d_take 15 rfl (q_move rfl rfl) rfl rfl (by kernel_rfl) (by kernel_rfl) (by kernel_rfl) (fun w h => h) ?_
        refine d_take 16 rfl (q_nilCheck rfl rfl) rfl rfl (by kernel_rfl) (by kernel_rfl) (by kernel_rfl) (fun w h => h) ?_
        refine d_take 17 rfl (q_fieldAddr fi69_0 sz34 rfl rfl rfl) rfl rfl (by kernel_rfl) (by kernel_rfl) (by kernel_rfl) (fun w h => h) ?_
        refine d_take 18 rfl (q_loadb 0 rfl ag34 rfl rfl rfl) rfl rfl (by kernel_rfl) (by kernel_rfl) (by kernel_rfl) (fun w h => h) ?_
        refine d_take 19 rfl (q_move rfl rfl) rfl rfl (by kernel_rfl) (by kernel_rfl) (by kernel_rfl) (fun w h => h) ?_
        refine d_take 20 rfl (q_mul rfl rfl rfl) rfl rfl (by kernel_rfl) (by kernel_rfl) (by kernel_rfl) (fun w h => h) ?_
        refine d_take 21 rfl (q_add rfl rfl rfl) rfl rfl (by kernel_rfl) (by kernel_rfl) (by kernel_rfl) (fun w h => h) ?_
        refine d_take 22 rfl (q_move rfl rfl) rfl rfl (by kernel_rfl) (by kernel_rfl) (by kernel_rfl) (fun w h => h) ?_
        refine d_take 23 rfl (q_nilCheck rfl rfl) rfl rfl (by kernel_rfl) (by kernel_rfl) (by kernel_rfl) (fun w h => h) ?_
        refine d_take 24 rfl (q_fieldAddr fi69_0 sz34 rfl rfl rfl) rfl rfl (by kernel_rfl) (by kernel_rfl) (by kernel_rfl) (fun w h => h) ?_
        refine d_take 25 rfl (q_loadb 0 rfl ag34 rfl rfl rfl) rfl rfl (by kernel_rfl) (by kernel_rfl) (by kernel_rfl) (fun w h => h) ?_
        refine d_take 26 rfl (q_lenX a0_0 a0_0_h un34 rfl rfl rfl rfl rfl) rfl rfl (by kernel_rfl) (by kernel_rfl) (by kernel_rfl) (fun w h => h) ?_
        refine d_take 27 rfl (q_rem rfl rfl rfl c6) rfl rfl (by kernel_rfl) (by kernel_rfl) (by kernel_rfl) (fun w h => h) ?_
        refine d_take 28 rfl (q_ix (Rd.drop 1 a0_0_R) (ints_len1 _ a0_0) (by decide) a0_0_h c8 un34 sz5 rfl rfl rfl) rfl rfl (by kernel_rfl) (by kernel_rfl) (by kernel_rfl) (fun w h => h) ?_
        refine d_take 29 rfl (q_ldI (Rd.drop 1 a0_0_R) c8 ag5 rfl rfl) rfl rfl (by kernel_rfl) (by kernel_rfl) (by kernel_rfl) (fun w h => h) ?_
        refine d_take 30 rfl (q_int un5 un3 rfl rfl) rfl rfl (by kernel_rfl) (by kernel_rfl) (by kernel_rfl) (fun w h => h) ?_
        refine d_take 31 rfl (q_mul rfl rfl rfl) rfl rfl (by kernel_rfl) (by kernel_rfl) (by kernel_rfl) (fun w h => h) ?_
        refine d_take 32 rfl (q_add rfl rfl rfl) rfl rfl (by kernel_rfl) (by kernel_rfl) (by kernel_rfl) (fun w h => h) ?_
        refine d_take 33 rfl (q_move rfl rfl) rfl rfl (by kernel_rfl) (by kernel_rfl) (by kernel_rfl) (fun w h => h) ?_
        refine d_take 34 rfl (q_mul rfl rfl rfl) rfl rfl (by kernel_rfl) (by kernel_rfl) (by kernel_rfl) (fun w h => h) ?_
        refine d_take 35 rfl (q_add rfl rfl rfl) rfl rfl (by kernel_rfl) (by kernel_rfl) (by kernel_rfl) (fun w h => h) ?_
        refine d_take 36 rfl (q_move rfl rfl) rfl rfl (by kernel_rfl) (by kernel_rfl) (by kernel_rfl) (fun w h => h) ?_
        refine d_take 37 rfl (q_move rfl rfl) rfl rfl (by kernel_rfl) (by kernel_rfl) (by kernel_rfl) (fun w h => h) ?_
        refine d_take 38 rfl (q_nilCheck rfl rfl) rfl rfl (by kernel_rfl) (by kernel_rfl) (by kernel_rfl) (fun w h => h) ?_
        refine d_take 39 rfl (q_fieldAddr fi69_0 sz34 rfl rfl rfl) rfl rfl (by kernel_rfl) (by kernel_rfl) (by kernel_rfl) (fun w h => h) ?_
        refine d_take 40 rfl (q_loadb 0 rfl ag34 rfl rfl rfl) rfl rfl (by kernel_rfl) (by kernel_rfl) (by kernel_rfl) (fun w h => h) ?_
        refine d_take 41 rfl (q_lenX a0_0 a0_0_h un34 rfl rfl rfl rfl rfl) rfl rfl (by kernel_rfl) (by kernel_rfl) (by kernel_rfl) (fun w h => h) ?_
        refine d_take 42 rfl (q_quo rfl rfl rfl c6) rfl rfl (by kernel_rfl) (by kernel_rfl) (by kernel_rfl) (fun w h => h) ?_
        refine d_take 43 rfl (q_mul rfl rfl rfl) rfl rfl (by kernel_rfl) (by kernel_rfl) (by kernel_rfl) (fun w h => h) ?_
        refine d_take 44 rfl (q_add rfl rfl rfl) rfl rfl (by kernel_rfl) (by kernel_rfl) (by kernel_rfl) (fun w h => h) ?_
        refine d_take 45 rfl (q_assign rfl rfl) rfl rfl (by kernel_rfl) (by kernel_rfl) (by kernel_rfl) (fun w h => h) ?_
        refine d_done (by kernel_rfl) ?_
        refine j_then ?_
        refine j_seq ?_
        refine j_region ?_
        refine r_q (q_move rfl rfl) rfl rfl ?_
        refine r_q (q_move rfl rfl) rfl rfl ?_
        refine r_q (q_quo rfl rfl rfl (by decide)) rfl rfl ?_
        refine r_q (q_xor rfl rfl rfl) rfl rfl ?_
        refine r_q (q_assign rfl rfl) rfl rfl ?_
        refine r_nil ?_
        refine j_then ?_
        refine j_seq ?_
        refine j_region ?_
        refine r_q (q_move rfl rfl) rfl rfl ?_
        refine r_q (q_move rfl rfl) rfl rfl ?_
        obtain ⟨c9, h⟩ := of_guard h
        refine r_q (q_rem rfl rfl rfl c9) rfl rfl ?_
        refine r_q (q_assign rfl rfl) rfl rfl ?_
        refine r_nil ?_
        refine j_then ?_
        refine j_ret ?_
        cases h
        exact j_return rfl (ResOf.tmp rfl ResOf.nil) rfl (fun w h => ⟨(), rfl, h⟩)

theorem spec_l13Rd_num.calls (K : Nat) (a0_g : Nat) (a0_0 : List Int) (a0_0_A : Option Addr) (a0_0_n a0_0_c : Nat) (a0_1 : Int) (a1 : List Int) (a1_A : Option Addr) (a1_n a1_c : Nat) {w0 w : World} {F : List Res} {r1 : Int} {r2 : Int} (hm : Mem w0 (.box a0_g 69 [.slice a0_0_A a0_0_n a0_0_c, i6 a0_1] :: F) w) (a0_0_h : a0_0.length = a0_0_n) (a0_0_R : Rd w0 F a0_0_A (ints .u8 a0_0)) (a1_h : a1.length = a1_n) (a1_R : Rd w0 F a1_A (ii a1)) (h : spec_l13Rd_num.f K a0_0 a0_1 a1 = some (r1, r2)) :
    Calls Tryd.prog 41 (List.toArray [pt a0_g, .slice a1_A a1_n a1_c]) w fun e w' => ∃ x : Unit, e = .returned (i6 r1) ∧ Mem w0 (.box a0_g 69 [.slice a0_0_A a0_0_n a0_0_c, i6 r2] :: F) w' := by
  unfold spec_l13Rd_num.f at h
  refine calls_of_J (n := 12) Tryd.func41 rfl rfl rfl hm ?_
  refine j_seq ?_
  refine j_region ?_
  refine r_q (q_assign rfl rfl) rfl rfl ?_
  refine r_nil ?_
  refine j_then ?_
  refine j_seq ?_
  refine j_region ?_
  refine r_q (q_move rfl rfl) rfl rfl ?_
  refine r_q (q_move rfl rfl) rfl rfl ?_
  refine r_q (q_move rfl rfl) rfl rfl ?_
  refine r_q (q_lenX a1 a1_h un60 rfl rfl rfl rfl rfl) rfl rfl ?_
  obtain ⟨v1, v2, hb1, h⟩ := of_b2 h
  refine r_do (a_call ok40 rfl rfl rfl rfl (fun w hm => spec_l13Rd_pick.calls K a0_g a0_0 a0_0_A a0_0_n a0_0_c a0_1 (a1.length : Int) hm a0_0_h a0_0_R hb1)) rfl rfl (fun x1 => ?_)
  obtain ⟨c1, h⟩ := of_guard h
  refine r_q (q_ix (Rd.drop 1 a1_R) (ints_len1 _ a1) (by decide) a1_h c1 un60 sz3 rfl rfl rfl) rfl rfl ?_
  refine r_q (q_ldI (Rd.drop 1 a1_R) c1 ag3 rfl rfl) rfl rfl ?_
  refine r_q (q_assign rfl rfl) rfl rfl ?_
  refine r_nil ?_
  refine j_then ?_
  refine j_ret ?_
  cases h
  exact j_return rfl (ResOf.tmp rfl ResOf.nil) rfl (fun w h => ⟨(), rfl, h⟩)

theorem spec_l5Op.calls (K : Nat) (a0_g : Nat) (a0_0 : List Int) (a0_0_A : Option Addr) (a0_0_n a0_0_c : Nat) (a0_1 : Int) {w0 w : World} {F : List Res} {r1 : Int} {r2 : Int} {r3 : Int} {r4 : Int} (hm : Mem w0 (.box a0_g 69 [.slice a0_0_A a0_0_n a0_0_c, i6 a0_1] :: F) w) (a0_0_h : a0_0.length = a0_0_n) (a0_0_R : Rd w0 F a0_0_A (ints .u8 a0_0)) (h : spec_l5Op.f K a0_0 a0_1 = some (r1, r2, r3, r4)) :
    Calls Tryd.prog 46 (List.toArray [pt a0_g]) w fun e w' => ∃ x : Unit, e = .returned (.agg (List.toArray [i6 r1, i6 r2, i6 r3])) ∧ Mem w0 (.box a0_g 69 [.slice a0_0_A a0_0_n a0_0_c, i6 r4] :: F) w' := by
  unfold spec_l5Op.f at h
  refine calls_of_J (n := 19) Tryd.func46 rfl rfl rfl hm ?_
  refine j_seq ?_
  refine j_region ?_
  refine r_do (a_alloc zr25 rfl) rfl rfl (fun x1 => ?_)
  refine r_nil ?_
  refine j_then ?_
  refine j_seq ?_
  refine j_region ?_
  refine r_q (q_move rfl rfl) rfl rfl ?_
  refine r_do (a_litX (vs := [(i6 (1:Int)), (i6 (5:Int)), (i6 (2:Int)), (i6 (3:Int)), (i6 (4:Int)), (i6 (6:Int)), (i6 (7:Int)), (i6 (1:Int))]) (ii ([(1:Int), (5:Int), (2:Int), (3:Int), (4:Int), (6:Int), (7:Int), (1:Int)] : List Int)) un60 sz3 zr3 rfl rfl rfl rfl rfl rfl rfl rfl rfl) rfl rfl (fun x2 => ?_)
  obtain ⟨v1, v2, hb1, h⟩ := of_b2 h
  refine j_rs (.box a0_g 69 [(.slice a0_0_A a0_0_n a0_0_c), (i6 a0_1)] :: .row x2 8 3 1 (ii ([(1:Int), (5:Int), (2:Int), (3:Int), (4:Int), (6:Int), (7:Int), (1:Int)] : List Int)) :: .box x1 25 [(i6 (0:Int)), (i6 (0:Int)), (i6 (0:Int))] :: F) (fun _ h => h.pick 3 [2, 0, 1] rfl) ?_
  refine r_do (a_call ok41 rfl rfl rfl rfl (fun w hm => spec_l13Rd_num.calls K a0_g a0_0 a0_0_A a0_0_n a0_0_c a0_1 ([(1:Int), (5:Int), (2:Int), (3:Int), (4:Int), (6:Int), (7:Int), (1:Int)] : List Int) x2 8 8 hm a0_0_h (Rd.drop 2 a0_0_R) rfl (Rd.row 0 rfl) hb1)) rfl rfl (fun x3 => ?_)
  refine r_q (q_move rfl rfl) rfl rfl ?_
  refine r_do (a_litX (vs := [(i6 (0:Int)), (i6 (1:Int)), (i6 (0:Int)), (i6 (2:Int))]) (ii ([(0:Int), (1:Int), (0:Int), (2:Int)] : List Int)) un60 sz3 zr3 rfl rfl rfl rfl rfl rfl rfl rfl rfl) rfl rfl (fun x4 => ?_)
  obtain ⟨v3, v4, hb2, h⟩ := of_b2 h
  refine j_rs (.box a0_g 69 [(.slice a0_0_A a0_0_n a0_0_c), (i6 v2)] :: .row x4 4 3 1 (ii ([(0:Int), (1:Int), (0:Int), (2:Int)] : List Int)) :: .row x2 8 3 1 (ii ([(1:Int), (5:Int), (2:Int), (3:Int), (4:Int), (6:Int), (7:Int), (1:Int)] : List Int)) :: .box x1 25 [(i6 (0:Int)), (i6 (0:Int)), (i6 (0:Int))] :: F) (fun _ h => h.pick 4 [1, 0, 2, 3] rfl) ?_
  refine r_do (a_call ok41 rfl rfl rfl rfl (fun w hm => spec_l13Rd_num.calls K a0_g a0_0 a0_0_A a0_0_n a0_0_c v2 ([(0:Int), (1:Int), (0:Int), (2:Int)] : List Int) x4 4 4 hm a0_0_h (Rd.drop 3 a0_0_R) rfl (Rd.row 0 rfl) hb2)) rfl rfl (fun x5 => ?_)
  refine r_q (q_move rfl rfl) rfl rfl ?_
  refine r_do (a_litX (vs := [(i6 (0:Int)), (i6 (1:Int)), (i6 (1:Int)), (i6 (2:Int))]) (ii ([(0:Int), (1:Int), (1:Int), (2:Int)] : List Int)) un60 sz3 zr3 rfl rfl rfl rfl rfl rfl rfl rfl rfl) rfl rfl (fun x6 => ?_)
  obtain ⟨v5, v6, hb3, h⟩ := of_b2 h
  refine j_rs (.box a0_g 69 [(.slice a0_0_A a0_0_n a0_0_c), (i6 v4)] :: .row x6 4 3 1 (ii ([(0:Int), (1:Int), (1:Int), (2:Int)] : List Int)) :: .row x4 4 3 1 (ii ([(0:Int), (1:Int), (0:Int), (2:Int)] : List Int)) :: .row x2 8 3 1 (ii ([(1:Int), (5:Int), (2:Int), (3:Int), (4:Int), (6:Int), (7:Int), (1:Int)] : List Int)) :: .box x1 25 [(i6 (0:Int)), (i6 (0:Int)), (i6 (0:Int))] :: F) (fun _ h => h.pick 5 [1, 0, 2, 3, 4] rfl) ?_
  refine r_do (a_call ok41 rfl rfl rfl rfl (fun w hm => spec_l13Rd_num.calls K a0_g a0_0 a0_0_A a0_0_n a0_0_c v4 ([(0:Int), (1:Int), (1:Int), (2:Int)] : List Int) x6 4 4 hm a0_0_h (Rd.drop 4 a0_0_R) rfl (Rd.row 0 rfl) hb3)) rfl rfl (fun x7 => ?_)
  refine r_q (q_build (cs := [(i6 v1), (i6 v3), (i6 v5)]) zr25 pl25 rfl rfl rfl rfl) rfl rfl ?_
  refine r_do (a_alloc zr25 rfl) rfl rfl (fun x8 => ?_)
  refine r_do (a_storeb 0 rfl sz25 rfl rfl rfl rfl (Nat.le_of_ble_eq_true rfl) rfl) rfl rfl (fun _ => ?_)
  refine j_b0 [(i6 v1), (i6 v3), (i6 v5)] rfl ?_
  refine r_nil ?_
  refine j_then ?_
  refine j_seq ?_
  refine j_seq ?_
  refine j_region ?_
  refine r_q (q_fieldAddr fi25_0 sz3 rfl rfl rfl) rfl rfl ?_
  refine r_q (q_loadb 0 rfl ag3 rfl rfl rfl) rfl rfl ?_
  obtain ⟨v7, hb4, h⟩ := of_b1 h
  refine r_do (a_call ok34 rfl rfl rfl rfl (fun w hm => spec_l5One.calls K v1 hm hb4)) rfl rfl (fun x9 => ?_)
  refine r_nil ?_
  refine j_then ?_
  rcases of_if h with ⟨c1, h⟩ | ⟨c1, h⟩
  · refine j_true rfl c1 ?_
    refine j_region ?_
    refine r_q (q_fieldAddr fi25_2 sz3 rfl rfl rfl) rfl rfl ?_
    refine r_do (a_storeb 0 rfl sz3 rfl rfl rfl rfl (Nat.le_of_ble_eq_true rfl) rfl) rfl rfl (fun _ => ?_)
    refine j_b0 [(i6 v1), (i6 v3), (i6 (0:Int))] rfl ?_
    refine r_nil ?_
    refine j_then ?_
    refine j_seq ?_
    refine j_region ?_
    refine r_q (q_loadb_agg 0 rfl ag25 sz25 rfl rfl rfl rfl) rfl rfl ?_
    refine r_do (a_storeb 5 rfl sz25 rfl rfl rfl rfl (Nat.le_of_ble_eq_true rfl) rfl) rfl rfl (fun _ => ?_)
    refine j_b5 [(i6 v1), (i6 v3), (i6 (0:Int))] rfl ?_
    refine r_nil ?_
    refine j_then ?_
    refine j_ret ?_
    cases h
    exact j_return rfl (ResOf.cell 5 rfl rfl ag25 sz25 ResOf.nil) rfl (fun w h => ⟨(), rfl, h.pick 6 [1] rfl⟩)
  · refine j_false rfl (var_f c1) ?_
    refine j_skip ?_
    refine j_then ?_
    refine j_seq ?_
    refine j_region ?_
    refine r_q (q_loadb_agg 0 rfl ag25 sz25 rfl rfl rfl rfl) rfl rfl ?_
    refine r_do (a_storeb 5 rfl sz25 rfl rfl rfl rfl (Nat.le_of_ble_eq_true rfl) rfl) rfl rfl (fun _ => ?_)
    refine j_b5 [(i6 v1), (i6 v3), (i6 v5)] rfl ?_
    refine r_nil ?_
    refine j_then ?_
    refine j_ret ?_
    cases h
    exact j_return rfl (ResOf.cell 5 rfl rfl ag25 sz25 ResOf.nil) rfl (fun w h => ⟨(), rfl, h.pick 6 [1] rfl⟩)

theorem spec_DrawOpValid.calls (K : Nat) (a0 : List Int) (a0_A : Option Addr) (a0_n a0_c : Nat) {w0 w : World} {F : List Res} {r1 : Int} {r2 : Int} {r3 : Int} {r4 : Int} (hm : Mem w0 (F) w) (a0_h : a0.length = a0_n) (a0_R : Rd w0 F a0_A (ints .u8 a0)) (a0_k : a0.length ≤ a0_c) (h : spec_DrawOpValid.f K a0 = some (r1, r2, r3, r4)) :
    Calls Tryd.prog 45 (List.toArray [.slice a0_A a0_n a0_c]) w fun e w' => ∃ x : Unit, e = .returned (.tuple (List.toArray [.agg (List.toArray [i6 r1, i6 r2, i6 r3]), i6 r4])) ∧ Mem w0 (F) w' := by
  unfold spec_DrawOpValid.f at h
  refine calls_of_J (n := 34) Tryd.func45 rfl rfl rfl hm ?_
  refine j_seq ?_
  refine j_region ?_
  refine r_do (a_alloc zr25 rfl) rfl rfl (fun x1 => ?_)
  refine r_q (q_assign rfl rfl) rfl rfl ?_
  refine r_nil ?_
  refine j_then ?_
  refine j_seq ?_
  refine j_region ?_
  refine r_q (q_move rfl rfl) rfl rfl ?_
  obtain ⟨_, hb1, h⟩ := of_b1 h
  refine r_do (a_call ok38 rfl rfl rfl rfl (fun w hm => spec_l13Open.calls K a0 a0_A a0_n a0_c hm a0_h (Rd.drop 1 a0_R) a0_k hb1)) rfl rfl (fun x2 => ?_)
  refine r_q (q_assign rfl rfl) rfl rfl ?_
  refine r_nil ?_
  refine j_then ?_
  refine j_seq ?_
  refine j_region ?_
  refine r_q (q_move rfl rfl) rfl rfl ?_
  obtain ⟨v1, v2, v3, v4, hb2, h⟩ := of_b4 h
  refine r_do (a_call ok46 rfl rfl rfl rfl (fun w hm => spec_l5Op.calls K x2 (a0.take 2000) a0_A (a0.take 2000).length a0_c (0:Int) hm rfl (rd_hiI (Rd.drop 1 a0_R) 2000) hb2)) rfl rfl (fun x3 => ?_)
  refine r_do (a_alloc zr25 rfl) rfl rfl (fun x4 => ?_)
  refine r_do (a_storeb 0 rfl sz25 rfl rfl rfl rfl (Nat.le_of_ble_eq_true rfl) rfl) rfl rfl (fun _ => ?_)
  refine j_b0 [(i6 v1), (i6 v2), (i6 v3)] rfl ?_
  refine r_nil ?_
  refine j_then ?_
  refine j_seq ?_
  refine j_seq ?_
  refine j_region ?_
  refine r_q (q_move rfl rfl) rfl rfl ?_
  obtain ⟨v5, v6, hb3, h⟩ := of_b2 h
  refine j_rs (.box x2 69 [(.slice a0_A (a0.take 2000).length a0_c), (i6 v4)] :: .box x4 25 [(i6 v1), (i6 v2), (i6 v3)] :: .box x1 25 [(i6 (0:Int)), (i6 (0:Int)), (i6 (0:Int))] :: F) (fun _ h => h.pick 3 [1, 0, 2] rfl) ?_
  refine r_do (a_call ok40 rfl rfl rfl rfl (fun w hm => spec_l13Rd_pick.calls K x2 (a0.take 2000) a0_A (a0.take 2000).length a0_c v4 (6:Int) hm rfl (rd_hiI (Rd.drop 2 a0_R) 2000) hb3)) rfl rfl (fun x5 => ?_)
  refine r_nil ?_
  refine j_then ?_
  refine j_block ?_
  refine j_seq ?_
  refine j_region ?_
  refine r_q (q_eql rfl rfl rfl) rfl rfl ?_
  refine r_q (q_assign rfl rfl) rfl rfl ?_
  refine r_nil ?_
  refine j_then ?_
  rcases of_if h with ⟨c1, h⟩ | ⟨c1, h⟩
  · refine j_true rfl (beq_t c1) ?_
    refine j_region ?_
    refine r_q (q_move rfl rfl) rfl rfl ?_
    refine r_do (a_litX (vs := [(i6 (0:Int)), (i6 (8:Int)), (i6 (1:Int))]) (ii ([(0:Int), (8:Int), (1:Int)] : List Int)) un60 sz3 zr3 rfl rfl rfl rfl rfl rfl rfl rfl rfl) rfl rfl (fun x6 => ?_)
    obtain ⟨v7, v8, hb4, h⟩ := of_b2 h
    refine j_rs (.box x2 69 [(.slice a0_A (a0.take 2000).length a0_c), (i6 v6)] :: .row x6 3 3 1 (ii ([(0:Int), (8:Int), (1:Int)] : List Int)) :: .box x4 25 [(i6 v1), (i6 v2), (i6 v3)] :: .box x1 25 [(i6 (0:Int)), (i6 (0:Int)), (i6 (0:Int))] :: F) (fun _ h => h.pick 4 [1, 0, 2, 3] rfl) ?_
    refine r_do (a_call ok41 rfl rfl rfl rfl (fun w hm => spec_l13Rd_num.calls K x2 (a0.take 2000) a0_A (a0.take 2000).length a0_c v6 ([(0:Int), (8:Int), (1:Int)] : List Int) x6 3 3 hm rfl (rd_hiI (Rd.drop 3 a0_R) 2000) rfl (Rd.row 0 rfl) hb4)) rfl rfl (fun x7 => ?_)
    refine r_q (q_fieldAddr fi25_0 sz3 rfl rfl rfl) rfl rfl ?_
    refine r_do (a_storeb 2 rfl sz3 rfl rfl rfl rfl (Nat.le_of_ble_eq_true rfl) rfl) rfl rfl (fun _ => ?_)
    refine j_b2 [(i6 v7), (i6 v2), (i6 v3)] rfl ?_
    refine r_nil ?_
    refine j_in ?_
    refine j_then ?_
    refine j_seq ?_
    obtain ⟨v9, v10, hb5, h⟩ := of_b2 h
    refine j_draw (.row x6 3 3 1 (ii ([(0:Int), (8:Int), (1:Int)] : List Int)) :: .box x4 25 [(i6 v7), (i6 v2), (i6 v3)] :: F) 6 follows_any rfl ?_
    refine d_take 0 rfl (q_loadb_agg 1 rfl ag25 sz25 rfl rfl rfl rfl) rfl rfl (by kernel_rfl) (by kernel_rfl) (by kernel_rfl) (fun w h => h.pick 4 [1, 2] rfl) ?_
    refine d_take 1 rfl (q_move rfl rfl) rfl rfl (by kernel_rfl) (by kernel_rfl) (by kernel_rfl) (fun w h => h.pick 4 [1, 2] rfl) ?_
    refine d_one 2 (by kernel_rfl) ?_
    refine o_do rfl (a_litX (vs := [(i6 (2:Int)), (i6 (3:Int)), (i6 (1:Int)), (i6 (0:Int)), (i6 (5:Int))]) (ii ([(2:Int), (3:Int), (1:Int), (0:Int), (5:Int)] : List Int)) un60 sz3 zr3 rfl rfl rfl rfl rfl rfl rfl rfl rfl) rfl rfl (fun x8 w h => h.pick 5 [2, 3] rfl) (fun x8 => ?_)
    refine d_one 3 (by kernel_rfl) ?_
    refine j_rs (.box x2 69 [(.slice a0_A (a0.take 2000).length a0_c), (i6 v8)] :: .row x8 5 3 1 (ii ([(2:Int), (3:Int), (1:Int), (0:Int), (5:Int)] : List Int)) :: .row x6 3 3 1 (ii ([(0:Int), (8:Int), (1:Int)] : List Int)) :: .box x4 25 [(i6 v7), (i6 v2), (i6 v3)] :: .box x1 25 [(i6 (0:Int)), (i6 (0:Int)), (i6 (0:Int))] :: F) (fun _ h => h.pick 5 [1, 0, 2, 3, 4] rfl) ?_
    refine o_do rfl (a_call ok41 rfl rfl rfl rfl (fun w hm => spec_l13Rd_num.calls K x2 (a0.take 2000) a0_A (a0.take 2000).length a0_c v8 ([(2:Int), (3:Int), (1:Int), (0:Int), (5:Int)] : List Int) x8 5 5 hm rfl (rd_hiI (Rd.drop 4 a0_R) 2000) rfl (Rd.row 0 rfl) hb5)) rfl rfl (fun x9 w h => h.pick 5 [2, 3] rfl) (fun x9 => ?_)
    refine d_one 4 (by kernel_rfl) ?_
    refine o_do rfl (a_storeb 4 rfl sz25 rfl rfl rfl rfl (Nat.le_of_ble_eq_true rfl) rfl) rfl rfl (fun _ w h => h.pick 5 [2, 3] rfl) (fun _ => ?_)
    refine j_b4 [(i6 v7), (i6 v2), (i6 v3)] rfl ?_
    refine d_take 5 rfl (q_assign rfl rfl) rfl rfl (by kernel_rfl) (by kernel_rfl) (by kernel_rfl) (fun w h => h.pick 5 [2, 3] rfl) ?_
    refine d_done (by kernel_rfl) ?_
    refine j_then ?_
    refine j_ret ?_
    cases h
    exact j_return rfl (ResOf.cell 4 rfl rfl ag25 sz25 (ResOf.tmp rfl ResOf.nil)) rfl (fun w h => ⟨(), rfl, (h.drop 5)⟩)
  · refine j_false rfl (beq_f c1) ?_
    refine j_seq ?_
    refine j_region ?_
    refine r_q (q_eql rfl rfl rfl) rfl rfl ?_
    refine r_q (q_assign rfl rfl) rfl rfl ?_
    refine r_nil ?_
    refine j_then ?_
    rcases of_if h with ⟨c2, h⟩ | ⟨c2, h⟩
    · refine j_true rfl (beq_t c2) ?_
      refine j_region ?_
      refine r_q (q_move rfl rfl) rfl rfl ?_
      refine r_do (a_litX (vs := [(i6 (-1:Int)), (i6 (3:Int))]) (ii ([(-1:Int), (3:Int)] : List Int)) un60 sz3 zr3 rfl rfl rfl rfl rfl rfl rfl rfl rfl) rfl rfl (fun x10 => ?_)
      obtain ⟨v11, v12, hb6, h⟩ := of_b2 h
      refine j_rs (.box x2 69 [(.slice a0_A (a0.take 2000).length a0_c), (i6 v6)] :: .row x10 2 3 1 (ii ([(-1:Int), (3:Int)] : List Int)) :: .box x4 25 [(i6 v1), (i6 v2), (i6 v3)] :: .box x1 25 [(i6 (0:Int)), (i6 (0:Int)), (i6 (0:Int))] :: F) (fun _ h => h.pick 4 [1, 0, 2, 3] rfl) ?_
      refine r_do (a_call ok41 rfl rfl rfl rfl (fun w hm => spec_l13Rd_num.calls K x2 (a0.take 2000) a0_A (a0.take 2000).length a0_c v6 ([(-1:Int), (3:Int)] : List Int) x10 2 2 hm rfl (rd_hiI (Rd.drop 3 a0_R) 2000) rfl (Rd.row 0 rfl) hb6)) rfl rfl (fun x11 => ?_)
      refine r_q (q_fieldAddr fi25_1 sz3 rfl rfl rfl) rfl rfl ?_
      refine r_do (a_storeb 2 rfl sz3 rfl rfl rfl rfl (Nat.le_of_ble_eq_true rfl) rfl) rfl rfl (fun _ => ?_)
      refine j_b2 [(i6 v1), (i6 v11), (i6 v3)] rfl ?_
      refine r_nil ?_
      refine j_in ?_
      refine j_then ?_
      refine j_seq ?_
      obtain ⟨v13, v14, hb7, h⟩ := of_b2 h
      refine j_draw (.row x10 2 3 1 (ii ([(-1:Int), (3:Int)] : List Int)) :: .box x4 25 [(i6 v1), (i6 v11), (i6 v3)] :: F) 6 follows_any rfl ?_
      refine d_take 0 rfl (q_loadb_agg 1 rfl ag25 sz25 rfl rfl rfl rfl) rfl rfl (by kernel_rfl) (by kernel_rfl) (by kernel_rfl) (fun w h => h.pick 4 [1, 2] rfl) ?_
      refine d_take 1 rfl (q_move rfl rfl) rfl rfl (by kernel_rfl) (by kernel_rfl) (by kernel_rfl) (fun w h => h.pick 4 [1, 2] rfl) ?_
      refine d_one 2 (by kernel_rfl) ?_
      refine o_do rfl (a_litX (vs := [(i6 (2:Int)), (i6 (3:Int)), (i6 (1:Int)), (i6 (0:Int)), (i6 (5:Int))]) (ii ([(2:Int), (3:Int), (1:Int), (0:Int), (5:Int)] : List Int)) un60 sz3 zr3 rfl rfl rfl rfl rfl rfl rfl rfl rfl) rfl rfl (fun x8 w h => h.pick 5 [2, 3] rfl) (fun x8 => ?_)
      refine d_one 3 (by kernel_rfl) ?_
      refine j_rs (.box x2 69 [(.slice a0_A (a0.take 2000).length a0_c), (i6 v12)] :: .row x8 5 3 1 (ii ([(2:Int), (3:Int), (1:Int), (0:Int), (5:Int)] : List Int)) :: .row x10 2 3 1 (ii ([(-1:Int), (3:Int)] : List Int)) :: .box x4 25 [(i6 v1), (i6 v11), (i6 v3)] :: .box x1 25 [(i6 (0:Int)), (i6 (0:Int)), (i6 (0:Int))] :: F) (fun _ h => h.pick 5 [1, 0, 2, 3, 4] rfl) ?_
      refine o_do rfl (a_call ok41 rfl rfl rfl rfl (fun w hm => spec_l13Rd_num.calls K x2 (a0.take 2000) a0_A (a0.take 2000).length a0_c v12 ([(2:Int), (3:Int), (1:Int), (0:Int), (5:Int)] : List Int) x8 5 5 hm rfl (rd_hiI (Rd.drop 4 a0_R) 2000) rfl (Rd.row 0 rfl) hb7)) rfl rfl (fun x9 w h => h.pick 5 [2, 3] rfl) (fun x9 => ?_)
      refine d_one 4 (by kernel_rfl) ?_
      refine o_do rfl (a_storeb 4 rfl sz25 rfl rfl rfl rfl (Nat.le_of_ble_eq_true rfl) rfl) rfl rfl (fun _ w h => h.pick 5 [2, 3] rfl) (fun _ => ?_)
      refine j_b4 [(i6 v1), (i6 v11), (i6 v3)] rfl ?_
      refine d_take 5 rfl (q_assign rfl rfl) rfl rfl (by kernel_rfl) (by kernel_rfl) (by kernel_rfl) (fun w h => h.pick 5 [2, 3] rfl) ?_
      refine d_done (by kernel_rfl) ?_
      refine j_then ?_
      refine j_ret ?_
      cases h
      exact j_return rfl (ResOf.cell 4 rfl rfl ag25 sz25 (ResOf.tmp rfl ResOf.nil)) rfl (fun w h => ⟨(), rfl, (h.drop 5)⟩)
    · refine j_false rfl (beq_f c2) ?_
      refine j_seq ?_
      refine j_region ?_
      refine r_q (q_eql rfl rfl rfl) rfl rfl ?_
      refine r_q (q_assign rfl rfl) rfl rfl ?_
      refine r_nil ?_
      refine j_then ?_
      rcases of_if h with ⟨c3, h⟩ | ⟨c3, h⟩
      · refine j_true rfl (beq_t c3) ?_
        refine j_region ?_
        refine r_q (q_move rfl rfl) rfl rfl ?_
        refine r_do (a_litX (vs := [(i6 (-1:Int)), (i6 (3:Int)), (i6 (1:Int))]) (ii ([(-1:Int), (3:Int), (1:Int)] : List Int)) un60 sz3 zr3 rfl rfl rfl rfl rfl rfl rfl rfl rfl) rfl rfl (fun x12 => ?_)
        obtain ⟨v15, v16, hb8, h⟩ := of_b2 h
        refine j_rs (.box x2 69 [(.slice a0_A (a0.take 2000).length a0_c), (i6 v6)] :: .row x12 3 3 1 (ii ([(-1:Int), (3:Int), (1:Int)] : List Int)) :: .box x4 25 [(i6 v1), (i6 v2), (i6 v3)] :: .box x1 25 [(i6 (0:Int)), (i6 (0:Int)), (i6 (0:Int))] :: F) (fun _ h => h.pick 4 [1, 0, 2, 3] rfl) ?_
        refine r_do (a_call ok41 rfl rfl rfl rfl (fun w hm => spec_l13Rd_num.calls K x2 (a0.take 2000) a0_A (a0.take 2000).length a0_c v6 ([(-1:Int), (3:Int), (1:Int)] : List Int) x12 3 3 hm rfl (rd_hiI (Rd.drop 3 a0_R) 2000) rfl (Rd.row 0 rfl) hb8)) rfl rfl (fun x13 => ?_)
        refine r_q (q_fieldAddr fi25_2 sz3 rfl rfl rfl) rfl rfl ?_
        refine r_do (a_storeb 2 rfl sz3 rfl rfl rfl rfl (Nat.le_of_ble_eq_true rfl) rfl) rfl rfl (fun _ => ?_)
        refine j_b2 [(i6 v1), (i6 v2), (i6 v15)] rfl ?_
        refine r_nil ?_
        refine j_in ?_
        refine j_then ?_
        refine j_seq ?_
        obtain ⟨v17, v18, hb9, h⟩ := of_b2 h
        refine j_draw (.row x12 3 3 1 (ii ([(-1:Int), (3:Int), (1:Int)] : List Int)) :: .box x4 25 [(i6 v1), (i6 v2), (i6 v15)] :: F) 6 follows_any rfl ?_
        refine d_take 0 rfl (q_loadb_agg 1 rfl ag25 sz25 rfl rfl rfl rfl) rfl rfl (by kernel_rfl) (by kernel_rfl) (by kernel_rfl) (fun w h => h.pick 4 [1, 2] rfl) ?_
        refine d_take 1 rfl (q_move rfl rfl) rfl rfl (by kernel_rfl) (by kernel_rfl) (by kernel_rfl) (fun w h => h.pick 4 [1, 2] rfl) ?_
        refine d_one 2 (by kernel_rfl) ?_
        refine o_do rfl (a_litX (vs := [(i6 (2:Int)), (i6 (3:Int)), (i6 (1:Int)), (i6 (0:Int)), (i6 (5:Int))]) (ii ([(2:Int), (3:Int), (1:Int), (0:Int), (5:Int)] : List Int)) un60 sz3 zr3 rfl rfl rfl rfl rfl rfl rfl rfl rfl) rfl rfl (fun x8 w h => h.pick 5 [2, 3] rfl) (fun x8 => ?_)
        refine d_one 3 (by kernel_rfl) ?_
        refine j_rs (.box x2 69 [(.slice a0_A (a0.take 2000).length a0_c), (i6 v16)] :: .row x8 5 3 1 (ii ([(2:Int), (3:Int), (1:Int), (0:Int), (5:Int)] : List Int)) :: .row x12 3 3 1 (ii ([(-1:Int), (3:Int), (1:Int)] : List Int)) :: .box x4 25 [(i6 v1), (i6 v2), (i6 v15)] :: .box x1 25 [(i6 (0:Int)), (i6 (0:Int)), (i6 (0:Int))] :: F) (fun _ h => h.pick 5 [1, 0, 2, 3, 4] rfl) ?_
        refine o_do rfl (a_call ok41 rfl rfl rfl rfl (fun w hm => spec_l13Rd_num.calls K x2 (a0.take 2000) a0_A (a0.take 2000).length a0_c v16 ([(2:Int), (3:Int), (1:Int), (0:Int), (5:Int)] : List Int) x8 5 5 hm rfl (rd_hiI (Rd.drop 4 a0_R) 2000) rfl (Rd.row 0 rfl) hb9)) rfl rfl (fun x9 w h => h.pick 5 [2, 3] rfl) (fun x9 => ?_)
        refine d_one 4 (by kernel_rfl) ?_
        refine o_do rfl (a_storeb 4 rfl sz25 rfl rfl rfl rfl (Nat.le_of_ble_eq_true rfl) rfl) rfl rfl (fun _ w h => h.pick 5 [2, 3] rfl) (fun _ => ?_)
        refine j_b4 [(i6 v1), (i6 v2), (i6 v15)] rfl ?_
        refine d_take 5 rfl (q_assign rfl rfl) rfl rfl (by kernel_rfl) (by kernel_rfl) (by kernel_rfl) (fun w h => h.pick 5 [2, 3] rfl) ?_
        refine d_done (by kernel_rfl) ?_
        refine j_then ?_
        refine j_ret ?_
        cases h
        exact j_return rfl (ResOf.cell 4 rfl rfl ag25 sz25 (ResOf.tmp rfl ResOf.nil)) rfl (fun w h => ⟨(), rfl, (h.drop 5)⟩)
      · refine j_false rfl (beq_f c3) ?_
        refine j_skip ?_
        refine j_in ?_
        refine j_then ?_
        refine j_seq ?_
        obtain ⟨v19, v20, hb10, h⟩ := of_b2 h
        refine j_draw (.box x4 25 [(i6 v1), (i6 v2), (i6 v3)] :: F) 6 follows_any rfl ?_
        refine d_take 0 rfl (q_loadb_agg 0 rfl ag25 sz25 rfl rfl rfl rfl) rfl rfl (by kernel_rfl) (by kernel_rfl) (by kernel_rfl) (fun w h => h.pick 3 [1] rfl) ?_
        refine d_take 1 rfl (q_move rfl rfl) rfl rfl (by kernel_rfl) (by kernel_rfl) (by kernel_rfl) (fun w h => h.pick 3 [1] rfl) ?_
        refine d_one 2 (by kernel_rfl) ?_
        refine o_do rfl (a_litX (vs := [(i6 (2:Int)), (i6 (3:Int)), (i6 (1:Int)), (i6 (0:Int)), (i6 (5:Int))]) (ii ([(2:Int), (3:Int), (1:Int), (0:Int), (5:Int)] : List Int)) un60 sz3 zr3 rfl rfl rfl rfl rfl rfl rfl rfl rfl) rfl rfl (fun x8 w h => h.pick 4 [2] rfl) (fun x8 => ?_)
        refine d_one 3 (by kernel_rfl) ?_
        refine j_rs (.box x2 69 [(.slice a0_A (a0.take 2000).length a0_c), (i6 v6)] :: .row x8 5 3 1 (ii ([(2:Int), (3:Int), (1:Int), (0:Int), (5:Int)] : List Int)) :: .box x4 25 [(i6 v1), (i6 v2), (i6 v3)] :: .box x1 25 [(i6 (0:Int)), (i6 (0:Int)), (i6 (0:Int))] :: F) (fun _ h => h.pick 4 [1, 0, 2, 3] rfl) ?_
        refine o_do rfl (a_call ok41 rfl rfl rfl rfl (fun w hm => spec_l13Rd_num.calls K x2 (a0.take 2000) a0_A (a0.take 2000).length a0_c v6 ([(2:Int), (3:Int), (1:Int), (0:Int), (5:Int)] : List Int) x8 5 5 hm rfl (rd_hiI (Rd.drop 3 a0_R) 2000) rfl (Rd.row 0 rfl) hb10)) rfl rfl (fun x9 w h => h.pick 4 [2] rfl) (fun x9 => ?_)
        refine d_one 4 (by kernel_rfl) ?_
        refine o_do rfl (a_storeb 3 rfl sz25 rfl rfl rfl rfl (Nat.le_of_ble_eq_true rfl) rfl) rfl rfl (fun _ w h => h.pick 4 [2] rfl) (fun _ => ?_)
        refine j_b3 [(i6 v1), (i6 v2), (i6 v3)] rfl ?_
        refine d_take 5 rfl (q_assign rfl rfl) rfl rfl (by kernel_rfl) (by kernel_rfl) (by kernel_rfl) (fun w h => h.pick 4 [2] rfl) ?_
        refine d_done (by kernel_rfl) ?_
        refine j_then ?_
        refine j_ret ?_
        cases h
        exact j_return rfl (ResOf.cell 3 rfl rfl ag25 sz25 (ResOf.tmp rfl ResOf.nil)) rfl (fun w h => ⟨(), rfl, (h.drop 4)⟩)

theorem spec_DrawFormatOp.calls (K : Nat) (a0 : List Int) (a0_A : Option Addr) (a0_n a0_c : Nat) {w0 w : World} {F : List Res} {r1 : Int} {r2 : Int} {r3 : Int} (hm : Mem w0 (F) w) (a0_h : a0.length = a0_n) (a0_R : Rd w0 F a0_A (ints .u8 a0)) (a0_k : a0.length ≤ a0_c) (h : spec_DrawFormatOp.f K a0 = some (r1, r2, r3)) :
    Calls Tryd.prog 26 (List.toArray [.slice a0_A a0_n a0_c]) w fun e w' => ∃ x : Unit, e = .returned (.agg (List.toArray [i6 r1, i6 r2, i6 r3])) ∧ Mem w0 (F) w' := by
  unfold spec_DrawFormatOp.f at h
  refine calls_of_J (n := 11) Tryd.func26 rfl rfl rfl hm ?_
  refine j_seq ?_
  refine j_region ?_
  refine r_do (a_alloc zr25 rfl) rfl rfl (fun x1 => ?_)
  refine r_nil ?_
  refine j_then ?_
  refine j_seq ?_
  refine j_region ?_
  refine r_q (q_move rfl rfl) rfl rfl ?_
  obtain ⟨v1, v2, v3, v4, hb1, h⟩ := of_b4 h
  refine r_do (a_call ok45 rfl rfl rfl rfl (fun w hm => spec_DrawOpValid.calls K a0 a0_A a0_n a0_c hm a0_h (Rd.drop 1 a0_R) a0_k hb1)) rfl rfl (fun x2 => ?_)
  refine r_q (q_move rfl rfl) rfl rfl ?_
  refine r_q (q_extract rfl rfl rfl) rfl rfl ?_
  refine r_q (q_extract rfl rfl rfl) rfl rfl ?_
  refine r_do (a_alloc zr25 rfl) rfl rfl (fun x3 => ?_)
  refine r_do (a_storeb 0 rfl sz25 rfl rfl rfl rfl (Nat.le_of_ble_eq_true rfl) rfl) rfl rfl (fun _ => ?_)
  refine j_b0 [(i6 v1), (i6 v2), (i6 v3)] rfl ?_
  refine r_q (q_assign rfl rfl) rfl rfl ?_
  refine r_nil ?_
  refine j_then ?_
  refine j_seq ?_
  refine j_region ?_
  refine r_q (q_loadb_agg 0 rfl ag25 sz25 rfl rfl rfl rfl) rfl rfl ?_
  refine r_do (a_storeb 1 rfl sz25 rfl rfl rfl rfl (Nat.le_of_ble_eq_true rfl) rfl) rfl rfl (fun _ => ?_)
  refine j_b1 [(i6 v1), (i6 v2), (i6 v3)] rfl ?_
  refine r_nil ?_
  refine j_then ?_
  refine j_ret ?_
  cases h
  exact j_return rfl (ResOf.cell 1 rfl rfl ag25 sz25 ResOf.nil) rfl (fun w h => ⟨(), rfl, (h.drop 2)⟩)

theorem spec_l13Rd_of.calls (K : Nat) (a0_g : Nat) (a0_0 : List Int) (a0_0_A : Option Addr) (a0_0_n a0_0_c : Nat) (a0_1 : Int) (a1 : List ByteArray) (a1_A : Option Addr) (a1_n a1_c : Nat) {w0 w : World} {F : List Res} {r1 : ByteArray} {r2 : Int} (hm : Mem w0 (.box a0_g 69 [.slice a0_0_A a0_0_n a0_0_c, i6 a0_1] :: F) w) (a0_0_h : a0_0.length = a0_0_n) (a0_0_R : Rd w0 F a0_0_A (ints .u8 a0_0)) (a1_h : a1.length = a1_n) (a1_R : Rd w0 F a1_A (strs a1)) (h : spec_l13Rd_of.f K a0_0 a0_1 a1 = some (r1, r2)) :
    Calls Tryd.prog 44 (List.toArray [pt a0_g, .slice a1_A a1_n a1_c]) w fun e w' => ∃ x : Unit, e = .returned (.string r1) ∧ Mem w0 (.box a0_g 69 [.slice a0_0_A a0_0_n a0_0_c, i6 r2] :: F) w' := by
  unfold spec_l13Rd_of.f at h
  refine calls_of_J (n := 12) Tryd.func44 rfl rfl rfl hm ?_
  refine j_seq ?_
  refine j_region ?_
  refine r_q (q_assign rfl rfl) rfl rfl ?_
  refine r_nil ?_
  refine j_then ?_
  refine j_seq ?_
  refine j_region ?_
  refine r_q (q_move rfl rfl) rfl rfl ?_
  refine r_q (q_move rfl rfl) rfl rfl ?_
  refine r_q (q_move rfl rfl) rfl rfl ?_
  refine r_q (q_lenX a1 a1_h un52 rfl rfl rfl rfl rfl) rfl rfl ?_
  obtain ⟨v1, v2, hb1, h⟩ := of_b2 h
  refine r_do (a_call ok40 rfl rfl rfl rfl (fun w hm => spec_l13Rd_pick.calls K a0_g a0_0 a0_0_A a0_0_n a0_0_c a0_1 (a1.length : Int) hm a0_0_h a0_0_R hb1)) rfl rfl (fun x1 => ?_)
  obtain ⟨c1, h⟩ := of_guard h
  refine r_q (q_ix (Rd.drop 1 a1_R) (strs_len1 a1) (by decide) a1_h c1 un52 sz9 rfl rfl rfl) rfl rfl ?_
  refine r_q (q_ldS (Rd.drop 1 a1_R) c1 ag9 rfl rfl) rfl rfl ?_
  refine r_q (q_assign rfl rfl) rfl rfl ?_
  refine r_nil ?_
  refine j_then ?_
  refine j_ret ?_
  cases h
  exact j_return rfl (ResOf.tmp rfl ResOf.nil) rfl (fun w h => ⟨(), rfl, h⟩)

theorem spec_DrawParseOp.calls (K : Nat) (a0 : List Int) (a0_A : Option Addr) (a0_n a0_c : Nat) {w0 w : World} {F : List Res} {r1 : ByteArray} (hm : Mem w0 (F) w) (a0_h : a0.length = a0_n) (a0_R : Rd w0 F a0_A (ints .u8 a0)) (a0_k : a0.length ≤ a0_c) (h : spec_DrawParseOp.f K a0 = some r1) :
    Calls Tryd.prog 28 (List.toArray [.slice a0_A a0_n a0_c]) w fun e w' => ∃ x : Unit, e = .returned (.string r1) ∧ Mem w0 (F) w' := by
  unfold spec_DrawParseOp.f at h
  refine calls_of_J (n := 33) Tryd.func28 rfl rfl rfl hm ?_
  refine j_seq ?_
  refine j_region ?_
  refine r_q (q_assign rfl rfl) rfl rfl ?_
  refine r_nil ?_
  refine j_then ?_
  refine j_seq ?_
  refine j_region ?_
  refine r_q (q_move rfl rfl) rfl rfl ?_
  obtain ⟨_, hb1, h⟩ := of_b1 h
  refine r_do (a_call ok38 rfl rfl rfl rfl (fun w hm => spec_l13Open.calls K a0 a0_A a0_n a0_c hm a0_h a0_R a0_k hb1)) rfl rfl (fun x1 => ?_)
  refine r_q (q_assign rfl rfl) rfl rfl ?_
  refine r_nil ?_
  refine j_then ?_
  refine j_seq ?_
  refine j_region ?_
  refine r_q (q_move rfl rfl) rfl rfl ?_
  obtain ⟨v1, v2, v3, v4, hb2, h⟩ := of_b4 h
  refine r_do (a_call ok46 rfl rfl rfl rfl (fun w hm => spec_l5Op.calls K x1 (a0.take 2000) a0_A (a0.take 2000).length a0_c (0:Int) hm rfl (rd_hiI a0_R 2000) hb2)) rfl rfl (fun x2 => ?_)
  obtain ⟨v5, hb3, h⟩ := of_b1 h
  refine r_do (a_call ok10 rfl rfl rfl rfl (fun w hm => spec_FormatOp.calls K v1 v2 v3 hm hb3)) rfl rfl (fun x3 => ?_)
  refine r_q (q_assign rfl rfl) rfl rfl ?_
  refine r_nil ?_
  refine j_then ?_
  refine j_seq ?_
  refine j_seq ?_
  refine j_region ?_
  refine r_q (q_move rfl rfl) rfl rfl ?_
  obtain ⟨v6, v7, hb4, h⟩ := of_b2 h
  refine r_do (a_call ok40 rfl rfl rfl rfl (fun w hm => spec_l13Rd_pick.calls K x1 (a0.take 2000) a0_A (a0.take 2000).length a0_c v4 (2:Int) hm rfl (rd_hiI a0_R 2000) hb4)) rfl rfl (fun x4 => ?_)
  refine r_q (q_eql rfl rfl rfl) rfl rfl ?_
  refine r_nil ?_
  refine j_then ?_
  rcases of_if h with ⟨c1, h⟩ | ⟨c1, h⟩
  · refine j_true rfl (beq_t c1) ?_
    refine j_seq ?_
    refine j_region ?_
    refine r_q (q_move rfl rfl) rfl rfl ?_
    refine r_q (q_assign rfl rfl) rfl rfl ?_
    refine r_nil ?_
    refine j_then ?_
    refine j_ret ?_
    refine j_then_ret ?_
    cases h
    exact j_return rfl (ResOf.tmp rfl ResOf.nil) rfl (fun w h => ⟨(), rfl, h.tail⟩)
  · refine j_false rfl (beq_f c1) ?_
    refine j_skip ?_
    refine j_then ?_
    refine j_seq ?_
    refine j_region ?_
    refine r_q (q_move rfl rfl) rfl rfl ?_
    refine r_q (q_move rfl rfl) rfl rfl ?_
    refine r_q (q_len_str rfl rfl rfl rfl un9 rfl) rfl rfl ?_
    obtain ⟨v8, v9, hb5, h⟩ := of_b2 h
    refine r_do (a_call ok40 rfl rfl rfl rfl (fun w hm => spec_l13Rd_pick.calls K x1 (a0.take 2000) a0_A (a0.take 2000).length a0_c v7 (v5.size : Int) hm rfl (rd_hiI a0_R 2000) hb5)) rfl rfl (fun x5 => ?_)
    refine r_q (q_assign rfl rfl) rfl rfl ?_
    refine r_nil ?_
    refine j_then ?_
    refine j_seq ?_
    obtain ⟨c2, h⟩ := of_guard h
    obtain ⟨v10, v11, hb6, h⟩ := of_b2 h
    obtain ⟨c3, h⟩ := of_guard h
    obtain ⟨v12, v13, hb7, h⟩ := of_b2 h
    obtain ⟨c4, h⟩ := of_guard h
    obtain ⟨c5, h⟩ := of_guard h
    refine j_draw (F) 15 follows_any rfl ?_
    refine d_take 0 rfl (q_move rfl rfl) rfl rfl (by kernel_rfl) (by kernel_rfl) (by kernel_rfl) (fun w h => h.tail) ?_
    refine d_take 1 rfl (q_move rfl rfl) rfl rfl (by kernel_rfl) (by kernel_rfl) (by kernel_rfl) (fun w h => h.tail) ?_
    refine d_take 2 rfl (q_str_hi un9 rfl rfl rfl c2.1 c2.2) rfl rfl (by kernel_rfl) (by kernel_rfl) (by kernel_rfl) (fun w h => h.tail) ?_
    refine d_take 3 rfl (q_move rfl rfl) rfl rfl (by kernel_rfl) (by kernel_rfl) (by kernel_rfl) (fun w h => h.tail) ?_
    refine d_take 7 rfl (q_move rfl rfl) rfl rfl (by kernel_rfl) (by kernel_rfl) (by kernel_rfl) (fun w h => h.tail) ?_
    refine d_take 8 rfl (q_move rfl rfl) rfl rfl (by kernel_rfl) (by kernel_rfl) (by kernel_rfl) (fun w h => h.tail) ?_
    refine d_take 9 rfl (q_move rfl rfl) rfl rfl (by kernel_rfl) (by kernel_rfl) (by kernel_rfl) (fun w h => h.tail) ?_
    refine d_one 4 (by kernel_rfl) ?_
    refine o_do rfl (a_litX (vs := [(.string (⟨#[]⟩ : ByteArray)), (.string (⟨#[32]⟩ : ByteArray)), (.string (⟨#[51]⟩ : ByteArray)), (.string (⟨#[110]⟩ : ByteArray))]) (strs ([(⟨#[]⟩ : ByteArray), (⟨#[32]⟩ : ByteArray), (⟨#[51]⟩ : ByteArray), (⟨#[110]⟩ : ByteArray)] : List ByteArray)) un52 sz9 zr9 rfl rfl rfl rfl rfl rfl rfl rfl rfl) rfl rfl (fun x6 w h => (h.drop 2)) (fun x6 => ?_)
    refine d_one 5 (by kernel_rfl) ?_
    refine j_rs (.box x1 69 [(.slice a0_A (a0.take 2000).length a0_c), (i6 v9)] :: .row x6 4 9 1 (strs ([(⟨#[]⟩ : ByteArray), (⟨#[32]⟩ : ByteArray), (⟨#[51]⟩ : ByteArray), (⟨#[110]⟩ : ByteArray)] : List ByteArray)) :: F) (fun _ h => h.pick 2 [1, 0] rfl) ?_
    refine o_do rfl (a_call ok44 rfl rfl rfl rfl (fun w hm => spec_l13Rd_of.calls K x1 (a0.take 2000) a0_A (a0.take 2000).length a0_c v9 ([(⟨#[]⟩ : ByteArray), (⟨#[32]⟩ : ByteArray), (⟨#[51]⟩ : ByteArray), (⟨#[110]⟩ : ByteArray)] : List ByteArray) x6 4 4 hm rfl (rd_hiI (Rd.drop 1 a0_R) 2000) rfl (Rd.row 0 rfl) hb6)) rfl rfl (fun x7 w h => (h.drop 2)) (fun x7 => ?_)
    refine d_take 6 rfl (q_sadd rfl rfl rfl c3) rfl rfl (by kernel_rfl) (by kernel_rfl) (by kernel_rfl) (fun w h => (h.drop 2)) ?_
    refine d_one 10 (by kernel_rfl) ?_
    refine o_do rfl (a_call ok40 rfl rfl rfl rfl (fun w hm => spec_l13Rd_pick.calls K x1 (a0.take 2000) a0_A (a0.take 2000).length a0_c v11 (2:Int) hm rfl (rd_hiI (Rd.drop 1 a0_R) 2000) hb7)) rfl rfl (fun x8 w h => (h.drop 2)) (fun x8 => ?_)
    refine d_take 11 rfl (q_add rfl rfl rfl) rfl rfl (by kernel_rfl) (by kernel_rfl) (by kernel_rfl) (fun w h => (h.drop 2)) ?_
    refine d_take 12 rfl (q_str_lo un9 rfl rfl rfl c4.1 c4.2) rfl rfl (by kernel_rfl) (by kernel_rfl) (by kernel_rfl) (fun w h => (h.drop 2)) ?_
    refine d_take 13 rfl (q_sadd rfl rfl rfl c5) rfl rfl (by kernel_rfl) (by kernel_rfl) (by kernel_rfl) (fun w h => (h.drop 2)) ?_
    refine d_take 14 rfl (q_assign rfl rfl) rfl rfl (by kernel_rfl) (by kernel_rfl) (by kernel_rfl) (fun w h => (h.drop 2)) ?_
    refine d_done (by kernel_rfl) ?_
    refine j_then ?_
    refine j_ret ?_
    cases h
    exact j_return rfl (ResOf.tmp rfl ResOf.nil) rfl (fun w h => ⟨(), rfl, (h.drop 2)⟩)

theorem laws_FnOpText.calls (K : Nat) (a0 : List Int) (a0_A : Option Addr) (a0_n a0_c : Nat) (a1 : List Int) (a1_A : Option Addr) (a1_n a1_c : Nat) {w0 w : World} {F : List Res} {r1 : Bool} (hm : Mem w0 (F) w) (a0_h : a0.length = a0_n) (a0_R : Rd w0 F a0_A (ints .u8 a0)) (a0_k : a0.length ≤ a0_c) (a1_h : a1.length = a1_n) (a1_R : Rd w0 F a1_A (ints .u8 a1)) (a1_k : a1.length ≤ a1_c) (gT : Rd w0 F (gA 0) (strs opTab)) (h : laws_FnOpText.f K a0 a1 = some r1) :
    Calls Tryd.prog 7 (List.toArray [.slice a0_A a0_n a0_c, .slice a1_A a1_n a1_c]) w fun e w' => ∃ x : Unit, e = .returned (.bool r1) ∧ Mem w0 (F) w' := by
  unfold laws_FnOpText.f at h
  refine calls_of_J (n := 86) Tryd.func7 rfl rfl rfl hm ?_
  refine j_seq ?_
  refine j_region ?_
  refine r_q (q_assign rfl rfl) rfl rfl ?_
  refine r_nil ?_
  refine j_then ?_
  refine j_seq ?_
  refine j_seq ?_
  refine j_region ?_
  refine r_q (q_move rfl rfl) rfl rfl ?_
  refine r_q (q_lenX a0 a0_h un34 rfl rfl rfl rfl rfl) rfl rfl ?_
  refine r_q (q_gtr rfl rfl rfl) rfl rfl ?_
  refine r_q (q_move rfl rfl) rfl rfl ?_
  rcases of_if h with ⟨c1, h⟩ | ⟨c1, h⟩
  · refine r_off rfl rfl rfl rfl (decide_eq_true c1) rfl ?_
    refine r_off rfl rfl rfl rfl (decide_eq_true c1) rfl ?_
    refine r_off rfl rfl rfl rfl (decide_eq_true c1) rfl ?_
    refine r_q (q_pick_t rfl rfl (decide_eq_true c1) rfl) rfl rfl ?_
    refine r_nil ?_
    refine j_then ?_
    refine j_true rfl rfl ?_
    refine j_seq ?_
    refine j_region ?_
    refine r_q (q_assign rfl rfl) rfl rfl ?_
    refine r_nil ?_
    refine j_then ?_
    refine j_ret ?_
    refine j_then_ret ?_
    cases h
    exact j_return rfl (ResOf.tmp rfl ResOf.nil) rfl (fun w h => ⟨(), rfl, h⟩)
  · refine r_qon (q_move rfl rfl) rfl rfl rfl rfl (decide_eq_false c1) rfl ?_
    refine r_qon (q_lenX a1 a1_h un34 rfl rfl rfl rfl rfl) rfl rfl rfl rfl (decide_eq_false c1) rfl ?_
    refine r_qon (q_gtr rfl rfl rfl) rfl rfl rfl rfl (decide_eq_false c1) rfl ?_
    refine r_q (q_pick_f rfl rfl (decide_eq_false c1) rfl) rfl rfl ?_
    refine r_nil ?_
    refine j_then ?_
    rcases of_if h with ⟨c2, h⟩ | ⟨c2, h⟩
    · refine j_true rfl (decide_eq_true c2) ?_
      refine j_seq ?_
      refine j_region ?_
      refine r_q (q_assign rfl rfl) rfl rfl ?_
      refine r_nil ?_
      refine j_then ?_
      refine j_ret ?_
      refine j_then_ret ?_
      cases h
      exact j_return rfl (ResOf.tmp rfl ResOf.nil) rfl (fun w h => ⟨(), rfl, h⟩)
    · refine j_false rfl (decide_eq_false c2) ?_
      refine j_skip ?_
      refine j_then ?_
      refine j_seq ?_
      refine j_region ?_
      refine r_q (q_move rfl rfl) rfl rfl ?_
      obtain ⟨v1, v2, v3, hb1, h⟩ := of_b3 h
      refine r_do (a_call ok26 rfl rfl rfl rfl (fun w hm => spec_DrawFormatOp.calls K a0 a0_A a0_n a0_c hm a0_h a0_R a0_k hb1)) rfl rfl (fun x1 => ?_)
      refine r_do (a_alloc zr25 rfl) rfl rfl (fun x2 => ?_)
      refine r_do (a_storeb 0 rfl sz25 rfl rfl rfl rfl (Nat.le_of_ble_eq_true rfl) rfl) rfl rfl (fun _ => ?_)
      refine j_b0 [(i6 v1), (i6 v2), (i6 v3)] rfl ?_
      refine r_nil ?_
      refine j_then ?_
      refine j_seq ?_
      refine j_region ?_
      refine r_q (q_loadb_agg 0 rfl ag25 sz25 rfl rfl rfl rfl) rfl rfl ?_
      obtain ⟨v4, hb2, h⟩ := of_b1 h
      refine r_do (a_call ok12 rfl rfl rfl rfl (fun w hm => impl_FormatOp.calls K v1 v2 v3 hm (Rd.drop 1 gT) hb2)) rfl rfl (fun x3 => ?_)
      refine r_q (q_assign rfl rfl) rfl rfl ?_
      refine r_nil ?_
      refine j_then ?_
      refine j_seq ?_
      refine j_region ?_
      refine r_q (q_move rfl rfl) rfl rfl ?_
      obtain ⟨v5, v6, v7, v8, hb3, h⟩ := of_b4 h
      refine r_do (a_call ok24 rfl rfl rfl rfl (fun w hm => impl_ParseOp.calls K v4 hm (Rd.drop 1 gT) hb3)) rfl rfl (fun x4 => ?_)
      refine r_q (q_move rfl rfl) rfl rfl ?_
      refine r_q (q_extract rfl rfl rfl) rfl rfl ?_
      refine r_q (q_extract rfl rfl rfl) rfl rfl ?_
      refine r_do (a_alloc zr25 rfl) rfl rfl (fun x5 => ?_)
      refine r_do (a_storeb 0 rfl sz25 rfl rfl rfl rfl (Nat.le_of_ble_eq_true rfl) rfl) rfl rfl (fun _ => ?_)
      refine j_b0 [(i6 v5), (i6 v6), (i6 v7)] rfl ?_
      refine r_q (q_assign rfl rfl) rfl rfl ?_
      refine r_nil ?_
      refine j_then ?_
      refine j_seq ?_
      refine j_seq ?_
      refine j_region ?_
      refine r_q (q_move rfl rfl) rfl rfl ?_
      refine r_q (q_loadb_agg 1 rfl ag25 sz25 rfl rfl rfl rfl) rfl rfl ?_
      obtain ⟨v9, hb4, h⟩ := of_b1 h
      refine r_do (a_call ok10 rfl rfl rfl rfl (fun w hm => spec_FormatOp.calls K v1 v2 v3 hm hb4)) rfl rfl (fun x6 => ?_)
      refine r_q (q_sneq rfl rfl rfl) rfl rfl ?_
      refine r_q (q_move rfl rfl) rfl rfl ?_
      rcases of_if h with ⟨c3, h⟩ | ⟨c3, h⟩
      · refine r_qon (q_move rfl rfl) rfl rfl rfl rfl (not_f (beq_t c3)) rfl ?_
        refine r_qon (q_sneq rfl rfl rfl) rfl rfl rfl rfl (not_f (beq_t c3)) rfl ?_
        refine r_qon (q_loadb_agg 1 rfl ag25 sz25 rfl rfl rfl rfl) rfl rfl rfl rfl (not_f (beq_t c3)) rfl ?_
        obtain ⟨v10, hb5, h⟩ := of_b1 h
        refine r_on (a_call ok27 rfl rfl rfl rfl (fun w hm => impl_OpValid.calls K v1 v2 v3 (3:Int) hm hb5)) rfl rfl rfl rfl (not_f (beq_t c3)) rfl (fun x7 => ?_)
        refine r_qon (q_bneq un4 rfl rfl rfl) rfl rfl rfl rfl (not_f (beq_t c3)) rfl ?_
        refine r_q (q_pick_f rfl rfl (not_f (beq_t c3)) rfl) rfl rfl ?_
        refine r_q (q_move rfl rfl) rfl rfl ?_
        rcases of_if h with ⟨c4, h⟩ | ⟨c4, h⟩
        · refine r_qon (q_move rfl rfl) rfl rfl rfl rfl (bne_f c4) rfl ?_
          refine r_qon (q_move rfl rfl) rfl rfl rfl rfl (bne_f c4) rfl ?_
          refine r_qon (q_sneq rfl rfl rfl) rfl rfl rfl rfl (bne_f c4) rfl ?_
          refine r_qon (q_bneq un4 rfl rfl rfl) rfl rfl rfl rfl (bne_f c4) rfl ?_
          refine r_q (q_pick_f rfl rfl (bne_f c4) rfl) rfl rfl ?_
          refine r_q (q_move rfl rfl) rfl rfl ?_
          rcases of_if h with ⟨c5, h⟩ | ⟨c5, h⟩
          · refine r_qon (q_move rfl rfl) rfl rfl rfl rfl (bne_f c5) rfl ?_
            refine r_qon (q_move rfl rfl) rfl rfl rfl rfl (bne_f c5) rfl ?_
            rcases of_if h with ⟨c6, h⟩ | ⟨c6, h⟩
            · refine r_qon (q_loadb_agg 0 rfl ag25 sz25 rfl rfl rfl rfl) rfl rfl rfl rfl c6 rfl ?_
              refine r_qon (q_loadb_agg 1 rfl ag25 sz25 rfl rfl rfl rfl) rfl rfl rfl rfl c6 rfl ?_
              refine r_qon (q_neT eqt25 rfl rfl rfl) rfl rfl rfl rfl c6 rfl ?_
              refine r_qon (q_pick_t rfl rfl c6 rfl) rfl rfl rfl rfl (bne_f c5) rfl ?_
              refine r_q (q_pick_f rfl rfl (bne_f c5) rfl) rfl rfl ?_
              refine r_nil ?_
              refine j_then ?_
              rcases of_if h with ⟨c7, h⟩ | ⟨c7, h⟩
              · refine j_true rfl (decide_eq_true c7) ?_
                refine j_seq ?_
                refine j_region ?_
                refine r_q (q_assign rfl rfl) rfl rfl ?_
                refine r_nil ?_
                refine j_then ?_
                refine j_ret ?_
                refine j_then_ret ?_
                cases h
                exact j_return rfl (ResOf.tmp rfl ResOf.nil) rfl (fun w h => ⟨(), rfl, (h.drop 2)⟩)
              · refine j_false rfl (decide_eq_false c7) ?_
                refine j_skip ?_
                refine j_then ?_
                refine j_seq ?_
                refine j_region ?_
                refine r_q (q_move rfl rfl) rfl rfl ?_
                obtain ⟨v11, hb6, h⟩ := of_b1 h
                refine r_do (a_call ok28 rfl rfl rfl rfl (fun w hm => spec_DrawParseOp.calls K a1 a1_A a1_n a1_c hm a1_h (Rd.drop 2 a1_R) a1_k hb6)) rfl rfl (fun x8 => ?_)
                refine r_q (q_assign rfl rfl) rfl rfl ?_
                refine r_nil ?_
                refine j_then ?_
                refine j_seq ?_
                refine j_region ?_
                refine r_q (q_move rfl rfl) rfl rfl ?_
                obtain ⟨v12, v13, v14, v15, hb7, h⟩ := of_b4 h
                refine r_do (a_call ok24 rfl rfl rfl rfl (fun w hm => impl_ParseOp.calls K v11 hm (Rd.drop 2 gT) hb7)) rfl rfl (fun x9 => ?_)
                refine r_q (q_move rfl rfl) rfl rfl ?_
                refine r_q (q_extract rfl rfl rfl) rfl rfl ?_
                refine r_q (q_extract rfl rfl rfl) rfl rfl ?_
                refine r_do (a_alloc zr25 rfl) rfl rfl (fun x10 => ?_)
                refine r_do (a_storeb 0 rfl sz25 rfl rfl rfl rfl (Nat.le_of_ble_eq_true rfl) rfl) rfl rfl (fun _ => ?_)
                refine j_b0 [(i6 v12), (i6 v13), (i6 v14)] rfl ?_
                refine r_q (q_assign rfl rfl) rfl rfl ?_
                refine r_nil ?_
                refine j_then ?_
                refine j_seq ?_
                refine j_region ?_
                refine r_q (q_move rfl rfl) rfl rfl ?_
                obtain ⟨v16, v17, v18, v19, hb8, h⟩ := of_b4 h
                refine r_do (a_call ok23 rfl rfl rfl rfl (fun w hm => spec_ParseOp.calls K v11 hm hb8)) rfl rfl (fun x11 => ?_)
                refine r_q (q_move rfl rfl) rfl rfl ?_
                refine r_q (q_extract rfl rfl rfl) rfl rfl ?_
                refine r_q (q_extract rfl rfl rfl) rfl rfl ?_
                refine r_do (a_alloc zr25 rfl) rfl rfl (fun x12 => ?_)
                refine r_do (a_storeb 0 rfl sz25 rfl rfl rfl rfl (Nat.le_of_ble_eq_true rfl) rfl) rfl rfl (fun _ => ?_)
                refine j_b0 [(i6 v16), (i6 v17), (i6 v18)] rfl ?_
                refine r_q (q_assign rfl rfl) rfl rfl ?_
                refine r_nil ?_
                refine j_then ?_
                refine j_seq ?_
                refine j_region ?_
                refine r_q (q_loadb_agg 1 rfl ag25 sz25 rfl rfl rfl rfl) rfl rfl ?_
                refine r_q (q_loadb_agg 0 rfl ag25 sz25 rfl rfl rfl rfl) rfl rfl ?_
                refine r_q (q_eqT eqt25 rfl rfl rfl) rfl rfl ?_
                refine r_q (q_move rfl rfl) rfl rfl ?_
                rcases of_if h with ⟨c8, h⟩ | ⟨c8, h⟩
                · refine r_qon (q_move rfl rfl) rfl rfl rfl rfl (decide_eq_true c8) rfl ?_
                  refine r_qon (q_move rfl rfl) rfl rfl rfl rfl (decide_eq_true c8) rfl ?_
                  refine r_qon (q_beql un4 rfl rfl rfl) rfl rfl rfl rfl (decide_eq_true c8) rfl ?_
                  refine r_q (q_pick_t rfl rfl (decide_eq_true c8) rfl) rfl rfl ?_
                  refine r_q (q_move rfl rfl) rfl rfl ?_
                  rcases of_if h with ⟨c9, h⟩ | ⟨c9, h⟩
                  · refine r_qon (q_move rfl rfl) rfl rfl rfl rfl (beq_t c9) rfl ?_
                    refine r_qon (q_not rfl rfl) rfl rfl rfl rfl (beq_t c9) rfl ?_
                    refine r_qon (q_move rfl rfl) rfl rfl rfl rfl (beq_t c9) rfl ?_
                    rcases of_if h with ⟨c10, h⟩ | ⟨c10, h⟩
                    · refine r_qon (q_loadb_agg 1 rfl ag25 sz25 rfl rfl rfl rfl) rfl rfl rfl rfl (not_f c10) rfl ?_
                      obtain ⟨v20, hb9, h⟩ := of_b1 h
                      refine r_on (a_call ok12 rfl rfl rfl rfl (fun w hm => impl_FormatOp.calls K v12 v13 v14 hm (Rd.drop 4 gT) hb9)) rfl rfl rfl rfl (not_f c10) rfl (fun x13 => ?_)
                      refine r_qon (q_move rfl rfl) rfl rfl rfl rfl (not_f c10) rfl ?_
                      refine r_qon (q_seql rfl rfl rfl) rfl rfl rfl rfl (not_f c10) rfl ?_
                      refine r_qon (q_pick_f rfl rfl (not_f c10) rfl) rfl rfl rfl rfl (beq_t c9) rfl ?_
                      refine r_q (q_pick_t rfl rfl (beq_t c9) rfl) rfl rfl ?_
                      refine r_q (q_assign rfl rfl) rfl rfl ?_
                      refine r_nil ?_
                      refine j_then ?_
                      refine j_ret ?_
                      cases h
                      exact j_return rfl (ResOf.tmp rfl ResOf.nil) rfl (fun w h => ⟨(), rfl, (h.drop 4)⟩)
                    · refine r_off rfl rfl rfl rfl (not_t (var_f c10)) rfl ?_
                      refine r_off rfl rfl rfl rfl (not_t (var_f c10)) rfl ?_
                      refine r_off rfl rfl rfl rfl (not_t (var_f c10)) rfl ?_
                      refine r_off rfl rfl rfl rfl (not_t (var_f c10)) rfl ?_
                      refine r_qon (q_pick_t rfl rfl (not_t (var_f c10)) rfl) rfl rfl rfl rfl (beq_t c9) rfl ?_
                      refine r_q (q_pick_t rfl rfl (beq_t c9) rfl) rfl rfl ?_
                      refine r_q (q_assign rfl rfl) rfl rfl ?_
                      refine r_nil ?_
                      refine j_then ?_
                      refine j_ret ?_
                      cases h
                      exact j_return rfl (ResOf.tmp rfl ResOf.nil) rfl (fun w h => ⟨(), rfl, (h.drop 4)⟩)
                  · refine r_off rfl rfl rfl rfl (beq_f c9) rfl ?_
                    refine r_off rfl rfl rfl rfl (beq_f c9) rfl ?_
                    refine r_off rfl rfl rfl rfl (beq_f c9) rfl ?_
                    refine r_offu rfl rfl rfl rfl rfl ?_
                    refine r_offu rfl rfl rfl rfl rfl ?_
                    refine r_offu rfl rfl rfl rfl rfl ?_
                    refine r_offu rfl rfl rfl rfl rfl ?_
                    refine r_off rfl rfl rfl rfl (beq_f c9) rfl ?_
                    refine r_q (q_pick_f rfl rfl (beq_f c9) rfl) rfl rfl ?_
                    refine r_q (q_assign rfl rfl) rfl rfl ?_
                    refine r_nil ?_
                    refine j_then ?_
                    refine j_ret ?_
                    cases h
                    exact j_return rfl (ResOf.tmp rfl ResOf.nil) rfl (fun w h => ⟨(), rfl, (h.drop 4)⟩)
                · refine r_off rfl rfl rfl rfl (decide_eq_false c8) rfl ?_
                  refine r_off rfl rfl rfl rfl (decide_eq_false c8) rfl ?_
                  refine r_off rfl rfl rfl rfl (decide_eq_false c8) rfl ?_
                  refine r_q (q_pick_f rfl rfl (decide_eq_false c8) rfl) rfl rfl ?_
                  refine r_q (q_move rfl rfl) rfl rfl ?_
                  refine r_off rfl rfl rfl rfl rfl rfl ?_
                  refine r_off rfl rfl rfl rfl rfl rfl ?_
                  refine r_off rfl rfl rfl rfl rfl rfl ?_
                  refine r_offu rfl rfl rfl rfl rfl ?_
                  refine r_offu rfl rfl rfl rfl rfl ?_
                  refine r_offu rfl rfl rfl rfl rfl ?_
                  refine r_offu rfl rfl rfl rfl rfl ?_
                  refine r_off rfl rfl rfl rfl rfl rfl ?_
                  refine r_q (q_pick_f rfl rfl rfl rfl) rfl rfl ?_
                  refine r_q (q_assign rfl rfl) rfl rfl ?_
                  refine r_nil ?_
                  refine j_then ?_
                  refine j_ret ?_
                  cases h
                  exact j_return rfl (ResOf.tmp rfl ResOf.nil) rfl (fun w h => ⟨(), rfl, (h.drop 4)⟩)
            · refine r_off rfl rfl rfl rfl (var_f c6) rfl ?_
              refine r_off rfl rfl rfl rfl (var_f c6) rfl ?_
              refine r_off rfl rfl rfl rfl (var_f c6) rfl ?_
              refine r_qon (q_pick_f rfl rfl (var_f c6) rfl) rfl rfl rfl rfl (bne_f c5) rfl ?_
              refine r_q (q_pick_f rfl rfl (bne_f c5) rfl) rfl rfl ?_
              refine r_nil ?_
              refine j_then ?_
              refine j_false rfl rfl ?_
              refine j_skip ?_
              refine j_then ?_
              refine j_seq ?_
              refine j_region ?_
              refine r_q (q_move rfl rfl) rfl rfl ?_
              obtain ⟨v21, hb10, h⟩ := of_b1 h
              refine r_do (a_call ok28 rfl rfl rfl rfl (fun w hm => spec_DrawParseOp.calls K a1 a1_A a1_n a1_c hm a1_h (Rd.drop 2 a1_R) a1_k hb10)) rfl rfl (fun x8 => ?_)
              refine r_q (q_assign rfl rfl) rfl rfl ?_
              refine r_nil ?_
              refine j_then ?_
              refine j_seq ?_
              refine j_region ?_
              refine r_q (q_move rfl rfl) rfl rfl ?_
              obtain ⟨v22, v23, v24, v25, hb11, h⟩ := of_b4 h
              refine r_do (a_call ok24 rfl rfl rfl rfl (fun w hm => impl_ParseOp.calls K v21 hm (Rd.drop 2 gT) hb11)) rfl rfl (fun x9 => ?_)
              refine r_q (q_move rfl rfl) rfl rfl ?_
              refine r_q (q_extract rfl rfl rfl) rfl rfl ?_
              refine r_q (q_extract rfl rfl rfl) rfl rfl ?_
              refine r_do (a_alloc zr25 rfl) rfl rfl (fun x10 => ?_)
              refine r_do (a_storeb 0 rfl sz25 rfl rfl rfl rfl (Nat.le_of_ble_eq_true rfl) rfl) rfl rfl (fun _ => ?_)
              refine j_b0 [(i6 v22), (i6 v23), (i6 v24)] rfl ?_
              refine r_q (q_assign rfl rfl) rfl rfl ?_
              refine r_nil ?_
              refine j_then ?_
              refine j_seq ?_
              refine j_region ?_
              refine r_q (q_move rfl rfl) rfl rfl ?_
              obtain ⟨v26, v27, v28, v29, hb12, h⟩ := of_b4 h
              refine r_do (a_call ok23 rfl rfl rfl rfl (fun w hm => spec_ParseOp.calls K v21 hm hb12)) rfl rfl (fun x11 => ?_)
              refine r_q (q_move rfl rfl) rfl rfl ?_
              refine r_q (q_extract rfl rfl rfl) rfl rfl ?_
              refine r_q (q_extract rfl rfl rfl) rfl rfl ?_
              refine r_do (a_alloc zr25 rfl) rfl rfl (fun x12 => ?_)
              refine r_do (a_storeb 0 rfl sz25 rfl rfl rfl rfl (Nat.le_of_ble_eq_true rfl) rfl) rfl rfl (fun _ => ?_)
              refine j_b0 [(i6 v26), (i6 v27), (i6 v28)] rfl ?_
              refine r_q (q_assign rfl rfl) rfl rfl ?_
              refine r_nil ?_
              refine j_then ?_
              refine j_seq ?_
              refine j_region ?_
              refine r_q (q_loadb_agg 1 rfl ag25 sz25 rfl rfl rfl rfl) rfl rfl ?_
              refine r_q (q_loadb_agg 0 rfl ag25 sz25 rfl rfl rfl rfl) rfl rfl ?_
              refine r_q (q_eqT eqt25 rfl rfl rfl) rfl rfl ?_
              refine r_q (q_move rfl rfl) rfl rfl ?_
              rcases of_if h with ⟨c11, h⟩ | ⟨c11, h⟩
              · refine r_qon (q_move rfl rfl) rfl rfl rfl rfl (decide_eq_true c11) rfl ?_
                refine r_qon (q_move rfl rfl) rfl rfl rfl rfl (decide_eq_true c11) rfl ?_
                refine r_qon (q_beql un4 rfl rfl rfl) rfl rfl rfl rfl (decide_eq_true c11) rfl ?_
                refine r_q (q_pick_t rfl rfl (decide_eq_true c11) rfl) rfl rfl ?_
                refine r_q (q_move rfl rfl) rfl rfl ?_
                rcases of_if h with ⟨c12, h⟩ | ⟨c12, h⟩
                · refine r_qon (q_move rfl rfl) rfl rfl rfl rfl (beq_t c12) rfl ?_
                  refine r_qon (q_not rfl rfl) rfl rfl rfl rfl (beq_t c12) rfl ?_
                  refine r_qon (q_move rfl rfl) rfl rfl rfl rfl (beq_t c12) rfl ?_
                  rcases of_if h with ⟨c13, h⟩ | ⟨c13, h⟩
                  · refine r_qon (q_loadb_agg 1 rfl ag25 sz25 rfl rfl rfl rfl) rfl rfl rfl rfl (not_f c13) rfl ?_
                    obtain ⟨v30, hb13, h⟩ := of_b1 h
                    refine r_on (a_call ok12 rfl rfl rfl rfl (fun w hm => impl_FormatOp.calls K v22 v23 v24 hm (Rd.drop 4 gT) hb13)) rfl rfl rfl rfl (not_f c13) rfl (fun x13 => ?_)
                    refine r_qon (q_move rfl rfl) rfl rfl rfl rfl (not_f c13) rfl ?_
                    refine r_qon (q_seql rfl rfl rfl) rfl rfl rfl rfl (not_f c13) rfl ?_
                    refine r_qon (q_pick_f rfl rfl (not_f c13) rfl) rfl rfl rfl rfl (beq_t c12) rfl ?_
                    refine r_q (q_pick_t rfl rfl (beq_t c12) rfl) rfl rfl ?_
                    refine r_q (q_assign rfl rfl) rfl rfl ?_
                    refine r_nil ?_
                    refine j_then ?_
                    refine j_ret ?_
                    cases h
                    exact j_return rfl (ResOf.tmp rfl ResOf.nil) rfl (fun w h => ⟨(), rfl, (h.drop 4)⟩)
                  · refine r_off rfl rfl rfl rfl (not_t (var_f c13)) rfl ?_
                    refine r_off rfl rfl rfl rfl (not_t (var_f c13)) rfl ?_
                    refine r_off rfl rfl rfl rfl (not_t (var_f c13)) rfl ?_
                    refine r_off rfl rfl rfl rfl (not_t (var_f c13)) rfl ?_
                    refine r_qon (q_pick_t rfl rfl (not_t (var_f c13)) rfl) rfl rfl rfl rfl (beq_t c12) rfl ?_
                    refine r_q (q_pick_t rfl rfl (beq_t c12) rfl) rfl rfl ?_
                    refine r_q (q_assign rfl rfl) rfl rfl ?_
                    refine r_nil ?_
                    refine j_then ?_
                    refine j_ret ?_
                    cases h
                    exact j_return rfl (ResOf.tmp rfl ResOf.nil) rfl (fun w h => ⟨(), rfl, (h.drop 4)⟩)
                · refine r_off rfl rfl rfl rfl (beq_f c12) rfl ?_
                  refine r_off rfl rfl rfl rfl (beq_f c12) rfl ?_
                  refine r_off rfl rfl rfl rfl (beq_f c12) rfl ?_
                  refine r_offu rfl rfl rfl rfl rfl ?_
                  refine r_offu rfl rfl rfl rfl rfl ?_
                  refine r_offu rfl rfl rfl rfl rfl ?_
                  refine r_offu rfl rfl rfl rfl rfl ?_
                  refine r_off rfl rfl rfl rfl (beq_f c12) rfl ?_
                  refine r_q (q_pick_f rfl rfl (beq_f c12) rfl) rfl rfl ?_
                  refine r_q (q_assign rfl rfl) rfl rfl ?_
                  refine r_nil ?_
                  refine j_then ?_
                  refine j_ret ?_
                  cases h
                  exact j_return rfl (ResOf.tmp rfl ResOf.nil) rfl (fun w h => ⟨(), rfl, (h.drop 4)⟩)
              · refine r_off rfl rfl rfl rfl (decide_eq_false c11) rfl ?_
                refine r_off rfl rfl rfl rfl (decide_eq_false c11) rfl ?_
                refine r_off rfl rfl rfl rfl (decide_eq_false c11) rfl ?_
                refine r_q (q_pick_f rfl rfl (decide_eq_false c11) rfl) rfl rfl ?_
                refine r_q (q_move rfl rfl) rfl rfl ?_
                refine r_off rfl rfl rfl rfl rfl rfl ?_
                refine r_off rfl rfl rfl rfl rfl rfl ?_
                refine r_off rfl rfl rfl rfl rfl rfl ?_
                refine r_offu rfl rfl rfl rfl rfl ?_
                refine r_offu rfl rfl rfl rfl rfl ?_
                refine r_offu rfl rfl rfl rfl rfl ?_
                refine r_offu rfl rfl rfl rfl rfl ?_
                refine r_off rfl rfl rfl rfl rfl rfl ?_
                refine r_q (q_pick_f rfl rfl rfl rfl) rfl rfl ?_
                refine r_q (q_assign rfl rfl) rfl rfl ?_
                refine r_nil ?_
                refine j_then ?_
                refine j_ret ?_
                cases h
                exact j_return rfl (ResOf.tmp rfl ResOf.nil) rfl (fun w h => ⟨(), rfl, (h.drop 4)⟩)
          · refine r_off rfl rfl rfl rfl (bne_t c5) rfl ?_
            refine r_off rfl rfl rfl rfl (bne_t c5) rfl ?_
            refine r_offu rfl rfl rfl rfl rfl ?_
            refine r_offu rfl rfl rfl rfl rfl ?_
            refine r_offu rfl rfl rfl rfl rfl ?_
            refine r_off rfl rfl rfl rfl (bne_t c5) rfl ?_
            refine r_q (q_pick_t rfl rfl (bne_t c5) rfl) rfl rfl ?_
            refine r_nil ?_
            refine j_then ?_
            refine j_true rfl rfl ?_
            refine j_seq ?_
            refine j_region ?_
            refine r_q (q_assign rfl rfl) rfl rfl ?_
            refine r_nil ?_
            refine j_then ?_
            refine j_ret ?_
            refine j_then_ret ?_
            cases h
            exact j_return rfl (ResOf.tmp rfl ResOf.nil) rfl (fun w h => ⟨(), rfl, (h.drop 2)⟩)
        · refine r_off rfl rfl rfl rfl (bne_t c4) rfl ?_
          refine r_off rfl rfl rfl rfl (bne_t c4) rfl ?_
          refine r_off rfl rfl rfl rfl (bne_t c4) rfl ?_
          refine r_off rfl rfl rfl rfl (bne_t c4) rfl ?_
          refine r_q (q_pick_t rfl rfl (bne_t c4) rfl) rfl rfl ?_
          refine r_q (q_move rfl rfl) rfl rfl ?_
          refine r_off rfl rfl rfl rfl rfl rfl ?_
          refine r_off rfl rfl rfl rfl rfl rfl ?_
          refine r_offu rfl rfl rfl rfl rfl ?_
          refine r_offu rfl rfl rfl rfl rfl ?_
          refine r_offu rfl rfl rfl rfl rfl ?_
          refine r_off rfl rfl rfl rfl rfl rfl ?_
          refine r_q (q_pick_t rfl rfl rfl rfl) rfl rfl ?_
          refine r_nil ?_
          refine j_then ?_
          refine j_true rfl rfl ?_
          refine j_seq ?_
          refine j_region ?_
          refine r_q (q_assign rfl rfl) rfl rfl ?_
          refine r_nil ?_
          refine j_then ?_
          refine j_ret ?_
          refine j_then_ret ?_
          cases h
          exact j_return rfl (ResOf.tmp rfl ResOf.nil) rfl (fun w h => ⟨(), rfl, (h.drop 2)⟩)
      · refine r_off rfl rfl rfl rfl (not_t (beq_f c3)) rfl ?_
        refine r_off rfl rfl rfl rfl (not_t (beq_f c3)) rfl ?_
        refine r_off rfl rfl rfl rfl (not_t (beq_f c3)) rfl ?_
        refine r_off rfl rfl rfl rfl (not_t (beq_f c3)) rfl ?_
        refine r_off rfl rfl rfl rfl (not_t (beq_f c3)) rfl ?_
        refine r_q (q_pick_t rfl rfl (not_t (beq_f c3)) rfl) rfl rfl ?_
        refine r_q (q_move rfl rfl) rfl rfl ?_
        refine r_off rfl rfl rfl rfl rfl rfl ?_
        refine r_off rfl rfl rfl rfl rfl rfl ?_
        refine r_off rfl rfl rfl rfl rfl rfl ?_
        refine r_off rfl rfl rfl rfl rfl rfl ?_
        refine r_q (q_pick_t rfl rfl rfl rfl) rfl rfl ?_
        refine r_q (q_move rfl rfl) rfl rfl ?_
        refine r_off rfl rfl rfl rfl rfl rfl ?_
        refine r_off rfl rfl rfl rfl rfl rfl ?_
        refine r_offu rfl rfl rfl rfl rfl ?_
        refine r_offu rfl rfl rfl rfl rfl ?_
        refine r_offu rfl rfl rfl rfl rfl ?_
        refine r_off rfl rfl rfl rfl rfl rfl ?_
        refine r_q (q_pick_t rfl rfl rfl rfl) rfl rfl ?_
        refine r_nil ?_
        refine j_then ?_
        refine j_true rfl rfl ?_
        refine j_seq ?_
        refine j_region ?_
        refine r_q (q_assign rfl rfl) rfl rfl ?_
        refine r_nil ?_
        refine j_then ?_
        refine j_ret ?_
        refine j_then_ret ?_
        cases h
        exact j_return rfl (ResOf.tmp rfl ResOf.nil) rfl (fun w h => ⟨(), rfl, (h.drop 2)⟩)

end Go.Proofs.YtnfaiojmabolmaaDoor.F
