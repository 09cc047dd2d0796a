/- The program computes these pure functions, printed by the generator of wip/gen. -/
import Derived.Test.YtnfaiojmabolmaaDoorFa
import Derived.Test.YtnfaiojmabolmaaDoorFj
import Derived.Test.YtnfaiojmabolmaaDoorFm
import Derived.Test.YtnfaiojmabolmaaDoorFb
import Derived.Test.YtnfaiojmabolmaaDoorC0
namespace Go.Proofs.YtnfaiojmabolmaaDoor.F
open Go Go.RowKit Go.Proofs.YtnfaiojmabolmaaDoor.S
set_option linter.unusedVariables false
set_option maxRecDepth 100000
theorem spec_l13Open.calls (K : Nat) (a0 : List Int) (a0_A : Option Addr) (a0_n a0_c : Nat) {w0 w : World} {F : List Res} (hm : Mem w0 (F) w) (a0_h : a0.length = a0_n) (a0_R : Rd w0 F a0_A (ints .u8 a0)) (a0_k : a0.length ≤ a0_c) (h : spec_l13Open.f K a0 = some ()) :
    Calls Tryd.prog 38 (List.toArray [.slice a0_A a0_n a0_c]) w fun e w' => ∃ x : Nat, e = .returned (pt x) ∧ Mem w0 (.box x 69 [.slice a0_A (a0.take 2000).length a0_c, i6 (0:Int)] :: F) w' := by
  unfold spec_l13Open.f at h
  refine calls_of_J (n := 11) Tryd.func38 rfl rfl rfl hm ?_
  refine j_seq ?_
  refine j_region ?_
  refine r_q (q_assign rfl rfl) rfl rfl ?_
  refine r_nil ?_
  refine j_then ?_
  refine j_seq ?_
  refine j_seq ?_
  refine j_region ?_
  refine r_q (q_move rfl rfl) rfl rfl ?_
  refine r_q (q_lenX a0 a0_h un34 rfl rfl rfl rfl rfl) rfl rfl ?_
  refine r_q (q_gtr rfl rfl rfl) rfl rfl ?_
  refine r_nil ?_
  refine j_then ?_
  rcases of_if h with ⟨c1, h⟩ | ⟨c1, h⟩
  · refine j_true rfl (decide_eq_true c1) ?_
    refine j_region ?_
    refine r_q (q_move rfl rfl) rfl rfl ?_
    obtain ⟨c2, h⟩ := of_guard h
    refine j_fact (fun w hm => a0_k) (fun k2 => ?_)
    refine r_q (q_hi a0 a0_h k2 c2 un34 sz5 rfl rfl rfl) rfl rfl ?_
    refine r_q (q_assign rfl rfl) rfl rfl ?_
    refine r_nil ?_
    refine j_then ?_
    refine j_seq ?_
    refine j_region ?_
    refine r_q (q_move rfl rfl) rfl rfl ?_
    refine r_q (q_build (cs := [(.slice a0_A (a0.take (2000:Int).toNat).length a0_c), (i6 (0:Int))]) zr69 pl69 rfl rfl rfl rfl) rfl rfl ?_
    refine r_do (a_box rfl rfl) rfl rfl (fun x1 => ?_)
    refine r_q (q_assign rfl rfl) rfl rfl ?_
    refine r_nil ?_
    refine j_then ?_
    refine j_ret ?_
    refine j_rs (.box x1 69 [.slice a0_A (a0.take 2000).length a0_c, i6 (0:Int)] :: F) (fun _ h => h) ?_
    cases h
    exact j_return rfl (ResOf.tmp rfl ResOf.nil) rfl (fun w h => ⟨x1, rfl, h⟩)
  · refine j_false rfl (decide_eq_false c1) ?_
    refine j_skip ?_
    refine j_then ?_
    refine j_seq ?_
    refine j_region ?_
    refine r_q (q_move rfl rfl) rfl rfl ?_
    refine r_q (q_build (cs := [(.slice a0_A a0_n a0_c), (i6 (0:Int))]) zr69 pl69 rfl rfl rfl rfl) rfl rfl ?_
    refine r_do (a_box rfl rfl) rfl rfl (fun x1 => ?_)
    refine r_q (q_assign rfl rfl) rfl rfl ?_
    refine r_nil ?_
    refine j_then ?_
    refine j_ret ?_
    refine j_rs (.box x1 69 [.slice a0_A (a0.take 2000).length a0_c, i6 (0:Int)] :: F) (fun _ h => by rw [take_all (k := 2000) a0_h c1]; exact h) ?_
    cases h
    exact j_return rfl (ResOf.tmp rfl ResOf.nil) rfl (fun w h => ⟨x1, rfl, h⟩)

theorem spec_l13Rd_pick.calls (K : Nat) (a0_g : Nat) (a0_0 : List Int) (a0_0_A : Option Addr) (a0_0_n a0_0_c : Nat) (a0_1 : Int) (a1 : Int) {w0 w : World} {F : List Res} {r1 : Int} {r2 : Int} (hm : Mem w0 (.box a0_g 69 [.slice a0_0_A a0_0_n a0_0_c, i6 a0_1] :: F) w) (a0_0_h : a0_0.length = a0_0_n) (a0_0_R : Rd w0 F a0_0_A (ints .u8 a0_0)) (h : spec_l13Rd_pick.f K a0_0 a0_1 a1 = some (r1, r2)) :
    Calls Tryd.prog 40 (List.toArray [pt a0_g, i6 a1]) w fun e w' => ∃ x : Unit, e = .returned (i6 r1) ∧ Mem w0 (.box a0_g 69 [.slice a0_0_A a0_0_n a0_0_c, i6 r2] :: F) w' := by
  unfold spec_l13Rd_pick.f at h
  refine calls_of_J (n := 99) Tryd.func40 rfl rfl rfl hm ?_
  refine j_seq ?_
  refine j_region ?_
  refine r_q (q_assign rfl rfl) rfl rfl ?_
  refine r_nil ?_
  refine j_then ?_
  refine j_seq ?_
  refine j_region ?_
  refine r_q (q_move rfl rfl) rfl rfl ?_
  refine r_q (q_move rfl rfl) rfl rfl ?_
  refine r_q (q_nilCheck rfl rfl) rfl rfl ?_
  refine r_q (q_fieldAddr fi69_1 sz3 rfl rfl rfl) rfl rfl ?_
  refine r_q (q_loadb 0 rfl ag3 rfl rfl rfl) rfl rfl ?_
  refine r_q (q_add rfl rfl rfl) rfl rfl ?_
  refine r_q (q_nilCheck rfl rfl) rfl rfl ?_
  refine r_q (q_fieldAddr fi69_1 sz3 rfl rfl rfl) rfl rfl ?_
  refine r_do (a_storeb 0 rfl sz3 rfl rfl rfl rfl (Nat.le_of_ble_eq_true rfl) rfl) rfl rfl (fun _ => ?_)
  refine j_b0 [(.slice a0_0_A a0_0_n a0_0_c), (i6 (wrap64 (a0_1 + (1:Int))))] rfl ?_
  refine r_nil ?_
  refine j_then ?_
  refine j_seq ?_
  refine j_seq ?_
  refine j_region ?_
  refine r_q (q_move rfl rfl) rfl rfl ?_
  refine r_q (q_lss rfl rfl rfl) rfl rfl ?_
  refine r_q (q_move rfl rfl) rfl rfl ?_
  rcases of_if h with ⟨c1, h⟩ | ⟨c1, h⟩
  · refine r_off rfl rfl rfl rfl (decide_eq_true c1) rfl ?_
    refine r_off rfl rfl rfl rfl (decide_eq_true c1) rfl ?_
    refine r_off rfl rfl rfl rfl (decide_eq_true c1) rfl ?_
    refine r_off rfl rfl rfl rfl (decide_eq_true c1) rfl ?_
    refine r_off rfl rfl rfl rfl (decide_eq_true c1) rfl ?_
    refine r_off rfl rfl rfl rfl (decide_eq_true c1) rfl ?_
    refine r_q (q_pick_t rfl rfl (decide_eq_true c1) rfl) rfl rfl ?_
    refine r_nil ?_
    refine j_then ?_
    refine j_true rfl rfl ?_
    refine j_seq ?_
    refine j_region ?_
    refine r_q (q_assign rfl rfl) rfl rfl ?_
    refine r_nil ?_
    refine j_then ?_
    refine j_ret ?_
    refine j_then_ret ?_
    cases h
    exact j_return rfl (ResOf.tmp rfl ResOf.nil) rfl (fun w h => ⟨(), rfl, h⟩)
  · refine r_qon (q_move rfl rfl) rfl rfl rfl rfl (decide_eq_false c1) rfl ?_
    refine r_qon (q_nilCheck rfl rfl) rfl rfl rfl rfl (decide_eq_false c1) rfl ?_
    refine r_qon (q_fieldAddr fi69_0 sz34 rfl rfl rfl) rfl rfl rfl rfl (decide_eq_false c1) rfl ?_
    refine r_qon (q_loadb 0 rfl ag34 rfl rfl rfl) rfl rfl rfl rfl (decide_eq_false c1) rfl ?_
    refine r_qon (q_lenX a0_0 a0_0_h un34 rfl rfl rfl rfl rfl) rfl rfl rfl rfl (decide_eq_false c1) rfl ?_
    refine r_qon (q_eql rfl rfl rfl) rfl rfl rfl rfl (decide_eq_false c1) rfl ?_
    refine r_q (q_pick_f rfl rfl (decide_eq_false c1) rfl) rfl rfl ?_
    refine r_nil ?_
    refine j_then ?_
    rcases of_if h with ⟨c2, h⟩ | ⟨c2, h⟩
    · refine j_true rfl (beq_t c2) ?_
      refine j_seq ?_
      refine j_region ?_
      refine r_q (q_assign rfl rfl) rfl rfl ?_
      refine r_nil ?_
      refine j_then ?_
      refine j_ret ?_
      refine j_then_ret ?_
      cases h
      exact j_return rfl (ResOf.tmp rfl ResOf.nil) rfl (fun w h => ⟨(), rfl, h⟩)
    · refine j_false rfl (beq_f c2) ?_
      refine j_skip ?_
      refine j_then ?_
      refine j_seq ?_
      refine j_region ?_
      refine r_q (q_move rfl rfl) rfl rfl ?_
      refine r_q (q_nilCheck rfl rfl) rfl rfl ?_
      refine r_q (q_fieldAddr fi69_1 sz3 rfl rfl rfl) rfl rfl ?_
      refine r_q (q_loadb 0 rfl ag3 rfl rfl rfl) rfl rfl ?_
      refine r_q (q_sub rfl rfl rfl) rfl rfl ?_
      refine r_q (q_assign rfl rfl) rfl rfl ?_
      refine r_nil ?_
      refine j_then ?_
      refine j_seq ?_
      refine j_seq ?_
      refine j_region ?_
      refine r_q (q_move rfl rfl) rfl rfl ?_
      refine r_q (q_move rfl rfl) rfl rfl ?_
      refine r_q (q_nilCheck rfl rfl) rfl rfl ?_
      refine r_q (q_fieldAddr fi69_0 sz34 rfl rfl rfl) rfl rfl ?_
      refine r_q (q_loadb 0 rfl ag34 rfl rfl rfl) rfl rfl ?_
      refine r_q (q_lenX a0_0 a0_0_h un34 rfl rfl rfl rfl rfl) rfl rfl ?_
      refine r_q (q_lss rfl rfl rfl) rfl rfl ?_
      refine r_nil ?_
      refine j_then ?_
      rcases of_if h with ⟨c3, h⟩ | ⟨c3, h⟩
      · refine j_true rfl (decide_eq_true c3) ?_
        refine j_seq ?_
        refine j_region ?_
        refine r_q (q_move rfl rfl) rfl rfl ?_
        refine r_q (q_nilCheck rfl rfl) rfl rfl ?_
        refine r_q (q_fieldAddr fi69_0 sz34 rfl rfl rfl) rfl rfl ?_
        refine r_q (q_loadb 0 rfl ag34 rfl rfl rfl) rfl rfl ?_
        refine r_q (q_move rfl rfl) rfl rfl ?_
        obtain ⟨c4, h⟩ := of_guard h
        refine r_q (q_ix (Rd.drop 1 a0_0_R) (ints_len1 _ a0_0) (by decide) a0_0_h c4 un34 sz5 rfl rfl rfl) rfl rfl ?_
        refine r_q (q_ldI (Rd.drop 1 a0_0_R) c4 ag5 rfl rfl) rfl rfl ?_
        refine r_q (q_int un5 un3 rfl rfl) rfl rfl ?_
        refine r_q (q_move rfl rfl) rfl rfl ?_
        obtain ⟨c5, h⟩ := of_guard h
        refine r_q (q_rem rfl rfl rfl c5) rfl rfl ?_
        refine r_q (q_assign rfl rfl) rfl rfl ?_
        refine r_nil ?_
        refine j_then ?_
        refine j_ret ?_
        refine j_then_ret ?_
        cases h
        exact j_return rfl (ResOf.tmp rfl ResOf.nil) rfl (fun w h => ⟨(), rfl, h⟩)
      · refine j_false rfl (decide_eq_false c3) ?_
        refine j_skip ?_
        refine j_then ?_
        refine j_seq ?_
        obtain ⟨c6, h⟩ := of_guard h
        obtain ⟨c7, h⟩ := of_guard h
        obtain ⟨c8, h⟩ := of_guard h
        refine j_draw (.box a0_g 69 [(.slice a0_0_A a0_0_n a0_0_c), (i6 (wrap64 (a0_1 + (1:Int))))] :: F) 46 follows_any rfl ?_
        refine d_take 0 rfl (q_move rfl rfl) rfl rfl (by kernel_rfl) (by kernel_rfl) (by kernel_rfl) (fun w h => h) ?_
        refine d_take 1 rfl (q_nilCheck rfl rfl) rfl rfl (by kernel_rfl) (by kernel_rfl) (by kernel_rfl) (fun w h => h) ?_
        refine d_take 2 rfl (q_fieldAddr fi69_0 sz34 rfl rfl rfl) rfl rfl (by kernel_rfl) (by kernel_rfl) (by kernel_rfl) (fun w h => h) ?_
        refine d_take 3 rfl (q_loadb 0 rfl ag34 rfl rfl rfl) rfl rfl (by kernel_rfl) (by kernel_rfl) (by kernel_rfl) (fun w h => h) ?_
        refine d_take 4 rfl (q_move rfl rfl) rfl rfl (by kernel_rfl) (by kernel_rfl) (by kernel_rfl) (fun w h => h) ?_
        refine d_take 5 rfl (q_move rfl rfl) rfl rfl (by kernel_rfl) (by kernel_rfl) (by kernel_rfl) (fun w h => h) ?_
        refine d_take 6 rfl (q_nilCheck rfl rfl) rfl rfl (by kernel_rfl) (by kernel_rfl) (by kernel_rfl) (fun w h => h) ?_
        refine d_take 7 rfl (q_fieldAddr fi69_0 sz34 rfl rfl rfl) rfl rfl (by kernel_rfl) (by kernel_rfl) (by kernel_rfl) (fun w h => h) ?_
        refine d_take 8 rfl (q_loadb 0 rfl ag34 rfl rfl rfl) rfl rfl (by kernel_rfl) (by kernel_rfl) (by kernel_rfl) (fun w h => h) ?_
        refine d_take 9 rfl (q_lenX a0_0 a0_0_h un34 rfl rfl rfl rfl rfl) rfl rfl (by kernel_rfl) (by kernel_rfl) (by kernel_rfl) (fun w h => h) ?_
        refine d_take 10 rfl (q_rem rfl rfl rfl c6) rfl rfl (by kernel_rfl) (by kernel_rfl) (by kernel_rfl) (fun w h => h) ?_
        refine d_take 11 rfl (q_ix (Rd.drop 1 a0_0_R) (ints_len1 _ a0_0) (by decide) a0_0_h c7 un34 sz5 rfl rfl rfl) rfl rfl (by kernel_rfl) (by kernel_rfl) (by kernel_rfl) (fun w h => h) ?_
        refine d_take 12 rfl (q_ldI (Rd.drop 1 a0_0_R) c7 ag5 rfl rfl) rfl rfl (by kernel_rfl) (by kernel_rfl) (by kernel_rfl) (fun w h => h) ?_
        refine d_take 13 rfl (q_int un5 un3 rfl rfl) rfl rfl (by kernel_rfl) (by kernel_rfl) (by kernel_rfl) (fun w h => h) ?_
        refine d_take 14 rfl (q_mul rfl rfl rfl) rfl rfl (by kernel_rfl) (by kernel_rfl) (by kernel_rfl) (fun w h => h) ?_
        refine d_take 15 rfl (q_move rfl rfl) rfl rfl (by kernel_rfl) (by kernel_rfl) (by kernel_rfl) (fun w h => h) ?_
        refine d_take 16 rfl (q_nilCheck rfl rfl) rfl rfl (by kernel_rfl) (by kernel_rfl) (by kernel_rfl) (fun w h => h) ?_
        refine d_take 17 rfl (q_fieldAddr fi69_0 sz34 rfl rfl rfl) rfl rfl (by kernel_rfl) (by kernel_rfl) (by kernel_rfl) (fun w h => h) ?_
        refine d_take 18 rfl (q_loadb 0 rfl ag34 rfl rfl rfl) rfl rfl (by kernel_rfl) (by kernel_rfl) (by kernel_rfl) (fun w h => h) ?_
        refine d_take 19 rfl (q_move rfl rfl) rfl rfl (by kernel_rfl) (by kernel_rfl) (by kernel_rfl) (fun w h => h) ?_
        refine d_take 20 rfl (q_mul rfl rfl rfl) rfl rfl (by kernel_rfl) (by kernel_rfl) (by kernel_rfl) (fun w h => h) ?_
        refine d_take 21 rfl (q_add rfl rfl rfl) rfl rfl (by kernel_rfl) (by kernel_rfl) (by kernel_rfl) (fun w h => h) ?_
        refine d_take 22 rfl (q_move rfl rfl) rfl rfl (by kernel_rfl) (by kernel_rfl) (by kernel_rfl) (fun w h => h) ?_
        refine d_take 23 rfl (q_nilCheck rfl rfl) rfl rfl (by kernel_rfl) (by kernel_rfl) (by kernel_rfl) (fun w h => h) ?_
        refine d_take 24 rfl (q_fieldAddr fi69_0 sz34 rfl rfl rfl) rfl rfl (by kernel_rfl) (by kernel_rfl) (by kernel_rfl) (fun w h => h) ?_
        refine d_take 25 rfl (q_loadb 0 rfl ag34 rfl rfl rfl) rfl rfl (by kernel_rfl) (by kernel_rfl) (by kernel_rfl) (fun w h => h) ?_
        refine d_take 26 rfl (q_lenX a0_0 a0_0_h un34 rfl rfl rfl rfl rfl) rfl rfl (by kernel_rfl) (by kernel_rfl) (by kernel_rfl) (fun w h => h) ?_
        refine d_take 27 rfl (q_rem rfl rfl rfl c6) rfl rfl (by kernel_rfl) (by kernel_rfl) (by kernel_rfl) (fun w h => h) ?_
        refine d_take 28 rfl (q_ix (Rd.drop 1 a0_0_R) (ints_len1 _ a0_0) (by decide) a0_0_h c8 un34 sz5 rfl rfl rfl) rfl rfl (by kernel_rfl) (by kernel_rfl) (by kernel_rfl) (fun w h => h) ?_
        refine d_take 29 rfl (q_ldI (Rd.drop 1 a0_0_R) c8 ag5 rfl rfl) rfl rfl (by kernel_rfl) (by kernel_rfl) (by kernel_rfl) (fun w h => h) ?_
        refine d_take 30 rfl (q_int un5 un3 rfl rfl) rfl rfl (by kernel_rfl) (by kernel_rfl) (by kernel_rfl) (fun w h => h) ?_
        refine d_take 31 rfl (q_mul rfl rfl rfl) rfl rfl (by kernel_rfl) (by kernel_rfl) (by kernel_rfl) (fun w h => h) ?_
        refine d_take 32 rfl (q_add rfl rfl rfl) rfl rfl (by kernel_rfl) (by kernel_rfl) (by kernel_rfl) (fun w h => h) ?_
        refine d_take 33 rfl (q_move rfl rfl) rfl rfl (by kernel_rfl) (by kernel_rfl) (by kernel_rfl) (fun w h => h) ?_
        refine d_take 34 rfl (q_mul rfl rfl rfl) rfl rfl (by kernel_rfl) (by kernel_rfl) (by kernel_rfl) (fun w h => h) ?_
        refine d_take 35 rfl (q_add rfl rfl rfl) rfl rfl (by kernel_rfl) (by kernel_rfl) (by kernel_rfl) (fun w h => h) ?_
        refine d_take 36 rfl (q_move rfl rfl) rfl rfl (by kernel_rfl) (by kernel_rfl) (by kernel_rfl) (fun w h => h) ?_
        refine d_take 37 rfl (q_move rfl rfl) rfl rfl (by kernel_rfl) (by kernel_rfl) (by kernel_rfl) (fun w h => h) ?_
        refine d_take 38 rfl (q_nilCheck rfl rfl) rfl rfl (by kernel_rfl) (by kernel_rfl) (by kernel_rfl) (fun w h => h) ?_
        refine d_take 39 rfl (q_fieldAddr fi69_0 sz34 rfl rfl rfl) rfl rfl (by kernel_rfl) (by kernel_rfl) (by kernel_rfl) (fun w h => h) ?_
        refine d_take 40 rfl (q_loadb 0 rfl ag34 rfl rfl rfl) rfl rfl (by kernel_rfl) (by kernel_rfl) (by kernel_rfl) (fun w h => h) ?_
        refine d_take 41 rfl (q_lenX a0_0 a0_0_h un34 rfl rfl rfl rfl rfl) rfl rfl (by kernel_rfl) (by kernel_rfl) (by kernel_rfl) (fun w h => h) ?_
        refine d_take 42 rfl (q_quo rfl rfl rfl c6) rfl rfl (by kernel_rfl) (by kernel_rfl) (by kernel_rfl) (fun w h => h) ?_
        refine d_take 43 rfl (q_mul rfl rfl rfl) rfl rfl (by kernel_rfl) (by kernel_rfl) (by kernel_rfl) (fun w h => h) ?_
        refine d_take 44 rfl (q_add rfl rfl rfl) rfl rfl (by kernel_rfl) (by kernel_rfl) (by kernel_rfl) (fun w h => h) ?_
        refine d_take 45 rfl (q_assign rfl rfl) rfl rfl (by kernel_rfl) (by kernel_rfl) (by kernel_rfl) (fun w h => h) ?_
        refine d_done (by kernel_rfl) ?_
        refine j_then ?_
        refine j_seq ?_
        refine j_region ?_
        refine r_q (q_move rfl rfl) rfl rfl ?_
        refine r_q (q_move rfl rfl) rfl rfl ?_
        refine r_q (q_quo rfl rfl rfl (by decide)) rfl rfl ?_
        refine r_q (q_xor rfl rfl rfl) rfl rfl ?_
        refine r_q (q_assign rfl rfl) rfl rfl ?_
        refine r_nil ?_
        refine j_then ?_
        refine j_seq ?_
        refine j_region ?_
        refine r_q (q_move rfl rfl) rfl rfl ?_
        refine r_q (q_move rfl rfl) rfl rfl ?_
        obtain ⟨c9, h⟩ := of_guard h
        refine r_q (q_rem rfl rfl rfl c9) rfl rfl ?_
        refine r_q (q_assign rfl rfl) rfl rfl ?_
        refine r_nil ?_
        refine j_then ?_
        refine j_ret ?_
        cases h
        exact j_return rfl (ResOf.tmp rfl ResOf.nil) rfl (fun w h => ⟨(), rfl, h⟩)

theorem spec_l13Rd_num.calls (K : Nat) (a0_g : Nat) (a0_0 : List Int) (a0_0_A : Option Addr) (a0_0_n a0_0_c : Nat) (a0_1 : Int) (a1 : List Int) (a1_A : Option Addr) (a1_n a1_c : Nat) {w0 w : World} {F : List Res} {r1 : Int} {r2 : Int} (hm : Mem w0 (.box a0_g 69 [.slice a0_0_A a0_0_n a0_0_c, i6 a0_1] :: F) w) (a0_0_h : a0_0.length = a0_0_n) (a0_0_R : Rd w0 F a0_0_A (ints .u8 a0_0)) (a1_h : a1.length = a1_n) (a1_R : Rd w0 F a1_A (ii a1)) (h : spec_l13Rd_num.f K a0_0 a0_1 a1 = some (r1, r2)) :
    Calls Tryd.prog 41 (List.toArray [pt a0_g, .slice a1_A a1_n a1_c]) w fun e w' => ∃ x : Unit, e = .returned (i6 r1) ∧ Mem w0 (.box a0_g 69 [.slice a0_0_A a0_0_n a0_0_c, i6 r2] :: F) w' := by
  unfold spec_l13Rd_num.f at h
  refine calls_of_J (n := 12) Tryd.func41 rfl rfl rfl hm ?_
  refine j_seq ?_
  refine j_region ?_
  refine r_q (q_assign rfl rfl) rfl rfl ?_
  refine r_nil ?_
  refine j_then ?_
  refine j_seq ?_
  refine j_region ?_
  refine r_q (q_move rfl rfl) rfl rfl ?_
  refine r_q (q_move rfl rfl) rfl rfl ?_
  refine r_q (q_move rfl rfl) rfl rfl ?_
  refine r_q (q_lenX a1 a1_h un60 rfl rfl rfl rfl rfl) rfl rfl ?_
  obtain ⟨v1, v2, hb1, h⟩ := of_b2 h
  refine r_do (a_call ok40 rfl rfl rfl rfl (fun w hm => spec_l13Rd_pick.calls K a0_g a0_0 a0_0_A a0_0_n a0_0_c a0_1 (a1.length : Int) hm a0_0_h a0_0_R hb1)) rfl rfl (fun x1 => ?_)
  obtain ⟨c1, h⟩ := of_guard h
  refine r_q (q_ix (Rd.drop 1 a1_R) (ints_len1 _ a1) (by decide) a1_h c1 un60 sz3 rfl rfl rfl) rfl rfl ?_
  refine r_q (q_ldI (Rd.drop 1 a1_R) c1 ag3 rfl rfl) rfl rfl ?_
  refine r_q (q_assign rfl rfl) rfl rfl ?_
  refine r_nil ?_
  refine j_then ?_
  refine j_ret ?_
  cases h
  exact j_return rfl (ResOf.tmp rfl ResOf.nil) rfl (fun w h => ⟨(), rfl, h⟩)

theorem spec_l5Op.calls (K : Nat) (a0_g : Nat) (a0_0 : List Int) (a0_0_A : Option Addr) (a0_0_n a0_0_c : Nat) (a0_1 : Int) {w0 w : World} {F : List Res} {r1 : Int} {r2 : Int} {r3 : Int} {r4 : Int} (hm : Mem w0 (.box a0_g 69 [.slice a0_0_A a0_0_n a0_0_c, i6 a0_1] :: F) w) (a0_0_h : a0_0.length = a0_0_n) (a0_0_R : Rd w0 F a0_0_A (ints .u8 a0_0)) (h : spec_l5Op.f K a0_0 a0_1 = some (r1, r2, r3, r4)) :
    Calls Tryd.prog 46 (List.toArray [pt a0_g]) w fun e w' => ∃ x : Unit, e = .returned (.agg (List.toArray [i6 r1, i6 r2, i6 r3])) ∧ Mem w0 (.box a0_g 69 [.slice a0_0_A a0_0_n a0_0_c, i6 r4] :: F) w' := by
  unfold spec_l5Op.f at h
  refine calls_of_J (n := 19) Tryd.func46 rfl rfl rfl hm ?_
  refine j_seq ?_
  refine j_region ?_
  refine r_do (a_alloc zr25 rfl) rfl rfl (fun x1 => ?_)
  refine r_nil ?_
  refine j_then ?_
  refine j_seq ?_
  refine j_region ?_
  refine r_q (q_move rfl rfl) rfl rfl ?_
  refine r_do (a_litX (vs := [(i6 (1:Int)), (i6 (5:Int)), (i6 (2:Int)), (i6 (3:Int)), (i6 (4:Int)), (i6 (6:Int)), (i6 (7:Int)), (i6 (1:Int))]) (ii ([(1:Int), (5:Int), (2:Int), (3:Int), (4:Int), (6:Int), (7:Int), (1:Int)] : List Int)) un60 sz3 zr3 rfl rfl rfl rfl rfl rfl rfl rfl rfl) rfl rfl (fun x2 => ?_)
  obtain ⟨v1, v2, hb1, h⟩ := of_b2 h
  refine j_rs (.box a0_g 69 [(.slice a0_0_A a0_0_n a0_0_c), (i6 a0_1)] :: .row x2 8 3 1 (ii ([(1:Int), (5:Int), (2:Int), (3:Int), (4:Int), (6:Int), (7:Int), (1:Int)] : List Int)) :: .box x1 25 [(i6 (0:Int)), (i6 (0:Int)), (i6 (0:Int))] :: F) (fun _ h => h.pick 3 [2, 0, 1] rfl) ?_
  refine r_do (a_call ok41 rfl rfl rfl rfl (fun w hm => spec_l13Rd_num.calls K a0_g a0_0 a0_0_A a0_0_n a0_0_c a0_1 ([(1:Int), (5:Int), (2:Int), (3:Int), (4:Int), (6:Int), (7:Int), (1:Int)] : List Int) x2 8 8 hm a0_0_h (Rd.drop 2 a0_0_R) rfl (Rd.row 0 rfl) hb1)) rfl rfl (fun x3 => ?_)
  refine r_q (q_move rfl rfl) rfl rfl ?_
  refine r_do (a_litX (vs := [(i6 (0:Int)), (i6 (1:Int)), (i6 (0:Int)), (i6 (2:Int))]) (ii ([(0:Int), (1:Int), (0:Int), (2:Int)] : List Int)) un60 sz3 zr3 rfl rfl rfl rfl rfl rfl rfl rfl rfl) rfl rfl (fun x4 => ?_)
  obtain ⟨v3, v4, hb2, h⟩ := of_b2 h
  refine j_rs (.box a0_g 69 [(.slice a0_0_A a0_0_n a0_0_c), (i6 v2)] :: .row x4 4 3 1 (ii ([(0:Int), (1:Int), (0:Int), (2:Int)] : List Int)) :: .row x2 8 3 1 (ii ([(1:Int), (5:Int), (2:Int), (3:Int), (4:Int), (6:Int), (7:Int), (1:Int)] : List Int)) :: .box x1 25 [(i6 (0:Int)), (i6 (0:Int)), (i6 (0:Int))] :: F) (fun _ h => h.pick 4 [1, 0, 2, 3] rfl) ?_
  refine r_do (a_call ok41 rfl rfl rfl rfl (fun w hm => spec_l13Rd_num.calls K a0_g a0_0 a0_0_A a0_0_n a0_0_c v2 ([(0:Int), (1:Int), (0:Int), (2:Int)] : List Int) x4 4 4 hm a0_0_h (Rd.drop 3 a0_0_R) rfl (Rd.row 0 rfl) hb2)) rfl rfl (fun x5 => ?_)
  refine r_q (q_move rfl rfl) rfl rfl ?_
  refine r_do (a_litX (vs := [(i6 (0:Int)), (i6 (1:Int)), (i6 (1:Int)), (i6 (2:Int))]) (ii ([(0:Int), (1:Int), (1:Int), (2:Int)] : List Int)) un60 sz3 zr3 rfl rfl rfl rfl rfl rfl rfl rfl rfl) rfl rfl (fun x6 => ?_)
  obtain ⟨v5, v6, hb3, h⟩ := of_b2 h
  refine j_rs (.box a0_g 69 [(.slice a0_0_A a0_0_n a0_0_c), (i6 v4)] :: .row x6 4 3 1 (ii ([(0:Int), (1:Int), (1:Int), (2:Int)] : List Int)) :: .row x4 4 3 1 (ii ([(0:Int), (1:Int), (0:Int), (2:Int)] : List Int)) :: .row x2 8 3 1 (ii ([(1:Int), (5:Int), (2:Int), (3:Int), (4:Int), (6:Int), (7:Int), (1:Int)] : List Int)) :: .box x1 25 [(i6 (0:Int)), (i6 (0:Int)), (i6 (0:Int))] :: F) (fun _ h => h.pick 5 [1, 0, 2, 3, 4] rfl) ?_
  refine r_do (a_call ok41 rfl rfl rfl rfl (fun w hm => spec_l13Rd_num.calls K a0_g a0_0 a0_0_A a0_0_n a0_0_c v4 ([(0:Int), (1:Int), (1:Int), (2:Int)] : List Int) x6 4 4 hm a0_0_h (Rd.drop 4 a0_0_R) rfl (Rd.row 0 rfl) hb3)) rfl rfl (fun x7 => ?_)
  refine r_q (q_build (cs := [(i6 v1), (i6 v3), (i6 v5)]) zr25 pl25 rfl rfl rfl rfl) rfl rfl ?_
  refine r_do (a_alloc zr25 rfl) rfl rfl (fun x8 => ?_)
  refine r_do (a_storeb 0 rfl sz25 rfl rfl rfl rfl (Nat.le_of_ble_eq_true rfl) rfl) rfl rfl (fun _ => ?_)
  refine j_b0 [(i6 v1), (i6 v3), (i6 v5)] rfl ?_
  refine r_nil ?_
  refine j_then ?_
  refine j_seq ?_
  refine j_seq ?_
  refine j_region ?_
  refine r_q (q_fieldAddr fi25_0 sz3 rfl rfl rfl) rfl rfl ?_
  refine r_q (q_loadb 0 rfl ag3 rfl rfl rfl) rfl rfl ?_
  obtain ⟨v7, hb4, h⟩ := of_b1 h
  refine r_do (a_call ok34 rfl rfl rfl rfl (fun w hm => spec_l5One.calls K v1 hm hb4)) rfl rfl (fun x9 => ?_)
  refine r_nil ?_
  refine j_then ?_
  rcases of_if h with ⟨c1, h⟩ | ⟨c1, h⟩
  · refine j_true rfl c1 ?_
    refine j_region ?_
    refine r_q (q_fieldAddr fi25_2 sz3 rfl rfl rfl) rfl rfl ?_
    refine r_do (a_storeb 0 rfl sz3 rfl rfl rfl rfl (Nat.le_of_ble_eq_true rfl) rfl) rfl rfl (fun _ => ?_)
    refine j_b0 [(i6 v1), (i6 v3), (i6 (0:Int))] rfl ?_
    refine r_nil ?_
    refine j_then ?_
    refine j_seq ?_
    refine j_region ?_
    refine r_q (q_loadb_agg 0 rfl ag25 sz25 rfl rfl rfl rfl) rfl rfl ?_
    refine r_do (a_storeb 5 rfl sz25 rfl rfl rfl rfl (Nat.le_of_ble_eq_true rfl) rfl) rfl rfl (fun _ => ?_)
    refine j_b5 [(i6 v1), (i6 v3), (i6 (0:Int))] rfl ?_
    refine r_nil ?_
    refine j_then ?_
    refine j_ret ?_
    cases h
    exact j_return rfl (ResOf.cell 5 rfl rfl ag25 sz25 ResOf.nil) rfl (fun w h => ⟨(), rfl, h.pick 6 [1] rfl⟩)
  · refine j_false rfl (var_f c1) ?_
    refine j_skip ?_
    refine j_then ?_
    refine j_seq ?_
    refine j_region ?_
    refine r_q (q_loadb_agg 0 rfl ag25 sz25 rfl rfl rfl rfl) rfl rfl ?_
    refine r_do (a_storeb 5 rfl sz25 rfl rfl rfl rfl (Nat.le_of_ble_eq_true rfl) rfl) rfl rfl (fun _ => ?_)
    refine j_b5 [(i6 v1), (i6 v3), (i6 v5)] rfl ?_
    refine r_nil ?_
    refine j_then ?_
    refine j_ret ?_
    cases h
    exact j_return rfl (ResOf.cell 5 rfl rfl ag25 sz25 ResOf.nil) rfl (fun w h => ⟨(), rfl, h.pick 6 [1] rfl⟩)

theorem spec_l5Ops.calls (K : Nat) (a0_g : Nat) (a0_0 : List Int) (a0_0_A : Option Addr) (a0_0_n a0_0_c : Nat) (a0_1 : Int) {w0 w : World} {F : List Res} {r1 : List (Int × Int × Int)} {r2 : Int} (hm : Mem w0 (.box a0_g 69 [.slice a0_0_A a0_0_n a0_0_c, i6 a0_1] :: F) w) (a0_0_h : a0_0.length = a0_0_n) (a0_0_R : Rd w0 F a0_0_A (ints .u8 a0_0)) (h : spec_l5Ops.f K a0_0 a0_1 = some (r1, r2)) :
    Calls Tryd.prog 39 (List.toArray [pt a0_g]) w fun e w' => ∃ x : (Sl r1.length), e = .returned (.slice x.A x.n x.c) ∧ Mem w0 (.row x.A x.c 25 3 (trips r1) :: .box a0_g 69 [.slice a0_0_A a0_0_n a0_0_c, i6 r2] :: F) w' := by
  unfold spec_l5Ops.f at h
  refine calls_of_J (n := 19) Tryd.func39 rfl rfl rfl hm ?_
  refine j_seq ?_
  refine j_region ?_
  refine r_q (q_assign rfl rfl) rfl rfl ?_
  refine r_nil ?_
  refine j_then ?_
  refine j_seq ?_
  refine j_region ?_
  refine r_do (a_litX (vs := []) (trips ([] : List (Int × Int × Int))) un28 sz25 zr25 rfl rfl rfl rfl rfl rfl rfl rfl rfl) rfl rfl (fun x1 => ?_)
  refine r_q (q_assign rfl rfl) rfl rfl ?_
  refine r_nil ?_
  refine j_then ?_
  refine j_seq ?_
  refine j_seq ?_
  refine j_region ?_
  refine r_q (q_move rfl rfl) rfl rfl ?_
  refine r_do (a_litX (vs := [(i6 (4:Int)), (i6 (3:Int)), (i6 (6:Int)), (i6 (2:Int)), (i6 (1:Int)), (i6 (0:Int)), (i6 (9:Int))]) (ii ([(4:Int), (3:Int), (6:Int), (2:Int), (1:Int), (0:Int), (9:Int)] : List Int)) un60 sz3 zr3 rfl rfl rfl rfl rfl rfl rfl rfl rfl) rfl rfl (fun x2 => ?_)
  obtain ⟨v1, v2, hb1, h⟩ := of_b2 h
  refine j_rs (.box a0_g 69 [(.slice a0_0_A a0_0_n a0_0_c), (i6 a0_1)] :: .row x2 7 3 1 (ii ([(4:Int), (3:Int), (6:Int), (2:Int), (1:Int), (0:Int), (9:Int)] : List Int)) :: .row x1 0 25 3 (trips ([] : List (Int × Int × Int))) :: F) (fun _ h => h.pick 3 [2, 0, 1] rfl) ?_
  refine r_do (a_call ok41 rfl rfl rfl rfl (fun w hm => spec_l13Rd_num.calls K a0_g a0_0 a0_0_A a0_0_n a0_0_c a0_1 ([(4:Int), (3:Int), (6:Int), (2:Int), (1:Int), (0:Int), (9:Int)] : List Int) x2 7 7 hm a0_0_h (Rd.drop 2 a0_0_R) rfl (Rd.row 0 rfl) hb1)) rfl rfl (fun x3 => ?_)
  refine r_q (q_assign rfl rfl) rfl rfl ?_
  refine r_nil ?_
  refine j_then ?_
  obtain ⟨κ0, h, hκ0⟩ := ex_k (g := fun κ => spec_l5Ops.loop0 K κ a0_0 K ([] : List (Int × Int × Int)) v1 v2 = some (r1, r2)) h
  refine j_cut (σ := (Option Addr) × Nat × Nat × (List (Int × Int × Int)) × Int) (fun s => [(3, (.slice s.1 s.2.1 s.2.2.1))]) (fun s => .box a0_g 69 [(.slice a0_0_A a0_0_n a0_0_c), (i6 s.2.2.2.2)] :: .row s.1 s.2.2.1 25 3 (trips s.2.2.2.1) :: F) (fun s => κ0 s.2.2.2.1 s.2.2.2.2 = some (r1, r2) ∧ (s.2.2.2.1.length = s.2.1)) ?_ ?_
  · refine j_block ?_
    refine j_loop (σ := (Option Addr) × Nat × Nat × (List (Int × Int × Int)) × Int × Int) (fun s => [(0, (pt a0_g)), (3, (.slice s.1 s.2.1 s.2.2.1)), (4, (i6 s.2.2.2.2.1))]) (fun s => .box a0_g 69 [(.slice a0_0_A a0_0_n a0_0_c), (i6 s.2.2.2.2.2)] :: .row s.1 s.2.2.1 25 3 (trips s.2.2.2.1) :: F) (fun m s => spec_l5Ops.loop0 K κ0 a0_0 m s.2.2.2.1 s.2.2.2.2.1 s.2.2.2.2.2 = some (r1, r2) ∧ (s.2.2.2.1.length = s.2.1)) K (x1, 0, 0, ([] : List (Int × Int × Int)), v1, v2) ⟨h, rfl⟩ (fun a he => he.sub ⟨rfl, rfl, rfl, trivial⟩) (fun w h => h.pick 3 [0, 2] rfl) ?_
    rintro m ⟨A2, n2, d2, l2, p3, p4⟩ ⟨h, q2⟩
    cases m with
    | zero => exact absurd h (by rw [spec_l5Ops.loop0]; exact nofun)
    | succ m =>
      rw [spec_l5Ops.loop0] at h
      show J _ _ [(0, (pt a0_g)), (3, (.slice A2 n2 d2)), (4, (i6 p3))] _ (.box a0_g 69 [(.slice a0_0_A a0_0_n a0_0_c), (i6 p4)] :: .row A2 d2 25 3 (trips l2) :: F)
      refine j_seq ?_
      refine j_seq ?_
      refine j_region ?_
      refine r_q (q_move rfl rfl) rfl rfl ?_
      refine r_q (q_gtr rfl rfl rfl) rfl rfl ?_
      refine r_nil ?_
      refine j_then ?_
      rcases of_if h with ⟨c7, h⟩ | ⟨c7, h⟩
      · refine j_true rfl (decide_eq_true c7) ?_
        refine j_skip ?_
        refine j_then ?_
        refine j_seq ?_
        refine j_block ?_
        refine j_region ?_
        refine r_q (q_move rfl rfl) rfl rfl ?_
        refine r_q (q_move rfl rfl) rfl rfl ?_
        obtain ⟨v15, v16, v17, v18, hb5, h⟩ := of_b4 h
        refine r_do (a_call ok46 rfl rfl rfl rfl (fun w hm => spec_l5Op.calls K a0_g a0_0 a0_0_A a0_0_n a0_0_c p4 hm a0_0_h (Rd.drop 1 a0_0_R) hb5)) rfl rfl (fun x4 => ?_)
        refine r_do (a_litX (vs := [(.agg (List.toArray [(i6 v15), (i6 v16), (i6 v17)]))]) (trips ([(v15, v16, v17)] : List (Int × Int × Int))) un28 sz25 zr25 rfl rfl rfl rfl rfl rfl rfl rfl rfl) rfl rfl (fun x5 => ?_)
        obtain ⟨c8, h⟩ := of_guard h
        refine r_do (a_appT (xs := l2) (ys := ([(v15, v16, v17)] : List (Int × Int × Int))) 2 un28 un28 sz25 by25 zr25 rfl rfl rfl rfl rfl rfl rfl rfl rfl q2 rfl (Rd.row 0 rfl) c8) rfl rfl (fun x6 => ?_)
        refine j_s2 ?_
        refine r_q (q_assign rfl rfl) rfl rfl ?_
        refine r_nil ?_
        refine j_in ?_
        refine j_then ?_
        refine j_region ?_
        refine r_q (q_move rfl rfl) rfl rfl ?_
        refine r_q (q_sub rfl rfl rfl) rfl rfl ?_
        refine r_q (q_assign rfl rfl) rfl rfl ?_
        refine r_nil ?_
        refine j_then ?_
        exact j_again m (x6.1, (n2 + 1), x6.2, (l2 ++ ([(v15, v16, v17)] : List (Int × Int × Int))), (wrap64 (p3 - (1:Int))), v18) (Nat.lt_succ_self m) ⟨h, (app_len q2 rfl)⟩ (fun a he => he.sub ⟨rfl, rfl, rfl, trivial⟩) (fun w h => h.tail)
      · refine j_false rfl (decide_eq_false c7) ?_
        refine j_exit ?_
        refine j_then_exit ?_
        refine j_then_exit ?_
        refine j_in_exit ?_
        refine j_then ?_
        exact j_meet (A2, n2, d2, l2, p4) ⟨h, q2⟩ (fun a he => he.sub ⟨rfl, trivial⟩) (fun w h => h)
  · rintro ⟨A3, n3, d3, l3, p5⟩ ⟨h, q3⟩
    subst hκ0
    show J _ _ [(3, (.slice A3 n3 d3))] _ (.box a0_g 69 [(.slice a0_0_A a0_0_n a0_0_c), (i6 p5)] :: .row A3 d3 25 3 (trips l3) :: F)
    refine j_then ?_
    refine j_seq ?_
    refine j_region ?_
    refine r_q (q_move rfl rfl) rfl rfl ?_
    refine r_q (q_assign rfl rfl) rfl rfl ?_
    refine r_nil ?_
    refine j_then ?_
    refine j_ret ?_
    cases h
    exact j_return rfl (ResOf.tmp rfl ResOf.nil) rfl (fun w h => ⟨⟨A3, n3, d3, q3⟩, rfl, h.pick 2 [1, 0] rfl⟩)

theorem spec_DrawFormatOps.calls (K : Nat) (a0 : List Int) (a0_A : Option Addr) (a0_n a0_c : Nat) {w0 w : World} {F : List Res} {r1 : List (Int × Int × Int)} (hm : Mem w0 (F) w) (a0_h : a0.length = a0_n) (a0_R : Rd w0 F a0_A (ints .u8 a0)) (a0_k : a0.length ≤ a0_c) (h : spec_DrawFormatOps.f K a0 = some r1) :
    Calls Tryd.prog 18 (List.toArray [.slice a0_A a0_n a0_c]) w fun e w' => ∃ x : (Sl r1.length), e = .returned (.slice x.A x.n x.c) ∧ Mem w0 (.row x.A x.c 25 3 (trips r1) :: F) w' := by
  unfold spec_DrawFormatOps.f at h
  refine calls_of_J (n := 20) Tryd.func18 rfl rfl rfl hm ?_
  refine j_seq ?_
  refine j_region ?_
  refine r_q (q_assign rfl rfl) rfl rfl ?_
  refine r_nil ?_
  refine j_then ?_
  refine j_seq ?_
  refine j_region ?_
  refine r_q (q_move rfl rfl) rfl rfl ?_
  obtain ⟨_, hb1, h⟩ := of_b1 h
  refine r_do (a_call ok38 rfl rfl rfl rfl (fun w hm => spec_l13Open.calls K a0 a0_A a0_n a0_c hm a0_h a0_R a0_k hb1)) rfl rfl (fun x1 => ?_)
  refine r_q (q_assign rfl rfl) rfl rfl ?_
  refine r_nil ?_
  refine j_then ?_
  refine j_seq ?_
  refine j_region ?_
  refine r_q (q_move rfl rfl) rfl rfl ?_
  obtain ⟨v1, v2, hb2, h⟩ := of_b2 h
  refine r_do (a_call ok39 rfl rfl rfl rfl (fun w hm => spec_l5Ops.calls K x1 (a0.take 2000) a0_A (a0.take 2000).length a0_c (0:Int) hm rfl (rd_hiI a0_R 2000) hb2)) rfl rfl (fun x2 => ?_)
  refine r_q (q_assign rfl rfl) rfl rfl ?_
  refine r_nil ?_
  refine j_then ?_
  refine j_seq ?_
  refine j_seq ?_
  refine j_region ?_
  refine r_q (q_move rfl rfl) rfl rfl ?_
  obtain ⟨v3, v4, hb3, h⟩ := of_b2 h
  refine j_rs (.box x1 69 [(.slice a0_A (a0.take 2000).length a0_c), (i6 v2)] :: .row x2.A x2.c 25 3 (trips v1) :: F) (fun _ h => h.pick 2 [1, 0] rfl) ?_
  refine r_do (a_call ok40 rfl rfl rfl rfl (fun w hm => spec_l13Rd_pick.calls K x1 (a0.take 2000) a0_A (a0.take 2000).length a0_c v2 (12:Int) hm rfl (rd_hiI (Rd.drop 1 a0_R) 2000) hb3)) rfl rfl (fun x3 => ?_)
  refine r_q (q_eql rfl rfl rfl) rfl rfl ?_
  refine r_nil ?_
  refine j_then ?_
  rcases of_if h with ⟨c1, h⟩ | ⟨c1, h⟩
  · refine j_true rfl (beq_t c1) ?_
    refine j_region ?_
    refine r_q (q_move rfl rfl) rfl rfl ?_
    refine r_q (q_move rfl rfl) rfl rfl ?_
    refine r_do (a_litX (vs := [(i6 (0:Int)), (i6 (8:Int)), (i6 (1:Int))]) (ii ([(0:Int), (8:Int), (1:Int)] : List Int)) un60 sz3 zr3 rfl rfl rfl rfl rfl rfl rfl rfl rfl) rfl rfl (fun x4 => ?_)
    obtain ⟨v5, v6, hb4, h⟩ := of_b2 h
    refine j_rs (.box x1 69 [(.slice a0_A (a0.take 2000).length a0_c), (i6 v4)] :: .row x4 3 3 1 (ii ([(0:Int), (8:Int), (1:Int)] : List Int)) :: .row x2.A x2.c 25 3 (trips v1) :: F) (fun _ h => h.pick 3 [1, 0, 2] rfl) ?_
    refine r_do (a_call ok41 rfl rfl rfl rfl (fun w hm => spec_l13Rd_num.calls K x1 (a0.take 2000) a0_A (a0.take 2000).length a0_c v4 ([(0:Int), (8:Int), (1:Int)] : List Int) x4 3 3 hm rfl (rd_hiI (Rd.drop 2 a0_R) 2000) rfl (Rd.row 0 rfl) hb4)) rfl rfl (fun x5 => ?_)
    refine r_q (q_build (cs := [(i6 v5), (i6 (3:Int)), (i6 (0:Int))]) zr25 pl25 rfl rfl rfl rfl) rfl rfl ?_
    refine r_do (a_litX (vs := [(.agg (List.toArray [(i6 v5), (i6 (3:Int)), (i6 (0:Int))]))]) (trips ([(v5, (3:Int), (0:Int))] : List (Int × Int × Int))) un28 sz25 zr25 rfl rfl rfl rfl rfl rfl rfl rfl rfl) rfl rfl (fun x6 => ?_)
    obtain ⟨c2, h⟩ := of_guard h
    refine r_do (a_appT (xs := v1) (ys := ([(v5, (3:Int), (0:Int))] : List (Int × Int × Int))) 3 un28 un28 sz25 by25 zr25 rfl rfl rfl rfl rfl rfl rfl rfl rfl x2.h rfl (Rd.row 0 rfl) c2) rfl rfl (fun x7 => ?_)
    refine j_s3 ?_
    refine r_q (q_assign rfl rfl) rfl rfl ?_
    refine r_nil ?_
    refine j_then ?_
    refine j_seq ?_
    refine j_region ?_
    refine r_q (q_move rfl rfl) rfl rfl ?_
    refine r_q (q_assign rfl rfl) rfl rfl ?_
    refine r_nil ?_
    refine j_then ?_
    refine j_ret ?_
    cases h
    exact j_return rfl (ResOf.tmp rfl ResOf.nil) rfl (fun w h => ⟨⟨x7.1, (x2.n + 1), x7.2, (app_len x2.h rfl)⟩, rfl, (h.drop 3)⟩)
  · refine j_false rfl (beq_f c1) ?_
    refine j_skip ?_
    refine j_then ?_
    refine j_seq ?_
    refine j_region ?_
    refine r_q (q_move rfl rfl) rfl rfl ?_
    refine r_q (q_assign rfl rfl) rfl rfl ?_
    refine r_nil ?_
    refine j_then ?_
    refine j_ret ?_
    cases h
    exact j_return rfl (ResOf.tmp rfl ResOf.nil) rfl (fun w h => ⟨⟨x2.A, x2.n, x2.c, x2.h⟩, rfl, h.tail⟩)

end Go.Proofs.YtnfaiojmabolmaaDoor.F
