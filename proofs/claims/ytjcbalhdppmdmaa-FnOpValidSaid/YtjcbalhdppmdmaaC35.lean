/- The program computes these pure functions, printed by the generator of wip/gen. -/
import Derived.Test.YtjcbalhdppmdmaaFa
import Derived.Test.YtjcbalhdppmdmaaFb
import Derived.Test.YtjcbalhdppmdmaaC8
import Derived.Test.YtjcbalhdppmdmaaC21
namespace Go.Proofs.Ytjcbalhdppmdmaa.F
open Go Go.RowKit Go.Proofs.Ytjcbalhdppmdmaa.S
set_option linter.unusedVariables false
set_option maxRecDepth 100000
theorem spec_l5Op.calls (K : Nat) (a0_g : Nat) (a0_0 : List Int) (a0_0_A : Option Addr) (a0_0_n a0_0_c : Nat) (a0_1 : Int) {w0 w : World} {F : List Res} {r1 : Int} {r2 : Int} {r3 : Int} {r4 : Int} (hm : Mem w0 (.box a0_g 106 [.slice a0_0_A a0_0_n a0_0_c, i6 a0_1] :: F) w) (a0_0_h : a0_0.length = a0_0_n) (a0_0_R : Rd w0 F a0_0_A (ints .u8 a0_0)) (h : spec_l5Op.f K a0_0 a0_1 = some (r1, r2, r3, r4)) :
    Calls Try.prog 67 (List.toArray [pt a0_g]) w fun e w' => ∃ x : Unit, e = .returned (.agg (List.toArray [i6 r1, i6 r2, i6 r3])) ∧ Mem w0 (.box a0_g 106 [.slice a0_0_A a0_0_n a0_0_c, i6 r4] :: F) w' := by
  unfold spec_l5Op.f at h
  refine calls_of_J (n := 19) Try.func67 rfl rfl rfl hm ?_
  refine j_seq ?_
  refine j_region ?_
  refine r_do (a_alloc zr25 rfl) rfl rfl (fun x1 => ?_)
  refine j_rs (.box x1 25 [(i6 (0:Int)), (i6 (0:Int)), (i6 (0:Int))] :: .box a0_g 106 [(.slice a0_0_A a0_0_n a0_0_c), (i6 a0_1)] :: F) (fun _ h => h) ?_
  refine r_nil ?_
  refine j_then ?_
  refine j_seq ?_
  refine j_region ?_
  refine r_q (q_move rfl rfl) rfl rfl ?_
  refine r_do (a_litX (vs := [(i6 (1:Int)), (i6 (5:Int)), (i6 (2:Int)), (i6 (3:Int)), (i6 (4:Int)), (i6 (6:Int)), (i6 (7:Int)), (i6 (1:Int))]) (ii ([(1:Int), (5:Int), (2:Int), (3:Int), (4:Int), (6:Int), (7:Int), (1:Int)] : List Int)) un32 sz3 zr3 rfl rfl rfl rfl rfl rfl rfl rfl rfl) rfl rfl (fun x2 => ?_)
  obtain ⟨v1, v2, hb1, h⟩ := of_b2 h
  refine j_rs (.box a0_g 106 [(.slice a0_0_A a0_0_n a0_0_c), (i6 a0_1)] :: .row x2 8 3 1 (ii ([(1:Int), (5:Int), (2:Int), (3:Int), (4:Int), (6:Int), (7:Int), (1:Int)] : List Int)) :: .box x1 25 [(i6 (0:Int)), (i6 (0:Int)), (i6 (0:Int))] :: F) (fun _ h => h.pick 3 [2, 0, 1] rfl) ?_
  refine r_do (a_call ok69 rfl rfl rfl rfl (fun w hm => spec_l13Rd_num.calls K a0_g a0_0 a0_0_A a0_0_n a0_0_c a0_1 ([(1:Int), (5:Int), (2:Int), (3:Int), (4:Int), (6:Int), (7:Int), (1:Int)] : List Int) x2 8 8 hm a0_0_h (Rd.drop 2 a0_0_R) rfl (Rd.row 0 rfl) hb1)) rfl rfl (fun x3 => ?_)
  refine r_q (q_move rfl rfl) rfl rfl ?_
  refine r_do (a_litX (vs := [(i6 (0:Int)), (i6 (1:Int)), (i6 (0:Int)), (i6 (2:Int))]) (ii ([(0:Int), (1:Int), (0:Int), (2:Int)] : List Int)) un32 sz3 zr3 rfl rfl rfl rfl rfl rfl rfl rfl rfl) rfl rfl (fun x4 => ?_)
  obtain ⟨v3, v4, hb2, h⟩ := of_b2 h
  refine j_rs (.box a0_g 106 [(.slice a0_0_A a0_0_n a0_0_c), (i6 v2)] :: .row x4 4 3 1 (ii ([(0:Int), (1:Int), (0:Int), (2:Int)] : List Int)) :: .row x2 8 3 1 (ii ([(1:Int), (5:Int), (2:Int), (3:Int), (4:Int), (6:Int), (7:Int), (1:Int)] : List Int)) :: .box x1 25 [(i6 (0:Int)), (i6 (0:Int)), (i6 (0:Int))] :: F) (fun _ h => h.pick 4 [1, 0, 2, 3] rfl) ?_
  refine r_do (a_call ok69 rfl rfl rfl rfl (fun w hm => spec_l13Rd_num.calls K a0_g a0_0 a0_0_A a0_0_n a0_0_c v2 ([(0:Int), (1:Int), (0:Int), (2:Int)] : List Int) x4 4 4 hm a0_0_h (Rd.drop 3 a0_0_R) rfl (Rd.row 0 rfl) hb2)) rfl rfl (fun x5 => ?_)
  refine r_q (q_move rfl rfl) rfl rfl ?_
  refine r_do (a_litX (vs := [(i6 (0:Int)), (i6 (1:Int)), (i6 (1:Int)), (i6 (2:Int))]) (ii ([(0:Int), (1:Int), (1:Int), (2:Int)] : List Int)) un32 sz3 zr3 rfl rfl rfl rfl rfl rfl rfl rfl rfl) rfl rfl (fun x6 => ?_)
  obtain ⟨v5, v6, hb3, h⟩ := of_b2 h
  refine j_rs (.box a0_g 106 [(.slice a0_0_A a0_0_n a0_0_c), (i6 v4)] :: .row x6 4 3 1 (ii ([(0:Int), (1:Int), (1:Int), (2:Int)] : List Int)) :: .row x4 4 3 1 (ii ([(0:Int), (1:Int), (0:Int), (2:Int)] : List Int)) :: .row x2 8 3 1 (ii ([(1:Int), (5:Int), (2:Int), (3:Int), (4:Int), (6:Int), (7:Int), (1:Int)] : List Int)) :: .box x1 25 [(i6 (0:Int)), (i6 (0:Int)), (i6 (0:Int))] :: F) (fun _ h => h.pick 5 [1, 0, 2, 3, 4] rfl) ?_
  refine r_do (a_call ok69 rfl rfl rfl rfl (fun w hm => spec_l13Rd_num.calls K a0_g a0_0 a0_0_A a0_0_n a0_0_c v4 ([(0:Int), (1:Int), (1:Int), (2:Int)] : List Int) x6 4 4 hm a0_0_h (Rd.drop 4 a0_0_R) rfl (Rd.row 0 rfl) hb3)) rfl rfl (fun x7 => ?_)
  refine r_q (q_build (cs := [(i6 v1), (i6 v3), (i6 v5)]) zr25 pl25 rfl rfl rfl rfl) rfl rfl ?_
  refine r_do (a_alloc zr25 rfl) rfl rfl (fun x8 => ?_)
  refine r_do (a_storeb 0 rfl sz25 rfl rfl rfl rfl (Nat.le_of_ble_eq_true rfl) rfl) rfl rfl (fun _ => ?_)
  refine j_rs (.box x8 25 [(i6 v1), (i6 v3), (i6 v5)] :: .box a0_g 106 [(.slice a0_0_A a0_0_n a0_0_c), (i6 v6)] :: .row x6 4 3 1 (ii ([(0:Int), (1:Int), (1:Int), (2:Int)] : List Int)) :: .row x4 4 3 1 (ii ([(0:Int), (1:Int), (0:Int), (2:Int)] : List Int)) :: .row x2 8 3 1 (ii ([(1:Int), (5:Int), (2:Int), (3:Int), (4:Int), (6:Int), (7:Int), (1:Int)] : List Int)) :: .box x1 25 [(i6 (0:Int)), (i6 (0:Int)), (i6 (0:Int))] :: F) (fun _ h => h) ?_
  refine r_nil ?_
  refine j_then ?_
  refine j_seq ?_
  refine j_seq ?_
  refine j_region ?_
  refine r_q (q_fieldAddr fi25_0 sz3 rfl rfl rfl) rfl rfl ?_
  refine r_q (q_loadb 0 rfl ag3 rfl rfl rfl) rfl rfl ?_
  obtain ⟨v7, hb4, h⟩ := of_b1 h
  refine r_do (a_call ok65 rfl rfl rfl rfl (fun w hm => spec_l5One.calls K v1 hm hb4)) rfl rfl (fun x9 => ?_)
  refine j_rs (.box x8 25 [(i6 v1), (i6 v3), (i6 v5)] :: .box a0_g 106 [(.slice a0_0_A a0_0_n a0_0_c), (i6 v6)] :: .row x6 4 3 1 (ii ([(0:Int), (1:Int), (1:Int), (2:Int)] : List Int)) :: .row x4 4 3 1 (ii ([(0:Int), (1:Int), (0:Int), (2:Int)] : List Int)) :: .row x2 8 3 1 (ii ([(1:Int), (5:Int), (2:Int), (3:Int), (4:Int), (6:Int), (7:Int), (1:Int)] : List Int)) :: .box x1 25 [(i6 (0:Int)), (i6 (0:Int)), (i6 (0:Int))] :: F) (fun _ h => h) ?_
  refine r_nil ?_
  refine j_then ?_
  rcases of_if h with ⟨c1, h⟩ | ⟨c1, h⟩
  · refine j_true rfl c1 ?_
    refine j_region ?_
    refine r_q (q_fieldAddr fi25_2 sz3 rfl rfl rfl) rfl rfl ?_
    refine r_do (a_storeb 0 rfl sz3 rfl rfl rfl rfl (Nat.le_of_ble_eq_true rfl) rfl) rfl rfl (fun _ => ?_)
    refine j_rs (.box x8 25 [(i6 v1), (i6 v3), (i6 (0:Int))] :: .box a0_g 106 [(.slice a0_0_A a0_0_n a0_0_c), (i6 v6)] :: .row x6 4 3 1 (ii ([(0:Int), (1:Int), (1:Int), (2:Int)] : List Int)) :: .row x4 4 3 1 (ii ([(0:Int), (1:Int), (0:Int), (2:Int)] : List Int)) :: .row x2 8 3 1 (ii ([(1:Int), (5:Int), (2:Int), (3:Int), (4:Int), (6:Int), (7:Int), (1:Int)] : List Int)) :: .box x1 25 [(i6 (0:Int)), (i6 (0:Int)), (i6 (0:Int))] :: F) (fun _ h => h) ?_
    refine r_nil ?_
    refine j_then ?_
    refine j_seq ?_
    refine j_region ?_
    refine r_q (q_loadb_agg 0 rfl ag25 sz25 rfl rfl rfl rfl) rfl rfl ?_
    refine r_do (a_storeb 5 rfl sz25 rfl rfl rfl rfl (Nat.le_of_ble_eq_true rfl) rfl) rfl rfl (fun _ => ?_)
    refine j_rs (.box x8 25 [(i6 v1), (i6 v3), (i6 (0:Int))] :: .box a0_g 106 [(.slice a0_0_A a0_0_n a0_0_c), (i6 v6)] :: .row x6 4 3 1 (ii ([(0:Int), (1:Int), (1:Int), (2:Int)] : List Int)) :: .row x4 4 3 1 (ii ([(0:Int), (1:Int), (0:Int), (2:Int)] : List Int)) :: .row x2 8 3 1 (ii ([(1:Int), (5:Int), (2:Int), (3:Int), (4:Int), (6:Int), (7:Int), (1:Int)] : List Int)) :: .box x1 25 [(i6 v1), (i6 v3), (i6 (0:Int))] :: F) (fun _ h => h) ?_
    refine r_nil ?_
    refine j_then ?_
    refine j_ret ?_
    cases h
    exact j_return rfl (ResOf.cell 5 rfl rfl ag25 sz25 ResOf.nil) rfl (fun w h => ⟨(), rfl, h.pick 6 [1] rfl⟩)
  · refine j_false rfl (var_f c1) ?_
    refine j_skip ?_
    refine j_then ?_
    refine j_seq ?_
    refine j_region ?_
    refine r_q (q_loadb_agg 0 rfl ag25 sz25 rfl rfl rfl rfl) rfl rfl ?_
    refine r_do (a_storeb 5 rfl sz25 rfl rfl rfl rfl (Nat.le_of_ble_eq_true rfl) rfl) rfl rfl (fun _ => ?_)
    refine j_rs (.box x8 25 [(i6 v1), (i6 v3), (i6 v5)] :: .box a0_g 106 [(.slice a0_0_A a0_0_n a0_0_c), (i6 v6)] :: .row x6 4 3 1 (ii ([(0:Int), (1:Int), (1:Int), (2:Int)] : List Int)) :: .row x4 4 3 1 (ii ([(0:Int), (1:Int), (0:Int), (2:Int)] : List Int)) :: .row x2 8 3 1 (ii ([(1:Int), (5:Int), (2:Int), (3:Int), (4:Int), (6:Int), (7:Int), (1:Int)] : List Int)) :: .box x1 25 [(i6 v1), (i6 v3), (i6 v5)] :: F) (fun _ h => h) ?_
    refine r_nil ?_
    refine j_then ?_
    refine j_ret ?_
    cases h
    exact j_return rfl (ResOf.cell 5 rfl rfl ag25 sz25 ResOf.nil) rfl (fun w h => ⟨(), rfl, h.pick 6 [1] rfl⟩)

theorem spec_DrawOpValid.calls (K : Nat) (a0 : List Int) (a0_A : Option Addr) (a0_n a0_c : Nat) {w0 w : World} {F : List Res} {r1 : Int} {r2 : Int} {r3 : Int} {r4 : Int} (hm : Mem w0 (F) w) (a0_h : a0.length = a0_n) (a0_R : Rd w0 F a0_A (ints .u8 a0)) (a0_k : a0.length ≤ a0_c) (h : spec_DrawOpValid.f K a0 = some (r1, r2, r3, r4)) :
    Calls Try.prog 18 (List.toArray [.slice a0_A a0_n a0_c]) w fun e w' => ∃ x : Unit, e = .returned (.tuple (List.toArray [.agg (List.toArray [i6 r1, i6 r2, i6 r3]), i6 r4])) ∧ Mem w0 (F) w' := by
  unfold spec_DrawOpValid.f at h
  refine calls_of_J (n := 34) Try.func18 rfl rfl rfl hm ?_
  refine j_seq ?_
  refine j_region ?_
  refine r_do (a_alloc zr25 rfl) rfl rfl (fun x1 => ?_)
  refine r_q (q_assign rfl rfl) rfl rfl ?_
  refine j_rs (.box x1 25 [(i6 (0:Int)), (i6 (0:Int)), (i6 (0:Int))] :: F) (fun _ h => h) ?_
  refine r_nil ?_
  refine j_then ?_
  refine j_seq ?_
  refine j_region ?_
  refine r_q (q_move rfl rfl) rfl rfl ?_
  obtain ⟨_, hb1, h⟩ := of_b1 h
  refine r_do (a_call ok66 rfl rfl rfl rfl (fun w hm => spec_l13Open.calls K a0 a0_A a0_n a0_c hm a0_h (Rd.drop 1 a0_R) a0_k hb1)) rfl rfl (fun x2 => ?_)
  refine r_q (q_assign rfl rfl) rfl rfl ?_
  refine j_rs (.box x2 106 [(.slice a0_A (a0.take 2000).length a0_c), (i6 (0:Int))] :: .box x1 25 [(i6 (0:Int)), (i6 (0:Int)), (i6 (0:Int))] :: F) (fun _ h => h) ?_
  refine r_nil ?_
  refine j_then ?_
  refine j_seq ?_
  refine j_region ?_
  refine r_q (q_move rfl rfl) rfl rfl ?_
  obtain ⟨v1, v2, v3, v4, hb2, h⟩ := of_b4 h
  refine r_do (a_call ok67 rfl rfl rfl rfl (fun w hm => spec_l5Op.calls K x2 (a0.take 2000) a0_A (a0.take 2000).length a0_c (0:Int) hm rfl (rd_hiI (Rd.drop 1 a0_R) 2000) hb2)) rfl rfl (fun x3 => ?_)
  refine r_do (a_alloc zr25 rfl) rfl rfl (fun x4 => ?_)
  refine r_do (a_storeb 0 rfl sz25 rfl rfl rfl rfl (Nat.le_of_ble_eq_true rfl) rfl) rfl rfl (fun _ => ?_)
  refine j_rs (.box x4 25 [(i6 v1), (i6 v2), (i6 v3)] :: .box x2 106 [(.slice a0_A (a0.take 2000).length a0_c), (i6 v4)] :: .box x1 25 [(i6 (0:Int)), (i6 (0:Int)), (i6 (0:Int))] :: F) (fun _ h => h) ?_
  refine r_nil ?_
  refine j_then ?_
  refine j_seq ?_
  refine j_seq ?_
  refine j_region ?_
  refine r_q (q_move rfl rfl) rfl rfl ?_
  obtain ⟨v5, v6, hb3, h⟩ := of_b2 h
  refine j_rs (.box x2 106 [(.slice a0_A (a0.take 2000).length a0_c), (i6 v4)] :: .box x4 25 [(i6 v1), (i6 v2), (i6 v3)] :: .box x1 25 [(i6 (0:Int)), (i6 (0:Int)), (i6 (0:Int))] :: F) (fun _ h => h.pick 3 [1, 0, 2] rfl) ?_
  refine r_do (a_call ok68 rfl rfl rfl rfl (fun w hm => spec_l13Rd_pick.calls K x2 (a0.take 2000) a0_A (a0.take 2000).length a0_c v4 (6:Int) hm rfl (rd_hiI (Rd.drop 2 a0_R) 2000) hb3)) rfl rfl (fun x5 => ?_)
  refine j_rs (.box x2 106 [(.slice a0_A (a0.take 2000).length a0_c), (i6 v6)] :: .box x4 25 [(i6 v1), (i6 v2), (i6 v3)] :: .box x1 25 [(i6 (0:Int)), (i6 (0:Int)), (i6 (0:Int))] :: F) (fun _ h => h) ?_
  refine r_nil ?_
  refine j_then ?_
  refine j_block ?_
  refine j_seq ?_
  refine j_region ?_
  refine r_q (q_eql rfl rfl rfl) rfl rfl ?_
  refine r_q (q_assign rfl rfl) rfl rfl ?_
  refine r_nil ?_
  refine j_then ?_
  rcases of_if h with ⟨c1, h⟩ | ⟨c1, h⟩
  · refine j_true rfl (beq_t c1) ?_
    refine j_region ?_
    refine r_q (q_move rfl rfl) rfl rfl ?_
    refine r_do (a_litX (vs := [(i6 (0:Int)), (i6 (8:Int)), (i6 (1:Int))]) (ii ([(0:Int), (8:Int), (1:Int)] : List Int)) un32 sz3 zr3 rfl rfl rfl rfl rfl rfl rfl rfl rfl) rfl rfl (fun x6 => ?_)
    obtain ⟨v7, v8, hb4, h⟩ := of_b2 h
    refine j_rs (.box x2 106 [(.slice a0_A (a0.take 2000).length a0_c), (i6 v6)] :: .row x6 3 3 1 (ii ([(0:Int), (8:Int), (1:Int)] : List Int)) :: .box x4 25 [(i6 v1), (i6 v2), (i6 v3)] :: .box x1 25 [(i6 (0:Int)), (i6 (0:Int)), (i6 (0:Int))] :: F) (fun _ h => h.pick 4 [1, 0, 2, 3] rfl) ?_
    refine r_do (a_call ok69 rfl rfl rfl rfl (fun w hm => spec_l13Rd_num.calls K x2 (a0.take 2000) a0_A (a0.take 2000).length a0_c v6 ([(0:Int), (8:Int), (1:Int)] : List Int) x6 3 3 hm rfl (rd_hiI (Rd.drop 3 a0_R) 2000) rfl (Rd.row 0 rfl) hb4)) rfl rfl (fun x7 => ?_)
    refine r_q (q_fieldAddr fi25_0 sz3 rfl rfl rfl) rfl rfl ?_
    refine r_do (a_storeb 2 rfl sz3 rfl rfl rfl rfl (Nat.le_of_ble_eq_true rfl) rfl) rfl rfl (fun _ => ?_)
    refine j_rs (.box x2 106 [(.slice a0_A (a0.take 2000).length a0_c), (i6 v8)] :: .row x6 3 3 1 (ii ([(0:Int), (8:Int), (1:Int)] : List Int)) :: .box x4 25 [(i6 v7), (i6 v2), (i6 v3)] :: .box x1 25 [(i6 (0:Int)), (i6 (0:Int)), (i6 (0:Int))] :: F) (fun _ h => h) ?_
    refine r_nil ?_
    refine j_in ?_
    refine j_then ?_
    refine j_seq ?_
    obtain ⟨v9, v10, hb5, h⟩ := of_b2 h
    refine j_draw (.row x6 3 3 1 (ii ([(0:Int), (8:Int), (1:Int)] : List Int)) :: .box x4 25 [(i6 v7), (i6 v2), (i6 v3)] :: F) 6 follows_any rfl ?_
    refine d_take 0 rfl (q_loadb_agg 1 rfl ag25 sz25 rfl rfl rfl rfl) rfl rfl (by kernel_rfl) (by kernel_rfl) (by kernel_rfl) (fun w h => h.pick 4 [1, 2] rfl) ?_
    refine d_take 1 rfl (q_move rfl rfl) rfl rfl (by kernel_rfl) (by kernel_rfl) (by kernel_rfl) (fun w h => h.pick 4 [1, 2] rfl) ?_
    refine d_one 2 (by kernel_rfl) ?_
    refine o_do rfl (a_litX (vs := [(i6 (2:Int)), (i6 (3:Int)), (i6 (1:Int)), (i6 (0:Int)), (i6 (5:Int))]) (ii ([(2:Int), (3:Int), (1:Int), (0:Int), (5:Int)] : List Int)) un32 sz3 zr3 rfl rfl rfl rfl rfl rfl rfl rfl rfl) rfl rfl (fun x8 w h => h.pick 5 [2, 3] rfl) (fun x8 => ?_)
    refine j_rs (.row x8 5 3 1 (ii ([(2:Int), (3:Int), (1:Int), (0:Int), (5:Int)] : List Int)) :: .box x2 106 [(.slice a0_A (a0.take 2000).length a0_c), (i6 v8)] :: .row x6 3 3 1 (ii ([(0:Int), (8:Int), (1:Int)] : List Int)) :: .box x4 25 [(i6 v7), (i6 v2), (i6 v3)] :: .box x1 25 [(i6 (0:Int)), (i6 (0:Int)), (i6 (0:Int))] :: F) (fun _ h => h) ?_
    refine d_one 3 (by kernel_rfl) ?_
    refine j_rs (.box x2 106 [(.slice a0_A (a0.take 2000).length a0_c), (i6 v8)] :: .row x8 5 3 1 (ii ([(2:Int), (3:Int), (1:Int), (0:Int), (5:Int)] : List Int)) :: .row x6 3 3 1 (ii ([(0:Int), (8:Int), (1:Int)] : List Int)) :: .box x4 25 [(i6 v7), (i6 v2), (i6 v3)] :: .box x1 25 [(i6 (0:Int)), (i6 (0:Int)), (i6 (0:Int))] :: F) (fun _ h => h.pick 5 [1, 0, 2, 3, 4] rfl) ?_
    refine o_do rfl (a_call ok69 rfl rfl rfl rfl (fun w hm => spec_l13Rd_num.calls K x2 (a0.take 2000) a0_A (a0.take 2000).length a0_c v8 ([(2:Int), (3:Int), (1:Int), (0:Int), (5:Int)] : List Int) x8 5 5 hm rfl (rd_hiI (Rd.drop 4 a0_R) 2000) rfl (Rd.row 0 rfl) hb5)) rfl rfl (fun x9 w h => h.pick 5 [2, 3] rfl) (fun x9 => ?_)
    refine j_rs (.box x2 106 [(.slice a0_A (a0.take 2000).length a0_c), (i6 v10)] :: .row x8 5 3 1 (ii ([(2:Int), (3:Int), (1:Int), (0:Int), (5:Int)] : List Int)) :: .row x6 3 3 1 (ii ([(0:Int), (8:Int), (1:Int)] : List Int)) :: .box x4 25 [(i6 v7), (i6 v2), (i6 v3)] :: .box x1 25 [(i6 (0:Int)), (i6 (0:Int)), (i6 (0:Int))] :: F) (fun _ h => h) ?_
    refine d_one 4 (by kernel_rfl) ?_
    refine o_do rfl (a_storeb 4 rfl sz25 rfl rfl rfl rfl (Nat.le_of_ble_eq_true rfl) rfl) rfl rfl (fun _ w h => h.pick 5 [2, 3] rfl) (fun _ => ?_)
    refine j_rs (.box x2 106 [(.slice a0_A (a0.take 2000).length a0_c), (i6 v10)] :: .row x8 5 3 1 (ii ([(2:Int), (3:Int), (1:Int), (0:Int), (5:Int)] : List Int)) :: .row x6 3 3 1 (ii ([(0:Int), (8:Int), (1:Int)] : List Int)) :: .box x4 25 [(i6 v7), (i6 v2), (i6 v3)] :: .box x1 25 [(i6 v7), (i6 v2), (i6 v3)] :: F) (fun _ h => h) ?_
    refine d_take 5 rfl (q_assign rfl rfl) rfl rfl (by kernel_rfl) (by kernel_rfl) (by kernel_rfl) (fun w h => h.pick 5 [2, 3] rfl) ?_
    refine d_done (by kernel_rfl) ?_
    refine j_then ?_
    refine j_ret ?_
    cases h
    exact j_return rfl (ResOf.cell 4 rfl rfl ag25 sz25 (ResOf.tmp rfl ResOf.nil)) rfl (fun w h => ⟨(), rfl, (h.drop 5)⟩)
  · refine j_false rfl (beq_f c1) ?_
    refine j_seq ?_
    refine j_region ?_
    refine r_q (q_eql rfl rfl rfl) rfl rfl ?_
    refine r_q (q_assign rfl rfl) rfl rfl ?_
    refine r_nil ?_
    refine j_then ?_
    rcases of_if h with ⟨c2, h⟩ | ⟨c2, h⟩
    · refine j_true rfl (beq_t c2) ?_
      refine j_region ?_
      refine r_q (q_move rfl rfl) rfl rfl ?_
      refine r_do (a_litX (vs := [(i6 (-1:Int)), (i6 (3:Int))]) (ii ([(-1:Int), (3:Int)] : List Int)) un32 sz3 zr3 rfl rfl rfl rfl rfl rfl rfl rfl rfl) rfl rfl (fun x10 => ?_)
      obtain ⟨v11, v12, hb6, h⟩ := of_b2 h
      refine j_rs (.box x2 106 [(.slice a0_A (a0.take 2000).length a0_c), (i6 v6)] :: .row x10 2 3 1 (ii ([(-1:Int), (3:Int)] : List Int)) :: .box x4 25 [(i6 v1), (i6 v2), (i6 v3)] :: .box x1 25 [(i6 (0:Int)), (i6 (0:Int)), (i6 (0:Int))] :: F) (fun _ h => h.pick 4 [1, 0, 2, 3] rfl) ?_
      refine r_do (a_call ok69 rfl rfl rfl rfl (fun w hm => spec_l13Rd_num.calls K x2 (a0.take 2000) a0_A (a0.take 2000).length a0_c v6 ([(-1:Int), (3:Int)] : List Int) x10 2 2 hm rfl (rd_hiI (Rd.drop 3 a0_R) 2000) rfl (Rd.row 0 rfl) hb6)) rfl rfl (fun x11 => ?_)
      refine r_q (q_fieldAddr fi25_1 sz3 rfl rfl rfl) rfl rfl ?_
      refine r_do (a_storeb 2 rfl sz3 rfl rfl rfl rfl (Nat.le_of_ble_eq_true rfl) rfl) rfl rfl (fun _ => ?_)
      refine j_rs (.box x2 106 [(.slice a0_A (a0.take 2000).length a0_c), (i6 v12)] :: .row x10 2 3 1 (ii ([(-1:Int), (3:Int)] : List Int)) :: .box x4 25 [(i6 v1), (i6 v11), (i6 v3)] :: .box x1 25 [(i6 (0:Int)), (i6 (0:Int)), (i6 (0:Int))] :: F) (fun _ h => h) ?_
      refine r_nil ?_
      refine j_in ?_
      refine j_then ?_
      refine j_seq ?_
      obtain ⟨v13, v14, hb7, h⟩ := of_b2 h
      refine j_draw (.row x10 2 3 1 (ii ([(-1:Int), (3:Int)] : List Int)) :: .box x4 25 [(i6 v1), (i6 v11), (i6 v3)] :: F) 6 follows_any rfl ?_
      refine d_take 0 rfl (q_loadb_agg 1 rfl ag25 sz25 rfl rfl rfl rfl) rfl rfl (by kernel_rfl) (by kernel_rfl) (by kernel_rfl) (fun w h => h.pick 4 [1, 2] rfl) ?_
      refine d_take 1 rfl (q_move rfl rfl) rfl rfl (by kernel_rfl) (by kernel_rfl) (by kernel_rfl) (fun w h => h.pick 4 [1, 2] rfl) ?_
      refine d_one 2 (by kernel_rfl) ?_
      refine o_do rfl (a_litX (vs := [(i6 (2:Int)), (i6 (3:Int)), (i6 (1:Int)), (i6 (0:Int)), (i6 (5:Int))]) (ii ([(2:Int), (3:Int), (1:Int), (0:Int), (5:Int)] : List Int)) un32 sz3 zr3 rfl rfl rfl rfl rfl rfl rfl rfl rfl) rfl rfl (fun x8 w h => h.pick 5 [2, 3] rfl) (fun x8 => ?_)
      refine j_rs (.row x8 5 3 1 (ii ([(2:Int), (3:Int), (1:Int), (0:Int), (5:Int)] : List Int)) :: .box x2 106 [(.slice a0_A (a0.take 2000).length a0_c), (i6 v12)] :: .row x10 2 3 1 (ii ([(-1:Int), (3:Int)] : List Int)) :: .box x4 25 [(i6 v1), (i6 v11), (i6 v3)] :: .box x1 25 [(i6 (0:Int)), (i6 (0:Int)), (i6 (0:Int))] :: F) (fun _ h => h) ?_
      refine d_one 3 (by kernel_rfl) ?_
      refine j_rs (.box x2 106 [(.slice a0_A (a0.take 2000).length a0_c), (i6 v12)] :: .row x8 5 3 1 (ii ([(2:Int), (3:Int), (1:Int), (0:Int), (5:Int)] : List Int)) :: .row x10 2 3 1 (ii ([(-1:Int), (3:Int)] : List Int)) :: .box x4 25 [(i6 v1), (i6 v11), (i6 v3)] :: .box x1 25 [(i6 (0:Int)), (i6 (0:Int)), (i6 (0:Int))] :: F) (fun _ h => h.pick 5 [1, 0, 2, 3, 4] rfl) ?_
      refine o_do rfl (a_call ok69 rfl rfl rfl rfl (fun w hm => spec_l13Rd_num.calls K x2 (a0.take 2000) a0_A (a0.take 2000).length a0_c v12 ([(2:Int), (3:Int), (1:Int), (0:Int), (5:Int)] : List Int) x8 5 5 hm rfl (rd_hiI (Rd.drop 4 a0_R) 2000) rfl (Rd.row 0 rfl) hb7)) rfl rfl (fun x9 w h => h.pick 5 [2, 3] rfl) (fun x9 => ?_)
      refine j_rs (.box x2 106 [(.slice a0_A (a0.take 2000).length a0_c), (i6 v14)] :: .row x8 5 3 1 (ii ([(2:Int), (3:Int), (1:Int), (0:Int), (5:Int)] : List Int)) :: .row x10 2 3 1 (ii ([(-1:Int), (3:Int)] : List Int)) :: .box x4 25 [(i6 v1), (i6 v11), (i6 v3)] :: .box x1 25 [(i6 (0:Int)), (i6 (0:Int)), (i6 (0:Int))] :: F) (fun _ h => h) ?_
      refine d_one 4 (by kernel_rfl) ?_
      refine o_do rfl (a_storeb 4 rfl sz25 rfl rfl rfl rfl (Nat.le_of_ble_eq_true rfl) rfl) rfl rfl (fun _ w h => h.pick 5 [2, 3] rfl) (fun _ => ?_)
      refine j_rs (.box x2 106 [(.slice a0_A (a0.take 2000).length a0_c), (i6 v14)] :: .row x8 5 3 1 (ii ([(2:Int), (3:Int), (1:Int), (0:Int), (5:Int)] : List Int)) :: .row x10 2 3 1 (ii ([(-1:Int), (3:Int)] : List Int)) :: .box x4 25 [(i6 v1), (i6 v11), (i6 v3)] :: .box x1 25 [(i6 v1), (i6 v11), (i6 v3)] :: F) (fun _ h => h) ?_
      refine d_take 5 rfl (q_assign rfl rfl) rfl rfl (by kernel_rfl) (by kernel_rfl) (by kernel_rfl) (fun w h => h.pick 5 [2, 3] rfl) ?_
      refine d_done (by kernel_rfl) ?_
      refine j_then ?_
      refine j_ret ?_
      cases h
      exact j_return rfl (ResOf.cell 4 rfl rfl ag25 sz25 (ResOf.tmp rfl ResOf.nil)) rfl (fun w h => ⟨(), rfl, (h.drop 5)⟩)
    · refine j_false rfl (beq_f c2) ?_
      refine j_seq ?_
      refine j_region ?_
      refine r_q (q_eql rfl rfl rfl) rfl rfl ?_
      refine r_q (q_assign rfl rfl) rfl rfl ?_
      refine r_nil ?_
      refine j_then ?_
      rcases of_if h with ⟨c3, h⟩ | ⟨c3, h⟩
      · refine j_true rfl (beq_t c3) ?_
        refine j_region ?_
        refine r_q (q_move rfl rfl) rfl rfl ?_
        refine r_do (a_litX (vs := [(i6 (-1:Int)), (i6 (3:Int)), (i6 (1:Int))]) (ii ([(-1:Int), (3:Int), (1:Int)] : List Int)) un32 sz3 zr3 rfl rfl rfl rfl rfl rfl rfl rfl rfl) rfl rfl (fun x12 => ?_)
        obtain ⟨v15, v16, hb8, h⟩ := of_b2 h
        refine j_rs (.box x2 106 [(.slice a0_A (a0.take 2000).length a0_c), (i6 v6)] :: .row x12 3 3 1 (ii ([(-1:Int), (3:Int), (1:Int)] : List Int)) :: .box x4 25 [(i6 v1), (i6 v2), (i6 v3)] :: .box x1 25 [(i6 (0:Int)), (i6 (0:Int)), (i6 (0:Int))] :: F) (fun _ h => h.pick 4 [1, 0, 2, 3] rfl) ?_
        refine r_do (a_call ok69 rfl rfl rfl rfl (fun w hm => spec_l13Rd_num.calls K x2 (a0.take 2000) a0_A (a0.take 2000).length a0_c v6 ([(-1:Int), (3:Int), (1:Int)] : List Int) x12 3 3 hm rfl (rd_hiI (Rd.drop 3 a0_R) 2000) rfl (Rd.row 0 rfl) hb8)) rfl rfl (fun x13 => ?_)
        refine r_q (q_fieldAddr fi25_2 sz3 rfl rfl rfl) rfl rfl ?_
        refine r_do (a_storeb 2 rfl sz3 rfl rfl rfl rfl (Nat.le_of_ble_eq_true rfl) rfl) rfl rfl (fun _ => ?_)
        refine j_rs (.box x2 106 [(.slice a0_A (a0.take 2000).length a0_c), (i6 v16)] :: .row x12 3 3 1 (ii ([(-1:Int), (3:Int), (1:Int)] : List Int)) :: .box x4 25 [(i6 v1), (i6 v2), (i6 v15)] :: .box x1 25 [(i6 (0:Int)), (i6 (0:Int)), (i6 (0:Int))] :: F) (fun _ h => h) ?_
        refine r_nil ?_
        refine j_in ?_
        refine j_then ?_
        refine j_seq ?_
        obtain ⟨v17, v18, hb9, h⟩ := of_b2 h
        refine j_draw (.row x12 3 3 1 (ii ([(-1:Int), (3:Int), (1:Int)] : List Int)) :: .box x4 25 [(i6 v1), (i6 v2), (i6 v15)] :: F) 6 follows_any rfl ?_
        refine d_take 0 rfl (q_loadb_agg 1 rfl ag25 sz25 rfl rfl rfl rfl) rfl rfl (by kernel_rfl) (by kernel_rfl) (by kernel_rfl) (fun w h => h.pick 4 [1, 2] rfl) ?_
        refine d_take 1 rfl (q_move rfl rfl) rfl rfl (by kernel_rfl) (by kernel_rfl) (by kernel_rfl) (fun w h => h.pick 4 [1, 2] rfl) ?_
        refine d_one 2 (by kernel_rfl) ?_
        refine o_do rfl (a_litX (vs := [(i6 (2:Int)), (i6 (3:Int)), (i6 (1:Int)), (i6 (0:Int)), (i6 (5:Int))]) (ii ([(2:Int), (3:Int), (1:Int), (0:Int), (5:Int)] : List Int)) un32 sz3 zr3 rfl rfl rfl rfl rfl rfl rfl rfl rfl) rfl rfl (fun x8 w h => h.pick 5 [2, 3] rfl) (fun x8 => ?_)
        refine j_rs (.row x8 5 3 1 (ii ([(2:Int), (3:Int), (1:Int), (0:Int), (5:Int)] : List Int)) :: .box x2 106 [(.slice a0_A (a0.take 2000).length a0_c), (i6 v16)] :: .row x12 3 3 1 (ii ([(-1:Int), (3:Int), (1:Int)] : List Int)) :: .box x4 25 [(i6 v1), (i6 v2), (i6 v15)] :: .box x1 25 [(i6 (0:Int)), (i6 (0:Int)), (i6 (0:Int))] :: F) (fun _ h => h) ?_
        refine d_one 3 (by kernel_rfl) ?_
        refine j_rs (.box x2 106 [(.slice a0_A (a0.take 2000).length a0_c), (i6 v16)] :: .row x8 5 3 1 (ii ([(2:Int), (3:Int), (1:Int), (0:Int), (5:Int)] : List Int)) :: .row x12 3 3 1 (ii ([(-1:Int), (3:Int), (1:Int)] : List Int)) :: .box x4 25 [(i6 v1), (i6 v2), (i6 v15)] :: .box x1 25 [(i6 (0:Int)), (i6 (0:Int)), (i6 (0:Int))] :: F) (fun _ h => h.pick 5 [1, 0, 2, 3, 4] rfl) ?_
        refine o_do rfl (a_call ok69 rfl rfl rfl rfl (fun w hm => spec_l13Rd_num.calls K x2 (a0.take 2000) a0_A (a0.take 2000).length a0_c v16 ([(2:Int), (3:Int), (1:Int), (0:Int), (5:Int)] : List Int) x8 5 5 hm rfl (rd_hiI (Rd.drop 4 a0_R) 2000) rfl (Rd.row 0 rfl) hb9)) rfl rfl (fun x9 w h => h.pick 5 [2, 3] rfl) (fun x9 => ?_)
        refine j_rs (.box x2 106 [(.slice a0_A (a0.take 2000).length a0_c), (i6 v18)] :: .row x8 5 3 1 (ii ([(2:Int), (3:Int), (1:Int), (0:Int), (5:Int)] : List Int)) :: .row x12 3 3 1 (ii ([(-1:Int), (3:Int), (1:Int)] : List Int)) :: .box x4 25 [(i6 v1), (i6 v2), (i6 v15)] :: .box x1 25 [(i6 (0:Int)), (i6 (0:Int)), (i6 (0:Int))] :: F) (fun _ h => h) ?_
        refine d_one 4 (by kernel_rfl) ?_
        refine o_do rfl (a_storeb 4 rfl sz25 rfl rfl rfl rfl (Nat.le_of_ble_eq_true rfl) rfl) rfl rfl (fun _ w h => h.pick 5 [2, 3] rfl) (fun _ => ?_)
        refine j_rs (.box x2 106 [(.slice a0_A (a0.take 2000).length a0_c), (i6 v18)] :: .row x8 5 3 1 (ii ([(2:Int), (3:Int), (1:Int), (0:Int), (5:Int)] : List Int)) :: .row x12 3 3 1 (ii ([(-1:Int), (3:Int), (1:Int)] : List Int)) :: .box x4 25 [(i6 v1), (i6 v2), (i6 v15)] :: .box x1 25 [(i6 v1), (i6 v2), (i6 v15)] :: F) (fun _ h => h) ?_
        refine d_take 5 rfl (q_assign rfl rfl) rfl rfl (by kernel_rfl) (by kernel_rfl) (by kernel_rfl) (fun w h => h.pick 5 [2, 3] rfl) ?_
        refine d_done (by kernel_rfl) ?_
        refine j_then ?_
        refine j_ret ?_
        cases h
        exact j_return rfl (ResOf.cell 4 rfl rfl ag25 sz25 (ResOf.tmp rfl ResOf.nil)) rfl (fun w h => ⟨(), rfl, (h.drop 5)⟩)
      · refine j_false rfl (beq_f c3) ?_
        refine j_skip ?_
        refine j_in ?_
        refine j_then ?_
        refine j_seq ?_
        obtain ⟨v19, v20, hb10, h⟩ := of_b2 h
        refine j_draw (.box x4 25 [(i6 v1), (i6 v2), (i6 v3)] :: F) 6 follows_any rfl ?_
        refine d_take 0 rfl (q_loadb_agg 0 rfl ag25 sz25 rfl rfl rfl rfl) rfl rfl (by kernel_rfl) (by kernel_rfl) (by kernel_rfl) (fun w h => h.pick 3 [1] rfl) ?_
        refine d_take 1 rfl (q_move rfl rfl) rfl rfl (by kernel_rfl) (by kernel_rfl) (by kernel_rfl) (fun w h => h.pick 3 [1] rfl) ?_
        refine d_one 2 (by kernel_rfl) ?_
        refine o_do rfl (a_litX (vs := [(i6 (2:Int)), (i6 (3:Int)), (i6 (1:Int)), (i6 (0:Int)), (i6 (5:Int))]) (ii ([(2:Int), (3:Int), (1:Int), (0:Int), (5:Int)] : List Int)) un32 sz3 zr3 rfl rfl rfl rfl rfl rfl rfl rfl rfl) rfl rfl (fun x8 w h => h.pick 4 [2] rfl) (fun x8 => ?_)
        refine j_rs (.row x8 5 3 1 (ii ([(2:Int), (3:Int), (1:Int), (0:Int), (5:Int)] : List Int)) :: .box x2 106 [(.slice a0_A (a0.take 2000).length a0_c), (i6 v6)] :: .box x4 25 [(i6 v1), (i6 v2), (i6 v3)] :: .box x1 25 [(i6 (0:Int)), (i6 (0:Int)), (i6 (0:Int))] :: F) (fun _ h => h) ?_
        refine d_one 3 (by kernel_rfl) ?_
        refine j_rs (.box x2 106 [(.slice a0_A (a0.take 2000).length a0_c), (i6 v6)] :: .row x8 5 3 1 (ii ([(2:Int), (3:Int), (1:Int), (0:Int), (5:Int)] : List Int)) :: .box x4 25 [(i6 v1), (i6 v2), (i6 v3)] :: .box x1 25 [(i6 (0:Int)), (i6 (0:Int)), (i6 (0:Int))] :: F) (fun _ h => h.pick 4 [1, 0, 2, 3] rfl) ?_
        refine o_do rfl (a_call ok69 rfl rfl rfl rfl (fun w hm => spec_l13Rd_num.calls K x2 (a0.take 2000) a0_A (a0.take 2000).length a0_c v6 ([(2:Int), (3:Int), (1:Int), (0:Int), (5:Int)] : List Int) x8 5 5 hm rfl (rd_hiI (Rd.drop 3 a0_R) 2000) rfl (Rd.row 0 rfl) hb10)) rfl rfl (fun x9 w h => h.pick 4 [2] rfl) (fun x9 => ?_)
        refine j_rs (.box x2 106 [(.slice a0_A (a0.take 2000).length a0_c), (i6 v20)] :: .row x8 5 3 1 (ii ([(2:Int), (3:Int), (1:Int), (0:Int), (5:Int)] : List Int)) :: .box x4 25 [(i6 v1), (i6 v2), (i6 v3)] :: .box x1 25 [(i6 (0:Int)), (i6 (0:Int)), (i6 (0:Int))] :: F) (fun _ h => h) ?_
        refine d_one 4 (by kernel_rfl) ?_
        refine o_do rfl (a_storeb 3 rfl sz25 rfl rfl rfl rfl (Nat.le_of_ble_eq_true rfl) rfl) rfl rfl (fun _ w h => h.pick 4 [2] rfl) (fun _ => ?_)
        refine j_rs (.box x2 106 [(.slice a0_A (a0.take 2000).length a0_c), (i6 v20)] :: .row x8 5 3 1 (ii ([(2:Int), (3:Int), (1:Int), (0:Int), (5:Int)] : List Int)) :: .box x4 25 [(i6 v1), (i6 v2), (i6 v3)] :: .box x1 25 [(i6 v1), (i6 v2), (i6 v3)] :: F) (fun _ h => h) ?_
        refine d_take 5 rfl (q_assign rfl rfl) rfl rfl (by kernel_rfl) (by kernel_rfl) (by kernel_rfl) (fun w h => h.pick 4 [2] rfl) ?_
        refine d_done (by kernel_rfl) ?_
        refine j_then ?_
        refine j_ret ?_
        cases h
        exact j_return rfl (ResOf.cell 3 rfl rfl ag25 sz25 (ResOf.tmp rfl ResOf.nil)) rfl (fun w h => ⟨(), rfl, (h.drop 4)⟩)

theorem laws_FnOpValid.calls (K : Nat) (a0 : List Int) (a0_A : Option Addr) (a0_n a0_c : Nat) {w0 w : World} {F : List Res} {r1 : Bool} (hm : Mem w0 (F) w) (a0_h : a0.length = a0_n) (a0_R : Rd w0 F a0_A (ints .u8 a0)) (a0_k : a0.length ≤ a0_c) (h : laws_FnOpValid.f K a0 = some r1) :
    Calls Try.prog 4 (List.toArray [.slice a0_A a0_n a0_c]) w fun e w' => ∃ x : Unit, e = .returned (.bool r1) ∧ Mem w0 (F) w' := by
  unfold laws_FnOpValid.f at h
  refine calls_of_J (n := 40) Try.func4 rfl rfl rfl hm ?_
  refine j_seq ?_
  refine j_region ?_
  refine r_q (q_assign rfl rfl) rfl rfl ?_
  refine r_nil ?_
  refine j_then ?_
  refine j_seq ?_
  refine j_seq ?_
  refine j_region ?_
  refine r_q (q_move rfl rfl) rfl rfl ?_
  refine r_q (q_lenX a0 a0_h un28 rfl rfl rfl rfl rfl) rfl rfl ?_
  refine r_q (q_gtr rfl rfl rfl) rfl rfl ?_
  refine r_nil ?_
  refine j_then ?_
  rcases of_if h with ⟨c1, h⟩ | ⟨c1, h⟩
  · refine j_true rfl (decide_eq_true c1) ?_
    refine j_seq ?_
    refine j_region ?_
    refine r_q (q_assign rfl rfl) rfl rfl ?_
    refine r_nil ?_
    refine j_then ?_
    refine j_ret ?_
    refine j_then_ret ?_
    cases h
    exact j_return rfl (ResOf.tmp rfl ResOf.nil) rfl (fun w h => ⟨(), rfl, h⟩)
  · refine j_false rfl (decide_eq_false c1) ?_
    refine j_skip ?_
    refine j_then ?_
    refine j_seq ?_
    refine j_region ?_
    refine r_q (q_move rfl rfl) rfl rfl ?_
    obtain ⟨v1, v2, v3, v4, hb1, h⟩ := of_b4 h
    refine r_do (a_call ok18 rfl rfl rfl rfl (fun w hm => spec_DrawOpValid.calls K a0 a0_A a0_n a0_c hm a0_h a0_R a0_k hb1)) rfl rfl (fun x1 => ?_)
    refine r_q (q_move rfl rfl) rfl rfl ?_
    refine r_q (q_extract rfl rfl rfl) rfl rfl ?_
    refine r_q (q_extract rfl rfl rfl) rfl rfl ?_
    refine r_do (a_alloc zr25 rfl) rfl rfl (fun x2 => ?_)
    refine r_do (a_storeb 0 rfl sz25 rfl rfl rfl rfl (Nat.le_of_ble_eq_true rfl) rfl) rfl rfl (fun _ => ?_)
    refine r_q (q_assign rfl rfl) rfl rfl ?_
    refine j_rs (.box x2 25 [(i6 v1), (i6 v2), (i6 v3)] :: F) (fun _ h => h) ?_
    refine r_nil ?_
    refine j_then ?_
    refine j_seq ?_
    refine j_region ?_
    refine r_q (q_loadb_agg 0 rfl ag25 sz25 rfl rfl rfl rfl) rfl rfl ?_
    refine r_q (q_move rfl rfl) rfl rfl ?_
    obtain ⟨v5, hb2, h⟩ := of_b1 h
    refine r_do (a_call ok17 rfl rfl rfl rfl (fun w hm => impl_OpValid.calls K v1 v2 v3 v4 hm hb2)) rfl rfl (fun x3 => ?_)
    refine r_q (q_assign rfl rfl) rfl rfl ?_
    refine j_rs (.box x2 25 [(i6 v1), (i6 v2), (i6 v3)] :: F) (fun _ h => h) ?_
    refine r_nil ?_
    refine j_then ?_
    refine j_seq ?_
    refine j_region ?_
    refine r_q (q_move rfl rfl) rfl rfl ?_
    refine r_q (q_loadb_agg 0 rfl ag25 sz25 rfl rfl rfl rfl) rfl rfl ?_
    refine r_q (q_move rfl rfl) rfl rfl ?_
    obtain ⟨v6, hb3, h⟩ := of_b1 h
    refine r_do (a_call ok15 rfl rfl rfl rfl (fun w hm => spec_OpValid.calls K v1 v2 v3 v4 hm hb3)) rfl rfl (fun x4 => ?_)
    refine r_q (q_beql un4 rfl rfl rfl) rfl rfl ?_
    refine r_q (q_move rfl rfl) rfl rfl ?_
    rcases of_if h with ⟨c2, h⟩ | ⟨c2, h⟩
    · refine r_qon (q_move rfl rfl) rfl rfl rfl rfl (beq_t c2) rfl ?_
      refine r_qon (q_not rfl rfl) rfl rfl rfl rfl (beq_t c2) rfl ?_
      refine r_qon (q_move rfl rfl) rfl rfl rfl rfl (beq_t c2) rfl ?_
      rcases of_if h with ⟨c3, h⟩ | ⟨c3, h⟩
      · refine r_qon (q_loadb_agg 0 rfl ag25 sz25 rfl rfl rfl rfl) rfl rfl rfl rfl (not_f c3) rfl ?_
        refine r_qon (q_move rfl rfl) rfl rfl rfl rfl (not_f c3) rfl ?_
        refine r_qon (q_add rfl rfl rfl) rfl rfl rfl rfl (not_f c3) rfl ?_
        obtain ⟨v7, hb4, h⟩ := of_b1 h
        refine r_on (a_call ok17 rfl rfl rfl rfl (fun w hm => impl_OpValid.calls K v1 v2 v3 (wrap64 (v4 + (1:Int))) hm hb4)) rfl rfl rfl rfl (not_f c3) rfl (fun x5 => ?_)
        refine r_qon (q_move rfl rfl) rfl rfl rfl rfl (not_f c3) rfl ?_
        rcases of_if h with ⟨c4, h⟩ | ⟨c4, h⟩
        · refine r_qon (q_loadb_agg 0 rfl ag25 sz25 rfl rfl rfl rfl) rfl rfl rfl rfl c4 rfl ?_
          obtain ⟨v8, hb5, h⟩ := of_b1 h
          refine r_on (a_call ok17 rfl rfl rfl rfl (fun w hm => impl_OpValid.calls K v1 v2 v3 (3:Int) hm hb5)) rfl rfl rfl rfl c4 rfl (fun x6 => ?_)
          refine r_qon (q_pick_t rfl rfl c4 rfl) rfl rfl rfl rfl (not_f c3) rfl ?_
          refine r_qon (q_move rfl rfl) rfl rfl rfl rfl (not_f c3) rfl ?_
          rcases of_if h with ⟨c5, h⟩ | ⟨c5, h⟩
          · refine r_qon (q_move rfl rfl) rfl rfl rfl rfl c5 rfl ?_
            refine r_qon (q_gtr rfl rfl rfl) rfl rfl rfl rfl c5 rfl ?_
            refine r_qon (q_pick_t rfl rfl c5 rfl) rfl rfl rfl rfl (not_f c3) rfl ?_
            refine r_qon (q_pick_f rfl rfl (not_f c3) rfl) rfl rfl rfl rfl (beq_t c2) rfl ?_
            refine r_q (q_pick_t rfl rfl (beq_t c2) rfl) rfl rfl ?_
            refine r_q (q_assign rfl rfl) rfl rfl ?_
            refine j_rs (.box x2 25 [(i6 v1), (i6 v2), (i6 v3)] :: F) (fun _ h => h) ?_
            refine r_nil ?_
            refine j_then ?_
            refine j_ret ?_
            cases h
            exact j_return rfl (ResOf.tmp rfl ResOf.nil) rfl (fun w h => ⟨(), rfl, h.tail⟩)
          · refine r_off rfl rfl rfl rfl (var_f c5) rfl ?_
            refine r_off rfl rfl rfl rfl (var_f c5) rfl ?_
            refine r_qon (q_pick_f rfl rfl (var_f c5) rfl) rfl rfl rfl rfl (not_f c3) rfl ?_
            refine r_qon (q_pick_f rfl rfl (not_f c3) rfl) rfl rfl rfl rfl (beq_t c2) rfl ?_
            refine r_q (q_pick_t rfl rfl (beq_t c2) rfl) rfl rfl ?_
            refine r_q (q_assign rfl rfl) rfl rfl ?_
            refine j_rs (.box x2 25 [(i6 v1), (i6 v2), (i6 v3)] :: F) (fun _ h => h) ?_
            refine r_nil ?_
            refine j_then ?_
            refine j_ret ?_
            cases h
            exact j_return rfl (ResOf.tmp rfl ResOf.nil) rfl (fun w h => ⟨(), rfl, h.tail⟩)
        · refine r_off rfl rfl rfl rfl (var_f c4) rfl ?_
          refine r_off rfl rfl rfl rfl (var_f c4) rfl ?_
          refine r_qon (q_pick_f rfl rfl (var_f c4) rfl) rfl rfl rfl rfl (not_f c3) rfl ?_
          refine r_qon (q_move rfl rfl) rfl rfl rfl rfl (not_f c3) rfl ?_
          refine r_off rfl rfl rfl rfl rfl rfl ?_
          refine r_off rfl rfl rfl rfl rfl rfl ?_
          refine r_qon (q_pick_f rfl rfl rfl rfl) rfl rfl rfl rfl (not_f c3) rfl ?_
          refine r_qon (q_pick_f rfl rfl (not_f c3) rfl) rfl rfl rfl rfl (beq_t c2) rfl ?_
          refine r_q (q_pick_t rfl rfl (beq_t c2) rfl) rfl rfl ?_
          refine r_q (q_assign rfl rfl) rfl rfl ?_
          refine j_rs (.box x2 25 [(i6 v1), (i6 v2), (i6 v3)] :: F) (fun _ h => h) ?_
          refine r_nil ?_
          refine j_then ?_
          refine j_ret ?_
          cases h
          exact j_return rfl (ResOf.tmp rfl ResOf.nil) rfl (fun w h => ⟨(), rfl, h.tail⟩)
      · refine r_off rfl rfl rfl rfl (not_t (var_f c3)) rfl ?_
        refine r_off rfl rfl rfl rfl (not_t (var_f c3)) rfl ?_
        refine r_off rfl rfl rfl rfl (not_t (var_f c3)) rfl ?_
        refine r_off rfl rfl rfl rfl (not_t (var_f c3)) rfl ?_
        refine r_off rfl rfl rfl rfl (not_t (var_f c3)) rfl ?_
        refine r_offu rfl rfl rfl rfl rfl ?_
        refine r_offu rfl rfl rfl rfl rfl ?_
        refine r_off rfl rfl rfl rfl (not_t (var_f c3)) rfl ?_
        refine r_off rfl rfl rfl rfl (not_t (var_f c3)) rfl ?_
        refine r_offu rfl rfl rfl rfl rfl ?_
        refine r_offu rfl rfl rfl rfl rfl ?_
        refine r_off rfl rfl rfl rfl (not_t (var_f c3)) rfl ?_
        refine r_qon (q_pick_t rfl rfl (not_t (var_f c3)) rfl) rfl rfl rfl rfl (beq_t c2) rfl ?_
        refine r_q (q_pick_t rfl rfl (beq_t c2) rfl) rfl rfl ?_
        refine r_q (q_assign rfl rfl) rfl rfl ?_
        refine j_rs (.box x2 25 [(i6 v1), (i6 v2), (i6 v3)] :: F) (fun _ h => h) ?_
        refine r_nil ?_
        refine j_then ?_
        refine j_ret ?_
        cases h
        exact j_return rfl (ResOf.tmp rfl ResOf.nil) rfl (fun w h => ⟨(), rfl, h.tail⟩)
    · refine r_off rfl rfl rfl rfl (beq_f c2) rfl ?_
      refine r_off rfl rfl rfl rfl (beq_f c2) rfl ?_
      refine r_off rfl rfl rfl rfl (beq_f c2) rfl ?_
      refine r_offu rfl rfl rfl rfl rfl ?_
      refine r_offu rfl rfl rfl rfl rfl ?_
      refine r_offu rfl rfl rfl rfl rfl ?_
      refine r_offu rfl rfl rfl rfl rfl ?_
      refine r_offu rfl rfl rfl rfl rfl ?_
      refine r_offu rfl rfl rfl rfl rfl ?_
      refine r_offu rfl rfl rfl rfl rfl ?_
      refine r_offu rfl rfl rfl rfl rfl ?_
      refine r_offu rfl rfl rfl rfl rfl ?_
      refine r_offu rfl rfl rfl rfl rfl ?_
      refine r_offu rfl rfl rfl rfl rfl ?_
      refine r_offu rfl rfl rfl rfl rfl ?_
      refine r_off rfl rfl rfl rfl (beq_f c2) rfl ?_
      refine r_q (q_pick_f rfl rfl (beq_f c2) rfl) rfl rfl ?_
      refine r_q (q_assign rfl rfl) rfl rfl ?_
      refine j_rs (.box x2 25 [(i6 v1), (i6 v2), (i6 v3)] :: F) (fun _ h => h) ?_
      refine r_nil ?_
      refine j_then ?_
      refine j_ret ?_
      cases h
      exact j_return rfl (ResOf.tmp rfl ResOf.nil) rfl (fun w h => ⟨(), rfl, h.tail⟩)

end Go.Proofs.Ytjcbalhdppmdmaa.F
