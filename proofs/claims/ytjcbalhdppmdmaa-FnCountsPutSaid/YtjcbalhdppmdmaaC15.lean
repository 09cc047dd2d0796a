/- The program computes these pure functions, printed by the generator of wip/gen. -/
import Derived.Test.YtjcbalhdppmdmaaFa
import Derived.Test.YtjcbalhdppmdmaaFb
import Derived.Test.YtjcbalhdppmdmaaC1
import Derived.Test.YtjcbalhdppmdmaaC7
import Derived.Test.YtjcbalhdppmdmaaC8
namespace Go.Proofs.Ytjcbalhdppmdmaa.F
open Go Go.RowKit Go.Proofs.Ytjcbalhdppmdmaa.S
set_option linter.unusedVariables false
set_option maxRecDepth 100000
theorem spec_l1Draw.calls (K : Nat) (a0_g : Nat) (a0_0 : List Int) (a0_0_A : Option Addr) (a0_0_n a0_0_c : Nat) (a0_1 : Int) {w0 w : World} {F : List Res} {r1 : List Int} {r2 : List Int} {r3 : List Int} {r4 : Int} (hm : Mem w0 (.box a0_g 106 [.slice a0_0_A a0_0_n a0_0_c, i6 a0_1] :: F) w) (a0_0_h : a0_0.length = a0_0_n) (a0_0_R : Rd w0 F a0_0_A (ints .u8 a0_0)) (h : spec_l1Draw.f K a0_0 a0_1 = some (r1, r2, r3, r4)) :
    Calls Try.prog 108 (List.toArray [pt a0_g]) w fun e w' => ∃ x : (Sl r1.length) × (Sl r2.length) × (Sl r3.length), e = .returned (.agg (List.toArray [.slice x.1.A x.1.n x.1.c, .slice x.2.1.A x.2.1.n x.2.1.c, .slice x.2.2.A x.2.2.n x.2.2.c])) ∧ Mem w0 (.row x.1.A x.1.c 3 1 (ii r1) :: .row x.2.1.A x.2.1.c 3 1 (ii r2) :: .row x.2.2.A x.2.2.c 3 1 (ii r3) :: .box a0_g 106 [.slice a0_0_A a0_0_n a0_0_c, i6 r4] :: F) w' := by
  unfold spec_l1Draw.f at h
  refine calls_of_J (n := 80) Try.func108 rfl rfl rfl hm ?_
  refine j_seq ?_
  refine j_region ?_
  refine r_do (a_alloc zr46 rfl) rfl rfl (fun x1 => ?_)
  refine j_rs (.box x1 46 [(.slice none 0 0), (.slice none 0 0), (.slice none 0 0)] :: .box a0_g 106 [(.slice a0_0_A a0_0_n a0_0_c), (i6 a0_1)] :: F) (fun _ h => h) ?_
  refine r_nil ?_
  refine j_then ?_
  refine j_seq ?_
  refine j_region ?_
  refine r_q (q_move rfl rfl) rfl rfl ?_
  refine r_do (a_litX (vs := [(i6 (4:Int)), (i6 (3:Int)), (i6 (5:Int)), (i6 (6:Int)), (i6 (2:Int)), (i6 (8:Int)), (i6 (1:Int))]) (ii ([(4:Int), (3:Int), (5:Int), (6:Int), (2:Int), (8:Int), (1:Int)] : List Int)) un32 sz3 zr3 rfl rfl rfl rfl rfl rfl rfl rfl rfl) rfl rfl (fun x2 => ?_)
  obtain ⟨v1, v2, hb1, h⟩ := of_b2 h
  refine j_rs (.box a0_g 106 [(.slice a0_0_A a0_0_n a0_0_c), (i6 a0_1)] :: .row x2 7 3 1 (ii ([(4:Int), (3:Int), (5:Int), (6:Int), (2:Int), (8:Int), (1:Int)] : List Int)) :: .box x1 46 [(.slice none 0 0), (.slice none 0 0), (.slice none 0 0)] :: F) (fun _ h => h.pick 3 [2, 0, 1] rfl) ?_
  refine r_do (a_call ok69 rfl rfl rfl rfl (fun w hm => spec_l13Rd_num.calls K a0_g a0_0 a0_0_A a0_0_n a0_0_c a0_1 ([(4:Int), (3:Int), (5:Int), (6:Int), (2:Int), (8:Int), (1:Int)] : List Int) x2 7 7 hm a0_0_h (Rd.drop 2 a0_0_R) rfl (Rd.row 0 rfl) hb1)) rfl rfl (fun x3 => ?_)
  refine r_q (q_assign rfl rfl) rfl rfl ?_
  refine j_rs (.box a0_g 106 [(.slice a0_0_A a0_0_n a0_0_c), (i6 v2)] :: .row x2 7 3 1 (ii ([(4:Int), (3:Int), (5:Int), (6:Int), (2:Int), (8:Int), (1:Int)] : List Int)) :: .box x1 46 [(.slice none 0 0), (.slice none 0 0), (.slice none 0 0)] :: F) (fun _ h => h) ?_
  refine r_nil ?_
  refine j_then ?_
  refine j_seq ?_
  refine j_region ?_
  refine r_q (q_move rfl rfl) rfl rfl ?_
  refine r_q (q_move rfl rfl) rfl rfl ?_
  refine r_do (a_litX (vs := [(i6 (2:Int)), (i6 (1:Int)), (i6 (3:Int))]) (ii ([(2:Int), (1:Int), (3:Int)] : List Int)) un32 sz3 zr3 rfl rfl rfl rfl rfl rfl rfl rfl rfl) rfl rfl (fun x4 => ?_)
  obtain ⟨v3, v4, hb2, h⟩ := of_b2 h
  refine j_rs (.box a0_g 106 [(.slice a0_0_A a0_0_n a0_0_c), (i6 v2)] :: .row x4 3 3 1 (ii ([(2:Int), (1:Int), (3:Int)] : List Int)) :: .row x2 7 3 1 (ii ([(4:Int), (3:Int), (5:Int), (6:Int), (2:Int), (8:Int), (1:Int)] : List Int)) :: .box x1 46 [(.slice none 0 0), (.slice none 0 0), (.slice none 0 0)] :: F) (fun _ h => h.pick 4 [1, 0, 2, 3] rfl) ?_
  refine r_do (a_call ok69 rfl rfl rfl rfl (fun w hm => spec_l13Rd_num.calls K a0_g a0_0 a0_0_A a0_0_n a0_0_c v2 ([(2:Int), (1:Int), (3:Int)] : List Int) x4 3 3 hm a0_0_h (Rd.drop 3 a0_0_R) rfl (Rd.row 0 rfl) hb2)) rfl rfl (fun x5 => ?_)
  obtain ⟨v5, v6, v7, v8, hb3, h⟩ := of_b4 h
  refine r_do (a_call ok77 rfl rfl rfl rfl (fun w hm => spec_NewHeap.calls K v1 v3 hm hb3)) rfl rfl (fun x6 => ?_)
  refine r_q (q_move rfl rfl) rfl rfl ?_
  refine r_q (q_extract rfl rfl rfl) rfl rfl ?_
  refine r_q (q_extract rfl rfl rfl) rfl rfl ?_
  refine r_do (a_alloc zr46 rfl) rfl rfl (fun x7 => ?_)
  refine r_do (a_storeb 0 rfl sz46 rfl rfl rfl rfl (Nat.le_of_ble_eq_true rfl) rfl) rfl rfl (fun _ => ?_)
  refine r_q (q_assign rfl rfl) rfl rfl ?_
  refine j_rs (.box x7 46 [(.slice x6.1.A x6.1.n x6.1.c), (.slice x6.2.1.A x6.2.1.n x6.2.1.c), (.slice x6.2.2.A x6.2.2.n x6.2.2.c)] :: .row x6.1.A x6.1.c 3 1 (ii v5) :: .row x6.2.1.A x6.2.1.c 3 1 (ii v6) :: .row x6.2.2.A x6.2.2.c 3 1 (ii v7) :: .box a0_g 106 [(.slice a0_0_A a0_0_n a0_0_c), (i6 v4)] :: .row x4 3 3 1 (ii ([(2:Int), (1:Int), (3:Int)] : List Int)) :: .row x2 7 3 1 (ii ([(4:Int), (3:Int), (5:Int), (6:Int), (2:Int), (8:Int), (1:Int)] : List Int)) :: .box x1 46 [(.slice none 0 0), (.slice none 0 0), (.slice none 0 0)] :: F) (fun _ h => h) ?_
  refine r_nil ?_
  refine j_then ?_
  refine j_seq ?_
  refine j_seq ?_
  refine j_region ?_
  refine r_q (q_assign rfl rfl) rfl rfl ?_
  refine r_nil ?_
  refine j_then ?_
  obtain ⟨κ0, h, hκ0⟩ := ex_k (g := fun κ => spec_l1Draw.loop0 K κ a0_0 v1 K (0:Int) v4 v5 v6 = some (r1, r2, r3, r4)) h
  refine j_cut (σ := Int × (List Int) × (List Int)) (fun s => [(0, (pt a0_g)), (2, (pt x1)), (3, (i6 v1)), (4, (pt x7))]) (fun s => .box a0_g 106 [(.slice a0_0_A a0_0_n a0_0_c), (i6 s.1)] :: .box x1 46 [(.slice none 0 0), (.slice none 0 0), (.slice none 0 0)] :: .box x7 46 [(.slice x6.1.A x6.1.n x6.1.c), (.slice x6.2.1.A x6.2.1.n x6.2.1.c), (.slice x6.2.2.A x6.2.2.n x6.2.2.c)] :: .row x6.1.A x6.1.c 3 1 (ii s.2.1) :: .row x6.2.1.A x6.2.1.c 3 1 (ii s.2.2) :: .row x6.2.2.A x6.2.2.c 3 1 (ii v7) :: F) (fun s => κ0 s.1 s.2.1 s.2.2 = some (r1, r2, r3, r4) ∧ (s.2.1.length = x6.1.n) ∧ (s.2.2.length = x6.2.1.n)) ?_ ?_
  · refine j_block ?_
    refine j_loop (σ := Int × Int × (List Int) × (List Int)) (fun s => [(0, (pt a0_g)), (2, (pt x1)), (3, (i6 v1)), (4, (pt x7)), (6, (i6 s.1))]) (fun s => .box a0_g 106 [(.slice a0_0_A a0_0_n a0_0_c), (i6 s.2.1)] :: .box x1 46 [(.slice none 0 0), (.slice none 0 0), (.slice none 0 0)] :: .box x7 46 [(.slice x6.1.A x6.1.n x6.1.c), (.slice x6.2.1.A x6.2.1.n x6.2.1.c), (.slice x6.2.2.A x6.2.2.n x6.2.2.c)] :: .row x6.1.A x6.1.c 3 1 (ii s.2.2.1) :: .row x6.2.1.A x6.2.1.c 3 1 (ii s.2.2.2) :: .row x6.2.2.A x6.2.2.c 3 1 (ii v7) :: F) (fun m s => spec_l1Draw.loop0 K κ0 a0_0 v1 m s.1 s.2.1 s.2.2.1 s.2.2.2 = some (r1, r2, r3, r4) ∧ (s.2.2.1.length = x6.1.n) ∧ (s.2.2.2.length = x6.2.1.n)) K ((0:Int), v4, v5, v6) ⟨h, x6.1.h, x6.2.1.h⟩ (fun a he => he.sub ⟨rfl, rfl, rfl, rfl, rfl, trivial⟩) (fun w h => h.pick 8 [4, 7, 0, 1, 2, 3] rfl) ?_
    rintro m ⟨p3, p4, l3, l4⟩ ⟨h, q3, q4⟩
    cases m with
    | zero => exact absurd h (by rw [spec_l1Draw.loop0]; exact nofun)
    | succ m =>
      rw [spec_l1Draw.loop0] at h
      show J _ _ [(0, (pt a0_g)), (2, (pt x1)), (3, (i6 v1)), (4, (pt x7)), (6, (i6 p3))] _ (.box a0_g 106 [(.slice a0_0_A a0_0_n a0_0_c), (i6 p4)] :: .box x1 46 [(.slice none 0 0), (.slice none 0 0), (.slice none 0 0)] :: .box x7 46 [(.slice x6.1.A x6.1.n x6.1.c), (.slice x6.2.1.A x6.2.1.n x6.2.1.c), (.slice x6.2.2.A x6.2.2.n x6.2.2.c)] :: .row x6.1.A x6.1.c 3 1 (ii l3) :: .row x6.2.1.A x6.2.1.c 3 1 (ii l4) :: .row x6.2.2.A x6.2.2.c 3 1 (ii v7) :: F)
      refine j_seq ?_
      refine j_seq ?_
      refine j_region ?_
      refine r_q (q_move rfl rfl) rfl rfl ?_
      refine r_q (q_move rfl rfl) rfl rfl ?_
      refine r_q (q_lss rfl rfl rfl) rfl rfl ?_
      refine r_nil ?_
      refine j_then ?_
      rcases of_if h with ⟨c28, h⟩ | ⟨c28, h⟩
      · refine j_true rfl (decide_eq_true c28) ?_
        refine j_skip ?_
        refine j_then ?_
        refine j_seq ?_
        refine j_block ?_
        refine j_seq ?_
        obtain ⟨v21, v22, hb10, h⟩ := of_b2 h
        obtain ⟨c29, h⟩ := of_guard h
        refine j_draw (.box x1 46 [(.slice none 0 0), (.slice none 0 0), (.slice none 0 0)] :: .box x7 46 [(.slice x6.1.A x6.1.n x6.1.c), (.slice x6.2.1.A x6.2.1.n x6.2.1.c), (.slice x6.2.2.A x6.2.2.n x6.2.2.c)] :: .row x6.2.1.A x6.2.1.c 3 1 (ii l4) :: .row x6.2.2.A x6.2.2.c 3 1 (ii v7) :: F) 10 follows_any rfl ?_
        refine d_take 0 rfl (q_fieldAddr fi46_0 sz32 rfl rfl rfl) rfl rfl (by kernel_rfl) (by kernel_rfl) (by kernel_rfl) (fun w h => h.pick 6 [1, 2, 4, 5] rfl) ?_
        refine d_take 1 rfl (q_loadb 1 rfl ag32 rfl rfl rfl) rfl rfl (by kernel_rfl) (by kernel_rfl) (by kernel_rfl) (fun w h => h.pick 6 [1, 2, 4, 5] rfl) ?_
        refine d_take 2 rfl (q_move rfl rfl) rfl rfl (by kernel_rfl) (by kernel_rfl) (by kernel_rfl) (fun w h => h.pick 6 [1, 2, 4, 5] rfl) ?_
        refine d_take 3 rfl (q_move rfl rfl) rfl rfl (by kernel_rfl) (by kernel_rfl) (by kernel_rfl) (fun w h => h.pick 6 [1, 2, 4, 5] rfl) ?_
        refine d_take 4 rfl (q_move rfl rfl) rfl rfl (by kernel_rfl) (by kernel_rfl) (by kernel_rfl) (fun w h => h.pick 6 [1, 2, 4, 5] rfl) ?_
        refine d_take 5 rfl (q_add rfl rfl rfl) rfl rfl (by kernel_rfl) (by kernel_rfl) (by kernel_rfl) (fun w h => h.pick 6 [1, 2, 4, 5] rfl) ?_
        refine d_one 6 (by kernel_rfl) ?_
        refine o_do rfl (a_call ok68 rfl rfl rfl rfl (fun w hm => spec_l13Rd_pick.calls K a0_g a0_0 a0_0_A a0_0_n a0_0_c p4 (wrap64 (v1 + (2:Int))) hm a0_0_h (Rd.drop 5 a0_0_R) hb10)) rfl rfl (fun x8 w h => h.pick 6 [1, 2, 4, 5] rfl) (fun x8 => ?_)
        refine j_rs (.box a0_g 106 [(.slice a0_0_A a0_0_n a0_0_c), (i6 v22)] :: .box x1 46 [(.slice none 0 0), (.slice none 0 0), (.slice none 0 0)] :: .box x7 46 [(.slice x6.1.A x6.1.n x6.1.c), (.slice x6.2.1.A x6.2.1.n x6.2.1.c), (.slice x6.2.2.A x6.2.2.n x6.2.2.c)] :: .row x6.1.A x6.1.c 3 1 (ii l3) :: .row x6.2.1.A x6.2.1.c 3 1 (ii l4) :: .row x6.2.2.A x6.2.2.c 3 1 (ii v7) :: F) (fun _ h => h) ?_
        refine d_take 7 rfl (q_sub rfl rfl rfl) rfl rfl (by kernel_rfl) (by kernel_rfl) (by kernel_rfl) (fun w h => h.pick 6 [1, 2, 4, 5] rfl) ?_
        refine d_one 8 (by kernel_rfl) ?_
        refine o_do rfl ((q_ix (Rd.row 3 rfl) (ints_len1 _ l3) (by decide) q3 c29 un32 sz3 rfl rfl rfl)).acts rfl rfl (fun _ w h => h.pick 6 [1, 2, 4, 5] rfl) (fun _ => ?_)
        refine d_one 9 (by kernel_rfl) ?_
        refine o_do rfl (a_stI 3 rfl c29 sz3 rfl rfl rfl) rfl rfl (fun _ w h => h.pick 6 [1, 2, 4, 5] rfl) (fun _ => ?_)
        refine j_rs (.box a0_g 106 [(.slice a0_0_A a0_0_n a0_0_c), (i6 v22)] :: .box x1 46 [(.slice none 0 0), (.slice none 0 0), (.slice none 0 0)] :: .box x7 46 [(.slice x6.1.A x6.1.n x6.1.c), (.slice x6.2.1.A x6.2.1.n x6.2.1.c), (.slice x6.2.2.A x6.2.2.n x6.2.2.c)] :: .row x6.1.A x6.1.c 3 1 (ii (l3.set p3.toNat (wrap64 (v21 - (1:Int))))) :: .row x6.2.1.A x6.2.1.c 3 1 (ii l4) :: .row x6.2.2.A x6.2.2.c 3 1 (ii v7) :: F) (fun _ h => h) ?_
        refine d_done (by kernel_rfl) ?_
        refine j_then ?_
        refine j_seq ?_
        obtain ⟨v23, v24, hb11, h⟩ := of_b2 h
        obtain ⟨c30, h⟩ := of_guard h
        refine j_draw (.box x1 46 [(.slice none 0 0), (.slice none 0 0), (.slice none 0 0)] :: .box x7 46 [(.slice x6.1.A x6.1.n x6.1.c), (.slice x6.2.1.A x6.2.1.n x6.2.1.c), (.slice x6.2.2.A x6.2.2.n x6.2.2.c)] :: .row x6.1.A x6.1.c 3 1 (ii (l3.set p3.toNat (wrap64 (v21 - (1:Int))))) :: .row x6.2.2.A x6.2.2.c 3 1 (ii v7) :: F) 10 follows_any rfl ?_
        refine d_take 0 rfl (q_fieldAddr fi46_1 sz32 rfl rfl rfl) rfl rfl (by kernel_rfl) (by kernel_rfl) (by kernel_rfl) (fun w h => h.pick 6 [1, 2, 3, 5] rfl) ?_
        refine d_take 1 rfl (q_loadb 1 rfl ag32 rfl rfl rfl) rfl rfl (by kernel_rfl) (by kernel_rfl) (by kernel_rfl) (fun w h => h.pick 6 [1, 2, 3, 5] rfl) ?_
        refine d_take 2 rfl (q_move rfl rfl) rfl rfl (by kernel_rfl) (by kernel_rfl) (by kernel_rfl) (fun w h => h.pick 6 [1, 2, 3, 5] rfl) ?_
        refine d_take 3 rfl (q_move rfl rfl) rfl rfl (by kernel_rfl) (by kernel_rfl) (by kernel_rfl) (fun w h => h.pick 6 [1, 2, 3, 5] rfl) ?_
        refine d_take 4 rfl (q_move rfl rfl) rfl rfl (by kernel_rfl) (by kernel_rfl) (by kernel_rfl) (fun w h => h.pick 6 [1, 2, 3, 5] rfl) ?_
        refine d_take 5 rfl (q_add rfl rfl rfl) rfl rfl (by kernel_rfl) (by kernel_rfl) (by kernel_rfl) (fun w h => h.pick 6 [1, 2, 3, 5] rfl) ?_
        refine d_one 6 (by kernel_rfl) ?_
        refine o_do rfl (a_call ok68 rfl rfl rfl rfl (fun w hm => spec_l13Rd_pick.calls K a0_g a0_0 a0_0_A a0_0_n a0_0_c v22 (wrap64 (v1 + (2:Int))) hm a0_0_h (Rd.drop 5 a0_0_R) hb11)) rfl rfl (fun x9 w h => h.pick 6 [1, 2, 3, 5] rfl) (fun x9 => ?_)
        refine j_rs (.box a0_g 106 [(.slice a0_0_A a0_0_n a0_0_c), (i6 v24)] :: .box x1 46 [(.slice none 0 0), (.slice none 0 0), (.slice none 0 0)] :: .box x7 46 [(.slice x6.1.A x6.1.n x6.1.c), (.slice x6.2.1.A x6.2.1.n x6.2.1.c), (.slice x6.2.2.A x6.2.2.n x6.2.2.c)] :: .row x6.1.A x6.1.c 3 1 (ii (l3.set p3.toNat (wrap64 (v21 - (1:Int))))) :: .row x6.2.1.A x6.2.1.c 3 1 (ii l4) :: .row x6.2.2.A x6.2.2.c 3 1 (ii v7) :: F) (fun _ h => h) ?_
        refine d_take 7 rfl (q_sub rfl rfl rfl) rfl rfl (by kernel_rfl) (by kernel_rfl) (by kernel_rfl) (fun w h => h.pick 6 [1, 2, 3, 5] rfl) ?_
        refine d_one 8 (by kernel_rfl) ?_
        refine o_do rfl ((q_ix (Rd.row 4 rfl) (ints_len1 _ l4) (by decide) q4 c30 un32 sz3 rfl rfl rfl)).acts rfl rfl (fun _ w h => h.pick 6 [1, 2, 3, 5] rfl) (fun _ => ?_)
        refine d_one 9 (by kernel_rfl) ?_
        refine o_do rfl (a_stI 4 rfl c30 sz3 rfl rfl rfl) rfl rfl (fun _ w h => h.pick 6 [1, 2, 3, 5] rfl) (fun _ => ?_)
        refine j_rs (.box a0_g 106 [(.slice a0_0_A a0_0_n a0_0_c), (i6 v24)] :: .box x1 46 [(.slice none 0 0), (.slice none 0 0), (.slice none 0 0)] :: .box x7 46 [(.slice x6.1.A x6.1.n x6.1.c), (.slice x6.2.1.A x6.2.1.n x6.2.1.c), (.slice x6.2.2.A x6.2.2.n x6.2.2.c)] :: .row x6.1.A x6.1.c 3 1 (ii (l3.set p3.toNat (wrap64 (v21 - (1:Int))))) :: .row x6.2.1.A x6.2.1.c 3 1 (ii (l4.set p3.toNat (wrap64 (v23 - (2:Int))))) :: .row x6.2.2.A x6.2.2.c 3 1 (ii v7) :: F) (fun _ h => h) ?_
        refine d_done (by kernel_rfl) ?_
        refine j_then ?_
        refine j_seq ?_
        refine j_seq ?_
        refine j_region ?_
        refine r_q (q_fieldAddr fi46_0 sz32 rfl rfl rfl) rfl rfl ?_
        refine r_q (q_loadb 2 rfl ag32 rfl rfl rfl) rfl rfl ?_
        refine r_q (q_move rfl rfl) rfl rfl ?_
        obtain ⟨c31, h⟩ := of_guard h
        refine r_q (q_ix (Rd.row 3 rfl) (ints_len1 _ (l3.set p3.toNat (wrap64 (v21 - (1:Int))))) (by decide) (set_len q3 _ _) c31 un32 sz3 rfl rfl rfl) rfl rfl ?_
        refine r_q (q_ldI (Rd.row 3 rfl) c31 ag3 rfl rfl) rfl rfl ?_
        refine r_q (q_move rfl rfl) rfl rfl ?_
        refine r_q (q_geq rfl rfl rfl) rfl rfl ?_
        refine r_nil ?_
        refine j_then ?_
        rcases of_if h with ⟨c32, h⟩ | ⟨c32, h⟩
        · refine j_true rfl (decide_eq_true c32) ?_
          refine j_region ?_
          refine r_q (q_fieldAddr fi46_0 sz32 rfl rfl rfl) rfl rfl ?_
          refine r_q (q_loadb 2 rfl ag32 rfl rfl rfl) rfl rfl ?_
          refine r_q (q_move rfl rfl) rfl rfl ?_
          refine r_q (q_ix (Rd.row 3 rfl) (ints_len1 _ (l3.set p3.toNat (wrap64 (v21 - (1:Int))))) (by decide) (set_len q3 _ _) c31 un32 sz3 rfl rfl rfl) rfl rfl ?_
          refine r_do (a_stI 3 rfl c31 sz3 rfl rfl rfl) rfl rfl (fun _ => ?_)
          refine j_rs (.box a0_g 106 [(.slice a0_0_A a0_0_n a0_0_c), (i6 v24)] :: .box x1 46 [(.slice none 0 0), (.slice none 0 0), (.slice none 0 0)] :: .box x7 46 [(.slice x6.1.A x6.1.n x6.1.c), (.slice x6.2.1.A x6.2.1.n x6.2.1.c), (.slice x6.2.2.A x6.2.2.n x6.2.2.c)] :: .row x6.1.A x6.1.c 3 1 (ii ((l3.set p3.toNat (wrap64 (v21 - (1:Int)))).set p3.toNat (-1:Int))) :: .row x6.2.1.A x6.2.1.c 3 1 (ii (l4.set p3.toNat (wrap64 (v23 - (2:Int))))) :: .row x6.2.2.A x6.2.2.c 3 1 (ii v7) :: F) (fun _ h => h) ?_
          refine r_nil ?_
          refine j_then ?_
          refine j_seq ?_
          refine j_region ?_
          refine r_q (q_fieldAddr fi46_1 sz32 rfl rfl rfl) rfl rfl ?_
          refine r_q (q_loadb 2 rfl ag32 rfl rfl rfl) rfl rfl ?_
          refine r_q (q_move rfl rfl) rfl rfl ?_
          obtain ⟨c33, h⟩ := of_guard h
          refine r_q (q_ix (Rd.row 4 rfl) (ints_len1 _ (l4.set p3.toNat (wrap64 (v23 - (2:Int))))) (by decide) (set_len q4 _ _) c33 un32 sz3 rfl rfl rfl) rfl rfl ?_
          refine r_q (q_ldI (Rd.row 4 rfl) c33 ag3 rfl rfl) rfl rfl ?_
          refine r_q (q_lss rfl rfl rfl) rfl rfl ?_
          refine r_nil ?_
          refine j_then ?_
          rcases of_if h with ⟨c34, h⟩ | ⟨c34, h⟩
          · refine j_true rfl (decide_eq_true c34) ?_
            refine j_region ?_
            refine r_q (q_fieldAddr fi46_1 sz32 rfl rfl rfl) rfl rfl ?_
            refine r_q (q_loadb 2 rfl ag32 rfl rfl rfl) rfl rfl ?_
            refine r_q (q_move rfl rfl) rfl rfl ?_
            refine r_q (q_ix (Rd.row 4 rfl) (ints_len1 _ (l4.set p3.toNat (wrap64 (v23 - (2:Int))))) (by decide) (set_len q4 _ _) c33 un32 sz3 rfl rfl rfl) rfl rfl ?_
            refine r_do (a_stI 4 rfl c33 sz3 rfl rfl rfl) rfl rfl (fun _ => ?_)
            refine j_rs (.box a0_g 106 [(.slice a0_0_A a0_0_n a0_0_c), (i6 v24)] :: .box x1 46 [(.slice none 0 0), (.slice none 0 0), (.slice none 0 0)] :: .box x7 46 [(.slice x6.1.A x6.1.n x6.1.c), (.slice x6.2.1.A x6.2.1.n x6.2.1.c), (.slice x6.2.2.A x6.2.2.n x6.2.2.c)] :: .row x6.1.A x6.1.c 3 1 (ii ((l3.set p3.toNat (wrap64 (v21 - (1:Int)))).set p3.toNat (-1:Int))) :: .row x6.2.1.A x6.2.1.c 3 1 (ii ((l4.set p3.toNat (wrap64 (v23 - (2:Int)))).set p3.toNat (-1:Int))) :: .row x6.2.2.A x6.2.2.c 3 1 (ii v7) :: F) (fun _ h => h) ?_
            refine r_nil ?_
            refine j_in ?_
            refine j_then ?_
            refine j_region ?_
            refine r_q (q_move rfl rfl) rfl rfl ?_
            refine r_q (q_add rfl rfl rfl) rfl rfl ?_
            refine r_q (q_assign rfl rfl) rfl rfl ?_
            refine r_nil ?_
            refine j_then ?_
            exact j_again m ((wrap64 (p3 + (1:Int))), v24, ((l3.set p3.toNat (wrap64 (v21 - (1:Int)))).set p3.toNat (-1:Int)), ((l4.set p3.toNat (wrap64 (v23 - (2:Int)))).set p3.toNat (-1:Int))) (Nat.lt_succ_self m) ⟨h, (set_len (set_len q3 _ _) _ _), (set_len (set_len q4 _ _) _ _)⟩ (fun a he => he.sub ⟨rfl, rfl, rfl, rfl, rfl, trivial⟩) (fun w h => h)
          · refine j_false rfl (decide_eq_false c34) ?_
            refine j_skip ?_
            refine j_in ?_
            refine j_then ?_
            refine j_region ?_
            refine r_q (q_move rfl rfl) rfl rfl ?_
            refine r_q (q_add rfl rfl rfl) rfl rfl ?_
            refine r_q (q_assign rfl rfl) rfl rfl ?_
            refine r_nil ?_
            refine j_then ?_
            exact j_again m ((wrap64 (p3 + (1:Int))), v24, ((l3.set p3.toNat (wrap64 (v21 - (1:Int)))).set p3.toNat (-1:Int)), (l4.set p3.toNat (wrap64 (v23 - (2:Int))))) (Nat.lt_succ_self m) ⟨h, (set_len (set_len q3 _ _) _ _), (set_len q4 _ _)⟩ (fun a he => he.sub ⟨rfl, rfl, rfl, rfl, rfl, trivial⟩) (fun w h => h)
        · refine j_false rfl (decide_eq_false c32) ?_
          refine j_skip ?_
          refine j_then ?_
          refine j_seq ?_
          refine j_region ?_
          refine r_q (q_fieldAddr fi46_1 sz32 rfl rfl rfl) rfl rfl ?_
          refine r_q (q_loadb 2 rfl ag32 rfl rfl rfl) rfl rfl ?_
          refine r_q (q_move rfl rfl) rfl rfl ?_
          obtain ⟨c35, h⟩ := of_guard h
          refine r_q (q_ix (Rd.row 4 rfl) (ints_len1 _ (l4.set p3.toNat (wrap64 (v23 - (2:Int))))) (by decide) (set_len q4 _ _) c35 un32 sz3 rfl rfl rfl) rfl rfl ?_
          refine r_q (q_ldI (Rd.row 4 rfl) c35 ag3 rfl rfl) rfl rfl ?_
          refine r_q (q_lss rfl rfl rfl) rfl rfl ?_
          refine r_nil ?_
          refine j_then ?_
          rcases of_if h with ⟨c36, h⟩ | ⟨c36, h⟩
          · refine j_true rfl (decide_eq_true c36) ?_
            refine j_region ?_
            refine r_q (q_fieldAddr fi46_1 sz32 rfl rfl rfl) rfl rfl ?_
            refine r_q (q_loadb 2 rfl ag32 rfl rfl rfl) rfl rfl ?_
            refine r_q (q_move rfl rfl) rfl rfl ?_
            refine r_q (q_ix (Rd.row 4 rfl) (ints_len1 _ (l4.set p3.toNat (wrap64 (v23 - (2:Int))))) (by decide) (set_len q4 _ _) c35 un32 sz3 rfl rfl rfl) rfl rfl ?_
            refine r_do (a_stI 4 rfl c35 sz3 rfl rfl rfl) rfl rfl (fun _ => ?_)
            refine j_rs (.box a0_g 106 [(.slice a0_0_A a0_0_n a0_0_c), (i6 v24)] :: .box x1 46 [(.slice none 0 0), (.slice none 0 0), (.slice none 0 0)] :: .box x7 46 [(.slice x6.1.A x6.1.n x6.1.c), (.slice x6.2.1.A x6.2.1.n x6.2.1.c), (.slice x6.2.2.A x6.2.2.n x6.2.2.c)] :: .row x6.1.A x6.1.c 3 1 (ii (l3.set p3.toNat (wrap64 (v21 - (1:Int))))) :: .row x6.2.1.A x6.2.1.c 3 1 (ii ((l4.set p3.toNat (wrap64 (v23 - (2:Int)))).set p3.toNat (-1:Int))) :: .row x6.2.2.A x6.2.2.c 3 1 (ii v7) :: F) (fun _ h => h) ?_
            refine r_nil ?_
            refine j_in ?_
            refine j_then ?_
            refine j_region ?_
            refine r_q (q_move rfl rfl) rfl rfl ?_
            refine r_q (q_add rfl rfl rfl) rfl rfl ?_
            refine r_q (q_assign rfl rfl) rfl rfl ?_
            refine r_nil ?_
            refine j_then ?_
            exact j_again m ((wrap64 (p3 + (1:Int))), v24, (l3.set p3.toNat (wrap64 (v21 - (1:Int)))), ((l4.set p3.toNat (wrap64 (v23 - (2:Int)))).set p3.toNat (-1:Int))) (Nat.lt_succ_self m) ⟨h, (set_len q3 _ _), (set_len (set_len q4 _ _) _ _)⟩ (fun a he => he.sub ⟨rfl, rfl, rfl, rfl, rfl, trivial⟩) (fun w h => h)
          · refine j_false rfl (decide_eq_false c36) ?_
            refine j_skip ?_
            refine j_in ?_
            refine j_then ?_
            refine j_region ?_
            refine r_q (q_move rfl rfl) rfl rfl ?_
            refine r_q (q_add rfl rfl rfl) rfl rfl ?_
            refine r_q (q_assign rfl rfl) rfl rfl ?_
            refine r_nil ?_
            refine j_then ?_
            exact j_again m ((wrap64 (p3 + (1:Int))), v24, (l3.set p3.toNat (wrap64 (v21 - (1:Int)))), (l4.set p3.toNat (wrap64 (v23 - (2:Int))))) (Nat.lt_succ_self m) ⟨h, (set_len q3 _ _), (set_len q4 _ _)⟩ (fun a he => he.sub ⟨rfl, rfl, rfl, rfl, rfl, trivial⟩) (fun w h => h)
      · refine j_false rfl (decide_eq_false c28) ?_
        refine j_exit ?_
        refine j_then_exit ?_
        refine j_then_exit ?_
        refine j_in_exit ?_
        refine j_then ?_
        exact j_meet (p4, l3, l4) ⟨h, q3, q4⟩ (fun a he => he.sub ⟨rfl, rfl, rfl, rfl, trivial⟩) (fun w h => h)
  · rintro ⟨p5, l5, l6⟩ ⟨h, q5, q6⟩
    subst hκ0
    show J _ _ [(0, (pt a0_g)), (2, (pt x1)), (3, (i6 v1)), (4, (pt x7))] _ (.box a0_g 106 [(.slice a0_0_A a0_0_n a0_0_c), (i6 p5)] :: .box x1 46 [(.slice none 0 0), (.slice none 0 0), (.slice none 0 0)] :: .box x7 46 [(.slice x6.1.A x6.1.n x6.1.c), (.slice x6.2.1.A x6.2.1.n x6.2.1.c), (.slice x6.2.2.A x6.2.2.n x6.2.2.c)] :: .row x6.1.A x6.1.c 3 1 (ii l5) :: .row x6.2.1.A x6.2.1.c 3 1 (ii l6) :: .row x6.2.2.A x6.2.2.c 3 1 (ii v7) :: F)
    refine j_then ?_
    refine j_seq ?_
    refine j_seq ?_
    refine j_region ?_
    refine r_q (q_assign rfl rfl) rfl rfl ?_
    refine r_nil ?_
    refine j_then ?_
    obtain ⟨κ1, h, hκ1⟩ := ex_k (g := fun κ => spec_l1Draw.loop1 K κ a0_0 v1 K (0:Int) p5 v7 = some (r1, r2, r3, r4)) h
    refine j_cut (σ := Int × (List Int)) (fun s => [(2, (pt x1)), (4, (pt x7))]) (fun s => .box x1 46 [(.slice none 0 0), (.slice none 0 0), (.slice none 0 0)] :: .box x7 46 [(.slice x6.1.A x6.1.n x6.1.c), (.slice x6.2.1.A x6.2.1.n x6.2.1.c), (.slice x6.2.2.A x6.2.2.n x6.2.2.c)] :: .box a0_g 106 [(.slice a0_0_A a0_0_n a0_0_c), (i6 s.1)] :: .row x6.1.A x6.1.c 3 1 (ii l5) :: .row x6.2.1.A x6.2.1.c 3 1 (ii l6) :: .row x6.2.2.A x6.2.2.c 3 1 (ii s.2) :: F) (fun s => κ1 s.1 s.2 = some (r1, r2, r3, r4) ∧ (s.2.length = x6.2.2.n)) ?_ ?_
    · refine j_block ?_
      refine j_loop (σ := Int × Int × (List Int)) (fun s => [(0, (pt a0_g)), (2, (pt x1)), (3, (i6 v1)), (4, (pt x7)), (7, (i6 s.1))]) (fun s => .box a0_g 106 [(.slice a0_0_A a0_0_n a0_0_c), (i6 s.2.1)] :: .box x1 46 [(.slice none 0 0), (.slice none 0 0), (.slice none 0 0)] :: .box x7 46 [(.slice x6.1.A x6.1.n x6.1.c), (.slice x6.2.1.A x6.2.1.n x6.2.1.c), (.slice x6.2.2.A x6.2.2.n x6.2.2.c)] :: .row x6.1.A x6.1.c 3 1 (ii l5) :: .row x6.2.1.A x6.2.1.c 3 1 (ii l6) :: .row x6.2.2.A x6.2.2.c 3 1 (ii s.2.2) :: F) (fun m s => spec_l1Draw.loop1 K κ1 a0_0 v1 m s.1 s.2.1 s.2.2 = some (r1, r2, r3, r4) ∧ (s.2.2.length = x6.2.2.n)) K ((0:Int), p5, v7) ⟨h, x6.2.2.h⟩ (fun a he => he.sub ⟨rfl, rfl, rfl, rfl, rfl, trivial⟩) (fun w h => h) ?_
      rintro m ⟨p8, p9, l8⟩ ⟨h, q8⟩
      cases m with
      | zero => exact absurd h (by rw [spec_l1Draw.loop1]; exact nofun)
      | succ m =>
        rw [spec_l1Draw.loop1] at h
        show J _ _ [(0, (pt a0_g)), (2, (pt x1)), (3, (i6 v1)), (4, (pt x7)), (7, (i6 p8))] _ (.box a0_g 106 [(.slice a0_0_A a0_0_n a0_0_c), (i6 p9)] :: .box x1 46 [(.slice none 0 0), (.slice none 0 0), (.slice none 0 0)] :: .box x7 46 [(.slice x6.1.A x6.1.n x6.1.c), (.slice x6.2.1.A x6.2.1.n x6.2.1.c), (.slice x6.2.2.A x6.2.2.n x6.2.2.c)] :: .row x6.1.A x6.1.c 3 1 (ii l5) :: .row x6.2.1.A x6.2.1.c 3 1 (ii l6) :: .row x6.2.2.A x6.2.2.c 3 1 (ii l8) :: F)
        refine j_seq ?_
        refine j_seq ?_
        refine j_region ?_
        refine r_q (q_move rfl rfl) rfl rfl ?_
        refine r_q (q_fieldAddr fi46_2 sz32 rfl rfl rfl) rfl rfl ?_
        refine r_q (q_loadb 2 rfl ag32 rfl rfl rfl) rfl rfl ?_
        refine r_q (q_lenX l8 q8 un32 rfl rfl rfl rfl rfl) rfl rfl ?_
        refine r_q (q_lss rfl rfl rfl) rfl rfl ?_
        refine r_nil ?_
        refine j_then ?_
        rcases of_if h with ⟨c43, h⟩ | ⟨c43, h⟩
        · refine j_true rfl (decide_eq_true c43) ?_
          refine j_skip ?_
          refine j_then ?_
          refine j_seq ?_
          refine j_block ?_
          obtain ⟨v31, v32, hb15, h⟩ := of_b2 h
          obtain ⟨c44, h⟩ := of_guard h
          refine j_draw (.box x1 46 [(.slice none 0 0), (.slice none 0 0), (.slice none 0 0)] :: .box x7 46 [(.slice x6.1.A x6.1.n x6.1.c), (.slice x6.2.1.A x6.2.1.n x6.2.1.c), (.slice x6.2.2.A x6.2.2.n x6.2.2.c)] :: .row x6.1.A x6.1.c 3 1 (ii l5) :: .row x6.2.1.A x6.2.1.c 3 1 (ii l6) :: F) 10 follows_any rfl ?_
          refine d_take 0 rfl (q_fieldAddr fi46_2 sz32 rfl rfl rfl) rfl rfl (by kernel_rfl) (by kernel_rfl) (by kernel_rfl) (fun w h => h.pick 6 [1, 2, 3, 4] rfl) ?_
          refine d_take 1 rfl (q_loadb 1 rfl ag32 rfl rfl rfl) rfl rfl (by kernel_rfl) (by kernel_rfl) (by kernel_rfl) (fun w h => h.pick 6 [1, 2, 3, 4] rfl) ?_
          refine d_take 2 rfl (q_move rfl rfl) rfl rfl (by kernel_rfl) (by kernel_rfl) (by kernel_rfl) (fun w h => h.pick 6 [1, 2, 3, 4] rfl) ?_
          refine d_take 3 rfl (q_move rfl rfl) rfl rfl (by kernel_rfl) (by kernel_rfl) (by kernel_rfl) (fun w h => h.pick 6 [1, 2, 3, 4] rfl) ?_
          refine d_take 4 rfl (q_move rfl rfl) rfl rfl (by kernel_rfl) (by kernel_rfl) (by kernel_rfl) (fun w h => h.pick 6 [1, 2, 3, 4] rfl) ?_
          refine d_take 5 rfl (q_add rfl rfl rfl) rfl rfl (by kernel_rfl) (by kernel_rfl) (by kernel_rfl) (fun w h => h.pick 6 [1, 2, 3, 4] rfl) ?_
          refine d_one 6 (by kernel_rfl) ?_
          refine o_do rfl (a_call ok68 rfl rfl rfl rfl (fun w hm => spec_l13Rd_pick.calls K a0_g a0_0 a0_0_A a0_0_n a0_0_c p9 (wrap64 (v1 + (1:Int))) hm a0_0_h (Rd.drop 5 a0_0_R) hb15)) rfl rfl (fun x10 w h => h.pick 6 [1, 2, 3, 4] rfl) (fun x10 => ?_)
          refine j_rs (.box a0_g 106 [(.slice a0_0_A a0_0_n a0_0_c), (i6 v32)] :: .box x1 46 [(.slice none 0 0), (.slice none 0 0), (.slice none 0 0)] :: .box x7 46 [(.slice x6.1.A x6.1.n x6.1.c), (.slice x6.2.1.A x6.2.1.n x6.2.1.c), (.slice x6.2.2.A x6.2.2.n x6.2.2.c)] :: .row x6.1.A x6.1.c 3 1 (ii l5) :: .row x6.2.1.A x6.2.1.c 3 1 (ii l6) :: .row x6.2.2.A x6.2.2.c 3 1 (ii l8) :: F) (fun _ h => h) ?_
          refine d_take 7 rfl (q_sub rfl rfl rfl) rfl rfl (by kernel_rfl) (by kernel_rfl) (by kernel_rfl) (fun w h => h.pick 6 [1, 2, 3, 4] rfl) ?_
          refine d_one 8 (by kernel_rfl) ?_
          refine o_do rfl ((q_ix (Rd.row 5 rfl) (ints_len1 _ l8) (by decide) q8 c44 un32 sz3 rfl rfl rfl)).acts rfl rfl (fun _ w h => h.pick 6 [1, 2, 3, 4] rfl) (fun _ => ?_)
          refine d_one 9 (by kernel_rfl) ?_
          refine o_do rfl (a_stI 5 rfl c44 sz3 rfl rfl rfl) rfl rfl (fun _ w h => h.pick 6 [1, 2, 3, 4] rfl) (fun _ => ?_)
          refine j_rs (.box a0_g 106 [(.slice a0_0_A a0_0_n a0_0_c), (i6 v32)] :: .box x1 46 [(.slice none 0 0), (.slice none 0 0), (.slice none 0 0)] :: .box x7 46 [(.slice x6.1.A x6.1.n x6.1.c), (.slice x6.2.1.A x6.2.1.n x6.2.1.c), (.slice x6.2.2.A x6.2.2.n x6.2.2.c)] :: .row x6.1.A x6.1.c 3 1 (ii l5) :: .row x6.2.1.A x6.2.1.c 3 1 (ii l6) :: .row x6.2.2.A x6.2.2.c 3 1 (ii (l8.set p8.toNat (wrap64 (v31 - (1:Int))))) :: F) (fun _ h => h) ?_
          refine d_done (by kernel_rfl) ?_
          refine j_in ?_
          refine j_then ?_
          refine j_region ?_
          refine r_q (q_move rfl rfl) rfl rfl ?_
          refine r_q (q_add rfl rfl rfl) rfl rfl ?_
          refine r_q (q_assign rfl rfl) rfl rfl ?_
          refine r_nil ?_
          refine j_then ?_
          exact j_again m ((wrap64 (p8 + (1:Int))), v32, (l8.set p8.toNat (wrap64 (v31 - (1:Int))))) (Nat.lt_succ_self m) ⟨h, (set_len q8 _ _)⟩ (fun a he => he.sub ⟨rfl, rfl, rfl, rfl, rfl, trivial⟩) (fun w h => h)
        · refine j_false rfl (decide_eq_false c43) ?_
          refine j_exit ?_
          refine j_then_exit ?_
          refine j_then_exit ?_
          refine j_in_exit ?_
          refine j_then ?_
          exact j_meet (p9, l8) ⟨h, q8⟩ (fun a he => he.sub ⟨rfl, rfl, trivial⟩) (fun w h => h.pick 6 [1, 2, 0, 3, 4, 5] rfl)
    · rintro ⟨p10, l9⟩ ⟨h, q9⟩
      subst hκ1
      show J _ _ [(2, (pt x1)), (4, (pt x7))] _ (.box x1 46 [(.slice none 0 0), (.slice none 0 0), (.slice none 0 0)] :: .box x7 46 [(.slice x6.1.A x6.1.n x6.1.c), (.slice x6.2.1.A x6.2.1.n x6.2.1.c), (.slice x6.2.2.A x6.2.2.n x6.2.2.c)] :: .box a0_g 106 [(.slice a0_0_A a0_0_n a0_0_c), (i6 p10)] :: .row x6.1.A x6.1.c 3 1 (ii l5) :: .row x6.2.1.A x6.2.1.c 3 1 (ii l6) :: .row x6.2.2.A x6.2.2.c 3 1 (ii l9) :: F)
      refine j_then ?_
      refine j_seq ?_
      refine j_region ?_
      refine r_q (q_loadb_agg 1 rfl ag46 sz46 rfl rfl rfl rfl) rfl rfl ?_
      refine r_do (a_storeb 0 rfl sz46 rfl rfl rfl rfl (Nat.le_of_ble_eq_true rfl) rfl) rfl rfl (fun _ => ?_)
      refine j_rs (.box x1 46 [(.slice x6.1.A x6.1.n x6.1.c), (.slice x6.2.1.A x6.2.1.n x6.2.1.c), (.slice x6.2.2.A x6.2.2.n x6.2.2.c)] :: .box x7 46 [(.slice x6.1.A x6.1.n x6.1.c), (.slice x6.2.1.A x6.2.1.n x6.2.1.c), (.slice x6.2.2.A x6.2.2.n x6.2.2.c)] :: .box a0_g 106 [(.slice a0_0_A a0_0_n a0_0_c), (i6 p10)] :: .row x6.1.A x6.1.c 3 1 (ii l5) :: .row x6.2.1.A x6.2.1.c 3 1 (ii l6) :: .row x6.2.2.A x6.2.2.c 3 1 (ii l9) :: F) (fun _ h => h) ?_
      refine r_nil ?_
      refine j_then ?_
      refine j_ret ?_
      cases h
      exact j_return rfl (ResOf.cell 0 rfl rfl ag46 sz46 ResOf.nil) rfl (fun w h => ⟨(⟨x6.1.A, x6.1.n, x6.1.c, q5⟩, ⟨x6.2.1.A, x6.2.1.n, x6.2.1.c, q6⟩, ⟨x6.2.2.A, x6.2.2.n, x6.2.2.c, q9⟩), rfl, h.pick 6 [3, 4, 5, 2] rfl⟩)

theorem impl_has.calls (K : Nat) (a0_0 : List Int) (a0_0_A : Option Addr) (a0_0_n a0_0_c : Nat) (a0_1 : List Int) (a0_1_A : Option Addr) (a0_1_n a0_1_c : Nat) (a0_2 : List Int) (a0_2_A : Option Addr) (a0_2_n a0_2_c : Nat) (a1 : Int) {w0 w : World} {F : List Res} {r1 : Bool} (hm : Mem w0 (F) w) (a0_0_h : a0_0.length = a0_0_n) (a0_0_R : Rd w0 F a0_0_A (ii a0_0)) (a0_1_h : a0_1.length = a0_1_n) (a0_1_R : Rd w0 F a0_1_A (ii a0_1)) (a0_2_h : a0_2.length = a0_2_n) (a0_2_R : Rd w0 F a0_2_A (ii a0_2)) (h : impl_has.f K a0_0 a0_1 a0_2 a1 = some r1) :
    Calls Try.prog 89 (List.toArray [.agg (List.toArray [.slice a0_0_A a0_0_n a0_0_c, .slice a0_1_A a0_1_n a0_1_c, .slice a0_2_A a0_2_n a0_2_c]), i6 a1]) w fun e w' => ∃ x : Unit, e = .returned (.bool r1) ∧ Mem w0 (F) w' := by
  unfold impl_has.f at h
  refine calls_of_J (n := 18) Try.func89 rfl rfl rfl hm ?_
  refine j_seq ?_
  refine j_region ?_
  refine r_do (a_box rfl rfl) rfl rfl (fun x1 => ?_)
  refine r_q (q_assign rfl rfl) rfl rfl ?_
  refine j_rs (.box x1 46 [(.slice a0_0_A a0_0_n a0_0_c), (.slice a0_1_A a0_1_n a0_1_c), (.slice a0_2_A a0_2_n a0_2_c)] :: F) (fun _ h => h) ?_
  refine r_nil ?_
  refine j_then ?_
  refine j_seq ?_
  refine j_region ?_
  refine r_q (q_loadb_agg 0 rfl ag46 sz46 rfl rfl rfl rfl) rfl rfl ?_
  obtain ⟨v1, hb1, h⟩ := of_b1 h
  refine r_do (a_call ok57 rfl rfl rfl rfl (fun w hm => impl_HeapValid.calls K a0_0 a0_0_A a0_0_n a0_0_c a0_1 a0_1_A a0_1_n a0_1_c a0_2 a0_2_A a0_2_n a0_2_c hm a0_0_h (Rd.drop 1 a0_0_R) a0_1_h (Rd.drop 1 a0_1_R) a0_2_h (Rd.drop 1 a0_2_R) hb1)) rfl rfl (fun x2 => ?_)
  refine r_q (q_move rfl rfl) rfl rfl ?_
  rcases of_if h with ⟨c1, h⟩ | ⟨c1, h⟩
  · refine r_qon (q_move rfl rfl) rfl rfl rfl rfl c1 rfl ?_
    refine r_qon (q_geq rfl rfl rfl) rfl rfl rfl rfl c1 rfl ?_
    refine r_q (q_pick_t rfl rfl c1 rfl) rfl rfl ?_
    refine r_q (q_move rfl rfl) rfl rfl ?_
    rcases of_if h with ⟨c2, h⟩ | ⟨c2, h⟩
    · refine r_qon (q_move rfl rfl) rfl rfl rfl rfl (decide_eq_true c2) rfl ?_
      refine r_qon (q_fieldAddr fi46_0 sz32 rfl rfl rfl) rfl rfl rfl rfl (decide_eq_true c2) rfl ?_
      refine r_qon (q_loadb 0 rfl ag32 rfl rfl rfl) rfl rfl rfl rfl (decide_eq_true c2) rfl ?_
      refine r_qon (q_lenX a0_0 a0_0_h un32 rfl rfl rfl rfl rfl) rfl rfl rfl rfl (decide_eq_true c2) rfl ?_
      refine r_qon (q_lss rfl rfl rfl) rfl rfl rfl rfl (decide_eq_true c2) rfl ?_
      refine r_q (q_pick_t rfl rfl (decide_eq_true c2) rfl) rfl rfl ?_
      refine r_q (q_assign rfl rfl) rfl rfl ?_
      refine j_rs (.box x1 46 [(.slice a0_0_A a0_0_n a0_0_c), (.slice a0_1_A a0_1_n a0_1_c), (.slice a0_2_A a0_2_n a0_2_c)] :: F) (fun _ h => h) ?_
      refine r_nil ?_
      refine j_then ?_
      refine j_ret ?_
      cases h
      exact j_return rfl (ResOf.tmp rfl ResOf.nil) rfl (fun w h => ⟨(), rfl, h.tail⟩)
    · refine r_off rfl rfl rfl rfl (decide_eq_false c2) rfl ?_
      refine r_off rfl rfl rfl rfl (decide_eq_false c2) rfl ?_
      refine r_off rfl rfl rfl rfl (decide_eq_false c2) rfl ?_
      refine r_off rfl rfl rfl rfl (decide_eq_false c2) rfl ?_
      refine r_off rfl rfl rfl rfl (decide_eq_false c2) rfl ?_
      refine r_q (q_pick_f rfl rfl (decide_eq_false c2) rfl) rfl rfl ?_
      refine r_q (q_assign rfl rfl) rfl rfl ?_
      refine j_rs (.box x1 46 [(.slice a0_0_A a0_0_n a0_0_c), (.slice a0_1_A a0_1_n a0_1_c), (.slice a0_2_A a0_2_n a0_2_c)] :: F) (fun _ h => h) ?_
      refine r_nil ?_
      refine j_then ?_
      refine j_ret ?_
      cases h
      exact j_return rfl (ResOf.tmp rfl ResOf.nil) rfl (fun w h => ⟨(), rfl, h.tail⟩)
  · refine r_off rfl rfl rfl rfl (var_f c1) rfl ?_
    refine r_off rfl rfl rfl rfl (var_f c1) rfl ?_
    refine r_q (q_pick_f rfl rfl (var_f c1) rfl) rfl rfl ?_
    refine r_q (q_move rfl rfl) rfl rfl ?_
    refine r_off rfl rfl rfl rfl rfl rfl ?_
    refine r_off rfl rfl rfl rfl rfl rfl ?_
    refine r_off rfl rfl rfl rfl rfl rfl ?_
    refine r_off rfl rfl rfl rfl rfl rfl ?_
    refine r_off rfl rfl rfl rfl rfl rfl ?_
    refine r_q (q_pick_f rfl rfl rfl rfl) rfl rfl ?_
    refine r_q (q_assign rfl rfl) rfl rfl ?_
    refine j_rs (.box x1 46 [(.slice a0_0_A a0_0_n a0_0_c), (.slice a0_1_A a0_1_n a0_1_c), (.slice a0_2_A a0_2_n a0_2_c)] :: F) (fun _ h => h) ?_
    refine r_nil ?_
    refine j_then ?_
    refine j_ret ?_
    cases h
    exact j_return rfl (ResOf.tmp rfl ResOf.nil) rfl (fun w h => ⟨(), rfl, h.tail⟩)

end Go.Proofs.Ytjcbalhdppmdmaa.F
