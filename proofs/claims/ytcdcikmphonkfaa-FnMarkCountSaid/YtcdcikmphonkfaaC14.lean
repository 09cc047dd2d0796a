/- The program computes these pure functions, printed by the generator of wip/gen. -/
import Derived.Test.YtcdcikmphonkfaaFa
import Derived.Test.YtcdcikmphonkfaaFi
import Derived.Test.YtcdcikmphonkfaaFb
import Derived.Test.YtcdcikmphonkfaaC0
import Derived.Test.YtcdcikmphonkfaaC1
import Derived.Test.YtcdcikmphonkfaaC2
import Derived.Test.YtcdcikmphonkfaaC3
import Derived.Test.YtcdcikmphonkfaaC4
import Derived.Test.YtcdcikmphonkfaaC6
import Derived.Test.YtcdcikmphonkfaaC7
namespace Go.Proofs.Ytcdcikmphonkfaa.F
open Go Go.RowKit Go.Proofs.Ytcdcikmphonkfaa.S
set_option linter.unusedVariables false
set_option maxRecDepth 100000
theorem spec_MarkAll.calls (K : Nat) (a0_0 : List Int) (a0_0_A : Option Addr) (a0_0_n a0_0_c : Nat) (a0_1 : List Int) (a0_1_A : Option Addr) (a0_1_n a0_1_c : Nat) (a0_2 : List Int) (a0_2_A : Option Addr) (a0_2_n a0_2_c : Nat) (a0_3 : List Int) (a0_3_A : Option Addr) (a0_3_n a0_3_c : Nat) {w0 w : World} {F : List Res} {r1 : List Int} {r2 : List Int} {r3 : List Int} {r4 : List Int} {r5 : Bool} (hm : Mem w0 (F) w) (a0_0_h : a0_0.length = a0_0_n) (a0_0_R : Rd w0 F a0_0_A (ii a0_0)) (a0_1_h : a0_1.length = a0_1_n) (a0_1_R : Rd w0 F a0_1_A (ii a0_1)) (a0_2_h : a0_2.length = a0_2_n) (a0_2_R : Rd w0 F a0_2_A (ii a0_2)) (a0_3_h : a0_3.length = a0_3_n) (a0_3_R : Rd w0 F a0_3_A (ii a0_3)) (h : spec_MarkAll.f K a0_0 a0_1 a0_2 a0_3 = some (r1, r2, r3, r4, r5)) :
    Calls Try.prog 27 (List.toArray [.agg (List.toArray [.slice a0_0_A a0_0_n a0_0_c, .slice a0_1_A a0_1_n a0_1_c, .slice a0_2_A a0_2_n a0_2_c, .slice a0_3_A a0_3_n a0_3_c])]) w fun e w' => ∃ x : (Sl r1.length) × (Sl r2.length) × (Sl r3.length) × (Sl r4.length), e = .returned (.tuple (List.toArray [.agg (List.toArray [.slice x.1.A x.1.n x.1.c, .slice x.2.1.A x.2.1.n x.2.1.c, .slice x.2.2.1.A x.2.2.1.n x.2.2.1.c, .slice x.2.2.2.A x.2.2.2.n x.2.2.2.c]), .bool r5])) ∧ Mem w0 (.row x.1.A x.1.c 3 1 (ii r1) :: .row x.2.1.A x.2.1.c 3 1 (ii r2) :: .row x.2.2.1.A x.2.2.1.c 3 1 (ii r3) :: .row x.2.2.2.A x.2.2.2.c 3 1 (ii r4) :: F) w' := by
  unfold spec_MarkAll.f at h
  refine calls_of_J (n := 19) Try.func27 rfl rfl rfl hm ?_
  refine j_seq ?_
  refine j_region ?_
  refine r_do (a_box rfl rfl) rfl rfl (fun x1 => ?_)
  refine r_do (a_alloc zr27 rfl) rfl rfl (fun x2 => ?_)
  refine r_q (q_assign rfl rfl) rfl rfl ?_
  refine r_nil ?_
  refine j_then ?_
  refine j_seq ?_
  refine j_seq ?_
  refine j_region ?_
  refine r_q (q_loadb_agg 1 rfl ag27 sz27 rfl rfl rfl rfl) rfl rfl ?_
  obtain ⟨v1, hb1, h⟩ := of_b1 h
  refine r_do (a_call ok59 rfl rfl rfl rfl (fun w hm => spec_ColoredValid.calls K a0_0 a0_0_A a0_0_n a0_0_c a0_1 a0_1_A a0_1_n a0_1_c a0_2 a0_2_A a0_2_n a0_2_c a0_3 a0_3_A a0_3_n a0_3_c hm a0_0_h (Rd.drop 2 a0_0_R) a0_1_h (Rd.drop 2 a0_1_R) a0_2_h (Rd.drop 2 a0_2_R) a0_3_h (Rd.drop 2 a0_3_R) hb1)) rfl rfl (fun x3 => ?_)
  refine r_q (q_not rfl rfl) rfl rfl ?_
  refine r_nil ?_
  refine j_then ?_
  rcases of_if h with ⟨c1, h⟩ | ⟨c1, h⟩
  · refine j_false rfl (not_f c1) ?_
    refine j_skip ?_
    refine j_then ?_
    refine j_seq ?_
    refine j_region ?_
    refine r_q (q_loadb_agg 1 rfl ag27 sz27 rfl rfl rfl rfl) rfl rfl ?_
    obtain ⟨v2, v3, v4, v5, hb2, h⟩ := of_b4 h
    refine r_do (a_call ok61 rfl rfl rfl rfl (fun w hm => spec_l3Copy.calls K a0_0 a0_0_A a0_0_n a0_0_c a0_1 a0_1_A a0_1_n a0_1_c a0_2 a0_2_A a0_2_n a0_2_c a0_3 a0_3_A a0_3_n a0_3_c hm a0_0_h (Rd.drop 2 a0_0_R) a0_1_h (Rd.drop 2 a0_1_R) a0_2_h (Rd.drop 2 a0_2_R) a0_3_h (Rd.drop 2 a0_3_R) hb2)) rfl rfl (fun x4 => ?_)
    refine r_do (a_alloc zr27 rfl) rfl rfl (fun x5 => ?_)
    refine r_do (a_storeb 0 rfl sz27 rfl rfl rfl rfl (Nat.le_of_ble_eq_true rfl) rfl) rfl rfl (fun _ => ?_)
    refine j_b0 [(.slice x4.1.A x4.1.n x4.1.c), (.slice x4.2.1.A x4.2.1.n x4.2.1.c), (.slice x4.2.2.1.A x4.2.2.1.n x4.2.2.1.c), (.slice x4.2.2.2.A x4.2.2.2.n x4.2.2.2.c)] rfl ?_
    refine r_nil ?_
    refine j_then ?_
    refine j_seq ?_
    obtain ⟨κ0, h, hκ0⟩ := ex_k (g := fun κ => spec_MarkAll.loop0 K κ v2 v3 K v5 = some (r1, r2, r3, r4, r5)) h
    refine j_cut (σ := (List Int)) (fun s => [(2, (pt x2)), (4, (pt x5))]) (fun s => .box x2 27 [(.slice none 0 0), (.slice none 0 0), (.slice none 0 0), (.slice none 0 0)] :: .box x5 27 [(.slice x4.1.A x4.1.n x4.1.c), (.slice x4.2.1.A x4.2.1.n x4.2.1.c), (.slice x4.2.2.1.A x4.2.2.1.n x4.2.2.1.c), (.slice x4.2.2.2.A x4.2.2.2.n x4.2.2.2.c)] :: .row x4.1.A x4.1.c 3 1 (ii v2) :: .row x4.2.1.A x4.2.1.c 3 1 (ii v3) :: .row x4.2.2.1.A x4.2.2.1.c 3 1 (ii v4) :: .row x4.2.2.2.A x4.2.2.2.c 3 1 (ii s) :: F) (fun s => κ0 s = some (r1, r2, r3, r4, r5) ∧ (s.length = x4.2.2.2.n)) ?_ ?_
    · refine j_block ?_
      refine j_loop (σ := (List Int)) (fun s => [(2, (pt x2)), (4, (pt x5))]) (fun s => .box x2 27 [(.slice none 0 0), (.slice none 0 0), (.slice none 0 0), (.slice none 0 0)] :: .box x5 27 [(.slice x4.1.A x4.1.n x4.1.c), (.slice x4.2.1.A x4.2.1.n x4.2.1.c), (.slice x4.2.2.1.A x4.2.2.1.n x4.2.2.1.c), (.slice x4.2.2.2.A x4.2.2.2.n x4.2.2.2.c)] :: .row x4.1.A x4.1.c 3 1 (ii v2) :: .row x4.2.1.A x4.2.1.c 3 1 (ii v3) :: .row x4.2.2.1.A x4.2.2.1.c 3 1 (ii v4) :: .row x4.2.2.2.A x4.2.2.2.c 3 1 (ii s) :: F) (fun m s => spec_MarkAll.loop0 K κ0 v2 v3 m s = some (r1, r2, r3, r4, r5) ∧ (s.length = x4.2.2.2.n)) K v5 ⟨h, x4.2.2.2.h⟩ (fun a he => he.sub ⟨rfl, rfl, trivial⟩) (fun w h => h.pick 7 [5, 0, 1, 2, 3, 4] rfl) ?_
      rintro m l2 ⟨h, q2⟩
      cases m with
      | zero => exact absurd h (by rw [spec_MarkAll.loop0]; exact nofun)
      | succ m =>
        rw [spec_MarkAll.loop0] at h
        show J _ _ [(2, (pt x2)), (4, (pt x5))] _ (.box x2 27 [(.slice none 0 0), (.slice none 0 0), (.slice none 0 0), (.slice none 0 0)] :: .box x5 27 [(.slice x4.1.A x4.1.n x4.1.c), (.slice x4.2.1.A x4.2.1.n x4.2.1.c), (.slice x4.2.2.1.A x4.2.2.1.n x4.2.2.1.c), (.slice x4.2.2.2.A x4.2.2.2.n x4.2.2.2.c)] :: .row x4.1.A x4.1.c 3 1 (ii v2) :: .row x4.2.1.A x4.2.1.c 3 1 (ii v3) :: .row x4.2.2.1.A x4.2.2.1.c 3 1 (ii v4) :: .row x4.2.2.2.A x4.2.2.2.c 3 1 (ii l2) :: F)
        refine j_seq ?_
        refine j_seq ?_
        refine j_region ?_
        refine r_q (q_loadb_agg 1 rfl ag27 sz27 rfl rfl rfl rfl) rfl rfl ?_
        obtain ⟨v15, hb12, h⟩ := of_b1 h
        refine r_do (a_call ok67 rfl rfl rfl rfl (fun w hm => spec_l3First.calls K x4.1.A x4.1.n x4.1.c x4.2.1.A x4.2.1.n x4.2.1.c x4.2.2.1.A x4.2.2.1.n x4.2.2.1.c l2 x4.2.2.2.A x4.2.2.2.n x4.2.2.2.c (1:Int) hm q2 (Rd.row 5 rfl) hb12)) rfl rfl (fun x6 => ?_)
        refine r_q (q_geq rfl rfl rfl) rfl rfl ?_
        refine r_nil ?_
        refine j_then ?_
        rcases of_if h with ⟨c5, h⟩ | ⟨c5, h⟩
        · refine j_true rfl (decide_eq_true c5) ?_
          refine j_skip ?_
          refine j_then ?_
          refine j_block ?_
          obtain ⟨v16, hb13, h⟩ := of_b1 h
          obtain ⟨v17, hb14, h⟩ := of_b1 h
          refine j_draw (.box x2 27 [(.slice none 0 0), (.slice none 0 0), (.slice none 0 0), (.slice none 0 0)] :: .row x4.1.A x4.1.c 3 1 (ii v2) :: .row x4.2.1.A x4.2.1.c 3 1 (ii v3) :: .row x4.2.2.1.A x4.2.2.1.c 3 1 (ii v4) :: F) 5 follows_any rfl ?_
          refine d_join (σ := Unit × ((Ln v17.length l2.length))) 0 #[true, true, true, true, true] (fun s => [(2, (pt x2)), (4, (pt x5))]) (fun s => .box x2 27 [(.slice none 0 0), (.slice none 0 0), (.slice none 0 0), (.slice none 0 0)] :: .box x5 27 [(.slice x4.1.A x4.1.n x4.1.c), (.slice x4.2.1.A x4.2.1.n x4.2.1.c), (.slice x4.2.2.1.A x4.2.2.1.n x4.2.2.1.c), (.slice x4.2.2.2.A x4.2.2.2.n x4.2.2.2.c)] :: .row x4.1.A x4.1.c 3 1 (ii v2) :: .row x4.2.1.A x4.2.1.c 3 1 (ii v3) :: .row x4.2.2.1.A x4.2.2.1.c 3 1 (ii v4) :: .row x4.2.2.2.A x4.2.2.2.c 3 1 (ii v17) :: F) ?_ (fun hD31 => ?_)
          · rintro ⟨x7, x8⟩
            show J _ _ [(2, (pt x2)), (4, (pt x5))] _ (.box x2 27 [(.slice none 0 0), (.slice none 0 0), (.slice none 0 0), (.slice none 0 0)] :: .box x5 27 [(.slice x4.1.A x4.1.n x4.1.c), (.slice x4.2.1.A x4.2.1.n x4.2.1.c), (.slice x4.2.2.1.A x4.2.2.1.n x4.2.2.1.c), (.slice x4.2.2.2.A x4.2.2.2.n x4.2.2.2.c)] :: .row x4.1.A x4.1.c 3 1 (ii v2) :: .row x4.2.1.A x4.2.1.c 3 1 (ii v3) :: .row x4.2.2.1.A x4.2.2.1.c 3 1 (ii v4) :: .row x4.2.2.2.A x4.2.2.2.c 3 1 (ii v17) :: F)
            refine d_done (by kernel_rfl) ?_
            refine j_in ?_
            refine j_then ?_
            exact j_again m v17 (Nat.lt_succ_self m) ⟨h, (x8.h.trans q2)⟩ (fun a he => he.sub ⟨rfl, rfl, trivial⟩) (fun w h => h)
          refine d_join (σ := Unit × ((Ln v17.length l2.length))) 1 #[true, true, true, true, false] (fun s => [(2, (pt x2)), (4, (pt x5)), (17, (.agg (List.toArray [(.slice x4.1.A x4.1.n x4.1.c), (.slice x4.2.1.A x4.2.1.n x4.2.1.c), (.slice x4.2.2.1.A x4.2.2.1.n x4.2.2.1.c), (.slice x4.2.2.2.A x4.2.2.2.n x4.2.2.2.c)])))]) (fun s => .box x2 27 [(.slice none 0 0), (.slice none 0 0), (.slice none 0 0), (.slice none 0 0)] :: .box x5 27 [(.slice x4.1.A x4.1.n x4.1.c), (.slice x4.2.1.A x4.2.1.n x4.2.1.c), (.slice x4.2.2.1.A x4.2.2.1.n x4.2.2.1.c), (.slice x4.2.2.2.A x4.2.2.2.n x4.2.2.2.c)] :: .row x4.1.A x4.1.c 3 1 (ii v2) :: .row x4.2.1.A x4.2.1.c 3 1 (ii v3) :: .row x4.2.2.1.A x4.2.2.1.c 3 1 (ii v4) :: .row x4.2.2.2.A x4.2.2.2.c 3 1 (ii v17) :: F) ?_ (fun hD15 => ?_)
          · rintro ⟨x7, x8⟩
            show J _ _ [(2, (pt x2)), (4, (pt x5)), (17, (.agg (List.toArray [(.slice x4.1.A x4.1.n x4.1.c), (.slice x4.2.1.A x4.2.1.n x4.2.1.c), (.slice x4.2.2.1.A x4.2.2.1.n x4.2.2.1.c), (.slice x4.2.2.2.A x4.2.2.2.n x4.2.2.2.c)])))] _ (.box x2 27 [(.slice none 0 0), (.slice none 0 0), (.slice none 0 0), (.slice none 0 0)] :: .box x5 27 [(.slice x4.1.A x4.1.n x4.1.c), (.slice x4.2.1.A x4.2.1.n x4.2.1.c), (.slice x4.2.2.1.A x4.2.2.1.n x4.2.2.1.c), (.slice x4.2.2.2.A x4.2.2.2.n x4.2.2.2.c)] :: .row x4.1.A x4.1.c 3 1 (ii v2) :: .row x4.2.1.A x4.2.1.c 3 1 (ii v3) :: .row x4.2.2.1.A x4.2.2.1.c 3 1 (ii v4) :: .row x4.2.2.2.A x4.2.2.2.c 3 1 (ii v17) :: F)
            refine d_one 4 (by kernel_rfl) ?_
            · refine o_do rfl (a_storeb 1 rfl sz27 rfl rfl rfl rfl (Nat.le_of_ble_eq_true rfl) rfl) rfl rfl (fun _ w h => h.pick 6 [0, 2, 3, 4] rfl) (fun _ => ?_)
              refine j_b1 [(.slice x4.1.A x4.1.n x4.1.c), (.slice x4.2.1.A x4.2.1.n x4.2.1.c), (.slice x4.2.2.1.A x4.2.2.1.n x4.2.2.1.c), (.slice x4.2.2.2.A x4.2.2.2.n x4.2.2.2.c)] rfl ?_
              refine j_rs (.box x2 27 [(.slice none 0 0), (.slice none 0 0), (.slice none 0 0), (.slice none 0 0)] :: .box x5 27 [(.slice x4.1.A x4.1.n x4.1.c), (.slice x4.2.1.A x4.2.1.n x4.2.1.c), (.slice x4.2.2.1.A x4.2.2.1.n x4.2.2.1.c), (.slice x4.2.2.2.A x4.2.2.2.n x4.2.2.2.c)] :: .row x4.1.A x4.1.c 3 1 (ii v2) :: .row x4.2.1.A x4.2.1.c 3 1 (ii v3) :: .row x4.2.2.1.A x4.2.2.1.c 3 1 (ii v4) :: .row x4.2.2.2.A x4.2.2.2.c 3 1 (ii v17) :: F) (fun _ h => h) ?_
              refine j_env [(2, (pt x2)), (4, (pt x5))] ⟨rfl, rfl, trivial⟩ ?_
              exact hD31 (x7, x8)
          refine d_join (σ := Unit) 2 #[true, true, true, false, false] (fun s => [(2, (pt x2)), (4, (pt x5)), (14, (.agg (List.toArray [(.slice x4.1.A x4.1.n x4.1.c), (.slice x4.2.1.A x4.2.1.n x4.2.1.c), (.slice x4.2.2.1.A x4.2.2.1.n x4.2.2.1.c), (.slice x4.2.2.2.A x4.2.2.2.n x4.2.2.2.c)]))), (16, (i6 v16))]) (fun s => .box x2 27 [(.slice none 0 0), (.slice none 0 0), (.slice none 0 0), (.slice none 0 0)] :: .box x5 27 [(.slice x4.1.A x4.1.n x4.1.c), (.slice x4.2.1.A x4.2.1.n x4.2.1.c), (.slice x4.2.2.1.A x4.2.2.1.n x4.2.2.1.c), (.slice x4.2.2.2.A x4.2.2.2.n x4.2.2.2.c)] :: .row x4.1.A x4.1.c 3 1 (ii v2) :: .row x4.2.1.A x4.2.1.c 3 1 (ii v3) :: .row x4.2.2.1.A x4.2.2.1.c 3 1 (ii v4) :: .row x4.2.2.2.A x4.2.2.2.c 3 1 (ii l2) :: F) ?_ (fun hD7 => ?_)
          · rintro x7
            show J _ _ [(2, (pt x2)), (4, (pt x5)), (14, (.agg (List.toArray [(.slice x4.1.A x4.1.n x4.1.c), (.slice x4.2.1.A x4.2.1.n x4.2.1.c), (.slice x4.2.2.1.A x4.2.2.1.n x4.2.2.1.c), (.slice x4.2.2.2.A x4.2.2.2.n x4.2.2.2.c)]))), (16, (i6 v16))] _ (.box x2 27 [(.slice none 0 0), (.slice none 0 0), (.slice none 0 0), (.slice none 0 0)] :: .box x5 27 [(.slice x4.1.A x4.1.n x4.1.c), (.slice x4.2.1.A x4.2.1.n x4.2.1.c), (.slice x4.2.2.1.A x4.2.2.1.n x4.2.2.1.c), (.slice x4.2.2.2.A x4.2.2.2.n x4.2.2.2.c)] :: .row x4.1.A x4.1.c 3 1 (ii v2) :: .row x4.2.1.A x4.2.1.c 3 1 (ii v3) :: .row x4.2.2.1.A x4.2.2.1.c 3 1 (ii v4) :: .row x4.2.2.2.A x4.2.2.2.c 3 1 (ii l2) :: F)
            refine d_one 3 (by kernel_rfl) ?_
            · refine j_rs (.row x4.2.2.2.A x4.2.2.2.c 3 1 (ii l2) :: .box x2 27 [(.slice none 0 0), (.slice none 0 0), (.slice none 0 0), (.slice none 0 0)] :: .box x5 27 [(.slice x4.1.A x4.1.n x4.1.c), (.slice x4.2.1.A x4.2.1.n x4.2.1.c), (.slice x4.2.2.1.A x4.2.2.1.n x4.2.2.1.c), (.slice x4.2.2.2.A x4.2.2.2.n x4.2.2.2.c)] :: .row x4.1.A x4.1.c 3 1 (ii v2) :: .row x4.2.1.A x4.2.1.c 3 1 (ii v3) :: .row x4.2.2.1.A x4.2.2.1.c 3 1 (ii v4) :: F) (fun _ h => h.pick 6 [5, 0, 1, 2, 3, 4] rfl) ?_
              refine o_do rfl (a_call ok68 rfl rfl rfl rfl (fun w hm => spec_l3Black.calls K v2 x4.1.A x4.1.n x4.1.c v3 x4.2.1.A x4.2.1.n x4.2.1.c x4.2.2.1.A x4.2.2.1.n x4.2.2.1.c l2 x4.2.2.2.A x4.2.2.2.n x4.2.2.2.c v16 hm x4.1.h (Rd.row 2 rfl) x4.2.1.h (Rd.row 3 rfl) q2 hb14)) rfl rfl (fun x8 w h => h.pick 6 [1, 3, 4, 5] rfl) (fun x8 => ?_)
              refine j_rs (.box x2 27 [(.slice none 0 0), (.slice none 0 0), (.slice none 0 0), (.slice none 0 0)] :: .box x5 27 [(.slice x4.1.A x4.1.n x4.1.c), (.slice x4.2.1.A x4.2.1.n x4.2.1.c), (.slice x4.2.2.1.A x4.2.2.1.n x4.2.2.1.c), (.slice x4.2.2.2.A x4.2.2.2.n x4.2.2.2.c)] :: .row x4.1.A x4.1.c 3 1 (ii v2) :: .row x4.2.1.A x4.2.1.c 3 1 (ii v3) :: .row x4.2.2.1.A x4.2.2.1.c 3 1 (ii v4) :: .row x4.2.2.2.A x4.2.2.2.c 3 1 (ii v17) :: F) (fun _ h => h.pick 6 [1, 2, 3, 4, 5, 0] rfl) ?_
              refine j_env [(2, (pt x2)), (4, (pt x5)), (17, (.agg (List.toArray [(.slice x4.1.A x4.1.n x4.1.c), (.slice x4.2.1.A x4.2.1.n x4.2.1.c), (.slice x4.2.2.1.A x4.2.2.1.n x4.2.2.1.c), (.slice x4.2.2.2.A x4.2.2.2.n x4.2.2.2.c)])))] ⟨rfl, rfl, rfl, trivial⟩ ?_
              exact hD15 (x7, x8)
          refine d_join (σ := Unit) 3 #[true, true, false, false, false] (fun s => [(2, (pt x2)), (4, (pt x5)), (14, (.agg (List.toArray [(.slice x4.1.A x4.1.n x4.1.c), (.slice x4.2.1.A x4.2.1.n x4.2.1.c), (.slice x4.2.2.1.A x4.2.2.1.n x4.2.2.1.c), (.slice x4.2.2.2.A x4.2.2.2.n x4.2.2.2.c)]))), (15, (.agg (List.toArray [(.slice x4.1.A x4.1.n x4.1.c), (.slice x4.2.1.A x4.2.1.n x4.2.1.c), (.slice x4.2.2.1.A x4.2.2.1.n x4.2.2.1.c), (.slice x4.2.2.2.A x4.2.2.2.n x4.2.2.2.c)])))]) (fun s => .box x2 27 [(.slice none 0 0), (.slice none 0 0), (.slice none 0 0), (.slice none 0 0)] :: .box x5 27 [(.slice x4.1.A x4.1.n x4.1.c), (.slice x4.2.1.A x4.2.1.n x4.2.1.c), (.slice x4.2.2.1.A x4.2.2.1.n x4.2.2.1.c), (.slice x4.2.2.2.A x4.2.2.2.n x4.2.2.2.c)] :: .row x4.1.A x4.1.c 3 1 (ii v2) :: .row x4.2.1.A x4.2.1.c 3 1 (ii v3) :: .row x4.2.2.1.A x4.2.2.1.c 3 1 (ii v4) :: .row x4.2.2.2.A x4.2.2.2.c 3 1 (ii l2) :: F) ?_ (fun hD3 => ?_)
          · rintro _
            show J _ _ [(2, (pt x2)), (4, (pt x5)), (14, (.agg (List.toArray [(.slice x4.1.A x4.1.n x4.1.c), (.slice x4.2.1.A x4.2.1.n x4.2.1.c), (.slice x4.2.2.1.A x4.2.2.1.n x4.2.2.1.c), (.slice x4.2.2.2.A x4.2.2.2.n x4.2.2.2.c)]))), (15, (.agg (List.toArray [(.slice x4.1.A x4.1.n x4.1.c), (.slice x4.2.1.A x4.2.1.n x4.2.1.c), (.slice x4.2.2.1.A x4.2.2.1.n x4.2.2.1.c), (.slice x4.2.2.2.A x4.2.2.2.n x4.2.2.2.c)])))] _ (.box x2 27 [(.slice none 0 0), (.slice none 0 0), (.slice none 0 0), (.slice none 0 0)] :: .box x5 27 [(.slice x4.1.A x4.1.n x4.1.c), (.slice x4.2.1.A x4.2.1.n x4.2.1.c), (.slice x4.2.2.1.A x4.2.2.1.n x4.2.2.1.c), (.slice x4.2.2.2.A x4.2.2.2.n x4.2.2.2.c)] :: .row x4.1.A x4.1.c 3 1 (ii v2) :: .row x4.2.1.A x4.2.1.c 3 1 (ii v3) :: .row x4.2.2.1.A x4.2.2.1.c 3 1 (ii v4) :: .row x4.2.2.2.A x4.2.2.2.c 3 1 (ii l2) :: F)
            refine d_one 2 (by kernel_rfl) ?_
            · refine o_do rfl (a_call ok67 rfl rfl rfl rfl (fun w hm => spec_l3First.calls K x4.1.A x4.1.n x4.1.c x4.2.1.A x4.2.1.n x4.2.1.c x4.2.2.1.A x4.2.2.1.n x4.2.2.1.c l2 x4.2.2.2.A x4.2.2.2.n x4.2.2.2.c (1:Int) hm q2 (Rd.row 5 rfl) hb13)) rfl rfl (fun x7 w h => h.pick 6 [0, 2, 3, 4] rfl) (fun x7 => ?_)
              refine j_rs (.box x2 27 [(.slice none 0 0), (.slice none 0 0), (.slice none 0 0), (.slice none 0 0)] :: .box x5 27 [(.slice x4.1.A x4.1.n x4.1.c), (.slice x4.2.1.A x4.2.1.n x4.2.1.c), (.slice x4.2.2.1.A x4.2.2.1.n x4.2.2.1.c), (.slice x4.2.2.2.A x4.2.2.2.n x4.2.2.2.c)] :: .row x4.1.A x4.1.c 3 1 (ii v2) :: .row x4.2.1.A x4.2.1.c 3 1 (ii v3) :: .row x4.2.2.1.A x4.2.2.1.c 3 1 (ii v4) :: .row x4.2.2.2.A x4.2.2.2.c 3 1 (ii l2) :: F) (fun _ h => h) ?_
              refine j_env [(2, (pt x2)), (4, (pt x5)), (14, (.agg (List.toArray [(.slice x4.1.A x4.1.n x4.1.c), (.slice x4.2.1.A x4.2.1.n x4.2.1.c), (.slice x4.2.2.1.A x4.2.2.1.n x4.2.2.1.c), (.slice x4.2.2.2.A x4.2.2.2.n x4.2.2.2.c)]))), (16, (i6 v16))] ⟨rfl, rfl, rfl, rfl, trivial⟩ ?_
              exact hD7 x7
          refine d_join (σ := Unit) 3 #[false, true, true, false, false] (fun s => [(2, (pt x2)), (4, (pt x5)), (16, (i6 v16))]) (fun s => .box x2 27 [(.slice none 0 0), (.slice none 0 0), (.slice none 0 0), (.slice none 0 0)] :: .box x5 27 [(.slice x4.1.A x4.1.n x4.1.c), (.slice x4.2.1.A x4.2.1.n x4.2.1.c), (.slice x4.2.2.1.A x4.2.2.1.n x4.2.2.1.c), (.slice x4.2.2.2.A x4.2.2.2.n x4.2.2.2.c)] :: .row x4.1.A x4.1.c 3 1 (ii v2) :: .row x4.2.1.A x4.2.1.c 3 1 (ii v3) :: .row x4.2.2.1.A x4.2.2.1.c 3 1 (ii v4) :: .row x4.2.2.2.A x4.2.2.2.c 3 1 (ii l2) :: F) ?_ (fun hD6 => ?_)
          · rintro x7
            show J _ _ [(2, (pt x2)), (4, (pt x5)), (16, (i6 v16))] _ (.box x2 27 [(.slice none 0 0), (.slice none 0 0), (.slice none 0 0), (.slice none 0 0)] :: .box x5 27 [(.slice x4.1.A x4.1.n x4.1.c), (.slice x4.2.1.A x4.2.1.n x4.2.1.c), (.slice x4.2.2.1.A x4.2.2.1.n x4.2.2.1.c), (.slice x4.2.2.2.A x4.2.2.2.n x4.2.2.2.c)] :: .row x4.1.A x4.1.c 3 1 (ii v2) :: .row x4.2.1.A x4.2.1.c 3 1 (ii v3) :: .row x4.2.2.1.A x4.2.2.1.c 3 1 (ii v4) :: .row x4.2.2.2.A x4.2.2.2.c 3 1 (ii l2) :: F)
            refine d_one 0 (by kernel_rfl) ?_
            · refine o_do rfl ((q_loadb_agg 1 rfl ag27 sz27 rfl rfl rfl rfl)).acts rfl rfl (fun _ w h => h.pick 6 [0, 2, 3, 4] rfl) (fun _ => ?_)
              refine j_rs (.box x2 27 [(.slice none 0 0), (.slice none 0 0), (.slice none 0 0), (.slice none 0 0)] :: .box x5 27 [(.slice x4.1.A x4.1.n x4.1.c), (.slice x4.2.1.A x4.2.1.n x4.2.1.c), (.slice x4.2.2.1.A x4.2.2.1.n x4.2.2.1.c), (.slice x4.2.2.2.A x4.2.2.2.n x4.2.2.2.c)] :: .row x4.1.A x4.1.c 3 1 (ii v2) :: .row x4.2.1.A x4.2.1.c 3 1 (ii v3) :: .row x4.2.2.1.A x4.2.2.1.c 3 1 (ii v4) :: .row x4.2.2.2.A x4.2.2.2.c 3 1 (ii l2) :: F) (fun _ h => h) ?_
              refine j_env [(2, (pt x2)), (4, (pt x5)), (14, (.agg (List.toArray [(.slice x4.1.A x4.1.n x4.1.c), (.slice x4.2.1.A x4.2.1.n x4.2.1.c), (.slice x4.2.2.1.A x4.2.2.1.n x4.2.2.1.c), (.slice x4.2.2.2.A x4.2.2.2.n x4.2.2.2.c)]))), (16, (i6 v16))] ⟨rfl, rfl, rfl, rfl, trivial⟩ ?_
              exact hD7 x7
          refine d_join (σ := Unit) 4 #[true, false, false, false, false] (fun s => [(2, (pt x2)), (4, (pt x5)), (14, (.agg (List.toArray [(.slice x4.1.A x4.1.n x4.1.c), (.slice x4.2.1.A x4.2.1.n x4.2.1.c), (.slice x4.2.2.1.A x4.2.2.1.n x4.2.2.1.c), (.slice x4.2.2.2.A x4.2.2.2.n x4.2.2.2.c)])))]) (fun s => .box x2 27 [(.slice none 0 0), (.slice none 0 0), (.slice none 0 0), (.slice none 0 0)] :: .box x5 27 [(.slice x4.1.A x4.1.n x4.1.c), (.slice x4.2.1.A x4.2.1.n x4.2.1.c), (.slice x4.2.2.1.A x4.2.2.1.n x4.2.2.1.c), (.slice x4.2.2.2.A x4.2.2.2.n x4.2.2.2.c)] :: .row x4.1.A x4.1.c 3 1 (ii v2) :: .row x4.2.1.A x4.2.1.c 3 1 (ii v3) :: .row x4.2.2.1.A x4.2.2.1.c 3 1 (ii v4) :: .row x4.2.2.2.A x4.2.2.2.c 3 1 (ii l2) :: F) ?_ (fun hD1 => ?_)
          · rintro _
            show J _ _ [(2, (pt x2)), (4, (pt x5)), (14, (.agg (List.toArray [(.slice x4.1.A x4.1.n x4.1.c), (.slice x4.2.1.A x4.2.1.n x4.2.1.c), (.slice x4.2.2.1.A x4.2.2.1.n x4.2.2.1.c), (.slice x4.2.2.2.A x4.2.2.2.n x4.2.2.2.c)])))] _ (.box x2 27 [(.slice none 0 0), (.slice none 0 0), (.slice none 0 0), (.slice none 0 0)] :: .box x5 27 [(.slice x4.1.A x4.1.n x4.1.c), (.slice x4.2.1.A x4.2.1.n x4.2.1.c), (.slice x4.2.2.1.A x4.2.2.1.n x4.2.2.1.c), (.slice x4.2.2.2.A x4.2.2.2.n x4.2.2.2.c)] :: .row x4.1.A x4.1.c 3 1 (ii v2) :: .row x4.2.1.A x4.2.1.c 3 1 (ii v3) :: .row x4.2.2.1.A x4.2.2.1.c 3 1 (ii v4) :: .row x4.2.2.2.A x4.2.2.2.c 3 1 (ii l2) :: F)
            refine d_one 1 (by kernel_rfl) ?_
            · refine o_do rfl ((q_loadb_agg 1 rfl ag27 sz27 rfl rfl rfl rfl)).acts rfl rfl (fun _ w h => h.pick 6 [0, 2, 3, 4] rfl) (fun _ => ?_)
              refine j_rs (.box x2 27 [(.slice none 0 0), (.slice none 0 0), (.slice none 0 0), (.slice none 0 0)] :: .box x5 27 [(.slice x4.1.A x4.1.n x4.1.c), (.slice x4.2.1.A x4.2.1.n x4.2.1.c), (.slice x4.2.2.1.A x4.2.2.1.n x4.2.2.1.c), (.slice x4.2.2.2.A x4.2.2.2.n x4.2.2.2.c)] :: .row x4.1.A x4.1.c 3 1 (ii v2) :: .row x4.2.1.A x4.2.1.c 3 1 (ii v3) :: .row x4.2.2.1.A x4.2.2.1.c 3 1 (ii v4) :: .row x4.2.2.2.A x4.2.2.2.c 3 1 (ii l2) :: F) (fun _ h => h) ?_
              refine j_env [(2, (pt x2)), (4, (pt x5)), (14, (.agg (List.toArray [(.slice x4.1.A x4.1.n x4.1.c), (.slice x4.2.1.A x4.2.1.n x4.2.1.c), (.slice x4.2.2.1.A x4.2.2.1.n x4.2.2.1.c), (.slice x4.2.2.2.A x4.2.2.2.n x4.2.2.2.c)]))), (15, (.agg (List.toArray [(.slice x4.1.A x4.1.n x4.1.c), (.slice x4.2.1.A x4.2.1.n x4.2.1.c), (.slice x4.2.2.1.A x4.2.2.1.n x4.2.2.1.c), (.slice x4.2.2.2.A x4.2.2.2.n x4.2.2.2.c)])))] ⟨rfl, rfl, rfl, rfl, trivial⟩ ?_
              exact hD3 ()
          refine d_join (σ := Unit) 4 #[false, true, false, false, false] (fun s => [(2, (pt x2)), (4, (pt x5)), (15, (.agg (List.toArray [(.slice x4.1.A x4.1.n x4.1.c), (.slice x4.2.1.A x4.2.1.n x4.2.1.c), (.slice x4.2.2.1.A x4.2.2.1.n x4.2.2.1.c), (.slice x4.2.2.2.A x4.2.2.2.n x4.2.2.2.c)])))]) (fun s => .box x2 27 [(.slice none 0 0), (.slice none 0 0), (.slice none 0 0), (.slice none 0 0)] :: .box x5 27 [(.slice x4.1.A x4.1.n x4.1.c), (.slice x4.2.1.A x4.2.1.n x4.2.1.c), (.slice x4.2.2.1.A x4.2.2.1.n x4.2.2.1.c), (.slice x4.2.2.2.A x4.2.2.2.n x4.2.2.2.c)] :: .row x4.1.A x4.1.c 3 1 (ii v2) :: .row x4.2.1.A x4.2.1.c 3 1 (ii v3) :: .row x4.2.2.1.A x4.2.2.1.c 3 1 (ii v4) :: .row x4.2.2.2.A x4.2.2.2.c 3 1 (ii l2) :: F) ?_ (fun hD2 => ?_)
          · rintro _
            show J _ _ [(2, (pt x2)), (4, (pt x5)), (15, (.agg (List.toArray [(.slice x4.1.A x4.1.n x4.1.c), (.slice x4.2.1.A x4.2.1.n x4.2.1.c), (.slice x4.2.2.1.A x4.2.2.1.n x4.2.2.1.c), (.slice x4.2.2.2.A x4.2.2.2.n x4.2.2.2.c)])))] _ (.box x2 27 [(.slice none 0 0), (.slice none 0 0), (.slice none 0 0), (.slice none 0 0)] :: .box x5 27 [(.slice x4.1.A x4.1.n x4.1.c), (.slice x4.2.1.A x4.2.1.n x4.2.1.c), (.slice x4.2.2.1.A x4.2.2.1.n x4.2.2.1.c), (.slice x4.2.2.2.A x4.2.2.2.n x4.2.2.2.c)] :: .row x4.1.A x4.1.c 3 1 (ii v2) :: .row x4.2.1.A x4.2.1.c 3 1 (ii v3) :: .row x4.2.2.1.A x4.2.2.1.c 3 1 (ii v4) :: .row x4.2.2.2.A x4.2.2.2.c 3 1 (ii l2) :: F)
            refine d_two 0 2 (by kernel_rfl) ?_ ?_
            · refine o_do rfl ((q_loadb_agg 1 rfl ag27 sz27 rfl rfl rfl rfl)).acts rfl rfl (fun _ w h => h.pick 6 [0, 2, 3, 4] rfl) (fun _ => ?_)
              refine j_rs (.box x2 27 [(.slice none 0 0), (.slice none 0 0), (.slice none 0 0), (.slice none 0 0)] :: .box x5 27 [(.slice x4.1.A x4.1.n x4.1.c), (.slice x4.2.1.A x4.2.1.n x4.2.1.c), (.slice x4.2.2.1.A x4.2.2.1.n x4.2.2.1.c), (.slice x4.2.2.2.A x4.2.2.2.n x4.2.2.2.c)] :: .row x4.1.A x4.1.c 3 1 (ii v2) :: .row x4.2.1.A x4.2.1.c 3 1 (ii v3) :: .row x4.2.2.1.A x4.2.2.1.c 3 1 (ii v4) :: .row x4.2.2.2.A x4.2.2.2.c 3 1 (ii l2) :: F) (fun _ h => h) ?_
              refine j_env [(2, (pt x2)), (4, (pt x5)), (14, (.agg (List.toArray [(.slice x4.1.A x4.1.n x4.1.c), (.slice x4.2.1.A x4.2.1.n x4.2.1.c), (.slice x4.2.2.1.A x4.2.2.1.n x4.2.2.1.c), (.slice x4.2.2.2.A x4.2.2.2.n x4.2.2.2.c)]))), (15, (.agg (List.toArray [(.slice x4.1.A x4.1.n x4.1.c), (.slice x4.2.1.A x4.2.1.n x4.2.1.c), (.slice x4.2.2.1.A x4.2.2.1.n x4.2.2.1.c), (.slice x4.2.2.2.A x4.2.2.2.n x4.2.2.2.c)])))] ⟨rfl, rfl, rfl, rfl, trivial⟩ ?_
              exact hD3 ()
            · refine o_do rfl (a_call ok67 rfl rfl rfl rfl (fun w hm => spec_l3First.calls K x4.1.A x4.1.n x4.1.c x4.2.1.A x4.2.1.n x4.2.1.c x4.2.2.1.A x4.2.2.1.n x4.2.2.1.c l2 x4.2.2.2.A x4.2.2.2.n x4.2.2.2.c (1:Int) hm q2 (Rd.row 5 rfl) hb13)) rfl rfl (fun x7 w h => h.pick 6 [0, 2, 3, 4] rfl) (fun x7 => ?_)
              refine j_rs (.box x2 27 [(.slice none 0 0), (.slice none 0 0), (.slice none 0 0), (.slice none 0 0)] :: .box x5 27 [(.slice x4.1.A x4.1.n x4.1.c), (.slice x4.2.1.A x4.2.1.n x4.2.1.c), (.slice x4.2.2.1.A x4.2.2.1.n x4.2.2.1.c), (.slice x4.2.2.2.A x4.2.2.2.n x4.2.2.2.c)] :: .row x4.1.A x4.1.c 3 1 (ii v2) :: .row x4.2.1.A x4.2.1.c 3 1 (ii v3) :: .row x4.2.2.1.A x4.2.2.1.c 3 1 (ii v4) :: .row x4.2.2.2.A x4.2.2.2.c 3 1 (ii l2) :: F) (fun _ h => h) ?_
              refine j_env [(2, (pt x2)), (4, (pt x5)), (16, (i6 v16))] ⟨rfl, rfl, rfl, trivial⟩ ?_
              exact hD6 x7
          refine d_two 0 1 (by kernel_rfl) ?_ ?_
          · refine o_do rfl ((q_loadb_agg 1 rfl ag27 sz27 rfl rfl rfl rfl)).acts rfl rfl (fun _ w h => h.pick 6 [0, 2, 3, 4] rfl) (fun _ => ?_)
            refine j_rs (.box x2 27 [(.slice none 0 0), (.slice none 0 0), (.slice none 0 0), (.slice none 0 0)] :: .box x5 27 [(.slice x4.1.A x4.1.n x4.1.c), (.slice x4.2.1.A x4.2.1.n x4.2.1.c), (.slice x4.2.2.1.A x4.2.2.1.n x4.2.2.1.c), (.slice x4.2.2.2.A x4.2.2.2.n x4.2.2.2.c)] :: .row x4.1.A x4.1.c 3 1 (ii v2) :: .row x4.2.1.A x4.2.1.c 3 1 (ii v3) :: .row x4.2.2.1.A x4.2.2.1.c 3 1 (ii v4) :: .row x4.2.2.2.A x4.2.2.2.c 3 1 (ii l2) :: F) (fun _ h => h) ?_
            refine j_env [(2, (pt x2)), (4, (pt x5)), (14, (.agg (List.toArray [(.slice x4.1.A x4.1.n x4.1.c), (.slice x4.2.1.A x4.2.1.n x4.2.1.c), (.slice x4.2.2.1.A x4.2.2.1.n x4.2.2.1.c), (.slice x4.2.2.2.A x4.2.2.2.n x4.2.2.2.c)])))] ⟨rfl, rfl, rfl, trivial⟩ ?_
            exact hD1 ()
          · refine o_do rfl ((q_loadb_agg 1 rfl ag27 sz27 rfl rfl rfl rfl)).acts rfl rfl (fun _ w h => h.pick 6 [0, 2, 3, 4] rfl) (fun _ => ?_)
            refine j_rs (.box x2 27 [(.slice none 0 0), (.slice none 0 0), (.slice none 0 0), (.slice none 0 0)] :: .box x5 27 [(.slice x4.1.A x4.1.n x4.1.c), (.slice x4.2.1.A x4.2.1.n x4.2.1.c), (.slice x4.2.2.1.A x4.2.2.1.n x4.2.2.1.c), (.slice x4.2.2.2.A x4.2.2.2.n x4.2.2.2.c)] :: .row x4.1.A x4.1.c 3 1 (ii v2) :: .row x4.2.1.A x4.2.1.c 3 1 (ii v3) :: .row x4.2.2.1.A x4.2.2.1.c 3 1 (ii v4) :: .row x4.2.2.2.A x4.2.2.2.c 3 1 (ii l2) :: F) (fun _ h => h) ?_
            refine j_env [(2, (pt x2)), (4, (pt x5)), (15, (.agg (List.toArray [(.slice x4.1.A x4.1.n x4.1.c), (.slice x4.2.1.A x4.2.1.n x4.2.1.c), (.slice x4.2.2.1.A x4.2.2.1.n x4.2.2.1.c), (.slice x4.2.2.2.A x4.2.2.2.n x4.2.2.2.c)])))] ⟨rfl, rfl, rfl, trivial⟩ ?_
            exact hD2 ()
        · refine j_false rfl (decide_eq_false c5) ?_
          refine j_exit ?_
          refine j_then_exit ?_
          refine j_then_exit ?_
          refine j_in_exit ?_
          refine j_then ?_
          exact j_meet l2 ⟨h, q2⟩ (fun a he => he.sub ⟨rfl, rfl, trivial⟩) (fun w h => h)
    · rintro l3 ⟨h, q3⟩
      subst hκ0
      show J _ _ [(2, (pt x2)), (4, (pt x5))] _ (.box x2 27 [(.slice none 0 0), (.slice none 0 0), (.slice none 0 0), (.slice none 0 0)] :: .box x5 27 [(.slice x4.1.A x4.1.n x4.1.c), (.slice x4.2.1.A x4.2.1.n x4.2.1.c), (.slice x4.2.2.1.A x4.2.2.1.n x4.2.2.1.c), (.slice x4.2.2.2.A x4.2.2.2.n x4.2.2.2.c)] :: .row x4.1.A x4.1.c 3 1 (ii v2) :: .row x4.2.1.A x4.2.1.c 3 1 (ii v3) :: .row x4.2.2.1.A x4.2.2.1.c 3 1 (ii v4) :: .row x4.2.2.2.A x4.2.2.2.c 3 1 (ii l3) :: F)
      refine j_then ?_
      refine j_seq ?_
      refine j_region ?_
      refine r_q (q_loadb_agg 1 rfl ag27 sz27 rfl rfl rfl rfl) rfl rfl ?_
      refine r_do (a_storeb 0 rfl sz27 rfl rfl rfl rfl (Nat.le_of_ble_eq_true rfl) rfl) rfl rfl (fun _ => ?_)
      refine j_b0 [(.slice x4.1.A x4.1.n x4.1.c), (.slice x4.2.1.A x4.2.1.n x4.2.1.c), (.slice x4.2.2.1.A x4.2.2.1.n x4.2.2.1.c), (.slice x4.2.2.2.A x4.2.2.2.n x4.2.2.2.c)] rfl ?_
      refine r_q (q_assign rfl rfl) rfl rfl ?_
      refine r_nil ?_
      refine j_then ?_
      refine j_ret ?_
      cases h
      exact j_return rfl (ResOf.cell 0 rfl rfl ag27 sz27 (ResOf.tmp rfl ResOf.nil)) rfl (fun w h => ⟨(⟨x4.1.A, x4.1.n, x4.1.c, x4.1.h⟩, ⟨x4.2.1.A, x4.2.1.n, x4.2.1.c, x4.2.1.h⟩, ⟨x4.2.2.1.A, x4.2.2.1.n, x4.2.2.1.c, x4.2.2.1.h⟩, ⟨x4.2.2.2.A, x4.2.2.2.n, x4.2.2.2.c, q3⟩), rfl, (h.drop 2)⟩)
  · refine j_true rfl (not_t (var_f c1)) ?_
    refine j_seq ?_
    refine j_region ?_
    refine r_q (q_build (cs := [(.slice none 0 0), (.slice none 0 0), (.slice none 0 0), (.slice none 0 0)]) zr27 pl27 rfl rfl rfl rfl) rfl rfl ?_
    refine r_do (a_storeb 0 rfl sz27 rfl rfl rfl rfl (Nat.le_of_ble_eq_true rfl) rfl) rfl rfl (fun _ => ?_)
    refine j_b0 [(.slice none 0 0), (.slice none 0 0), (.slice none 0 0), (.slice none 0 0)] rfl ?_
    refine r_q (q_assign rfl rfl) rfl rfl ?_
    refine r_nil ?_
    refine j_then ?_
    refine j_ret ?_
    refine j_then_ret ?_
    refine j_nil 3 1 ?_
    refine j_nil 3 1 ?_
    refine j_nil 3 1 ?_
    refine j_nil 3 1 ?_
    cases h
    exact j_return rfl (ResOf.cell 4 rfl rfl ag27 sz27 (ResOf.tmp rfl ResOf.nil)) rfl (fun w h => ⟨(⟨none, 0, 0, rfl⟩, ⟨none, 0, 0, rfl⟩, ⟨none, 0, 0, rfl⟩, ⟨none, 0, 0, rfl⟩), rfl, h.pick 6 [3, 2, 1, 0] rfl⟩)

theorem impl_MarkAll.calls (K : Nat) (a0_0 : List Int) (a0_0_A : Option Addr) (a0_0_n a0_0_c : Nat) (a0_1 : List Int) (a0_1_A : Option Addr) (a0_1_n a0_1_c : Nat) (a0_2 : List Int) (a0_2_A : Option Addr) (a0_2_n a0_2_c : Nat) (a0_3 : List Int) (a0_3_A : Option Addr) (a0_3_n a0_3_c : Nat) {w0 w : World} {F : List Res} {r1 : List Int} {r2 : List Int} {r3 : List Int} {r4 : List Int} {r5 : Bool} (hm : Mem w0 (F) w) (a0_0_h : a0_0.length = a0_0_n) (a0_0_R : Rd w0 F a0_0_A (ii a0_0)) (a0_1_h : a0_1.length = a0_1_n) (a0_1_R : Rd w0 F a0_1_A (ii a0_1)) (a0_2_h : a0_2.length = a0_2_n) (a0_2_R : Rd w0 F a0_2_A (ii a0_2)) (a0_3_h : a0_3.length = a0_3_n) (a0_3_R : Rd w0 F a0_3_A (ii a0_3)) (h : impl_MarkAll.f K a0_0 a0_1 a0_2 a0_3 = some (r1, r2, r3, r4, r5)) :
    Calls Try.prog 28 (List.toArray [.agg (List.toArray [.slice a0_0_A a0_0_n a0_0_c, .slice a0_1_A a0_1_n a0_1_c, .slice a0_2_A a0_2_n a0_2_c, .slice a0_3_A a0_3_n a0_3_c])]) w fun e w' => ∃ x : (Sl r1.length) × (Sl r2.length) × (Sl r3.length) × (Sl r4.length), e = .returned (.tuple (List.toArray [.agg (List.toArray [.slice x.1.A x.1.n x.1.c, .slice x.2.1.A x.2.1.n x.2.1.c, .slice x.2.2.1.A x.2.2.1.n x.2.2.1.c, .slice x.2.2.2.A x.2.2.2.n x.2.2.2.c]), .bool r5])) ∧ Mem w0 (.row x.1.A x.1.c 3 1 (ii r1) :: .row x.2.1.A x.2.1.c 3 1 (ii r2) :: .row x.2.2.1.A x.2.2.1.c 3 1 (ii r3) :: .row x.2.2.2.A x.2.2.2.c 3 1 (ii r4) :: F) w' := by
  unfold impl_MarkAll.f at h
  refine calls_of_J (n := 16) Try.func28 rfl rfl rfl hm ?_
  refine j_seq ?_
  refine j_region ?_
  refine r_do (a_box rfl rfl) rfl rfl (fun x1 => ?_)
  refine r_do (a_alloc zr27 rfl) rfl rfl (fun x2 => ?_)
  refine r_q (q_assign rfl rfl) rfl rfl ?_
  refine r_nil ?_
  refine j_then ?_
  refine j_seq ?_
  refine j_seq ?_
  refine j_region ?_
  refine r_q (q_loadb_agg 1 rfl ag27 sz27 rfl rfl rfl rfl) rfl rfl ?_
  obtain ⟨v1, hb1, h⟩ := of_b1 h
  refine r_do (a_call ok30 rfl rfl rfl rfl (fun w hm => impl_ColoredValid.calls K a0_0 a0_0_A a0_0_n a0_0_c a0_1 a0_1_A a0_1_n a0_1_c a0_2 a0_2_A a0_2_n a0_2_c a0_3 a0_3_A a0_3_n a0_3_c hm a0_0_h (Rd.drop 2 a0_0_R) a0_1_h (Rd.drop 2 a0_1_R) a0_2_h (Rd.drop 2 a0_2_R) a0_3_h (Rd.drop 2 a0_3_R) hb1)) rfl rfl (fun x3 => ?_)
  refine r_q (q_not rfl rfl) rfl rfl ?_
  refine r_nil ?_
  refine j_then ?_
  rcases of_if h with ⟨c1, h⟩ | ⟨c1, h⟩
  · refine j_false rfl (not_f c1) ?_
    refine j_skip ?_
    refine j_then ?_
    refine j_seq ?_
    refine j_region ?_
    refine r_q (q_loadb_agg 1 rfl ag27 sz27 rfl rfl rfl rfl) rfl rfl ?_
    obtain ⟨v2, v3, v4, v5, hb2, h⟩ := of_b4 h
    refine r_do (a_call ok57 rfl rfl rfl rfl (fun w hm => impl_fresh.calls K a0_0 a0_0_A a0_0_n a0_0_c a0_1 a0_1_A a0_1_n a0_1_c a0_2 a0_2_A a0_2_n a0_2_c a0_3 a0_3_A a0_3_n a0_3_c hm a0_0_h (Rd.drop 2 a0_0_R) a0_1_h (Rd.drop 2 a0_1_R) a0_2_h (Rd.drop 2 a0_2_R) a0_3_h (Rd.drop 2 a0_3_R) hb2)) rfl rfl (fun x4 => ?_)
    refine r_do (a_storeb 5 rfl sz27 rfl rfl rfl rfl (Nat.le_of_ble_eq_true rfl) rfl) rfl rfl (fun _ => ?_)
    refine j_b5 [(.slice x4.1.A x4.1.n x4.1.c), (.slice x4.2.1.A x4.2.1.n x4.2.1.c), (.slice x4.2.2.1.A x4.2.2.1.n x4.2.2.1.c), (.slice x4.2.2.2.A x4.2.2.2.n x4.2.2.2.c)] rfl ?_
    refine r_nil ?_
    refine j_then ?_
    refine j_seq ?_
    obtain ⟨κ0, h, hκ0⟩ := ex_k (g := fun κ => impl_MarkAll.loop0 K κ v2 v3 K v5 = some (r1, r2, r3, r4, r5)) h
    refine j_cut (σ := (List Int)) (fun s => [(1, (pt x1)), (2, (pt x2))]) (fun s => .box x1 27 [(.slice x4.1.A x4.1.n x4.1.c), (.slice x4.2.1.A x4.2.1.n x4.2.1.c), (.slice x4.2.2.1.A x4.2.2.1.n x4.2.2.1.c), (.slice x4.2.2.2.A x4.2.2.2.n x4.2.2.2.c)] :: .box x2 27 [(.slice none 0 0), (.slice none 0 0), (.slice none 0 0), (.slice none 0 0)] :: .row x4.1.A x4.1.c 3 1 (ii v2) :: .row x4.2.1.A x4.2.1.c 3 1 (ii v3) :: .row x4.2.2.1.A x4.2.2.1.c 3 1 (ii v4) :: .row x4.2.2.2.A x4.2.2.2.c 3 1 (ii s) :: F) (fun s => κ0 s = some (r1, r2, r3, r4, r5) ∧ (s.length = x4.2.2.2.n)) ?_ ?_
    · refine j_block ?_
      refine j_loop (σ := (List Int)) (fun s => [(1, (pt x1)), (2, (pt x2))]) (fun s => .box x1 27 [(.slice x4.1.A x4.1.n x4.1.c), (.slice x4.2.1.A x4.2.1.n x4.2.1.c), (.slice x4.2.2.1.A x4.2.2.1.n x4.2.2.1.c), (.slice x4.2.2.2.A x4.2.2.2.n x4.2.2.2.c)] :: .box x2 27 [(.slice none 0 0), (.slice none 0 0), (.slice none 0 0), (.slice none 0 0)] :: .row x4.1.A x4.1.c 3 1 (ii v2) :: .row x4.2.1.A x4.2.1.c 3 1 (ii v3) :: .row x4.2.2.1.A x4.2.2.1.c 3 1 (ii v4) :: .row x4.2.2.2.A x4.2.2.2.c 3 1 (ii s) :: F) (fun m s => impl_MarkAll.loop0 K κ0 v2 v3 m s = some (r1, r2, r3, r4, r5) ∧ (s.length = x4.2.2.2.n)) K v5 ⟨h, x4.2.2.2.h⟩ (fun a he => he.sub ⟨rfl, rfl, trivial⟩) (fun w h => h.pick 6 [5, 4, 0, 1, 2, 3] rfl) ?_
      rintro m l2 ⟨h, q2⟩
      cases m with
      | zero => exact absurd h (by rw [impl_MarkAll.loop0]; exact nofun)
      | succ m =>
        rw [impl_MarkAll.loop0] at h
        show J _ _ [(1, (pt x1)), (2, (pt x2))] _ (.box x1 27 [(.slice x4.1.A x4.1.n x4.1.c), (.slice x4.2.1.A x4.2.1.n x4.2.1.c), (.slice x4.2.2.1.A x4.2.2.1.n x4.2.2.1.c), (.slice x4.2.2.2.A x4.2.2.2.n x4.2.2.2.c)] :: .box x2 27 [(.slice none 0 0), (.slice none 0 0), (.slice none 0 0), (.slice none 0 0)] :: .row x4.1.A x4.1.c 3 1 (ii v2) :: .row x4.2.1.A x4.2.1.c 3 1 (ii v3) :: .row x4.2.2.1.A x4.2.2.1.c 3 1 (ii v4) :: .row x4.2.2.2.A x4.2.2.2.c 3 1 (ii l2) :: F)
        refine j_seq ?_
        refine j_seq ?_
        refine j_region ?_
        refine r_q (q_fieldAddr fi27_0 sz25 rfl rfl rfl) rfl rfl ?_
        refine r_q (q_loadb_agg 0 rfl ag25 sz25 rfl rfl rfl rfl) rfl rfl ?_
        refine r_q (q_fieldAddr fi27_1 sz23 rfl rfl rfl) rfl rfl ?_
        refine r_q (q_loadb 0 rfl ag23 rfl rfl rfl) rfl rfl ?_
        obtain ⟨v12, v13, hb6, h⟩ := of_b2 h
        refine j_rs (.row x4.2.2.2.A x4.2.2.2.c 3 1 (ii l2) :: .box x1 27 [(.slice x4.1.A x4.1.n x4.1.c), (.slice x4.2.1.A x4.2.1.n x4.2.1.c), (.slice x4.2.2.1.A x4.2.2.1.n x4.2.2.1.c), (.slice x4.2.2.2.A x4.2.2.2.n x4.2.2.2.c)] :: .box x2 27 [(.slice none 0 0), (.slice none 0 0), (.slice none 0 0), (.slice none 0 0)] :: .row x4.1.A x4.1.c 3 1 (ii v2) :: .row x4.2.1.A x4.2.1.c 3 1 (ii v3) :: .row x4.2.2.1.A x4.2.2.1.c 3 1 (ii v4) :: F) (fun _ h => h.pick 6 [5, 0, 1, 2, 3, 4] rfl) ?_
        refine r_do (a_call ok71 rfl rfl rfl rfl (fun w hm => impl_look.calls K v2 x4.1.A x4.1.n x4.1.c v3 x4.2.1.A x4.2.1.n x4.2.1.c x4.2.2.1.A x4.2.2.1.n x4.2.2.1.c l2 x4.2.2.2.A x4.2.2.2.n x4.2.2.2.c hm x4.1.h (Rd.row 2 rfl) x4.2.1.h (Rd.row 3 rfl) q2 hb6)) rfl rfl (fun x5 => ?_)
        refine r_nil ?_
        refine j_then ?_
        rcases of_if h with ⟨c5, h⟩ | ⟨c5, h⟩
        · refine j_true rfl c5 ?_
          refine j_skip ?_
          refine j_then ?_
          refine j_block ?_
          refine j_skip ?_
          refine j_in ?_
          refine j_then ?_
          exact j_again m v13 (Nat.lt_succ_self m) ⟨h, (x5.h.trans q2)⟩ (fun a he => he.sub ⟨rfl, rfl, trivial⟩) (fun w h => h.pick 6 [1, 2, 3, 4, 5, 0] rfl)
        · refine j_false rfl (var_f c5) ?_
          refine j_exit ?_
          refine j_then_exit ?_
          refine j_then_exit ?_
          refine j_in_exit ?_
          refine j_then ?_
          exact j_meet v13 ⟨h, (x5.h.trans q2)⟩ (fun a he => he.sub ⟨rfl, rfl, trivial⟩) (fun w h => h.pick 6 [1, 2, 3, 4, 5, 0] rfl)
    · rintro l3 ⟨h, q3⟩
      subst hκ0
      show J _ _ [(1, (pt x1)), (2, (pt x2))] _ (.box x1 27 [(.slice x4.1.A x4.1.n x4.1.c), (.slice x4.2.1.A x4.2.1.n x4.2.1.c), (.slice x4.2.2.1.A x4.2.2.1.n x4.2.2.1.c), (.slice x4.2.2.2.A x4.2.2.2.n x4.2.2.2.c)] :: .box x2 27 [(.slice none 0 0), (.slice none 0 0), (.slice none 0 0), (.slice none 0 0)] :: .row x4.1.A x4.1.c 3 1 (ii v2) :: .row x4.2.1.A x4.2.1.c 3 1 (ii v3) :: .row x4.2.2.1.A x4.2.2.1.c 3 1 (ii v4) :: .row x4.2.2.2.A x4.2.2.2.c 3 1 (ii l3) :: F)
      refine j_then ?_
      refine j_seq ?_
      refine j_region ?_
      refine r_q (q_loadb_agg 0 rfl ag27 sz27 rfl rfl rfl rfl) rfl rfl ?_
      refine r_do (a_storeb 1 rfl sz27 rfl rfl rfl rfl (Nat.le_of_ble_eq_true rfl) rfl) rfl rfl (fun _ => ?_)
      refine j_b1 [(.slice x4.1.A x4.1.n x4.1.c), (.slice x4.2.1.A x4.2.1.n x4.2.1.c), (.slice x4.2.2.1.A x4.2.2.1.n x4.2.2.1.c), (.slice x4.2.2.2.A x4.2.2.2.n x4.2.2.2.c)] rfl ?_
      refine r_q (q_assign rfl rfl) rfl rfl ?_
      refine r_nil ?_
      refine j_then ?_
      refine j_ret ?_
      cases h
      exact j_return rfl (ResOf.cell 1 rfl rfl ag27 sz27 (ResOf.tmp rfl ResOf.nil)) rfl (fun w h => ⟨(⟨x4.1.A, x4.1.n, x4.1.c, x4.1.h⟩, ⟨x4.2.1.A, x4.2.1.n, x4.2.1.c, x4.2.1.h⟩, ⟨x4.2.2.1.A, x4.2.2.1.n, x4.2.2.1.c, x4.2.2.1.h⟩, ⟨x4.2.2.2.A, x4.2.2.2.n, x4.2.2.2.c, q3⟩), rfl, (h.drop 2)⟩)
  · refine j_true rfl (not_t (var_f c1)) ?_
    refine j_seq ?_
    refine j_region ?_
    refine r_q (q_build (cs := [(.slice none 0 0), (.slice none 0 0), (.slice none 0 0), (.slice none 0 0)]) zr27 pl27 rfl rfl rfl rfl) rfl rfl ?_
    refine r_do (a_storeb 0 rfl sz27 rfl rfl rfl rfl (Nat.le_of_ble_eq_true rfl) rfl) rfl rfl (fun _ => ?_)
    refine j_b0 [(.slice none 0 0), (.slice none 0 0), (.slice none 0 0), (.slice none 0 0)] rfl ?_
    refine r_q (q_assign rfl rfl) rfl rfl ?_
    refine r_nil ?_
    refine j_then ?_
    refine j_ret ?_
    refine j_then_ret ?_
    refine j_nil 3 1 ?_
    refine j_nil 3 1 ?_
    refine j_nil 3 1 ?_
    refine j_nil 3 1 ?_
    cases h
    exact j_return rfl (ResOf.cell 4 rfl rfl ag27 sz27 (ResOf.tmp rfl ResOf.nil)) rfl (fun w h => ⟨(⟨none, 0, 0, rfl⟩, ⟨none, 0, 0, rfl⟩, ⟨none, 0, 0, rfl⟩, ⟨none, 0, 0, rfl⟩), rfl, h.pick 6 [3, 2, 1, 0] rfl⟩)

end Go.Proofs.Ytcdcikmphonkfaa.F
