/- The program computes these pure functions, printed by the generator of wip/gen. -/
import Derived.Test.YtnfaiojmabolmaaFa
import Derived.Test.YtnfaiojmabolmaaFg
import Derived.Test.YtnfaiojmabolmaaFb
import Derived.Test.YtnfaiojmabolmaaC0
namespace Go.Proofs.Ytnfaiojmabolmaa.F
open Go Go.RowKit Go.Proofs.Ytnfaiojmabolmaa.S
set_option linter.unusedVariables false
set_option maxRecDepth 100000
theorem spec_l1Wrong.calls (K : Nat) (a0_g : Nat) (a0_0 : List Int) (a0_0_A : Option Addr) (a0_0_n a0_0_c : Nat) (a0_1 : Int) (a1_0 : List Int) (a1_0_A : Option Addr) (a1_0_n a1_0_c : Nat) (a1_1 : List Int) (a1_1_A : Option Addr) (a1_1_n a1_1_c : Nat) (a1_2 : List Int) (a1_2_A : Option Addr) (a1_2_n a1_2_c : Nat) {w0 w : World} {F : List Res} {r1 : List Int} {r2 : List Int} {r3 : List Int} {r4 : Int} (hm : Mem w0 (.box a0_g 50 [.slice a0_0_A a0_0_n a0_0_c, i6 a0_1] :: F) w) (a0_0_h : a0_0.length = a0_0_n) (a0_0_R : Rd w0 F a0_0_A (ints .u8 a0_0)) (a1_0_h : a1_0.length = a1_0_n) (a1_0_R : Rd w0 F a1_0_A (ii a1_0)) (a1_1_h : a1_1.length = a1_1_n) (a1_1_R : Rd w0 F a1_1_A (ii a1_1)) (a1_2_h : a1_2.length = a1_2_n) (a1_2_R : Rd w0 F a1_2_A (ii a1_2)) (h : spec_l1Wrong.f K a0_0 a0_1 a1_0 a1_1 a1_2 = some (r1, r2, r3, r4)) :
    Calls Try.prog 27 (List.toArray [pt a0_g, .agg (List.toArray [.slice a1_0_A a1_0_n a1_0_c, .slice a1_1_A a1_1_n a1_1_c, .slice a1_2_A a1_2_n a1_2_c])]) w fun e w' => ∃ x : (Sl r1.length) × (Sl r2.length) × (Sl r3.length), e = .returned (.agg (List.toArray [.slice x.1.A x.1.n x.1.c, .slice x.2.1.A x.2.1.n x.2.1.c, .slice x.2.2.A x.2.2.n x.2.2.c])) ∧ Mem w0 (.row x.1.A x.1.c 3 1 (ii r1) :: .row x.2.1.A x.2.1.c 3 1 (ii r2) :: .row x.2.2.A x.2.2.c 3 1 (ii r3) :: .box a0_g 50 [.slice a0_0_A a0_0_n a0_0_c, i6 r4] :: F) w' := by
  unfold spec_l1Wrong.f at h
  refine calls_of_J (n := 45) Try.func27 rfl rfl rfl hm ?_
  refine j_seq ?_
  refine j_region ?_
  refine r_do (a_box rfl rfl) rfl rfl (fun x1 => ?_)
  refine r_do (a_alloc zr25 rfl) rfl rfl (fun x2 => ?_)
  refine r_nil ?_
  refine j_then ?_
  refine j_seq ?_
  refine j_region ?_
  refine r_q (q_loadb_agg 1 rfl ag25 sz25 rfl rfl rfl rfl) rfl rfl ?_
  obtain ⟨v1, v2, v3, hb1, h⟩ := of_b3 h
  refine r_do (a_call ok39 rfl rfl rfl rfl (fun w hm => spec_l1Copy.calls K a1_0 a1_0_A a1_0_n a1_0_c a1_1 a1_1_A a1_1_n a1_1_c a1_2 a1_2_A a1_2_n a1_2_c hm a1_0_h (Rd.drop 3 a1_0_R) a1_1_h (Rd.drop 3 a1_1_R) a1_2_h (Rd.drop 3 a1_2_R) hb1)) rfl rfl (fun x3 => ?_)
  refine r_do (a_alloc zr25 rfl) rfl rfl (fun x4 => ?_)
  refine r_do (a_storeb 0 rfl sz25 rfl rfl rfl rfl (Nat.le_of_ble_eq_true rfl) rfl) rfl rfl (fun _ => ?_)
  refine j_b0 [(.slice x3.1.A x3.1.n x3.1.c), (.slice x3.2.1.A x3.2.1.n x3.2.1.c), (.slice x3.2.2.A x3.2.2.n x3.2.2.c)] rfl ?_
  refine r_nil ?_
  refine j_then ?_
  refine j_seq ?_
  refine j_seq ?_
  refine j_region ?_
  refine r_q (q_move rfl rfl) rfl rfl ?_
  obtain ⟨v4, v5, hb2, h⟩ := of_b2 h
  refine j_rs (.box a0_g 50 [(.slice a0_0_A a0_0_n a0_0_c), (i6 a0_1)] :: .box x4 25 [(.slice x3.1.A x3.1.n x3.1.c), (.slice x3.2.1.A x3.2.1.n x3.2.1.c), (.slice x3.2.2.A x3.2.2.n x3.2.2.c)] :: .row x3.1.A x3.1.c 3 1 (ii v1) :: .row x3.2.1.A x3.2.1.c 3 1 (ii v2) :: .row x3.2.2.A x3.2.2.c 3 1 (ii v3) :: .box x2 25 [(.slice none 0 0), (.slice none 0 0), (.slice none 0 0)] :: .box x1 25 [(.slice a1_0_A a1_0_n a1_0_c), (.slice a1_1_A a1_1_n a1_1_c), (.slice a1_2_A a1_2_n a1_2_c)] :: F) (fun _ h => h.pick 7 [6, 0, 1, 2, 3, 4, 5] rfl) ?_
  refine r_do (a_call ok25 rfl rfl rfl rfl (fun w hm => spec_l13Rd_pick.calls K a0_g a0_0 a0_0_A a0_0_n a0_0_c a0_1 (20:Int) hm a0_0_h (Rd.drop 6 a0_0_R) hb2)) rfl rfl (fun x5 => ?_)
  refine r_nil ?_
  refine j_then ?_
  refine j_block ?_
  refine j_seq ?_
  refine j_region ?_
  refine r_q (q_eql rfl rfl rfl) rfl rfl ?_
  refine r_q (q_assign rfl rfl) rfl rfl ?_
  refine r_nil ?_
  refine j_then ?_
  rcases of_if h with ⟨c1, h⟩ | ⟨c1, h⟩
  · refine j_true rfl (beq_t c1) ?_
    obtain ⟨v6, v7, hb3, h⟩ := of_b2 h
    obtain ⟨v8, v9, hb4, h⟩ := of_b2 h
    obtain ⟨c2, h⟩ := of_guard h
    refine j_draw (.box x4 25 [(.slice x3.1.A x3.1.n x3.1.c), (.slice x3.2.1.A x3.2.1.n x3.2.1.c), (.slice x3.2.2.A x3.2.2.n x3.2.2.c)] :: .row x3.2.1.A x3.2.1.c 3 1 (ii v2) :: .row x3.2.2.A x3.2.2.c 3 1 (ii v3) :: .box x2 25 [(.slice none 0 0), (.slice none 0 0), (.slice none 0 0)] :: .box x1 25 [(.slice a1_0_A a1_0_n a1_0_c), (.slice a1_1_A a1_1_n a1_1_c), (.slice a1_2_A a1_2_n a1_2_c)] :: F) 12 follows_any rfl ?_
    refine d_take 0 rfl (q_fieldAddr fi25_0 sz23 rfl rfl rfl) rfl rfl (by kernel_rfl) (by kernel_rfl) (by kernel_rfl) (fun w h => h.pick 7 [1, 3, 4, 5, 6] rfl) ?_
    refine d_take 1 rfl (q_loadb 0 rfl ag23 rfl rfl rfl) rfl rfl (by kernel_rfl) (by kernel_rfl) (by kernel_rfl) (fun w h => h.pick 7 [1, 3, 4, 5, 6] rfl) ?_
    refine d_take 2 rfl (q_move rfl rfl) rfl rfl (by kernel_rfl) (by kernel_rfl) (by kernel_rfl) (fun w h => h.pick 7 [1, 3, 4, 5, 6] rfl) ?_
    refine d_take 3 rfl (q_fieldAddr fi25_0 sz23 rfl rfl rfl) rfl rfl (by kernel_rfl) (by kernel_rfl) (by kernel_rfl) (fun w h => h.pick 7 [1, 3, 4, 5, 6] rfl) ?_
    refine d_take 4 rfl (q_loadb 0 rfl ag23 rfl rfl rfl) rfl rfl (by kernel_rfl) (by kernel_rfl) (by kernel_rfl) (fun w h => h.pick 7 [1, 3, 4, 5, 6] rfl) ?_
    refine d_take 5 rfl (q_lenX v1 x3.1.h un23 rfl rfl rfl rfl rfl) rfl rfl (by kernel_rfl) (by kernel_rfl) (by kernel_rfl) (fun w h => h.pick 7 [1, 3, 4, 5, 6] rfl) ?_
    refine d_take 7 rfl (q_move rfl rfl) rfl rfl (by kernel_rfl) (by kernel_rfl) (by kernel_rfl) (fun w h => h.pick 7 [1, 3, 4, 5, 6] rfl) ?_
    refine d_join (σ := Unit × (Option Addr) × Unit) 0 #[true, true, true, true, true, true, true, true, true, true, true, true] (fun s => [(4, (pt x2)), (5, (pt x4))]) (fun s => .row s.2.1 3 3 1 (ii ([(-2:Int), (8:Int), (0:Int)] : List Int)) :: .box a0_g 50 [(.slice a0_0_A a0_0_n a0_0_c), (i6 v9)] :: .box x4 25 [(.slice x3.1.A x3.1.n x3.1.c), (.slice x3.2.1.A x3.2.1.n x3.2.1.c), (.slice x3.2.2.A x3.2.2.n x3.2.2.c)] :: .row x3.1.A x3.1.c 3 1 (ii (v1.set v6.toNat v8)) :: .row x3.2.1.A x3.2.1.c 3 1 (ii v2) :: .row x3.2.2.A x3.2.2.c 3 1 (ii v3) :: .box x2 25 [(.slice none 0 0), (.slice none 0 0), (.slice none 0 0)] :: .box x1 25 [(.slice a1_0_A a1_0_n a1_0_c), (.slice a1_1_A a1_1_n a1_1_c), (.slice a1_2_A a1_2_n a1_2_c)] :: F) ?_ (fun hD4095 => ?_)
    · rintro ⟨x6, x7, x8⟩
      show J _ _ [(4, (pt x2)), (5, (pt x4))] _ (.row x7 3 3 1 (ii ([(-2:Int), (8:Int), (0:Int)] : List Int)) :: .box a0_g 50 [(.slice a0_0_A a0_0_n a0_0_c), (i6 v9)] :: .box x4 25 [(.slice x3.1.A x3.1.n x3.1.c), (.slice x3.2.1.A x3.2.1.n x3.2.1.c), (.slice x3.2.2.A x3.2.2.n x3.2.2.c)] :: .row x3.1.A x3.1.c 3 1 (ii (v1.set v6.toNat v8)) :: .row x3.2.1.A x3.2.1.c 3 1 (ii v2) :: .row x3.2.2.A x3.2.2.c 3 1 (ii v3) :: .box x2 25 [(.slice none 0 0), (.slice none 0 0), (.slice none 0 0)] :: .box x1 25 [(.slice a1_0_A a1_0_n a1_0_c), (.slice a1_1_A a1_1_n a1_1_c), (.slice a1_2_A a1_2_n a1_2_c)] :: F)
      refine d_done (by kernel_rfl) ?_
      refine j_in ?_
      refine j_then ?_
      refine j_seq ?_
      refine j_region ?_
      refine r_q (q_loadb_agg 2 rfl ag25 sz25 rfl rfl rfl rfl) rfl rfl ?_
      refine r_do (a_storeb 6 rfl sz25 rfl rfl rfl rfl (Nat.le_of_ble_eq_true rfl) rfl) rfl rfl (fun _ => ?_)
      refine j_b6 [(.slice x3.1.A x3.1.n x3.1.c), (.slice x3.2.1.A x3.2.1.n x3.2.1.c), (.slice x3.2.2.A x3.2.2.n x3.2.2.c)] rfl ?_
      refine r_nil ?_
      refine j_then ?_
      refine j_ret ?_
      cases h
      exact j_return rfl (ResOf.cell 6 rfl rfl ag25 sz25 ResOf.nil) rfl (fun w h => ⟨(⟨x3.1.A, x3.1.n, x3.1.c, (set_len x3.1.h _ _)⟩, ⟨x3.2.1.A, x3.2.1.n, x3.2.1.c, x3.2.1.h⟩, ⟨x3.2.2.A, x3.2.2.n, x3.2.2.c, x3.2.2.h⟩), rfl, h.pick 8 [3, 4, 5, 1] rfl⟩)
    refine d_join (σ := Unit × (Option Addr) × Unit) 1 #[true, true, true, true, true, true, true, true, true, true, true, false] (fun s => [(4, (pt x2)), (5, (pt x4)), (21, (i6 v8)), (22, (.pointer (x3.1.A.map (·.add (v6.toNat * 1)))))]) (fun s => .row s.2.1 3 3 1 (ii ([(-2:Int), (8:Int), (0:Int)] : List Int)) :: .box a0_g 50 [(.slice a0_0_A a0_0_n a0_0_c), (i6 v9)] :: .box x4 25 [(.slice x3.1.A x3.1.n x3.1.c), (.slice x3.2.1.A x3.2.1.n x3.2.1.c), (.slice x3.2.2.A x3.2.2.n x3.2.2.c)] :: .row x3.1.A x3.1.c 3 1 (ii v1) :: .row x3.2.1.A x3.2.1.c 3 1 (ii v2) :: .row x3.2.2.A x3.2.2.c 3 1 (ii v3) :: .box x2 25 [(.slice none 0 0), (.slice none 0 0), (.slice none 0 0)] :: .box x1 25 [(.slice a1_0_A a1_0_n a1_0_c), (.slice a1_1_A a1_1_n a1_1_c), (.slice a1_2_A a1_2_n a1_2_c)] :: F) ?_ (fun hD2047 => ?_)
    · rintro ⟨x6, x7, x8⟩
      show J _ _ [(4, (pt x2)), (5, (pt x4)), (21, (i6 v8)), (22, (.pointer (x3.1.A.map (·.add (v6.toNat * 1)))))] _ (.row x7 3 3 1 (ii ([(-2:Int), (8:Int), (0:Int)] : List Int)) :: .box a0_g 50 [(.slice a0_0_A a0_0_n a0_0_c), (i6 v9)] :: .box x4 25 [(.slice x3.1.A x3.1.n x3.1.c), (.slice x3.2.1.A x3.2.1.n x3.2.1.c), (.slice x3.2.2.A x3.2.2.n x3.2.2.c)] :: .row x3.1.A x3.1.c 3 1 (ii v1) :: .row x3.2.1.A x3.2.1.c 3 1 (ii v2) :: .row x3.2.2.A x3.2.2.c 3 1 (ii v3) :: .box x2 25 [(.slice none 0 0), (.slice none 0 0), (.slice none 0 0)] :: .box x1 25 [(.slice a1_0_A a1_0_n a1_0_c), (.slice a1_1_A a1_1_n a1_1_c), (.slice a1_2_A a1_2_n a1_2_c)] :: F)
      refine d_one 11 (by kernel_rfl) ?_
      · refine o_do rfl (a_stI 3 rfl c2 sz3 rfl rfl rfl) rfl rfl (fun _ w h => h.pick 8 [2, 4, 5, 6, 7] rfl) (fun _ => ?_)
        refine j_s3 ?_
        refine j_rs (.row x7 3 3 1 (ii ([(-2:Int), (8:Int), (0:Int)] : List Int)) :: .box a0_g 50 [(.slice a0_0_A a0_0_n a0_0_c), (i6 v9)] :: .box x4 25 [(.slice x3.1.A x3.1.n x3.1.c), (.slice x3.2.1.A x3.2.1.n x3.2.1.c), (.slice x3.2.2.A x3.2.2.n x3.2.2.c)] :: .row x3.1.A x3.1.c 3 1 (ii (v1.set v6.toNat v8)) :: .row x3.2.1.A x3.2.1.c 3 1 (ii v2) :: .row x3.2.2.A x3.2.2.c 3 1 (ii v3) :: .box x2 25 [(.slice none 0 0), (.slice none 0 0), (.slice none 0 0)] :: .box x1 25 [(.slice a1_0_A a1_0_n a1_0_c), (.slice a1_1_A a1_1_n a1_1_c), (.slice a1_2_A a1_2_n a1_2_c)] :: F) (fun _ h => h) ?_
        refine j_env [(4, (pt x2)), (5, (pt x4))] ⟨rfl, rfl, trivial⟩ ?_
        exact hD4095 (x6, x7, x8)
    refine d_join (σ := Unit × (Option Addr) × Unit) 2 #[true, true, true, true, true, true, true, true, true, true, false, false] (fun s => [(4, (pt x2)), (5, (pt x4)), (13, (.slice x3.1.A x3.1.n x3.1.c)), (18, (i6 v6)), (21, (i6 v8))]) (fun s => .row s.2.1 3 3 1 (ii ([(-2:Int), (8:Int), (0:Int)] : List Int)) :: .box a0_g 50 [(.slice a0_0_A a0_0_n a0_0_c), (i6 v9)] :: .box x4 25 [(.slice x3.1.A x3.1.n x3.1.c), (.slice x3.2.1.A x3.2.1.n x3.2.1.c), (.slice x3.2.2.A x3.2.2.n x3.2.2.c)] :: .row x3.1.A x3.1.c 3 1 (ii v1) :: .row x3.2.1.A x3.2.1.c 3 1 (ii v2) :: .row x3.2.2.A x3.2.2.c 3 1 (ii v3) :: .box x2 25 [(.slice none 0 0), (.slice none 0 0), (.slice none 0 0)] :: .box x1 25 [(.slice a1_0_A a1_0_n a1_0_c), (.slice a1_1_A a1_1_n a1_1_c), (.slice a1_2_A a1_2_n a1_2_c)] :: F) ?_ (fun hD1023 => ?_)
    · rintro ⟨x6, x7, x8⟩
      show J _ _ [(4, (pt x2)), (5, (pt x4)), (13, (.slice x3.1.A x3.1.n x3.1.c)), (18, (i6 v6)), (21, (i6 v8))] _ (.row x7 3 3 1 (ii ([(-2:Int), (8:Int), (0:Int)] : List Int)) :: .box a0_g 50 [(.slice a0_0_A a0_0_n a0_0_c), (i6 v9)] :: .box x4 25 [(.slice x3.1.A x3.1.n x3.1.c), (.slice x3.2.1.A x3.2.1.n x3.2.1.c), (.slice x3.2.2.A x3.2.2.n x3.2.2.c)] :: .row x3.1.A x3.1.c 3 1 (ii v1) :: .row x3.2.1.A x3.2.1.c 3 1 (ii v2) :: .row x3.2.2.A x3.2.2.c 3 1 (ii v3) :: .box x2 25 [(.slice none 0 0), (.slice none 0 0), (.slice none 0 0)] :: .box x1 25 [(.slice a1_0_A a1_0_n a1_0_c), (.slice a1_1_A a1_1_n a1_1_c), (.slice a1_2_A a1_2_n a1_2_c)] :: F)
      refine d_one 10 (by kernel_rfl) ?_
      · refine o_do rfl ((q_ix (Rd.row 3 rfl) (ints_len1 _ v1) (by decide) x3.1.h c2 un23 sz3 rfl rfl rfl)).acts rfl rfl (fun _ w h => h.pick 8 [2, 4, 5, 6, 7] rfl) (fun _ => ?_)
        refine j_rs (.row x7 3 3 1 (ii ([(-2:Int), (8:Int), (0:Int)] : List Int)) :: .box a0_g 50 [(.slice a0_0_A a0_0_n a0_0_c), (i6 v9)] :: .box x4 25 [(.slice x3.1.A x3.1.n x3.1.c), (.slice x3.2.1.A x3.2.1.n x3.2.1.c), (.slice x3.2.2.A x3.2.2.n x3.2.2.c)] :: .row x3.1.A x3.1.c 3 1 (ii v1) :: .row x3.2.1.A x3.2.1.c 3 1 (ii v2) :: .row x3.2.2.A x3.2.2.c 3 1 (ii v3) :: .box x2 25 [(.slice none 0 0), (.slice none 0 0), (.slice none 0 0)] :: .box x1 25 [(.slice a1_0_A a1_0_n a1_0_c), (.slice a1_1_A a1_1_n a1_1_c), (.slice a1_2_A a1_2_n a1_2_c)] :: F) (fun _ h => h) ?_
        refine j_env [(4, (pt x2)), (5, (pt x4)), (21, (i6 v8)), (22, (.pointer (x3.1.A.map (·.add (v6.toNat * 1)))))] ⟨rfl, rfl, rfl, rfl, trivial⟩ ?_
        exact hD2047 (x6, x7, x8)
    refine d_join (σ := Unit × (Option Addr)) 3 #[true, true, true, true, true, true, true, true, true, false, false, false] (fun s => [(4, (pt x2)), (5, (pt x4)), (13, (.slice x3.1.A x3.1.n x3.1.c)), (18, (i6 v6)), (19, (pt a0_g)), (20, (.slice s.2 3 3))]) (fun s => .row s.2 3 3 1 (ii ([(-2:Int), (8:Int), (0:Int)] : List Int)) :: .box a0_g 50 [(.slice a0_0_A a0_0_n a0_0_c), (i6 v7)] :: .box x4 25 [(.slice x3.1.A x3.1.n x3.1.c), (.slice x3.2.1.A x3.2.1.n x3.2.1.c), (.slice x3.2.2.A x3.2.2.n x3.2.2.c)] :: .row x3.1.A x3.1.c 3 1 (ii v1) :: .row x3.2.1.A x3.2.1.c 3 1 (ii v2) :: .row x3.2.2.A x3.2.2.c 3 1 (ii v3) :: .box x2 25 [(.slice none 0 0), (.slice none 0 0), (.slice none 0 0)] :: .box x1 25 [(.slice a1_0_A a1_0_n a1_0_c), (.slice a1_1_A a1_1_n a1_1_c), (.slice a1_2_A a1_2_n a1_2_c)] :: F) ?_ (fun hD511 => ?_)
    · rintro ⟨x6, x7⟩
      show J _ _ [(4, (pt x2)), (5, (pt x4)), (13, (.slice x3.1.A x3.1.n x3.1.c)), (18, (i6 v6)), (19, (pt a0_g)), (20, (.slice x7 3 3))] _ (.row x7 3 3 1 (ii ([(-2:Int), (8:Int), (0:Int)] : List Int)) :: .box a0_g 50 [(.slice a0_0_A a0_0_n a0_0_c), (i6 v7)] :: .box x4 25 [(.slice x3.1.A x3.1.n x3.1.c), (.slice x3.2.1.A x3.2.1.n x3.2.1.c), (.slice x3.2.2.A x3.2.2.n x3.2.2.c)] :: .row x3.1.A x3.1.c 3 1 (ii v1) :: .row x3.2.1.A x3.2.1.c 3 1 (ii v2) :: .row x3.2.2.A x3.2.2.c 3 1 (ii v3) :: .box x2 25 [(.slice none 0 0), (.slice none 0 0), (.slice none 0 0)] :: .box x1 25 [(.slice a1_0_A a1_0_n a1_0_c), (.slice a1_1_A a1_1_n a1_1_c), (.slice a1_2_A a1_2_n a1_2_c)] :: F)
      refine d_one 9 (by kernel_rfl) ?_
      · refine j_rs (.box a0_g 50 [(.slice a0_0_A a0_0_n a0_0_c), (i6 v7)] :: .row x7 3 3 1 (ii ([(-2:Int), (8:Int), (0:Int)] : List Int)) :: .box x4 25 [(.slice x3.1.A x3.1.n x3.1.c), (.slice x3.2.1.A x3.2.1.n x3.2.1.c), (.slice x3.2.2.A x3.2.2.n x3.2.2.c)] :: .row x3.1.A x3.1.c 3 1 (ii v1) :: .row x3.2.1.A x3.2.1.c 3 1 (ii v2) :: .row x3.2.2.A x3.2.2.c 3 1 (ii v3) :: .box x2 25 [(.slice none 0 0), (.slice none 0 0), (.slice none 0 0)] :: .box x1 25 [(.slice a1_0_A a1_0_n a1_0_c), (.slice a1_1_A a1_1_n a1_1_c), (.slice a1_2_A a1_2_n a1_2_c)] :: F) (fun _ h => h.pick 8 [1, 0, 2, 3, 4, 5, 6, 7] rfl) ?_
        refine o_do rfl (a_call ok26 rfl rfl rfl rfl (fun w hm => spec_l13Rd_num.calls K a0_g a0_0 a0_0_A a0_0_n a0_0_c v7 ([(-2:Int), (8:Int), (0:Int)] : List Int) x7 3 3 hm a0_0_h (Rd.drop 7 a0_0_R) rfl (Rd.row 0 rfl) hb4)) rfl rfl (fun x8 w h => h.pick 8 [2, 4, 5, 6, 7] rfl) (fun x8 => ?_)
        refine j_rs (.row x7 3 3 1 (ii ([(-2:Int), (8:Int), (0:Int)] : List Int)) :: .box a0_g 50 [(.slice a0_0_A a0_0_n a0_0_c), (i6 v9)] :: .box x4 25 [(.slice x3.1.A x3.1.n x3.1.c), (.slice x3.2.1.A x3.2.1.n x3.2.1.c), (.slice x3.2.2.A x3.2.2.n x3.2.2.c)] :: .row x3.1.A x3.1.c 3 1 (ii v1) :: .row x3.2.1.A x3.2.1.c 3 1 (ii v2) :: .row x3.2.2.A x3.2.2.c 3 1 (ii v3) :: .box x2 25 [(.slice none 0 0), (.slice none 0 0), (.slice none 0 0)] :: .box x1 25 [(.slice a1_0_A a1_0_n a1_0_c), (.slice a1_1_A a1_1_n a1_1_c), (.slice a1_2_A a1_2_n a1_2_c)] :: F) (fun _ h => h.pick 8 [1, 0, 2, 3, 4, 5, 6, 7] rfl) ?_
        refine j_env [(4, (pt x2)), (5, (pt x4)), (13, (.slice x3.1.A x3.1.n x3.1.c)), (18, (i6 v6)), (21, (i6 v8))] ⟨rfl, rfl, rfl, rfl, rfl, trivial⟩ ?_
        exact hD1023 (x6, x7, x8)
    refine d_join (σ := Unit) 4 #[true, true, true, true, true, true, true, true, false, false, false, false] (fun s => [(4, (pt x2)), (5, (pt x4)), (13, (.slice x3.1.A x3.1.n x3.1.c)), (18, (i6 v6)), (19, (pt a0_g))]) (fun s => .box a0_g 50 [(.slice a0_0_A a0_0_n a0_0_c), (i6 v7)] :: .box x4 25 [(.slice x3.1.A x3.1.n x3.1.c), (.slice x3.2.1.A x3.2.1.n x3.2.1.c), (.slice x3.2.2.A x3.2.2.n x3.2.2.c)] :: .row x3.1.A x3.1.c 3 1 (ii v1) :: .row x3.2.1.A x3.2.1.c 3 1 (ii v2) :: .row x3.2.2.A x3.2.2.c 3 1 (ii v3) :: .box x2 25 [(.slice none 0 0), (.slice none 0 0), (.slice none 0 0)] :: .box x1 25 [(.slice a1_0_A a1_0_n a1_0_c), (.slice a1_1_A a1_1_n a1_1_c), (.slice a1_2_A a1_2_n a1_2_c)] :: F) ?_ (fun hD255 => ?_)
    · rintro x6
      show J _ _ [(4, (pt x2)), (5, (pt x4)), (13, (.slice x3.1.A x3.1.n x3.1.c)), (18, (i6 v6)), (19, (pt a0_g))] _ (.box a0_g 50 [(.slice a0_0_A a0_0_n a0_0_c), (i6 v7)] :: .box x4 25 [(.slice x3.1.A x3.1.n x3.1.c), (.slice x3.2.1.A x3.2.1.n x3.2.1.c), (.slice x3.2.2.A x3.2.2.n x3.2.2.c)] :: .row x3.1.A x3.1.c 3 1 (ii v1) :: .row x3.2.1.A x3.2.1.c 3 1 (ii v2) :: .row x3.2.2.A x3.2.2.c 3 1 (ii v3) :: .box x2 25 [(.slice none 0 0), (.slice none 0 0), (.slice none 0 0)] :: .box x1 25 [(.slice a1_0_A a1_0_n a1_0_c), (.slice a1_1_A a1_1_n a1_1_c), (.slice a1_2_A a1_2_n a1_2_c)] :: F)
      refine d_one 8 (by kernel_rfl) ?_
      · refine o_do rfl (a_litX (vs := [(i6 (-2:Int)), (i6 (8:Int)), (i6 (0:Int))]) (ii ([(-2:Int), (8:Int), (0:Int)] : List Int)) un23 sz3 zr3 rfl rfl rfl rfl rfl rfl rfl rfl rfl) rfl rfl (fun x7 w h => h.pick 8 [2, 4, 5, 6, 7] rfl) (fun x7 => ?_)
        refine j_rs (.row x7 3 3 1 (ii ([(-2:Int), (8:Int), (0:Int)] : List Int)) :: .box a0_g 50 [(.slice a0_0_A a0_0_n a0_0_c), (i6 v7)] :: .box x4 25 [(.slice x3.1.A x3.1.n x3.1.c), (.slice x3.2.1.A x3.2.1.n x3.2.1.c), (.slice x3.2.2.A x3.2.2.n x3.2.2.c)] :: .row x3.1.A x3.1.c 3 1 (ii v1) :: .row x3.2.1.A x3.2.1.c 3 1 (ii v2) :: .row x3.2.2.A x3.2.2.c 3 1 (ii v3) :: .box x2 25 [(.slice none 0 0), (.slice none 0 0), (.slice none 0 0)] :: .box x1 25 [(.slice a1_0_A a1_0_n a1_0_c), (.slice a1_1_A a1_1_n a1_1_c), (.slice a1_2_A a1_2_n a1_2_c)] :: F) (fun _ h => h) ?_
        refine j_env [(4, (pt x2)), (5, (pt x4)), (13, (.slice x3.1.A x3.1.n x3.1.c)), (18, (i6 v6)), (19, (pt a0_g)), (20, (.slice x7 3 3))] ⟨rfl, rfl, rfl, rfl, rfl, rfl, trivial⟩ ?_
        exact hD511 (x6, x7)
    refine d_join (σ := (Option Addr)) 4 #[true, true, true, true, true, true, false, true, true, false, false, false] (fun s => [(4, (pt x2)), (5, (pt x4)), (13, (.slice x3.1.A x3.1.n x3.1.c)), (14, (pt a0_g)), (17, (i6 (v1.length : Int))), (19, (pt a0_g)), (20, (.slice s 3 3))]) (fun s => .row s 3 3 1 (ii ([(-2:Int), (8:Int), (0:Int)] : List Int)) :: .box a0_g 50 [(.slice a0_0_A a0_0_n a0_0_c), (i6 v5)] :: .box x4 25 [(.slice x3.1.A x3.1.n x3.1.c), (.slice x3.2.1.A x3.2.1.n x3.2.1.c), (.slice x3.2.2.A x3.2.2.n x3.2.2.c)] :: .row x3.1.A x3.1.c 3 1 (ii v1) :: .row x3.2.1.A x3.2.1.c 3 1 (ii v2) :: .row x3.2.2.A x3.2.2.c 3 1 (ii v3) :: .box x2 25 [(.slice none 0 0), (.slice none 0 0), (.slice none 0 0)] :: .box x1 25 [(.slice a1_0_A a1_0_n a1_0_c), (.slice a1_1_A a1_1_n a1_1_c), (.slice a1_2_A a1_2_n a1_2_c)] :: F) ?_ (fun hD447 => ?_)
    · rintro x7
      show J _ _ [(4, (pt x2)), (5, (pt x4)), (13, (.slice x3.1.A x3.1.n x3.1.c)), (14, (pt a0_g)), (17, (i6 (v1.length : Int))), (19, (pt a0_g)), (20, (.slice x7 3 3))] _ (.row x7 3 3 1 (ii ([(-2:Int), (8:Int), (0:Int)] : List Int)) :: .box a0_g 50 [(.slice a0_0_A a0_0_n a0_0_c), (i6 v5)] :: .box x4 25 [(.slice x3.1.A x3.1.n x3.1.c), (.slice x3.2.1.A x3.2.1.n x3.2.1.c), (.slice x3.2.2.A x3.2.2.n x3.2.2.c)] :: .row x3.1.A x3.1.c 3 1 (ii v1) :: .row x3.2.1.A x3.2.1.c 3 1 (ii v2) :: .row x3.2.2.A x3.2.2.c 3 1 (ii v3) :: .box x2 25 [(.slice none 0 0), (.slice none 0 0), (.slice none 0 0)] :: .box x1 25 [(.slice a1_0_A a1_0_n a1_0_c), (.slice a1_1_A a1_1_n a1_1_c), (.slice a1_2_A a1_2_n a1_2_c)] :: F)
      refine d_one 6 (by kernel_rfl) ?_
      · refine j_rs (.box a0_g 50 [(.slice a0_0_A a0_0_n a0_0_c), (i6 v5)] :: .row x7 3 3 1 (ii ([(-2:Int), (8:Int), (0:Int)] : List Int)) :: .box x4 25 [(.slice x3.1.A x3.1.n x3.1.c), (.slice x3.2.1.A x3.2.1.n x3.2.1.c), (.slice x3.2.2.A x3.2.2.n x3.2.2.c)] :: .row x3.1.A x3.1.c 3 1 (ii v1) :: .row x3.2.1.A x3.2.1.c 3 1 (ii v2) :: .row x3.2.2.A x3.2.2.c 3 1 (ii v3) :: .box x2 25 [(.slice none 0 0), (.slice none 0 0), (.slice none 0 0)] :: .box x1 25 [(.slice a1_0_A a1_0_n a1_0_c), (.slice a1_1_A a1_1_n a1_1_c), (.slice a1_2_A a1_2_n a1_2_c)] :: F) (fun _ h => h.pick 8 [1, 0, 2, 3, 4, 5, 6, 7] rfl) ?_
        refine o_do rfl (a_call ok25 rfl rfl rfl rfl (fun w hm => spec_l13Rd_pick.calls K a0_g a0_0 a0_0_A a0_0_n a0_0_c v5 (v1.length : Int) hm a0_0_h (Rd.drop 7 a0_0_R) hb3)) rfl rfl (fun x6 w h => h.pick 8 [2, 4, 5, 6, 7] rfl) (fun x6 => ?_)
        refine j_rs (.row x7 3 3 1 (ii ([(-2:Int), (8:Int), (0:Int)] : List Int)) :: .box a0_g 50 [(.slice a0_0_A a0_0_n a0_0_c), (i6 v7)] :: .box x4 25 [(.slice x3.1.A x3.1.n x3.1.c), (.slice x3.2.1.A x3.2.1.n x3.2.1.c), (.slice x3.2.2.A x3.2.2.n x3.2.2.c)] :: .row x3.1.A x3.1.c 3 1 (ii v1) :: .row x3.2.1.A x3.2.1.c 3 1 (ii v2) :: .row x3.2.2.A x3.2.2.c 3 1 (ii v3) :: .box x2 25 [(.slice none 0 0), (.slice none 0 0), (.slice none 0 0)] :: .box x1 25 [(.slice a1_0_A a1_0_n a1_0_c), (.slice a1_1_A a1_1_n a1_1_c), (.slice a1_2_A a1_2_n a1_2_c)] :: F) (fun _ h => h.pick 8 [1, 0, 2, 3, 4, 5, 6, 7] rfl) ?_
        refine j_env [(4, (pt x2)), (5, (pt x4)), (13, (.slice x3.1.A x3.1.n x3.1.c)), (18, (i6 v6)), (19, (pt a0_g)), (20, (.slice x7 3 3))] ⟨rfl, rfl, rfl, rfl, rfl, rfl, trivial⟩ ?_
        exact hD511 (x6, x7)
    refine d_two 6 8 (by kernel_rfl) ?_ ?_
    · refine o_do rfl (a_call ok25 rfl rfl rfl rfl (fun w hm => spec_l13Rd_pick.calls K a0_g a0_0 a0_0_A a0_0_n a0_0_c v5 (v1.length : Int) hm a0_0_h (Rd.drop 6 a0_0_R) hb3)) rfl rfl (fun x6 w h => h.pick 7 [1, 3, 4, 5, 6] rfl) (fun x6 => ?_)
      refine j_rs (.box a0_g 50 [(.slice a0_0_A a0_0_n a0_0_c), (i6 v7)] :: .box x4 25 [(.slice x3.1.A x3.1.n x3.1.c), (.slice x3.2.1.A x3.2.1.n x3.2.1.c), (.slice x3.2.2.A x3.2.2.n x3.2.2.c)] :: .row x3.1.A x3.1.c 3 1 (ii v1) :: .row x3.2.1.A x3.2.1.c 3 1 (ii v2) :: .row x3.2.2.A x3.2.2.c 3 1 (ii v3) :: .box x2 25 [(.slice none 0 0), (.slice none 0 0), (.slice none 0 0)] :: .box x1 25 [(.slice a1_0_A a1_0_n a1_0_c), (.slice a1_1_A a1_1_n a1_1_c), (.slice a1_2_A a1_2_n a1_2_c)] :: F) (fun _ h => h) ?_
      refine j_env [(4, (pt x2)), (5, (pt x4)), (13, (.slice x3.1.A x3.1.n x3.1.c)), (18, (i6 v6)), (19, (pt a0_g))] ⟨rfl, rfl, rfl, rfl, rfl, trivial⟩ ?_
      exact hD255 x6
    · refine o_do rfl (a_litX (vs := [(i6 (-2:Int)), (i6 (8:Int)), (i6 (0:Int))]) (ii ([(-2:Int), (8:Int), (0:Int)] : List Int)) un23 sz3 zr3 rfl rfl rfl rfl rfl rfl rfl rfl rfl) rfl rfl (fun x7 w h => h.pick 8 [2, 4, 5, 6, 7] rfl) (fun x7 => ?_)
      refine j_rs (.row x7 3 3 1 (ii ([(-2:Int), (8:Int), (0:Int)] : List Int)) :: .box a0_g 50 [(.slice a0_0_A a0_0_n a0_0_c), (i6 v5)] :: .box x4 25 [(.slice x3.1.A x3.1.n x3.1.c), (.slice x3.2.1.A x3.2.1.n x3.2.1.c), (.slice x3.2.2.A x3.2.2.n x3.2.2.c)] :: .row x3.1.A x3.1.c 3 1 (ii v1) :: .row x3.2.1.A x3.2.1.c 3 1 (ii v2) :: .row x3.2.2.A x3.2.2.c 3 1 (ii v3) :: .box x2 25 [(.slice none 0 0), (.slice none 0 0), (.slice none 0 0)] :: .box x1 25 [(.slice a1_0_A a1_0_n a1_0_c), (.slice a1_1_A a1_1_n a1_1_c), (.slice a1_2_A a1_2_n a1_2_c)] :: F) (fun _ h => h) ?_
      refine j_env [(4, (pt x2)), (5, (pt x4)), (13, (.slice x3.1.A x3.1.n x3.1.c)), (14, (pt a0_g)), (17, (i6 (v1.length : Int))), (19, (pt a0_g)), (20, (.slice x7 3 3))] ⟨rfl, rfl, rfl, rfl, rfl, rfl, rfl, trivial⟩ ?_
      exact hD447 x7
  · refine j_false rfl (beq_f c1) ?_
    refine j_seq ?_
    refine j_region ?_
    refine r_q (q_eql rfl rfl rfl) rfl rfl ?_
    refine r_q (q_assign rfl rfl) rfl rfl ?_
    refine r_nil ?_
    refine j_then ?_
    rcases of_if h with ⟨c3, h⟩ | ⟨c3, h⟩
    · refine j_true rfl (beq_t c3) ?_
      refine j_region ?_
      refine r_q (q_fieldAddr fi25_1 sz23 rfl rfl rfl) rfl rfl ?_
      refine r_q (q_loadb 1 rfl ag23 rfl rfl rfl) rfl rfl ?_
      refine r_do (a_litX (vs := [(i6 (-1:Int))]) (ii ([(-1:Int)] : List Int)) un23 sz3 zr3 rfl rfl rfl rfl rfl rfl rfl rfl rfl) rfl rfl (fun x9 => ?_)
      obtain ⟨c4, h⟩ := of_guard h
      refine r_do (a_appI (xs := v2) (ys := ([(-1:Int)] : List Int)) 4 un23 un23 sz3 by3 zr3 rfl rfl rfl rfl rfl rfl rfl rfl rfl x3.2.1.h rfl (Rd.row 0 rfl) c4) rfl rfl (fun x10 => ?_)
      refine j_s4 ?_
      refine r_q (q_fieldAddr fi25_1 sz23 rfl rfl rfl) rfl rfl ?_
      refine r_do (a_storeb 2 rfl sz23 rfl rfl rfl rfl (Nat.le_of_ble_eq_true rfl) rfl) rfl rfl (fun _ => ?_)
      refine j_b2 [(.slice x3.1.A x3.1.n x3.1.c), (.slice x10.1 (x3.2.1.n + 1) x10.2), (.slice x3.2.2.A x3.2.2.n x3.2.2.c)] rfl ?_
      refine r_nil ?_
      refine j_in ?_
      refine j_then ?_
      refine j_seq ?_
      refine j_region ?_
      refine r_q (q_loadb_agg 2 rfl ag25 sz25 rfl rfl rfl rfl) rfl rfl ?_
      refine r_do (a_storeb 6 rfl sz25 rfl rfl rfl rfl (Nat.le_of_ble_eq_true rfl) rfl) rfl rfl (fun _ => ?_)
      refine j_b6 [(.slice x3.1.A x3.1.n x3.1.c), (.slice x10.1 (x3.2.1.n + 1) x10.2), (.slice x3.2.2.A x3.2.2.n x3.2.2.c)] rfl ?_
      refine r_nil ?_
      refine j_then ?_
      refine j_ret ?_
      cases h
      exact j_return rfl (ResOf.cell 6 rfl rfl ag25 sz25 ResOf.nil) rfl (fun w h => ⟨(⟨x3.1.A, x3.1.n, x3.1.c, x3.1.h⟩, ⟨x10.1, (x3.2.1.n + 1), x10.2, (app_len x3.2.1.h rfl)⟩, ⟨x3.2.2.A, x3.2.2.n, x3.2.2.c, x3.2.2.h⟩), rfl, h.pick 8 [3, 4, 5, 1] rfl⟩)
    · refine j_false rfl (beq_f c3) ?_
      refine j_seq ?_
      refine j_region ?_
      refine r_q (q_eql rfl rfl rfl) rfl rfl ?_
      refine r_q (q_assign rfl rfl) rfl rfl ?_
      refine r_nil ?_
      refine j_then ?_
      rcases of_if h with ⟨c5, h⟩ | ⟨c5, h⟩
      · refine j_true rfl (beq_t c5) ?_
        obtain ⟨v10, v11, hb5, h⟩ := of_b2 h
        obtain ⟨c6, h⟩ := of_guard h
        refine j_draw (.row x3.1.A x3.1.c 3 1 (ii v1) :: .row x3.2.1.A x3.2.1.c 3 1 (ii v2) :: .box x2 25 [(.slice none 0 0), (.slice none 0 0), (.slice none 0 0)] :: .box x1 25 [(.slice a1_0_A a1_0_n a1_0_c), (.slice a1_1_A a1_1_n a1_1_c), (.slice a1_2_A a1_2_n a1_2_c)] :: F) 9 follows_any rfl ?_
        refine d_take 0 rfl (q_fieldAddr fi25_2 sz23 rfl rfl rfl) rfl rfl (by kernel_rfl) (by kernel_rfl) (by kernel_rfl) (fun w h => h.pick 7 [2, 3, 5, 6] rfl) ?_
        refine d_take 2 rfl (q_move rfl rfl) rfl rfl (by kernel_rfl) (by kernel_rfl) (by kernel_rfl) (fun w h => h.pick 7 [2, 3, 5, 6] rfl) ?_
        refine d_join (σ := (Option Addr) × Unit × (Option Addr) × (Option Addr × Nat)) 0 #[true, true, true, true, true, true, true, true, true] (fun s => [(4, (pt x2)), (5, (pt x4))]) (fun s => .row s.1 3 3 1 (ii ([(0:Int), (-1:Int), (9:Int)] : List Int)) :: .row s.2.2.1 1 3 1 (ii ([v10] : List Int)) :: .row s.2.2.2.1 s.2.2.2.2 3 1 (ii (v3 ++ ([v10] : List Int))) :: .box a0_g 50 [(.slice a0_0_A a0_0_n a0_0_c), (i6 v11)] :: .box x4 25 [(.slice x3.1.A x3.1.n x3.1.c), (.slice x3.2.1.A x3.2.1.n x3.2.1.c), (.slice s.2.2.2.1 (x3.2.2.n + 1) s.2.2.2.2)] :: .row x3.1.A x3.1.c 3 1 (ii v1) :: .row x3.2.1.A x3.2.1.c 3 1 (ii v2) :: .box x2 25 [(.slice none 0 0), (.slice none 0 0), (.slice none 0 0)] :: .box x1 25 [(.slice a1_0_A a1_0_n a1_0_c), (.slice a1_1_A a1_1_n a1_1_c), (.slice a1_2_A a1_2_n a1_2_c)] :: F) ?_ (fun hD511 => ?_)
        · rintro ⟨x11, x12, x13, x14⟩
          show J _ _ [(4, (pt x2)), (5, (pt x4))] _ (.row x11 3 3 1 (ii ([(0:Int), (-1:Int), (9:Int)] : List Int)) :: .row x13 1 3 1 (ii ([v10] : List Int)) :: .row x14.1 x14.2 3 1 (ii (v3 ++ ([v10] : List Int))) :: .box a0_g 50 [(.slice a0_0_A a0_0_n a0_0_c), (i6 v11)] :: .box x4 25 [(.slice x3.1.A x3.1.n x3.1.c), (.slice x3.2.1.A x3.2.1.n x3.2.1.c), (.slice x14.1 (x3.2.2.n + 1) x14.2)] :: .row x3.1.A x3.1.c 3 1 (ii v1) :: .row x3.2.1.A x3.2.1.c 3 1 (ii v2) :: .box x2 25 [(.slice none 0 0), (.slice none 0 0), (.slice none 0 0)] :: .box x1 25 [(.slice a1_0_A a1_0_n a1_0_c), (.slice a1_1_A a1_1_n a1_1_c), (.slice a1_2_A a1_2_n a1_2_c)] :: F)
          refine d_done (by kernel_rfl) ?_
          refine j_in ?_
          refine j_then ?_
          refine j_seq ?_
          refine j_region ?_
          refine r_q (q_loadb_agg 4 rfl ag25 sz25 rfl rfl rfl rfl) rfl rfl ?_
          refine r_do (a_storeb 7 rfl sz25 rfl rfl rfl rfl (Nat.le_of_ble_eq_true rfl) rfl) rfl rfl (fun _ => ?_)
          refine j_b7 [(.slice x3.1.A x3.1.n x3.1.c), (.slice x3.2.1.A x3.2.1.n x3.2.1.c), (.slice x14.1 (x3.2.2.n + 1) x14.2)] rfl ?_
          refine r_nil ?_
          refine j_then ?_
          refine j_ret ?_
          cases h
          exact j_return rfl (ResOf.cell 7 rfl rfl ag25 sz25 ResOf.nil) rfl (fun w h => ⟨(⟨x3.1.A, x3.1.n, x3.1.c, x3.1.h⟩, ⟨x3.2.1.A, x3.2.1.n, x3.2.1.c, x3.2.1.h⟩, ⟨x14.1, (x3.2.2.n + 1), x14.2, (app_len x3.2.2.h rfl)⟩), rfl, h.pick 9 [5, 6, 2, 3] rfl⟩)
        refine d_join (σ := (Option Addr) × Unit × (Option Addr) × (Option Addr × Nat)) 1 #[true, true, true, true, true, true, true, true, false] (fun s => [(4, (pt x2)), (5, (pt x4)), (38, (.slice s.2.2.2.1 (x3.2.2.n + 1) s.2.2.2.2)), (39, (.pointer (some ⟨x4, 2, none⟩)))]) (fun s => .row s.1 3 3 1 (ii ([(0:Int), (-1:Int), (9:Int)] : List Int)) :: .row s.2.2.1 1 3 1 (ii ([v10] : List Int)) :: .row s.2.2.2.1 s.2.2.2.2 3 1 (ii (v3 ++ ([v10] : List Int))) :: .box a0_g 50 [(.slice a0_0_A a0_0_n a0_0_c), (i6 v11)] :: .box x4 25 [(.slice x3.1.A x3.1.n x3.1.c), (.slice x3.2.1.A x3.2.1.n x3.2.1.c), (.slice x3.2.2.A x3.2.2.n x3.2.2.c)] :: .row x3.1.A x3.1.c 3 1 (ii v1) :: .row x3.2.1.A x3.2.1.c 3 1 (ii v2) :: .box x2 25 [(.slice none 0 0), (.slice none 0 0), (.slice none 0 0)] :: .box x1 25 [(.slice a1_0_A a1_0_n a1_0_c), (.slice a1_1_A a1_1_n a1_1_c), (.slice a1_2_A a1_2_n a1_2_c)] :: F) ?_ (fun hD255 => ?_)
        · rintro ⟨x11, x12, x13, x14⟩
          show J _ _ [(4, (pt x2)), (5, (pt x4)), (38, (.slice x14.1 (x3.2.2.n + 1) x14.2)), (39, (.pointer (some ⟨x4, 2, none⟩)))] _ (.row x11 3 3 1 (ii ([(0:Int), (-1:Int), (9:Int)] : List Int)) :: .row x13 1 3 1 (ii ([v10] : List Int)) :: .row x14.1 x14.2 3 1 (ii (v3 ++ ([v10] : List Int))) :: .box a0_g 50 [(.slice a0_0_A a0_0_n a0_0_c), (i6 v11)] :: .box x4 25 [(.slice x3.1.A x3.1.n x3.1.c), (.slice x3.2.1.A x3.2.1.n x3.2.1.c), (.slice x3.2.2.A x3.2.2.n x3.2.2.c)] :: .row x3.1.A x3.1.c 3 1 (ii v1) :: .row x3.2.1.A x3.2.1.c 3 1 (ii v2) :: .box x2 25 [(.slice none 0 0), (.slice none 0 0), (.slice none 0 0)] :: .box x1 25 [(.slice a1_0_A a1_0_n a1_0_c), (.slice a1_1_A a1_1_n a1_1_c), (.slice a1_2_A a1_2_n a1_2_c)] :: F)
          refine d_one 8 (by kernel_rfl) ?_
          · refine o_do rfl (a_storeb 4 rfl sz23 rfl rfl rfl rfl (Nat.le_of_ble_eq_true rfl) rfl) rfl rfl (fun _ w h => (h.drop 5)) (fun _ => ?_)
            refine j_b4 [(.slice x3.1.A x3.1.n x3.1.c), (.slice x3.2.1.A x3.2.1.n x3.2.1.c), (.slice x14.1 (x3.2.2.n + 1) x14.2)] rfl ?_
            refine j_rs (.row x11 3 3 1 (ii ([(0:Int), (-1:Int), (9:Int)] : List Int)) :: .row x13 1 3 1 (ii ([v10] : List Int)) :: .row x14.1 x14.2 3 1 (ii (v3 ++ ([v10] : List Int))) :: .box a0_g 50 [(.slice a0_0_A a0_0_n a0_0_c), (i6 v11)] :: .box x4 25 [(.slice x3.1.A x3.1.n x3.1.c), (.slice x3.2.1.A x3.2.1.n x3.2.1.c), (.slice x14.1 (x3.2.2.n + 1) x14.2)] :: .row x3.1.A x3.1.c 3 1 (ii v1) :: .row x3.2.1.A x3.2.1.c 3 1 (ii v2) :: .box x2 25 [(.slice none 0 0), (.slice none 0 0), (.slice none 0 0)] :: .box x1 25 [(.slice a1_0_A a1_0_n a1_0_c), (.slice a1_1_A a1_1_n a1_1_c), (.slice a1_2_A a1_2_n a1_2_c)] :: F) (fun _ h => h) ?_
            refine j_env [(4, (pt x2)), (5, (pt x4))] ⟨rfl, rfl, trivial⟩ ?_
            exact hD511 (x11, x12, x13, x14)
        refine d_join (σ := (Option Addr) × Unit × (Option Addr)) 3 #[true, true, true, true, true, true, false, false, false] (fun s => [(4, (pt x2)), (5, (pt x4)), (33, (.slice x3.2.2.A x3.2.2.n x3.2.2.c)), (37, (.slice s.2.2 1 1))]) (fun s => .row s.1 3 3 1 (ii ([(0:Int), (-1:Int), (9:Int)] : List Int)) :: .row s.2.2 1 3 1 (ii ([v10] : List Int)) :: .box a0_g 50 [(.slice a0_0_A a0_0_n a0_0_c), (i6 v11)] :: .box x4 25 [(.slice x3.1.A x3.1.n x3.1.c), (.slice x3.2.1.A x3.2.1.n x3.2.1.c), (.slice x3.2.2.A x3.2.2.n x3.2.2.c)] :: .row x3.1.A x3.1.c 3 1 (ii v1) :: .row x3.2.1.A x3.2.1.c 3 1 (ii v2) :: .row x3.2.2.A x3.2.2.c 3 1 (ii v3) :: .box x2 25 [(.slice none 0 0), (.slice none 0 0), (.slice none 0 0)] :: .box x1 25 [(.slice a1_0_A a1_0_n a1_0_c), (.slice a1_1_A a1_1_n a1_1_c), (.slice a1_2_A a1_2_n a1_2_c)] :: F) ?_ (fun hD63 => ?_)
        · rintro ⟨x11, x12, x13⟩
          show J _ _ [(4, (pt x2)), (5, (pt x4)), (33, (.slice x3.2.2.A x3.2.2.n x3.2.2.c)), (37, (.slice x13 1 1))] _ (.row x11 3 3 1 (ii ([(0:Int), (-1:Int), (9:Int)] : List Int)) :: .row x13 1 3 1 (ii ([v10] : List Int)) :: .box a0_g 50 [(.slice a0_0_A a0_0_n a0_0_c), (i6 v11)] :: .box x4 25 [(.slice x3.1.A x3.1.n x3.1.c), (.slice x3.2.1.A x3.2.1.n x3.2.1.c), (.slice x3.2.2.A x3.2.2.n x3.2.2.c)] :: .row x3.1.A x3.1.c 3 1 (ii v1) :: .row x3.2.1.A x3.2.1.c 3 1 (ii v2) :: .row x3.2.2.A x3.2.2.c 3 1 (ii v3) :: .box x2 25 [(.slice none 0 0), (.slice none 0 0), (.slice none 0 0)] :: .box x1 25 [(.slice a1_0_A a1_0_n a1_0_c), (.slice a1_1_A a1_1_n a1_1_c), (.slice a1_2_A a1_2_n a1_2_c)] :: F)
          refine d_one 6 (by kernel_rfl) ?_
          · refine o_do rfl (a_appI (xs := v3) (ys := ([v10] : List Int)) 6 un23 un23 sz3 by3 zr3 rfl rfl rfl rfl rfl rfl rfl rfl rfl x3.2.2.h rfl (Rd.row 1 rfl) c6) rfl rfl (fun x14 w h => h.pick 9 [4, 5, 7, 8] rfl) (fun x14 => ?_)
            refine j_s6 ?_
            refine d_take 7 rfl (q_fieldAddr fi25_2 sz23 rfl rfl rfl) rfl rfl (by kernel_rfl) (by kernel_rfl) (by kernel_rfl) (fun w h => h.pick 9 [4, 5, 7, 8] rfl) ?_
            refine j_rs (.row x11 3 3 1 (ii ([(0:Int), (-1:Int), (9:Int)] : List Int)) :: .row x13 1 3 1 (ii ([v10] : List Int)) :: .row x14.1 x14.2 3 1 (ii (v3 ++ ([v10] : List Int))) :: .box a0_g 50 [(.slice a0_0_A a0_0_n a0_0_c), (i6 v11)] :: .box x4 25 [(.slice x3.1.A x3.1.n x3.1.c), (.slice x3.2.1.A x3.2.1.n x3.2.1.c), (.slice x3.2.2.A x3.2.2.n x3.2.2.c)] :: .row x3.1.A x3.1.c 3 1 (ii v1) :: .row x3.2.1.A x3.2.1.c 3 1 (ii v2) :: .box x2 25 [(.slice none 0 0), (.slice none 0 0), (.slice none 0 0)] :: .box x1 25 [(.slice a1_0_A a1_0_n a1_0_c), (.slice a1_1_A a1_1_n a1_1_c), (.slice a1_2_A a1_2_n a1_2_c)] :: F) (fun _ h => h.pick 9 [0, 1, 6, 2, 3, 4, 5, 7, 8] rfl) ?_
            refine j_env [(4, (pt x2)), (5, (pt x4)), (38, (.slice x14.1 (x3.2.2.n + 1) x14.2)), (39, (.pointer (some ⟨x4, 2, none⟩)))] ⟨rfl, rfl, rfl, rfl, trivial⟩ ?_
            exact hD255 (x11, x12, x13, x14)
        refine d_join (σ := (Option Addr) × Unit) 4 #[true, true, true, true, true, false, false, false, false] (fun s => [(4, (pt x2)), (5, (pt x4)), (33, (.slice x3.2.2.A x3.2.2.n x3.2.2.c)), (36, (i6 v10))]) (fun s => .row s.1 3 3 1 (ii ([(0:Int), (-1:Int), (9:Int)] : List Int)) :: .box a0_g 50 [(.slice a0_0_A a0_0_n a0_0_c), (i6 v11)] :: .box x4 25 [(.slice x3.1.A x3.1.n x3.1.c), (.slice x3.2.1.A x3.2.1.n x3.2.1.c), (.slice x3.2.2.A x3.2.2.n x3.2.2.c)] :: .row x3.1.A x3.1.c 3 1 (ii v1) :: .row x3.2.1.A x3.2.1.c 3 1 (ii v2) :: .row x3.2.2.A x3.2.2.c 3 1 (ii v3) :: .box x2 25 [(.slice none 0 0), (.slice none 0 0), (.slice none 0 0)] :: .box x1 25 [(.slice a1_0_A a1_0_n a1_0_c), (.slice a1_1_A a1_1_n a1_1_c), (.slice a1_2_A a1_2_n a1_2_c)] :: F) ?_ (fun hD31 => ?_)
        · rintro ⟨x11, x12⟩
          show J _ _ [(4, (pt x2)), (5, (pt x4)), (33, (.slice x3.2.2.A x3.2.2.n x3.2.2.c)), (36, (i6 v10))] _ (.row x11 3 3 1 (ii ([(0:Int), (-1:Int), (9:Int)] : List Int)) :: .box a0_g 50 [(.slice a0_0_A a0_0_n a0_0_c), (i6 v11)] :: .box x4 25 [(.slice x3.1.A x3.1.n x3.1.c), (.slice x3.2.1.A x3.2.1.n x3.2.1.c), (.slice x3.2.2.A x3.2.2.n x3.2.2.c)] :: .row x3.1.A x3.1.c 3 1 (ii v1) :: .row x3.2.1.A x3.2.1.c 3 1 (ii v2) :: .row x3.2.2.A x3.2.2.c 3 1 (ii v3) :: .box x2 25 [(.slice none 0 0), (.slice none 0 0), (.slice none 0 0)] :: .box x1 25 [(.slice a1_0_A a1_0_n a1_0_c), (.slice a1_1_A a1_1_n a1_1_c), (.slice a1_2_A a1_2_n a1_2_c)] :: F)
          refine d_one 5 (by kernel_rfl) ?_
          · refine o_do rfl (a_litX (vs := [(i6 v10)]) (ii ([v10] : List Int)) un23 sz3 zr3 rfl rfl rfl rfl rfl rfl rfl rfl rfl) rfl rfl (fun x13 w h => h.pick 9 [4, 5, 7, 8] rfl) (fun x13 => ?_)
            refine j_rs (.row x11 3 3 1 (ii ([(0:Int), (-1:Int), (9:Int)] : List Int)) :: .row x13 1 3 1 (ii ([v10] : List Int)) :: .box a0_g 50 [(.slice a0_0_A a0_0_n a0_0_c), (i6 v11)] :: .box x4 25 [(.slice x3.1.A x3.1.n x3.1.c), (.slice x3.2.1.A x3.2.1.n x3.2.1.c), (.slice x3.2.2.A x3.2.2.n x3.2.2.c)] :: .row x3.1.A x3.1.c 3 1 (ii v1) :: .row x3.2.1.A x3.2.1.c 3 1 (ii v2) :: .row x3.2.2.A x3.2.2.c 3 1 (ii v3) :: .box x2 25 [(.slice none 0 0), (.slice none 0 0), (.slice none 0 0)] :: .box x1 25 [(.slice a1_0_A a1_0_n a1_0_c), (.slice a1_1_A a1_1_n a1_1_c), (.slice a1_2_A a1_2_n a1_2_c)] :: F) (fun _ h => h.pick 9 [1, 0, 2, 3, 4, 5, 6, 7, 8] rfl) ?_
            refine j_env [(4, (pt x2)), (5, (pt x4)), (33, (.slice x3.2.2.A x3.2.2.n x3.2.2.c)), (37, (.slice x13 1 1))] ⟨rfl, rfl, rfl, rfl, trivial⟩ ?_
            exact hD63 (x11, x12, x13)
        refine d_join (σ := (Option Addr) × Unit × (Option Addr)) 4 #[true, false, true, true, true, true, false, false, false] (fun s => [(4, (pt x2)), (5, (pt x4)), (32, (.pointer (some ⟨x4, 2, none⟩))), (37, (.slice s.2.2 1 1))]) (fun s => .row s.1 3 3 1 (ii ([(0:Int), (-1:Int), (9:Int)] : List Int)) :: .row s.2.2 1 3 1 (ii ([v10] : List Int)) :: .box a0_g 50 [(.slice a0_0_A a0_0_n a0_0_c), (i6 v11)] :: .box x4 25 [(.slice x3.1.A x3.1.n x3.1.c), (.slice x3.2.1.A x3.2.1.n x3.2.1.c), (.slice x3.2.2.A x3.2.2.n x3.2.2.c)] :: .row x3.1.A x3.1.c 3 1 (ii v1) :: .row x3.2.1.A x3.2.1.c 3 1 (ii v2) :: .row x3.2.2.A x3.2.2.c 3 1 (ii v3) :: .box x2 25 [(.slice none 0 0), (.slice none 0 0), (.slice none 0 0)] :: .box x1 25 [(.slice a1_0_A a1_0_n a1_0_c), (.slice a1_1_A a1_1_n a1_1_c), (.slice a1_2_A a1_2_n a1_2_c)] :: F) ?_ (fun hD61 => ?_)
        · rintro ⟨x11, x12, x13⟩
          show J _ _ [(4, (pt x2)), (5, (pt x4)), (32, (.pointer (some ⟨x4, 2, none⟩))), (37, (.slice x13 1 1))] _ (.row x11 3 3 1 (ii ([(0:Int), (-1:Int), (9:Int)] : List Int)) :: .row x13 1 3 1 (ii ([v10] : List Int)) :: .box a0_g 50 [(.slice a0_0_A a0_0_n a0_0_c), (i6 v11)] :: .box x4 25 [(.slice x3.1.A x3.1.n x3.1.c), (.slice x3.2.1.A x3.2.1.n x3.2.1.c), (.slice x3.2.2.A x3.2.2.n x3.2.2.c)] :: .row x3.1.A x3.1.c 3 1 (ii v1) :: .row x3.2.1.A x3.2.1.c 3 1 (ii v2) :: .row x3.2.2.A x3.2.2.c 3 1 (ii v3) :: .box x2 25 [(.slice none 0 0), (.slice none 0 0), (.slice none 0 0)] :: .box x1 25 [(.slice a1_0_A a1_0_n a1_0_c), (.slice a1_1_A a1_1_n a1_1_c), (.slice a1_2_A a1_2_n a1_2_c)] :: F)
          refine d_one 1 (by kernel_rfl) ?_
          · refine o_do rfl ((q_loadb 3 rfl ag23 rfl rfl rfl)).acts rfl rfl (fun _ w h => h.pick 9 [4, 5, 7, 8] rfl) (fun _ => ?_)
            refine j_rs (.row x11 3 3 1 (ii ([(0:Int), (-1:Int), (9:Int)] : List Int)) :: .row x13 1 3 1 (ii ([v10] : List Int)) :: .box a0_g 50 [(.slice a0_0_A a0_0_n a0_0_c), (i6 v11)] :: .box x4 25 [(.slice x3.1.A x3.1.n x3.1.c), (.slice x3.2.1.A x3.2.1.n x3.2.1.c), (.slice x3.2.2.A x3.2.2.n x3.2.2.c)] :: .row x3.1.A x3.1.c 3 1 (ii v1) :: .row x3.2.1.A x3.2.1.c 3 1 (ii v2) :: .row x3.2.2.A x3.2.2.c 3 1 (ii v3) :: .box x2 25 [(.slice none 0 0), (.slice none 0 0), (.slice none 0 0)] :: .box x1 25 [(.slice a1_0_A a1_0_n a1_0_c), (.slice a1_1_A a1_1_n a1_1_c), (.slice a1_2_A a1_2_n a1_2_c)] :: F) (fun _ h => h) ?_
            refine j_env [(4, (pt x2)), (5, (pt x4)), (33, (.slice x3.2.2.A x3.2.2.n x3.2.2.c)), (37, (.slice x13 1 1))] ⟨rfl, rfl, rfl, rfl, trivial⟩ ?_
            exact hD63 (x11, x12, x13)
        refine d_join (σ := (Option Addr)) 5 #[true, true, true, true, false, false, false, false, false] (fun s => [(4, (pt x2)), (5, (pt x4)), (33, (.slice x3.2.2.A x3.2.2.n x3.2.2.c)), (34, (pt a0_g)), (35, (.slice s 3 3))]) (fun s => .row s 3 3 1 (ii ([(0:Int), (-1:Int), (9:Int)] : List Int)) :: .box a0_g 50 [(.slice a0_0_A a0_0_n a0_0_c), (i6 v5)] :: .box x4 25 [(.slice x3.1.A x3.1.n x3.1.c), (.slice x3.2.1.A x3.2.1.n x3.2.1.c), (.slice x3.2.2.A x3.2.2.n x3.2.2.c)] :: .row x3.1.A x3.1.c 3 1 (ii v1) :: .row x3.2.1.A x3.2.1.c 3 1 (ii v2) :: .row x3.2.2.A x3.2.2.c 3 1 (ii v3) :: .box x2 25 [(.slice none 0 0), (.slice none 0 0), (.slice none 0 0)] :: .box x1 25 [(.slice a1_0_A a1_0_n a1_0_c), (.slice a1_1_A a1_1_n a1_1_c), (.slice a1_2_A a1_2_n a1_2_c)] :: F) ?_ (fun hD15 => ?_)
        · rintro x11
          show J _ _ [(4, (pt x2)), (5, (pt x4)), (33, (.slice x3.2.2.A x3.2.2.n x3.2.2.c)), (34, (pt a0_g)), (35, (.slice x11 3 3))] _ (.row x11 3 3 1 (ii ([(0:Int), (-1:Int), (9:Int)] : List Int)) :: .box a0_g 50 [(.slice a0_0_A a0_0_n a0_0_c), (i6 v5)] :: .box x4 25 [(.slice x3.1.A x3.1.n x3.1.c), (.slice x3.2.1.A x3.2.1.n x3.2.1.c), (.slice x3.2.2.A x3.2.2.n x3.2.2.c)] :: .row x3.1.A x3.1.c 3 1 (ii v1) :: .row x3.2.1.A x3.2.1.c 3 1 (ii v2) :: .row x3.2.2.A x3.2.2.c 3 1 (ii v3) :: .box x2 25 [(.slice none 0 0), (.slice none 0 0), (.slice none 0 0)] :: .box x1 25 [(.slice a1_0_A a1_0_n a1_0_c), (.slice a1_1_A a1_1_n a1_1_c), (.slice a1_2_A a1_2_n a1_2_c)] :: F)
          refine d_one 4 (by kernel_rfl) ?_
          · refine j_rs (.box a0_g 50 [(.slice a0_0_A a0_0_n a0_0_c), (i6 v5)] :: .row x11 3 3 1 (ii ([(0:Int), (-1:Int), (9:Int)] : List Int)) :: .box x4 25 [(.slice x3.1.A x3.1.n x3.1.c), (.slice x3.2.1.A x3.2.1.n x3.2.1.c), (.slice x3.2.2.A x3.2.2.n x3.2.2.c)] :: .row x3.1.A x3.1.c 3 1 (ii v1) :: .row x3.2.1.A x3.2.1.c 3 1 (ii v2) :: .row x3.2.2.A x3.2.2.c 3 1 (ii v3) :: .box x2 25 [(.slice none 0 0), (.slice none 0 0), (.slice none 0 0)] :: .box x1 25 [(.slice a1_0_A a1_0_n a1_0_c), (.slice a1_1_A a1_1_n a1_1_c), (.slice a1_2_A a1_2_n a1_2_c)] :: F) (fun _ h => h.pick 8 [1, 0, 2, 3, 4, 5, 6, 7] rfl) ?_
            refine o_do rfl (a_call ok26 rfl rfl rfl rfl (fun w hm => spec_l13Rd_num.calls K a0_g a0_0 a0_0_A a0_0_n a0_0_c v5 ([(0:Int), (-1:Int), (9:Int)] : List Int) x11 3 3 hm a0_0_h (Rd.drop 7 a0_0_R) rfl (Rd.row 0 rfl) hb5)) rfl rfl (fun x12 w h => h.pick 8 [3, 4, 6, 7] rfl) (fun x12 => ?_)
            refine j_rs (.row x11 3 3 1 (ii ([(0:Int), (-1:Int), (9:Int)] : List Int)) :: .box a0_g 50 [(.slice a0_0_A a0_0_n a0_0_c), (i6 v11)] :: .box x4 25 [(.slice x3.1.A x3.1.n x3.1.c), (.slice x3.2.1.A x3.2.1.n x3.2.1.c), (.slice x3.2.2.A x3.2.2.n x3.2.2.c)] :: .row x3.1.A x3.1.c 3 1 (ii v1) :: .row x3.2.1.A x3.2.1.c 3 1 (ii v2) :: .row x3.2.2.A x3.2.2.c 3 1 (ii v3) :: .box x2 25 [(.slice none 0 0), (.slice none 0 0), (.slice none 0 0)] :: .box x1 25 [(.slice a1_0_A a1_0_n a1_0_c), (.slice a1_1_A a1_1_n a1_1_c), (.slice a1_2_A a1_2_n a1_2_c)] :: F) (fun _ h => h.pick 8 [1, 0, 2, 3, 4, 5, 6, 7] rfl) ?_
            refine j_env [(4, (pt x2)), (5, (pt x4)), (33, (.slice x3.2.2.A x3.2.2.n x3.2.2.c)), (36, (i6 v10))] ⟨rfl, rfl, rfl, rfl, trivial⟩ ?_
            exact hD31 (x11, x12)
        refine d_join (σ := (Option Addr) × Unit) 5 #[true, false, true, true, true, false, false, false, false] (fun s => [(4, (pt x2)), (5, (pt x4)), (32, (.pointer (some ⟨x4, 2, none⟩))), (36, (i6 v10))]) (fun s => .row s.1 3 3 1 (ii ([(0:Int), (-1:Int), (9:Int)] : List Int)) :: .box a0_g 50 [(.slice a0_0_A a0_0_n a0_0_c), (i6 v11)] :: .box x4 25 [(.slice x3.1.A x3.1.n x3.1.c), (.slice x3.2.1.A x3.2.1.n x3.2.1.c), (.slice x3.2.2.A x3.2.2.n x3.2.2.c)] :: .row x3.1.A x3.1.c 3 1 (ii v1) :: .row x3.2.1.A x3.2.1.c 3 1 (ii v2) :: .row x3.2.2.A x3.2.2.c 3 1 (ii v3) :: .box x2 25 [(.slice none 0 0), (.slice none 0 0), (.slice none 0 0)] :: .box x1 25 [(.slice a1_0_A a1_0_n a1_0_c), (.slice a1_1_A a1_1_n a1_1_c), (.slice a1_2_A a1_2_n a1_2_c)] :: F) ?_ (fun hD29 => ?_)
        · rintro ⟨x11, x12⟩
          show J _ _ [(4, (pt x2)), (5, (pt x4)), (32, (.pointer (some ⟨x4, 2, none⟩))), (36, (i6 v10))] _ (.row x11 3 3 1 (ii ([(0:Int), (-1:Int), (9:Int)] : List Int)) :: .box a0_g 50 [(.slice a0_0_A a0_0_n a0_0_c), (i6 v11)] :: .box x4 25 [(.slice x3.1.A x3.1.n x3.1.c), (.slice x3.2.1.A x3.2.1.n x3.2.1.c), (.slice x3.2.2.A x3.2.2.n x3.2.2.c)] :: .row x3.1.A x3.1.c 3 1 (ii v1) :: .row x3.2.1.A x3.2.1.c 3 1 (ii v2) :: .row x3.2.2.A x3.2.2.c 3 1 (ii v3) :: .box x2 25 [(.slice none 0 0), (.slice none 0 0), (.slice none 0 0)] :: .box x1 25 [(.slice a1_0_A a1_0_n a1_0_c), (.slice a1_1_A a1_1_n a1_1_c), (.slice a1_2_A a1_2_n a1_2_c)] :: F)
          refine d_two 1 5 (by kernel_rfl) ?_ ?_
          · refine o_do rfl ((q_loadb 2 rfl ag23 rfl rfl rfl)).acts rfl rfl (fun _ w h => h.pick 8 [3, 4, 6, 7] rfl) (fun _ => ?_)
            refine j_rs (.row x11 3 3 1 (ii ([(0:Int), (-1:Int), (9:Int)] : List Int)) :: .box a0_g 50 [(.slice a0_0_A a0_0_n a0_0_c), (i6 v11)] :: .box x4 25 [(.slice x3.1.A x3.1.n x3.1.c), (.slice x3.2.1.A x3.2.1.n x3.2.1.c), (.slice x3.2.2.A x3.2.2.n x3.2.2.c)] :: .row x3.1.A x3.1.c 3 1 (ii v1) :: .row x3.2.1.A x3.2.1.c 3 1 (ii v2) :: .row x3.2.2.A x3.2.2.c 3 1 (ii v3) :: .box x2 25 [(.slice none 0 0), (.slice none 0 0), (.slice none 0 0)] :: .box x1 25 [(.slice a1_0_A a1_0_n a1_0_c), (.slice a1_1_A a1_1_n a1_1_c), (.slice a1_2_A a1_2_n a1_2_c)] :: F) (fun _ h => h) ?_
            refine j_env [(4, (pt x2)), (5, (pt x4)), (33, (.slice x3.2.2.A x3.2.2.n x3.2.2.c)), (36, (i6 v10))] ⟨rfl, rfl, rfl, rfl, trivial⟩ ?_
            exact hD31 (x11, x12)
          · refine o_do rfl (a_litX (vs := [(i6 v10)]) (ii ([v10] : List Int)) un23 sz3 zr3 rfl rfl rfl rfl rfl rfl rfl rfl rfl) rfl rfl (fun x13 w h => h.pick 9 [4, 5, 7, 8] rfl) (fun x13 => ?_)
            refine j_rs (.row x11 3 3 1 (ii ([(0:Int), (-1:Int), (9:Int)] : List Int)) :: .row x13 1 3 1 (ii ([v10] : List Int)) :: .box a0_g 50 [(.slice a0_0_A a0_0_n a0_0_c), (i6 v11)] :: .box x4 25 [(.slice x3.1.A x3.1.n x3.1.c), (.slice x3.2.1.A x3.2.1.n x3.2.1.c), (.slice x3.2.2.A x3.2.2.n x3.2.2.c)] :: .row x3.1.A x3.1.c 3 1 (ii v1) :: .row x3.2.1.A x3.2.1.c 3 1 (ii v2) :: .row x3.2.2.A x3.2.2.c 3 1 (ii v3) :: .box x2 25 [(.slice none 0 0), (.slice none 0 0), (.slice none 0 0)] :: .box x1 25 [(.slice a1_0_A a1_0_n a1_0_c), (.slice a1_1_A a1_1_n a1_1_c), (.slice a1_2_A a1_2_n a1_2_c)] :: F) (fun _ h => h.pick 9 [1, 0, 2, 3, 4, 5, 6, 7, 8] rfl) ?_
            refine j_env [(4, (pt x2)), (5, (pt x4)), (32, (.pointer (some ⟨x4, 2, none⟩))), (37, (.slice x13 1 1))] ⟨rfl, rfl, rfl, rfl, trivial⟩ ?_
            exact hD61 (x11, x12, x13)
        refine d_join (σ := Unit) 6 #[true, true, true, false, false, false, false, false, false] (fun s => [(4, (pt x2)), (5, (pt x4)), (33, (.slice x3.2.2.A x3.2.2.n x3.2.2.c)), (34, (pt a0_g))]) (fun s => .box a0_g 50 [(.slice a0_0_A a0_0_n a0_0_c), (i6 v5)] :: .box x4 25 [(.slice x3.1.A x3.1.n x3.1.c), (.slice x3.2.1.A x3.2.1.n x3.2.1.c), (.slice x3.2.2.A x3.2.2.n x3.2.2.c)] :: .row x3.1.A x3.1.c 3 1 (ii v1) :: .row x3.2.1.A x3.2.1.c 3 1 (ii v2) :: .row x3.2.2.A x3.2.2.c 3 1 (ii v3) :: .box x2 25 [(.slice none 0 0), (.slice none 0 0), (.slice none 0 0)] :: .box x1 25 [(.slice a1_0_A a1_0_n a1_0_c), (.slice a1_1_A a1_1_n a1_1_c), (.slice a1_2_A a1_2_n a1_2_c)] :: F) ?_ (fun hD7 => ?_)
        · rintro _
          show J _ _ [(4, (pt x2)), (5, (pt x4)), (33, (.slice x3.2.2.A x3.2.2.n x3.2.2.c)), (34, (pt a0_g))] _ (.box a0_g 50 [(.slice a0_0_A a0_0_n a0_0_c), (i6 v5)] :: .box x4 25 [(.slice x3.1.A x3.1.n x3.1.c), (.slice x3.2.1.A x3.2.1.n x3.2.1.c), (.slice x3.2.2.A x3.2.2.n x3.2.2.c)] :: .row x3.1.A x3.1.c 3 1 (ii v1) :: .row x3.2.1.A x3.2.1.c 3 1 (ii v2) :: .row x3.2.2.A x3.2.2.c 3 1 (ii v3) :: .box x2 25 [(.slice none 0 0), (.slice none 0 0), (.slice none 0 0)] :: .box x1 25 [(.slice a1_0_A a1_0_n a1_0_c), (.slice a1_1_A a1_1_n a1_1_c), (.slice a1_2_A a1_2_n a1_2_c)] :: F)
          refine d_one 3 (by kernel_rfl) ?_
          · refine o_do rfl (a_litX (vs := [(i6 (0:Int)), (i6 (-1:Int)), (i6 (9:Int))]) (ii ([(0:Int), (-1:Int), (9:Int)] : List Int)) un23 sz3 zr3 rfl rfl rfl rfl rfl rfl rfl rfl rfl) rfl rfl (fun x11 w h => h.pick 8 [3, 4, 6, 7] rfl) (fun x11 => ?_)
            refine j_rs (.row x11 3 3 1 (ii ([(0:Int), (-1:Int), (9:Int)] : List Int)) :: .box a0_g 50 [(.slice a0_0_A a0_0_n a0_0_c), (i6 v5)] :: .box x4 25 [(.slice x3.1.A x3.1.n x3.1.c), (.slice x3.2.1.A x3.2.1.n x3.2.1.c), (.slice x3.2.2.A x3.2.2.n x3.2.2.c)] :: .row x3.1.A x3.1.c 3 1 (ii v1) :: .row x3.2.1.A x3.2.1.c 3 1 (ii v2) :: .row x3.2.2.A x3.2.2.c 3 1 (ii v3) :: .box x2 25 [(.slice none 0 0), (.slice none 0 0), (.slice none 0 0)] :: .box x1 25 [(.slice a1_0_A a1_0_n a1_0_c), (.slice a1_1_A a1_1_n a1_1_c), (.slice a1_2_A a1_2_n a1_2_c)] :: F) (fun _ h => h) ?_
            refine j_env [(4, (pt x2)), (5, (pt x4)), (33, (.slice x3.2.2.A x3.2.2.n x3.2.2.c)), (34, (pt a0_g)), (35, (.slice x11 3 3))] ⟨rfl, rfl, rfl, rfl, rfl, trivial⟩ ?_
            exact hD15 x11
        refine d_join (σ := (Option Addr)) 6 #[true, false, true, true, false, false, false, false, false] (fun s => [(4, (pt x2)), (5, (pt x4)), (32, (.pointer (some ⟨x4, 2, none⟩))), (34, (pt a0_g)), (35, (.slice s 3 3))]) (fun s => .row s 3 3 1 (ii ([(0:Int), (-1:Int), (9:Int)] : List Int)) :: .box a0_g 50 [(.slice a0_0_A a0_0_n a0_0_c), (i6 v5)] :: .box x4 25 [(.slice x3.1.A x3.1.n x3.1.c), (.slice x3.2.1.A x3.2.1.n x3.2.1.c), (.slice x3.2.2.A x3.2.2.n x3.2.2.c)] :: .row x3.1.A x3.1.c 3 1 (ii v1) :: .row x3.2.1.A x3.2.1.c 3 1 (ii v2) :: .row x3.2.2.A x3.2.2.c 3 1 (ii v3) :: .box x2 25 [(.slice none 0 0), (.slice none 0 0), (.slice none 0 0)] :: .box x1 25 [(.slice a1_0_A a1_0_n a1_0_c), (.slice a1_1_A a1_1_n a1_1_c), (.slice a1_2_A a1_2_n a1_2_c)] :: F) ?_ (fun hD13 => ?_)
        · rintro x11
          show J _ _ [(4, (pt x2)), (5, (pt x4)), (32, (.pointer (some ⟨x4, 2, none⟩))), (34, (pt a0_g)), (35, (.slice x11 3 3))] _ (.row x11 3 3 1 (ii ([(0:Int), (-1:Int), (9:Int)] : List Int)) :: .box a0_g 50 [(.slice a0_0_A a0_0_n a0_0_c), (i6 v5)] :: .box x4 25 [(.slice x3.1.A x3.1.n x3.1.c), (.slice x3.2.1.A x3.2.1.n x3.2.1.c), (.slice x3.2.2.A x3.2.2.n x3.2.2.c)] :: .row x3.1.A x3.1.c 3 1 (ii v1) :: .row x3.2.1.A x3.2.1.c 3 1 (ii v2) :: .row x3.2.2.A x3.2.2.c 3 1 (ii v3) :: .box x2 25 [(.slice none 0 0), (.slice none 0 0), (.slice none 0 0)] :: .box x1 25 [(.slice a1_0_A a1_0_n a1_0_c), (.slice a1_1_A a1_1_n a1_1_c), (.slice a1_2_A a1_2_n a1_2_c)] :: F)
          refine d_two 1 4 (by kernel_rfl) ?_ ?_
          · refine o_do rfl ((q_loadb 2 rfl ag23 rfl rfl rfl)).acts rfl rfl (fun _ w h => h.pick 8 [3, 4, 6, 7] rfl) (fun _ => ?_)
            refine j_rs (.row x11 3 3 1 (ii ([(0:Int), (-1:Int), (9:Int)] : List Int)) :: .box a0_g 50 [(.slice a0_0_A a0_0_n a0_0_c), (i6 v5)] :: .box x4 25 [(.slice x3.1.A x3.1.n x3.1.c), (.slice x3.2.1.A x3.2.1.n x3.2.1.c), (.slice x3.2.2.A x3.2.2.n x3.2.2.c)] :: .row x3.1.A x3.1.c 3 1 (ii v1) :: .row x3.2.1.A x3.2.1.c 3 1 (ii v2) :: .row x3.2.2.A x3.2.2.c 3 1 (ii v3) :: .box x2 25 [(.slice none 0 0), (.slice none 0 0), (.slice none 0 0)] :: .box x1 25 [(.slice a1_0_A a1_0_n a1_0_c), (.slice a1_1_A a1_1_n a1_1_c), (.slice a1_2_A a1_2_n a1_2_c)] :: F) (fun _ h => h) ?_
            refine j_env [(4, (pt x2)), (5, (pt x4)), (33, (.slice x3.2.2.A x3.2.2.n x3.2.2.c)), (34, (pt a0_g)), (35, (.slice x11 3 3))] ⟨rfl, rfl, rfl, rfl, rfl, trivial⟩ ?_
            exact hD15 x11
          · refine j_rs (.box a0_g 50 [(.slice a0_0_A a0_0_n a0_0_c), (i6 v5)] :: .row x11 3 3 1 (ii ([(0:Int), (-1:Int), (9:Int)] : List Int)) :: .box x4 25 [(.slice x3.1.A x3.1.n x3.1.c), (.slice x3.2.1.A x3.2.1.n x3.2.1.c), (.slice x3.2.2.A x3.2.2.n x3.2.2.c)] :: .row x3.1.A x3.1.c 3 1 (ii v1) :: .row x3.2.1.A x3.2.1.c 3 1 (ii v2) :: .row x3.2.2.A x3.2.2.c 3 1 (ii v3) :: .box x2 25 [(.slice none 0 0), (.slice none 0 0), (.slice none 0 0)] :: .box x1 25 [(.slice a1_0_A a1_0_n a1_0_c), (.slice a1_1_A a1_1_n a1_1_c), (.slice a1_2_A a1_2_n a1_2_c)] :: F) (fun _ h => h.pick 8 [1, 0, 2, 3, 4, 5, 6, 7] rfl) ?_
            refine o_do rfl (a_call ok26 rfl rfl rfl rfl (fun w hm => spec_l13Rd_num.calls K a0_g a0_0 a0_0_A a0_0_n a0_0_c v5 ([(0:Int), (-1:Int), (9:Int)] : List Int) x11 3 3 hm a0_0_h (Rd.drop 7 a0_0_R) rfl (Rd.row 0 rfl) hb5)) rfl rfl (fun x12 w h => h.pick 8 [3, 4, 6, 7] rfl) (fun x12 => ?_)
            refine j_rs (.row x11 3 3 1 (ii ([(0:Int), (-1:Int), (9:Int)] : List Int)) :: .box a0_g 50 [(.slice a0_0_A a0_0_n a0_0_c), (i6 v11)] :: .box x4 25 [(.slice x3.1.A x3.1.n x3.1.c), (.slice x3.2.1.A x3.2.1.n x3.2.1.c), (.slice x3.2.2.A x3.2.2.n x3.2.2.c)] :: .row x3.1.A x3.1.c 3 1 (ii v1) :: .row x3.2.1.A x3.2.1.c 3 1 (ii v2) :: .row x3.2.2.A x3.2.2.c 3 1 (ii v3) :: .box x2 25 [(.slice none 0 0), (.slice none 0 0), (.slice none 0 0)] :: .box x1 25 [(.slice a1_0_A a1_0_n a1_0_c), (.slice a1_1_A a1_1_n a1_1_c), (.slice a1_2_A a1_2_n a1_2_c)] :: F) (fun _ h => h.pick 8 [1, 0, 2, 3, 4, 5, 6, 7] rfl) ?_
            refine j_env [(4, (pt x2)), (5, (pt x4)), (32, (.pointer (some ⟨x4, 2, none⟩))), (36, (i6 v10))] ⟨rfl, rfl, rfl, rfl, trivial⟩ ?_
            exact hD29 (x11, x12)
        refine d_two 1 3 (by kernel_rfl) ?_ ?_
        · refine o_do rfl ((q_loadb 1 rfl ag23 rfl rfl rfl)).acts rfl rfl (fun _ w h => h.pick 7 [2, 3, 5, 6] rfl) (fun _ => ?_)
          refine j_rs (.box a0_g 50 [(.slice a0_0_A a0_0_n a0_0_c), (i6 v5)] :: .box x4 25 [(.slice x3.1.A x3.1.n x3.1.c), (.slice x3.2.1.A x3.2.1.n x3.2.1.c), (.slice x3.2.2.A x3.2.2.n x3.2.2.c)] :: .row x3.1.A x3.1.c 3 1 (ii v1) :: .row x3.2.1.A x3.2.1.c 3 1 (ii v2) :: .row x3.2.2.A x3.2.2.c 3 1 (ii v3) :: .box x2 25 [(.slice none 0 0), (.slice none 0 0), (.slice none 0 0)] :: .box x1 25 [(.slice a1_0_A a1_0_n a1_0_c), (.slice a1_1_A a1_1_n a1_1_c), (.slice a1_2_A a1_2_n a1_2_c)] :: F) (fun _ h => h) ?_
          refine j_env [(4, (pt x2)), (5, (pt x4)), (33, (.slice x3.2.2.A x3.2.2.n x3.2.2.c)), (34, (pt a0_g))] ⟨rfl, rfl, rfl, rfl, trivial⟩ ?_
          exact hD7 ()
        · refine o_do rfl (a_litX (vs := [(i6 (0:Int)), (i6 (-1:Int)), (i6 (9:Int))]) (ii ([(0:Int), (-1:Int), (9:Int)] : List Int)) un23 sz3 zr3 rfl rfl rfl rfl rfl rfl rfl rfl rfl) rfl rfl (fun x11 w h => h.pick 8 [3, 4, 6, 7] rfl) (fun x11 => ?_)
          refine j_rs (.row x11 3 3 1 (ii ([(0:Int), (-1:Int), (9:Int)] : List Int)) :: .box a0_g 50 [(.slice a0_0_A a0_0_n a0_0_c), (i6 v5)] :: .box x4 25 [(.slice x3.1.A x3.1.n x3.1.c), (.slice x3.2.1.A x3.2.1.n x3.2.1.c), (.slice x3.2.2.A x3.2.2.n x3.2.2.c)] :: .row x3.1.A x3.1.c 3 1 (ii v1) :: .row x3.2.1.A x3.2.1.c 3 1 (ii v2) :: .row x3.2.2.A x3.2.2.c 3 1 (ii v3) :: .box x2 25 [(.slice none 0 0), (.slice none 0 0), (.slice none 0 0)] :: .box x1 25 [(.slice a1_0_A a1_0_n a1_0_c), (.slice a1_1_A a1_1_n a1_1_c), (.slice a1_2_A a1_2_n a1_2_c)] :: F) (fun _ h => h) ?_
          refine j_env [(4, (pt x2)), (5, (pt x4)), (32, (.pointer (some ⟨x4, 2, none⟩))), (34, (pt a0_g)), (35, (.slice x11 3 3))] ⟨rfl, rfl, rfl, rfl, rfl, trivial⟩ ?_
          exact hD13 x11
      · refine j_false rfl (beq_f c5) ?_
        refine j_seq ?_
        refine j_region ?_
        refine r_q (q_eql rfl rfl rfl) rfl rfl ?_
        refine r_q (q_assign rfl rfl) rfl rfl ?_
        refine r_nil ?_
        refine j_then ?_
        rcases of_if h with ⟨c7, h⟩ | ⟨c7, h⟩
        · refine j_true rfl (beq_t c7) ?_
          refine j_region ?_
          refine r_do (a_litX (vs := []) (ii ([] : List Int)) un23 sz3 zr3 rfl rfl rfl rfl rfl rfl rfl rfl rfl) rfl rfl (fun x15 => ?_)
          refine r_q (q_fieldAddr fi25_2 sz23 rfl rfl rfl) rfl rfl ?_
          refine r_do (a_storeb 2 rfl sz23 rfl rfl rfl rfl (Nat.le_of_ble_eq_true rfl) rfl) rfl rfl (fun _ => ?_)
          refine j_b2 [(.slice x3.1.A x3.1.n x3.1.c), (.slice x3.2.1.A x3.2.1.n x3.2.1.c), (.slice x15 0 0)] rfl ?_
          refine r_nil ?_
          refine j_in ?_
          refine j_then ?_
          refine j_seq ?_
          refine j_region ?_
          refine r_q (q_loadb_agg 2 rfl ag25 sz25 rfl rfl rfl rfl) rfl rfl ?_
          refine r_do (a_storeb 6 rfl sz25 rfl rfl rfl rfl (Nat.le_of_ble_eq_true rfl) rfl) rfl rfl (fun _ => ?_)
          refine j_b6 [(.slice x3.1.A x3.1.n x3.1.c), (.slice x3.2.1.A x3.2.1.n x3.2.1.c), (.slice x15 0 0)] rfl ?_
          refine r_nil ?_
          refine j_then ?_
          refine j_ret ?_
          cases h
          exact j_return rfl (ResOf.cell 6 rfl rfl ag25 sz25 ResOf.nil) rfl (fun w h => ⟨(⟨x3.1.A, x3.1.n, x3.1.c, x3.1.h⟩, ⟨x3.2.1.A, x3.2.1.n, x3.2.1.c, x3.2.1.h⟩, ⟨x15, 0, 0, rfl⟩), rfl, h.pick 8 [3, 4, 0, 1] rfl⟩)
        · refine j_false rfl (beq_f c7) ?_
          refine j_skip ?_
          refine j_in ?_
          refine j_then ?_
          refine j_seq ?_
          refine j_region ?_
          refine r_q (q_loadb_agg 1 rfl ag25 sz25 rfl rfl rfl rfl) rfl rfl ?_
          refine r_do (a_storeb 5 rfl sz25 rfl rfl rfl rfl (Nat.le_of_ble_eq_true rfl) rfl) rfl rfl (fun _ => ?_)
          refine j_b5 [(.slice x3.1.A x3.1.n x3.1.c), (.slice x3.2.1.A x3.2.1.n x3.2.1.c), (.slice x3.2.2.A x3.2.2.n x3.2.2.c)] rfl ?_
          refine r_nil ?_
          refine j_then ?_
          refine j_ret ?_
          cases h
          exact j_return rfl (ResOf.cell 5 rfl rfl ag25 sz25 ResOf.nil) rfl (fun w h => ⟨(⟨x3.1.A, x3.1.n, x3.1.c, x3.1.h⟩, ⟨x3.2.1.A, x3.2.1.n, x3.2.1.c, x3.2.1.h⟩, ⟨x3.2.2.A, x3.2.2.n, x3.2.2.c, x3.2.2.h⟩), rfl, h.pick 7 [2, 3, 4, 0] rfl⟩)

theorem spec_l4Wrong.calls (K : Nat) (a0_g : Nat) (a0_0 : List Int) (a0_0_A : Option Addr) (a0_0_n a0_0_c : Nat) (a0_1 : Int) (a1_0 : List Int) (a1_0_A : Option Addr) (a1_0_n a1_0_c : Nat) (a1_1 : List Int) (a1_1_A : Option Addr) (a1_1_n a1_1_c : Nat) (a1_2 : List Int) (a1_2_A : Option Addr) (a1_2_n a1_2_c : Nat) (a1_3 : List Int) (a1_3_A : Option Addr) (a1_3_n a1_3_c : Nat) {w0 w : World} {F : List Res} {r1 : List Int} {r2 : List Int} {r3 : List Int} {r4 : List Int} {r5 : Int} (hm : Mem w0 (.box a0_g 50 [.slice a0_0_A a0_0_n a0_0_c, i6 a0_1] :: F) w) (a0_0_h : a0_0.length = a0_0_n) (a0_0_R : Rd w0 F a0_0_A (ints .u8 a0_0)) (a1_0_h : a1_0.length = a1_0_n) (a1_0_R : Rd w0 F a1_0_A (ii a1_0)) (a1_1_h : a1_1.length = a1_1_n) (a1_1_R : Rd w0 F a1_1_A (ii a1_1)) (a1_2_h : a1_2.length = a1_2_n) (a1_2_R : Rd w0 F a1_2_A (ii a1_2)) (a1_3_h : a1_3.length = a1_3_n) (a1_3_R : Rd w0 F a1_3_A (ii a1_3)) (h : spec_l4Wrong.f K a0_0 a0_1 a1_0 a1_1 a1_2 a1_3 = some (r1, r2, r3, r4, r5)) :
    Calls Try.prog 11 (List.toArray [pt a0_g, .agg (List.toArray [.slice a1_0_A a1_0_n a1_0_c, .slice a1_1_A a1_1_n a1_1_c, .slice a1_2_A a1_2_n a1_2_c, .slice a1_3_A a1_3_n a1_3_c])]) w fun e w' => ∃ x : (Sl r1.length) × (Sl r2.length) × (Sl r3.length) × (Sl r4.length), e = .returned (.agg (List.toArray [.slice x.1.A x.1.n x.1.c, .slice x.2.1.A x.2.1.n x.2.1.c, .slice x.2.2.1.A x.2.2.1.n x.2.2.1.c, .slice x.2.2.2.A x.2.2.2.n x.2.2.2.c])) ∧ Mem w0 (.row x.1.A x.1.c 3 1 (ii r1) :: .row x.2.1.A x.2.1.c 3 1 (ii r2) :: .row x.2.2.1.A x.2.2.1.c 3 1 (ii r3) :: .row x.2.2.2.A x.2.2.2.c 3 1 (ii r4) :: .box a0_g 50 [.slice a0_0_A a0_0_n a0_0_c, i6 r5] :: F) w' := by
  unfold spec_l4Wrong.f at h
  refine calls_of_J (n := 30) Try.func11 rfl rfl rfl hm ?_
  refine j_seq ?_
  refine j_region ?_
  refine r_do (a_box rfl rfl) rfl rfl (fun x1 => ?_)
  refine r_do (a_alloc zr27 rfl) rfl rfl (fun x2 => ?_)
  refine r_nil ?_
  refine j_then ?_
  refine j_seq ?_
  refine j_region ?_
  refine r_q (q_loadb_agg 1 rfl ag27 sz27 rfl rfl rfl rfl) rfl rfl ?_
  obtain ⟨v1, v2, v3, v4, hb1, h⟩ := of_b4 h
  refine r_do (a_call ok21 rfl rfl rfl rfl (fun w hm => spec_l4Copy.calls K a1_0 a1_0_A a1_0_n a1_0_c a1_1 a1_1_A a1_1_n a1_1_c a1_2 a1_2_A a1_2_n a1_2_c a1_3 a1_3_A a1_3_n a1_3_c hm a1_0_h (Rd.drop 3 a1_0_R) a1_1_h (Rd.drop 3 a1_1_R) a1_2_h (Rd.drop 3 a1_2_R) a1_3_h (Rd.drop 3 a1_3_R) hb1)) rfl rfl (fun x3 => ?_)
  refine r_do (a_alloc zr27 rfl) rfl rfl (fun x4 => ?_)
  refine r_do (a_storeb 0 rfl sz27 rfl rfl rfl rfl (Nat.le_of_ble_eq_true rfl) rfl) rfl rfl (fun _ => ?_)
  refine j_b0 [(.slice x3.1.A x3.1.n x3.1.c), (.slice x3.2.1.A x3.2.1.n x3.2.1.c), (.slice x3.2.2.1.A x3.2.2.1.n x3.2.2.1.c), (.slice x3.2.2.2.A x3.2.2.2.n x3.2.2.2.c)] rfl ?_
  refine r_nil ?_
  refine j_then ?_
  refine j_seq ?_
  refine j_seq ?_
  refine j_region ?_
  refine r_q (q_move rfl rfl) rfl rfl ?_
  obtain ⟨v5, v6, hb2, h⟩ := of_b2 h
  refine j_rs (.box a0_g 50 [(.slice a0_0_A a0_0_n a0_0_c), (i6 a0_1)] :: .box x4 27 [(.slice x3.1.A x3.1.n x3.1.c), (.slice x3.2.1.A x3.2.1.n x3.2.1.c), (.slice x3.2.2.1.A x3.2.2.1.n x3.2.2.1.c), (.slice x3.2.2.2.A x3.2.2.2.n x3.2.2.2.c)] :: .row x3.1.A x3.1.c 3 1 (ii v1) :: .row x3.2.1.A x3.2.1.c 3 1 (ii v2) :: .row x3.2.2.1.A x3.2.2.1.c 3 1 (ii v3) :: .row x3.2.2.2.A x3.2.2.2.c 3 1 (ii v4) :: .box x2 27 [(.slice none 0 0), (.slice none 0 0), (.slice none 0 0), (.slice none 0 0)] :: .box x1 27 [(.slice a1_0_A a1_0_n a1_0_c), (.slice a1_1_A a1_1_n a1_1_c), (.slice a1_2_A a1_2_n a1_2_c), (.slice a1_3_A a1_3_n a1_3_c)] :: F) (fun _ h => h.pick 8 [7, 0, 1, 2, 3, 4, 5, 6] rfl) ?_
  refine r_do (a_call ok25 rfl rfl rfl rfl (fun w hm => spec_l13Rd_pick.calls K a0_g a0_0 a0_0_A a0_0_n a0_0_c a0_1 (20:Int) hm a0_0_h (Rd.drop 7 a0_0_R) hb2)) rfl rfl (fun x5 => ?_)
  refine r_nil ?_
  refine j_then ?_
  refine j_block ?_
  refine j_seq ?_
  refine j_region ?_
  refine r_q (q_eql rfl rfl rfl) rfl rfl ?_
  refine r_q (q_assign rfl rfl) rfl rfl ?_
  refine r_nil ?_
  refine j_then ?_
  rcases of_if h with ⟨c1, h⟩ | ⟨c1, h⟩
  · refine j_true rfl (beq_t c1) ?_
    obtain ⟨v7, v8, hb3, h⟩ := of_b2 h
    obtain ⟨c2, h⟩ := of_guard h
    refine j_draw (.row x3.1.A x3.1.c 3 1 (ii v1) :: .row x3.2.1.A x3.2.1.c 3 1 (ii v2) :: .row x3.2.2.1.A x3.2.2.1.c 3 1 (ii v3) :: .box x2 27 [(.slice none 0 0), (.slice none 0 0), (.slice none 0 0), (.slice none 0 0)] :: .box x1 27 [(.slice a1_0_A a1_0_n a1_0_c), (.slice a1_1_A a1_1_n a1_1_c), (.slice a1_2_A a1_2_n a1_2_c), (.slice a1_3_A a1_3_n a1_3_c)] :: F) 9 follows_any rfl ?_
    refine d_take 0 rfl (q_fieldAddr fi27_1 sz23 rfl rfl rfl) rfl rfl (by kernel_rfl) (by kernel_rfl) (by kernel_rfl) (fun w h => h.pick 8 [2, 3, 4, 6, 7] rfl) ?_
    refine d_take 2 rfl (q_move rfl rfl) rfl rfl (by kernel_rfl) (by kernel_rfl) (by kernel_rfl) (fun w h => h.pick 8 [2, 3, 4, 6, 7] rfl) ?_
    refine d_join (σ := (Option Addr) × Unit × (Option Addr) × (Option Addr × Nat)) 0 #[true, true, true, true, true, true, true, true, true] (fun s => [(4, (pt x2)), (5, (pt x4))]) (fun s => .row s.1 4 3 1 (ii ([(0:Int), (1:Int), (8:Int), (-1:Int)] : List Int)) :: .row s.2.2.1 1 3 1 (ii ([v7] : List Int)) :: .row s.2.2.2.1 s.2.2.2.2 3 1 (ii (v4 ++ ([v7] : List Int))) :: .box a0_g 50 [(.slice a0_0_A a0_0_n a0_0_c), (i6 v8)] :: .box x4 27 [(.slice x3.1.A x3.1.n x3.1.c), (.slice x3.2.1.A x3.2.1.n x3.2.1.c), (.slice x3.2.2.1.A x3.2.2.1.n x3.2.2.1.c), (.slice s.2.2.2.1 (x3.2.2.2.n + 1) s.2.2.2.2)] :: .row x3.1.A x3.1.c 3 1 (ii v1) :: .row x3.2.1.A x3.2.1.c 3 1 (ii v2) :: .row x3.2.2.1.A x3.2.2.1.c 3 1 (ii v3) :: .box x2 27 [(.slice none 0 0), (.slice none 0 0), (.slice none 0 0), (.slice none 0 0)] :: .box x1 27 [(.slice a1_0_A a1_0_n a1_0_c), (.slice a1_1_A a1_1_n a1_1_c), (.slice a1_2_A a1_2_n a1_2_c), (.slice a1_3_A a1_3_n a1_3_c)] :: F) ?_ (fun hD511 => ?_)
    · rintro ⟨x6, x7, x8, x9⟩
      show J _ _ [(4, (pt x2)), (5, (pt x4))] _ (.row x6 4 3 1 (ii ([(0:Int), (1:Int), (8:Int), (-1:Int)] : List Int)) :: .row x8 1 3 1 (ii ([v7] : List Int)) :: .row x9.1 x9.2 3 1 (ii (v4 ++ ([v7] : List Int))) :: .box a0_g 50 [(.slice a0_0_A a0_0_n a0_0_c), (i6 v8)] :: .box x4 27 [(.slice x3.1.A x3.1.n x3.1.c), (.slice x3.2.1.A x3.2.1.n x3.2.1.c), (.slice x3.2.2.1.A x3.2.2.1.n x3.2.2.1.c), (.slice x9.1 (x3.2.2.2.n + 1) x9.2)] :: .row x3.1.A x3.1.c 3 1 (ii v1) :: .row x3.2.1.A x3.2.1.c 3 1 (ii v2) :: .row x3.2.2.1.A x3.2.2.1.c 3 1 (ii v3) :: .box x2 27 [(.slice none 0 0), (.slice none 0 0), (.slice none 0 0), (.slice none 0 0)] :: .box x1 27 [(.slice a1_0_A a1_0_n a1_0_c), (.slice a1_1_A a1_1_n a1_1_c), (.slice a1_2_A a1_2_n a1_2_c), (.slice a1_3_A a1_3_n a1_3_c)] :: F)
      refine d_done (by kernel_rfl) ?_
      refine j_in ?_
      refine j_then ?_
      refine j_seq ?_
      refine j_region ?_
      refine r_q (q_loadb_agg 4 rfl ag27 sz27 rfl rfl rfl rfl) rfl rfl ?_
      refine r_do (a_storeb 8 rfl sz27 rfl rfl rfl rfl (Nat.le_of_ble_eq_true rfl) rfl) rfl rfl (fun _ => ?_)
      refine j_b8 [(.slice x3.1.A x3.1.n x3.1.c), (.slice x3.2.1.A x3.2.1.n x3.2.1.c), (.slice x3.2.2.1.A x3.2.2.1.n x3.2.2.1.c), (.slice x9.1 (x3.2.2.2.n + 1) x9.2)] rfl ?_
      refine r_nil ?_
      refine j_then ?_
      refine j_ret ?_
      cases h
      exact j_return rfl (ResOf.cell 8 rfl rfl ag27 sz27 ResOf.nil) rfl (fun w h => ⟨(⟨x3.1.A, x3.1.n, x3.1.c, x3.1.h⟩, ⟨x3.2.1.A, x3.2.1.n, x3.2.1.c, x3.2.1.h⟩, ⟨x3.2.2.1.A, x3.2.2.1.n, x3.2.2.1.c, x3.2.2.1.h⟩, ⟨x9.1, (x3.2.2.2.n + 1), x9.2, (app_len x3.2.2.2.h rfl)⟩), rfl, h.pick 10 [5, 6, 7, 2, 3] rfl⟩)
    refine d_join (σ := (Option Addr) × Unit × (Option Addr) × (Option Addr × Nat)) 1 #[true, true, true, true, true, true, true, true, false] (fun s => [(4, (pt x2)), (5, (pt x4)), (18, (.slice s.2.2.2.1 (x3.2.2.2.n + 1) s.2.2.2.2)), (19, (.pointer (some ⟨x4, 3, none⟩)))]) (fun s => .row s.1 4 3 1 (ii ([(0:Int), (1:Int), (8:Int), (-1:Int)] : List Int)) :: .row s.2.2.1 1 3 1 (ii ([v7] : List Int)) :: .row s.2.2.2.1 s.2.2.2.2 3 1 (ii (v4 ++ ([v7] : List Int))) :: .box a0_g 50 [(.slice a0_0_A a0_0_n a0_0_c), (i6 v8)] :: .box x4 27 [(.slice x3.1.A x3.1.n x3.1.c), (.slice x3.2.1.A x3.2.1.n x3.2.1.c), (.slice x3.2.2.1.A x3.2.2.1.n x3.2.2.1.c), (.slice x3.2.2.2.A x3.2.2.2.n x3.2.2.2.c)] :: .row x3.1.A x3.1.c 3 1 (ii v1) :: .row x3.2.1.A x3.2.1.c 3 1 (ii v2) :: .row x3.2.2.1.A x3.2.2.1.c 3 1 (ii v3) :: .box x2 27 [(.slice none 0 0), (.slice none 0 0), (.slice none 0 0), (.slice none 0 0)] :: .box x1 27 [(.slice a1_0_A a1_0_n a1_0_c), (.slice a1_1_A a1_1_n a1_1_c), (.slice a1_2_A a1_2_n a1_2_c), (.slice a1_3_A a1_3_n a1_3_c)] :: F) ?_ (fun hD255 => ?_)
    · rintro ⟨x6, x7, x8, x9⟩
      show J _ _ [(4, (pt x2)), (5, (pt x4)), (18, (.slice x9.1 (x3.2.2.2.n + 1) x9.2)), (19, (.pointer (some ⟨x4, 3, none⟩)))] _ (.row x6 4 3 1 (ii ([(0:Int), (1:Int), (8:Int), (-1:Int)] : List Int)) :: .row x8 1 3 1 (ii ([v7] : List Int)) :: .row x9.1 x9.2 3 1 (ii (v4 ++ ([v7] : List Int))) :: .box a0_g 50 [(.slice a0_0_A a0_0_n a0_0_c), (i6 v8)] :: .box x4 27 [(.slice x3.1.A x3.1.n x3.1.c), (.slice x3.2.1.A x3.2.1.n x3.2.1.c), (.slice x3.2.2.1.A x3.2.2.1.n x3.2.2.1.c), (.slice x3.2.2.2.A x3.2.2.2.n x3.2.2.2.c)] :: .row x3.1.A x3.1.c 3 1 (ii v1) :: .row x3.2.1.A x3.2.1.c 3 1 (ii v2) :: .row x3.2.2.1.A x3.2.2.1.c 3 1 (ii v3) :: .box x2 27 [(.slice none 0 0), (.slice none 0 0), (.slice none 0 0), (.slice none 0 0)] :: .box x1 27 [(.slice a1_0_A a1_0_n a1_0_c), (.slice a1_1_A a1_1_n a1_1_c), (.slice a1_2_A a1_2_n a1_2_c), (.slice a1_3_A a1_3_n a1_3_c)] :: F)
      refine d_one 8 (by kernel_rfl) ?_
      · refine o_do rfl (a_storeb 4 rfl sz23 rfl rfl rfl rfl (Nat.le_of_ble_eq_true rfl) rfl) rfl rfl (fun _ w h => (h.drop 5)) (fun _ => ?_)
        refine j_b4 [(.slice x3.1.A x3.1.n x3.1.c), (.slice x3.2.1.A x3.2.1.n x3.2.1.c), (.slice x3.2.2.1.A x3.2.2.1.n x3.2.2.1.c), (.slice x9.1 (x3.2.2.2.n + 1) x9.2)] rfl ?_
        refine j_rs (.row x6 4 3 1 (ii ([(0:Int), (1:Int), (8:Int), (-1:Int)] : List Int)) :: .row x8 1 3 1 (ii ([v7] : List Int)) :: .row x9.1 x9.2 3 1 (ii (v4 ++ ([v7] : List Int))) :: .box a0_g 50 [(.slice a0_0_A a0_0_n a0_0_c), (i6 v8)] :: .box x4 27 [(.slice x3.1.A x3.1.n x3.1.c), (.slice x3.2.1.A x3.2.1.n x3.2.1.c), (.slice x3.2.2.1.A x3.2.2.1.n x3.2.2.1.c), (.slice x9.1 (x3.2.2.2.n + 1) x9.2)] :: .row x3.1.A x3.1.c 3 1 (ii v1) :: .row x3.2.1.A x3.2.1.c 3 1 (ii v2) :: .row x3.2.2.1.A x3.2.2.1.c 3 1 (ii v3) :: .box x2 27 [(.slice none 0 0), (.slice none 0 0), (.slice none 0 0), (.slice none 0 0)] :: .box x1 27 [(.slice a1_0_A a1_0_n a1_0_c), (.slice a1_1_A a1_1_n a1_1_c), (.slice a1_2_A a1_2_n a1_2_c), (.slice a1_3_A a1_3_n a1_3_c)] :: F) (fun _ h => h) ?_
        refine j_env [(4, (pt x2)), (5, (pt x4))] ⟨rfl, rfl, trivial⟩ ?_
        exact hD511 (x6, x7, x8, x9)
    refine d_join (σ := (Option Addr) × Unit × (Option Addr)) 3 #[true, true, true, true, true, true, false, false, false] (fun s => [(4, (pt x2)), (5, (pt x4)), (13, (.slice x3.2.2.2.A x3.2.2.2.n x3.2.2.2.c)), (17, (.slice s.2.2 1 1))]) (fun s => .row s.1 4 3 1 (ii ([(0:Int), (1:Int), (8:Int), (-1:Int)] : List Int)) :: .row s.2.2 1 3 1 (ii ([v7] : List Int)) :: .box a0_g 50 [(.slice a0_0_A a0_0_n a0_0_c), (i6 v8)] :: .box x4 27 [(.slice x3.1.A x3.1.n x3.1.c), (.slice x3.2.1.A x3.2.1.n x3.2.1.c), (.slice x3.2.2.1.A x3.2.2.1.n x3.2.2.1.c), (.slice x3.2.2.2.A x3.2.2.2.n x3.2.2.2.c)] :: .row x3.1.A x3.1.c 3 1 (ii v1) :: .row x3.2.1.A x3.2.1.c 3 1 (ii v2) :: .row x3.2.2.1.A x3.2.2.1.c 3 1 (ii v3) :: .row x3.2.2.2.A x3.2.2.2.c 3 1 (ii v4) :: .box x2 27 [(.slice none 0 0), (.slice none 0 0), (.slice none 0 0), (.slice none 0 0)] :: .box x1 27 [(.slice a1_0_A a1_0_n a1_0_c), (.slice a1_1_A a1_1_n a1_1_c), (.slice a1_2_A a1_2_n a1_2_c), (.slice a1_3_A a1_3_n a1_3_c)] :: F) ?_ (fun hD63 => ?_)
    · rintro ⟨x6, x7, x8⟩
      show J _ _ [(4, (pt x2)), (5, (pt x4)), (13, (.slice x3.2.2.2.A x3.2.2.2.n x3.2.2.2.c)), (17, (.slice x8 1 1))] _ (.row x6 4 3 1 (ii ([(0:Int), (1:Int), (8:Int), (-1:Int)] : List Int)) :: .row x8 1 3 1 (ii ([v7] : List Int)) :: .box a0_g 50 [(.slice a0_0_A a0_0_n a0_0_c), (i6 v8)] :: .box x4 27 [(.slice x3.1.A x3.1.n x3.1.c), (.slice x3.2.1.A x3.2.1.n x3.2.1.c), (.slice x3.2.2.1.A x3.2.2.1.n x3.2.2.1.c), (.slice x3.2.2.2.A x3.2.2.2.n x3.2.2.2.c)] :: .row x3.1.A x3.1.c 3 1 (ii v1) :: .row x3.2.1.A x3.2.1.c 3 1 (ii v2) :: .row x3.2.2.1.A x3.2.2.1.c 3 1 (ii v3) :: .row x3.2.2.2.A x3.2.2.2.c 3 1 (ii v4) :: .box x2 27 [(.slice none 0 0), (.slice none 0 0), (.slice none 0 0), (.slice none 0 0)] :: .box x1 27 [(.slice a1_0_A a1_0_n a1_0_c), (.slice a1_1_A a1_1_n a1_1_c), (.slice a1_2_A a1_2_n a1_2_c), (.slice a1_3_A a1_3_n a1_3_c)] :: F)
      refine d_one 6 (by kernel_rfl) ?_
      · refine o_do rfl (a_appI (xs := v4) (ys := ([v7] : List Int)) 7 un23 un23 sz3 by3 zr3 rfl rfl rfl rfl rfl rfl rfl rfl rfl x3.2.2.2.h rfl (Rd.row 1 rfl) c2) rfl rfl (fun x9 w h => h.pick 10 [4, 5, 6, 8, 9] rfl) (fun x9 => ?_)
        refine j_s7 ?_
        refine d_take 7 rfl (q_fieldAddr fi27_1 sz23 rfl rfl rfl) rfl rfl (by kernel_rfl) (by kernel_rfl) (by kernel_rfl) (fun w h => h.pick 10 [4, 5, 6, 8, 9] rfl) ?_
        refine j_rs (.row x6 4 3 1 (ii ([(0:Int), (1:Int), (8:Int), (-1:Int)] : List Int)) :: .row x8 1 3 1 (ii ([v7] : List Int)) :: .row x9.1 x9.2 3 1 (ii (v4 ++ ([v7] : List Int))) :: .box a0_g 50 [(.slice a0_0_A a0_0_n a0_0_c), (i6 v8)] :: .box x4 27 [(.slice x3.1.A x3.1.n x3.1.c), (.slice x3.2.1.A x3.2.1.n x3.2.1.c), (.slice x3.2.2.1.A x3.2.2.1.n x3.2.2.1.c), (.slice x3.2.2.2.A x3.2.2.2.n x3.2.2.2.c)] :: .row x3.1.A x3.1.c 3 1 (ii v1) :: .row x3.2.1.A x3.2.1.c 3 1 (ii v2) :: .row x3.2.2.1.A x3.2.2.1.c 3 1 (ii v3) :: .box x2 27 [(.slice none 0 0), (.slice none 0 0), (.slice none 0 0), (.slice none 0 0)] :: .box x1 27 [(.slice a1_0_A a1_0_n a1_0_c), (.slice a1_1_A a1_1_n a1_1_c), (.slice a1_2_A a1_2_n a1_2_c), (.slice a1_3_A a1_3_n a1_3_c)] :: F) (fun _ h => h.pick 10 [0, 1, 7, 2, 3, 4, 5, 6, 8, 9] rfl) ?_
        refine j_env [(4, (pt x2)), (5, (pt x4)), (18, (.slice x9.1 (x3.2.2.2.n + 1) x9.2)), (19, (.pointer (some ⟨x4, 3, none⟩)))] ⟨rfl, rfl, rfl, rfl, trivial⟩ ?_
        exact hD255 (x6, x7, x8, x9)
    refine d_join (σ := (Option Addr) × Unit) 4 #[true, true, true, true, true, false, false, false, false] (fun s => [(4, (pt x2)), (5, (pt x4)), (13, (.slice x3.2.2.2.A x3.2.2.2.n x3.2.2.2.c)), (16, (i6 v7))]) (fun s => .row s.1 4 3 1 (ii ([(0:Int), (1:Int), (8:Int), (-1:Int)] : List Int)) :: .box a0_g 50 [(.slice a0_0_A a0_0_n a0_0_c), (i6 v8)] :: .box x4 27 [(.slice x3.1.A x3.1.n x3.1.c), (.slice x3.2.1.A x3.2.1.n x3.2.1.c), (.slice x3.2.2.1.A x3.2.2.1.n x3.2.2.1.c), (.slice x3.2.2.2.A x3.2.2.2.n x3.2.2.2.c)] :: .row x3.1.A x3.1.c 3 1 (ii v1) :: .row x3.2.1.A x3.2.1.c 3 1 (ii v2) :: .row x3.2.2.1.A x3.2.2.1.c 3 1 (ii v3) :: .row x3.2.2.2.A x3.2.2.2.c 3 1 (ii v4) :: .box x2 27 [(.slice none 0 0), (.slice none 0 0), (.slice none 0 0), (.slice none 0 0)] :: .box x1 27 [(.slice a1_0_A a1_0_n a1_0_c), (.slice a1_1_A a1_1_n a1_1_c), (.slice a1_2_A a1_2_n a1_2_c), (.slice a1_3_A a1_3_n a1_3_c)] :: F) ?_ (fun hD31 => ?_)
    · rintro ⟨x6, x7⟩
      show J _ _ [(4, (pt x2)), (5, (pt x4)), (13, (.slice x3.2.2.2.A x3.2.2.2.n x3.2.2.2.c)), (16, (i6 v7))] _ (.row x6 4 3 1 (ii ([(0:Int), (1:Int), (8:Int), (-1:Int)] : List Int)) :: .box a0_g 50 [(.slice a0_0_A a0_0_n a0_0_c), (i6 v8)] :: .box x4 27 [(.slice x3.1.A x3.1.n x3.1.c), (.slice x3.2.1.A x3.2.1.n x3.2.1.c), (.slice x3.2.2.1.A x3.2.2.1.n x3.2.2.1.c), (.slice x3.2.2.2.A x3.2.2.2.n x3.2.2.2.c)] :: .row x3.1.A x3.1.c 3 1 (ii v1) :: .row x3.2.1.A x3.2.1.c 3 1 (ii v2) :: .row x3.2.2.1.A x3.2.2.1.c 3 1 (ii v3) :: .row x3.2.2.2.A x3.2.2.2.c 3 1 (ii v4) :: .box x2 27 [(.slice none 0 0), (.slice none 0 0), (.slice none 0 0), (.slice none 0 0)] :: .box x1 27 [(.slice a1_0_A a1_0_n a1_0_c), (.slice a1_1_A a1_1_n a1_1_c), (.slice a1_2_A a1_2_n a1_2_c), (.slice a1_3_A a1_3_n a1_3_c)] :: F)
      refine d_one 5 (by kernel_rfl) ?_
      · refine o_do rfl (a_litX (vs := [(i6 v7)]) (ii ([v7] : List Int)) un23 sz3 zr3 rfl rfl rfl rfl rfl rfl rfl rfl rfl) rfl rfl (fun x8 w h => h.pick 10 [4, 5, 6, 8, 9] rfl) (fun x8 => ?_)
        refine j_rs (.row x6 4 3 1 (ii ([(0:Int), (1:Int), (8:Int), (-1:Int)] : List Int)) :: .row x8 1 3 1 (ii ([v7] : List Int)) :: .box a0_g 50 [(.slice a0_0_A a0_0_n a0_0_c), (i6 v8)] :: .box x4 27 [(.slice x3.1.A x3.1.n x3.1.c), (.slice x3.2.1.A x3.2.1.n x3.2.1.c), (.slice x3.2.2.1.A x3.2.2.1.n x3.2.2.1.c), (.slice x3.2.2.2.A x3.2.2.2.n x3.2.2.2.c)] :: .row x3.1.A x3.1.c 3 1 (ii v1) :: .row x3.2.1.A x3.2.1.c 3 1 (ii v2) :: .row x3.2.2.1.A x3.2.2.1.c 3 1 (ii v3) :: .row x3.2.2.2.A x3.2.2.2.c 3 1 (ii v4) :: .box x2 27 [(.slice none 0 0), (.slice none 0 0), (.slice none 0 0), (.slice none 0 0)] :: .box x1 27 [(.slice a1_0_A a1_0_n a1_0_c), (.slice a1_1_A a1_1_n a1_1_c), (.slice a1_2_A a1_2_n a1_2_c), (.slice a1_3_A a1_3_n a1_3_c)] :: F) (fun _ h => h.pick 10 [1, 0, 2, 3, 4, 5, 6, 7, 8, 9] rfl) ?_
        refine j_env [(4, (pt x2)), (5, (pt x4)), (13, (.slice x3.2.2.2.A x3.2.2.2.n x3.2.2.2.c)), (17, (.slice x8 1 1))] ⟨rfl, rfl, rfl, rfl, trivial⟩ ?_
        exact hD63 (x6, x7, x8)
    refine d_join (σ := (Option Addr) × Unit × (Option Addr)) 4 #[true, false, true, true, true, true, false, false, false] (fun s => [(4, (pt x2)), (5, (pt x4)), (12, (.pointer (some ⟨x4, 3, none⟩))), (17, (.slice s.2.2 1 1))]) (fun s => .row s.1 4 3 1 (ii ([(0:Int), (1:Int), (8:Int), (-1:Int)] : List Int)) :: .row s.2.2 1 3 1 (ii ([v7] : List Int)) :: .box a0_g 50 [(.slice a0_0_A a0_0_n a0_0_c), (i6 v8)] :: .box x4 27 [(.slice x3.1.A x3.1.n x3.1.c), (.slice x3.2.1.A x3.2.1.n x3.2.1.c), (.slice x3.2.2.1.A x3.2.2.1.n x3.2.2.1.c), (.slice x3.2.2.2.A x3.2.2.2.n x3.2.2.2.c)] :: .row x3.1.A x3.1.c 3 1 (ii v1) :: .row x3.2.1.A x3.2.1.c 3 1 (ii v2) :: .row x3.2.2.1.A x3.2.2.1.c 3 1 (ii v3) :: .row x3.2.2.2.A x3.2.2.2.c 3 1 (ii v4) :: .box x2 27 [(.slice none 0 0), (.slice none 0 0), (.slice none 0 0), (.slice none 0 0)] :: .box x1 27 [(.slice a1_0_A a1_0_n a1_0_c), (.slice a1_1_A a1_1_n a1_1_c), (.slice a1_2_A a1_2_n a1_2_c), (.slice a1_3_A a1_3_n a1_3_c)] :: F) ?_ (fun hD61 => ?_)
    · rintro ⟨x6, x7, x8⟩
      show J _ _ [(4, (pt x2)), (5, (pt x4)), (12, (.pointer (some ⟨x4, 3, none⟩))), (17, (.slice x8 1 1))] _ (.row x6 4 3 1 (ii ([(0:Int), (1:Int), (8:Int), (-1:Int)] : List Int)) :: .row x8 1 3 1 (ii ([v7] : List Int)) :: .box a0_g 50 [(.slice a0_0_A a0_0_n a0_0_c), (i6 v8)] :: .box x4 27 [(.slice x3.1.A x3.1.n x3.1.c), (.slice x3.2.1.A x3.2.1.n x3.2.1.c), (.slice x3.2.2.1.A x3.2.2.1.n x3.2.2.1.c), (.slice x3.2.2.2.A x3.2.2.2.n x3.2.2.2.c)] :: .row x3.1.A x3.1.c 3 1 (ii v1) :: .row x3.2.1.A x3.2.1.c 3 1 (ii v2) :: .row x3.2.2.1.A x3.2.2.1.c 3 1 (ii v3) :: .row x3.2.2.2.A x3.2.2.2.c 3 1 (ii v4) :: .box x2 27 [(.slice none 0 0), (.slice none 0 0), (.slice none 0 0), (.slice none 0 0)] :: .box x1 27 [(.slice a1_0_A a1_0_n a1_0_c), (.slice a1_1_A a1_1_n a1_1_c), (.slice a1_2_A a1_2_n a1_2_c), (.slice a1_3_A a1_3_n a1_3_c)] :: F)
      refine d_one 1 (by kernel_rfl) ?_
      · refine o_do rfl ((q_loadb 3 rfl ag23 rfl rfl rfl)).acts rfl rfl (fun _ w h => h.pick 10 [4, 5, 6, 8, 9] rfl) (fun _ => ?_)
        refine j_rs (.row x6 4 3 1 (ii ([(0:Int), (1:Int), (8:Int), (-1:Int)] : List Int)) :: .row x8 1 3 1 (ii ([v7] : List Int)) :: .box a0_g 50 [(.slice a0_0_A a0_0_n a0_0_c), (i6 v8)] :: .box x4 27 [(.slice x3.1.A x3.1.n x3.1.c), (.slice x3.2.1.A x3.2.1.n x3.2.1.c), (.slice x3.2.2.1.A x3.2.2.1.n x3.2.2.1.c), (.slice x3.2.2.2.A x3.2.2.2.n x3.2.2.2.c)] :: .row x3.1.A x3.1.c 3 1 (ii v1) :: .row x3.2.1.A x3.2.1.c 3 1 (ii v2) :: .row x3.2.2.1.A x3.2.2.1.c 3 1 (ii v3) :: .row x3.2.2.2.A x3.2.2.2.c 3 1 (ii v4) :: .box x2 27 [(.slice none 0 0), (.slice none 0 0), (.slice none 0 0), (.slice none 0 0)] :: .box x1 27 [(.slice a1_0_A a1_0_n a1_0_c), (.slice a1_1_A a1_1_n a1_1_c), (.slice a1_2_A a1_2_n a1_2_c), (.slice a1_3_A a1_3_n a1_3_c)] :: F) (fun _ h => h) ?_
        refine j_env [(4, (pt x2)), (5, (pt x4)), (13, (.slice x3.2.2.2.A x3.2.2.2.n x3.2.2.2.c)), (17, (.slice x8 1 1))] ⟨rfl, rfl, rfl, rfl, trivial⟩ ?_
        exact hD63 (x6, x7, x8)
    refine d_join (σ := (Option Addr)) 5 #[true, true, true, true, false, false, false, false, false] (fun s => [(4, (pt x2)), (5, (pt x4)), (13, (.slice x3.2.2.2.A x3.2.2.2.n x3.2.2.2.c)), (14, (pt a0_g)), (15, (.slice s 4 4))]) (fun s => .row s 4 3 1 (ii ([(0:Int), (1:Int), (8:Int), (-1:Int)] : List Int)) :: .box a0_g 50 [(.slice a0_0_A a0_0_n a0_0_c), (i6 v6)] :: .box x4 27 [(.slice x3.1.A x3.1.n x3.1.c), (.slice x3.2.1.A x3.2.1.n x3.2.1.c), (.slice x3.2.2.1.A x3.2.2.1.n x3.2.2.1.c), (.slice x3.2.2.2.A x3.2.2.2.n x3.2.2.2.c)] :: .row x3.1.A x3.1.c 3 1 (ii v1) :: .row x3.2.1.A x3.2.1.c 3 1 (ii v2) :: .row x3.2.2.1.A x3.2.2.1.c 3 1 (ii v3) :: .row x3.2.2.2.A x3.2.2.2.c 3 1 (ii v4) :: .box x2 27 [(.slice none 0 0), (.slice none 0 0), (.slice none 0 0), (.slice none 0 0)] :: .box x1 27 [(.slice a1_0_A a1_0_n a1_0_c), (.slice a1_1_A a1_1_n a1_1_c), (.slice a1_2_A a1_2_n a1_2_c), (.slice a1_3_A a1_3_n a1_3_c)] :: F) ?_ (fun hD15 => ?_)
    · rintro x6
      show J _ _ [(4, (pt x2)), (5, (pt x4)), (13, (.slice x3.2.2.2.A x3.2.2.2.n x3.2.2.2.c)), (14, (pt a0_g)), (15, (.slice x6 4 4))] _ (.row x6 4 3 1 (ii ([(0:Int), (1:Int), (8:Int), (-1:Int)] : List Int)) :: .box a0_g 50 [(.slice a0_0_A a0_0_n a0_0_c), (i6 v6)] :: .box x4 27 [(.slice x3.1.A x3.1.n x3.1.c), (.slice x3.2.1.A x3.2.1.n x3.2.1.c), (.slice x3.2.2.1.A x3.2.2.1.n x3.2.2.1.c), (.slice x3.2.2.2.A x3.2.2.2.n x3.2.2.2.c)] :: .row x3.1.A x3.1.c 3 1 (ii v1) :: .row x3.2.1.A x3.2.1.c 3 1 (ii v2) :: .row x3.2.2.1.A x3.2.2.1.c 3 1 (ii v3) :: .row x3.2.2.2.A x3.2.2.2.c 3 1 (ii v4) :: .box x2 27 [(.slice none 0 0), (.slice none 0 0), (.slice none 0 0), (.slice none 0 0)] :: .box x1 27 [(.slice a1_0_A a1_0_n a1_0_c), (.slice a1_1_A a1_1_n a1_1_c), (.slice a1_2_A a1_2_n a1_2_c), (.slice a1_3_A a1_3_n a1_3_c)] :: F)
      refine d_one 4 (by kernel_rfl) ?_
      · refine j_rs (.box a0_g 50 [(.slice a0_0_A a0_0_n a0_0_c), (i6 v6)] :: .row x6 4 3 1 (ii ([(0:Int), (1:Int), (8:Int), (-1:Int)] : List Int)) :: .box x4 27 [(.slice x3.1.A x3.1.n x3.1.c), (.slice x3.2.1.A x3.2.1.n x3.2.1.c), (.slice x3.2.2.1.A x3.2.2.1.n x3.2.2.1.c), (.slice x3.2.2.2.A x3.2.2.2.n x3.2.2.2.c)] :: .row x3.1.A x3.1.c 3 1 (ii v1) :: .row x3.2.1.A x3.2.1.c 3 1 (ii v2) :: .row x3.2.2.1.A x3.2.2.1.c 3 1 (ii v3) :: .row x3.2.2.2.A x3.2.2.2.c 3 1 (ii v4) :: .box x2 27 [(.slice none 0 0), (.slice none 0 0), (.slice none 0 0), (.slice none 0 0)] :: .box x1 27 [(.slice a1_0_A a1_0_n a1_0_c), (.slice a1_1_A a1_1_n a1_1_c), (.slice a1_2_A a1_2_n a1_2_c), (.slice a1_3_A a1_3_n a1_3_c)] :: F) (fun _ h => h.pick 9 [1, 0, 2, 3, 4, 5, 6, 7, 8] rfl) ?_
        refine o_do rfl (a_call ok26 rfl rfl rfl rfl (fun w hm => spec_l13Rd_num.calls K a0_g a0_0 a0_0_A a0_0_n a0_0_c v6 ([(0:Int), (1:Int), (8:Int), (-1:Int)] : List Int) x6 4 4 hm a0_0_h (Rd.drop 8 a0_0_R) rfl (Rd.row 0 rfl) hb3)) rfl rfl (fun x7 w h => h.pick 9 [3, 4, 5, 7, 8] rfl) (fun x7 => ?_)
        refine j_rs (.row x6 4 3 1 (ii ([(0:Int), (1:Int), (8:Int), (-1:Int)] : List Int)) :: .box a0_g 50 [(.slice a0_0_A a0_0_n a0_0_c), (i6 v8)] :: .box x4 27 [(.slice x3.1.A x3.1.n x3.1.c), (.slice x3.2.1.A x3.2.1.n x3.2.1.c), (.slice x3.2.2.1.A x3.2.2.1.n x3.2.2.1.c), (.slice x3.2.2.2.A x3.2.2.2.n x3.2.2.2.c)] :: .row x3.1.A x3.1.c 3 1 (ii v1) :: .row x3.2.1.A x3.2.1.c 3 1 (ii v2) :: .row x3.2.2.1.A x3.2.2.1.c 3 1 (ii v3) :: .row x3.2.2.2.A x3.2.2.2.c 3 1 (ii v4) :: .box x2 27 [(.slice none 0 0), (.slice none 0 0), (.slice none 0 0), (.slice none 0 0)] :: .box x1 27 [(.slice a1_0_A a1_0_n a1_0_c), (.slice a1_1_A a1_1_n a1_1_c), (.slice a1_2_A a1_2_n a1_2_c), (.slice a1_3_A a1_3_n a1_3_c)] :: F) (fun _ h => h.pick 9 [1, 0, 2, 3, 4, 5, 6, 7, 8] rfl) ?_
        refine j_env [(4, (pt x2)), (5, (pt x4)), (13, (.slice x3.2.2.2.A x3.2.2.2.n x3.2.2.2.c)), (16, (i6 v7))] ⟨rfl, rfl, rfl, rfl, trivial⟩ ?_
        exact hD31 (x6, x7)
    refine d_join (σ := (Option Addr) × Unit) 5 #[true, false, true, true, true, false, false, false, false] (fun s => [(4, (pt x2)), (5, (pt x4)), (12, (.pointer (some ⟨x4, 3, none⟩))), (16, (i6 v7))]) (fun s => .row s.1 4 3 1 (ii ([(0:Int), (1:Int), (8:Int), (-1:Int)] : List Int)) :: .box a0_g 50 [(.slice a0_0_A a0_0_n a0_0_c), (i6 v8)] :: .box x4 27 [(.slice x3.1.A x3.1.n x3.1.c), (.slice x3.2.1.A x3.2.1.n x3.2.1.c), (.slice x3.2.2.1.A x3.2.2.1.n x3.2.2.1.c), (.slice x3.2.2.2.A x3.2.2.2.n x3.2.2.2.c)] :: .row x3.1.A x3.1.c 3 1 (ii v1) :: .row x3.2.1.A x3.2.1.c 3 1 (ii v2) :: .row x3.2.2.1.A x3.2.2.1.c 3 1 (ii v3) :: .row x3.2.2.2.A x3.2.2.2.c 3 1 (ii v4) :: .box x2 27 [(.slice none 0 0), (.slice none 0 0), (.slice none 0 0), (.slice none 0 0)] :: .box x1 27 [(.slice a1_0_A a1_0_n a1_0_c), (.slice a1_1_A a1_1_n a1_1_c), (.slice a1_2_A a1_2_n a1_2_c), (.slice a1_3_A a1_3_n a1_3_c)] :: F) ?_ (fun hD29 => ?_)
    · rintro ⟨x6, x7⟩
      show J _ _ [(4, (pt x2)), (5, (pt x4)), (12, (.pointer (some ⟨x4, 3, none⟩))), (16, (i6 v7))] _ (.row x6 4 3 1 (ii ([(0:Int), (1:Int), (8:Int), (-1:Int)] : List Int)) :: .box a0_g 50 [(.slice a0_0_A a0_0_n a0_0_c), (i6 v8)] :: .box x4 27 [(.slice x3.1.A x3.1.n x3.1.c), (.slice x3.2.1.A x3.2.1.n x3.2.1.c), (.slice x3.2.2.1.A x3.2.2.1.n x3.2.2.1.c), (.slice x3.2.2.2.A x3.2.2.2.n x3.2.2.2.c)] :: .row x3.1.A x3.1.c 3 1 (ii v1) :: .row x3.2.1.A x3.2.1.c 3 1 (ii v2) :: .row x3.2.2.1.A x3.2.2.1.c 3 1 (ii v3) :: .row x3.2.2.2.A x3.2.2.2.c 3 1 (ii v4) :: .box x2 27 [(.slice none 0 0), (.slice none 0 0), (.slice none 0 0), (.slice none 0 0)] :: .box x1 27 [(.slice a1_0_A a1_0_n a1_0_c), (.slice a1_1_A a1_1_n a1_1_c), (.slice a1_2_A a1_2_n a1_2_c), (.slice a1_3_A a1_3_n a1_3_c)] :: F)
      refine d_two 1 5 (by kernel_rfl) ?_ ?_
      · refine o_do rfl ((q_loadb 2 rfl ag23 rfl rfl rfl)).acts rfl rfl (fun _ w h => h.pick 9 [3, 4, 5, 7, 8] rfl) (fun _ => ?_)
        refine j_rs (.row x6 4 3 1 (ii ([(0:Int), (1:Int), (8:Int), (-1:Int)] : List Int)) :: .box a0_g 50 [(.slice a0_0_A a0_0_n a0_0_c), (i6 v8)] :: .box x4 27 [(.slice x3.1.A x3.1.n x3.1.c), (.slice x3.2.1.A x3.2.1.n x3.2.1.c), (.slice x3.2.2.1.A x3.2.2.1.n x3.2.2.1.c), (.slice x3.2.2.2.A x3.2.2.2.n x3.2.2.2.c)] :: .row x3.1.A x3.1.c 3 1 (ii v1) :: .row x3.2.1.A x3.2.1.c 3 1 (ii v2) :: .row x3.2.2.1.A x3.2.2.1.c 3 1 (ii v3) :: .row x3.2.2.2.A x3.2.2.2.c 3 1 (ii v4) :: .box x2 27 [(.slice none 0 0), (.slice none 0 0), (.slice none 0 0), (.slice none 0 0)] :: .box x1 27 [(.slice a1_0_A a1_0_n a1_0_c), (.slice a1_1_A a1_1_n a1_1_c), (.slice a1_2_A a1_2_n a1_2_c), (.slice a1_3_A a1_3_n a1_3_c)] :: F) (fun _ h => h) ?_
        refine j_env [(4, (pt x2)), (5, (pt x4)), (13, (.slice x3.2.2.2.A x3.2.2.2.n x3.2.2.2.c)), (16, (i6 v7))] ⟨rfl, rfl, rfl, rfl, trivial⟩ ?_
        exact hD31 (x6, x7)
      · refine o_do rfl (a_litX (vs := [(i6 v7)]) (ii ([v7] : List Int)) un23 sz3 zr3 rfl rfl rfl rfl rfl rfl rfl rfl rfl) rfl rfl (fun x8 w h => h.pick 10 [4, 5, 6, 8, 9] rfl) (fun x8 => ?_)
        refine j_rs (.row x6 4 3 1 (ii ([(0:Int), (1:Int), (8:Int), (-1:Int)] : List Int)) :: .row x8 1 3 1 (ii ([v7] : List Int)) :: .box a0_g 50 [(.slice a0_0_A a0_0_n a0_0_c), (i6 v8)] :: .box x4 27 [(.slice x3.1.A x3.1.n x3.1.c), (.slice x3.2.1.A x3.2.1.n x3.2.1.c), (.slice x3.2.2.1.A x3.2.2.1.n x3.2.2.1.c), (.slice x3.2.2.2.A x3.2.2.2.n x3.2.2.2.c)] :: .row x3.1.A x3.1.c 3 1 (ii v1) :: .row x3.2.1.A x3.2.1.c 3 1 (ii v2) :: .row x3.2.2.1.A x3.2.2.1.c 3 1 (ii v3) :: .row x3.2.2.2.A x3.2.2.2.c 3 1 (ii v4) :: .box x2 27 [(.slice none 0 0), (.slice none 0 0), (.slice none 0 0), (.slice none 0 0)] :: .box x1 27 [(.slice a1_0_A a1_0_n a1_0_c), (.slice a1_1_A a1_1_n a1_1_c), (.slice a1_2_A a1_2_n a1_2_c), (.slice a1_3_A a1_3_n a1_3_c)] :: F) (fun _ h => h.pick 10 [1, 0, 2, 3, 4, 5, 6, 7, 8, 9] rfl) ?_
        refine j_env [(4, (pt x2)), (5, (pt x4)), (12, (.pointer (some ⟨x4, 3, none⟩))), (17, (.slice x8 1 1))] ⟨rfl, rfl, rfl, rfl, trivial⟩ ?_
        exact hD61 (x6, x7, x8)
    refine d_join (σ := Unit) 6 #[true, true, true, false, false, false, false, false, false] (fun s => [(4, (pt x2)), (5, (pt x4)), (13, (.slice x3.2.2.2.A x3.2.2.2.n x3.2.2.2.c)), (14, (pt a0_g))]) (fun s => .box a0_g 50 [(.slice a0_0_A a0_0_n a0_0_c), (i6 v6)] :: .box x4 27 [(.slice x3.1.A x3.1.n x3.1.c), (.slice x3.2.1.A x3.2.1.n x3.2.1.c), (.slice x3.2.2.1.A x3.2.2.1.n x3.2.2.1.c), (.slice x3.2.2.2.A x3.2.2.2.n x3.2.2.2.c)] :: .row x3.1.A x3.1.c 3 1 (ii v1) :: .row x3.2.1.A x3.2.1.c 3 1 (ii v2) :: .row x3.2.2.1.A x3.2.2.1.c 3 1 (ii v3) :: .row x3.2.2.2.A x3.2.2.2.c 3 1 (ii v4) :: .box x2 27 [(.slice none 0 0), (.slice none 0 0), (.slice none 0 0), (.slice none 0 0)] :: .box x1 27 [(.slice a1_0_A a1_0_n a1_0_c), (.slice a1_1_A a1_1_n a1_1_c), (.slice a1_2_A a1_2_n a1_2_c), (.slice a1_3_A a1_3_n a1_3_c)] :: F) ?_ (fun hD7 => ?_)
    · rintro _
      show J _ _ [(4, (pt x2)), (5, (pt x4)), (13, (.slice x3.2.2.2.A x3.2.2.2.n x3.2.2.2.c)), (14, (pt a0_g))] _ (.box a0_g 50 [(.slice a0_0_A a0_0_n a0_0_c), (i6 v6)] :: .box x4 27 [(.slice x3.1.A x3.1.n x3.1.c), (.slice x3.2.1.A x3.2.1.n x3.2.1.c), (.slice x3.2.2.1.A x3.2.2.1.n x3.2.2.1.c), (.slice x3.2.2.2.A x3.2.2.2.n x3.2.2.2.c)] :: .row x3.1.A x3.1.c 3 1 (ii v1) :: .row x3.2.1.A x3.2.1.c 3 1 (ii v2) :: .row x3.2.2.1.A x3.2.2.1.c 3 1 (ii v3) :: .row x3.2.2.2.A x3.2.2.2.c 3 1 (ii v4) :: .box x2 27 [(.slice none 0 0), (.slice none 0 0), (.slice none 0 0), (.slice none 0 0)] :: .box x1 27 [(.slice a1_0_A a1_0_n a1_0_c), (.slice a1_1_A a1_1_n a1_1_c), (.slice a1_2_A a1_2_n a1_2_c), (.slice a1_3_A a1_3_n a1_3_c)] :: F)
      refine d_one 3 (by kernel_rfl) ?_
      · refine o_do rfl (a_litX (vs := [(i6 (0:Int)), (i6 (1:Int)), (i6 (8:Int)), (i6 (-1:Int))]) (ii ([(0:Int), (1:Int), (8:Int), (-1:Int)] : List Int)) un23 sz3 zr3 rfl rfl rfl rfl rfl rfl rfl rfl rfl) rfl rfl (fun x6 w h => h.pick 9 [3, 4, 5, 7, 8] rfl) (fun x6 => ?_)
        refine j_rs (.row x6 4 3 1 (ii ([(0:Int), (1:Int), (8:Int), (-1:Int)] : List Int)) :: .box a0_g 50 [(.slice a0_0_A a0_0_n a0_0_c), (i6 v6)] :: .box x4 27 [(.slice x3.1.A x3.1.n x3.1.c), (.slice x3.2.1.A x3.2.1.n x3.2.1.c), (.slice x3.2.2.1.A x3.2.2.1.n x3.2.2.1.c), (.slice x3.2.2.2.A x3.2.2.2.n x3.2.2.2.c)] :: .row x3.1.A x3.1.c 3 1 (ii v1) :: .row x3.2.1.A x3.2.1.c 3 1 (ii v2) :: .row x3.2.2.1.A x3.2.2.1.c 3 1 (ii v3) :: .row x3.2.2.2.A x3.2.2.2.c 3 1 (ii v4) :: .box x2 27 [(.slice none 0 0), (.slice none 0 0), (.slice none 0 0), (.slice none 0 0)] :: .box x1 27 [(.slice a1_0_A a1_0_n a1_0_c), (.slice a1_1_A a1_1_n a1_1_c), (.slice a1_2_A a1_2_n a1_2_c), (.slice a1_3_A a1_3_n a1_3_c)] :: F) (fun _ h => h) ?_
        refine j_env [(4, (pt x2)), (5, (pt x4)), (13, (.slice x3.2.2.2.A x3.2.2.2.n x3.2.2.2.c)), (14, (pt a0_g)), (15, (.slice x6 4 4))] ⟨rfl, rfl, rfl, rfl, rfl, trivial⟩ ?_
        exact hD15 x6
    refine d_join (σ := (Option Addr)) 6 #[true, false, true, true, false, false, false, false, false] (fun s => [(4, (pt x2)), (5, (pt x4)), (12, (.pointer (some ⟨x4, 3, none⟩))), (14, (pt a0_g)), (15, (.slice s 4 4))]) (fun s => .row s 4 3 1 (ii ([(0:Int), (1:Int), (8:Int), (-1:Int)] : List Int)) :: .box a0_g 50 [(.slice a0_0_A a0_0_n a0_0_c), (i6 v6)] :: .box x4 27 [(.slice x3.1.A x3.1.n x3.1.c), (.slice x3.2.1.A x3.2.1.n x3.2.1.c), (.slice x3.2.2.1.A x3.2.2.1.n x3.2.2.1.c), (.slice x3.2.2.2.A x3.2.2.2.n x3.2.2.2.c)] :: .row x3.1.A x3.1.c 3 1 (ii v1) :: .row x3.2.1.A x3.2.1.c 3 1 (ii v2) :: .row x3.2.2.1.A x3.2.2.1.c 3 1 (ii v3) :: .row x3.2.2.2.A x3.2.2.2.c 3 1 (ii v4) :: .box x2 27 [(.slice none 0 0), (.slice none 0 0), (.slice none 0 0), (.slice none 0 0)] :: .box x1 27 [(.slice a1_0_A a1_0_n a1_0_c), (.slice a1_1_A a1_1_n a1_1_c), (.slice a1_2_A a1_2_n a1_2_c), (.slice a1_3_A a1_3_n a1_3_c)] :: F) ?_ (fun hD13 => ?_)
    · rintro x6
      show J _ _ [(4, (pt x2)), (5, (pt x4)), (12, (.pointer (some ⟨x4, 3, none⟩))), (14, (pt a0_g)), (15, (.slice x6 4 4))] _ (.row x6 4 3 1 (ii ([(0:Int), (1:Int), (8:Int), (-1:Int)] : List Int)) :: .box a0_g 50 [(.slice a0_0_A a0_0_n a0_0_c), (i6 v6)] :: .box x4 27 [(.slice x3.1.A x3.1.n x3.1.c), (.slice x3.2.1.A x3.2.1.n x3.2.1.c), (.slice x3.2.2.1.A x3.2.2.1.n x3.2.2.1.c), (.slice x3.2.2.2.A x3.2.2.2.n x3.2.2.2.c)] :: .row x3.1.A x3.1.c 3 1 (ii v1) :: .row x3.2.1.A x3.2.1.c 3 1 (ii v2) :: .row x3.2.2.1.A x3.2.2.1.c 3 1 (ii v3) :: .row x3.2.2.2.A x3.2.2.2.c 3 1 (ii v4) :: .box x2 27 [(.slice none 0 0), (.slice none 0 0), (.slice none 0 0), (.slice none 0 0)] :: .box x1 27 [(.slice a1_0_A a1_0_n a1_0_c), (.slice a1_1_A a1_1_n a1_1_c), (.slice a1_2_A a1_2_n a1_2_c), (.slice a1_3_A a1_3_n a1_3_c)] :: F)
      refine d_two 1 4 (by kernel_rfl) ?_ ?_
      · refine o_do rfl ((q_loadb 2 rfl ag23 rfl rfl rfl)).acts rfl rfl (fun _ w h => h.pick 9 [3, 4, 5, 7, 8] rfl) (fun _ => ?_)
        refine j_rs (.row x6 4 3 1 (ii ([(0:Int), (1:Int), (8:Int), (-1:Int)] : List Int)) :: .box a0_g 50 [(.slice a0_0_A a0_0_n a0_0_c), (i6 v6)] :: .box x4 27 [(.slice x3.1.A x3.1.n x3.1.c), (.slice x3.2.1.A x3.2.1.n x3.2.1.c), (.slice x3.2.2.1.A x3.2.2.1.n x3.2.2.1.c), (.slice x3.2.2.2.A x3.2.2.2.n x3.2.2.2.c)] :: .row x3.1.A x3.1.c 3 1 (ii v1) :: .row x3.2.1.A x3.2.1.c 3 1 (ii v2) :: .row x3.2.2.1.A x3.2.2.1.c 3 1 (ii v3) :: .row x3.2.2.2.A x3.2.2.2.c 3 1 (ii v4) :: .box x2 27 [(.slice none 0 0), (.slice none 0 0), (.slice none 0 0), (.slice none 0 0)] :: .box x1 27 [(.slice a1_0_A a1_0_n a1_0_c), (.slice a1_1_A a1_1_n a1_1_c), (.slice a1_2_A a1_2_n a1_2_c), (.slice a1_3_A a1_3_n a1_3_c)] :: F) (fun _ h => h) ?_
        refine j_env [(4, (pt x2)), (5, (pt x4)), (13, (.slice x3.2.2.2.A x3.2.2.2.n x3.2.2.2.c)), (14, (pt a0_g)), (15, (.slice x6 4 4))] ⟨rfl, rfl, rfl, rfl, rfl, trivial⟩ ?_
        exact hD15 x6
      · refine j_rs (.box a0_g 50 [(.slice a0_0_A a0_0_n a0_0_c), (i6 v6)] :: .row x6 4 3 1 (ii ([(0:Int), (1:Int), (8:Int), (-1:Int)] : List Int)) :: .box x4 27 [(.slice x3.1.A x3.1.n x3.1.c), (.slice x3.2.1.A x3.2.1.n x3.2.1.c), (.slice x3.2.2.1.A x3.2.2.1.n x3.2.2.1.c), (.slice x3.2.2.2.A x3.2.2.2.n x3.2.2.2.c)] :: .row x3.1.A x3.1.c 3 1 (ii v1) :: .row x3.2.1.A x3.2.1.c 3 1 (ii v2) :: .row x3.2.2.1.A x3.2.2.1.c 3 1 (ii v3) :: .row x3.2.2.2.A x3.2.2.2.c 3 1 (ii v4) :: .box x2 27 [(.slice none 0 0), (.slice none 0 0), (.slice none 0 0), (.slice none 0 0)] :: .box x1 27 [(.slice a1_0_A a1_0_n a1_0_c), (.slice a1_1_A a1_1_n a1_1_c), (.slice a1_2_A a1_2_n a1_2_c), (.slice a1_3_A a1_3_n a1_3_c)] :: F) (fun _ h => h.pick 9 [1, 0, 2, 3, 4, 5, 6, 7, 8] rfl) ?_
        refine o_do rfl (a_call ok26 rfl rfl rfl rfl (fun w hm => spec_l13Rd_num.calls K a0_g a0_0 a0_0_A a0_0_n a0_0_c v6 ([(0:Int), (1:Int), (8:Int), (-1:Int)] : List Int) x6 4 4 hm a0_0_h (Rd.drop 8 a0_0_R) rfl (Rd.row 0 rfl) hb3)) rfl rfl (fun x7 w h => h.pick 9 [3, 4, 5, 7, 8] rfl) (fun x7 => ?_)
        refine j_rs (.row x6 4 3 1 (ii ([(0:Int), (1:Int), (8:Int), (-1:Int)] : List Int)) :: .box a0_g 50 [(.slice a0_0_A a0_0_n a0_0_c), (i6 v8)] :: .box x4 27 [(.slice x3.1.A x3.1.n x3.1.c), (.slice x3.2.1.A x3.2.1.n x3.2.1.c), (.slice x3.2.2.1.A x3.2.2.1.n x3.2.2.1.c), (.slice x3.2.2.2.A x3.2.2.2.n x3.2.2.2.c)] :: .row x3.1.A x3.1.c 3 1 (ii v1) :: .row x3.2.1.A x3.2.1.c 3 1 (ii v2) :: .row x3.2.2.1.A x3.2.2.1.c 3 1 (ii v3) :: .row x3.2.2.2.A x3.2.2.2.c 3 1 (ii v4) :: .box x2 27 [(.slice none 0 0), (.slice none 0 0), (.slice none 0 0), (.slice none 0 0)] :: .box x1 27 [(.slice a1_0_A a1_0_n a1_0_c), (.slice a1_1_A a1_1_n a1_1_c), (.slice a1_2_A a1_2_n a1_2_c), (.slice a1_3_A a1_3_n a1_3_c)] :: F) (fun _ h => h.pick 9 [1, 0, 2, 3, 4, 5, 6, 7, 8] rfl) ?_
        refine j_env [(4, (pt x2)), (5, (pt x4)), (12, (.pointer (some ⟨x4, 3, none⟩))), (16, (i6 v7))] ⟨rfl, rfl, rfl, rfl, trivial⟩ ?_
        exact hD29 (x6, x7)
    refine d_two 1 3 (by kernel_rfl) ?_ ?_
    · refine o_do rfl ((q_loadb 1 rfl ag23 rfl rfl rfl)).acts rfl rfl (fun _ w h => h.pick 8 [2, 3, 4, 6, 7] rfl) (fun _ => ?_)
      refine j_rs (.box a0_g 50 [(.slice a0_0_A a0_0_n a0_0_c), (i6 v6)] :: .box x4 27 [(.slice x3.1.A x3.1.n x3.1.c), (.slice x3.2.1.A x3.2.1.n x3.2.1.c), (.slice x3.2.2.1.A x3.2.2.1.n x3.2.2.1.c), (.slice x3.2.2.2.A x3.2.2.2.n x3.2.2.2.c)] :: .row x3.1.A x3.1.c 3 1 (ii v1) :: .row x3.2.1.A x3.2.1.c 3 1 (ii v2) :: .row x3.2.2.1.A x3.2.2.1.c 3 1 (ii v3) :: .row x3.2.2.2.A x3.2.2.2.c 3 1 (ii v4) :: .box x2 27 [(.slice none 0 0), (.slice none 0 0), (.slice none 0 0), (.slice none 0 0)] :: .box x1 27 [(.slice a1_0_A a1_0_n a1_0_c), (.slice a1_1_A a1_1_n a1_1_c), (.slice a1_2_A a1_2_n a1_2_c), (.slice a1_3_A a1_3_n a1_3_c)] :: F) (fun _ h => h) ?_
      refine j_env [(4, (pt x2)), (5, (pt x4)), (13, (.slice x3.2.2.2.A x3.2.2.2.n x3.2.2.2.c)), (14, (pt a0_g))] ⟨rfl, rfl, rfl, rfl, trivial⟩ ?_
      exact hD7 ()
    · refine o_do rfl (a_litX (vs := [(i6 (0:Int)), (i6 (1:Int)), (i6 (8:Int)), (i6 (-1:Int))]) (ii ([(0:Int), (1:Int), (8:Int), (-1:Int)] : List Int)) un23 sz3 zr3 rfl rfl rfl rfl rfl rfl rfl rfl rfl) rfl rfl (fun x6 w h => h.pick 9 [3, 4, 5, 7, 8] rfl) (fun x6 => ?_)
      refine j_rs (.row x6 4 3 1 (ii ([(0:Int), (1:Int), (8:Int), (-1:Int)] : List Int)) :: .box a0_g 50 [(.slice a0_0_A a0_0_n a0_0_c), (i6 v6)] :: .box x4 27 [(.slice x3.1.A x3.1.n x3.1.c), (.slice x3.2.1.A x3.2.1.n x3.2.1.c), (.slice x3.2.2.1.A x3.2.2.1.n x3.2.2.1.c), (.slice x3.2.2.2.A x3.2.2.2.n x3.2.2.2.c)] :: .row x3.1.A x3.1.c 3 1 (ii v1) :: .row x3.2.1.A x3.2.1.c 3 1 (ii v2) :: .row x3.2.2.1.A x3.2.2.1.c 3 1 (ii v3) :: .row x3.2.2.2.A x3.2.2.2.c 3 1 (ii v4) :: .box x2 27 [(.slice none 0 0), (.slice none 0 0), (.slice none 0 0), (.slice none 0 0)] :: .box x1 27 [(.slice a1_0_A a1_0_n a1_0_c), (.slice a1_1_A a1_1_n a1_1_c), (.slice a1_2_A a1_2_n a1_2_c), (.slice a1_3_A a1_3_n a1_3_c)] :: F) (fun _ h => h) ?_
      refine j_env [(4, (pt x2)), (5, (pt x4)), (12, (.pointer (some ⟨x4, 3, none⟩))), (14, (pt a0_g)), (15, (.slice x6 4 4))] ⟨rfl, rfl, rfl, rfl, rfl, trivial⟩ ?_
      exact hD13 x6
  · refine j_false rfl (beq_f c1) ?_
    refine j_seq ?_
    refine j_region ?_
    refine r_q (q_eql rfl rfl rfl) rfl rfl ?_
    refine r_q (q_assign rfl rfl) rfl rfl ?_
    refine r_nil ?_
    refine j_then ?_
    rcases of_if h with ⟨c3, h⟩ | ⟨c3, h⟩
    · refine j_true rfl (beq_t c3) ?_
      refine j_region ?_
      refine r_q (q_move rfl rfl) rfl rfl ?_
      refine r_q (q_move rfl rfl) rfl rfl ?_
      refine r_q (q_fieldAddr fi27_0 sz25 rfl rfl rfl) rfl rfl ?_
      refine r_q (q_loadb_agg 1 rfl ag25 sz25 rfl rfl rfl rfl) rfl rfl ?_
      obtain ⟨v9, v10, v11, v12, hb4, h⟩ := of_b4 h
      refine r_do (a_call ok27 rfl rfl rfl rfl (fun w hm => spec_l1Wrong.calls K a0_g a0_0 a0_0_A a0_0_n a0_0_c v6 v1 x3.1.A x3.1.n x3.1.c v2 x3.2.1.A x3.2.1.n x3.2.1.c v3 x3.2.2.1.A x3.2.2.1.n x3.2.2.1.c hm a0_0_h (Rd.drop 7 a0_0_R) x3.1.h (Rd.row 1 rfl) x3.2.1.h (Rd.row 2 rfl) x3.2.2.1.h (Rd.row 3 rfl) hb4)) rfl rfl (fun x10 => ?_)
      obtain ⟨v13, v14, v15, v16, hb5, h⟩ := of_b4 h
      refine j_rs (.box a0_g 50 [(.slice a0_0_A a0_0_n a0_0_c), (i6 v12)] :: .row x10.1.A x10.1.c 3 1 (ii v9) :: .row x10.2.1.A x10.2.1.c 3 1 (ii v10) :: .row x10.2.2.A x10.2.2.c 3 1 (ii v11) :: .box x4 27 [(.slice x3.1.A x3.1.n x3.1.c), (.slice x3.2.1.A x3.2.1.n x3.2.1.c), (.slice x3.2.2.1.A x3.2.2.1.n x3.2.2.1.c), (.slice x3.2.2.2.A x3.2.2.2.n x3.2.2.2.c)] :: .row x3.1.A x3.1.c 3 1 (ii v1) :: .row x3.2.1.A x3.2.1.c 3 1 (ii v2) :: .row x3.2.2.1.A x3.2.2.1.c 3 1 (ii v3) :: .row x3.2.2.2.A x3.2.2.2.c 3 1 (ii v4) :: .box x2 27 [(.slice none 0 0), (.slice none 0 0), (.slice none 0 0), (.slice none 0 0)] :: .box x1 27 [(.slice a1_0_A a1_0_n a1_0_c), (.slice a1_1_A a1_1_n a1_1_c), (.slice a1_2_A a1_2_n a1_2_c), (.slice a1_3_A a1_3_n a1_3_c)] :: F) (fun _ h => h.pick 11 [3, 0, 1, 2, 4, 5, 6, 7, 8, 9, 10] rfl) ?_
      refine r_do (a_call ok27 rfl rfl rfl rfl (fun w hm => spec_l1Wrong.calls K a0_g a0_0 a0_0_A a0_0_n a0_0_c v12 v9 x10.1.A x10.1.n x10.1.c v10 x10.2.1.A x10.2.1.n x10.2.1.c v11 x10.2.2.A x10.2.2.n x10.2.2.c hm a0_0_h (Rd.drop 10 a0_0_R) x10.1.h (Rd.row 0 rfl) x10.2.1.h (Rd.row 1 rfl) x10.2.2.h (Rd.row 2 rfl) hb5)) rfl rfl (fun x11 => ?_)
      refine r_q (q_fieldAddr fi27_0 sz25 rfl rfl rfl) rfl rfl ?_
      refine r_do (a_storeb 7 rfl sz25 rfl rfl rfl rfl (Nat.le_of_ble_eq_true rfl) rfl) rfl rfl (fun _ => ?_)
      refine j_b7 [(.slice x11.1.A x11.1.n x11.1.c), (.slice x11.2.1.A x11.2.1.n x11.2.1.c), (.slice x11.2.2.A x11.2.2.n x11.2.2.c), (.slice x3.2.2.2.A x3.2.2.2.n x3.2.2.2.c)] rfl ?_
      refine r_nil ?_
      refine j_in ?_
      refine j_then ?_
      refine j_seq ?_
      refine j_region ?_
      refine r_q (q_loadb_agg 7 rfl ag27 sz27 rfl rfl rfl rfl) rfl rfl ?_
      refine r_do (a_storeb 12 rfl sz27 rfl rfl rfl rfl (Nat.le_of_ble_eq_true rfl) rfl) rfl rfl (fun _ => ?_)
      refine j_b12 [(.slice x11.1.A x11.1.n x11.1.c), (.slice x11.2.1.A x11.2.1.n x11.2.1.c), (.slice x11.2.2.A x11.2.2.n x11.2.2.c), (.slice x3.2.2.2.A x3.2.2.2.n x3.2.2.2.c)] rfl ?_
      refine r_nil ?_
      refine j_then ?_
      refine j_ret ?_
      cases h
      exact j_return rfl (ResOf.cell 12 rfl rfl ag27 sz27 ResOf.nil) rfl (fun w h => ⟨(⟨x11.1.A, x11.1.n, x11.1.c, x11.1.h⟩, ⟨x11.2.1.A, x11.2.1.n, x11.2.1.c, x11.2.1.h⟩, ⟨x11.2.2.A, x11.2.2.n, x11.2.2.c, x11.2.2.h⟩, ⟨x3.2.2.2.A, x3.2.2.2.n, x3.2.2.2.c, x3.2.2.2.h⟩), rfl, h.pick 14 [0, 1, 2, 11, 3] rfl⟩)
    · refine j_false rfl (beq_f c3) ?_
      refine j_skip ?_
      refine j_in ?_
      refine j_then ?_
      refine j_seq ?_
      refine j_region ?_
      refine r_q (q_loadb_agg 1 rfl ag27 sz27 rfl rfl rfl rfl) rfl rfl ?_
      refine r_do (a_storeb 6 rfl sz27 rfl rfl rfl rfl (Nat.le_of_ble_eq_true rfl) rfl) rfl rfl (fun _ => ?_)
      refine j_b6 [(.slice x3.1.A x3.1.n x3.1.c), (.slice x3.2.1.A x3.2.1.n x3.2.1.c), (.slice x3.2.2.1.A x3.2.2.1.n x3.2.2.1.c), (.slice x3.2.2.2.A x3.2.2.2.n x3.2.2.2.c)] rfl ?_
      refine r_nil ?_
      refine j_then ?_
      refine j_ret ?_
      cases h
      exact j_return rfl (ResOf.cell 6 rfl rfl ag27 sz27 ResOf.nil) rfl (fun w h => ⟨(⟨x3.1.A, x3.1.n, x3.1.c, x3.1.h⟩, ⟨x3.2.1.A, x3.2.1.n, x3.2.1.c, x3.2.1.h⟩, ⟨x3.2.2.1.A, x3.2.2.1.n, x3.2.2.1.c, x3.2.2.1.h⟩, ⟨x3.2.2.2.A, x3.2.2.2.n, x3.2.2.2.c, x3.2.2.2.h⟩), rfl, h.pick 8 [2, 3, 4, 5, 0] rfl⟩)

theorem spec_l5One.calls (K : Nat) (a0 : Int) {w0 w : World} {F : List Res} {r1 : Bool} (hm : Mem w0 (F) w)  (h : spec_l5One.f K a0 = some r1) :
    Calls Try.prog 29 (List.toArray [i6 a0]) w fun e w' => ∃ x : Unit, e = .returned (.bool r1) ∧ Mem w0 (F) w' := by
  unfold spec_l5One.f at h
  refine calls_of_J (n := 9) Try.func29 rfl rfl rfl hm ?_
  refine j_seq ?_
  refine j_region ?_
  refine r_q (q_assign rfl rfl) rfl rfl ?_
  refine r_nil ?_
  refine j_then ?_
  refine j_seq ?_
  refine j_region ?_
  refine r_q (q_move rfl rfl) rfl rfl ?_
  refine r_q (q_eql rfl rfl rfl) rfl rfl ?_
  refine r_q (q_move rfl rfl) rfl rfl ?_
  rcases of_if h with ⟨c1, h⟩ | ⟨c1, h⟩
  · refine r_off rfl rfl rfl rfl (beq_t c1) rfl ?_
    refine r_off rfl rfl rfl rfl (beq_t c1) rfl ?_
    refine r_q (q_pick_t rfl rfl (beq_t c1) rfl) rfl rfl ?_
    refine r_q (q_assign rfl rfl) rfl rfl ?_
    refine r_nil ?_
    refine j_then ?_
    refine j_ret ?_
    cases h
    exact j_return rfl (ResOf.tmp rfl ResOf.nil) rfl (fun w h => ⟨(), rfl, h⟩)
  · refine r_qon (q_move rfl rfl) rfl rfl rfl rfl (beq_f c1) rfl ?_
    refine r_qon (q_eql rfl rfl rfl) rfl rfl rfl rfl (beq_f c1) rfl ?_
    refine r_q (q_pick_f rfl rfl (beq_f c1) rfl) rfl rfl ?_
    refine r_q (q_assign rfl rfl) rfl rfl ?_
    refine r_nil ?_
    refine j_then ?_
    refine j_ret ?_
    cases h
    exact j_return rfl (ResOf.tmp rfl ResOf.nil) rfl (fun w h => ⟨(), rfl, h⟩)

theorem spec_l5Op.calls (K : Nat) (a0_g : Nat) (a0_0 : List Int) (a0_0_A : Option Addr) (a0_0_n a0_0_c : Nat) (a0_1 : Int) {w0 w : World} {F : List Res} {r1 : Int} {r2 : Int} {r3 : Int} {r4 : Int} (hm : Mem w0 (.box a0_g 50 [.slice a0_0_A a0_0_n a0_0_c, i6 a0_1] :: F) w) (a0_0_h : a0_0.length = a0_0_n) (a0_0_R : Rd w0 F a0_0_A (ints .u8 a0_0)) (h : spec_l5Op.f K a0_0 a0_1 = some (r1, r2, r3, r4)) :
    Calls Try.prog 13 (List.toArray [pt a0_g]) w fun e w' => ∃ x : Unit, e = .returned (.agg (List.toArray [i6 r1, i6 r2, i6 r3])) ∧ Mem w0 (.box a0_g 50 [.slice a0_0_A a0_0_n a0_0_c, i6 r4] :: F) w' := by
  unfold spec_l5Op.f at h
  refine calls_of_J (n := 19) Try.func13 rfl rfl rfl hm ?_
  refine j_seq ?_
  refine j_region ?_
  refine r_do (a_alloc zr29 rfl) rfl rfl (fun x1 => ?_)
  refine r_nil ?_
  refine j_then ?_
  refine j_seq ?_
  refine j_region ?_
  refine r_q (q_move rfl rfl) rfl rfl ?_
  refine r_do (a_litX (vs := [(i6 (1:Int)), (i6 (5:Int)), (i6 (2:Int)), (i6 (3:Int)), (i6 (4:Int)), (i6 (6:Int)), (i6 (7:Int)), (i6 (1:Int))]) (ii ([(1:Int), (5:Int), (2:Int), (3:Int), (4:Int), (6:Int), (7:Int), (1:Int)] : List Int)) un23 sz3 zr3 rfl rfl rfl rfl rfl rfl rfl rfl rfl) rfl rfl (fun x2 => ?_)
  obtain ⟨v1, v2, hb1, h⟩ := of_b2 h
  refine j_rs (.box a0_g 50 [(.slice a0_0_A a0_0_n a0_0_c), (i6 a0_1)] :: .row x2 8 3 1 (ii ([(1:Int), (5:Int), (2:Int), (3:Int), (4:Int), (6:Int), (7:Int), (1:Int)] : List Int)) :: .box x1 29 [(i6 (0:Int)), (i6 (0:Int)), (i6 (0:Int))] :: F) (fun _ h => h.pick 3 [2, 0, 1] rfl) ?_
  refine r_do (a_call ok26 rfl rfl rfl rfl (fun w hm => spec_l13Rd_num.calls K a0_g a0_0 a0_0_A a0_0_n a0_0_c a0_1 ([(1:Int), (5:Int), (2:Int), (3:Int), (4:Int), (6:Int), (7:Int), (1:Int)] : List Int) x2 8 8 hm a0_0_h (Rd.drop 2 a0_0_R) rfl (Rd.row 0 rfl) hb1)) rfl rfl (fun x3 => ?_)
  refine r_q (q_move rfl rfl) rfl rfl ?_
  refine r_do (a_litX (vs := [(i6 (0:Int)), (i6 (1:Int)), (i6 (0:Int)), (i6 (2:Int))]) (ii ([(0:Int), (1:Int), (0:Int), (2:Int)] : List Int)) un23 sz3 zr3 rfl rfl rfl rfl rfl rfl rfl rfl rfl) rfl rfl (fun x4 => ?_)
  obtain ⟨v3, v4, hb2, h⟩ := of_b2 h
  refine j_rs (.box a0_g 50 [(.slice a0_0_A a0_0_n a0_0_c), (i6 v2)] :: .row x4 4 3 1 (ii ([(0:Int), (1:Int), (0:Int), (2:Int)] : List Int)) :: .row x2 8 3 1 (ii ([(1:Int), (5:Int), (2:Int), (3:Int), (4:Int), (6:Int), (7:Int), (1:Int)] : List Int)) :: .box x1 29 [(i6 (0:Int)), (i6 (0:Int)), (i6 (0:Int))] :: F) (fun _ h => h.pick 4 [1, 0, 2, 3] rfl) ?_
  refine r_do (a_call ok26 rfl rfl rfl rfl (fun w hm => spec_l13Rd_num.calls K a0_g a0_0 a0_0_A a0_0_n a0_0_c v2 ([(0:Int), (1:Int), (0:Int), (2:Int)] : List Int) x4 4 4 hm a0_0_h (Rd.drop 3 a0_0_R) rfl (Rd.row 0 rfl) hb2)) rfl rfl (fun x5 => ?_)
  refine r_q (q_move rfl rfl) rfl rfl ?_
  refine r_do (a_litX (vs := [(i6 (0:Int)), (i6 (1:Int)), (i6 (1:Int)), (i6 (2:Int))]) (ii ([(0:Int), (1:Int), (1:Int), (2:Int)] : List Int)) un23 sz3 zr3 rfl rfl rfl rfl rfl rfl rfl rfl rfl) rfl rfl (fun x6 => ?_)
  obtain ⟨v5, v6, hb3, h⟩ := of_b2 h
  refine j_rs (.box a0_g 50 [(.slice a0_0_A a0_0_n a0_0_c), (i6 v4)] :: .row x6 4 3 1 (ii ([(0:Int), (1:Int), (1:Int), (2:Int)] : List Int)) :: .row x4 4 3 1 (ii ([(0:Int), (1:Int), (0:Int), (2:Int)] : List Int)) :: .row x2 8 3 1 (ii ([(1:Int), (5:Int), (2:Int), (3:Int), (4:Int), (6:Int), (7:Int), (1:Int)] : List Int)) :: .box x1 29 [(i6 (0:Int)), (i6 (0:Int)), (i6 (0:Int))] :: F) (fun _ h => h.pick 5 [1, 0, 2, 3, 4] rfl) ?_
  refine r_do (a_call ok26 rfl rfl rfl rfl (fun w hm => spec_l13Rd_num.calls K a0_g a0_0 a0_0_A a0_0_n a0_0_c v4 ([(0:Int), (1:Int), (1:Int), (2:Int)] : List Int) x6 4 4 hm a0_0_h (Rd.drop 4 a0_0_R) rfl (Rd.row 0 rfl) hb3)) rfl rfl (fun x7 => ?_)
  refine r_q (q_build (cs := [(i6 v1), (i6 v3), (i6 v5)]) zr29 pl29 rfl rfl rfl rfl) rfl rfl ?_
  refine r_do (a_alloc zr29 rfl) rfl rfl (fun x8 => ?_)
  refine r_do (a_storeb 0 rfl sz29 rfl rfl rfl rfl (Nat.le_of_ble_eq_true rfl) rfl) rfl rfl (fun _ => ?_)
  refine j_b0 [(i6 v1), (i6 v3), (i6 v5)] rfl ?_
  refine r_nil ?_
  refine j_then ?_
  refine j_seq ?_
  refine j_seq ?_
  refine j_region ?_
  refine r_q (q_fieldAddr fi29_0 sz3 rfl rfl rfl) rfl rfl ?_
  refine r_q (q_loadb 0 rfl ag3 rfl rfl rfl) rfl rfl ?_
  obtain ⟨v7, hb4, h⟩ := of_b1 h
  refine r_do (a_call ok29 rfl rfl rfl rfl (fun w hm => spec_l5One.calls K v1 hm hb4)) rfl rfl (fun x9 => ?_)
  refine r_nil ?_
  refine j_then ?_
  rcases of_if h with ⟨c1, h⟩ | ⟨c1, h⟩
  · refine j_true rfl c1 ?_
    refine j_region ?_
    refine r_q (q_fieldAddr fi29_2 sz3 rfl rfl rfl) rfl rfl ?_
    refine r_do (a_storeb 0 rfl sz3 rfl rfl rfl rfl (Nat.le_of_ble_eq_true rfl) rfl) rfl rfl (fun _ => ?_)
    refine j_b0 [(i6 v1), (i6 v3), (i6 (0:Int))] rfl ?_
    refine r_nil ?_
    refine j_then ?_
    refine j_seq ?_
    refine j_region ?_
    refine r_q (q_loadb_agg 0 rfl ag29 sz29 rfl rfl rfl rfl) rfl rfl ?_
    refine r_do (a_storeb 5 rfl sz29 rfl rfl rfl rfl (Nat.le_of_ble_eq_true rfl) rfl) rfl rfl (fun _ => ?_)
    refine j_b5 [(i6 v1), (i6 v3), (i6 (0:Int))] rfl ?_
    refine r_nil ?_
    refine j_then ?_
    refine j_ret ?_
    cases h
    exact j_return rfl (ResOf.cell 5 rfl rfl ag29 sz29 ResOf.nil) rfl (fun w h => ⟨(), rfl, h.pick 6 [1] rfl⟩)
  · refine j_false rfl (var_f c1) ?_
    refine j_skip ?_
    refine j_then ?_
    refine j_seq ?_
    refine j_region ?_
    refine r_q (q_loadb_agg 0 rfl ag29 sz29 rfl rfl rfl rfl) rfl rfl ?_
    refine r_do (a_storeb 5 rfl sz29 rfl rfl rfl rfl (Nat.le_of_ble_eq_true rfl) rfl) rfl rfl (fun _ => ?_)
    refine j_b5 [(i6 v1), (i6 v3), (i6 v5)] rfl ?_
    refine r_nil ?_
    refine j_then ?_
    refine j_ret ?_
    cases h
    exact j_return rfl (ResOf.cell 5 rfl rfl ag29 sz29 ResOf.nil) rfl (fun w h => ⟨(), rfl, h.pick 6 [1] rfl⟩)

theorem spec_DrawRunOp.calls (K : Nat) (a0 : List Int) (a0_A : Option Addr) (a0_n a0_c : Nat) {w0 w : World} {F : List Res} {r1 : List Int} {r2 : List Int} {r3 : List Int} {r4 : List Int} {r5 : Int} {r6 : Int} {r7 : Int} (hm : Mem w0 (F) w) (a0_h : a0.length = a0_n) (a0_R : Rd w0 F a0_A (ints .u8 a0)) (a0_k : a0.length ≤ a0_c) (h : spec_DrawRunOp.f K a0 = some (r1, r2, r3, r4, r5, r6, r7)) :
    Calls Try.prog 6 (List.toArray [.slice a0_A a0_n a0_c]) w fun e w' => ∃ x : (Sl r1.length) × (Sl r2.length) × (Sl r3.length) × (Sl r4.length), e = .returned (.tuple (List.toArray [.agg (List.toArray [.slice x.1.A x.1.n x.1.c, .slice x.2.1.A x.2.1.n x.2.1.c, .slice x.2.2.1.A x.2.2.1.n x.2.2.1.c, .slice x.2.2.2.A x.2.2.2.n x.2.2.2.c]), .agg (List.toArray [i6 r5, i6 r6, i6 r7])])) ∧ Mem w0 (.row x.1.A x.1.c 3 1 (ii r1) :: .row x.2.1.A x.2.1.c 3 1 (ii r2) :: .row x.2.2.1.A x.2.2.1.c 3 1 (ii r3) :: .row x.2.2.2.A x.2.2.2.c 3 1 (ii r4) :: F) w' := by
  unfold spec_DrawRunOp.f at h
  refine calls_of_J (n := 13) Try.func6 rfl rfl rfl hm ?_
  refine j_seq ?_
  refine j_region ?_
  refine r_do (a_alloc zr27 rfl) rfl rfl (fun x1 => ?_)
  refine r_do (a_alloc zr29 rfl) rfl rfl (fun x2 => ?_)
  refine r_nil ?_
  refine j_then ?_
  refine j_seq ?_
  refine j_region ?_
  refine r_q (q_move rfl rfl) rfl rfl ?_
  obtain ⟨_, hb1, h⟩ := of_b1 h
  refine r_do (a_call ok10 rfl rfl rfl rfl (fun w hm => spec_l13Open.calls K a0 a0_A a0_n a0_c hm a0_h (Rd.drop 2 a0_R) a0_k hb1)) rfl rfl (fun x3 => ?_)
  refine r_q (q_assign rfl rfl) rfl rfl ?_
  refine r_nil ?_
  refine j_then ?_
  refine j_seq ?_
  refine j_region ?_
  refine r_q (q_move rfl rfl) rfl rfl ?_
  refine r_q (q_move rfl rfl) rfl rfl ?_
  obtain ⟨v1, v2, v3, v4, v5, hb2, h⟩ := of_b5 h
  refine r_do (a_call ok12 rfl rfl rfl rfl (fun w hm => spec_l4Draw.calls K x3 (a0.take 2000) a0_A (a0.take 2000).length a0_c (0:Int) hm rfl (rd_hiI (Rd.drop 2 a0_R) 2000) hb2)) rfl rfl (fun x4 => ?_)
  obtain ⟨v6, v7, v8, v9, v10, hb3, h⟩ := of_b5 h
  refine j_rs (.box x3 50 [(.slice a0_A (a0.take 2000).length a0_c), (i6 v5)] :: .row x4.1.A x4.1.c 3 1 (ii v1) :: .row x4.2.1.A x4.2.1.c 3 1 (ii v2) :: .row x4.2.2.1.A x4.2.2.1.c 3 1 (ii v3) :: .row x4.2.2.2.A x4.2.2.2.c 3 1 (ii v4) :: .box x2 29 [(i6 (0:Int)), (i6 (0:Int)), (i6 (0:Int))] :: .box x1 27 [(.slice none 0 0), (.slice none 0 0), (.slice none 0 0), (.slice none 0 0)] :: F) (fun _ h => h.pick 7 [4, 0, 1, 2, 3, 5, 6] rfl) ?_
  refine r_do (a_call ok11 rfl rfl rfl rfl (fun w hm => spec_l4Wrong.calls K x3 (a0.take 2000) a0_A (a0.take 2000).length a0_c v5 v1 x4.1.A x4.1.n x4.1.c v2 x4.2.1.A x4.2.1.n x4.2.1.c v3 x4.2.2.1.A x4.2.2.1.n x4.2.2.1.c v4 x4.2.2.2.A x4.2.2.2.n x4.2.2.2.c hm rfl (rd_hiI (Rd.drop 6 a0_R) 2000) x4.1.h (Rd.row 0 rfl) x4.2.1.h (Rd.row 1 rfl) x4.2.2.1.h (Rd.row 2 rfl) x4.2.2.2.h (Rd.row 3 rfl) hb3)) rfl rfl (fun x5 => ?_)
  refine r_q (q_move rfl rfl) rfl rfl ?_
  obtain ⟨v11, v12, v13, v14, hb4, h⟩ := of_b4 h
  refine j_rs (.box x3 50 [(.slice a0_A (a0.take 2000).length a0_c), (i6 v10)] :: .row x5.1.A x5.1.c 3 1 (ii v6) :: .row x5.2.1.A x5.2.1.c 3 1 (ii v7) :: .row x5.2.2.1.A x5.2.2.1.c 3 1 (ii v8) :: .row x5.2.2.2.A x5.2.2.2.c 3 1 (ii v9) :: .row x4.1.A x4.1.c 3 1 (ii v1) :: .row x4.2.1.A x4.2.1.c 3 1 (ii v2) :: .row x4.2.2.1.A x4.2.2.1.c 3 1 (ii v3) :: .row x4.2.2.2.A x4.2.2.2.c 3 1 (ii v4) :: .box x2 29 [(i6 (0:Int)), (i6 (0:Int)), (i6 (0:Int))] :: .box x1 27 [(.slice none 0 0), (.slice none 0 0), (.slice none 0 0), (.slice none 0 0)] :: F) (fun _ h => h.pick 11 [4, 0, 1, 2, 3, 5, 6, 7, 8, 9, 10] rfl) ?_
  refine r_do (a_call ok13 rfl rfl rfl rfl (fun w hm => spec_l5Op.calls K x3 (a0.take 2000) a0_A (a0.take 2000).length a0_c v10 hm rfl (rd_hiI (Rd.drop 10 a0_R) 2000) hb4)) rfl rfl (fun x6 => ?_)
  refine r_do (a_storeb 10 rfl sz27 rfl rfl rfl rfl (Nat.le_of_ble_eq_true rfl) rfl) rfl rfl (fun _ => ?_)
  refine j_b10 [(.slice x5.1.A x5.1.n x5.1.c), (.slice x5.2.1.A x5.2.1.n x5.2.1.c), (.slice x5.2.2.1.A x5.2.2.1.n x5.2.2.1.c), (.slice x5.2.2.2.A x5.2.2.2.n x5.2.2.2.c)] rfl ?_
  refine r_do (a_storeb 9 rfl sz29 rfl rfl rfl rfl (Nat.le_of_ble_eq_true rfl) rfl) rfl rfl (fun _ => ?_)
  refine j_b9 [(i6 v11), (i6 v12), (i6 v13)] rfl ?_
  refine r_nil ?_
  refine j_then ?_
  refine j_ret ?_
  cases h
  exact j_return rfl (ResOf.cell 10 rfl rfl ag27 sz27 (ResOf.cell 9 rfl rfl ag29 sz29 ResOf.nil)) rfl (fun w h => ⟨(⟨x5.1.A, x5.1.n, x5.1.c, x5.1.h⟩, ⟨x5.2.1.A, x5.2.1.n, x5.2.1.c, x5.2.1.h⟩, ⟨x5.2.2.1.A, x5.2.2.1.n, x5.2.2.1.c, x5.2.2.1.h⟩, ⟨x5.2.2.2.A, x5.2.2.2.n, x5.2.2.2.c, x5.2.2.2.h⟩), rfl, h.pick 11 [1, 2, 3, 4] rfl⟩)

theorem impl_HeapValid.calls (K : Nat) (a0_0 : List Int) (a0_0_A : Option Addr) (a0_0_n a0_0_c : Nat) (a0_1 : List Int) (a0_1_A : Option Addr) (a0_1_n a0_1_c : Nat) (a0_2 : List Int) (a0_2_A : Option Addr) (a0_2_n a0_2_c : Nat) {w0 w : World} {F : List Res} {r1 : Bool} (hm : Mem w0 (F) w) (a0_0_h : a0_0.length = a0_0_n) (a0_0_R : Rd w0 F a0_0_A (ii a0_0)) (a0_1_h : a0_1.length = a0_1_n) (a0_1_R : Rd w0 F a0_1_A (ii a0_1)) (a0_2_h : a0_2.length = a0_2_n) (a0_2_R : Rd w0 F a0_2_A (ii a0_2)) (h : impl_HeapValid.f K a0_0 a0_1 a0_2 = some r1) :
    Calls Try.prog 30 (List.toArray [.agg (List.toArray [.slice a0_0_A a0_0_n a0_0_c, .slice a0_1_A a0_1_n a0_1_c, .slice a0_2_A a0_2_n a0_2_c])]) w fun e w' => ∃ x : Unit, e = .returned (.bool r1) ∧ Mem w0 (F) w' := by
  unfold impl_HeapValid.f at h
  refine calls_of_J (n := 67) Try.func30 rfl rfl rfl hm ?_
  refine j_seq ?_
  refine j_region ?_
  refine r_do (a_box rfl rfl) rfl rfl (fun x1 => ?_)
  refine r_q (q_assign rfl rfl) rfl rfl ?_
  refine r_nil ?_
  refine j_then ?_
  refine j_seq ?_
  refine j_seq ?_
  refine j_region ?_
  refine r_q (q_fieldAddr fi25_0 sz23 rfl rfl rfl) rfl rfl ?_
  refine r_q (q_loadb 0 rfl ag23 rfl rfl rfl) rfl rfl ?_
  refine r_q (q_lenX a0_0 a0_0_h un23 rfl rfl rfl rfl rfl) rfl rfl ?_
  refine r_q (q_fieldAddr fi25_1 sz23 rfl rfl rfl) rfl rfl ?_
  refine r_q (q_loadb 0 rfl ag23 rfl rfl rfl) rfl rfl ?_
  refine r_q (q_lenX a0_1 a0_1_h un23 rfl rfl rfl rfl rfl) rfl rfl ?_
  refine r_q (q_neq rfl rfl rfl) rfl rfl ?_
  refine r_q (q_move rfl rfl) rfl rfl ?_
  rcases of_if h with ⟨c1, h⟩ | ⟨c1, h⟩
  · refine r_qon (q_fieldAddr fi25_0 sz23 rfl rfl rfl) rfl rfl rfl rfl (bne_f c1) rfl ?_
    refine r_qon (q_loadb 0 rfl ag23 rfl rfl rfl) rfl rfl rfl rfl (bne_f c1) rfl ?_
    refine r_qon (q_lenX a0_0 a0_0_h un23 rfl rfl rfl rfl rfl) rfl rfl rfl rfl (bne_f c1) rfl ?_
    refine r_qon (q_lss rfl rfl rfl) rfl rfl rfl rfl (bne_f c1) rfl ?_
    refine r_q (q_pick_f rfl rfl (bne_f c1) rfl) rfl rfl ?_
    refine r_q (q_move rfl rfl) rfl rfl ?_
    rcases of_if h with ⟨c2, h⟩ | ⟨c2, h⟩
    · refine r_off rfl rfl rfl rfl (decide_eq_true c2) rfl ?_
      refine r_off rfl rfl rfl rfl (decide_eq_true c2) rfl ?_
      refine r_off rfl rfl rfl rfl (decide_eq_true c2) rfl ?_
      refine r_off rfl rfl rfl rfl (decide_eq_true c2) rfl ?_
      refine r_q (q_pick_t rfl rfl (decide_eq_true c2) rfl) rfl rfl ?_
      refine r_q (q_move rfl rfl) rfl rfl ?_
      refine r_off rfl rfl rfl rfl rfl rfl ?_
      refine r_off rfl rfl rfl rfl rfl rfl ?_
      refine r_off rfl rfl rfl rfl rfl rfl ?_
      refine r_off rfl rfl rfl rfl rfl rfl ?_
      refine r_q (q_pick_t rfl rfl rfl rfl) rfl rfl ?_
      refine r_q (q_move rfl rfl) rfl rfl ?_
      refine r_off rfl rfl rfl rfl rfl rfl ?_
      refine r_off rfl rfl rfl rfl rfl rfl ?_
      refine r_off rfl rfl rfl rfl rfl rfl ?_
      refine r_off rfl rfl rfl rfl rfl rfl ?_
      refine r_q (q_pick_t rfl rfl rfl rfl) rfl rfl ?_
      refine r_nil ?_
      refine j_then ?_
      refine j_true rfl rfl ?_
      refine j_seq ?_
      refine j_region ?_
      refine r_q (q_assign rfl rfl) rfl rfl ?_
      refine r_nil ?_
      refine j_then ?_
      refine j_ret ?_
      refine j_then_ret ?_
      cases h
      exact j_return rfl (ResOf.tmp rfl ResOf.nil) rfl (fun w h => ⟨(), rfl, h.tail⟩)
    · refine r_qon (q_fieldAddr fi25_0 sz23 rfl rfl rfl) rfl rfl rfl rfl (decide_eq_false c2) rfl ?_
      refine r_qon (q_loadb 0 rfl ag23 rfl rfl rfl) rfl rfl rfl rfl (decide_eq_false c2) rfl ?_
      refine r_qon (q_lenX a0_0 a0_0_h un23 rfl rfl rfl rfl rfl) rfl rfl rfl rfl (decide_eq_false c2) rfl ?_
      refine r_qon (q_gtr rfl rfl rfl) rfl rfl rfl rfl (decide_eq_false c2) rfl ?_
      refine r_q (q_pick_f rfl rfl (decide_eq_false c2) rfl) rfl rfl ?_
      refine r_q (q_move rfl rfl) rfl rfl ?_
      rcases of_if h with ⟨c3, h⟩ | ⟨c3, h⟩
      · refine r_off rfl rfl rfl rfl (decide_eq_true c3) rfl ?_
        refine r_off rfl rfl rfl rfl (decide_eq_true c3) rfl ?_
        refine r_off rfl rfl rfl rfl (decide_eq_true c3) rfl ?_
        refine r_off rfl rfl rfl rfl (decide_eq_true c3) rfl ?_
        refine r_q (q_pick_t rfl rfl (decide_eq_true c3) rfl) rfl rfl ?_
        refine r_q (q_move rfl rfl) rfl rfl ?_
        refine r_off rfl rfl rfl rfl rfl rfl ?_
        refine r_off rfl rfl rfl rfl rfl rfl ?_
        refine r_off rfl rfl rfl rfl rfl rfl ?_
        refine r_off rfl rfl rfl rfl rfl rfl ?_
        refine r_q (q_pick_t rfl rfl rfl rfl) rfl rfl ?_
        refine r_nil ?_
        refine j_then ?_
        refine j_true rfl rfl ?_
        refine j_seq ?_
        refine j_region ?_
        refine r_q (q_assign rfl rfl) rfl rfl ?_
        refine r_nil ?_
        refine j_then ?_
        refine j_ret ?_
        refine j_then_ret ?_
        cases h
        exact j_return rfl (ResOf.tmp rfl ResOf.nil) rfl (fun w h => ⟨(), rfl, h.tail⟩)
      · refine r_qon (q_fieldAddr fi25_2 sz23 rfl rfl rfl) rfl rfl rfl rfl (decide_eq_false c3) rfl ?_
        refine r_qon (q_loadb 0 rfl ag23 rfl rfl rfl) rfl rfl rfl rfl (decide_eq_false c3) rfl ?_
        refine r_qon (q_lenX a0_2 a0_2_h un23 rfl rfl rfl rfl rfl) rfl rfl rfl rfl (decide_eq_false c3) rfl ?_
        refine r_qon (q_lss rfl rfl rfl) rfl rfl rfl rfl (decide_eq_false c3) rfl ?_
        refine r_q (q_pick_f rfl rfl (decide_eq_false c3) rfl) rfl rfl ?_
        refine r_q (q_move rfl rfl) rfl rfl ?_
        rcases of_if h with ⟨c4, h⟩ | ⟨c4, h⟩
        · refine r_off rfl rfl rfl rfl (decide_eq_true c4) rfl ?_
          refine r_off rfl rfl rfl rfl (decide_eq_true c4) rfl ?_
          refine r_off rfl rfl rfl rfl (decide_eq_true c4) rfl ?_
          refine r_off rfl rfl rfl rfl (decide_eq_true c4) rfl ?_
          refine r_q (q_pick_t rfl rfl (decide_eq_true c4) rfl) rfl rfl ?_
          refine r_nil ?_
          refine j_then ?_
          refine j_true rfl rfl ?_
          refine j_seq ?_
          refine j_region ?_
          refine r_q (q_assign rfl rfl) rfl rfl ?_
          refine r_nil ?_
          refine j_then ?_
          refine j_ret ?_
          refine j_then_ret ?_
          cases h
          exact j_return rfl (ResOf.tmp rfl ResOf.nil) rfl (fun w h => ⟨(), rfl, h.tail⟩)
        · refine r_qon (q_fieldAddr fi25_2 sz23 rfl rfl rfl) rfl rfl rfl rfl (decide_eq_false c4) rfl ?_
          refine r_qon (q_loadb 0 rfl ag23 rfl rfl rfl) rfl rfl rfl rfl (decide_eq_false c4) rfl ?_
          refine r_qon (q_lenX a0_2 a0_2_h un23 rfl rfl rfl rfl rfl) rfl rfl rfl rfl (decide_eq_false c4) rfl ?_
          refine r_qon (q_gtr rfl rfl rfl) rfl rfl rfl rfl (decide_eq_false c4) rfl ?_
          refine r_q (q_pick_f rfl rfl (decide_eq_false c4) rfl) rfl rfl ?_
          refine r_nil ?_
          refine j_then ?_
          rcases of_if h with ⟨c5, h⟩ | ⟨c5, h⟩
          · refine j_true rfl (decide_eq_true c5) ?_
            refine j_seq ?_
            refine j_region ?_
            refine r_q (q_assign rfl rfl) rfl rfl ?_
            refine r_nil ?_
            refine j_then ?_
            refine j_ret ?_
            refine j_then_ret ?_
            cases h
            exact j_return rfl (ResOf.tmp rfl ResOf.nil) rfl (fun w h => ⟨(), rfl, h.tail⟩)
          · refine j_false rfl (decide_eq_false c5) ?_
            refine j_skip ?_
            refine j_then ?_
            refine j_seq ?_
            refine j_seq ?_
            refine j_region ?_
            refine r_q (q_fieldAddr fi25_0 sz23 rfl rfl rfl) rfl rfl ?_
            refine r_q (q_loadb 0 rfl ag23 rfl rfl rfl) rfl rfl ?_
            refine r_q (q_fieldAddr fi25_1 sz23 rfl rfl rfl) rfl rfl ?_
            refine r_q (q_loadb 0 rfl ag23 rfl rfl rfl) rfl rfl ?_
            refine r_q (q_fieldAddr fi25_2 sz23 rfl rfl rfl) rfl rfl ?_
            refine r_q (q_loadb 0 rfl ag23 rfl rfl rfl) rfl rfl ?_
            refine r_do (a_litX (vs := [(.slice a0_0_A a0_0_n a0_0_c), (.slice a0_1_A a0_1_n a0_1_c), (.slice a0_2_A a0_2_n a0_2_c)]) [(.slice a0_0_A a0_0_n a0_0_c), (.slice a0_1_A a0_1_n a0_1_c), (.slice a0_2_A a0_2_n a0_2_c)] un67 sz23 zr23 rfl rfl rfl rfl rfl rfl rfl rfl rfl) rfl rfl (fun x2 => ?_)
            refine r_q (q_len_sl rfl rfl rfl rfl un67 rfl) rfl rfl ?_
            refine r_q (q_move rfl rfl) rfl rfl ?_
            refine r_nil ?_
            refine j_then ?_
            refine j_block ?_
            refine j_unroll ?_
            refine j_round ?_
            refine j_seq ?_
            refine j_region ?_
            refine r_q (q_lss rfl rfl rfl) rfl rfl ?_
            refine r_nil ?_
            refine j_then ?_
            refine j_seq ?_
            refine j_true rfl (by decide) ?_
            refine j_skip ?_
            refine j_then ?_
            refine j_seq ?_
            refine j_block ?_
            refine j_seq ?_
            refine j_region ?_
            refine r_q (q_ix (L := 3) (Rd.row 0 rfl) rfl (by decide) rfl (by decide) un67 sz23 rfl rfl rfl) rfl rfl ?_
            refine r_q (q_load (Rd.row 0 rfl) ag23 rfl rfl rfl) rfl rfl ?_
            refine r_q (q_assign rfl rfl) rfl rfl ?_
            refine r_nil ?_
            refine j_then ?_
            refine j_seq ?_
            refine j_region ?_
            refine r_q (q_move rfl rfl) rfl rfl ?_
            refine r_q (q_lenX a0_0 a0_0_h un23 rfl rfl rfl rfl rfl) rfl rfl ?_
            refine r_q (q_move rfl rfl) rfl rfl ?_
            refine r_nil ?_
            refine j_then ?_
            obtain ⟨κ0, h, hκ0⟩ := ex_k (g := fun κ => impl_HeapValid.loop0 K κ a0_0 K (0:Int) = some r1) h
            refine j_cut (σ := Unit) (fun s => [(1, (pt x1)), (44, (.slice x2 3 3)), (45, (i6 ((3 : Nat) : Int))), (46, (i6 (0:Int)))]) (fun s => .box x1 25 [(.slice a0_0_A a0_0_n a0_0_c), (.slice a0_1_A a0_1_n a0_1_c), (.slice a0_2_A a0_2_n a0_2_c)] :: .row x2 3 23 1 [(.slice a0_0_A a0_0_n a0_0_c), (.slice a0_1_A a0_1_n a0_1_c), (.slice a0_2_A a0_2_n a0_2_c)] :: F) (fun s => κ0 () = some r1) ?_ ?_
            · refine j_block ?_
              refine j_loop (σ := Int) (fun s => [(1, (pt x1)), (44, (.slice x2 3 3)), (45, (i6 ((3 : Nat) : Int))), (46, (i6 (0:Int))), (50, (.slice a0_0_A a0_0_n a0_0_c)), (51, (i6 (a0_0.length : Int))), (52, (i6 s))]) (fun s => .box x1 25 [(.slice a0_0_A a0_0_n a0_0_c), (.slice a0_1_A a0_1_n a0_1_c), (.slice a0_2_A a0_2_n a0_2_c)] :: .row x2 3 23 1 [(.slice a0_0_A a0_0_n a0_0_c), (.slice a0_1_A a0_1_n a0_1_c), (.slice a0_2_A a0_2_n a0_2_c)] :: F) (fun m s => impl_HeapValid.loop0 K κ0 a0_0 m s = some r1) K (0:Int) h (fun a he => he.sub ⟨rfl, rfl, rfl, rfl, rfl, rfl, rfl, trivial⟩) (fun w h => h.pick 2 [1, 0] rfl) ?_
              rintro m p2 h
              cases m with
              | zero => exact absurd h (by rw [impl_HeapValid.loop0]; exact nofun)
              | succ m =>
                rw [impl_HeapValid.loop0] at h
                show J _ _ [(1, (pt x1)), (44, (.slice x2 3 3)), (45, (i6 ((3 : Nat) : Int))), (46, (i6 (0:Int))), (50, (.slice a0_0_A a0_0_n a0_0_c)), (51, (i6 (a0_0.length : Int))), (52, (i6 p2))] _ (.box x1 25 [(.slice a0_0_A a0_0_n a0_0_c), (.slice a0_1_A a0_1_n a0_1_c), (.slice a0_2_A a0_2_n a0_2_c)] :: .row x2 3 23 1 [(.slice a0_0_A a0_0_n a0_0_c), (.slice a0_1_A a0_1_n a0_1_c), (.slice a0_2_A a0_2_n a0_2_c)] :: F)
                refine j_seq ?_
                refine j_region ?_
                refine r_q (q_lss rfl rfl rfl) rfl rfl ?_
                refine r_nil ?_
                refine j_then ?_
                refine j_seq ?_
                rcases of_if h with ⟨c18, h⟩ | ⟨c18, h⟩
                · refine j_true rfl (decide_eq_true c18) ?_
                  refine j_skip ?_
                  refine j_then ?_
                  refine j_seq ?_
                  refine j_block ?_
                  refine j_seq ?_
                  refine j_region ?_
                  obtain ⟨c19, h⟩ := of_guard h
                  refine r_q (q_ix (Rd.drop 2 a0_0_R) (ints_len1 _ a0_0) (by decide) a0_0_h c19 un23 sz3 rfl rfl rfl) rfl rfl ?_
                  refine r_q (q_ldI (Rd.drop 2 a0_0_R) c19 ag3 rfl rfl) rfl rfl ?_
                  refine r_q (q_assign rfl rfl) rfl rfl ?_
                  refine r_nil ?_
                  refine j_then ?_
                  refine j_seq ?_
                  refine j_region ?_
                  refine r_q (q_move rfl rfl) rfl rfl ?_
                  refine r_q (q_lss rfl rfl rfl) rfl rfl ?_
                  refine r_q (q_move rfl rfl) rfl rfl ?_
                  rcases of_if h with ⟨c20, h⟩ | ⟨c20, h⟩
                  · refine r_off rfl rfl rfl rfl (decide_eq_true c20) rfl ?_
                    refine r_off rfl rfl rfl rfl (decide_eq_true c20) rfl ?_
                    refine r_off rfl rfl rfl rfl (decide_eq_true c20) rfl ?_
                    refine r_off rfl rfl rfl rfl (decide_eq_true c20) rfl ?_
                    refine r_off rfl rfl rfl rfl (decide_eq_true c20) rfl ?_
                    refine r_q (q_pick_t rfl rfl (decide_eq_true c20) rfl) rfl rfl ?_
                    refine r_nil ?_
                    refine j_then ?_
                    refine j_true rfl rfl ?_
                    refine j_seq ?_
                    refine j_region ?_
                    refine r_q (q_assign rfl rfl) rfl rfl ?_
                    refine r_nil ?_
                    refine j_then ?_
                    refine j_ret ?_
                    refine j_in_ret ?_
                    refine j_then_ret ?_
                    refine j_then_ret ?_
                    refine j_in_ret ?_
                    refine j_then_ret ?_
                    refine j_in_ret ?_
                    refine j_then_ret ?_
                    refine j_then_ret ?_
                    refine j_in_ret ?_
                    refine j_then_ret ?_
                    cases h
                    exact j_return rfl (ResOf.tmp rfl ResOf.nil) rfl (fun w h => ⟨(), rfl, (h.drop 2)⟩)
                  · refine r_qon (q_move rfl rfl) rfl rfl rfl rfl (decide_eq_false c20) rfl ?_
                    refine r_qon (q_fieldAddr fi25_0 sz23 rfl rfl rfl) rfl rfl rfl rfl (decide_eq_false c20) rfl ?_
                    refine r_qon (q_loadb 0 rfl ag23 rfl rfl rfl) rfl rfl rfl rfl (decide_eq_false c20) rfl ?_
                    refine r_qon (q_lenX a0_0 a0_0_h un23 rfl rfl rfl rfl rfl) rfl rfl rfl rfl (decide_eq_false c20) rfl ?_
                    refine r_qon (q_geq rfl rfl rfl) rfl rfl rfl rfl (decide_eq_false c20) rfl ?_
                    refine r_q (q_pick_f rfl rfl (decide_eq_false c20) rfl) rfl rfl ?_
                    refine r_nil ?_
                    refine j_then ?_
                    rcases of_if h with ⟨c21, h⟩ | ⟨c21, h⟩
                    · refine j_true rfl (decide_eq_true c21) ?_
                      refine j_seq ?_
                      refine j_region ?_
                      refine r_q (q_assign rfl rfl) rfl rfl ?_
                      refine r_nil ?_
                      refine j_then ?_
                      refine j_ret ?_
                      refine j_in_ret ?_
                      refine j_then_ret ?_
                      refine j_then_ret ?_
                      refine j_in_ret ?_
                      refine j_then_ret ?_
                      refine j_in_ret ?_
                      refine j_then_ret ?_
                      refine j_then_ret ?_
                      refine j_in_ret ?_
                      refine j_then_ret ?_
                      cases h
                      exact j_return rfl (ResOf.tmp rfl ResOf.nil) rfl (fun w h => ⟨(), rfl, (h.drop 2)⟩)
                    · refine j_false rfl (decide_eq_false c21) ?_
                      refine j_skip ?_
                      refine j_in ?_
                      refine j_then ?_
                      refine j_region ?_
                      refine r_q (q_add rfl rfl rfl) rfl rfl ?_
                      refine r_q (q_move rfl rfl) rfl rfl ?_
                      refine r_nil ?_
                      refine j_then ?_
                      exact j_again m (wrap64 (p2 + (1:Int))) (Nat.lt_succ_self m) h (fun a he => he.sub ⟨rfl, rfl, rfl, rfl, rfl, rfl, rfl, trivial⟩) (fun w h => h)
                · refine j_false rfl (decide_eq_false c18) ?_
                  refine j_exit ?_
                  refine j_then_exit ?_
                  refine j_then_exit ?_
                  refine j_in_exit ?_
                  refine j_then ?_
                  exact j_meet () h (fun a he => he.sub ⟨rfl, rfl, rfl, rfl, trivial⟩) (fun w h => h)
            · rintro _ h
              subst hκ0
              show J _ _ [(1, (pt x1)), (44, (.slice x2 3 3)), (45, (i6 ((3 : Nat) : Int))), (46, (i6 (0:Int)))] _ (.box x1 25 [(.slice a0_0_A a0_0_n a0_0_c), (.slice a0_1_A a0_1_n a0_1_c), (.slice a0_2_A a0_2_n a0_2_c)] :: .row x2 3 23 1 [(.slice a0_0_A a0_0_n a0_0_c), (.slice a0_1_A a0_1_n a0_1_c), (.slice a0_2_A a0_2_n a0_2_c)] :: F)
              refine j_in ?_
              refine j_then ?_
              refine j_region ?_
              refine r_q (q_addc (v := (1:Int)) rfl rfl rfl (by decide) (by decide)) rfl rfl ?_
              refine r_q (q_move rfl rfl) rfl rfl ?_
              refine r_nil ?_
              refine j_then ?_
              refine j_round ?_
              refine j_seq ?_
              refine j_region ?_
              refine r_q (q_lss rfl rfl rfl) rfl rfl ?_
              refine r_nil ?_
              refine j_then ?_
              refine j_seq ?_
              refine j_true rfl (by decide) ?_
              refine j_skip ?_
              refine j_then ?_
              refine j_seq ?_
              refine j_block ?_
              refine j_seq ?_
              refine j_region ?_
              refine r_q (q_ix (L := 3) (Rd.row 1 rfl) rfl (by decide) rfl (by decide) un67 sz23 rfl rfl rfl) rfl rfl ?_
              refine r_q (q_load (Rd.row 1 rfl) ag23 rfl rfl rfl) rfl rfl ?_
              refine r_q (q_assign rfl rfl) rfl rfl ?_
              refine r_nil ?_
              refine j_then ?_
              refine j_seq ?_
              refine j_region ?_
              refine r_q (q_move rfl rfl) rfl rfl ?_
              refine r_q (q_lenX a0_1 a0_1_h un23 rfl rfl rfl rfl rfl) rfl rfl ?_
              refine r_q (q_move rfl rfl) rfl rfl ?_
              refine r_nil ?_
              refine j_then ?_
              obtain ⟨κ1, h, hκ1⟩ := ex_k (g := fun κ => impl_HeapValid.loop1 K κ a0_0 a0_1 K (0:Int) = some r1) h
              refine j_cut (σ := Unit) (fun s => [(1, (pt x1)), (44, (.slice x2 3 3)), (45, (i6 ((3 : Nat) : Int))), (46, (i6 (1:Int)))]) (fun s => .box x1 25 [(.slice a0_0_A a0_0_n a0_0_c), (.slice a0_1_A a0_1_n a0_1_c), (.slice a0_2_A a0_2_n a0_2_c)] :: .row x2 3 23 1 [(.slice a0_0_A a0_0_n a0_0_c), (.slice a0_1_A a0_1_n a0_1_c), (.slice a0_2_A a0_2_n a0_2_c)] :: F) (fun s => κ1 () = some r1) ?_ ?_
              · refine j_block ?_
                refine j_loop (σ := Int) (fun s => [(1, (pt x1)), (44, (.slice x2 3 3)), (45, (i6 ((3 : Nat) : Int))), (46, (i6 (1:Int))), (50, (.slice a0_1_A a0_1_n a0_1_c)), (51, (i6 (a0_1.length : Int))), (52, (i6 s))]) (fun s => .box x1 25 [(.slice a0_0_A a0_0_n a0_0_c), (.slice a0_1_A a0_1_n a0_1_c), (.slice a0_2_A a0_2_n a0_2_c)] :: .row x2 3 23 1 [(.slice a0_0_A a0_0_n a0_0_c), (.slice a0_1_A a0_1_n a0_1_c), (.slice a0_2_A a0_2_n a0_2_c)] :: F) (fun m s => impl_HeapValid.loop1 K κ1 a0_0 a0_1 m s = some r1) K (0:Int) h (fun a he => he.sub ⟨rfl, rfl, rfl, rfl, rfl, rfl, rfl, trivial⟩) (fun w h => h) ?_
                rintro m p4 h
                cases m with
                | zero => exact absurd h (by rw [impl_HeapValid.loop1]; exact nofun)
                | succ m =>
                  rw [impl_HeapValid.loop1] at h
                  show J _ _ [(1, (pt x1)), (44, (.slice x2 3 3)), (45, (i6 ((3 : Nat) : Int))), (46, (i6 (1:Int))), (50, (.slice a0_1_A a0_1_n a0_1_c)), (51, (i6 (a0_1.length : Int))), (52, (i6 p4))] _ (.box x1 25 [(.slice a0_0_A a0_0_n a0_0_c), (.slice a0_1_A a0_1_n a0_1_c), (.slice a0_2_A a0_2_n a0_2_c)] :: .row x2 3 23 1 [(.slice a0_0_A a0_0_n a0_0_c), (.slice a0_1_A a0_1_n a0_1_c), (.slice a0_2_A a0_2_n a0_2_c)] :: F)
                  refine j_seq ?_
                  refine j_region ?_
                  refine r_q (q_lss rfl rfl rfl) rfl rfl ?_
                  refine r_nil ?_
                  refine j_then ?_
                  refine j_seq ?_
                  rcases of_if h with ⟨c34, h⟩ | ⟨c34, h⟩
                  · refine j_true rfl (decide_eq_true c34) ?_
                    refine j_skip ?_
                    refine j_then ?_
                    refine j_seq ?_
                    refine j_block ?_
                    refine j_seq ?_
                    refine j_region ?_
                    obtain ⟨c35, h⟩ := of_guard h
                    refine r_q (q_ix (Rd.drop 2 a0_1_R) (ints_len1 _ a0_1) (by decide) a0_1_h c35 un23 sz3 rfl rfl rfl) rfl rfl ?_
                    refine r_q (q_ldI (Rd.drop 2 a0_1_R) c35 ag3 rfl rfl) rfl rfl ?_
                    refine r_q (q_assign rfl rfl) rfl rfl ?_
                    refine r_nil ?_
                    refine j_then ?_
                    refine j_seq ?_
                    refine j_region ?_
                    refine r_q (q_move rfl rfl) rfl rfl ?_
                    refine r_q (q_lss rfl rfl rfl) rfl rfl ?_
                    refine r_q (q_move rfl rfl) rfl rfl ?_
                    rcases of_if h with ⟨c36, h⟩ | ⟨c36, h⟩
                    · refine r_off rfl rfl rfl rfl (decide_eq_true c36) rfl ?_
                      refine r_off rfl rfl rfl rfl (decide_eq_true c36) rfl ?_
                      refine r_off rfl rfl rfl rfl (decide_eq_true c36) rfl ?_
                      refine r_off rfl rfl rfl rfl (decide_eq_true c36) rfl ?_
                      refine r_off rfl rfl rfl rfl (decide_eq_true c36) rfl ?_
                      refine r_q (q_pick_t rfl rfl (decide_eq_true c36) rfl) rfl rfl ?_
                      refine r_nil ?_
                      refine j_then ?_
                      refine j_true rfl rfl ?_
                      refine j_seq ?_
                      refine j_region ?_
                      refine r_q (q_assign rfl rfl) rfl rfl ?_
                      refine r_nil ?_
                      refine j_then ?_
                      refine j_ret ?_
                      refine j_in_ret ?_
                      refine j_then_ret ?_
                      refine j_then_ret ?_
                      refine j_in_ret ?_
                      refine j_then_ret ?_
                      refine j_in_ret ?_
                      refine j_then_ret ?_
                      refine j_then_ret ?_
                      refine j_in_ret ?_
                      refine j_then_ret ?_
                      cases h
                      exact j_return rfl (ResOf.tmp rfl ResOf.nil) rfl (fun w h => ⟨(), rfl, (h.drop 2)⟩)
                    · refine r_qon (q_move rfl rfl) rfl rfl rfl rfl (decide_eq_false c36) rfl ?_
                      refine r_qon (q_fieldAddr fi25_0 sz23 rfl rfl rfl) rfl rfl rfl rfl (decide_eq_false c36) rfl ?_
                      refine r_qon (q_loadb 0 rfl ag23 rfl rfl rfl) rfl rfl rfl rfl (decide_eq_false c36) rfl ?_
                      refine r_qon (q_lenX a0_0 a0_0_h un23 rfl rfl rfl rfl rfl) rfl rfl rfl rfl (decide_eq_false c36) rfl ?_
                      refine r_qon (q_geq rfl rfl rfl) rfl rfl rfl rfl (decide_eq_false c36) rfl ?_
                      refine r_q (q_pick_f rfl rfl (decide_eq_false c36) rfl) rfl rfl ?_
                      refine r_nil ?_
                      refine j_then ?_
                      rcases of_if h with ⟨c37, h⟩ | ⟨c37, h⟩
                      · refine j_true rfl (decide_eq_true c37) ?_
                        refine j_seq ?_
                        refine j_region ?_
                        refine r_q (q_assign rfl rfl) rfl rfl ?_
                        refine r_nil ?_
                        refine j_then ?_
                        refine j_ret ?_
                        refine j_in_ret ?_
                        refine j_then_ret ?_
                        refine j_then_ret ?_
                        refine j_in_ret ?_
                        refine j_then_ret ?_
                        refine j_in_ret ?_
                        refine j_then_ret ?_
                        refine j_then_ret ?_
                        refine j_in_ret ?_
                        refine j_then_ret ?_
                        cases h
                        exact j_return rfl (ResOf.tmp rfl ResOf.nil) rfl (fun w h => ⟨(), rfl, (h.drop 2)⟩)
                      · refine j_false rfl (decide_eq_false c37) ?_
                        refine j_skip ?_
                        refine j_in ?_
                        refine j_then ?_
                        refine j_region ?_
                        refine r_q (q_add rfl rfl rfl) rfl rfl ?_
                        refine r_q (q_move rfl rfl) rfl rfl ?_
                        refine r_nil ?_
                        refine j_then ?_
                        exact j_again m (wrap64 (p4 + (1:Int))) (Nat.lt_succ_self m) h (fun a he => he.sub ⟨rfl, rfl, rfl, rfl, rfl, rfl, rfl, trivial⟩) (fun w h => h)
                  · refine j_false rfl (decide_eq_false c34) ?_
                    refine j_exit ?_
                    refine j_then_exit ?_
                    refine j_then_exit ?_
                    refine j_in_exit ?_
                    refine j_then ?_
                    exact j_meet () h (fun a he => he.sub ⟨rfl, rfl, rfl, rfl, trivial⟩) (fun w h => h)
              · rintro _ h
                subst hκ1
                show J _ _ [(1, (pt x1)), (44, (.slice x2 3 3)), (45, (i6 ((3 : Nat) : Int))), (46, (i6 (1:Int)))] _ (.box x1 25 [(.slice a0_0_A a0_0_n a0_0_c), (.slice a0_1_A a0_1_n a0_1_c), (.slice a0_2_A a0_2_n a0_2_c)] :: .row x2 3 23 1 [(.slice a0_0_A a0_0_n a0_0_c), (.slice a0_1_A a0_1_n a0_1_c), (.slice a0_2_A a0_2_n a0_2_c)] :: F)
                refine j_in ?_
                refine j_then ?_
                refine j_region ?_
                refine r_q (q_addc (v := (2:Int)) rfl rfl rfl (by decide) (by decide)) rfl rfl ?_
                refine r_q (q_move rfl rfl) rfl rfl ?_
                refine r_nil ?_
                refine j_then ?_
                refine j_round ?_
                refine j_seq ?_
                refine j_region ?_
                refine r_q (q_lss rfl rfl rfl) rfl rfl ?_
                refine r_nil ?_
                refine j_then ?_
                refine j_seq ?_
                refine j_true rfl (by decide) ?_
                refine j_skip ?_
                refine j_then ?_
                refine j_seq ?_
                refine j_block ?_
                refine j_seq ?_
                refine j_region ?_
                refine r_q (q_ix (L := 3) (Rd.row 1 rfl) rfl (by decide) rfl (by decide) un67 sz23 rfl rfl rfl) rfl rfl ?_
                refine r_q (q_load (Rd.row 1 rfl) ag23 rfl rfl rfl) rfl rfl ?_
                refine r_q (q_assign rfl rfl) rfl rfl ?_
                refine r_nil ?_
                refine j_then ?_
                refine j_seq ?_
                refine j_region ?_
                refine r_q (q_move rfl rfl) rfl rfl ?_
                refine r_q (q_lenX a0_2 a0_2_h un23 rfl rfl rfl rfl rfl) rfl rfl ?_
                refine r_q (q_move rfl rfl) rfl rfl ?_
                refine r_nil ?_
                refine j_then ?_
                obtain ⟨κ2, h, hκ2⟩ := ex_k (g := fun κ => impl_HeapValid.loop2 K κ a0_0 a0_2 K (0:Int) = some r1) h
                refine j_cut (σ := Unit) (fun s => [(1, (pt x1)), (44, (.slice x2 3 3)), (45, (i6 ((3 : Nat) : Int))), (46, (i6 (2:Int)))]) (fun s => .box x1 25 [(.slice a0_0_A a0_0_n a0_0_c), (.slice a0_1_A a0_1_n a0_1_c), (.slice a0_2_A a0_2_n a0_2_c)] :: .row x2 3 23 1 [(.slice a0_0_A a0_0_n a0_0_c), (.slice a0_1_A a0_1_n a0_1_c), (.slice a0_2_A a0_2_n a0_2_c)] :: F) (fun s => κ2 () = some r1) ?_ ?_
                · refine j_block ?_
                  refine j_loop (σ := Int) (fun s => [(1, (pt x1)), (44, (.slice x2 3 3)), (45, (i6 ((3 : Nat) : Int))), (46, (i6 (2:Int))), (50, (.slice a0_2_A a0_2_n a0_2_c)), (51, (i6 (a0_2.length : Int))), (52, (i6 s))]) (fun s => .box x1 25 [(.slice a0_0_A a0_0_n a0_0_c), (.slice a0_1_A a0_1_n a0_1_c), (.slice a0_2_A a0_2_n a0_2_c)] :: .row x2 3 23 1 [(.slice a0_0_A a0_0_n a0_0_c), (.slice a0_1_A a0_1_n a0_1_c), (.slice a0_2_A a0_2_n a0_2_c)] :: F) (fun m s => impl_HeapValid.loop2 K κ2 a0_0 a0_2 m s = some r1) K (0:Int) h (fun a he => he.sub ⟨rfl, rfl, rfl, rfl, rfl, rfl, rfl, trivial⟩) (fun w h => h) ?_
                  rintro m p6 h
                  cases m with
                  | zero => exact absurd h (by rw [impl_HeapValid.loop2]; exact nofun)
                  | succ m =>
                    rw [impl_HeapValid.loop2] at h
                    show J _ _ [(1, (pt x1)), (44, (.slice x2 3 3)), (45, (i6 ((3 : Nat) : Int))), (46, (i6 (2:Int))), (50, (.slice a0_2_A a0_2_n a0_2_c)), (51, (i6 (a0_2.length : Int))), (52, (i6 p6))] _ (.box x1 25 [(.slice a0_0_A a0_0_n a0_0_c), (.slice a0_1_A a0_1_n a0_1_c), (.slice a0_2_A a0_2_n a0_2_c)] :: .row x2 3 23 1 [(.slice a0_0_A a0_0_n a0_0_c), (.slice a0_1_A a0_1_n a0_1_c), (.slice a0_2_A a0_2_n a0_2_c)] :: F)
                    refine j_seq ?_
                    refine j_region ?_
                    refine r_q (q_lss rfl rfl rfl) rfl rfl ?_
                    refine r_nil ?_
                    refine j_then ?_
                    refine j_seq ?_
                    rcases of_if h with ⟨c50, h⟩ | ⟨c50, h⟩
                    · refine j_true rfl (decide_eq_true c50) ?_
                      refine j_skip ?_
                      refine j_then ?_
                      refine j_seq ?_
                      refine j_block ?_
                      refine j_seq ?_
                      refine j_region ?_
                      obtain ⟨c51, h⟩ := of_guard h
                      refine r_q (q_ix (Rd.drop 2 a0_2_R) (ints_len1 _ a0_2) (by decide) a0_2_h c51 un23 sz3 rfl rfl rfl) rfl rfl ?_
                      refine r_q (q_ldI (Rd.drop 2 a0_2_R) c51 ag3 rfl rfl) rfl rfl ?_
                      refine r_q (q_assign rfl rfl) rfl rfl ?_
                      refine r_nil ?_
                      refine j_then ?_
                      refine j_seq ?_
                      refine j_region ?_
                      refine r_q (q_move rfl rfl) rfl rfl ?_
                      refine r_q (q_lss rfl rfl rfl) rfl rfl ?_
                      refine r_q (q_move rfl rfl) rfl rfl ?_
                      rcases of_if h with ⟨c52, h⟩ | ⟨c52, h⟩
                      · refine r_off rfl rfl rfl rfl (decide_eq_true c52) rfl ?_
                        refine r_off rfl rfl rfl rfl (decide_eq_true c52) rfl ?_
                        refine r_off rfl rfl rfl rfl (decide_eq_true c52) rfl ?_
                        refine r_off rfl rfl rfl rfl (decide_eq_true c52) rfl ?_
                        refine r_off rfl rfl rfl rfl (decide_eq_true c52) rfl ?_
                        refine r_q (q_pick_t rfl rfl (decide_eq_true c52) rfl) rfl rfl ?_
                        refine r_nil ?_
                        refine j_then ?_
                        refine j_true rfl rfl ?_
                        refine j_seq ?_
                        refine j_region ?_
                        refine r_q (q_assign rfl rfl) rfl rfl ?_
                        refine r_nil ?_
                        refine j_then ?_
                        refine j_ret ?_
                        refine j_in_ret ?_
                        refine j_then_ret ?_
                        refine j_then_ret ?_
                        refine j_in_ret ?_
                        refine j_then_ret ?_
                        refine j_in_ret ?_
                        refine j_then_ret ?_
                        refine j_then_ret ?_
                        refine j_in_ret ?_
                        refine j_then_ret ?_
                        cases h
                        exact j_return rfl (ResOf.tmp rfl ResOf.nil) rfl (fun w h => ⟨(), rfl, (h.drop 2)⟩)
                      · refine r_qon (q_move rfl rfl) rfl rfl rfl rfl (decide_eq_false c52) rfl ?_
                        refine r_qon (q_fieldAddr fi25_0 sz23 rfl rfl rfl) rfl rfl rfl rfl (decide_eq_false c52) rfl ?_
                        refine r_qon (q_loadb 0 rfl ag23 rfl rfl rfl) rfl rfl rfl rfl (decide_eq_false c52) rfl ?_
                        refine r_qon (q_lenX a0_0 a0_0_h un23 rfl rfl rfl rfl rfl) rfl rfl rfl rfl (decide_eq_false c52) rfl ?_
                        refine r_qon (q_geq rfl rfl rfl) rfl rfl rfl rfl (decide_eq_false c52) rfl ?_
                        refine r_q (q_pick_f rfl rfl (decide_eq_false c52) rfl) rfl rfl ?_
                        refine r_nil ?_
                        refine j_then ?_
                        rcases of_if h with ⟨c53, h⟩ | ⟨c53, h⟩
                        · refine j_true rfl (decide_eq_true c53) ?_
                          refine j_seq ?_
                          refine j_region ?_
                          refine r_q (q_assign rfl rfl) rfl rfl ?_
                          refine r_nil ?_
                          refine j_then ?_
                          refine j_ret ?_
                          refine j_in_ret ?_
                          refine j_then_ret ?_
                          refine j_then_ret ?_
                          refine j_in_ret ?_
                          refine j_then_ret ?_
                          refine j_in_ret ?_
                          refine j_then_ret ?_
                          refine j_then_ret ?_
                          refine j_in_ret ?_
                          refine j_then_ret ?_
                          cases h
                          exact j_return rfl (ResOf.tmp rfl ResOf.nil) rfl (fun w h => ⟨(), rfl, (h.drop 2)⟩)
                        · refine j_false rfl (decide_eq_false c53) ?_
                          refine j_skip ?_
                          refine j_in ?_
                          refine j_then ?_
                          refine j_region ?_
                          refine r_q (q_add rfl rfl rfl) rfl rfl ?_
                          refine r_q (q_move rfl rfl) rfl rfl ?_
                          refine r_nil ?_
                          refine j_then ?_
                          exact j_again m (wrap64 (p6 + (1:Int))) (Nat.lt_succ_self m) h (fun a he => he.sub ⟨rfl, rfl, rfl, rfl, rfl, rfl, rfl, trivial⟩) (fun w h => h)
                    · refine j_false rfl (decide_eq_false c50) ?_
                      refine j_exit ?_
                      refine j_then_exit ?_
                      refine j_then_exit ?_
                      refine j_in_exit ?_
                      refine j_then ?_
                      exact j_meet () h (fun a he => he.sub ⟨rfl, rfl, rfl, rfl, trivial⟩) (fun w h => h)
                · rintro _ h
                  subst hκ2
                  show J _ _ [(1, (pt x1)), (44, (.slice x2 3 3)), (45, (i6 ((3 : Nat) : Int))), (46, (i6 (2:Int)))] _ (.box x1 25 [(.slice a0_0_A a0_0_n a0_0_c), (.slice a0_1_A a0_1_n a0_1_c), (.slice a0_2_A a0_2_n a0_2_c)] :: .row x2 3 23 1 [(.slice a0_0_A a0_0_n a0_0_c), (.slice a0_1_A a0_1_n a0_1_c), (.slice a0_2_A a0_2_n a0_2_c)] :: F)
                  refine j_in ?_
                  refine j_then ?_
                  refine j_region ?_
                  refine r_q (q_addc (v := (3:Int)) rfl rfl rfl (by decide) (by decide)) rfl rfl ?_
                  refine r_q (q_move rfl rfl) rfl rfl ?_
                  refine r_nil ?_
                  refine j_then ?_
                  refine j_round ?_
                  refine j_seq ?_
                  refine j_region ?_
                  refine r_q (q_lss rfl rfl rfl) rfl rfl ?_
                  refine r_nil ?_
                  refine j_then ?_
                  refine j_seq ?_
                  refine j_false rfl (by decide) ?_
                  refine j_exit ?_
                  refine j_then_exit ?_
                  refine j_then_exit ?_
                  refine j_in_exit ?_
                  refine j_then ?_
                  refine j_seq ?_
                  refine j_region ?_
                  refine r_q (q_assign rfl rfl) rfl rfl ?_
                  refine r_nil ?_
                  refine j_then ?_
                  refine j_ret ?_
                  cases h
                  exact j_return rfl (ResOf.tmp rfl ResOf.nil) rfl (fun w h => ⟨(), rfl, (h.drop 2)⟩)
  · refine r_off rfl rfl rfl rfl (bne_t c1) rfl ?_
    refine r_off rfl rfl rfl rfl (bne_t c1) rfl ?_
    refine r_off rfl rfl rfl rfl (bne_t c1) rfl ?_
    refine r_off rfl rfl rfl rfl (bne_t c1) rfl ?_
    refine r_q (q_pick_t rfl rfl (bne_t c1) rfl) rfl rfl ?_
    refine r_q (q_move rfl rfl) rfl rfl ?_
    refine r_off rfl rfl rfl rfl rfl rfl ?_
    refine r_off rfl rfl rfl rfl rfl rfl ?_
    refine r_off rfl rfl rfl rfl rfl rfl ?_
    refine r_off rfl rfl rfl rfl rfl rfl ?_
    refine r_q (q_pick_t rfl rfl rfl rfl) rfl rfl ?_
    refine r_q (q_move rfl rfl) rfl rfl ?_
    refine r_off rfl rfl rfl rfl rfl rfl ?_
    refine r_off rfl rfl rfl rfl rfl rfl ?_
    refine r_off rfl rfl rfl rfl rfl rfl ?_
    refine r_off rfl rfl rfl rfl rfl rfl ?_
    refine r_q (q_pick_t rfl rfl rfl rfl) rfl rfl ?_
    refine r_q (q_move rfl rfl) rfl rfl ?_
    refine r_off rfl rfl rfl rfl rfl rfl ?_
    refine r_off rfl rfl rfl rfl rfl rfl ?_
    refine r_off rfl rfl rfl rfl rfl rfl ?_
    refine r_off rfl rfl rfl rfl rfl rfl ?_
    refine r_q (q_pick_t rfl rfl rfl rfl) rfl rfl ?_
    refine r_nil ?_
    refine j_then ?_
    refine j_true rfl rfl ?_
    refine j_seq ?_
    refine j_region ?_
    refine r_q (q_assign rfl rfl) rfl rfl ?_
    refine r_nil ?_
    refine j_then ?_
    refine j_ret ?_
    refine j_then_ret ?_
    cases h
    exact j_return rfl (ResOf.tmp rfl ResOf.nil) rfl (fun w h => ⟨(), rfl, h.tail⟩)

theorem slices_Grow_int.calls (K : Nat) (a1 : Int) {w0 w : World} {F : List Res} {r1 : List Int} (hm : Mem w0 (F) w)  (h : slices_Grow_int.f K a1 = some r1) :
    Calls Try.prog 45 (List.toArray [.slice none 0 0, i6 a1]) w fun e w' => ∃ x : (Sl r1.length), e = .returned (.slice x.A x.n x.c) ∧ Mem w0 (.row x.A x.c 3 1 (ii r1) :: F) w' := by
  unfold slices_Grow_int.f at h
  refine calls_of_J (n := 27) Try.func45 rfl rfl rfl hm ?_
  refine j_seq ?_
  refine j_region ?_
  refine r_q (q_assign rfl rfl) rfl rfl ?_
  refine r_nil ?_
  refine j_then ?_
  refine j_seq ?_
  refine j_seq ?_
  refine j_region ?_
  refine r_q (q_move rfl rfl) rfl rfl ?_
  refine r_q (q_lss rfl rfl rfl) rfl rfl ?_
  refine r_nil ?_
  refine j_then ?_
  rcases of_if h with ⟨c1, h⟩ | ⟨c1, h⟩
  · refine j_true rfl (decide_eq_true c1) ?_
    refine j_region ?_
    exact absurd h nofun
  · refine j_false rfl (decide_eq_false c1) ?_
    refine j_skip ?_
    refine j_then ?_
    refine j_seq ?_
    refine j_seq ?_
    refine j_region ?_
    refine r_q (q_move rfl rfl) rfl rfl ?_
    refine r_q (q_move rfl rfl) rfl rfl ?_
    refine r_q (q_cap_sl rfl rfl rfl rfl un23 rfl) rfl rfl ?_
    refine r_q (q_move rfl rfl) rfl rfl ?_
    refine r_q (q_lenX ([] : List Int) rfl un23 rfl rfl rfl rfl rfl) rfl rfl ?_
    refine r_q (q_sub rfl rfl rfl) rfl rfl ?_
    refine r_q (q_sub rfl rfl rfl) rfl rfl ?_
    refine r_q (q_assign rfl rfl) rfl rfl ?_
    refine r_nil ?_
    refine j_then ?_
    refine j_seq ?_
    refine j_region ?_
    refine r_q (q_move rfl rfl) rfl rfl ?_
    refine r_q (q_gtr rfl rfl rfl) rfl rfl ?_
    refine r_nil ?_
    refine j_then ?_
    rcases of_if h with ⟨c2, h⟩ | ⟨c2, h⟩
    · refine j_true rfl (decide_eq_true c2) ?_
      refine j_region ?_
      refine r_q (q_move rfl rfl) rfl rfl ?_
      refine r_q (q_move rfl rfl) rfl rfl ?_
      refine r_q (q_cap_sl rfl rfl rfl rfl un23 rfl) rfl rfl ?_
      refine r_q (q_hi0 un23 sz3 rfl rfl rfl) rfl rfl ?_
      refine r_q (q_move rfl rfl) rfl rfl ?_
      obtain ⟨c3, h⟩ := of_guard h
      refine r_do (a_growI un23 un3 sz3 by3 zr3 rfl rfl c3 rfl rfl rfl rfl rfl rfl rfl) rfl rfl (fun x1 => ?_)
      refine r_q (q_move rfl rfl) rfl rfl ?_
      refine r_q (q_lenX ([] : List Int) rfl un23 rfl rfl rfl rfl rfl) rfl rfl ?_
      refine r_q (q_hi0 un23 sz3 rfl rfl rfl) rfl rfl ?_
      refine r_q (q_assign rfl rfl) rfl rfl ?_
      refine r_nil ?_
      refine j_then ?_
      refine j_seq ?_
      refine j_region ?_
      refine r_q (q_move rfl rfl) rfl rfl ?_
      refine r_q (q_assign rfl rfl) rfl rfl ?_
      refine r_nil ?_
      refine j_then ?_
      refine j_ret ?_
      cases h
      exact j_return rfl (ResOf.tmp rfl ResOf.nil) rfl (fun w h => ⟨⟨x1.1, 0, x1.2, rfl⟩, rfl, h⟩)
    · refine j_false rfl (decide_eq_false c2) ?_
      refine j_skip ?_
      refine j_then ?_
      refine j_seq ?_
      refine j_region ?_
      refine r_q (q_move rfl rfl) rfl rfl ?_
      refine r_q (q_assign rfl rfl) rfl rfl ?_
      refine r_nil ?_
      refine j_then ?_
      refine j_ret ?_
      refine j_nil 3 1 ?_
      cases h
      exact j_return rfl (ResOf.tmp rfl ResOf.nil) rfl (fun w h => ⟨⟨none, 0, 0, rfl⟩, rfl, h⟩)

theorem slices_Concat_int.calls (K : Nat) (a0_A : Option Addr) (a0_c : Nat) (a0_0 : List Int) (a0_0_A : Option Addr) (a0_0_n a0_0_c : Nat) (a0_1 : List Int) (a0_1_A : Option Addr) (a0_1_n a0_1_c : Nat) (a0_2 : List Int) (a0_2_A : Option Addr) (a0_2_n a0_2_c : Nat) {w0 w : World} {F : List Res} {r1 : List Int} (hm : Mem w0 (F) w) (a0_R : Rd w0 F a0_A [.slice a0_0_A a0_0_n a0_0_c, .slice a0_1_A a0_1_n a0_1_c, .slice a0_2_A a0_2_n a0_2_c]) (a0_0_h : a0_0.length = a0_0_n) (a0_0_R : Rd w0 F a0_0_A (ii a0_0)) (a0_1_h : a0_1.length = a0_1_n) (a0_1_R : Rd w0 F a0_1_A (ii a0_1)) (a0_2_h : a0_2.length = a0_2_n) (a0_2_R : Rd w0 F a0_2_A (ii a0_2)) (h : slices_Concat_int.f K a0_0 a0_1 a0_2 = some r1) :
    Calls Try.prog 41 (List.toArray [.slice a0_A 3 a0_c]) w fun e w' => ∃ x : (Sl r1.length), e = .returned (.slice x.A x.n x.c) ∧ Mem w0 (.row x.A x.c 3 1 (ii r1) :: F) w' := by
  unfold slices_Concat_int.f at h
  refine calls_of_J (n := 36) Try.func41 rfl rfl rfl hm ?_
  refine j_seq ?_
  refine j_region ?_
  refine r_q (q_assign rfl rfl) rfl rfl ?_
  refine r_nil ?_
  refine j_then ?_
  refine j_seq ?_
  refine j_region ?_
  refine r_q (q_assign rfl rfl) rfl rfl ?_
  refine r_nil ?_
  refine j_then ?_
  refine j_seq ?_
  refine j_seq ?_
  refine j_region ?_
  refine r_q (q_move rfl rfl) rfl rfl ?_
  refine r_q (q_len_sl rfl rfl rfl rfl un67 rfl) rfl rfl ?_
  refine r_q (q_move rfl rfl) rfl rfl ?_
  refine r_nil ?_
  refine j_then ?_
  refine j_block ?_
  refine j_unroll ?_
  refine j_round ?_
  refine j_seq ?_
  refine j_region ?_
  refine r_q (q_lss rfl rfl rfl) rfl rfl ?_
  refine r_nil ?_
  refine j_then ?_
  refine j_seq ?_
  refine j_true rfl (by decide) ?_
  refine j_skip ?_
  refine j_then ?_
  refine j_seq ?_
  refine j_block ?_
  refine j_seq ?_
  refine j_region ?_
  refine r_q (q_ix (L := 3) a0_R rfl (by decide) rfl (by decide) un67 sz23 rfl rfl rfl) rfl rfl ?_
  refine r_q (q_load a0_R ag23 rfl rfl rfl) rfl rfl ?_
  refine r_q (q_assign rfl rfl) rfl rfl ?_
  refine r_nil ?_
  refine j_then ?_
  refine j_seq ?_
  refine j_region ?_
  refine r_q (q_move rfl rfl) rfl rfl ?_
  refine r_q (q_move rfl rfl) rfl rfl ?_
  refine r_q (q_lenX a0_0 a0_0_h un23 rfl rfl rfl rfl rfl) rfl rfl ?_
  refine r_q (q_add rfl rfl rfl) rfl rfl ?_
  refine r_q (q_assign rfl rfl) rfl rfl ?_
  refine r_nil ?_
  refine j_then ?_
  refine j_seq ?_
  refine j_region ?_
  refine r_q (q_move rfl rfl) rfl rfl ?_
  refine r_q (q_lss rfl rfl rfl) rfl rfl ?_
  refine r_nil ?_
  refine j_then ?_
  rcases of_if h with ⟨c1, h⟩ | ⟨c1, h⟩
  · refine j_true rfl (decide_eq_true c1) ?_
    refine j_region ?_
    exact absurd h nofun
  · refine j_false rfl (decide_eq_false c1) ?_
    refine j_skip ?_
    refine j_in ?_
    refine j_then ?_
    refine j_region ?_
    refine r_q (q_addc (v := (1:Int)) rfl rfl rfl (by decide) (by decide)) rfl rfl ?_
    refine r_q (q_move rfl rfl) rfl rfl ?_
    refine r_nil ?_
    refine j_then ?_
    refine j_round ?_
    refine j_seq ?_
    refine j_region ?_
    refine r_q (q_lss rfl rfl rfl) rfl rfl ?_
    refine r_nil ?_
    refine j_then ?_
    refine j_seq ?_
    refine j_true rfl (by decide) ?_
    refine j_skip ?_
    refine j_then ?_
    refine j_seq ?_
    refine j_block ?_
    refine j_seq ?_
    refine j_region ?_
    refine r_q (q_ix (L := 3) a0_R rfl (by decide) rfl (by decide) un67 sz23 rfl rfl rfl) rfl rfl ?_
    refine r_q (q_load a0_R ag23 rfl rfl rfl) rfl rfl ?_
    refine r_q (q_assign rfl rfl) rfl rfl ?_
    refine r_nil ?_
    refine j_then ?_
    refine j_seq ?_
    refine j_region ?_
    refine r_q (q_move rfl rfl) rfl rfl ?_
    refine r_q (q_move rfl rfl) rfl rfl ?_
    refine r_q (q_lenX a0_1 a0_1_h un23 rfl rfl rfl rfl rfl) rfl rfl ?_
    refine r_q (q_add rfl rfl rfl) rfl rfl ?_
    refine r_q (q_assign rfl rfl) rfl rfl ?_
    refine r_nil ?_
    refine j_then ?_
    refine j_seq ?_
    refine j_region ?_
    refine r_q (q_move rfl rfl) rfl rfl ?_
    refine r_q (q_lss rfl rfl rfl) rfl rfl ?_
    refine r_nil ?_
    refine j_then ?_
    rcases of_if h with ⟨c2, h⟩ | ⟨c2, h⟩
    · refine j_true rfl (decide_eq_true c2) ?_
      refine j_region ?_
      exact absurd h nofun
    · refine j_false rfl (decide_eq_false c2) ?_
      refine j_skip ?_
      refine j_in ?_
      refine j_then ?_
      refine j_region ?_
      refine r_q (q_addc (v := (2:Int)) rfl rfl rfl (by decide) (by decide)) rfl rfl ?_
      refine r_q (q_move rfl rfl) rfl rfl ?_
      refine r_nil ?_
      refine j_then ?_
      refine j_round ?_
      refine j_seq ?_
      refine j_region ?_
      refine r_q (q_lss rfl rfl rfl) rfl rfl ?_
      refine r_nil ?_
      refine j_then ?_
      refine j_seq ?_
      refine j_true rfl (by decide) ?_
      refine j_skip ?_
      refine j_then ?_
      refine j_seq ?_
      refine j_block ?_
      refine j_seq ?_
      refine j_region ?_
      refine r_q (q_ix (L := 3) a0_R rfl (by decide) rfl (by decide) un67 sz23 rfl rfl rfl) rfl rfl ?_
      refine r_q (q_load a0_R ag23 rfl rfl rfl) rfl rfl ?_
      refine r_q (q_assign rfl rfl) rfl rfl ?_
      refine r_nil ?_
      refine j_then ?_
      refine j_seq ?_
      refine j_region ?_
      refine r_q (q_move rfl rfl) rfl rfl ?_
      refine r_q (q_move rfl rfl) rfl rfl ?_
      refine r_q (q_lenX a0_2 a0_2_h un23 rfl rfl rfl rfl rfl) rfl rfl ?_
      refine r_q (q_add rfl rfl rfl) rfl rfl ?_
      refine r_q (q_assign rfl rfl) rfl rfl ?_
      refine r_nil ?_
      refine j_then ?_
      refine j_seq ?_
      refine j_region ?_
      refine r_q (q_move rfl rfl) rfl rfl ?_
      refine r_q (q_lss rfl rfl rfl) rfl rfl ?_
      refine r_nil ?_
      refine j_then ?_
      rcases of_if h with ⟨c3, h⟩ | ⟨c3, h⟩
      · refine j_true rfl (decide_eq_true c3) ?_
        refine j_region ?_
        exact absurd h nofun
      · refine j_false rfl (decide_eq_false c3) ?_
        refine j_skip ?_
        refine j_in ?_
        refine j_then ?_
        refine j_region ?_
        refine r_q (q_addc (v := (3:Int)) rfl rfl rfl (by decide) (by decide)) rfl rfl ?_
        refine r_q (q_move rfl rfl) rfl rfl ?_
        refine r_nil ?_
        refine j_then ?_
        refine j_round ?_
        refine j_seq ?_
        refine j_region ?_
        refine r_q (q_lss rfl rfl rfl) rfl rfl ?_
        refine r_nil ?_
        refine j_then ?_
        refine j_seq ?_
        refine j_false rfl (by decide) ?_
        refine j_exit ?_
        refine j_then_exit ?_
        refine j_then_exit ?_
        refine j_in_exit ?_
        refine j_then ?_
        refine j_seq ?_
        refine j_region ?_
        refine r_q (q_move rfl rfl) rfl rfl ?_
        obtain ⟨v1, hb1, h⟩ := of_b1 h
        refine r_do (a_call ok45 rfl rfl rfl rfl (fun w hm => slices_Grow_int.calls K (wrap64 ((wrap64 ((wrap64 ((0:Int) + (a0_0.length : Int))) + (a0_1.length : Int))) + (a0_2.length : Int))) hm hb1)) rfl rfl (fun x1 => ?_)
        refine r_q (q_assign rfl rfl) rfl rfl ?_
        refine r_nil ?_
        refine j_then ?_
        refine j_seq ?_
        refine j_seq ?_
        refine j_region ?_
        refine r_q (q_move rfl rfl) rfl rfl ?_
        refine r_q (q_len_sl rfl rfl rfl rfl un67 rfl) rfl rfl ?_
        refine r_q (q_move rfl rfl) rfl rfl ?_
        refine r_nil ?_
        refine j_then ?_
        refine j_block ?_
        refine j_unroll ?_
        refine j_round ?_
        refine j_seq ?_
        refine j_region ?_
        refine r_q (q_lss rfl rfl rfl) rfl rfl ?_
        refine r_nil ?_
        refine j_then ?_
        refine j_seq ?_
        refine j_true rfl (by decide) ?_
        refine j_skip ?_
        refine j_then ?_
        refine j_seq ?_
        refine j_block ?_
        refine j_seq ?_
        refine j_region ?_
        refine r_q (q_ix (L := 3) (Rd.drop 1 a0_R) rfl (by decide) rfl (by decide) un67 sz23 rfl rfl rfl) rfl rfl ?_
        refine r_q (q_load (Rd.drop 1 a0_R) ag23 rfl rfl rfl) rfl rfl ?_
        refine r_q (q_assign rfl rfl) rfl rfl ?_
        refine r_nil ?_
        refine j_then ?_
        refine j_region ?_
        refine r_q (q_move rfl rfl) rfl rfl ?_
        refine r_q (q_move rfl rfl) rfl rfl ?_
        obtain ⟨c4, h⟩ := of_guard h
        refine r_do (a_appI (xs := v1) (ys := a0_0) 0 un23 un23 sz3 by3 zr3 rfl rfl rfl rfl rfl rfl rfl rfl rfl x1.h a0_0_h (Rd.drop 1 a0_0_R) c4) rfl rfl (fun x2 => ?_)
        refine j_s0 ?_
        refine r_q (q_assign rfl rfl) rfl rfl ?_
        refine r_nil ?_
        refine j_in ?_
        refine j_then ?_
        refine j_region ?_
        refine r_q (q_addc (v := (1:Int)) rfl rfl rfl (by decide) (by decide)) rfl rfl ?_
        refine r_q (q_move rfl rfl) rfl rfl ?_
        refine r_nil ?_
        refine j_then ?_
        refine j_round ?_
        refine j_seq ?_
        refine j_region ?_
        refine r_q (q_lss rfl rfl rfl) rfl rfl ?_
        refine r_nil ?_
        refine j_then ?_
        refine j_seq ?_
        refine j_true rfl (by decide) ?_
        refine j_skip ?_
        refine j_then ?_
        refine j_seq ?_
        refine j_block ?_
        refine j_seq ?_
        refine j_region ?_
        refine r_q (q_ix (L := 3) (Rd.drop 1 a0_R) rfl (by decide) rfl (by decide) un67 sz23 rfl rfl rfl) rfl rfl ?_
        refine r_q (q_load (Rd.drop 1 a0_R) ag23 rfl rfl rfl) rfl rfl ?_
        refine r_q (q_assign rfl rfl) rfl rfl ?_
        refine r_nil ?_
        refine j_then ?_
        refine j_region ?_
        refine r_q (q_move rfl rfl) rfl rfl ?_
        refine r_q (q_move rfl rfl) rfl rfl ?_
        obtain ⟨c5, h⟩ := of_guard h
        refine r_do (a_appI (xs := (v1 ++ a0_0)) (ys := a0_1) 0 un23 un23 sz3 by3 zr3 rfl rfl rfl rfl rfl rfl rfl rfl rfl (app_len x1.h a0_0_h) a0_1_h (Rd.drop 1 a0_1_R) c5) rfl rfl (fun x2 => ?_)
        refine j_s0 ?_
        refine r_q (q_assign rfl rfl) rfl rfl ?_
        refine r_nil ?_
        refine j_in ?_
        refine j_then ?_
        refine j_region ?_
        refine r_q (q_addc (v := (2:Int)) rfl rfl rfl (by decide) (by decide)) rfl rfl ?_
        refine r_q (q_move rfl rfl) rfl rfl ?_
        refine r_nil ?_
        refine j_then ?_
        refine j_round ?_
        refine j_seq ?_
        refine j_region ?_
        refine r_q (q_lss rfl rfl rfl) rfl rfl ?_
        refine r_nil ?_
        refine j_then ?_
        refine j_seq ?_
        refine j_true rfl (by decide) ?_
        refine j_skip ?_
        refine j_then ?_
        refine j_seq ?_
        refine j_block ?_
        refine j_seq ?_
        refine j_region ?_
        refine r_q (q_ix (L := 3) (Rd.drop 1 a0_R) rfl (by decide) rfl (by decide) un67 sz23 rfl rfl rfl) rfl rfl ?_
        refine r_q (q_load (Rd.drop 1 a0_R) ag23 rfl rfl rfl) rfl rfl ?_
        refine r_q (q_assign rfl rfl) rfl rfl ?_
        refine r_nil ?_
        refine j_then ?_
        refine j_region ?_
        refine r_q (q_move rfl rfl) rfl rfl ?_
        refine r_q (q_move rfl rfl) rfl rfl ?_
        obtain ⟨c6, h⟩ := of_guard h
        refine r_do (a_appI (xs := ((v1 ++ a0_0) ++ a0_1)) (ys := a0_2) 0 un23 un23 sz3 by3 zr3 rfl rfl rfl rfl rfl rfl rfl rfl rfl (app_len (app_len x1.h a0_0_h) a0_1_h) a0_2_h (Rd.drop 1 a0_2_R) c6) rfl rfl (fun x2 => ?_)
        refine j_s0 ?_
        refine r_q (q_assign rfl rfl) rfl rfl ?_
        refine r_nil ?_
        refine j_in ?_
        refine j_then ?_
        refine j_region ?_
        refine r_q (q_addc (v := (3:Int)) rfl rfl rfl (by decide) (by decide)) rfl rfl ?_
        refine r_q (q_move rfl rfl) rfl rfl ?_
        refine r_nil ?_
        refine j_then ?_
        refine j_round ?_
        refine j_seq ?_
        refine j_region ?_
        refine r_q (q_lss rfl rfl rfl) rfl rfl ?_
        refine r_nil ?_
        refine j_then ?_
        refine j_seq ?_
        refine j_false rfl (by decide) ?_
        refine j_exit ?_
        refine j_then_exit ?_
        refine j_then_exit ?_
        refine j_in_exit ?_
        refine j_then ?_
        refine j_seq ?_
        refine j_region ?_
        refine r_q (q_move rfl rfl) rfl rfl ?_
        refine r_q (q_assign rfl rfl) rfl rfl ?_
        refine r_nil ?_
        refine j_then ?_
        refine j_ret ?_
        cases h
        exact j_return rfl (ResOf.tmp rfl ResOf.nil) rfl (fun w h => ⟨⟨x2.1, (((x1.n + a0_0_n) + a0_1_n) + a0_2_n), x2.2, (app_len (app_len (app_len x1.h a0_0_h) a0_1_h) a0_2_h)⟩, rfl, h⟩)

theorem impl_CountsOf.calls (K : Nat) (a0_0 : List Int) (a0_0_A : Option Addr) (a0_0_n a0_0_c : Nat) (a0_1 : List Int) (a0_1_A : Option Addr) (a0_1_n a0_1_c : Nat) (a0_2 : List Int) (a0_2_A : Option Addr) (a0_2_n a0_2_c : Nat) {w0 w : World} {F : List Res} {r1 : List Int} (hm : Mem w0 (F) w) (a0_0_h : a0_0.length = a0_0_n) (a0_0_R : Rd w0 F a0_0_A (ii a0_0)) (a0_1_h : a0_1.length = a0_1_n) (a0_1_R : Rd w0 F a0_1_A (ii a0_1)) (a0_2_h : a0_2.length = a0_2_n) (a0_2_R : Rd w0 F a0_2_A (ii a0_2)) (h : impl_CountsOf.f K a0_0 a0_1 a0_2 = some r1) :
    Calls Try.prog 31 (List.toArray [.agg (List.toArray [.slice a0_0_A a0_0_n a0_0_c, .slice a0_1_A a0_1_n a0_1_c, .slice a0_2_A a0_2_n a0_2_c])]) w fun e w' => ∃ x : (Sl r1.length), e = .returned (.slice x.A x.n x.c) ∧ Mem w0 (.row x.A x.c 3 1 (ii r1) :: F) w' := by
  unfold impl_CountsOf.f at h
  refine calls_of_J (n := 36) Try.func31 rfl rfl rfl hm ?_
  refine j_seq ?_
  refine j_region ?_
  refine r_do (a_box rfl rfl) rfl rfl (fun x1 => ?_)
  refine r_q (q_assign rfl rfl) rfl rfl ?_
  refine r_nil ?_
  refine j_then ?_
  refine j_seq ?_
  refine j_seq ?_
  refine j_region ?_
  refine r_q (q_loadb_agg 0 rfl ag25 sz25 rfl rfl rfl rfl) rfl rfl ?_
  obtain ⟨v1, hb1, h⟩ := of_b1 h
  refine r_do (a_call ok30 rfl rfl rfl rfl (fun w hm => impl_HeapValid.calls K a0_0 a0_0_A a0_0_n a0_0_c a0_1 a0_1_A a0_1_n a0_1_c a0_2 a0_2_A a0_2_n a0_2_c hm a0_0_h (Rd.drop 1 a0_0_R) a0_1_h (Rd.drop 1 a0_1_R) a0_2_h (Rd.drop 1 a0_2_R) hb1)) rfl rfl (fun x2 => ?_)
  refine r_q (q_not rfl rfl) rfl rfl ?_
  refine r_nil ?_
  refine j_then ?_
  rcases of_if h with ⟨c1, h⟩ | ⟨c1, h⟩
  · refine j_false rfl (not_f c1) ?_
    refine j_skip ?_
    refine j_then ?_
    refine j_seq ?_
    refine j_region ?_
    refine r_q (q_fieldAddr fi25_0 sz23 rfl rfl rfl) rfl rfl ?_
    refine r_q (q_loadb 0 rfl ag23 rfl rfl rfl) rfl rfl ?_
    refine r_q (q_lenX a0_0 a0_0_h un23 rfl rfl rfl rfl rfl) rfl rfl ?_
    obtain ⟨c2, h⟩ := of_guard h
    refine r_do (a_mkI un23 sz3 by3 zr3 rfl c2 rfl rfl rfl) rfl rfl (fun x3 => ?_)
    refine r_q (q_assign rfl rfl) rfl rfl ?_
    refine r_nil ?_
    refine j_then ?_
    refine j_seq ?_
    refine j_seq ?_
    refine j_region ?_
    refine r_q (q_fieldAddr fi25_0 sz23 rfl rfl rfl) rfl rfl ?_
    refine r_q (q_loadb 1 rfl ag23 rfl rfl rfl) rfl rfl ?_
    refine r_q (q_fieldAddr fi25_1 sz23 rfl rfl rfl) rfl rfl ?_
    refine r_q (q_loadb 1 rfl ag23 rfl rfl rfl) rfl rfl ?_
    refine r_q (q_fieldAddr fi25_2 sz23 rfl rfl rfl) rfl rfl ?_
    refine r_q (q_loadb 1 rfl ag23 rfl rfl rfl) rfl rfl ?_
    refine r_do (a_litX (vs := [(.slice a0_0_A a0_0_n a0_0_c), (.slice a0_1_A a0_1_n a0_1_c), (.slice a0_2_A a0_2_n a0_2_c)]) [(.slice a0_0_A a0_0_n a0_0_c), (.slice a0_1_A a0_1_n a0_1_c), (.slice a0_2_A a0_2_n a0_2_c)] un67 sz23 zr23 rfl rfl rfl rfl rfl rfl rfl rfl rfl) rfl rfl (fun x4 => ?_)
    obtain ⟨v2, hb2, h⟩ := of_b1 h
    refine r_do (a_call ok41 rfl rfl rfl rfl (fun w hm => slices_Concat_int.calls K x4 3 a0_0 a0_0_A a0_0_n a0_0_c a0_1 a0_1_A a0_1_n a0_1_c a0_2 a0_2_A a0_2_n a0_2_c hm (Rd.row 0 rfl) a0_0_h (Rd.drop 3 a0_0_R) a0_1_h (Rd.drop 3 a0_1_R) a0_2_h (Rd.drop 3 a0_2_R) hb2)) rfl rfl (fun x5 => ?_)
    refine r_q (q_lenX v2 x5.h un23 rfl rfl rfl rfl rfl) rfl rfl ?_
    refine r_q (q_move rfl rfl) rfl rfl ?_
    refine r_nil ?_
    refine j_then ?_
    obtain ⟨κ0, h, hκ0⟩ := ex_k (g := fun κ => impl_CountsOf.loop0 K κ v2 K (0:Int) (List.replicate (a0_0.length : Int).toNat (0:Int)) = some r1) h
    refine j_cut (σ := (List Int)) (fun s => [(3, (.slice x3 ((a0_0.length : Int).toNat) ((a0_0.length : Int).toNat)))]) (fun s => .row x3 ((a0_0.length : Int).toNat) 3 1 (ii s) :: F) (fun s => κ0 s = some r1 ∧ (s.length = ((a0_0.length : Int).toNat))) ?_ ?_
    · refine j_block ?_
      refine j_loop (σ := Int × (List Int)) (fun s => [(3, (.slice x3 ((a0_0.length : Int).toNat) ((a0_0.length : Int).toNat))), (20, (.slice x5.A x5.n x5.c)), (21, (i6 (v2.length : Int))), (22, (i6 s.1))]) (fun s => .row x3 ((a0_0.length : Int).toNat) 3 1 (ii s.2) :: .row x5.A x5.c 3 1 (ii v2) :: F) (fun m s => impl_CountsOf.loop0 K κ0 v2 m s.1 s.2 = some r1 ∧ (s.2.length = ((a0_0.length : Int).toNat))) K ((0:Int), (List.replicate (a0_0.length : Int).toNat (0:Int))) ⟨h, List.length_replicate⟩ (fun a he => he.sub ⟨rfl, rfl, rfl, rfl, trivial⟩) (fun w h => h.pick 4 [2, 0] rfl) ?_
      rintro m ⟨p2, l2⟩ ⟨h, q2⟩
      cases m with
      | zero => exact absurd h (by rw [impl_CountsOf.loop0]; exact nofun)
      | succ m =>
        rw [impl_CountsOf.loop0] at h
        show J _ _ [(3, (.slice x3 ((a0_0.length : Int).toNat) ((a0_0.length : Int).toNat))), (20, (.slice x5.A x5.n x5.c)), (21, (i6 (v2.length : Int))), (22, (i6 p2))] _ (.row x3 ((a0_0.length : Int).toNat) 3 1 (ii l2) :: .row x5.A x5.c 3 1 (ii v2) :: F)
        refine j_seq ?_
        refine j_region ?_
        refine r_q (q_lss rfl rfl rfl) rfl rfl ?_
        refine r_nil ?_
        refine j_then ?_
        refine j_seq ?_
        rcases of_if h with ⟨c15, h⟩ | ⟨c15, h⟩
        · refine j_true rfl (decide_eq_true c15) ?_
          refine j_skip ?_
          refine j_then ?_
          refine j_seq ?_
          refine j_block ?_
          refine j_seq ?_
          refine j_region ?_
          obtain ⟨c16, h⟩ := of_guard h
          refine r_q (q_ix (Rd.row 1 rfl) (ints_len1 _ v2) (by decide) x5.h c16 un23 sz3 rfl rfl rfl) rfl rfl ?_
          refine r_q (q_ldI (Rd.row 1 rfl) c16 ag3 rfl rfl) rfl rfl ?_
          refine r_q (q_assign rfl rfl) rfl rfl ?_
          refine r_nil ?_
          refine j_then ?_
          refine j_seq ?_
          refine j_region ?_
          refine r_q (q_move rfl rfl) rfl rfl ?_
          refine r_q (q_neq rfl rfl rfl) rfl rfl ?_
          refine r_nil ?_
          refine j_then ?_
          rcases of_if h with ⟨c17, h⟩ | ⟨c17, h⟩
          · refine j_false rfl (bne_f c17) ?_
            refine j_skip ?_
            refine j_in ?_
            refine j_then ?_
            refine j_region ?_
            refine r_q (q_add rfl rfl rfl) rfl rfl ?_
            refine r_q (q_move rfl rfl) rfl rfl ?_
            refine r_nil ?_
            refine j_then ?_
            exact j_again m ((wrap64 (p2 + (1:Int))), l2) (Nat.lt_succ_self m) ⟨h, q2⟩ (fun a he => he.sub ⟨rfl, rfl, rfl, rfl, trivial⟩) (fun w h => h)
          · refine j_true rfl (bne_t c17) ?_
            refine j_region ?_
            refine r_q (q_move rfl rfl) rfl rfl ?_
            refine r_q (q_move rfl rfl) rfl rfl ?_
            obtain ⟨c18, h⟩ := of_guard h
            refine r_q (q_ix (Rd.row 0 rfl) (ints_len1 _ l2) (by decide) q2 c18 un23 sz3 rfl rfl rfl) rfl rfl ?_
            refine r_q (q_ldI (Rd.row 0 rfl) c18 ag3 rfl rfl) rfl rfl ?_
            refine r_q (q_add rfl rfl rfl) rfl rfl ?_
            refine r_q (q_ix (Rd.row 0 rfl) (ints_len1 _ l2) (by decide) q2 c18 un23 sz3 rfl rfl rfl) rfl rfl ?_
            refine r_do (a_stI 0 rfl c18 sz3 rfl rfl rfl) rfl rfl (fun _ => ?_)
            refine j_s0 ?_
            refine r_nil ?_
            refine j_in ?_
            refine j_then ?_
            refine j_region ?_
            refine r_q (q_add rfl rfl rfl) rfl rfl ?_
            refine r_q (q_move rfl rfl) rfl rfl ?_
            refine r_nil ?_
            refine j_then ?_
            exact j_again m ((wrap64 (p2 + (1:Int))), (l2.set (rd v2 p2).toNat (wrap64 ((rd l2 (rd v2 p2)) + (1:Int))))) (Nat.lt_succ_self m) ⟨h, (set_len q2 _ _)⟩ (fun a he => he.sub ⟨rfl, rfl, rfl, rfl, trivial⟩) (fun w h => h)
        · refine j_false rfl (decide_eq_false c15) ?_
          refine j_exit ?_
          refine j_then_exit ?_
          refine j_then_exit ?_
          refine j_in_exit ?_
          refine j_then ?_
          exact j_meet l2 ⟨h, q2⟩ (fun a he => he.sub ⟨rfl, trivial⟩) (fun w h => h.pick 2 [0] rfl)
    · rintro l3 ⟨h, q3⟩
      subst hκ0
      show J _ _ [(3, (.slice x3 ((a0_0.length : Int).toNat) ((a0_0.length : Int).toNat)))] _ (.row x3 ((a0_0.length : Int).toNat) 3 1 (ii l3) :: F)
      refine j_then ?_
      refine j_seq ?_
      refine j_region ?_
      refine r_q (q_move rfl rfl) rfl rfl ?_
      refine r_q (q_assign rfl rfl) rfl rfl ?_
      refine r_nil ?_
      refine j_then ?_
      refine j_ret ?_
      cases h
      exact j_return rfl (ResOf.tmp rfl ResOf.nil) rfl (fun w h => ⟨⟨x3, ((a0_0.length : Int).toNat), ((a0_0.length : Int).toNat), q3⟩, rfl, h⟩)
  · refine j_true rfl (not_t (var_f c1)) ?_
    refine j_seq ?_
    refine j_region ?_
    refine r_q (q_assign rfl rfl) rfl rfl ?_
    refine r_nil ?_
    refine j_then ?_
    refine j_ret ?_
    refine j_then_ret ?_
    refine j_nil 3 1 ?_
    cases h
    exact j_return rfl (ResOf.tmp rfl ResOf.nil) rfl (fun w h => ⟨⟨none, 0, 0, rfl⟩, rfl, h.pick 2 [0] rfl⟩)

theorem slices_Index_int.calls (K : Nat) (a0 : List Int) (a0_A : Option Addr) (a0_n a0_c : Nat) (a1 : Int) {w0 w : World} {F : List Res} {r1 : Int} (hm : Mem w0 (F) w) (a0_h : a0.length = a0_n) (a0_R : Rd w0 F a0_A (ii a0)) (h : slices_Index_int.f K a0 a1 = some r1) :
    Calls Try.prog 42 (List.toArray [.slice a0_A a0_n a0_c, i6 a1]) w fun e w' => ∃ x : Unit, e = .returned (i6 r1) ∧ Mem w0 (F) w' := by
  unfold slices_Index_int.f at h
  refine calls_of_J (n := 19) Try.func42 rfl rfl rfl hm ?_
  refine j_seq ?_
  refine j_region ?_
  refine r_q (q_assign rfl rfl) rfl rfl ?_
  refine r_nil ?_
  refine j_then ?_
  refine j_seq ?_
  refine j_seq ?_
  refine j_region ?_
  refine r_q (q_move rfl rfl) rfl rfl ?_
  refine r_q (q_lenX a0 a0_h un23 rfl rfl rfl rfl rfl) rfl rfl ?_
  refine r_q (q_move rfl rfl) rfl rfl ?_
  refine r_nil ?_
  refine j_then ?_
  obtain ⟨κ0, h, hκ0⟩ := ex_k (g := fun κ => slices_Index_int.loop0 K κ a0 a1 K (0:Int) = some r1) h
  refine j_cut (σ := Unit) (fun s => []) (fun s => F) (fun s => κ0 () = some r1) ?_ ?_
  · refine j_block ?_
    refine j_loop (σ := Int) (fun s => [(0, (.slice a0_A a0_n a0_c)), (1, (i6 a1)), (7, (i6 (a0.length : Int))), (8, (i6 s))]) (fun s => F) (fun m s => slices_Index_int.loop0 K κ0 a0 a1 m s = some r1) K (0:Int) h (fun a he => he.sub ⟨rfl, rfl, rfl, rfl, trivial⟩) (fun w h => h) ?_
    rintro m p2 h
    cases m with
    | zero => exact absurd h (by rw [slices_Index_int.loop0]; exact nofun)
    | succ m =>
      rw [slices_Index_int.loop0] at h
      show J _ _ [(0, (.slice a0_A a0_n a0_c)), (1, (i6 a1)), (7, (i6 (a0.length : Int))), (8, (i6 p2))] _ (F)
      refine j_seq ?_
      refine j_region ?_
      refine r_q (q_lss rfl rfl rfl) rfl rfl ?_
      refine r_nil ?_
      refine j_then ?_
      refine j_seq ?_
      rcases of_if h with ⟨c10, h⟩ | ⟨c10, h⟩
      · refine j_true rfl (decide_eq_true c10) ?_
        refine j_skip ?_
        refine j_then ?_
        refine j_seq ?_
        refine j_block ?_
        refine j_seq ?_
        refine j_region ?_
        refine r_q (q_move rfl rfl) rfl rfl ?_
        refine r_q (q_assign rfl rfl) rfl rfl ?_
        refine r_nil ?_
        refine j_then ?_
        refine j_seq ?_
        refine j_region ?_
        refine r_q (q_move rfl rfl) rfl rfl ?_
        refine r_q (q_move rfl rfl) rfl rfl ?_
        refine r_q (q_move rfl rfl) rfl rfl ?_
        obtain ⟨c11, h⟩ := of_guard h
        refine r_q (q_ix a0_R (ints_len1 _ a0) (by decide) a0_h c11 un23 sz3 rfl rfl rfl) rfl rfl ?_
        refine r_q (q_ldI a0_R c11 ag3 rfl rfl) rfl rfl ?_
        refine r_q (q_eql rfl rfl rfl) rfl rfl ?_
        refine r_nil ?_
        refine j_then ?_
        rcases of_if h with ⟨c12, h⟩ | ⟨c12, h⟩
        · refine j_true rfl (beq_t c12) ?_
          refine j_seq ?_
          refine j_region ?_
          refine r_q (q_move rfl rfl) rfl rfl ?_
          refine r_q (q_assign rfl rfl) rfl rfl ?_
          refine r_nil ?_
          refine j_then ?_
          refine j_ret ?_
          refine j_in_ret ?_
          refine j_then_ret ?_
          refine j_then_ret ?_
          refine j_in_ret ?_
          refine j_then_ret ?_
          refine j_then_ret ?_
          cases h
          exact j_return rfl (ResOf.tmp rfl ResOf.nil) rfl (fun w h => ⟨(), rfl, h⟩)
        · refine j_false rfl (beq_f c12) ?_
          refine j_skip ?_
          refine j_in ?_
          refine j_then ?_
          refine j_region ?_
          refine r_q (q_add rfl rfl rfl) rfl rfl ?_
          refine r_q (q_move rfl rfl) rfl rfl ?_
          refine r_nil ?_
          refine j_then ?_
          exact j_again m (wrap64 (p2 + (1:Int))) (Nat.lt_succ_self m) h (fun a he => he.sub ⟨rfl, rfl, rfl, rfl, trivial⟩) (fun w h => h)
      · refine j_false rfl (decide_eq_false c10) ?_
        refine j_exit ?_
        refine j_then_exit ?_
        refine j_then_exit ?_
        refine j_in_exit ?_
        refine j_then ?_
        exact j_meet () h (fun a he => he.sub trivial) (fun w h => h)
  · rintro _ h
    subst hκ0
    show J _ _ [] _ (F)
    refine j_then ?_
    refine j_seq ?_
    refine j_region ?_
    refine r_q (q_assign rfl rfl) rfl rfl ?_
    refine r_nil ?_
    refine j_then ?_
    refine j_ret ?_
    cases h
    exact j_return rfl (ResOf.tmp rfl ResOf.nil) rfl (fun w h => ⟨(), rfl, h⟩)

theorem slices_Contains_int.calls (K : Nat) (a0 : List Int) (a0_A : Option Addr) (a0_n a0_c : Nat) (a1 : Int) {w0 w : World} {F : List Res} {r1 : Bool} (hm : Mem w0 (F) w) (a0_h : a0.length = a0_n) (a0_R : Rd w0 F a0_A (ii a0)) (h : slices_Contains_int.f K a0 a1 = some r1) :
    Calls Try.prog 32 (List.toArray [.slice a0_A a0_n a0_c, i6 a1]) w fun e w' => ∃ x : Unit, e = .returned (.bool r1) ∧ Mem w0 (F) w' := by
  unfold slices_Contains_int.f at h
  refine calls_of_J (n := 9) Try.func32 rfl rfl rfl hm ?_
  refine j_seq ?_
  refine j_region ?_
  refine r_q (q_assign rfl rfl) rfl rfl ?_
  refine r_nil ?_
  refine j_then ?_
  refine j_seq ?_
  refine j_region ?_
  refine r_q (q_move rfl rfl) rfl rfl ?_
  refine r_q (q_move rfl rfl) rfl rfl ?_
  obtain ⟨v1, hb1, h⟩ := of_b1 h
  refine r_do (a_call ok42 rfl rfl rfl rfl (fun w hm => slices_Index_int.calls K a0 a0_A a0_n a0_c a1 hm a0_h a0_R hb1)) rfl rfl (fun x1 => ?_)
  refine r_q (q_geq rfl rfl rfl) rfl rfl ?_
  refine r_q (q_assign rfl rfl) rfl rfl ?_
  refine r_nil ?_
  refine j_then ?_
  refine j_ret ?_
  cases h
  exact j_return rfl (ResOf.tmp rfl ResOf.nil) rfl (fun w h => ⟨(), rfl, h⟩)

theorem impl_StoreValid.calls (K : Nat) (a0_0 : List Int) (a0_0_A : Option Addr) (a0_0_n a0_0_c : Nat) (a0_1 : List Int) (a0_1_A : Option Addr) (a0_1_n a0_1_c : Nat) (a0_2 : List Int) (a0_2_A : Option Addr) (a0_2_n a0_2_c : Nat) (a0_3 : List Int) (a0_3_A : Option Addr) (a0_3_n a0_3_c : Nat) {w0 w : World} {F : List Res} {r1 : Bool} (hm : Mem w0 (F) w) (a0_0_h : a0_0.length = a0_0_n) (a0_0_R : Rd w0 F a0_0_A (ii a0_0)) (a0_1_h : a0_1.length = a0_1_n) (a0_1_R : Rd w0 F a0_1_A (ii a0_1)) (a0_2_h : a0_2.length = a0_2_n) (a0_2_R : Rd w0 F a0_2_A (ii a0_2)) (a0_3_h : a0_3.length = a0_3_n) (a0_3_R : Rd w0 F a0_3_A (ii a0_3)) (a0_3_k : a0_3.length ≤ a0_3_c) (h : impl_StoreValid.f K a0_0 a0_1 a0_2 a0_3 = some r1) :
    Calls Try.prog 14 (List.toArray [.agg (List.toArray [.slice a0_0_A a0_0_n a0_0_c, .slice a0_1_A a0_1_n a0_1_c, .slice a0_2_A a0_2_n a0_2_c, .slice a0_3_A a0_3_n a0_3_c])]) w fun e w' => ∃ x : Unit, e = .returned (.bool r1) ∧ Mem w0 (F) w' := by
  unfold impl_StoreValid.f at h
  refine calls_of_J (n := 63) Try.func14 rfl rfl rfl hm ?_
  refine j_seq ?_
  refine j_region ?_
  refine r_do (a_box rfl rfl) rfl rfl (fun x1 => ?_)
  refine r_q (q_assign rfl rfl) rfl rfl ?_
  refine r_nil ?_
  refine j_then ?_
  refine j_seq ?_
  refine j_seq ?_
  refine j_region ?_
  refine r_q (q_fieldAddr fi27_0 sz25 rfl rfl rfl) rfl rfl ?_
  refine r_q (q_loadb_agg 0 rfl ag25 sz25 rfl rfl rfl rfl) rfl rfl ?_
  obtain ⟨v1, hb1, h⟩ := of_b1 h
  refine r_do (a_call ok30 rfl rfl rfl rfl (fun w hm => impl_HeapValid.calls K a0_0 a0_0_A a0_0_n a0_0_c a0_1 a0_1_A a0_1_n a0_1_c a0_2 a0_2_A a0_2_n a0_2_c hm a0_0_h (Rd.drop 1 a0_0_R) a0_1_h (Rd.drop 1 a0_1_R) a0_2_h (Rd.drop 1 a0_2_R) hb1)) rfl rfl (fun x2 => ?_)
  refine r_q (q_not rfl rfl) rfl rfl ?_
  refine r_nil ?_
  refine j_then ?_
  rcases of_if h with ⟨c1, h⟩ | ⟨c1, h⟩
  · refine j_false rfl (not_f c1) ?_
    refine j_skip ?_
    refine j_then ?_
    refine j_seq ?_
    refine j_region ?_
    refine r_q (q_fieldAddr fi27_0 sz25 rfl rfl rfl) rfl rfl ?_
    refine r_q (q_loadb_agg 0 rfl ag25 sz25 rfl rfl rfl rfl) rfl rfl ?_
    obtain ⟨v2, hb2, h⟩ := of_b1 h
    refine r_do (a_call ok31 rfl rfl rfl rfl (fun w hm => impl_CountsOf.calls K a0_0 a0_0_A a0_0_n a0_0_c a0_1 a0_1_A a0_1_n a0_1_c a0_2 a0_2_A a0_2_n a0_2_c hm a0_0_h (Rd.drop 1 a0_0_R) a0_1_h (Rd.drop 1 a0_1_R) a0_2_h (Rd.drop 1 a0_2_R) hb2)) rfl rfl (fun x3 => ?_)
    refine r_q (q_assign rfl rfl) rfl rfl ?_
    refine r_nil ?_
    refine j_then ?_
    refine j_seq ?_
    refine j_seq ?_
    refine j_region ?_
    refine r_q (q_fieldAddr fi27_1 sz23 rfl rfl rfl) rfl rfl ?_
    refine r_q (q_loadb 1 rfl ag23 rfl rfl rfl) rfl rfl ?_
    refine r_q (q_lenX a0_3 a0_3_h un23 rfl rfl rfl rfl rfl) rfl rfl ?_
    refine r_q (q_move rfl rfl) rfl rfl ?_
    refine r_nil ?_
    refine j_then ?_
    obtain ⟨κ0, h, hκ0⟩ := ex_k (g := fun κ => impl_StoreValid.loop0 K κ a0_0 a0_1 a0_3 v2 K (0:Int) = some r1) h
    refine j_cut (σ := Unit) (fun s => []) (fun s => F) (fun s => κ0 () = some r1) ?_ ?_
    · refine j_block ?_
      refine j_loop (σ := Int) (fun s => [(1, (pt x1)), (3, (.slice x3.A x3.n x3.c)), (14, (.slice a0_3_A a0_3_n a0_3_c)), (15, (i6 (a0_3.length : Int))), (16, (i6 s))]) (fun s => .box x1 27 [(.slice a0_0_A a0_0_n a0_0_c), (.slice a0_1_A a0_1_n a0_1_c), (.slice a0_2_A a0_2_n a0_2_c), (.slice a0_3_A a0_3_n a0_3_c)] :: .row x3.A x3.c 3 1 (ii v2) :: F) (fun m s => impl_StoreValid.loop0 K κ0 a0_0 a0_1 a0_3 v2 m s = some r1) K (0:Int) h (fun a he => he.sub ⟨rfl, rfl, rfl, rfl, rfl, trivial⟩) (fun w h => h.pick 2 [1, 0] rfl) ?_
      rintro m p2 h
      cases m with
      | zero => exact absurd h (by rw [impl_StoreValid.loop0]; exact nofun)
      | succ m =>
        rw [impl_StoreValid.loop0] at h
        show J _ _ [(1, (pt x1)), (3, (.slice x3.A x3.n x3.c)), (14, (.slice a0_3_A a0_3_n a0_3_c)), (15, (i6 (a0_3.length : Int))), (16, (i6 p2))] _ (.box x1 27 [(.slice a0_0_A a0_0_n a0_0_c), (.slice a0_1_A a0_1_n a0_1_c), (.slice a0_2_A a0_2_n a0_2_c), (.slice a0_3_A a0_3_n a0_3_c)] :: .row x3.A x3.c 3 1 (ii v2) :: F)
        refine j_seq ?_
        refine j_region ?_
        refine r_q (q_lss rfl rfl rfl) rfl rfl ?_
        refine r_nil ?_
        refine j_then ?_
        refine j_seq ?_
        rcases of_if h with ⟨c38, h⟩ | ⟨c38, h⟩
        · refine j_true rfl (decide_eq_true c38) ?_
          refine j_skip ?_
          refine j_then ?_
          refine j_seq ?_
          refine j_block ?_
          refine j_seq ?_
          refine j_region ?_
          refine r_q (q_move rfl rfl) rfl rfl ?_
          obtain ⟨c39, h⟩ := of_guard h
          refine r_q (q_ix (Rd.drop 2 a0_3_R) (ints_len1 _ a0_3) (by decide) a0_3_h c39 un23 sz3 rfl rfl rfl) rfl rfl ?_
          refine r_q (q_ldI (Rd.drop 2 a0_3_R) c39 ag3 rfl rfl) rfl rfl ?_
          refine r_q (q_assign rfl rfl) rfl rfl ?_
          refine r_q (q_assign rfl rfl) rfl rfl ?_
          refine r_nil ?_
          refine j_then ?_
          refine j_seq ?_
          refine j_region ?_
          refine r_q (q_move rfl rfl) rfl rfl ?_
          refine r_q (q_lss rfl rfl rfl) rfl rfl ?_
          refine r_q (q_move rfl rfl) rfl rfl ?_
          rcases of_if h with ⟨c40, h⟩ | ⟨c40, h⟩
          · refine r_off rfl rfl rfl rfl (decide_eq_true c40) rfl ?_
            refine r_off rfl rfl rfl rfl (decide_eq_true c40) rfl ?_
            refine r_off rfl rfl rfl rfl (decide_eq_true c40) rfl ?_
            refine r_off rfl rfl rfl rfl (decide_eq_true c40) rfl ?_
            refine r_q (q_pick_t rfl rfl (decide_eq_true c40) rfl) rfl rfl ?_
            refine r_q (q_move rfl rfl) rfl rfl ?_
            refine r_off rfl rfl rfl rfl rfl rfl ?_
            refine r_off rfl rfl rfl rfl rfl rfl ?_
            refine r_off rfl rfl rfl rfl rfl rfl ?_
            refine r_off rfl rfl rfl rfl rfl rfl ?_
            refine r_off rfl rfl rfl rfl rfl rfl ?_
            refine r_q (q_pick_t rfl rfl rfl rfl) rfl rfl ?_
            refine r_q (q_move rfl rfl) rfl rfl ?_
            refine r_off rfl rfl rfl rfl rfl rfl ?_
            refine r_off rfl rfl rfl rfl rfl rfl ?_
            refine r_off rfl rfl rfl rfl rfl rfl ?_
            refine r_off rfl rfl rfl rfl rfl rfl ?_
            refine r_off rfl rfl rfl rfl rfl rfl ?_
            refine r_off rfl rfl rfl rfl rfl rfl ?_
            refine r_off rfl rfl rfl rfl rfl rfl ?_
            refine r_q (q_pick_t rfl rfl rfl rfl) rfl rfl ?_
            refine r_q (q_move rfl rfl) rfl rfl ?_
            refine r_off rfl rfl rfl rfl rfl rfl ?_
            refine r_off rfl rfl rfl rfl rfl rfl ?_
            refine r_off rfl rfl rfl rfl rfl rfl ?_
            refine r_off rfl rfl rfl rfl rfl rfl ?_
            refine r_off rfl rfl rfl rfl rfl rfl ?_
            refine r_off rfl rfl rfl rfl rfl rfl ?_
            refine r_off rfl rfl rfl rfl rfl rfl ?_
            refine r_q (q_pick_t rfl rfl rfl rfl) rfl rfl ?_
            refine r_q (q_move rfl rfl) rfl rfl ?_
            refine r_off rfl rfl rfl rfl rfl rfl ?_
            refine r_off rfl rfl rfl rfl rfl rfl ?_
            refine r_off rfl rfl rfl rfl rfl rfl ?_
            refine r_off rfl rfl rfl rfl rfl rfl ?_
            refine r_off rfl rfl rfl rfl rfl rfl ?_
            refine r_off rfl rfl rfl rfl rfl rfl ?_
            refine r_q (q_pick_t rfl rfl rfl rfl) rfl rfl ?_
            refine r_nil ?_
            refine j_then ?_
            refine j_true rfl rfl ?_
            refine j_seq ?_
            refine j_region ?_
            refine r_q (q_assign rfl rfl) rfl rfl ?_
            refine r_nil ?_
            refine j_then ?_
            refine j_ret ?_
            refine j_in_ret ?_
            refine j_then_ret ?_
            refine j_then_ret ?_
            refine j_in_ret ?_
            refine j_then_ret ?_
            refine j_then_ret ?_
            cases h
            exact j_return rfl (ResOf.tmp rfl ResOf.nil) rfl (fun w h => ⟨(), rfl, (h.drop 2)⟩)
          · refine r_qon (q_move rfl rfl) rfl rfl rfl rfl (decide_eq_false c40) rfl ?_
            refine r_qon (q_move rfl rfl) rfl rfl rfl rfl (decide_eq_false c40) rfl ?_
            refine r_qon (q_lenX v2 x3.h un23 rfl rfl rfl rfl rfl) rfl rfl rfl rfl (decide_eq_false c40) rfl ?_
            refine r_qon (q_geq rfl rfl rfl) rfl rfl rfl rfl (decide_eq_false c40) rfl ?_
            refine r_q (q_pick_f rfl rfl (decide_eq_false c40) rfl) rfl rfl ?_
            refine r_q (q_move rfl rfl) rfl rfl ?_
            rcases of_if h with ⟨c41, h⟩ | ⟨c41, h⟩
            · refine r_off rfl rfl rfl rfl (decide_eq_true c41) rfl ?_
              refine r_off rfl rfl rfl rfl (decide_eq_true c41) rfl ?_
              refine r_off rfl rfl rfl rfl (decide_eq_true c41) rfl ?_
              refine r_off rfl rfl rfl rfl (decide_eq_true c41) rfl ?_
              refine r_off rfl rfl rfl rfl (decide_eq_true c41) rfl ?_
              refine r_q (q_pick_t rfl rfl (decide_eq_true c41) rfl) rfl rfl ?_
              refine r_q (q_move rfl rfl) rfl rfl ?_
              refine r_off rfl rfl rfl rfl rfl rfl ?_
              refine r_off rfl rfl rfl rfl rfl rfl ?_
              refine r_off rfl rfl rfl rfl rfl rfl ?_
              refine r_off rfl rfl rfl rfl rfl rfl ?_
              refine r_off rfl rfl rfl rfl rfl rfl ?_
              refine r_off rfl rfl rfl rfl rfl rfl ?_
              refine r_off rfl rfl rfl rfl rfl rfl ?_
              refine r_q (q_pick_t rfl rfl rfl rfl) rfl rfl ?_
              refine r_q (q_move rfl rfl) rfl rfl ?_
              refine r_off rfl rfl rfl rfl rfl rfl ?_
              refine r_off rfl rfl rfl rfl rfl rfl ?_
              refine r_off rfl rfl rfl rfl rfl rfl ?_
              refine r_off rfl rfl rfl rfl rfl rfl ?_
              refine r_off rfl rfl rfl rfl rfl rfl ?_
              refine r_off rfl rfl rfl rfl rfl rfl ?_
              refine r_off rfl rfl rfl rfl rfl rfl ?_
              refine r_q (q_pick_t rfl rfl rfl rfl) rfl rfl ?_
              refine r_q (q_move rfl rfl) rfl rfl ?_
              refine r_off rfl rfl rfl rfl rfl rfl ?_
              refine r_off rfl rfl rfl rfl rfl rfl ?_
              refine r_off rfl rfl rfl rfl rfl rfl ?_
              refine r_off rfl rfl rfl rfl rfl rfl ?_
              refine r_off rfl rfl rfl rfl rfl rfl ?_
              refine r_off rfl rfl rfl rfl rfl rfl ?_
              refine r_q (q_pick_t rfl rfl rfl rfl) rfl rfl ?_
              refine r_nil ?_
              refine j_then ?_
              refine j_true rfl rfl ?_
              refine j_seq ?_
              refine j_region ?_
              refine r_q (q_assign rfl rfl) rfl rfl ?_
              refine r_nil ?_
              refine j_then ?_
              refine j_ret ?_
              refine j_in_ret ?_
              refine j_then_ret ?_
              refine j_then_ret ?_
              refine j_in_ret ?_
              refine j_then_ret ?_
              refine j_then_ret ?_
              cases h
              exact j_return rfl (ResOf.tmp rfl ResOf.nil) rfl (fun w h => ⟨(), rfl, (h.drop 2)⟩)
            · refine r_qon (q_move rfl rfl) rfl rfl rfl rfl (decide_eq_false c41) rfl ?_
              refine r_qon (q_move rfl rfl) rfl rfl rfl rfl (decide_eq_false c41) rfl ?_
              obtain ⟨c42, h⟩ := of_guard h
              refine r_qon (q_ix (Rd.row 1 rfl) (ints_len1 _ v2) (by decide) x3.h c42 un23 sz3 rfl rfl rfl) rfl rfl rfl rfl (decide_eq_false c41) rfl ?_
              refine r_qon (q_ldI (Rd.row 1 rfl) c42 ag3 rfl rfl) rfl rfl rfl rfl (decide_eq_false c41) rfl ?_
              refine r_qon (q_gtr rfl rfl rfl) rfl rfl rfl rfl (decide_eq_false c41) rfl ?_
              refine r_q (q_pick_f rfl rfl (decide_eq_false c41) rfl) rfl rfl ?_
              refine r_q (q_move rfl rfl) rfl rfl ?_
              rcases of_if h with ⟨c43, h⟩ | ⟨c43, h⟩
              · refine r_off rfl rfl rfl rfl (decide_eq_true c43) rfl ?_
                refine r_off rfl rfl rfl rfl (decide_eq_true c43) rfl ?_
                refine r_off rfl rfl rfl rfl (decide_eq_true c43) rfl ?_
                refine r_off rfl rfl rfl rfl (decide_eq_true c43) rfl ?_
                refine r_off rfl rfl rfl rfl (decide_eq_true c43) rfl ?_
                refine r_off rfl rfl rfl rfl (decide_eq_true c43) rfl ?_
                refine r_off rfl rfl rfl rfl (decide_eq_true c43) rfl ?_
                refine r_q (q_pick_t rfl rfl (decide_eq_true c43) rfl) rfl rfl ?_
                refine r_q (q_move rfl rfl) rfl rfl ?_
                refine r_off rfl rfl rfl rfl rfl rfl ?_
                refine r_off rfl rfl rfl rfl rfl rfl ?_
                refine r_off rfl rfl rfl rfl rfl rfl ?_
                refine r_off rfl rfl rfl rfl rfl rfl ?_
                refine r_off rfl rfl rfl rfl rfl rfl ?_
                refine r_off rfl rfl rfl rfl rfl rfl ?_
                refine r_off rfl rfl rfl rfl rfl rfl ?_
                refine r_q (q_pick_t rfl rfl rfl rfl) rfl rfl ?_
                refine r_q (q_move rfl rfl) rfl rfl ?_
                refine r_off rfl rfl rfl rfl rfl rfl ?_
                refine r_off rfl rfl rfl rfl rfl rfl ?_
                refine r_off rfl rfl rfl rfl rfl rfl ?_
                refine r_off rfl rfl rfl rfl rfl rfl ?_
                refine r_off rfl rfl rfl rfl rfl rfl ?_
                refine r_off rfl rfl rfl rfl rfl rfl ?_
                refine r_q (q_pick_t rfl rfl rfl rfl) rfl rfl ?_
                refine r_nil ?_
                refine j_then ?_
                refine j_true rfl rfl ?_
                refine j_seq ?_
                refine j_region ?_
                refine r_q (q_assign rfl rfl) rfl rfl ?_
                refine r_nil ?_
                refine j_then ?_
                refine j_ret ?_
                refine j_in_ret ?_
                refine j_then_ret ?_
                refine j_then_ret ?_
                refine j_in_ret ?_
                refine j_then_ret ?_
                refine j_then_ret ?_
                cases h
                exact j_return rfl (ResOf.tmp rfl ResOf.nil) rfl (fun w h => ⟨(), rfl, (h.drop 2)⟩)
              · refine r_qon (q_fieldAddr fi27_0 sz25 rfl rfl rfl) rfl rfl rfl rfl (decide_eq_false c43) rfl ?_
                refine r_qon (q_fieldAddr fi25_0 sz23 rfl rfl rfl) rfl rfl rfl rfl (decide_eq_false c43) rfl ?_
                refine r_qon (q_loadb 0 rfl ag23 rfl rfl rfl) rfl rfl rfl rfl (decide_eq_false c43) rfl ?_
                refine r_qon (q_move rfl rfl) rfl rfl rfl rfl (decide_eq_false c43) rfl ?_
                obtain ⟨c44, h⟩ := of_guard h
                refine r_qon (q_ix (Rd.drop 2 a0_0_R) (ints_len1 _ a0_0) (by decide) a0_0_h c44 un23 sz3 rfl rfl rfl) rfl rfl rfl rfl (decide_eq_false c43) rfl ?_
                refine r_qon (q_ldI (Rd.drop 2 a0_0_R) c44 ag3 rfl rfl) rfl rfl rfl rfl (decide_eq_false c43) rfl ?_
                refine r_qon (q_neq rfl rfl rfl) rfl rfl rfl rfl (decide_eq_false c43) rfl ?_
                refine r_q (q_pick_f rfl rfl (decide_eq_false c43) rfl) rfl rfl ?_
                refine r_q (q_move rfl rfl) rfl rfl ?_
                rcases of_if h with ⟨c45, h⟩ | ⟨c45, h⟩
                · refine r_qon (q_fieldAddr fi27_0 sz25 rfl rfl rfl) rfl rfl rfl rfl (bne_f c45) rfl ?_
                  refine r_qon (q_fieldAddr fi25_1 sz23 rfl rfl rfl) rfl rfl rfl rfl (bne_f c45) rfl ?_
                  refine r_qon (q_loadb 0 rfl ag23 rfl rfl rfl) rfl rfl rfl rfl (bne_f c45) rfl ?_
                  refine r_qon (q_move rfl rfl) rfl rfl rfl rfl (bne_f c45) rfl ?_
                  obtain ⟨c46, h⟩ := of_guard h
                  refine r_qon (q_ix (Rd.drop 2 a0_1_R) (ints_len1 _ a0_1) (by decide) a0_1_h c46 un23 sz3 rfl rfl rfl) rfl rfl rfl rfl (bne_f c45) rfl ?_
                  refine r_qon (q_ldI (Rd.drop 2 a0_1_R) c46 ag3 rfl rfl) rfl rfl rfl rfl (bne_f c45) rfl ?_
                  refine r_qon (q_neq rfl rfl rfl) rfl rfl rfl rfl (bne_f c45) rfl ?_
                  refine r_q (q_pick_f rfl rfl (bne_f c45) rfl) rfl rfl ?_
                  refine r_q (q_move rfl rfl) rfl rfl ?_
                  rcases of_if h with ⟨c47, h⟩ | ⟨c47, h⟩
                  · refine r_qon (q_fieldAddr fi27_1 sz23 rfl rfl rfl) rfl rfl rfl rfl (bne_f c47) rfl ?_
                    refine r_qon (q_loadb 0 rfl ag23 rfl rfl rfl) rfl rfl rfl rfl (bne_f c47) rfl ?_
                    refine r_qon (q_move rfl rfl) rfl rfl rfl rfl (bne_f c47) rfl ?_
                    obtain ⟨c48, h⟩ := of_guard h
                    refine j_fact (fun w hm => a0_3_k) (fun k8 => ?_)
                    refine r_qon (q_hi a0_3 a0_3_h k8 c48 un23 sz3 rfl rfl rfl) rfl rfl rfl rfl (bne_f c47) rfl ?_
                    refine r_qon (q_move rfl rfl) rfl rfl rfl rfl (bne_f c47) rfl ?_
                    obtain ⟨v6, hb6, h⟩ := of_b1 h
                    refine r_on (a_call ok32 rfl rfl rfl rfl (fun w hm => slices_Contains_int.calls K (a0_3.take p2.toNat) a0_3_A (a0_3.take p2.toNat).length a0_3_c (rd a0_3 p2) hm rfl (rd_hiI (Rd.drop 2 a0_3_R) p2.toNat) hb6)) rfl rfl rfl rfl (bne_f c47) rfl (fun x4 => ?_)
                    refine r_q (q_pick_f rfl rfl (bne_f c47) rfl) rfl rfl ?_
                    refine r_nil ?_
                    refine j_then ?_
                    rcases of_if h with ⟨c49, h⟩ | ⟨c49, h⟩
                    · refine j_true rfl c49 ?_
                      refine j_seq ?_
                      refine j_region ?_
                      refine r_q (q_assign rfl rfl) rfl rfl ?_
                      refine r_nil ?_
                      refine j_then ?_
                      refine j_ret ?_
                      refine j_in_ret ?_
                      refine j_then_ret ?_
                      refine j_then_ret ?_
                      refine j_in_ret ?_
                      refine j_then_ret ?_
                      refine j_then_ret ?_
                      cases h
                      exact j_return rfl (ResOf.tmp rfl ResOf.nil) rfl (fun w h => ⟨(), rfl, (h.drop 2)⟩)
                    · refine j_false rfl (var_f c49) ?_
                      refine j_skip ?_
                      refine j_in ?_
                      refine j_then ?_
                      refine j_region ?_
                      refine r_q (q_add rfl rfl rfl) rfl rfl ?_
                      refine r_q (q_move rfl rfl) rfl rfl ?_
                      refine r_nil ?_
                      refine j_then ?_
                      exact j_again m (wrap64 (p2 + (1:Int))) (Nat.lt_succ_self m) h (fun a he => he.sub ⟨rfl, rfl, rfl, rfl, rfl, trivial⟩) (fun w h => h)
                  · refine r_off rfl rfl rfl rfl (bne_t c47) rfl ?_
                    refine r_off rfl rfl rfl rfl (bne_t c47) rfl ?_
                    refine r_off rfl rfl rfl rfl (bne_t c47) rfl ?_
                    refine r_off rfl rfl rfl rfl (bne_t c47) rfl ?_
                    refine r_off rfl rfl rfl rfl (bne_t c47) rfl ?_
                    refine r_off rfl rfl rfl rfl (bne_t c47) rfl ?_
                    refine r_q (q_pick_t rfl rfl (bne_t c47) rfl) rfl rfl ?_
                    refine r_nil ?_
                    refine j_then ?_
                    refine j_true rfl rfl ?_
                    refine j_seq ?_
                    refine j_region ?_
                    refine r_q (q_assign rfl rfl) rfl rfl ?_
                    refine r_nil ?_
                    refine j_then ?_
                    refine j_ret ?_
                    refine j_in_ret ?_
                    refine j_then_ret ?_
                    refine j_then_ret ?_
                    refine j_in_ret ?_
                    refine j_then_ret ?_
                    refine j_then_ret ?_
                    cases h
                    exact j_return rfl (ResOf.tmp rfl ResOf.nil) rfl (fun w h => ⟨(), rfl, (h.drop 2)⟩)
                · refine r_off rfl rfl rfl rfl (bne_t c45) rfl ?_
                  refine r_off rfl rfl rfl rfl (bne_t c45) rfl ?_
                  refine r_off rfl rfl rfl rfl (bne_t c45) rfl ?_
                  refine r_off rfl rfl rfl rfl (bne_t c45) rfl ?_
                  refine r_off rfl rfl rfl rfl (bne_t c45) rfl ?_
                  refine r_off rfl rfl rfl rfl (bne_t c45) rfl ?_
                  refine r_off rfl rfl rfl rfl (bne_t c45) rfl ?_
                  refine r_q (q_pick_t rfl rfl (bne_t c45) rfl) rfl rfl ?_
                  refine r_q (q_move rfl rfl) rfl rfl ?_
                  refine r_off rfl rfl rfl rfl rfl rfl ?_
                  refine r_off rfl rfl rfl rfl rfl rfl ?_
                  refine r_off rfl rfl rfl rfl rfl rfl ?_
                  refine r_off rfl rfl rfl rfl rfl rfl ?_
                  refine r_off rfl rfl rfl rfl rfl rfl ?_
                  refine r_off rfl rfl rfl rfl rfl rfl ?_
                  refine r_q (q_pick_t rfl rfl rfl rfl) rfl rfl ?_
                  refine r_nil ?_
                  refine j_then ?_
                  refine j_true rfl rfl ?_
                  refine j_seq ?_
                  refine j_region ?_
                  refine r_q (q_assign rfl rfl) rfl rfl ?_
                  refine r_nil ?_
                  refine j_then ?_
                  refine j_ret ?_
                  refine j_in_ret ?_
                  refine j_then_ret ?_
                  refine j_then_ret ?_
                  refine j_in_ret ?_
                  refine j_then_ret ?_
                  refine j_then_ret ?_
                  cases h
                  exact j_return rfl (ResOf.tmp rfl ResOf.nil) rfl (fun w h => ⟨(), rfl, (h.drop 2)⟩)
        · refine j_false rfl (decide_eq_false c38) ?_
          refine j_exit ?_
          refine j_then_exit ?_
          refine j_then_exit ?_
          refine j_in_exit ?_
          refine j_then ?_
          exact j_meet () h (fun a he => he.sub trivial) (fun w h => (h.drop 2))
    · rintro _ h
      subst hκ0
      show J _ _ [] _ (F)
      refine j_then ?_
      refine j_seq ?_
      refine j_region ?_
      refine r_q (q_assign rfl rfl) rfl rfl ?_
      refine r_nil ?_
      refine j_then ?_
      refine j_ret ?_
      cases h
      exact j_return rfl (ResOf.tmp rfl ResOf.nil) rfl (fun w h => ⟨(), rfl, h⟩)
  · refine j_true rfl (not_t (var_f c1)) ?_
    refine j_seq ?_
    refine j_region ?_
    refine r_q (q_assign rfl rfl) rfl rfl ?_
    refine r_nil ?_
    refine j_then ?_
    refine j_ret ?_
    refine j_then_ret ?_
    cases h
    exact j_return rfl (ResOf.tmp rfl ResOf.nil) rfl (fun w h => ⟨(), rfl, h.tail⟩)

theorem impl_OpValid.calls (K : Nat) (a0_0 : Int) (a0_1 : Int) (a0_2 : Int) (a1 : Int) {w0 w : World} {F : List Res} {r1 : Bool} (hm : Mem w0 (F) w)  (h : impl_OpValid.f K a0_0 a0_1 a0_2 a1 = some r1) :
    Calls Try.prog 15 (List.toArray [.agg (List.toArray [i6 a0_0, i6 a0_1, i6 a0_2]), i6 a1]) w fun e w' => ∃ x : Unit, e = .returned (.bool r1) ∧ Mem w0 (F) w' := by
  unfold impl_OpValid.f at h
  refine calls_of_J (n := 54) Try.func15 rfl rfl rfl hm ?_
  refine j_seq ?_
  refine j_region ?_
  refine r_do (a_box rfl rfl) rfl rfl (fun x1 => ?_)
  refine r_q (q_assign rfl rfl) rfl rfl ?_
  refine r_nil ?_
  refine j_then ?_
  refine j_seq ?_
  refine j_seq ?_
  refine j_region ?_
  refine r_q (q_fieldAddr fi29_0 sz3 rfl rfl rfl) rfl rfl ?_
  refine r_q (q_loadb 0 rfl ag3 rfl rfl rfl) rfl rfl ?_
  refine r_q (q_lss rfl rfl rfl) rfl rfl ?_
  refine r_q (q_move rfl rfl) rfl rfl ?_
  rcases of_if h with ⟨c1, h⟩ | ⟨c1, h⟩
  · refine r_off rfl rfl rfl rfl (decide_eq_true c1) rfl ?_
    refine r_off rfl rfl rfl rfl (decide_eq_true c1) rfl ?_
    refine r_off rfl rfl rfl rfl (decide_eq_true c1) rfl ?_
    refine r_q (q_pick_t rfl rfl (decide_eq_true c1) rfl) rfl rfl ?_
    refine r_q (q_move rfl rfl) rfl rfl ?_
    refine r_off rfl rfl rfl rfl rfl rfl ?_
    refine r_off rfl rfl rfl rfl rfl rfl ?_
    refine r_off rfl rfl rfl rfl rfl rfl ?_
    refine r_q (q_pick_t rfl rfl rfl rfl) rfl rfl ?_
    refine r_q (q_move rfl rfl) rfl rfl ?_
    refine r_off rfl rfl rfl rfl rfl rfl ?_
    refine r_off rfl rfl rfl rfl rfl rfl ?_
    refine r_off rfl rfl rfl rfl rfl rfl ?_
    refine r_q (q_pick_t rfl rfl rfl rfl) rfl rfl ?_
    refine r_q (q_move rfl rfl) rfl rfl ?_
    refine r_off rfl rfl rfl rfl rfl rfl ?_
    refine r_off rfl rfl rfl rfl rfl rfl ?_
    refine r_off rfl rfl rfl rfl rfl rfl ?_
    refine r_off rfl rfl rfl rfl rfl rfl ?_
    refine r_q (q_pick_t rfl rfl rfl rfl) rfl rfl ?_
    refine r_q (q_move rfl rfl) rfl rfl ?_
    refine r_off rfl rfl rfl rfl rfl rfl ?_
    refine r_off rfl rfl rfl rfl rfl rfl ?_
    refine r_off rfl rfl rfl rfl rfl rfl ?_
    refine r_q (q_pick_t rfl rfl rfl rfl) rfl rfl ?_
    refine r_q (q_move rfl rfl) rfl rfl ?_
    refine r_off rfl rfl rfl rfl rfl rfl ?_
    refine r_off rfl rfl rfl rfl rfl rfl ?_
    refine r_off rfl rfl rfl rfl rfl rfl ?_
    refine r_q (q_pick_t rfl rfl rfl rfl) rfl rfl ?_
    refine r_nil ?_
    refine j_then ?_
    refine j_true rfl rfl ?_
    refine j_seq ?_
    refine j_region ?_
    refine r_q (q_assign rfl rfl) rfl rfl ?_
    refine r_nil ?_
    refine j_then ?_
    refine j_ret ?_
    refine j_then_ret ?_
    cases h
    exact j_return rfl (ResOf.tmp rfl ResOf.nil) rfl (fun w h => ⟨(), rfl, h.tail⟩)
  · refine r_qon (q_fieldAddr fi29_0 sz3 rfl rfl rfl) rfl rfl rfl rfl (decide_eq_false c1) rfl ?_
    refine r_qon (q_loadb 0 rfl ag3 rfl rfl rfl) rfl rfl rfl rfl (decide_eq_false c1) rfl ?_
    refine r_qon (q_gtr rfl rfl rfl) rfl rfl rfl rfl (decide_eq_false c1) rfl ?_
    refine r_q (q_pick_f rfl rfl (decide_eq_false c1) rfl) rfl rfl ?_
    refine r_q (q_move rfl rfl) rfl rfl ?_
    rcases of_if h with ⟨c2, h⟩ | ⟨c2, h⟩
    · refine r_off rfl rfl rfl rfl (decide_eq_true c2) rfl ?_
      refine r_off rfl rfl rfl rfl (decide_eq_true c2) rfl ?_
      refine r_off rfl rfl rfl rfl (decide_eq_true c2) rfl ?_
      refine r_q (q_pick_t rfl rfl (decide_eq_true c2) rfl) rfl rfl ?_
      refine r_q (q_move rfl rfl) rfl rfl ?_
      refine r_off rfl rfl rfl rfl rfl rfl ?_
      refine r_off rfl rfl rfl rfl rfl rfl ?_
      refine r_off rfl rfl rfl rfl rfl rfl ?_
      refine r_q (q_pick_t rfl rfl rfl rfl) rfl rfl ?_
      refine r_q (q_move rfl rfl) rfl rfl ?_
      refine r_off rfl rfl rfl rfl rfl rfl ?_
      refine r_off rfl rfl rfl rfl rfl rfl ?_
      refine r_off rfl rfl rfl rfl rfl rfl ?_
      refine r_off rfl rfl rfl rfl rfl rfl ?_
      refine r_q (q_pick_t rfl rfl rfl rfl) rfl rfl ?_
      refine r_q (q_move rfl rfl) rfl rfl ?_
      refine r_off rfl rfl rfl rfl rfl rfl ?_
      refine r_off rfl rfl rfl rfl rfl rfl ?_
      refine r_off rfl rfl rfl rfl rfl rfl ?_
      refine r_q (q_pick_t rfl rfl rfl rfl) rfl rfl ?_
      refine r_q (q_move rfl rfl) rfl rfl ?_
      refine r_off rfl rfl rfl rfl rfl rfl ?_
      refine r_off rfl rfl rfl rfl rfl rfl ?_
      refine r_off rfl rfl rfl rfl rfl rfl ?_
      refine r_q (q_pick_t rfl rfl rfl rfl) rfl rfl ?_
      refine r_nil ?_
      refine j_then ?_
      refine j_true rfl rfl ?_
      refine j_seq ?_
      refine j_region ?_
      refine r_q (q_assign rfl rfl) rfl rfl ?_
      refine r_nil ?_
      refine j_then ?_
      refine j_ret ?_
      refine j_then_ret ?_
      cases h
      exact j_return rfl (ResOf.tmp rfl ResOf.nil) rfl (fun w h => ⟨(), rfl, h.tail⟩)
    · refine r_qon (q_fieldAddr fi29_1 sz3 rfl rfl rfl) rfl rfl rfl rfl (decide_eq_false c2) rfl ?_
      refine r_qon (q_loadb 0 rfl ag3 rfl rfl rfl) rfl rfl rfl rfl (decide_eq_false c2) rfl ?_
      refine r_qon (q_lss rfl rfl rfl) rfl rfl rfl rfl (decide_eq_false c2) rfl ?_
      refine r_q (q_pick_f rfl rfl (decide_eq_false c2) rfl) rfl rfl ?_
      refine r_q (q_move rfl rfl) rfl rfl ?_
      rcases of_if h with ⟨c3, h⟩ | ⟨c3, h⟩
      · refine r_off rfl rfl rfl rfl (decide_eq_true c3) rfl ?_
        refine r_off rfl rfl rfl rfl (decide_eq_true c3) rfl ?_
        refine r_off rfl rfl rfl rfl (decide_eq_true c3) rfl ?_
        refine r_q (q_pick_t rfl rfl (decide_eq_true c3) rfl) rfl rfl ?_
        refine r_q (q_move rfl rfl) rfl rfl ?_
        refine r_off rfl rfl rfl rfl rfl rfl ?_
        refine r_off rfl rfl rfl rfl rfl rfl ?_
        refine r_off rfl rfl rfl rfl rfl rfl ?_
        refine r_off rfl rfl rfl rfl rfl rfl ?_
        refine r_q (q_pick_t rfl rfl rfl rfl) rfl rfl ?_
        refine r_q (q_move rfl rfl) rfl rfl ?_
        refine r_off rfl rfl rfl rfl rfl rfl ?_
        refine r_off rfl rfl rfl rfl rfl rfl ?_
        refine r_off rfl rfl rfl rfl rfl rfl ?_
        refine r_q (q_pick_t rfl rfl rfl rfl) rfl rfl ?_
        refine r_q (q_move rfl rfl) rfl rfl ?_
        refine r_off rfl rfl rfl rfl rfl rfl ?_
        refine r_off rfl rfl rfl rfl rfl rfl ?_
        refine r_off rfl rfl rfl rfl rfl rfl ?_
        refine r_q (q_pick_t rfl rfl rfl rfl) rfl rfl ?_
        refine r_nil ?_
        refine j_then ?_
        refine j_true rfl rfl ?_
        refine j_seq ?_
        refine j_region ?_
        refine r_q (q_assign rfl rfl) rfl rfl ?_
        refine r_nil ?_
        refine j_then ?_
        refine j_ret ?_
        refine j_then_ret ?_
        cases h
        exact j_return rfl (ResOf.tmp rfl ResOf.nil) rfl (fun w h => ⟨(), rfl, h.tail⟩)
      · refine r_qon (q_fieldAddr fi29_1 sz3 rfl rfl rfl) rfl rfl rfl rfl (decide_eq_false c3) rfl ?_
        refine r_qon (q_loadb 0 rfl ag3 rfl rfl rfl) rfl rfl rfl rfl (decide_eq_false c3) rfl ?_
        refine r_qon (q_geq rfl rfl rfl) rfl rfl rfl rfl (decide_eq_false c3) rfl ?_
        refine r_q (q_pick_f rfl rfl (decide_eq_false c3) rfl) rfl rfl ?_
        refine r_q (q_move rfl rfl) rfl rfl ?_
        rcases of_if h with ⟨c4, h⟩ | ⟨c4, h⟩
        · refine r_off rfl rfl rfl rfl (decide_eq_true c4) rfl ?_
          refine r_off rfl rfl rfl rfl (decide_eq_true c4) rfl ?_
          refine r_off rfl rfl rfl rfl (decide_eq_true c4) rfl ?_
          refine r_off rfl rfl rfl rfl (decide_eq_true c4) rfl ?_
          refine r_q (q_pick_t rfl rfl (decide_eq_true c4) rfl) rfl rfl ?_
          refine r_q (q_move rfl rfl) rfl rfl ?_
          refine r_off rfl rfl rfl rfl rfl rfl ?_
          refine r_off rfl rfl rfl rfl rfl rfl ?_
          refine r_off rfl rfl rfl rfl rfl rfl ?_
          refine r_q (q_pick_t rfl rfl rfl rfl) rfl rfl ?_
          refine r_q (q_move rfl rfl) rfl rfl ?_
          refine r_off rfl rfl rfl rfl rfl rfl ?_
          refine r_off rfl rfl rfl rfl rfl rfl ?_
          refine r_off rfl rfl rfl rfl rfl rfl ?_
          refine r_q (q_pick_t rfl rfl rfl rfl) rfl rfl ?_
          refine r_nil ?_
          refine j_then ?_
          refine j_true rfl rfl ?_
          refine j_seq ?_
          refine j_region ?_
          refine r_q (q_assign rfl rfl) rfl rfl ?_
          refine r_nil ?_
          refine j_then ?_
          refine j_ret ?_
          refine j_then_ret ?_
          cases h
          exact j_return rfl (ResOf.tmp rfl ResOf.nil) rfl (fun w h => ⟨(), rfl, h.tail⟩)
        · refine r_qon (q_fieldAddr fi29_1 sz3 rfl rfl rfl) rfl rfl rfl rfl (decide_eq_false c4) rfl ?_
          refine r_qon (q_loadb 0 rfl ag3 rfl rfl rfl) rfl rfl rfl rfl (decide_eq_false c4) rfl ?_
          refine r_qon (q_move rfl rfl) rfl rfl rfl rfl (decide_eq_false c4) rfl ?_
          refine r_qon (q_geq rfl rfl rfl) rfl rfl rfl rfl (decide_eq_false c4) rfl ?_
          refine r_q (q_pick_f rfl rfl (decide_eq_false c4) rfl) rfl rfl ?_
          refine r_q (q_move rfl rfl) rfl rfl ?_
          rcases of_if h with ⟨c5, h⟩ | ⟨c5, h⟩
          · refine r_off rfl rfl rfl rfl (decide_eq_true c5) rfl ?_
            refine r_off rfl rfl rfl rfl (decide_eq_true c5) rfl ?_
            refine r_off rfl rfl rfl rfl (decide_eq_true c5) rfl ?_
            refine r_q (q_pick_t rfl rfl (decide_eq_true c5) rfl) rfl rfl ?_
            refine r_q (q_move rfl rfl) rfl rfl ?_
            refine r_off rfl rfl rfl rfl rfl rfl ?_
            refine r_off rfl rfl rfl rfl rfl rfl ?_
            refine r_off rfl rfl rfl rfl rfl rfl ?_
            refine r_q (q_pick_t rfl rfl rfl rfl) rfl rfl ?_
            refine r_nil ?_
            refine j_then ?_
            refine j_true rfl rfl ?_
            refine j_seq ?_
            refine j_region ?_
            refine r_q (q_assign rfl rfl) rfl rfl ?_
            refine r_nil ?_
            refine j_then ?_
            refine j_ret ?_
            refine j_then_ret ?_
            cases h
            exact j_return rfl (ResOf.tmp rfl ResOf.nil) rfl (fun w h => ⟨(), rfl, h.tail⟩)
          · refine r_qon (q_fieldAddr fi29_2 sz3 rfl rfl rfl) rfl rfl rfl rfl (decide_eq_false c5) rfl ?_
            refine r_qon (q_loadb 0 rfl ag3 rfl rfl rfl) rfl rfl rfl rfl (decide_eq_false c5) rfl ?_
            refine r_qon (q_lss rfl rfl rfl) rfl rfl rfl rfl (decide_eq_false c5) rfl ?_
            refine r_q (q_pick_f rfl rfl (decide_eq_false c5) rfl) rfl rfl ?_
            refine r_q (q_move rfl rfl) rfl rfl ?_
            rcases of_if h with ⟨c6, h⟩ | ⟨c6, h⟩
            · refine r_off rfl rfl rfl rfl (decide_eq_true c6) rfl ?_
              refine r_off rfl rfl rfl rfl (decide_eq_true c6) rfl ?_
              refine r_off rfl rfl rfl rfl (decide_eq_true c6) rfl ?_
              refine r_q (q_pick_t rfl rfl (decide_eq_true c6) rfl) rfl rfl ?_
              refine r_nil ?_
              refine j_then ?_
              refine j_true rfl rfl ?_
              refine j_seq ?_
              refine j_region ?_
              refine r_q (q_assign rfl rfl) rfl rfl ?_
              refine r_nil ?_
              refine j_then ?_
              refine j_ret ?_
              refine j_then_ret ?_
              cases h
              exact j_return rfl (ResOf.tmp rfl ResOf.nil) rfl (fun w h => ⟨(), rfl, h.tail⟩)
            · refine r_qon (q_fieldAddr fi29_2 sz3 rfl rfl rfl) rfl rfl rfl rfl (decide_eq_false c6) rfl ?_
              refine r_qon (q_loadb 0 rfl ag3 rfl rfl rfl) rfl rfl rfl rfl (decide_eq_false c6) rfl ?_
              refine r_qon (q_geq rfl rfl rfl) rfl rfl rfl rfl (decide_eq_false c6) rfl ?_
              refine r_q (q_pick_f rfl rfl (decide_eq_false c6) rfl) rfl rfl ?_
              refine r_nil ?_
              refine j_then ?_
              rcases of_if h with ⟨c7, h⟩ | ⟨c7, h⟩
              · refine j_true rfl (decide_eq_true c7) ?_
                refine j_seq ?_
                refine j_region ?_
                refine r_q (q_assign rfl rfl) rfl rfl ?_
                refine r_nil ?_
                refine j_then ?_
                refine j_ret ?_
                refine j_then_ret ?_
                cases h
                exact j_return rfl (ResOf.tmp rfl ResOf.nil) rfl (fun w h => ⟨(), rfl, h.tail⟩)
              · refine j_false rfl (decide_eq_false c7) ?_
                refine j_skip ?_
                refine j_then ?_
                refine j_seq ?_
                refine j_seq ?_
                refine j_region ?_
                refine r_q (q_fieldAddr fi29_0 sz3 rfl rfl rfl) rfl rfl ?_
                refine r_q (q_loadb 0 rfl ag3 rfl rfl rfl) rfl rfl ?_
                refine r_q (q_eql rfl rfl rfl) rfl rfl ?_
                refine r_q (q_move rfl rfl) rfl rfl ?_
                rcases of_if h with ⟨c8, h⟩ | ⟨c8, h⟩
                · refine r_off rfl rfl rfl rfl (beq_t c8) rfl ?_
                  refine r_off rfl rfl rfl rfl (beq_t c8) rfl ?_
                  refine r_off rfl rfl rfl rfl (beq_t c8) rfl ?_
                  refine r_q (q_pick_t rfl rfl (beq_t c8) rfl) rfl rfl ?_
                  refine r_nil ?_
                  refine j_then ?_
                  refine j_true rfl rfl ?_
                  refine j_seq ?_
                  refine j_region ?_
                  refine r_q (q_fieldAddr fi29_2 sz3 rfl rfl rfl) rfl rfl ?_
                  refine r_q (q_loadb 0 rfl ag3 rfl rfl rfl) rfl rfl ?_
                  refine r_q (q_eql rfl rfl rfl) rfl rfl ?_
                  refine r_q (q_assign rfl rfl) rfl rfl ?_
                  refine r_nil ?_
                  refine j_then ?_
                  refine j_ret ?_
                  refine j_then_ret ?_
                  cases h
                  exact j_return rfl (ResOf.tmp rfl ResOf.nil) rfl (fun w h => ⟨(), rfl, h.tail⟩)
                · refine r_qon (q_fieldAddr fi29_0 sz3 rfl rfl rfl) rfl rfl rfl rfl (beq_f c8) rfl ?_
                  refine r_qon (q_loadb 0 rfl ag3 rfl rfl rfl) rfl rfl rfl rfl (beq_f c8) rfl ?_
                  refine r_qon (q_eql rfl rfl rfl) rfl rfl rfl rfl (beq_f c8) rfl ?_
                  refine r_q (q_pick_f rfl rfl (beq_f c8) rfl) rfl rfl ?_
                  refine r_nil ?_
                  refine j_then ?_
                  rcases of_if h with ⟨c9, h⟩ | ⟨c9, h⟩
                  · refine j_true rfl (beq_t c9) ?_
                    refine j_seq ?_
                    refine j_region ?_
                    refine r_q (q_fieldAddr fi29_2 sz3 rfl rfl rfl) rfl rfl ?_
                    refine r_q (q_loadb 0 rfl ag3 rfl rfl rfl) rfl rfl ?_
                    refine r_q (q_eql rfl rfl rfl) rfl rfl ?_
                    refine r_q (q_assign rfl rfl) rfl rfl ?_
                    refine r_nil ?_
                    refine j_then ?_
                    refine j_ret ?_
                    refine j_then_ret ?_
                    cases h
                    exact j_return rfl (ResOf.tmp rfl ResOf.nil) rfl (fun w h => ⟨(), rfl, h.tail⟩)
                  · refine j_false rfl (beq_f c9) ?_
                    refine j_skip ?_
                    refine j_then ?_
                    refine j_seq ?_
                    refine j_region ?_
                    refine r_q (q_fieldAddr fi29_2 sz3 rfl rfl rfl) rfl rfl ?_
                    refine r_q (q_loadb 0 rfl ag3 rfl rfl rfl) rfl rfl ?_
                    refine r_q (q_move rfl rfl) rfl rfl ?_
                    refine r_q (q_lss rfl rfl rfl) rfl rfl ?_
                    refine r_q (q_assign rfl rfl) rfl rfl ?_
                    refine r_nil ?_
                    refine j_then ?_
                    refine j_ret ?_
                    cases h
                    exact j_return rfl (ResOf.tmp rfl ResOf.nil) rfl (fun w h => ⟨(), rfl, h.tail⟩)

theorem slices_Clone_int.calls (K : Nat) (a0 : List Int) (a0_A : Option Addr) (a0_n a0_c : Nat) {w0 w : World} {F : List Res} {r1 : List Int} (hm : Mem w0 (F) w) (a0_h : a0.length = a0_n) (a0_R : Rd w0 F a0_A (ii a0)) (h : slices_Clone_int.f K a0 = some r1) :
    Calls Try.prog 34 (List.toArray [.slice a0_A a0_n a0_c]) w fun e w' => ∃ x : (Sl r1.length), e = .returned (.slice x.A x.n x.c) ∧ Mem w0 (.row x.A x.c 3 1 (ii r1) :: F) w' := by
  unfold slices_Clone_int.f at h
  refine calls_of_J (n := 8) Try.func34 rfl rfl rfl hm ?_
  refine j_seq ?_
  refine j_region ?_
  refine r_q (q_assign rfl rfl) rfl rfl ?_
  refine r_nil ?_
  refine j_then ?_
  refine j_seq ?_
  refine j_seq ?_
  refine j_region ?_
  refine r_q (q_move rfl rfl) rfl rfl ?_
  refine r_q (q_isnil un23 rfl rfl rfl) rfl rfl ?_
  refine r_nil ?_
  refine j_then ?_
  rcases ghost_nil hm a0_R with ⟨c1, rfl⟩ | c1
  · obtain ⟨_, h⟩ := of_guard h
    refine j_true rfl c1 ?_
    refine j_seq ?_
    refine j_region ?_
    refine r_q (q_assign rfl rfl) rfl rfl ?_
    refine r_nil ?_
    refine j_then ?_
    refine j_ret ?_
    refine j_then_ret ?_
    refine j_nil 3 1 ?_
    cases h
    exact j_return rfl (ResOf.tmp rfl ResOf.nil) rfl (fun w h => ⟨⟨none, 0, 0, rfl⟩, rfl, h⟩)
  · refine j_false rfl c1 ?_
    refine j_skip ?_
    refine j_then ?_
    refine j_seq ?_
    refine j_region ?_
    refine r_do (a_litX (vs := []) (ii ([] : List Int)) un23 sz3 zr3 rfl rfl rfl rfl rfl rfl rfl rfl rfl) rfl rfl (fun x1 => ?_)
    refine r_q (q_move rfl rfl) rfl rfl ?_
    obtain ⟨c2, h⟩ := of_guard h
    refine r_do (a_appI (xs := ([] : List Int)) (ys := a0) 0 un23 un23 sz3 by3 zr3 rfl rfl rfl rfl rfl rfl rfl rfl rfl rfl a0_h (Rd.drop 1 a0_R) c2) rfl rfl (fun x2 => ?_)
    refine j_s0 ?_
    refine r_q (q_assign rfl rfl) rfl rfl ?_
    refine r_nil ?_
    refine j_then ?_
    refine j_ret ?_
    cases h
    exact j_return rfl (ResOf.tmp rfl ResOf.nil) rfl (fun w h => ⟨⟨x2.1, (0 + a0_n), x2.2, (app_len rfl a0_h)⟩, rfl, h⟩)

theorem impl_copied.calls (K : Nat) (a0_0 : List Int) (a0_0_A : Option Addr) (a0_0_n a0_0_c : Nat) (a0_1 : List Int) (a0_1_A : Option Addr) (a0_1_n a0_1_c : Nat) (a0_2 : List Int) (a0_2_A : Option Addr) (a0_2_n a0_2_c : Nat) {w0 w : World} {F : List Res} {r1 : List Int} {r2 : List Int} {r3 : List Int} (hm : Mem w0 (F) w) (a0_0_h : a0_0.length = a0_0_n) (a0_0_R : Rd w0 F a0_0_A (ii a0_0)) (a0_1_h : a0_1.length = a0_1_n) (a0_1_R : Rd w0 F a0_1_A (ii a0_1)) (a0_2_h : a0_2.length = a0_2_n) (a0_2_R : Rd w0 F a0_2_A (ii a0_2)) (h : impl_copied.f K a0_0 a0_1 a0_2 = some (r1, r2, r3)) :
    Calls Try.prog 33 (List.toArray [.agg (List.toArray [.slice a0_0_A a0_0_n a0_0_c, .slice a0_1_A a0_1_n a0_1_c, .slice a0_2_A a0_2_n a0_2_c])]) w fun e w' => ∃ x : (Sl r1.length) × (Sl r2.length) × (Sl r3.length), e = .returned (.agg (List.toArray [.slice x.1.A x.1.n x.1.c, .slice x.2.1.A x.2.1.n x.2.1.c, .slice x.2.2.A x.2.2.n x.2.2.c])) ∧ Mem w0 (.row x.1.A x.1.c 3 1 (ii r1) :: .row x.2.1.A x.2.1.c 3 1 (ii r2) :: .row x.2.2.A x.2.2.c 3 1 (ii r3) :: F) w' := by
  unfold impl_copied.f at h
  refine calls_of_J (n := 13) Try.func33 rfl rfl rfl hm ?_
  refine j_seq ?_
  refine j_region ?_
  refine r_do (a_box rfl rfl) rfl rfl (fun x1 => ?_)
  refine r_do (a_alloc zr25 rfl) rfl rfl (fun x2 => ?_)
  refine r_nil ?_
  refine j_then ?_
  refine j_seq ?_
  obtain ⟨v1, hb1, h⟩ := of_b1 h
  obtain ⟨v2, hb2, h⟩ := of_b1 h
  obtain ⟨v3, hb3, h⟩ := of_b1 h
  refine j_draw (.box x1 25 [(.slice a0_0_A a0_0_n a0_0_c), (.slice a0_1_A a0_1_n a0_1_c), (.slice a0_2_A a0_2_n a0_2_c)] :: F) 11 follows_any rfl ?_
  refine d_take 0 rfl (q_fieldAddr fi25_0 sz23 rfl rfl rfl) rfl rfl (by kernel_rfl) (by kernel_rfl) (by kernel_rfl) (fun w h => h.tail) ?_
  refine d_take 1 rfl (q_loadb 0 rfl ag23 rfl rfl rfl) rfl rfl (by kernel_rfl) (by kernel_rfl) (by kernel_rfl) (fun w h => h.tail) ?_
  refine d_take 3 rfl (q_fieldAddr fi25_1 sz23 rfl rfl rfl) rfl rfl (by kernel_rfl) (by kernel_rfl) (by kernel_rfl) (fun w h => h.tail) ?_
  refine d_take 4 rfl (q_loadb 0 rfl ag23 rfl rfl rfl) rfl rfl (by kernel_rfl) (by kernel_rfl) (by kernel_rfl) (fun w h => h.tail) ?_
  refine d_take 6 rfl (q_fieldAddr fi25_2 sz23 rfl rfl rfl) rfl rfl (by kernel_rfl) (by kernel_rfl) (by kernel_rfl) (fun w h => h.tail) ?_
  refine d_take 7 rfl (q_loadb 0 rfl ag23 rfl rfl rfl) rfl rfl (by kernel_rfl) (by kernel_rfl) (by kernel_rfl) (fun w h => h.tail) ?_
  refine d_one 2 (by kernel_rfl) ?_
  refine o_do rfl (a_call ok34 rfl rfl rfl rfl (fun w hm => slices_Clone_int.calls K a0_0 a0_0_A a0_0_n a0_0_c hm a0_0_h (Rd.drop 2 a0_0_R) hb1)) rfl rfl (fun x3 w h => (h.drop 2)) (fun x3 => ?_)
  refine d_one 5 (by kernel_rfl) ?_
  refine o_do rfl (a_call ok34 rfl rfl rfl rfl (fun w hm => slices_Clone_int.calls K a0_1 a0_1_A a0_1_n a0_1_c hm a0_1_h (Rd.drop 3 a0_1_R) hb2)) rfl rfl (fun x4 w h => (h.drop 3)) (fun x4 => ?_)
  refine d_one 8 (by kernel_rfl) ?_
  refine o_do rfl (a_call ok34 rfl rfl rfl rfl (fun w hm => slices_Clone_int.calls K a0_2 a0_2_A a0_2_n a0_2_c hm a0_2_h (Rd.drop 4 a0_2_R) hb3)) rfl rfl (fun x5 w h => (h.drop 4)) (fun x5 => ?_)
  refine d_take 9 rfl (q_build (cs := [(.slice x3.A x3.n x3.c), (.slice x4.A x4.n x4.c), (.slice x5.A x5.n x5.c)]) zr25 pl25 rfl rfl rfl rfl) rfl rfl (by kernel_rfl) (by kernel_rfl) (by kernel_rfl) (fun w h => (h.drop 4)) ?_
  refine d_one 10 (by kernel_rfl) ?_
  refine o_do rfl (a_storeb 3 rfl sz25 rfl rfl rfl rfl (Nat.le_of_ble_eq_true rfl) rfl) rfl rfl (fun _ w h => (h.drop 4)) (fun _ => ?_)
  refine j_b3 [(.slice x3.A x3.n x3.c), (.slice x4.A x4.n x4.c), (.slice x5.A x5.n x5.c)] rfl ?_
  refine d_done (by kernel_rfl) ?_
  refine j_then ?_
  refine j_ret ?_
  cases h
  exact j_return rfl (ResOf.cell 3 rfl rfl ag25 sz25 ResOf.nil) rfl (fun w h => ⟨(⟨x3.A, x3.n, x3.c, x3.h⟩, ⟨x4.A, x4.n, x4.c, x4.h⟩, ⟨x5.A, x5.n, x5.c, x5.h⟩), rfl, h.pick 5 [2, 1, 0] rfl⟩)

theorem impl_again.calls (K : Nat) (a0_0 : List Int) (a0_0_A : Option Addr) (a0_0_n a0_0_c : Nat) (a0_1 : List Int) (a0_1_A : Option Addr) (a0_1_n a0_1_c : Nat) (a0_2 : List Int) (a0_2_A : Option Addr) (a0_2_n a0_2_c : Nat) (a0_3 : List Int) (a0_3_A : Option Addr) (a0_3_n a0_3_c : Nat) {w0 w : World} {F : List Res} {r1 : List Int} {r2 : List Int} {r3 : List Int} {r4 : List Int} (hm : Mem w0 (F) w) (a0_0_h : a0_0.length = a0_0_n) (a0_0_R : Rd w0 F a0_0_A (ii a0_0)) (a0_1_h : a0_1.length = a0_1_n) (a0_1_R : Rd w0 F a0_1_A (ii a0_1)) (a0_2_h : a0_2.length = a0_2_n) (a0_2_R : Rd w0 F a0_2_A (ii a0_2)) (a0_3_h : a0_3.length = a0_3_n) (a0_3_R : Rd w0 F a0_3_A (ii a0_3)) (h : impl_again.f K a0_0 a0_1 a0_2 a0_3 = some (r1, r2, r3, r4)) :
    Calls Try.prog 16 (List.toArray [.agg (List.toArray [.slice a0_0_A a0_0_n a0_0_c, .slice a0_1_A a0_1_n a0_1_c, .slice a0_2_A a0_2_n a0_2_c, .slice a0_3_A a0_3_n a0_3_c])]) w fun e w' => ∃ x : (Sl r1.length) × (Sl r2.length) × (Sl r3.length) × (Sl r4.length), e = .returned (.agg (List.toArray [.slice x.1.A x.1.n x.1.c, .slice x.2.1.A x.2.1.n x.2.1.c, .slice x.2.2.1.A x.2.2.1.n x.2.2.1.c, .slice x.2.2.2.A x.2.2.2.n x.2.2.2.c])) ∧ Mem w0 (.row x.1.A x.1.c 3 1 (ii r1) :: .row x.2.1.A x.2.1.c 3 1 (ii r2) :: .row x.2.2.1.A x.2.2.1.c 3 1 (ii r3) :: .row x.2.2.2.A x.2.2.2.c 3 1 (ii r4) :: F) w' := by
  unfold impl_again.f at h
  refine calls_of_J (n := 10) Try.func16 rfl rfl rfl hm ?_
  refine j_seq ?_
  refine j_region ?_
  refine r_do (a_box rfl rfl) rfl rfl (fun x1 => ?_)
  refine r_do (a_alloc zr27 rfl) rfl rfl (fun x2 => ?_)
  refine r_nil ?_
  refine j_then ?_
  refine j_seq ?_
  obtain ⟨v1, v2, v3, hb1, h⟩ := of_b3 h
  obtain ⟨v4, hb2, h⟩ := of_b1 h
  refine j_draw (.box x1 27 [(.slice a0_0_A a0_0_n a0_0_c), (.slice a0_1_A a0_1_n a0_1_c), (.slice a0_2_A a0_2_n a0_2_c), (.slice a0_3_A a0_3_n a0_3_c)] :: F) 8 follows_any rfl ?_
  refine d_take 0 rfl (q_fieldAddr fi27_0 sz25 rfl rfl rfl) rfl rfl (by kernel_rfl) (by kernel_rfl) (by kernel_rfl) (fun w h => h.tail) ?_
  refine d_take 1 rfl (q_loadb_agg 0 rfl ag25 sz25 rfl rfl rfl rfl) rfl rfl (by kernel_rfl) (by kernel_rfl) (by kernel_rfl) (fun w h => h.tail) ?_
  refine d_take 3 rfl (q_fieldAddr fi27_1 sz23 rfl rfl rfl) rfl rfl (by kernel_rfl) (by kernel_rfl) (by kernel_rfl) (fun w h => h.tail) ?_
  refine d_take 4 rfl (q_loadb 0 rfl ag23 rfl rfl rfl) rfl rfl (by kernel_rfl) (by kernel_rfl) (by kernel_rfl) (fun w h => h.tail) ?_
  refine d_one 2 (by kernel_rfl) ?_
  refine o_do rfl (a_call ok33 rfl rfl rfl rfl (fun w hm => impl_copied.calls K a0_0 a0_0_A a0_0_n a0_0_c a0_1 a0_1_A a0_1_n a0_1_c a0_2 a0_2_A a0_2_n a0_2_c hm a0_0_h (Rd.drop 2 a0_0_R) a0_1_h (Rd.drop 2 a0_1_R) a0_2_h (Rd.drop 2 a0_2_R) hb1)) rfl rfl (fun x3 w h => (h.drop 4)) (fun x3 => ?_)
  refine d_one 5 (by kernel_rfl) ?_
  refine o_do rfl (a_call ok34 rfl rfl rfl rfl (fun w hm => slices_Clone_int.calls K a0_3 a0_3_A a0_3_n a0_3_c hm a0_3_h (Rd.drop 5 a0_3_R) hb2)) rfl rfl (fun x4 w h => (h.drop 5)) (fun x4 => ?_)
  refine d_take 6 rfl (q_build (cs := [(.slice x3.1.A x3.1.n x3.1.c), (.slice x3.2.1.A x3.2.1.n x3.2.1.c), (.slice x3.2.2.A x3.2.2.n x3.2.2.c), (.slice x4.A x4.n x4.c)]) zr27 pl27 rfl rfl rfl rfl) rfl rfl (by kernel_rfl) (by kernel_rfl) (by kernel_rfl) (fun w h => (h.drop 5)) ?_
  refine d_one 7 (by kernel_rfl) ?_
  refine o_do rfl (a_storeb 4 rfl sz27 rfl rfl rfl rfl (Nat.le_of_ble_eq_true rfl) rfl) rfl rfl (fun _ w h => (h.drop 5)) (fun _ => ?_)
  refine j_b4 [(.slice x3.1.A x3.1.n x3.1.c), (.slice x3.2.1.A x3.2.1.n x3.2.1.c), (.slice x3.2.2.A x3.2.2.n x3.2.2.c), (.slice x4.A x4.n x4.c)] rfl ?_
  refine d_done (by kernel_rfl) ?_
  refine j_then ?_
  refine j_ret ?_
  cases h
  exact j_return rfl (ResOf.cell 4 rfl rfl ag27 sz27 ResOf.nil) rfl (fun w h => ⟨(⟨x3.1.A, x3.1.n, x3.1.c, x3.1.h⟩, ⟨x3.2.1.A, x3.2.1.n, x3.2.1.c, x3.2.1.h⟩, ⟨x3.2.2.A, x3.2.2.n, x3.2.2.c, x3.2.2.h⟩, ⟨x4.A, x4.n, x4.c, x4.h⟩), rfl, h.pick 6 [1, 2, 3, 0] rfl⟩)

end Go.Proofs.Ytnfaiojmabolmaa.F
