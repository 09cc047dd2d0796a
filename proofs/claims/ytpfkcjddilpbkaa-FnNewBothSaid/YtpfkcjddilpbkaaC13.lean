/- The program computes these pure functions, printed by the generator of wip/gen. -/
import Derived.Test.YtpfkcjddilpbkaaFa
import Derived.Test.YtpfkcjddilpbkaaFi
import Derived.Test.YtpfkcjddilpbkaaFj
import Derived.Test.YtpfkcjddilpbkaaFb
import Derived.Test.YtpfkcjddilpbkaaC0
import Derived.Test.YtpfkcjddilpbkaaC1
import Derived.Test.YtpfkcjddilpbkaaC2
import Derived.Test.YtpfkcjddilpbkaaC3
import Derived.Test.YtpfkcjddilpbkaaC6
import Derived.Test.YtpfkcjddilpbkaaC7
namespace Go.Proofs.Ytpfkcjddilpbkaa.F
open Go Go.RowKit Go.Proofs.Ytpfkcjddilpbkaa.S
set_option linter.unusedVariables false
set_option maxRecDepth 100000
theorem spec_l1Wrong.calls (K : Nat) (a0_g : Nat) (a0_0 : List Int) (a0_0_A : Option Addr) (a0_0_n a0_0_c : Nat) (a0_1 : Int) (a1_0 : List Int) (a1_0_A : Option Addr) (a1_0_n a1_0_c : Nat) (a1_1 : List Int) (a1_1_A : Option Addr) (a1_1_n a1_1_c : Nat) (a1_2 : List Int) (a1_2_A : Option Addr) (a1_2_n a1_2_c : Nat) {w0 w : World} {F : List Res} {r1 : List Int} {r2 : List Int} {r3 : List Int} {r4 : Int} (hm : Mem w0 (.box a0_g 92 [.slice a0_0_A a0_0_n a0_0_c, i6 a0_1] :: F) w) (a0_0_h : a0_0.length = a0_0_n) (a0_0_R : Rd w0 F a0_0_A (ints .u8 a0_0)) (a1_0_h : a1_0.length = a1_0_n) (a1_0_R : Rd w0 F a1_0_A (ii a1_0)) (a1_1_h : a1_1.length = a1_1_n) (a1_1_R : Rd w0 F a1_1_A (ii a1_1)) (a1_2_h : a1_2.length = a1_2_n) (a1_2_R : Rd w0 F a1_2_A (ii a1_2)) (h : spec_l1Wrong.f K a0_0 a0_1 a1_0 a1_1 a1_2 = some (r1, r2, r3, r4)) :
    Calls Try.prog 93 (List.toArray [pt a0_g, .agg (List.toArray [.slice a1_0_A a1_0_n a1_0_c, .slice a1_1_A a1_1_n a1_1_c, .slice a1_2_A a1_2_n a1_2_c])]) w fun e w' => ∃ x : (Sl r1.length) × (Sl r2.length) × (Sl r3.length), e = .returned (.agg (List.toArray [.slice x.1.A x.1.n x.1.c, .slice x.2.1.A x.2.1.n x.2.1.c, .slice x.2.2.A x.2.2.n x.2.2.c])) ∧ Mem w0 (.row x.1.A x.1.c 3 1 (ii r1) :: .row x.2.1.A x.2.1.c 3 1 (ii r2) :: .row x.2.2.A x.2.2.c 3 1 (ii r3) :: .box a0_g 92 [.slice a0_0_A a0_0_n a0_0_c, i6 r4] :: F) w' := by
  unfold spec_l1Wrong.f at h
  refine calls_of_J (n := 45) Try.func93 rfl rfl rfl hm ?_
  refine j_seq ?_
  refine j_region ?_
  refine r_do (a_box rfl rfl) rfl rfl (fun x1 => ?_)
  refine r_do (a_alloc zr34 rfl) rfl rfl (fun x2 => ?_)
  refine r_nil ?_
  refine j_then ?_
  refine j_seq ?_
  refine j_region ?_
  refine r_q (q_loadb_agg 1 rfl ag34 sz34 rfl rfl rfl rfl) rfl rfl ?_
  obtain ⟨v1, v2, v3, hb1, h⟩ := of_b3 h
  refine r_do (a_call ok81 rfl rfl rfl rfl (fun w hm => spec_l1Copy.calls K a1_0 a1_0_A a1_0_n a1_0_c a1_1 a1_1_A a1_1_n a1_1_c a1_2 a1_2_A a1_2_n a1_2_c hm a1_0_h (Rd.drop 3 a1_0_R) a1_1_h (Rd.drop 3 a1_1_R) a1_2_h (Rd.drop 3 a1_2_R) hb1)) rfl rfl (fun x3 => ?_)
  refine r_do (a_alloc zr34 rfl) rfl rfl (fun x4 => ?_)
  refine r_do (a_storeb 0 rfl sz34 rfl rfl rfl rfl (Nat.le_of_ble_eq_true rfl) rfl) rfl rfl (fun _ => ?_)
  refine j_b0 [(.slice x3.1.A x3.1.n x3.1.c), (.slice x3.2.1.A x3.2.1.n x3.2.1.c), (.slice x3.2.2.A x3.2.2.n x3.2.2.c)] rfl ?_
  refine r_nil ?_
  refine j_then ?_
  refine j_seq ?_
  refine j_seq ?_
  refine j_region ?_
  refine r_q (q_move rfl rfl) rfl rfl ?_
  obtain ⟨v4, v5, hb2, h⟩ := of_b2 h
  refine j_rs (.box a0_g 92 [(.slice a0_0_A a0_0_n a0_0_c), (i6 a0_1)] :: .box x4 34 [(.slice x3.1.A x3.1.n x3.1.c), (.slice x3.2.1.A x3.2.1.n x3.2.1.c), (.slice x3.2.2.A x3.2.2.n x3.2.2.c)] :: .row x3.1.A x3.1.c 3 1 (ii v1) :: .row x3.2.1.A x3.2.1.c 3 1 (ii v2) :: .row x3.2.2.A x3.2.2.c 3 1 (ii v3) :: .box x2 34 [(.slice none 0 0), (.slice none 0 0), (.slice none 0 0)] :: .box x1 34 [(.slice a1_0_A a1_0_n a1_0_c), (.slice a1_1_A a1_1_n a1_1_c), (.slice a1_2_A a1_2_n a1_2_c)] :: F) (fun _ h => h.pick 7 [6, 0, 1, 2, 3, 4, 5] rfl) ?_
  refine r_do (a_call ok73 rfl rfl rfl rfl (fun w hm => spec_l13Rd_pick.calls K a0_g a0_0 a0_0_A a0_0_n a0_0_c a0_1 (20:Int) hm a0_0_h (Rd.drop 6 a0_0_R) hb2)) rfl rfl (fun x5 => ?_)
  refine r_nil ?_
  refine j_then ?_
  refine j_block ?_
  refine j_seq ?_
  refine j_region ?_
  refine r_q (q_eql rfl rfl rfl) rfl rfl ?_
  refine r_q (q_assign rfl rfl) rfl rfl ?_
  refine r_nil ?_
  refine j_then ?_
  rcases of_if h with ⟨c1, h⟩ | ⟨c1, h⟩
  · refine j_true rfl (beq_t c1) ?_
    obtain ⟨v6, v7, hb3, h⟩ := of_b2 h
    obtain ⟨v8, v9, hb4, h⟩ := of_b2 h
    obtain ⟨c2, h⟩ := of_guard h
    refine j_draw (.box x4 34 [(.slice x3.1.A x3.1.n x3.1.c), (.slice x3.2.1.A x3.2.1.n x3.2.1.c), (.slice x3.2.2.A x3.2.2.n x3.2.2.c)] :: .row x3.2.1.A x3.2.1.c 3 1 (ii v2) :: .row x3.2.2.A x3.2.2.c 3 1 (ii v3) :: .box x2 34 [(.slice none 0 0), (.slice none 0 0), (.slice none 0 0)] :: .box x1 34 [(.slice a1_0_A a1_0_n a1_0_c), (.slice a1_1_A a1_1_n a1_1_c), (.slice a1_2_A a1_2_n a1_2_c)] :: F) 12 follows_any rfl ?_
    refine d_take 0 rfl (q_fieldAddr fi34_0 sz22 rfl rfl rfl) rfl rfl (by kernel_rfl) (by kernel_rfl) (by kernel_rfl) (fun w h => h.pick 7 [1, 3, 4, 5, 6] rfl) ?_
    refine d_take 1 rfl (q_loadb 0 rfl ag22 rfl rfl rfl) rfl rfl (by kernel_rfl) (by kernel_rfl) (by kernel_rfl) (fun w h => h.pick 7 [1, 3, 4, 5, 6] rfl) ?_
    refine d_take 2 rfl (q_move rfl rfl) rfl rfl (by kernel_rfl) (by kernel_rfl) (by kernel_rfl) (fun w h => h.pick 7 [1, 3, 4, 5, 6] rfl) ?_
    refine d_take 3 rfl (q_fieldAddr fi34_0 sz22 rfl rfl rfl) rfl rfl (by kernel_rfl) (by kernel_rfl) (by kernel_rfl) (fun w h => h.pick 7 [1, 3, 4, 5, 6] rfl) ?_
    refine d_take 4 rfl (q_loadb 0 rfl ag22 rfl rfl rfl) rfl rfl (by kernel_rfl) (by kernel_rfl) (by kernel_rfl) (fun w h => h.pick 7 [1, 3, 4, 5, 6] rfl) ?_
    refine d_take 5 rfl (q_lenX v1 x3.1.h un22 rfl rfl rfl rfl rfl) rfl rfl (by kernel_rfl) (by kernel_rfl) (by kernel_rfl) (fun w h => h.pick 7 [1, 3, 4, 5, 6] rfl) ?_
    refine d_take 7 rfl (q_move rfl rfl) rfl rfl (by kernel_rfl) (by kernel_rfl) (by kernel_rfl) (fun w h => h.pick 7 [1, 3, 4, 5, 6] rfl) ?_
    refine d_join (σ := Unit × (Option Addr) × Unit) 0 #[true, true, true, true, true, true, true, true, true, true, true, true] (fun s => [(4, (pt x2)), (5, (pt x4))]) (fun s => .row s.2.1 3 3 1 (ii ([(-2:Int), (8:Int), (0:Int)] : List Int)) :: .box a0_g 92 [(.slice a0_0_A a0_0_n a0_0_c), (i6 v9)] :: .box x4 34 [(.slice x3.1.A x3.1.n x3.1.c), (.slice x3.2.1.A x3.2.1.n x3.2.1.c), (.slice x3.2.2.A x3.2.2.n x3.2.2.c)] :: .row x3.1.A x3.1.c 3 1 (ii (v1.set v6.toNat v8)) :: .row x3.2.1.A x3.2.1.c 3 1 (ii v2) :: .row x3.2.2.A x3.2.2.c 3 1 (ii v3) :: .box x2 34 [(.slice none 0 0), (.slice none 0 0), (.slice none 0 0)] :: .box x1 34 [(.slice a1_0_A a1_0_n a1_0_c), (.slice a1_1_A a1_1_n a1_1_c), (.slice a1_2_A a1_2_n a1_2_c)] :: F) ?_ (fun hD4095 => ?_)
    · rintro ⟨x6, x7, x8⟩
      show J _ _ [(4, (pt x2)), (5, (pt x4))] _ (.row x7 3 3 1 (ii ([(-2:Int), (8:Int), (0:Int)] : List Int)) :: .box a0_g 92 [(.slice a0_0_A a0_0_n a0_0_c), (i6 v9)] :: .box x4 34 [(.slice x3.1.A x3.1.n x3.1.c), (.slice x3.2.1.A x3.2.1.n x3.2.1.c), (.slice x3.2.2.A x3.2.2.n x3.2.2.c)] :: .row x3.1.A x3.1.c 3 1 (ii (v1.set v6.toNat v8)) :: .row x3.2.1.A x3.2.1.c 3 1 (ii v2) :: .row x3.2.2.A x3.2.2.c 3 1 (ii v3) :: .box x2 34 [(.slice none 0 0), (.slice none 0 0), (.slice none 0 0)] :: .box x1 34 [(.slice a1_0_A a1_0_n a1_0_c), (.slice a1_1_A a1_1_n a1_1_c), (.slice a1_2_A a1_2_n a1_2_c)] :: F)
      refine d_done (by kernel_rfl) ?_
      refine j_in ?_
      refine j_then ?_
      refine j_seq ?_
      refine j_region ?_
      refine r_q (q_loadb_agg 2 rfl ag34 sz34 rfl rfl rfl rfl) rfl rfl ?_
      refine r_do (a_storeb 6 rfl sz34 rfl rfl rfl rfl (Nat.le_of_ble_eq_true rfl) rfl) rfl rfl (fun _ => ?_)
      refine j_b6 [(.slice x3.1.A x3.1.n x3.1.c), (.slice x3.2.1.A x3.2.1.n x3.2.1.c), (.slice x3.2.2.A x3.2.2.n x3.2.2.c)] rfl ?_
      refine r_nil ?_
      refine j_then ?_
      refine j_ret ?_
      cases h
      exact j_return rfl (ResOf.cell 6 rfl rfl ag34 sz34 ResOf.nil) rfl (fun w h => ⟨(⟨x3.1.A, x3.1.n, x3.1.c, (set_len x3.1.h _ _)⟩, ⟨x3.2.1.A, x3.2.1.n, x3.2.1.c, x3.2.1.h⟩, ⟨x3.2.2.A, x3.2.2.n, x3.2.2.c, x3.2.2.h⟩), rfl, h.pick 8 [3, 4, 5, 1] rfl⟩)
    refine d_join (σ := Unit × (Option Addr) × Unit) 1 #[true, true, true, true, true, true, true, true, true, true, true, false] (fun s => [(4, (pt x2)), (5, (pt x4)), (21, (i6 v8)), (22, (.pointer (x3.1.A.map (·.add (v6.toNat * 1)))))]) (fun s => .row s.2.1 3 3 1 (ii ([(-2:Int), (8:Int), (0:Int)] : List Int)) :: .box a0_g 92 [(.slice a0_0_A a0_0_n a0_0_c), (i6 v9)] :: .box x4 34 [(.slice x3.1.A x3.1.n x3.1.c), (.slice x3.2.1.A x3.2.1.n x3.2.1.c), (.slice x3.2.2.A x3.2.2.n x3.2.2.c)] :: .row x3.1.A x3.1.c 3 1 (ii v1) :: .row x3.2.1.A x3.2.1.c 3 1 (ii v2) :: .row x3.2.2.A x3.2.2.c 3 1 (ii v3) :: .box x2 34 [(.slice none 0 0), (.slice none 0 0), (.slice none 0 0)] :: .box x1 34 [(.slice a1_0_A a1_0_n a1_0_c), (.slice a1_1_A a1_1_n a1_1_c), (.slice a1_2_A a1_2_n a1_2_c)] :: F) ?_ (fun hD2047 => ?_)
    · rintro ⟨x6, x7, x8⟩
      show J _ _ [(4, (pt x2)), (5, (pt x4)), (21, (i6 v8)), (22, (.pointer (x3.1.A.map (·.add (v6.toNat * 1)))))] _ (.row x7 3 3 1 (ii ([(-2:Int), (8:Int), (0:Int)] : List Int)) :: .box a0_g 92 [(.slice a0_0_A a0_0_n a0_0_c), (i6 v9)] :: .box x4 34 [(.slice x3.1.A x3.1.n x3.1.c), (.slice x3.2.1.A x3.2.1.n x3.2.1.c), (.slice x3.2.2.A x3.2.2.n x3.2.2.c)] :: .row x3.1.A x3.1.c 3 1 (ii v1) :: .row x3.2.1.A x3.2.1.c 3 1 (ii v2) :: .row x3.2.2.A x3.2.2.c 3 1 (ii v3) :: .box x2 34 [(.slice none 0 0), (.slice none 0 0), (.slice none 0 0)] :: .box x1 34 [(.slice a1_0_A a1_0_n a1_0_c), (.slice a1_1_A a1_1_n a1_1_c), (.slice a1_2_A a1_2_n a1_2_c)] :: F)
      refine d_one 11 (by kernel_rfl) ?_
      · refine o_do rfl (a_stI 3 rfl c2 sz3 rfl rfl rfl) rfl rfl (fun _ w h => h.pick 8 [2, 4, 5, 6, 7] rfl) (fun _ => ?_)
        refine j_s3 ?_
        refine j_rs (.row x7 3 3 1 (ii ([(-2:Int), (8:Int), (0:Int)] : List Int)) :: .box a0_g 92 [(.slice a0_0_A a0_0_n a0_0_c), (i6 v9)] :: .box x4 34 [(.slice x3.1.A x3.1.n x3.1.c), (.slice x3.2.1.A x3.2.1.n x3.2.1.c), (.slice x3.2.2.A x3.2.2.n x3.2.2.c)] :: .row x3.1.A x3.1.c 3 1 (ii (v1.set v6.toNat v8)) :: .row x3.2.1.A x3.2.1.c 3 1 (ii v2) :: .row x3.2.2.A x3.2.2.c 3 1 (ii v3) :: .box x2 34 [(.slice none 0 0), (.slice none 0 0), (.slice none 0 0)] :: .box x1 34 [(.slice a1_0_A a1_0_n a1_0_c), (.slice a1_1_A a1_1_n a1_1_c), (.slice a1_2_A a1_2_n a1_2_c)] :: F) (fun _ h => h) ?_
        refine j_env [(4, (pt x2)), (5, (pt x4))] ⟨rfl, rfl, trivial⟩ ?_
        exact hD4095 (x6, x7, x8)
    refine d_join (σ := Unit × (Option Addr) × Unit) 2 #[true, true, true, true, true, true, true, true, true, true, false, false] (fun s => [(4, (pt x2)), (5, (pt x4)), (13, (.slice x3.1.A x3.1.n x3.1.c)), (18, (i6 v6)), (21, (i6 v8))]) (fun s => .row s.2.1 3 3 1 (ii ([(-2:Int), (8:Int), (0:Int)] : List Int)) :: .box a0_g 92 [(.slice a0_0_A a0_0_n a0_0_c), (i6 v9)] :: .box x4 34 [(.slice x3.1.A x3.1.n x3.1.c), (.slice x3.2.1.A x3.2.1.n x3.2.1.c), (.slice x3.2.2.A x3.2.2.n x3.2.2.c)] :: .row x3.1.A x3.1.c 3 1 (ii v1) :: .row x3.2.1.A x3.2.1.c 3 1 (ii v2) :: .row x3.2.2.A x3.2.2.c 3 1 (ii v3) :: .box x2 34 [(.slice none 0 0), (.slice none 0 0), (.slice none 0 0)] :: .box x1 34 [(.slice a1_0_A a1_0_n a1_0_c), (.slice a1_1_A a1_1_n a1_1_c), (.slice a1_2_A a1_2_n a1_2_c)] :: F) ?_ (fun hD1023 => ?_)
    · rintro ⟨x6, x7, x8⟩
      show J _ _ [(4, (pt x2)), (5, (pt x4)), (13, (.slice x3.1.A x3.1.n x3.1.c)), (18, (i6 v6)), (21, (i6 v8))] _ (.row x7 3 3 1 (ii ([(-2:Int), (8:Int), (0:Int)] : List Int)) :: .box a0_g 92 [(.slice a0_0_A a0_0_n a0_0_c), (i6 v9)] :: .box x4 34 [(.slice x3.1.A x3.1.n x3.1.c), (.slice x3.2.1.A x3.2.1.n x3.2.1.c), (.slice x3.2.2.A x3.2.2.n x3.2.2.c)] :: .row x3.1.A x3.1.c 3 1 (ii v1) :: .row x3.2.1.A x3.2.1.c 3 1 (ii v2) :: .row x3.2.2.A x3.2.2.c 3 1 (ii v3) :: .box x2 34 [(.slice none 0 0), (.slice none 0 0), (.slice none 0 0)] :: .box x1 34 [(.slice a1_0_A a1_0_n a1_0_c), (.slice a1_1_A a1_1_n a1_1_c), (.slice a1_2_A a1_2_n a1_2_c)] :: F)
      refine d_one 10 (by kernel_rfl) ?_
      · refine o_do rfl ((q_ix (Rd.row 3 rfl) (ints_len1 _ v1) (by decide) x3.1.h c2 un22 sz3 rfl rfl rfl)).acts rfl rfl (fun _ w h => h.pick 8 [2, 4, 5, 6, 7] rfl) (fun _ => ?_)
        refine j_rs (.row x7 3 3 1 (ii ([(-2:Int), (8:Int), (0:Int)] : List Int)) :: .box a0_g 92 [(.slice a0_0_A a0_0_n a0_0_c), (i6 v9)] :: .box x4 34 [(.slice x3.1.A x3.1.n x3.1.c), (.slice x3.2.1.A x3.2.1.n x3.2.1.c), (.slice x3.2.2.A x3.2.2.n x3.2.2.c)] :: .row x3.1.A x3.1.c 3 1 (ii v1) :: .row x3.2.1.A x3.2.1.c 3 1 (ii v2) :: .row x3.2.2.A x3.2.2.c 3 1 (ii v3) :: .box x2 34 [(.slice none 0 0), (.slice none 0 0), (.slice none 0 0)] :: .box x1 34 [(.slice a1_0_A a1_0_n a1_0_c), (.slice a1_1_A a1_1_n a1_1_c), (.slice a1_2_A a1_2_n a1_2_c)] :: F) (fun _ h => h) ?_
        refine j_env [(4, (pt x2)), (5, (pt x4)), (21, (i6 v8)), (22, (.pointer (x3.1.A.map (·.add (v6.toNat * 1)))))] ⟨rfl, rfl, rfl, rfl, trivial⟩ ?_
        exact hD2047 (x6, x7, x8)
    refine d_join (σ := Unit × (Option Addr)) 3 #[true, true, true, true, true, true, true, true, true, false, false, false] (fun s => [(4, (pt x2)), (5, (pt x4)), (13, (.slice x3.1.A x3.1.n x3.1.c)), (18, (i6 v6)), (19, (pt a0_g)), (20, (.slice s.2 3 3))]) (fun s => .row s.2 3 3 1 (ii ([(-2:Int), (8:Int), (0:Int)] : List Int)) :: .box a0_g 92 [(.slice a0_0_A a0_0_n a0_0_c), (i6 v7)] :: .box x4 34 [(.slice x3.1.A x3.1.n x3.1.c), (.slice x3.2.1.A x3.2.1.n x3.2.1.c), (.slice x3.2.2.A x3.2.2.n x3.2.2.c)] :: .row x3.1.A x3.1.c 3 1 (ii v1) :: .row x3.2.1.A x3.2.1.c 3 1 (ii v2) :: .row x3.2.2.A x3.2.2.c 3 1 (ii v3) :: .box x2 34 [(.slice none 0 0), (.slice none 0 0), (.slice none 0 0)] :: .box x1 34 [(.slice a1_0_A a1_0_n a1_0_c), (.slice a1_1_A a1_1_n a1_1_c), (.slice a1_2_A a1_2_n a1_2_c)] :: F) ?_ (fun hD511 => ?_)
    · rintro ⟨x6, x7⟩
      show J _ _ [(4, (pt x2)), (5, (pt x4)), (13, (.slice x3.1.A x3.1.n x3.1.c)), (18, (i6 v6)), (19, (pt a0_g)), (20, (.slice x7 3 3))] _ (.row x7 3 3 1 (ii ([(-2:Int), (8:Int), (0:Int)] : List Int)) :: .box a0_g 92 [(.slice a0_0_A a0_0_n a0_0_c), (i6 v7)] :: .box x4 34 [(.slice x3.1.A x3.1.n x3.1.c), (.slice x3.2.1.A x3.2.1.n x3.2.1.c), (.slice x3.2.2.A x3.2.2.n x3.2.2.c)] :: .row x3.1.A x3.1.c 3 1 (ii v1) :: .row x3.2.1.A x3.2.1.c 3 1 (ii v2) :: .row x3.2.2.A x3.2.2.c 3 1 (ii v3) :: .box x2 34 [(.slice none 0 0), (.slice none 0 0), (.slice none 0 0)] :: .box x1 34 [(.slice a1_0_A a1_0_n a1_0_c), (.slice a1_1_A a1_1_n a1_1_c), (.slice a1_2_A a1_2_n a1_2_c)] :: F)
      refine d_one 9 (by kernel_rfl) ?_
      · refine j_rs (.box a0_g 92 [(.slice a0_0_A a0_0_n a0_0_c), (i6 v7)] :: .row x7 3 3 1 (ii ([(-2:Int), (8:Int), (0:Int)] : List Int)) :: .box x4 34 [(.slice x3.1.A x3.1.n x3.1.c), (.slice x3.2.1.A x3.2.1.n x3.2.1.c), (.slice x3.2.2.A x3.2.2.n x3.2.2.c)] :: .row x3.1.A x3.1.c 3 1 (ii v1) :: .row x3.2.1.A x3.2.1.c 3 1 (ii v2) :: .row x3.2.2.A x3.2.2.c 3 1 (ii v3) :: .box x2 34 [(.slice none 0 0), (.slice none 0 0), (.slice none 0 0)] :: .box x1 34 [(.slice a1_0_A a1_0_n a1_0_c), (.slice a1_1_A a1_1_n a1_1_c), (.slice a1_2_A a1_2_n a1_2_c)] :: F) (fun _ h => h.pick 8 [1, 0, 2, 3, 4, 5, 6, 7] rfl) ?_
        refine o_do rfl (a_call ok70 rfl rfl rfl rfl (fun w hm => spec_l13Rd_num.calls K a0_g a0_0 a0_0_A a0_0_n a0_0_c v7 ([(-2:Int), (8:Int), (0:Int)] : List Int) x7 3 3 hm a0_0_h (Rd.drop 7 a0_0_R) rfl (Rd.row 0 rfl) hb4)) rfl rfl (fun x8 w h => h.pick 8 [2, 4, 5, 6, 7] rfl) (fun x8 => ?_)
        refine j_rs (.row x7 3 3 1 (ii ([(-2:Int), (8:Int), (0:Int)] : List Int)) :: .box a0_g 92 [(.slice a0_0_A a0_0_n a0_0_c), (i6 v9)] :: .box x4 34 [(.slice x3.1.A x3.1.n x3.1.c), (.slice x3.2.1.A x3.2.1.n x3.2.1.c), (.slice x3.2.2.A x3.2.2.n x3.2.2.c)] :: .row x3.1.A x3.1.c 3 1 (ii v1) :: .row x3.2.1.A x3.2.1.c 3 1 (ii v2) :: .row x3.2.2.A x3.2.2.c 3 1 (ii v3) :: .box x2 34 [(.slice none 0 0), (.slice none 0 0), (.slice none 0 0)] :: .box x1 34 [(.slice a1_0_A a1_0_n a1_0_c), (.slice a1_1_A a1_1_n a1_1_c), (.slice a1_2_A a1_2_n a1_2_c)] :: F) (fun _ h => h.pick 8 [1, 0, 2, 3, 4, 5, 6, 7] rfl) ?_
        refine j_env [(4, (pt x2)), (5, (pt x4)), (13, (.slice x3.1.A x3.1.n x3.1.c)), (18, (i6 v6)), (21, (i6 v8))] ⟨rfl, rfl, rfl, rfl, rfl, trivial⟩ ?_
        exact hD1023 (x6, x7, x8)
    refine d_join (σ := Unit) 4 #[true, true, true, true, true, true, true, true, false, false, false, false] (fun s => [(4, (pt x2)), (5, (pt x4)), (13, (.slice x3.1.A x3.1.n x3.1.c)), (18, (i6 v6)), (19, (pt a0_g))]) (fun s => .box a0_g 92 [(.slice a0_0_A a0_0_n a0_0_c), (i6 v7)] :: .box x4 34 [(.slice x3.1.A x3.1.n x3.1.c), (.slice x3.2.1.A x3.2.1.n x3.2.1.c), (.slice x3.2.2.A x3.2.2.n x3.2.2.c)] :: .row x3.1.A x3.1.c 3 1 (ii v1) :: .row x3.2.1.A x3.2.1.c 3 1 (ii v2) :: .row x3.2.2.A x3.2.2.c 3 1 (ii v3) :: .box x2 34 [(.slice none 0 0), (.slice none 0 0), (.slice none 0 0)] :: .box x1 34 [(.slice a1_0_A a1_0_n a1_0_c), (.slice a1_1_A a1_1_n a1_1_c), (.slice a1_2_A a1_2_n a1_2_c)] :: F) ?_ (fun hD255 => ?_)
    · rintro x6
      show J _ _ [(4, (pt x2)), (5, (pt x4)), (13, (.slice x3.1.A x3.1.n x3.1.c)), (18, (i6 v6)), (19, (pt a0_g))] _ (.box a0_g 92 [(.slice a0_0_A a0_0_n a0_0_c), (i6 v7)] :: .box x4 34 [(.slice x3.1.A x3.1.n x3.1.c), (.slice x3.2.1.A x3.2.1.n x3.2.1.c), (.slice x3.2.2.A x3.2.2.n x3.2.2.c)] :: .row x3.1.A x3.1.c 3 1 (ii v1) :: .row x3.2.1.A x3.2.1.c 3 1 (ii v2) :: .row x3.2.2.A x3.2.2.c 3 1 (ii v3) :: .box x2 34 [(.slice none 0 0), (.slice none 0 0), (.slice none 0 0)] :: .box x1 34 [(.slice a1_0_A a1_0_n a1_0_c), (.slice a1_1_A a1_1_n a1_1_c), (.slice a1_2_A a1_2_n a1_2_c)] :: F)
      refine d_one 8 (by kernel_rfl) ?_
      · refine o_do rfl (a_litX (vs := [(i6 (-2:Int)), (i6 (8:Int)), (i6 (0:Int))]) (ii ([(-2:Int), (8:Int), (0:Int)] : List Int)) un22 sz3 zr3 rfl rfl rfl rfl rfl rfl rfl rfl rfl) rfl rfl (fun x7 w h => h.pick 8 [2, 4, 5, 6, 7] rfl) (fun x7 => ?_)
        refine j_rs (.row x7 3 3 1 (ii ([(-2:Int), (8:Int), (0:Int)] : List Int)) :: .box a0_g 92 [(.slice a0_0_A a0_0_n a0_0_c), (i6 v7)] :: .box x4 34 [(.slice x3.1.A x3.1.n x3.1.c), (.slice x3.2.1.A x3.2.1.n x3.2.1.c), (.slice x3.2.2.A x3.2.2.n x3.2.2.c)] :: .row x3.1.A x3.1.c 3 1 (ii v1) :: .row x3.2.1.A x3.2.1.c 3 1 (ii v2) :: .row x3.2.2.A x3.2.2.c 3 1 (ii v3) :: .box x2 34 [(.slice none 0 0), (.slice none 0 0), (.slice none 0 0)] :: .box x1 34 [(.slice a1_0_A a1_0_n a1_0_c), (.slice a1_1_A a1_1_n a1_1_c), (.slice a1_2_A a1_2_n a1_2_c)] :: F) (fun _ h => h) ?_
        refine j_env [(4, (pt x2)), (5, (pt x4)), (13, (.slice x3.1.A x3.1.n x3.1.c)), (18, (i6 v6)), (19, (pt a0_g)), (20, (.slice x7 3 3))] ⟨rfl, rfl, rfl, rfl, rfl, rfl, trivial⟩ ?_
        exact hD511 (x6, x7)
    refine d_join (σ := (Option Addr)) 4 #[true, true, true, true, true, true, false, true, true, false, false, false] (fun s => [(4, (pt x2)), (5, (pt x4)), (13, (.slice x3.1.A x3.1.n x3.1.c)), (14, (pt a0_g)), (17, (i6 (v1.length : Int))), (19, (pt a0_g)), (20, (.slice s 3 3))]) (fun s => .row s 3 3 1 (ii ([(-2:Int), (8:Int), (0:Int)] : List Int)) :: .box a0_g 92 [(.slice a0_0_A a0_0_n a0_0_c), (i6 v5)] :: .box x4 34 [(.slice x3.1.A x3.1.n x3.1.c), (.slice x3.2.1.A x3.2.1.n x3.2.1.c), (.slice x3.2.2.A x3.2.2.n x3.2.2.c)] :: .row x3.1.A x3.1.c 3 1 (ii v1) :: .row x3.2.1.A x3.2.1.c 3 1 (ii v2) :: .row x3.2.2.A x3.2.2.c 3 1 (ii v3) :: .box x2 34 [(.slice none 0 0), (.slice none 0 0), (.slice none 0 0)] :: .box x1 34 [(.slice a1_0_A a1_0_n a1_0_c), (.slice a1_1_A a1_1_n a1_1_c), (.slice a1_2_A a1_2_n a1_2_c)] :: F) ?_ (fun hD447 => ?_)
    · rintro x7
      show J _ _ [(4, (pt x2)), (5, (pt x4)), (13, (.slice x3.1.A x3.1.n x3.1.c)), (14, (pt a0_g)), (17, (i6 (v1.length : Int))), (19, (pt a0_g)), (20, (.slice x7 3 3))] _ (.row x7 3 3 1 (ii ([(-2:Int), (8:Int), (0:Int)] : List Int)) :: .box a0_g 92 [(.slice a0_0_A a0_0_n a0_0_c), (i6 v5)] :: .box x4 34 [(.slice x3.1.A x3.1.n x3.1.c), (.slice x3.2.1.A x3.2.1.n x3.2.1.c), (.slice x3.2.2.A x3.2.2.n x3.2.2.c)] :: .row x3.1.A x3.1.c 3 1 (ii v1) :: .row x3.2.1.A x3.2.1.c 3 1 (ii v2) :: .row x3.2.2.A x3.2.2.c 3 1 (ii v3) :: .box x2 34 [(.slice none 0 0), (.slice none 0 0), (.slice none 0 0)] :: .box x1 34 [(.slice a1_0_A a1_0_n a1_0_c), (.slice a1_1_A a1_1_n a1_1_c), (.slice a1_2_A a1_2_n a1_2_c)] :: F)
      refine d_one 6 (by kernel_rfl) ?_
      · refine j_rs (.box a0_g 92 [(.slice a0_0_A a0_0_n a0_0_c), (i6 v5)] :: .row x7 3 3 1 (ii ([(-2:Int), (8:Int), (0:Int)] : List Int)) :: .box x4 34 [(.slice x3.1.A x3.1.n x3.1.c), (.slice x3.2.1.A x3.2.1.n x3.2.1.c), (.slice x3.2.2.A x3.2.2.n x3.2.2.c)] :: .row x3.1.A x3.1.c 3 1 (ii v1) :: .row x3.2.1.A x3.2.1.c 3 1 (ii v2) :: .row x3.2.2.A x3.2.2.c 3 1 (ii v3) :: .box x2 34 [(.slice none 0 0), (.slice none 0 0), (.slice none 0 0)] :: .box x1 34 [(.slice a1_0_A a1_0_n a1_0_c), (.slice a1_1_A a1_1_n a1_1_c), (.slice a1_2_A a1_2_n a1_2_c)] :: F) (fun _ h => h.pick 8 [1, 0, 2, 3, 4, 5, 6, 7] rfl) ?_
        refine o_do rfl (a_call ok73 rfl rfl rfl rfl (fun w hm => spec_l13Rd_pick.calls K a0_g a0_0 a0_0_A a0_0_n a0_0_c v5 (v1.length : Int) hm a0_0_h (Rd.drop 7 a0_0_R) hb3)) rfl rfl (fun x6 w h => h.pick 8 [2, 4, 5, 6, 7] rfl) (fun x6 => ?_)
        refine j_rs (.row x7 3 3 1 (ii ([(-2:Int), (8:Int), (0:Int)] : List Int)) :: .box a0_g 92 [(.slice a0_0_A a0_0_n a0_0_c), (i6 v7)] :: .box x4 34 [(.slice x3.1.A x3.1.n x3.1.c), (.slice x3.2.1.A x3.2.1.n x3.2.1.c), (.slice x3.2.2.A x3.2.2.n x3.2.2.c)] :: .row x3.1.A x3.1.c 3 1 (ii v1) :: .row x3.2.1.A x3.2.1.c 3 1 (ii v2) :: .row x3.2.2.A x3.2.2.c 3 1 (ii v3) :: .box x2 34 [(.slice none 0 0), (.slice none 0 0), (.slice none 0 0)] :: .box x1 34 [(.slice a1_0_A a1_0_n a1_0_c), (.slice a1_1_A a1_1_n a1_1_c), (.slice a1_2_A a1_2_n a1_2_c)] :: F) (fun _ h => h.pick 8 [1, 0, 2, 3, 4, 5, 6, 7] rfl) ?_
        refine j_env [(4, (pt x2)), (5, (pt x4)), (13, (.slice x3.1.A x3.1.n x3.1.c)), (18, (i6 v6)), (19, (pt a0_g)), (20, (.slice x7 3 3))] ⟨rfl, rfl, rfl, rfl, rfl, rfl, trivial⟩ ?_
        exact hD511 (x6, x7)
    refine d_two 6 8 (by kernel_rfl) ?_ ?_
    · refine o_do rfl (a_call ok73 rfl rfl rfl rfl (fun w hm => spec_l13Rd_pick.calls K a0_g a0_0 a0_0_A a0_0_n a0_0_c v5 (v1.length : Int) hm a0_0_h (Rd.drop 6 a0_0_R) hb3)) rfl rfl (fun x6 w h => h.pick 7 [1, 3, 4, 5, 6] rfl) (fun x6 => ?_)
      refine j_rs (.box a0_g 92 [(.slice a0_0_A a0_0_n a0_0_c), (i6 v7)] :: .box x4 34 [(.slice x3.1.A x3.1.n x3.1.c), (.slice x3.2.1.A x3.2.1.n x3.2.1.c), (.slice x3.2.2.A x3.2.2.n x3.2.2.c)] :: .row x3.1.A x3.1.c 3 1 (ii v1) :: .row x3.2.1.A x3.2.1.c 3 1 (ii v2) :: .row x3.2.2.A x3.2.2.c 3 1 (ii v3) :: .box x2 34 [(.slice none 0 0), (.slice none 0 0), (.slice none 0 0)] :: .box x1 34 [(.slice a1_0_A a1_0_n a1_0_c), (.slice a1_1_A a1_1_n a1_1_c), (.slice a1_2_A a1_2_n a1_2_c)] :: F) (fun _ h => h) ?_
      refine j_env [(4, (pt x2)), (5, (pt x4)), (13, (.slice x3.1.A x3.1.n x3.1.c)), (18, (i6 v6)), (19, (pt a0_g))] ⟨rfl, rfl, rfl, rfl, rfl, trivial⟩ ?_
      exact hD255 x6
    · refine o_do rfl (a_litX (vs := [(i6 (-2:Int)), (i6 (8:Int)), (i6 (0:Int))]) (ii ([(-2:Int), (8:Int), (0:Int)] : List Int)) un22 sz3 zr3 rfl rfl rfl rfl rfl rfl rfl rfl rfl) rfl rfl (fun x7 w h => h.pick 8 [2, 4, 5, 6, 7] rfl) (fun x7 => ?_)
      refine j_rs (.row x7 3 3 1 (ii ([(-2:Int), (8:Int), (0:Int)] : List Int)) :: .box a0_g 92 [(.slice a0_0_A a0_0_n a0_0_c), (i6 v5)] :: .box x4 34 [(.slice x3.1.A x3.1.n x3.1.c), (.slice x3.2.1.A x3.2.1.n x3.2.1.c), (.slice x3.2.2.A x3.2.2.n x3.2.2.c)] :: .row x3.1.A x3.1.c 3 1 (ii v1) :: .row x3.2.1.A x3.2.1.c 3 1 (ii v2) :: .row x3.2.2.A x3.2.2.c 3 1 (ii v3) :: .box x2 34 [(.slice none 0 0), (.slice none 0 0), (.slice none 0 0)] :: .box x1 34 [(.slice a1_0_A a1_0_n a1_0_c), (.slice a1_1_A a1_1_n a1_1_c), (.slice a1_2_A a1_2_n a1_2_c)] :: F) (fun _ h => h) ?_
      refine j_env [(4, (pt x2)), (5, (pt x4)), (13, (.slice x3.1.A x3.1.n x3.1.c)), (14, (pt a0_g)), (17, (i6 (v1.length : Int))), (19, (pt a0_g)), (20, (.slice x7 3 3))] ⟨rfl, rfl, rfl, rfl, rfl, rfl, rfl, trivial⟩ ?_
      exact hD447 x7
  · refine j_false rfl (beq_f c1) ?_
    refine j_seq ?_
    refine j_region ?_
    refine r_q (q_eql rfl rfl rfl) rfl rfl ?_
    refine r_q (q_assign rfl rfl) rfl rfl ?_
    refine r_nil ?_
    refine j_then ?_
    rcases of_if h with ⟨c3, h⟩ | ⟨c3, h⟩
    · refine j_true rfl (beq_t c3) ?_
      refine j_region ?_
      refine r_q (q_fieldAddr fi34_1 sz22 rfl rfl rfl) rfl rfl ?_
      refine r_q (q_loadb 1 rfl ag22 rfl rfl rfl) rfl rfl ?_
      refine r_do (a_litX (vs := [(i6 (-1:Int))]) (ii ([(-1:Int)] : List Int)) un22 sz3 zr3 rfl rfl rfl rfl rfl rfl rfl rfl rfl) rfl rfl (fun x9 => ?_)
      obtain ⟨c4, h⟩ := of_guard h
      refine r_do (a_appI (xs := v2) (ys := ([(-1:Int)] : List Int)) 4 un22 un22 sz3 by3 zr3 rfl rfl rfl rfl rfl rfl rfl rfl rfl x3.2.1.h rfl (Rd.row 0 rfl) c4) rfl rfl (fun x10 => ?_)
      refine j_s4 ?_
      refine r_q (q_fieldAddr fi34_1 sz22 rfl rfl rfl) rfl rfl ?_
      refine r_do (a_storeb 2 rfl sz22 rfl rfl rfl rfl (Nat.le_of_ble_eq_true rfl) rfl) rfl rfl (fun _ => ?_)
      refine j_b2 [(.slice x3.1.A x3.1.n x3.1.c), (.slice x10.1 (x3.2.1.n + 1) x10.2), (.slice x3.2.2.A x3.2.2.n x3.2.2.c)] rfl ?_
      refine r_nil ?_
      refine j_in ?_
      refine j_then ?_
      refine j_seq ?_
      refine j_region ?_
      refine r_q (q_loadb_agg 2 rfl ag34 sz34 rfl rfl rfl rfl) rfl rfl ?_
      refine r_do (a_storeb 6 rfl sz34 rfl rfl rfl rfl (Nat.le_of_ble_eq_true rfl) rfl) rfl rfl (fun _ => ?_)
      refine j_b6 [(.slice x3.1.A x3.1.n x3.1.c), (.slice x10.1 (x3.2.1.n + 1) x10.2), (.slice x3.2.2.A x3.2.2.n x3.2.2.c)] rfl ?_
      refine r_nil ?_
      refine j_then ?_
      refine j_ret ?_
      cases h
      exact j_return rfl (ResOf.cell 6 rfl rfl ag34 sz34 ResOf.nil) rfl (fun w h => ⟨(⟨x3.1.A, x3.1.n, x3.1.c, x3.1.h⟩, ⟨x10.1, (x3.2.1.n + 1), x10.2, (app_len x3.2.1.h rfl)⟩, ⟨x3.2.2.A, x3.2.2.n, x3.2.2.c, x3.2.2.h⟩), rfl, h.pick 8 [3, 4, 5, 1] rfl⟩)
    · refine j_false rfl (beq_f c3) ?_
      refine j_seq ?_
      refine j_region ?_
      refine r_q (q_eql rfl rfl rfl) rfl rfl ?_
      refine r_q (q_assign rfl rfl) rfl rfl ?_
      refine r_nil ?_
      refine j_then ?_
      rcases of_if h with ⟨c5, h⟩ | ⟨c5, h⟩
      · refine j_true rfl (beq_t c5) ?_
        obtain ⟨v10, v11, hb5, h⟩ := of_b2 h
        obtain ⟨c6, h⟩ := of_guard h
        refine j_draw (.row x3.1.A x3.1.c 3 1 (ii v1) :: .row x3.2.1.A x3.2.1.c 3 1 (ii v2) :: .box x2 34 [(.slice none 0 0), (.slice none 0 0), (.slice none 0 0)] :: .box x1 34 [(.slice a1_0_A a1_0_n a1_0_c), (.slice a1_1_A a1_1_n a1_1_c), (.slice a1_2_A a1_2_n a1_2_c)] :: F) 9 follows_any rfl ?_
        refine d_take 0 rfl (q_fieldAddr fi34_2 sz22 rfl rfl rfl) rfl rfl (by kernel_rfl) (by kernel_rfl) (by kernel_rfl) (fun w h => h.pick 7 [2, 3, 5, 6] rfl) ?_
        refine d_take 2 rfl (q_move rfl rfl) rfl rfl (by kernel_rfl) (by kernel_rfl) (by kernel_rfl) (fun w h => h.pick 7 [2, 3, 5, 6] rfl) ?_
        refine d_join (σ := (Option Addr) × Unit × (Option Addr) × (Option Addr × Nat)) 0 #[true, true, true, true, true, true, true, true, true] (fun s => [(4, (pt x2)), (5, (pt x4))]) (fun s => .row s.1 3 3 1 (ii ([(0:Int), (-1:Int), (9:Int)] : List Int)) :: .row s.2.2.1 1 3 1 (ii ([v10] : List Int)) :: .row s.2.2.2.1 s.2.2.2.2 3 1 (ii (v3 ++ ([v10] : List Int))) :: .box a0_g 92 [(.slice a0_0_A a0_0_n a0_0_c), (i6 v11)] :: .box x4 34 [(.slice x3.1.A x3.1.n x3.1.c), (.slice x3.2.1.A x3.2.1.n x3.2.1.c), (.slice s.2.2.2.1 (x3.2.2.n + 1) s.2.2.2.2)] :: .row x3.1.A x3.1.c 3 1 (ii v1) :: .row x3.2.1.A x3.2.1.c 3 1 (ii v2) :: .box x2 34 [(.slice none 0 0), (.slice none 0 0), (.slice none 0 0)] :: .box x1 34 [(.slice a1_0_A a1_0_n a1_0_c), (.slice a1_1_A a1_1_n a1_1_c), (.slice a1_2_A a1_2_n a1_2_c)] :: F) ?_ (fun hD511 => ?_)
        · rintro ⟨x11, x12, x13, x14⟩
          show J _ _ [(4, (pt x2)), (5, (pt x4))] _ (.row x11 3 3 1 (ii ([(0:Int), (-1:Int), (9:Int)] : List Int)) :: .row x13 1 3 1 (ii ([v10] : List Int)) :: .row x14.1 x14.2 3 1 (ii (v3 ++ ([v10] : List Int))) :: .box a0_g 92 [(.slice a0_0_A a0_0_n a0_0_c), (i6 v11)] :: .box x4 34 [(.slice x3.1.A x3.1.n x3.1.c), (.slice x3.2.1.A x3.2.1.n x3.2.1.c), (.slice x14.1 (x3.2.2.n + 1) x14.2)] :: .row x3.1.A x3.1.c 3 1 (ii v1) :: .row x3.2.1.A x3.2.1.c 3 1 (ii v2) :: .box x2 34 [(.slice none 0 0), (.slice none 0 0), (.slice none 0 0)] :: .box x1 34 [(.slice a1_0_A a1_0_n a1_0_c), (.slice a1_1_A a1_1_n a1_1_c), (.slice a1_2_A a1_2_n a1_2_c)] :: F)
          refine d_done (by kernel_rfl) ?_
          refine j_in ?_
          refine j_then ?_
          refine j_seq ?_
          refine j_region ?_
          refine r_q (q_loadb_agg 4 rfl ag34 sz34 rfl rfl rfl rfl) rfl rfl ?_
          refine r_do (a_storeb 7 rfl sz34 rfl rfl rfl rfl (Nat.le_of_ble_eq_true rfl) rfl) rfl rfl (fun _ => ?_)
          refine j_b7 [(.slice x3.1.A x3.1.n x3.1.c), (.slice x3.2.1.A x3.2.1.n x3.2.1.c), (.slice x14.1 (x3.2.2.n + 1) x14.2)] rfl ?_
          refine r_nil ?_
          refine j_then ?_
          refine j_ret ?_
          cases h
          exact j_return rfl (ResOf.cell 7 rfl rfl ag34 sz34 ResOf.nil) rfl (fun w h => ⟨(⟨x3.1.A, x3.1.n, x3.1.c, x3.1.h⟩, ⟨x3.2.1.A, x3.2.1.n, x3.2.1.c, x3.2.1.h⟩, ⟨x14.1, (x3.2.2.n + 1), x14.2, (app_len x3.2.2.h rfl)⟩), rfl, h.pick 9 [5, 6, 2, 3] rfl⟩)
        refine d_join (σ := (Option Addr) × Unit × (Option Addr) × (Option Addr × Nat)) 1 #[true, true, true, true, true, true, true, true, false] (fun s => [(4, (pt x2)), (5, (pt x4)), (38, (.slice s.2.2.2.1 (x3.2.2.n + 1) s.2.2.2.2)), (39, (.pointer (some ⟨x4, 2, none⟩)))]) (fun s => .row s.1 3 3 1 (ii ([(0:Int), (-1:Int), (9:Int)] : List Int)) :: .row s.2.2.1 1 3 1 (ii ([v10] : List Int)) :: .row s.2.2.2.1 s.2.2.2.2 3 1 (ii (v3 ++ ([v10] : List Int))) :: .box a0_g 92 [(.slice a0_0_A a0_0_n a0_0_c), (i6 v11)] :: .box x4 34 [(.slice x3.1.A x3.1.n x3.1.c), (.slice x3.2.1.A x3.2.1.n x3.2.1.c), (.slice x3.2.2.A x3.2.2.n x3.2.2.c)] :: .row x3.1.A x3.1.c 3 1 (ii v1) :: .row x3.2.1.A x3.2.1.c 3 1 (ii v2) :: .box x2 34 [(.slice none 0 0), (.slice none 0 0), (.slice none 0 0)] :: .box x1 34 [(.slice a1_0_A a1_0_n a1_0_c), (.slice a1_1_A a1_1_n a1_1_c), (.slice a1_2_A a1_2_n a1_2_c)] :: F) ?_ (fun hD255 => ?_)
        · rintro ⟨x11, x12, x13, x14⟩
          show J _ _ [(4, (pt x2)), (5, (pt x4)), (38, (.slice x14.1 (x3.2.2.n + 1) x14.2)), (39, (.pointer (some ⟨x4, 2, none⟩)))] _ (.row x11 3 3 1 (ii ([(0:Int), (-1:Int), (9:Int)] : List Int)) :: .row x13 1 3 1 (ii ([v10] : List Int)) :: .row x14.1 x14.2 3 1 (ii (v3 ++ ([v10] : List Int))) :: .box a0_g 92 [(.slice a0_0_A a0_0_n a0_0_c), (i6 v11)] :: .box x4 34 [(.slice x3.1.A x3.1.n x3.1.c), (.slice x3.2.1.A x3.2.1.n x3.2.1.c), (.slice x3.2.2.A x3.2.2.n x3.2.2.c)] :: .row x3.1.A x3.1.c 3 1 (ii v1) :: .row x3.2.1.A x3.2.1.c 3 1 (ii v2) :: .box x2 34 [(.slice none 0 0), (.slice none 0 0), (.slice none 0 0)] :: .box x1 34 [(.slice a1_0_A a1_0_n a1_0_c), (.slice a1_1_A a1_1_n a1_1_c), (.slice a1_2_A a1_2_n a1_2_c)] :: F)
          refine d_one 8 (by kernel_rfl) ?_
          · refine o_do rfl (a_storeb 4 rfl sz22 rfl rfl rfl rfl (Nat.le_of_ble_eq_true rfl) rfl) rfl rfl (fun _ w h => (h.drop 5)) (fun _ => ?_)
            refine j_b4 [(.slice x3.1.A x3.1.n x3.1.c), (.slice x3.2.1.A x3.2.1.n x3.2.1.c), (.slice x14.1 (x3.2.2.n + 1) x14.2)] rfl ?_
            refine j_rs (.row x11 3 3 1 (ii ([(0:Int), (-1:Int), (9:Int)] : List Int)) :: .row x13 1 3 1 (ii ([v10] : List Int)) :: .row x14.1 x14.2 3 1 (ii (v3 ++ ([v10] : List Int))) :: .box a0_g 92 [(.slice a0_0_A a0_0_n a0_0_c), (i6 v11)] :: .box x4 34 [(.slice x3.1.A x3.1.n x3.1.c), (.slice x3.2.1.A x3.2.1.n x3.2.1.c), (.slice x14.1 (x3.2.2.n + 1) x14.2)] :: .row x3.1.A x3.1.c 3 1 (ii v1) :: .row x3.2.1.A x3.2.1.c 3 1 (ii v2) :: .box x2 34 [(.slice none 0 0), (.slice none 0 0), (.slice none 0 0)] :: .box x1 34 [(.slice a1_0_A a1_0_n a1_0_c), (.slice a1_1_A a1_1_n a1_1_c), (.slice a1_2_A a1_2_n a1_2_c)] :: F) (fun _ h => h) ?_
            refine j_env [(4, (pt x2)), (5, (pt x4))] ⟨rfl, rfl, trivial⟩ ?_
            exact hD511 (x11, x12, x13, x14)
        refine d_join (σ := (Option Addr) × Unit × (Option Addr)) 3 #[true, true, true, true, true, true, false, false, false] (fun s => [(4, (pt x2)), (5, (pt x4)), (33, (.slice x3.2.2.A x3.2.2.n x3.2.2.c)), (37, (.slice s.2.2 1 1))]) (fun s => .row s.1 3 3 1 (ii ([(0:Int), (-1:Int), (9:Int)] : List Int)) :: .row s.2.2 1 3 1 (ii ([v10] : List Int)) :: .box a0_g 92 [(.slice a0_0_A a0_0_n a0_0_c), (i6 v11)] :: .box x4 34 [(.slice x3.1.A x3.1.n x3.1.c), (.slice x3.2.1.A x3.2.1.n x3.2.1.c), (.slice x3.2.2.A x3.2.2.n x3.2.2.c)] :: .row x3.1.A x3.1.c 3 1 (ii v1) :: .row x3.2.1.A x3.2.1.c 3 1 (ii v2) :: .row x3.2.2.A x3.2.2.c 3 1 (ii v3) :: .box x2 34 [(.slice none 0 0), (.slice none 0 0), (.slice none 0 0)] :: .box x1 34 [(.slice a1_0_A a1_0_n a1_0_c), (.slice a1_1_A a1_1_n a1_1_c), (.slice a1_2_A a1_2_n a1_2_c)] :: F) ?_ (fun hD63 => ?_)
        · rintro ⟨x11, x12, x13⟩
          show J _ _ [(4, (pt x2)), (5, (pt x4)), (33, (.slice x3.2.2.A x3.2.2.n x3.2.2.c)), (37, (.slice x13 1 1))] _ (.row x11 3 3 1 (ii ([(0:Int), (-1:Int), (9:Int)] : List Int)) :: .row x13 1 3 1 (ii ([v10] : List Int)) :: .box a0_g 92 [(.slice a0_0_A a0_0_n a0_0_c), (i6 v11)] :: .box x4 34 [(.slice x3.1.A x3.1.n x3.1.c), (.slice x3.2.1.A x3.2.1.n x3.2.1.c), (.slice x3.2.2.A x3.2.2.n x3.2.2.c)] :: .row x3.1.A x3.1.c 3 1 (ii v1) :: .row x3.2.1.A x3.2.1.c 3 1 (ii v2) :: .row x3.2.2.A x3.2.2.c 3 1 (ii v3) :: .box x2 34 [(.slice none 0 0), (.slice none 0 0), (.slice none 0 0)] :: .box x1 34 [(.slice a1_0_A a1_0_n a1_0_c), (.slice a1_1_A a1_1_n a1_1_c), (.slice a1_2_A a1_2_n a1_2_c)] :: F)
          refine d_one 6 (by kernel_rfl) ?_
          · refine o_do rfl (a_appI (xs := v3) (ys := ([v10] : List Int)) 6 un22 un22 sz3 by3 zr3 rfl rfl rfl rfl rfl rfl rfl rfl rfl x3.2.2.h rfl (Rd.row 1 rfl) c6) rfl rfl (fun x14 w h => h.pick 9 [4, 5, 7, 8] rfl) (fun x14 => ?_)
            refine j_s6 ?_
            refine d_take 7 rfl (q_fieldAddr fi34_2 sz22 rfl rfl rfl) rfl rfl (by kernel_rfl) (by kernel_rfl) (by kernel_rfl) (fun w h => h.pick 9 [4, 5, 7, 8] rfl) ?_
            refine j_rs (.row x11 3 3 1 (ii ([(0:Int), (-1:Int), (9:Int)] : List Int)) :: .row x13 1 3 1 (ii ([v10] : List Int)) :: .row x14.1 x14.2 3 1 (ii (v3 ++ ([v10] : List Int))) :: .box a0_g 92 [(.slice a0_0_A a0_0_n a0_0_c), (i6 v11)] :: .box x4 34 [(.slice x3.1.A x3.1.n x3.1.c), (.slice x3.2.1.A x3.2.1.n x3.2.1.c), (.slice x3.2.2.A x3.2.2.n x3.2.2.c)] :: .row x3.1.A x3.1.c 3 1 (ii v1) :: .row x3.2.1.A x3.2.1.c 3 1 (ii v2) :: .box x2 34 [(.slice none 0 0), (.slice none 0 0), (.slice none 0 0)] :: .box x1 34 [(.slice a1_0_A a1_0_n a1_0_c), (.slice a1_1_A a1_1_n a1_1_c), (.slice a1_2_A a1_2_n a1_2_c)] :: F) (fun _ h => h.pick 9 [0, 1, 6, 2, 3, 4, 5, 7, 8] rfl) ?_
            refine j_env [(4, (pt x2)), (5, (pt x4)), (38, (.slice x14.1 (x3.2.2.n + 1) x14.2)), (39, (.pointer (some ⟨x4, 2, none⟩)))] ⟨rfl, rfl, rfl, rfl, trivial⟩ ?_
            exact hD255 (x11, x12, x13, x14)
        refine d_join (σ := (Option Addr) × Unit) 4 #[true, true, true, true, true, false, false, false, false] (fun s => [(4, (pt x2)), (5, (pt x4)), (33, (.slice x3.2.2.A x3.2.2.n x3.2.2.c)), (36, (i6 v10))]) (fun s => .row s.1 3 3 1 (ii ([(0:Int), (-1:Int), (9:Int)] : List Int)) :: .box a0_g 92 [(.slice a0_0_A a0_0_n a0_0_c), (i6 v11)] :: .box x4 34 [(.slice x3.1.A x3.1.n x3.1.c), (.slice x3.2.1.A x3.2.1.n x3.2.1.c), (.slice x3.2.2.A x3.2.2.n x3.2.2.c)] :: .row x3.1.A x3.1.c 3 1 (ii v1) :: .row x3.2.1.A x3.2.1.c 3 1 (ii v2) :: .row x3.2.2.A x3.2.2.c 3 1 (ii v3) :: .box x2 34 [(.slice none 0 0), (.slice none 0 0), (.slice none 0 0)] :: .box x1 34 [(.slice a1_0_A a1_0_n a1_0_c), (.slice a1_1_A a1_1_n a1_1_c), (.slice a1_2_A a1_2_n a1_2_c)] :: F) ?_ (fun hD31 => ?_)
        · rintro ⟨x11, x12⟩
          show J _ _ [(4, (pt x2)), (5, (pt x4)), (33, (.slice x3.2.2.A x3.2.2.n x3.2.2.c)), (36, (i6 v10))] _ (.row x11 3 3 1 (ii ([(0:Int), (-1:Int), (9:Int)] : List Int)) :: .box a0_g 92 [(.slice a0_0_A a0_0_n a0_0_c), (i6 v11)] :: .box x4 34 [(.slice x3.1.A x3.1.n x3.1.c), (.slice x3.2.1.A x3.2.1.n x3.2.1.c), (.slice x3.2.2.A x3.2.2.n x3.2.2.c)] :: .row x3.1.A x3.1.c 3 1 (ii v1) :: .row x3.2.1.A x3.2.1.c 3 1 (ii v2) :: .row x3.2.2.A x3.2.2.c 3 1 (ii v3) :: .box x2 34 [(.slice none 0 0), (.slice none 0 0), (.slice none 0 0)] :: .box x1 34 [(.slice a1_0_A a1_0_n a1_0_c), (.slice a1_1_A a1_1_n a1_1_c), (.slice a1_2_A a1_2_n a1_2_c)] :: F)
          refine d_one 5 (by kernel_rfl) ?_
          · refine o_do rfl (a_litX (vs := [(i6 v10)]) (ii ([v10] : List Int)) un22 sz3 zr3 rfl rfl rfl rfl rfl rfl rfl rfl rfl) rfl rfl (fun x13 w h => h.pick 9 [4, 5, 7, 8] rfl) (fun x13 => ?_)
            refine j_rs (.row x11 3 3 1 (ii ([(0:Int), (-1:Int), (9:Int)] : List Int)) :: .row x13 1 3 1 (ii ([v10] : List Int)) :: .box a0_g 92 [(.slice a0_0_A a0_0_n a0_0_c), (i6 v11)] :: .box x4 34 [(.slice x3.1.A x3.1.n x3.1.c), (.slice x3.2.1.A x3.2.1.n x3.2.1.c), (.slice x3.2.2.A x3.2.2.n x3.2.2.c)] :: .row x3.1.A x3.1.c 3 1 (ii v1) :: .row x3.2.1.A x3.2.1.c 3 1 (ii v2) :: .row x3.2.2.A x3.2.2.c 3 1 (ii v3) :: .box x2 34 [(.slice none 0 0), (.slice none 0 0), (.slice none 0 0)] :: .box x1 34 [(.slice a1_0_A a1_0_n a1_0_c), (.slice a1_1_A a1_1_n a1_1_c), (.slice a1_2_A a1_2_n a1_2_c)] :: F) (fun _ h => h.pick 9 [1, 0, 2, 3, 4, 5, 6, 7, 8] rfl) ?_
            refine j_env [(4, (pt x2)), (5, (pt x4)), (33, (.slice x3.2.2.A x3.2.2.n x3.2.2.c)), (37, (.slice x13 1 1))] ⟨rfl, rfl, rfl, rfl, trivial⟩ ?_
            exact hD63 (x11, x12, x13)
        refine d_join (σ := (Option Addr) × Unit × (Option Addr)) 4 #[true, false, true, true, true, true, false, false, false] (fun s => [(4, (pt x2)), (5, (pt x4)), (32, (.pointer (some ⟨x4, 2, none⟩))), (37, (.slice s.2.2 1 1))]) (fun s => .row s.1 3 3 1 (ii ([(0:Int), (-1:Int), (9:Int)] : List Int)) :: .row s.2.2 1 3 1 (ii ([v10] : List Int)) :: .box a0_g 92 [(.slice a0_0_A a0_0_n a0_0_c), (i6 v11)] :: .box x4 34 [(.slice x3.1.A x3.1.n x3.1.c), (.slice x3.2.1.A x3.2.1.n x3.2.1.c), (.slice x3.2.2.A x3.2.2.n x3.2.2.c)] :: .row x3.1.A x3.1.c 3 1 (ii v1) :: .row x3.2.1.A x3.2.1.c 3 1 (ii v2) :: .row x3.2.2.A x3.2.2.c 3 1 (ii v3) :: .box x2 34 [(.slice none 0 0), (.slice none 0 0), (.slice none 0 0)] :: .box x1 34 [(.slice a1_0_A a1_0_n a1_0_c), (.slice a1_1_A a1_1_n a1_1_c), (.slice a1_2_A a1_2_n a1_2_c)] :: F) ?_ (fun hD61 => ?_)
        · rintro ⟨x11, x12, x13⟩
          show J _ _ [(4, (pt x2)), (5, (pt x4)), (32, (.pointer (some ⟨x4, 2, none⟩))), (37, (.slice x13 1 1))] _ (.row x11 3 3 1 (ii ([(0:Int), (-1:Int), (9:Int)] : List Int)) :: .row x13 1 3 1 (ii ([v10] : List Int)) :: .box a0_g 92 [(.slice a0_0_A a0_0_n a0_0_c), (i6 v11)] :: .box x4 34 [(.slice x3.1.A x3.1.n x3.1.c), (.slice x3.2.1.A x3.2.1.n x3.2.1.c), (.slice x3.2.2.A x3.2.2.n x3.2.2.c)] :: .row x3.1.A x3.1.c 3 1 (ii v1) :: .row x3.2.1.A x3.2.1.c 3 1 (ii v2) :: .row x3.2.2.A x3.2.2.c 3 1 (ii v3) :: .box x2 34 [(.slice none 0 0), (.slice none 0 0), (.slice none 0 0)] :: .box x1 34 [(.slice a1_0_A a1_0_n a1_0_c), (.slice a1_1_A a1_1_n a1_1_c), (.slice a1_2_A a1_2_n a1_2_c)] :: F)
          refine d_one 1 (by kernel_rfl) ?_
          · refine o_do rfl ((q_loadb 3 rfl ag22 rfl rfl rfl)).acts rfl rfl (fun _ w h => h.pick 9 [4, 5, 7, 8] rfl) (fun _ => ?_)
            refine j_rs (.row x11 3 3 1 (ii ([(0:Int), (-1:Int), (9:Int)] : List Int)) :: .row x13 1 3 1 (ii ([v10] : List Int)) :: .box a0_g 92 [(.slice a0_0_A a0_0_n a0_0_c), (i6 v11)] :: .box x4 34 [(.slice x3.1.A x3.1.n x3.1.c), (.slice x3.2.1.A x3.2.1.n x3.2.1.c), (.slice x3.2.2.A x3.2.2.n x3.2.2.c)] :: .row x3.1.A x3.1.c 3 1 (ii v1) :: .row x3.2.1.A x3.2.1.c 3 1 (ii v2) :: .row x3.2.2.A x3.2.2.c 3 1 (ii v3) :: .box x2 34 [(.slice none 0 0), (.slice none 0 0), (.slice none 0 0)] :: .box x1 34 [(.slice a1_0_A a1_0_n a1_0_c), (.slice a1_1_A a1_1_n a1_1_c), (.slice a1_2_A a1_2_n a1_2_c)] :: F) (fun _ h => h) ?_
            refine j_env [(4, (pt x2)), (5, (pt x4)), (33, (.slice x3.2.2.A x3.2.2.n x3.2.2.c)), (37, (.slice x13 1 1))] ⟨rfl, rfl, rfl, rfl, trivial⟩ ?_
            exact hD63 (x11, x12, x13)
        refine d_join (σ := (Option Addr)) 5 #[true, true, true, true, false, false, false, false, false] (fun s => [(4, (pt x2)), (5, (pt x4)), (33, (.slice x3.2.2.A x3.2.2.n x3.2.2.c)), (34, (pt a0_g)), (35, (.slice s 3 3))]) (fun s => .row s 3 3 1 (ii ([(0:Int), (-1:Int), (9:Int)] : List Int)) :: .box a0_g 92 [(.slice a0_0_A a0_0_n a0_0_c), (i6 v5)] :: .box x4 34 [(.slice x3.1.A x3.1.n x3.1.c), (.slice x3.2.1.A x3.2.1.n x3.2.1.c), (.slice x3.2.2.A x3.2.2.n x3.2.2.c)] :: .row x3.1.A x3.1.c 3 1 (ii v1) :: .row x3.2.1.A x3.2.1.c 3 1 (ii v2) :: .row x3.2.2.A x3.2.2.c 3 1 (ii v3) :: .box x2 34 [(.slice none 0 0), (.slice none 0 0), (.slice none 0 0)] :: .box x1 34 [(.slice a1_0_A a1_0_n a1_0_c), (.slice a1_1_A a1_1_n a1_1_c), (.slice a1_2_A a1_2_n a1_2_c)] :: F) ?_ (fun hD15 => ?_)
        · rintro x11
          show J _ _ [(4, (pt x2)), (5, (pt x4)), (33, (.slice x3.2.2.A x3.2.2.n x3.2.2.c)), (34, (pt a0_g)), (35, (.slice x11 3 3))] _ (.row x11 3 3 1 (ii ([(0:Int), (-1:Int), (9:Int)] : List Int)) :: .box a0_g 92 [(.slice a0_0_A a0_0_n a0_0_c), (i6 v5)] :: .box x4 34 [(.slice x3.1.A x3.1.n x3.1.c), (.slice x3.2.1.A x3.2.1.n x3.2.1.c), (.slice x3.2.2.A x3.2.2.n x3.2.2.c)] :: .row x3.1.A x3.1.c 3 1 (ii v1) :: .row x3.2.1.A x3.2.1.c 3 1 (ii v2) :: .row x3.2.2.A x3.2.2.c 3 1 (ii v3) :: .box x2 34 [(.slice none 0 0), (.slice none 0 0), (.slice none 0 0)] :: .box x1 34 [(.slice a1_0_A a1_0_n a1_0_c), (.slice a1_1_A a1_1_n a1_1_c), (.slice a1_2_A a1_2_n a1_2_c)] :: F)
          refine d_one 4 (by kernel_rfl) ?_
          · refine j_rs (.box a0_g 92 [(.slice a0_0_A a0_0_n a0_0_c), (i6 v5)] :: .row x11 3 3 1 (ii ([(0:Int), (-1:Int), (9:Int)] : List Int)) :: .box x4 34 [(.slice x3.1.A x3.1.n x3.1.c), (.slice x3.2.1.A x3.2.1.n x3.2.1.c), (.slice x3.2.2.A x3.2.2.n x3.2.2.c)] :: .row x3.1.A x3.1.c 3 1 (ii v1) :: .row x3.2.1.A x3.2.1.c 3 1 (ii v2) :: .row x3.2.2.A x3.2.2.c 3 1 (ii v3) :: .box x2 34 [(.slice none 0 0), (.slice none 0 0), (.slice none 0 0)] :: .box x1 34 [(.slice a1_0_A a1_0_n a1_0_c), (.slice a1_1_A a1_1_n a1_1_c), (.slice a1_2_A a1_2_n a1_2_c)] :: F) (fun _ h => h.pick 8 [1, 0, 2, 3, 4, 5, 6, 7] rfl) ?_
            refine o_do rfl (a_call ok70 rfl rfl rfl rfl (fun w hm => spec_l13Rd_num.calls K a0_g a0_0 a0_0_A a0_0_n a0_0_c v5 ([(0:Int), (-1:Int), (9:Int)] : List Int) x11 3 3 hm a0_0_h (Rd.drop 7 a0_0_R) rfl (Rd.row 0 rfl) hb5)) rfl rfl (fun x12 w h => h.pick 8 [3, 4, 6, 7] rfl) (fun x12 => ?_)
            refine j_rs (.row x11 3 3 1 (ii ([(0:Int), (-1:Int), (9:Int)] : List Int)) :: .box a0_g 92 [(.slice a0_0_A a0_0_n a0_0_c), (i6 v11)] :: .box x4 34 [(.slice x3.1.A x3.1.n x3.1.c), (.slice x3.2.1.A x3.2.1.n x3.2.1.c), (.slice x3.2.2.A x3.2.2.n x3.2.2.c)] :: .row x3.1.A x3.1.c 3 1 (ii v1) :: .row x3.2.1.A x3.2.1.c 3 1 (ii v2) :: .row x3.2.2.A x3.2.2.c 3 1 (ii v3) :: .box x2 34 [(.slice none 0 0), (.slice none 0 0), (.slice none 0 0)] :: .box x1 34 [(.slice a1_0_A a1_0_n a1_0_c), (.slice a1_1_A a1_1_n a1_1_c), (.slice a1_2_A a1_2_n a1_2_c)] :: F) (fun _ h => h.pick 8 [1, 0, 2, 3, 4, 5, 6, 7] rfl) ?_
            refine j_env [(4, (pt x2)), (5, (pt x4)), (33, (.slice x3.2.2.A x3.2.2.n x3.2.2.c)), (36, (i6 v10))] ⟨rfl, rfl, rfl, rfl, trivial⟩ ?_
            exact hD31 (x11, x12)
        refine d_join (σ := (Option Addr) × Unit) 5 #[true, false, true, true, true, false, false, false, false] (fun s => [(4, (pt x2)), (5, (pt x4)), (32, (.pointer (some ⟨x4, 2, none⟩))), (36, (i6 v10))]) (fun s => .row s.1 3 3 1 (ii ([(0:Int), (-1:Int), (9:Int)] : List Int)) :: .box a0_g 92 [(.slice a0_0_A a0_0_n a0_0_c), (i6 v11)] :: .box x4 34 [(.slice x3.1.A x3.1.n x3.1.c), (.slice x3.2.1.A x3.2.1.n x3.2.1.c), (.slice x3.2.2.A x3.2.2.n x3.2.2.c)] :: .row x3.1.A x3.1.c 3 1 (ii v1) :: .row x3.2.1.A x3.2.1.c 3 1 (ii v2) :: .row x3.2.2.A x3.2.2.c 3 1 (ii v3) :: .box x2 34 [(.slice none 0 0), (.slice none 0 0), (.slice none 0 0)] :: .box x1 34 [(.slice a1_0_A a1_0_n a1_0_c), (.slice a1_1_A a1_1_n a1_1_c), (.slice a1_2_A a1_2_n a1_2_c)] :: F) ?_ (fun hD29 => ?_)
        · rintro ⟨x11, x12⟩
          show J _ _ [(4, (pt x2)), (5, (pt x4)), (32, (.pointer (some ⟨x4, 2, none⟩))), (36, (i6 v10))] _ (.row x11 3 3 1 (ii ([(0:Int), (-1:Int), (9:Int)] : List Int)) :: .box a0_g 92 [(.slice a0_0_A a0_0_n a0_0_c), (i6 v11)] :: .box x4 34 [(.slice x3.1.A x3.1.n x3.1.c), (.slice x3.2.1.A x3.2.1.n x3.2.1.c), (.slice x3.2.2.A x3.2.2.n x3.2.2.c)] :: .row x3.1.A x3.1.c 3 1 (ii v1) :: .row x3.2.1.A x3.2.1.c 3 1 (ii v2) :: .row x3.2.2.A x3.2.2.c 3 1 (ii v3) :: .box x2 34 [(.slice none 0 0), (.slice none 0 0), (.slice none 0 0)] :: .box x1 34 [(.slice a1_0_A a1_0_n a1_0_c), (.slice a1_1_A a1_1_n a1_1_c), (.slice a1_2_A a1_2_n a1_2_c)] :: F)
          refine d_two 1 5 (by kernel_rfl) ?_ ?_
          · refine o_do rfl ((q_loadb 2 rfl ag22 rfl rfl rfl)).acts rfl rfl (fun _ w h => h.pick 8 [3, 4, 6, 7] rfl) (fun _ => ?_)
            refine j_rs (.row x11 3 3 1 (ii ([(0:Int), (-1:Int), (9:Int)] : List Int)) :: .box a0_g 92 [(.slice a0_0_A a0_0_n a0_0_c), (i6 v11)] :: .box x4 34 [(.slice x3.1.A x3.1.n x3.1.c), (.slice x3.2.1.A x3.2.1.n x3.2.1.c), (.slice x3.2.2.A x3.2.2.n x3.2.2.c)] :: .row x3.1.A x3.1.c 3 1 (ii v1) :: .row x3.2.1.A x3.2.1.c 3 1 (ii v2) :: .row x3.2.2.A x3.2.2.c 3 1 (ii v3) :: .box x2 34 [(.slice none 0 0), (.slice none 0 0), (.slice none 0 0)] :: .box x1 34 [(.slice a1_0_A a1_0_n a1_0_c), (.slice a1_1_A a1_1_n a1_1_c), (.slice a1_2_A a1_2_n a1_2_c)] :: F) (fun _ h => h) ?_
            refine j_env [(4, (pt x2)), (5, (pt x4)), (33, (.slice x3.2.2.A x3.2.2.n x3.2.2.c)), (36, (i6 v10))] ⟨rfl, rfl, rfl, rfl, trivial⟩ ?_
            exact hD31 (x11, x12)
          · refine o_do rfl (a_litX (vs := [(i6 v10)]) (ii ([v10] : List Int)) un22 sz3 zr3 rfl rfl rfl rfl rfl rfl rfl rfl rfl) rfl rfl (fun x13 w h => h.pick 9 [4, 5, 7, 8] rfl) (fun x13 => ?_)
            refine j_rs (.row x11 3 3 1 (ii ([(0:Int), (-1:Int), (9:Int)] : List Int)) :: .row x13 1 3 1 (ii ([v10] : List Int)) :: .box a0_g 92 [(.slice a0_0_A a0_0_n a0_0_c), (i6 v11)] :: .box x4 34 [(.slice x3.1.A x3.1.n x3.1.c), (.slice x3.2.1.A x3.2.1.n x3.2.1.c), (.slice x3.2.2.A x3.2.2.n x3.2.2.c)] :: .row x3.1.A x3.1.c 3 1 (ii v1) :: .row x3.2.1.A x3.2.1.c 3 1 (ii v2) :: .row x3.2.2.A x3.2.2.c 3 1 (ii v3) :: .box x2 34 [(.slice none 0 0), (.slice none 0 0), (.slice none 0 0)] :: .box x1 34 [(.slice a1_0_A a1_0_n a1_0_c), (.slice a1_1_A a1_1_n a1_1_c), (.slice a1_2_A a1_2_n a1_2_c)] :: F) (fun _ h => h.pick 9 [1, 0, 2, 3, 4, 5, 6, 7, 8] rfl) ?_
            refine j_env [(4, (pt x2)), (5, (pt x4)), (32, (.pointer (some ⟨x4, 2, none⟩))), (37, (.slice x13 1 1))] ⟨rfl, rfl, rfl, rfl, trivial⟩ ?_
            exact hD61 (x11, x12, x13)
        refine d_join (σ := Unit) 6 #[true, true, true, false, false, false, false, false, false] (fun s => [(4, (pt x2)), (5, (pt x4)), (33, (.slice x3.2.2.A x3.2.2.n x3.2.2.c)), (34, (pt a0_g))]) (fun s => .box a0_g 92 [(.slice a0_0_A a0_0_n a0_0_c), (i6 v5)] :: .box x4 34 [(.slice x3.1.A x3.1.n x3.1.c), (.slice x3.2.1.A x3.2.1.n x3.2.1.c), (.slice x3.2.2.A x3.2.2.n x3.2.2.c)] :: .row x3.1.A x3.1.c 3 1 (ii v1) :: .row x3.2.1.A x3.2.1.c 3 1 (ii v2) :: .row x3.2.2.A x3.2.2.c 3 1 (ii v3) :: .box x2 34 [(.slice none 0 0), (.slice none 0 0), (.slice none 0 0)] :: .box x1 34 [(.slice a1_0_A a1_0_n a1_0_c), (.slice a1_1_A a1_1_n a1_1_c), (.slice a1_2_A a1_2_n a1_2_c)] :: F) ?_ (fun hD7 => ?_)
        · rintro _
          show J _ _ [(4, (pt x2)), (5, (pt x4)), (33, (.slice x3.2.2.A x3.2.2.n x3.2.2.c)), (34, (pt a0_g))] _ (.box a0_g 92 [(.slice a0_0_A a0_0_n a0_0_c), (i6 v5)] :: .box x4 34 [(.slice x3.1.A x3.1.n x3.1.c), (.slice x3.2.1.A x3.2.1.n x3.2.1.c), (.slice x3.2.2.A x3.2.2.n x3.2.2.c)] :: .row x3.1.A x3.1.c 3 1 (ii v1) :: .row x3.2.1.A x3.2.1.c 3 1 (ii v2) :: .row x3.2.2.A x3.2.2.c 3 1 (ii v3) :: .box x2 34 [(.slice none 0 0), (.slice none 0 0), (.slice none 0 0)] :: .box x1 34 [(.slice a1_0_A a1_0_n a1_0_c), (.slice a1_1_A a1_1_n a1_1_c), (.slice a1_2_A a1_2_n a1_2_c)] :: F)
          refine d_one 3 (by kernel_rfl) ?_
          · refine o_do rfl (a_litX (vs := [(i6 (0:Int)), (i6 (-1:Int)), (i6 (9:Int))]) (ii ([(0:Int), (-1:Int), (9:Int)] : List Int)) un22 sz3 zr3 rfl rfl rfl rfl rfl rfl rfl rfl rfl) rfl rfl (fun x11 w h => h.pick 8 [3, 4, 6, 7] rfl) (fun x11 => ?_)
            refine j_rs (.row x11 3 3 1 (ii ([(0:Int), (-1:Int), (9:Int)] : List Int)) :: .box a0_g 92 [(.slice a0_0_A a0_0_n a0_0_c), (i6 v5)] :: .box x4 34 [(.slice x3.1.A x3.1.n x3.1.c), (.slice x3.2.1.A x3.2.1.n x3.2.1.c), (.slice x3.2.2.A x3.2.2.n x3.2.2.c)] :: .row x3.1.A x3.1.c 3 1 (ii v1) :: .row x3.2.1.A x3.2.1.c 3 1 (ii v2) :: .row x3.2.2.A x3.2.2.c 3 1 (ii v3) :: .box x2 34 [(.slice none 0 0), (.slice none 0 0), (.slice none 0 0)] :: .box x1 34 [(.slice a1_0_A a1_0_n a1_0_c), (.slice a1_1_A a1_1_n a1_1_c), (.slice a1_2_A a1_2_n a1_2_c)] :: F) (fun _ h => h) ?_
            refine j_env [(4, (pt x2)), (5, (pt x4)), (33, (.slice x3.2.2.A x3.2.2.n x3.2.2.c)), (34, (pt a0_g)), (35, (.slice x11 3 3))] ⟨rfl, rfl, rfl, rfl, rfl, trivial⟩ ?_
            exact hD15 x11
        refine d_join (σ := (Option Addr)) 6 #[true, false, true, true, false, false, false, false, false] (fun s => [(4, (pt x2)), (5, (pt x4)), (32, (.pointer (some ⟨x4, 2, none⟩))), (34, (pt a0_g)), (35, (.slice s 3 3))]) (fun s => .row s 3 3 1 (ii ([(0:Int), (-1:Int), (9:Int)] : List Int)) :: .box a0_g 92 [(.slice a0_0_A a0_0_n a0_0_c), (i6 v5)] :: .box x4 34 [(.slice x3.1.A x3.1.n x3.1.c), (.slice x3.2.1.A x3.2.1.n x3.2.1.c), (.slice x3.2.2.A x3.2.2.n x3.2.2.c)] :: .row x3.1.A x3.1.c 3 1 (ii v1) :: .row x3.2.1.A x3.2.1.c 3 1 (ii v2) :: .row x3.2.2.A x3.2.2.c 3 1 (ii v3) :: .box x2 34 [(.slice none 0 0), (.slice none 0 0), (.slice none 0 0)] :: .box x1 34 [(.slice a1_0_A a1_0_n a1_0_c), (.slice a1_1_A a1_1_n a1_1_c), (.slice a1_2_A a1_2_n a1_2_c)] :: F) ?_ (fun hD13 => ?_)
        · rintro x11
          show J _ _ [(4, (pt x2)), (5, (pt x4)), (32, (.pointer (some ⟨x4, 2, none⟩))), (34, (pt a0_g)), (35, (.slice x11 3 3))] _ (.row x11 3 3 1 (ii ([(0:Int), (-1:Int), (9:Int)] : List Int)) :: .box a0_g 92 [(.slice a0_0_A a0_0_n a0_0_c), (i6 v5)] :: .box x4 34 [(.slice x3.1.A x3.1.n x3.1.c), (.slice x3.2.1.A x3.2.1.n x3.2.1.c), (.slice x3.2.2.A x3.2.2.n x3.2.2.c)] :: .row x3.1.A x3.1.c 3 1 (ii v1) :: .row x3.2.1.A x3.2.1.c 3 1 (ii v2) :: .row x3.2.2.A x3.2.2.c 3 1 (ii v3) :: .box x2 34 [(.slice none 0 0), (.slice none 0 0), (.slice none 0 0)] :: .box x1 34 [(.slice a1_0_A a1_0_n a1_0_c), (.slice a1_1_A a1_1_n a1_1_c), (.slice a1_2_A a1_2_n a1_2_c)] :: F)
          refine d_two 1 4 (by kernel_rfl) ?_ ?_
          · refine o_do rfl ((q_loadb 2 rfl ag22 rfl rfl rfl)).acts rfl rfl (fun _ w h => h.pick 8 [3, 4, 6, 7] rfl) (fun _ => ?_)
            refine j_rs (.row x11 3 3 1 (ii ([(0:Int), (-1:Int), (9:Int)] : List Int)) :: .box a0_g 92 [(.slice a0_0_A a0_0_n a0_0_c), (i6 v5)] :: .box x4 34 [(.slice x3.1.A x3.1.n x3.1.c), (.slice x3.2.1.A x3.2.1.n x3.2.1.c), (.slice x3.2.2.A x3.2.2.n x3.2.2.c)] :: .row x3.1.A x3.1.c 3 1 (ii v1) :: .row x3.2.1.A x3.2.1.c 3 1 (ii v2) :: .row x3.2.2.A x3.2.2.c 3 1 (ii v3) :: .box x2 34 [(.slice none 0 0), (.slice none 0 0), (.slice none 0 0)] :: .box x1 34 [(.slice a1_0_A a1_0_n a1_0_c), (.slice a1_1_A a1_1_n a1_1_c), (.slice a1_2_A a1_2_n a1_2_c)] :: F) (fun _ h => h) ?_
            refine j_env [(4, (pt x2)), (5, (pt x4)), (33, (.slice x3.2.2.A x3.2.2.n x3.2.2.c)), (34, (pt a0_g)), (35, (.slice x11 3 3))] ⟨rfl, rfl, rfl, rfl, rfl, trivial⟩ ?_
            exact hD15 x11
          · refine j_rs (.box a0_g 92 [(.slice a0_0_A a0_0_n a0_0_c), (i6 v5)] :: .row x11 3 3 1 (ii ([(0:Int), (-1:Int), (9:Int)] : List Int)) :: .box x4 34 [(.slice x3.1.A x3.1.n x3.1.c), (.slice x3.2.1.A x3.2.1.n x3.2.1.c), (.slice x3.2.2.A x3.2.2.n x3.2.2.c)] :: .row x3.1.A x3.1.c 3 1 (ii v1) :: .row x3.2.1.A x3.2.1.c 3 1 (ii v2) :: .row x3.2.2.A x3.2.2.c 3 1 (ii v3) :: .box x2 34 [(.slice none 0 0), (.slice none 0 0), (.slice none 0 0)] :: .box x1 34 [(.slice a1_0_A a1_0_n a1_0_c), (.slice a1_1_A a1_1_n a1_1_c), (.slice a1_2_A a1_2_n a1_2_c)] :: F) (fun _ h => h.pick 8 [1, 0, 2, 3, 4, 5, 6, 7] rfl) ?_
            refine o_do rfl (a_call ok70 rfl rfl rfl rfl (fun w hm => spec_l13Rd_num.calls K a0_g a0_0 a0_0_A a0_0_n a0_0_c v5 ([(0:Int), (-1:Int), (9:Int)] : List Int) x11 3 3 hm a0_0_h (Rd.drop 7 a0_0_R) rfl (Rd.row 0 rfl) hb5)) rfl rfl (fun x12 w h => h.pick 8 [3, 4, 6, 7] rfl) (fun x12 => ?_)
            refine j_rs (.row x11 3 3 1 (ii ([(0:Int), (-1:Int), (9:Int)] : List Int)) :: .box a0_g 92 [(.slice a0_0_A a0_0_n a0_0_c), (i6 v11)] :: .box x4 34 [(.slice x3.1.A x3.1.n x3.1.c), (.slice x3.2.1.A x3.2.1.n x3.2.1.c), (.slice x3.2.2.A x3.2.2.n x3.2.2.c)] :: .row x3.1.A x3.1.c 3 1 (ii v1) :: .row x3.2.1.A x3.2.1.c 3 1 (ii v2) :: .row x3.2.2.A x3.2.2.c 3 1 (ii v3) :: .box x2 34 [(.slice none 0 0), (.slice none 0 0), (.slice none 0 0)] :: .box x1 34 [(.slice a1_0_A a1_0_n a1_0_c), (.slice a1_1_A a1_1_n a1_1_c), (.slice a1_2_A a1_2_n a1_2_c)] :: F) (fun _ h => h.pick 8 [1, 0, 2, 3, 4, 5, 6, 7] rfl) ?_
            refine j_env [(4, (pt x2)), (5, (pt x4)), (32, (.pointer (some ⟨x4, 2, none⟩))), (36, (i6 v10))] ⟨rfl, rfl, rfl, rfl, trivial⟩ ?_
            exact hD29 (x11, x12)
        refine d_two 1 3 (by kernel_rfl) ?_ ?_
        · refine o_do rfl ((q_loadb 1 rfl ag22 rfl rfl rfl)).acts rfl rfl (fun _ w h => h.pick 7 [2, 3, 5, 6] rfl) (fun _ => ?_)
          refine j_rs (.box a0_g 92 [(.slice a0_0_A a0_0_n a0_0_c), (i6 v5)] :: .box x4 34 [(.slice x3.1.A x3.1.n x3.1.c), (.slice x3.2.1.A x3.2.1.n x3.2.1.c), (.slice x3.2.2.A x3.2.2.n x3.2.2.c)] :: .row x3.1.A x3.1.c 3 1 (ii v1) :: .row x3.2.1.A x3.2.1.c 3 1 (ii v2) :: .row x3.2.2.A x3.2.2.c 3 1 (ii v3) :: .box x2 34 [(.slice none 0 0), (.slice none 0 0), (.slice none 0 0)] :: .box x1 34 [(.slice a1_0_A a1_0_n a1_0_c), (.slice a1_1_A a1_1_n a1_1_c), (.slice a1_2_A a1_2_n a1_2_c)] :: F) (fun _ h => h) ?_
          refine j_env [(4, (pt x2)), (5, (pt x4)), (33, (.slice x3.2.2.A x3.2.2.n x3.2.2.c)), (34, (pt a0_g))] ⟨rfl, rfl, rfl, rfl, trivial⟩ ?_
          exact hD7 ()
        · refine o_do rfl (a_litX (vs := [(i6 (0:Int)), (i6 (-1:Int)), (i6 (9:Int))]) (ii ([(0:Int), (-1:Int), (9:Int)] : List Int)) un22 sz3 zr3 rfl rfl rfl rfl rfl rfl rfl rfl rfl) rfl rfl (fun x11 w h => h.pick 8 [3, 4, 6, 7] rfl) (fun x11 => ?_)
          refine j_rs (.row x11 3 3 1 (ii ([(0:Int), (-1:Int), (9:Int)] : List Int)) :: .box a0_g 92 [(.slice a0_0_A a0_0_n a0_0_c), (i6 v5)] :: .box x4 34 [(.slice x3.1.A x3.1.n x3.1.c), (.slice x3.2.1.A x3.2.1.n x3.2.1.c), (.slice x3.2.2.A x3.2.2.n x3.2.2.c)] :: .row x3.1.A x3.1.c 3 1 (ii v1) :: .row x3.2.1.A x3.2.1.c 3 1 (ii v2) :: .row x3.2.2.A x3.2.2.c 3 1 (ii v3) :: .box x2 34 [(.slice none 0 0), (.slice none 0 0), (.slice none 0 0)] :: .box x1 34 [(.slice a1_0_A a1_0_n a1_0_c), (.slice a1_1_A a1_1_n a1_1_c), (.slice a1_2_A a1_2_n a1_2_c)] :: F) (fun _ h => h) ?_
          refine j_env [(4, (pt x2)), (5, (pt x4)), (32, (.pointer (some ⟨x4, 2, none⟩))), (34, (pt a0_g)), (35, (.slice x11 3 3))] ⟨rfl, rfl, rfl, rfl, rfl, trivial⟩ ?_
          exact hD13 x11
      · refine j_false rfl (beq_f c5) ?_
        refine j_seq ?_
        refine j_region ?_
        refine r_q (q_eql rfl rfl rfl) rfl rfl ?_
        refine r_q (q_assign rfl rfl) rfl rfl ?_
        refine r_nil ?_
        refine j_then ?_
        rcases of_if h with ⟨c7, h⟩ | ⟨c7, h⟩
        · refine j_true rfl (beq_t c7) ?_
          refine j_region ?_
          refine r_do (a_litX (vs := []) (ii ([] : List Int)) un22 sz3 zr3 rfl rfl rfl rfl rfl rfl rfl rfl rfl) rfl rfl (fun x15 => ?_)
          refine r_q (q_fieldAddr fi34_2 sz22 rfl rfl rfl) rfl rfl ?_
          refine r_do (a_storeb 2 rfl sz22 rfl rfl rfl rfl (Nat.le_of_ble_eq_true rfl) rfl) rfl rfl (fun _ => ?_)
          refine j_b2 [(.slice x3.1.A x3.1.n x3.1.c), (.slice x3.2.1.A x3.2.1.n x3.2.1.c), (.slice x15 0 0)] rfl ?_
          refine r_nil ?_
          refine j_in ?_
          refine j_then ?_
          refine j_seq ?_
          refine j_region ?_
          refine r_q (q_loadb_agg 2 rfl ag34 sz34 rfl rfl rfl rfl) rfl rfl ?_
          refine r_do (a_storeb 6 rfl sz34 rfl rfl rfl rfl (Nat.le_of_ble_eq_true rfl) rfl) rfl rfl (fun _ => ?_)
          refine j_b6 [(.slice x3.1.A x3.1.n x3.1.c), (.slice x3.2.1.A x3.2.1.n x3.2.1.c), (.slice x15 0 0)] rfl ?_
          refine r_nil ?_
          refine j_then ?_
          refine j_ret ?_
          cases h
          exact j_return rfl (ResOf.cell 6 rfl rfl ag34 sz34 ResOf.nil) rfl (fun w h => ⟨(⟨x3.1.A, x3.1.n, x3.1.c, x3.1.h⟩, ⟨x3.2.1.A, x3.2.1.n, x3.2.1.c, x3.2.1.h⟩, ⟨x15, 0, 0, rfl⟩), rfl, h.pick 8 [3, 4, 0, 1] rfl⟩)
        · refine j_false rfl (beq_f c7) ?_
          refine j_skip ?_
          refine j_in ?_
          refine j_then ?_
          refine j_seq ?_
          refine j_region ?_
          refine r_q (q_loadb_agg 1 rfl ag34 sz34 rfl rfl rfl rfl) rfl rfl ?_
          refine r_do (a_storeb 5 rfl sz34 rfl rfl rfl rfl (Nat.le_of_ble_eq_true rfl) rfl) rfl rfl (fun _ => ?_)
          refine j_b5 [(.slice x3.1.A x3.1.n x3.1.c), (.slice x3.2.1.A x3.2.1.n x3.2.1.c), (.slice x3.2.2.A x3.2.2.n x3.2.2.c)] rfl ?_
          refine r_nil ?_
          refine j_then ?_
          refine j_ret ?_
          cases h
          exact j_return rfl (ResOf.cell 5 rfl rfl ag34 sz34 ResOf.nil) rfl (fun w h => ⟨(⟨x3.1.A, x3.1.n, x3.1.c, x3.1.h⟩, ⟨x3.2.1.A, x3.2.1.n, x3.2.1.c, x3.2.1.h⟩, ⟨x3.2.2.A, x3.2.2.n, x3.2.2.c, x3.2.2.h⟩), rfl, h.pick 7 [2, 3, 4, 0] rfl⟩)

theorem spec_l4Wrong.calls (K : Nat) (a0_g : Nat) (a0_0 : List Int) (a0_0_A : Option Addr) (a0_0_n a0_0_c : Nat) (a0_1 : Int) (a1_0 : List Int) (a1_0_A : Option Addr) (a1_0_n a1_0_c : Nat) (a1_1 : List Int) (a1_1_A : Option Addr) (a1_1_n a1_1_c : Nat) (a1_2 : List Int) (a1_2_A : Option Addr) (a1_2_n a1_2_c : Nat) (a1_3 : List Int) (a1_3_A : Option Addr) (a1_3_n a1_3_c : Nat) {w0 w : World} {F : List Res} {r1 : List Int} {r2 : List Int} {r3 : List Int} {r4 : List Int} {r5 : Int} (hm : Mem w0 (.box a0_g 92 [.slice a0_0_A a0_0_n a0_0_c, i6 a0_1] :: F) w) (a0_0_h : a0_0.length = a0_0_n) (a0_0_R : Rd w0 F a0_0_A (ints .u8 a0_0)) (a1_0_h : a1_0.length = a1_0_n) (a1_0_R : Rd w0 F a1_0_A (ii a1_0)) (a1_1_h : a1_1.length = a1_1_n) (a1_1_R : Rd w0 F a1_1_A (ii a1_1)) (a1_2_h : a1_2.length = a1_2_n) (a1_2_R : Rd w0 F a1_2_A (ii a1_2)) (a1_3_h : a1_3.length = a1_3_n) (a1_3_R : Rd w0 F a1_3_A (ii a1_3)) (h : spec_l4Wrong.f K a0_0 a0_1 a1_0 a1_1 a1_2 a1_3 = some (r1, r2, r3, r4, r5)) :
    Calls Try.prog 74 (List.toArray [pt a0_g, .agg (List.toArray [.slice a1_0_A a1_0_n a1_0_c, .slice a1_1_A a1_1_n a1_1_c, .slice a1_2_A a1_2_n a1_2_c, .slice a1_3_A a1_3_n a1_3_c])]) w fun e w' => ∃ x : (Sl r1.length) × (Sl r2.length) × (Sl r3.length) × (Sl r4.length), e = .returned (.agg (List.toArray [.slice x.1.A x.1.n x.1.c, .slice x.2.1.A x.2.1.n x.2.1.c, .slice x.2.2.1.A x.2.2.1.n x.2.2.1.c, .slice x.2.2.2.A x.2.2.2.n x.2.2.2.c])) ∧ Mem w0 (.row x.1.A x.1.c 3 1 (ii r1) :: .row x.2.1.A x.2.1.c 3 1 (ii r2) :: .row x.2.2.1.A x.2.2.1.c 3 1 (ii r3) :: .row x.2.2.2.A x.2.2.2.c 3 1 (ii r4) :: .box a0_g 92 [.slice a0_0_A a0_0_n a0_0_c, i6 r5] :: F) w' := by
  unfold spec_l4Wrong.f at h
  refine calls_of_J (n := 30) Try.func74 rfl rfl rfl hm ?_
  refine j_seq ?_
  refine j_region ?_
  refine r_do (a_box rfl rfl) rfl rfl (fun x1 => ?_)
  refine r_do (a_alloc zr36 rfl) rfl rfl (fun x2 => ?_)
  refine r_nil ?_
  refine j_then ?_
  refine j_seq ?_
  refine j_region ?_
  refine r_q (q_loadb_agg 1 rfl ag36 sz36 rfl rfl rfl rfl) rfl rfl ?_
  obtain ⟨v1, v2, v3, v4, hb1, h⟩ := of_b4 h
  refine r_do (a_call ok52 rfl rfl rfl rfl (fun w hm => spec_l4Copy.calls K a1_0 a1_0_A a1_0_n a1_0_c a1_1 a1_1_A a1_1_n a1_1_c a1_2 a1_2_A a1_2_n a1_2_c a1_3 a1_3_A a1_3_n a1_3_c hm a1_0_h (Rd.drop 3 a1_0_R) a1_1_h (Rd.drop 3 a1_1_R) a1_2_h (Rd.drop 3 a1_2_R) a1_3_h (Rd.drop 3 a1_3_R) hb1)) rfl rfl (fun x3 => ?_)
  refine r_do (a_alloc zr36 rfl) rfl rfl (fun x4 => ?_)
  refine r_do (a_storeb 0 rfl sz36 rfl rfl rfl rfl (Nat.le_of_ble_eq_true rfl) rfl) rfl rfl (fun _ => ?_)
  refine j_b0 [(.slice x3.1.A x3.1.n x3.1.c), (.slice x3.2.1.A x3.2.1.n x3.2.1.c), (.slice x3.2.2.1.A x3.2.2.1.n x3.2.2.1.c), (.slice x3.2.2.2.A x3.2.2.2.n x3.2.2.2.c)] rfl ?_
  refine r_nil ?_
  refine j_then ?_
  refine j_seq ?_
  refine j_seq ?_
  refine j_region ?_
  refine r_q (q_move rfl rfl) rfl rfl ?_
  obtain ⟨v5, v6, hb2, h⟩ := of_b2 h
  refine j_rs (.box a0_g 92 [(.slice a0_0_A a0_0_n a0_0_c), (i6 a0_1)] :: .box x4 36 [(.slice x3.1.A x3.1.n x3.1.c), (.slice x3.2.1.A x3.2.1.n x3.2.1.c), (.slice x3.2.2.1.A x3.2.2.1.n x3.2.2.1.c), (.slice x3.2.2.2.A x3.2.2.2.n x3.2.2.2.c)] :: .row x3.1.A x3.1.c 3 1 (ii v1) :: .row x3.2.1.A x3.2.1.c 3 1 (ii v2) :: .row x3.2.2.1.A x3.2.2.1.c 3 1 (ii v3) :: .row x3.2.2.2.A x3.2.2.2.c 3 1 (ii v4) :: .box x2 36 [(.slice none 0 0), (.slice none 0 0), (.slice none 0 0), (.slice none 0 0)] :: .box x1 36 [(.slice a1_0_A a1_0_n a1_0_c), (.slice a1_1_A a1_1_n a1_1_c), (.slice a1_2_A a1_2_n a1_2_c), (.slice a1_3_A a1_3_n a1_3_c)] :: F) (fun _ h => h.pick 8 [7, 0, 1, 2, 3, 4, 5, 6] rfl) ?_
  refine r_do (a_call ok73 rfl rfl rfl rfl (fun w hm => spec_l13Rd_pick.calls K a0_g a0_0 a0_0_A a0_0_n a0_0_c a0_1 (20:Int) hm a0_0_h (Rd.drop 7 a0_0_R) hb2)) rfl rfl (fun x5 => ?_)
  refine r_nil ?_
  refine j_then ?_
  refine j_block ?_
  refine j_seq ?_
  refine j_region ?_
  refine r_q (q_eql rfl rfl rfl) rfl rfl ?_
  refine r_q (q_assign rfl rfl) rfl rfl ?_
  refine r_nil ?_
  refine j_then ?_
  rcases of_if h with ⟨c1, h⟩ | ⟨c1, h⟩
  · refine j_true rfl (beq_t c1) ?_
    obtain ⟨v7, v8, hb3, h⟩ := of_b2 h
    obtain ⟨c2, h⟩ := of_guard h
    refine j_draw (.row x3.1.A x3.1.c 3 1 (ii v1) :: .row x3.2.1.A x3.2.1.c 3 1 (ii v2) :: .row x3.2.2.1.A x3.2.2.1.c 3 1 (ii v3) :: .box x2 36 [(.slice none 0 0), (.slice none 0 0), (.slice none 0 0), (.slice none 0 0)] :: .box x1 36 [(.slice a1_0_A a1_0_n a1_0_c), (.slice a1_1_A a1_1_n a1_1_c), (.slice a1_2_A a1_2_n a1_2_c), (.slice a1_3_A a1_3_n a1_3_c)] :: F) 9 follows_any rfl ?_
    refine d_take 0 rfl (q_fieldAddr fi36_1 sz22 rfl rfl rfl) rfl rfl (by kernel_rfl) (by kernel_rfl) (by kernel_rfl) (fun w h => h.pick 8 [2, 3, 4, 6, 7] rfl) ?_
    refine d_take 2 rfl (q_move rfl rfl) rfl rfl (by kernel_rfl) (by kernel_rfl) (by kernel_rfl) (fun w h => h.pick 8 [2, 3, 4, 6, 7] rfl) ?_
    refine d_join (σ := (Option Addr) × Unit × (Option Addr) × (Option Addr × Nat)) 0 #[true, true, true, true, true, true, true, true, true] (fun s => [(4, (pt x2)), (5, (pt x4))]) (fun s => .row s.1 4 3 1 (ii ([(0:Int), (1:Int), (8:Int), (-1:Int)] : List Int)) :: .row s.2.2.1 1 3 1 (ii ([v7] : List Int)) :: .row s.2.2.2.1 s.2.2.2.2 3 1 (ii (v4 ++ ([v7] : List Int))) :: .box a0_g 92 [(.slice a0_0_A a0_0_n a0_0_c), (i6 v8)] :: .box x4 36 [(.slice x3.1.A x3.1.n x3.1.c), (.slice x3.2.1.A x3.2.1.n x3.2.1.c), (.slice x3.2.2.1.A x3.2.2.1.n x3.2.2.1.c), (.slice s.2.2.2.1 (x3.2.2.2.n + 1) s.2.2.2.2)] :: .row x3.1.A x3.1.c 3 1 (ii v1) :: .row x3.2.1.A x3.2.1.c 3 1 (ii v2) :: .row x3.2.2.1.A x3.2.2.1.c 3 1 (ii v3) :: .box x2 36 [(.slice none 0 0), (.slice none 0 0), (.slice none 0 0), (.slice none 0 0)] :: .box x1 36 [(.slice a1_0_A a1_0_n a1_0_c), (.slice a1_1_A a1_1_n a1_1_c), (.slice a1_2_A a1_2_n a1_2_c), (.slice a1_3_A a1_3_n a1_3_c)] :: F) ?_ (fun hD511 => ?_)
    · rintro ⟨x6, x7, x8, x9⟩
      show J _ _ [(4, (pt x2)), (5, (pt x4))] _ (.row x6 4 3 1 (ii ([(0:Int), (1:Int), (8:Int), (-1:Int)] : List Int)) :: .row x8 1 3 1 (ii ([v7] : List Int)) :: .row x9.1 x9.2 3 1 (ii (v4 ++ ([v7] : List Int))) :: .box a0_g 92 [(.slice a0_0_A a0_0_n a0_0_c), (i6 v8)] :: .box x4 36 [(.slice x3.1.A x3.1.n x3.1.c), (.slice x3.2.1.A x3.2.1.n x3.2.1.c), (.slice x3.2.2.1.A x3.2.2.1.n x3.2.2.1.c), (.slice x9.1 (x3.2.2.2.n + 1) x9.2)] :: .row x3.1.A x3.1.c 3 1 (ii v1) :: .row x3.2.1.A x3.2.1.c 3 1 (ii v2) :: .row x3.2.2.1.A x3.2.2.1.c 3 1 (ii v3) :: .box x2 36 [(.slice none 0 0), (.slice none 0 0), (.slice none 0 0), (.slice none 0 0)] :: .box x1 36 [(.slice a1_0_A a1_0_n a1_0_c), (.slice a1_1_A a1_1_n a1_1_c), (.slice a1_2_A a1_2_n a1_2_c), (.slice a1_3_A a1_3_n a1_3_c)] :: F)
      refine d_done (by kernel_rfl) ?_
      refine j_in ?_
      refine j_then ?_
      refine j_seq ?_
      refine j_region ?_
      refine r_q (q_loadb_agg 4 rfl ag36 sz36 rfl rfl rfl rfl) rfl rfl ?_
      refine r_do (a_storeb 8 rfl sz36 rfl rfl rfl rfl (Nat.le_of_ble_eq_true rfl) rfl) rfl rfl (fun _ => ?_)
      refine j_b8 [(.slice x3.1.A x3.1.n x3.1.c), (.slice x3.2.1.A x3.2.1.n x3.2.1.c), (.slice x3.2.2.1.A x3.2.2.1.n x3.2.2.1.c), (.slice x9.1 (x3.2.2.2.n + 1) x9.2)] rfl ?_
      refine r_nil ?_
      refine j_then ?_
      refine j_ret ?_
      cases h
      exact j_return rfl (ResOf.cell 8 rfl rfl ag36 sz36 ResOf.nil) rfl (fun w h => ⟨(⟨x3.1.A, x3.1.n, x3.1.c, x3.1.h⟩, ⟨x3.2.1.A, x3.2.1.n, x3.2.1.c, x3.2.1.h⟩, ⟨x3.2.2.1.A, x3.2.2.1.n, x3.2.2.1.c, x3.2.2.1.h⟩, ⟨x9.1, (x3.2.2.2.n + 1), x9.2, (app_len x3.2.2.2.h rfl)⟩), rfl, h.pick 10 [5, 6, 7, 2, 3] rfl⟩)
    refine d_join (σ := (Option Addr) × Unit × (Option Addr) × (Option Addr × Nat)) 1 #[true, true, true, true, true, true, true, true, false] (fun s => [(4, (pt x2)), (5, (pt x4)), (18, (.slice s.2.2.2.1 (x3.2.2.2.n + 1) s.2.2.2.2)), (19, (.pointer (some ⟨x4, 3, none⟩)))]) (fun s => .row s.1 4 3 1 (ii ([(0:Int), (1:Int), (8:Int), (-1:Int)] : List Int)) :: .row s.2.2.1 1 3 1 (ii ([v7] : List Int)) :: .row s.2.2.2.1 s.2.2.2.2 3 1 (ii (v4 ++ ([v7] : List Int))) :: .box a0_g 92 [(.slice a0_0_A a0_0_n a0_0_c), (i6 v8)] :: .box x4 36 [(.slice x3.1.A x3.1.n x3.1.c), (.slice x3.2.1.A x3.2.1.n x3.2.1.c), (.slice x3.2.2.1.A x3.2.2.1.n x3.2.2.1.c), (.slice x3.2.2.2.A x3.2.2.2.n x3.2.2.2.c)] :: .row x3.1.A x3.1.c 3 1 (ii v1) :: .row x3.2.1.A x3.2.1.c 3 1 (ii v2) :: .row x3.2.2.1.A x3.2.2.1.c 3 1 (ii v3) :: .box x2 36 [(.slice none 0 0), (.slice none 0 0), (.slice none 0 0), (.slice none 0 0)] :: .box x1 36 [(.slice a1_0_A a1_0_n a1_0_c), (.slice a1_1_A a1_1_n a1_1_c), (.slice a1_2_A a1_2_n a1_2_c), (.slice a1_3_A a1_3_n a1_3_c)] :: F) ?_ (fun hD255 => ?_)
    · rintro ⟨x6, x7, x8, x9⟩
      show J _ _ [(4, (pt x2)), (5, (pt x4)), (18, (.slice x9.1 (x3.2.2.2.n + 1) x9.2)), (19, (.pointer (some ⟨x4, 3, none⟩)))] _ (.row x6 4 3 1 (ii ([(0:Int), (1:Int), (8:Int), (-1:Int)] : List Int)) :: .row x8 1 3 1 (ii ([v7] : List Int)) :: .row x9.1 x9.2 3 1 (ii (v4 ++ ([v7] : List Int))) :: .box a0_g 92 [(.slice a0_0_A a0_0_n a0_0_c), (i6 v8)] :: .box x4 36 [(.slice x3.1.A x3.1.n x3.1.c), (.slice x3.2.1.A x3.2.1.n x3.2.1.c), (.slice x3.2.2.1.A x3.2.2.1.n x3.2.2.1.c), (.slice x3.2.2.2.A x3.2.2.2.n x3.2.2.2.c)] :: .row x3.1.A x3.1.c 3 1 (ii v1) :: .row x3.2.1.A x3.2.1.c 3 1 (ii v2) :: .row x3.2.2.1.A x3.2.2.1.c 3 1 (ii v3) :: .box x2 36 [(.slice none 0 0), (.slice none 0 0), (.slice none 0 0), (.slice none 0 0)] :: .box x1 36 [(.slice a1_0_A a1_0_n a1_0_c), (.slice a1_1_A a1_1_n a1_1_c), (.slice a1_2_A a1_2_n a1_2_c), (.slice a1_3_A a1_3_n a1_3_c)] :: F)
      refine d_one 8 (by kernel_rfl) ?_
      · refine o_do rfl (a_storeb 4 rfl sz22 rfl rfl rfl rfl (Nat.le_of_ble_eq_true rfl) rfl) rfl rfl (fun _ w h => (h.drop 5)) (fun _ => ?_)
        refine j_b4 [(.slice x3.1.A x3.1.n x3.1.c), (.slice x3.2.1.A x3.2.1.n x3.2.1.c), (.slice x3.2.2.1.A x3.2.2.1.n x3.2.2.1.c), (.slice x9.1 (x3.2.2.2.n + 1) x9.2)] rfl ?_
        refine j_rs (.row x6 4 3 1 (ii ([(0:Int), (1:Int), (8:Int), (-1:Int)] : List Int)) :: .row x8 1 3 1 (ii ([v7] : List Int)) :: .row x9.1 x9.2 3 1 (ii (v4 ++ ([v7] : List Int))) :: .box a0_g 92 [(.slice a0_0_A a0_0_n a0_0_c), (i6 v8)] :: .box x4 36 [(.slice x3.1.A x3.1.n x3.1.c), (.slice x3.2.1.A x3.2.1.n x3.2.1.c), (.slice x3.2.2.1.A x3.2.2.1.n x3.2.2.1.c), (.slice x9.1 (x3.2.2.2.n + 1) x9.2)] :: .row x3.1.A x3.1.c 3 1 (ii v1) :: .row x3.2.1.A x3.2.1.c 3 1 (ii v2) :: .row x3.2.2.1.A x3.2.2.1.c 3 1 (ii v3) :: .box x2 36 [(.slice none 0 0), (.slice none 0 0), (.slice none 0 0), (.slice none 0 0)] :: .box x1 36 [(.slice a1_0_A a1_0_n a1_0_c), (.slice a1_1_A a1_1_n a1_1_c), (.slice a1_2_A a1_2_n a1_2_c), (.slice a1_3_A a1_3_n a1_3_c)] :: F) (fun _ h => h) ?_
        refine j_env [(4, (pt x2)), (5, (pt x4))] ⟨rfl, rfl, trivial⟩ ?_
        exact hD511 (x6, x7, x8, x9)
    refine d_join (σ := (Option Addr) × Unit × (Option Addr)) 3 #[true, true, true, true, true, true, false, false, false] (fun s => [(4, (pt x2)), (5, (pt x4)), (13, (.slice x3.2.2.2.A x3.2.2.2.n x3.2.2.2.c)), (17, (.slice s.2.2 1 1))]) (fun s => .row s.1 4 3 1 (ii ([(0:Int), (1:Int), (8:Int), (-1:Int)] : List Int)) :: .row s.2.2 1 3 1 (ii ([v7] : List Int)) :: .box a0_g 92 [(.slice a0_0_A a0_0_n a0_0_c), (i6 v8)] :: .box x4 36 [(.slice x3.1.A x3.1.n x3.1.c), (.slice x3.2.1.A x3.2.1.n x3.2.1.c), (.slice x3.2.2.1.A x3.2.2.1.n x3.2.2.1.c), (.slice x3.2.2.2.A x3.2.2.2.n x3.2.2.2.c)] :: .row x3.1.A x3.1.c 3 1 (ii v1) :: .row x3.2.1.A x3.2.1.c 3 1 (ii v2) :: .row x3.2.2.1.A x3.2.2.1.c 3 1 (ii v3) :: .row x3.2.2.2.A x3.2.2.2.c 3 1 (ii v4) :: .box x2 36 [(.slice none 0 0), (.slice none 0 0), (.slice none 0 0), (.slice none 0 0)] :: .box x1 36 [(.slice a1_0_A a1_0_n a1_0_c), (.slice a1_1_A a1_1_n a1_1_c), (.slice a1_2_A a1_2_n a1_2_c), (.slice a1_3_A a1_3_n a1_3_c)] :: F) ?_ (fun hD63 => ?_)
    · rintro ⟨x6, x7, x8⟩
      show J _ _ [(4, (pt x2)), (5, (pt x4)), (13, (.slice x3.2.2.2.A x3.2.2.2.n x3.2.2.2.c)), (17, (.slice x8 1 1))] _ (.row x6 4 3 1 (ii ([(0:Int), (1:Int), (8:Int), (-1:Int)] : List Int)) :: .row x8 1 3 1 (ii ([v7] : List Int)) :: .box a0_g 92 [(.slice a0_0_A a0_0_n a0_0_c), (i6 v8)] :: .box x4 36 [(.slice x3.1.A x3.1.n x3.1.c), (.slice x3.2.1.A x3.2.1.n x3.2.1.c), (.slice x3.2.2.1.A x3.2.2.1.n x3.2.2.1.c), (.slice x3.2.2.2.A x3.2.2.2.n x3.2.2.2.c)] :: .row x3.1.A x3.1.c 3 1 (ii v1) :: .row x3.2.1.A x3.2.1.c 3 1 (ii v2) :: .row x3.2.2.1.A x3.2.2.1.c 3 1 (ii v3) :: .row x3.2.2.2.A x3.2.2.2.c 3 1 (ii v4) :: .box x2 36 [(.slice none 0 0), (.slice none 0 0), (.slice none 0 0), (.slice none 0 0)] :: .box x1 36 [(.slice a1_0_A a1_0_n a1_0_c), (.slice a1_1_A a1_1_n a1_1_c), (.slice a1_2_A a1_2_n a1_2_c), (.slice a1_3_A a1_3_n a1_3_c)] :: F)
      refine d_one 6 (by kernel_rfl) ?_
      · refine o_do rfl (a_appI (xs := v4) (ys := ([v7] : List Int)) 7 un22 un22 sz3 by3 zr3 rfl rfl rfl rfl rfl rfl rfl rfl rfl x3.2.2.2.h rfl (Rd.row 1 rfl) c2) rfl rfl (fun x9 w h => h.pick 10 [4, 5, 6, 8, 9] rfl) (fun x9 => ?_)
        refine j_s7 ?_
        refine d_take 7 rfl (q_fieldAddr fi36_1 sz22 rfl rfl rfl) rfl rfl (by kernel_rfl) (by kernel_rfl) (by kernel_rfl) (fun w h => h.pick 10 [4, 5, 6, 8, 9] rfl) ?_
        refine j_rs (.row x6 4 3 1 (ii ([(0:Int), (1:Int), (8:Int), (-1:Int)] : List Int)) :: .row x8 1 3 1 (ii ([v7] : List Int)) :: .row x9.1 x9.2 3 1 (ii (v4 ++ ([v7] : List Int))) :: .box a0_g 92 [(.slice a0_0_A a0_0_n a0_0_c), (i6 v8)] :: .box x4 36 [(.slice x3.1.A x3.1.n x3.1.c), (.slice x3.2.1.A x3.2.1.n x3.2.1.c), (.slice x3.2.2.1.A x3.2.2.1.n x3.2.2.1.c), (.slice x3.2.2.2.A x3.2.2.2.n x3.2.2.2.c)] :: .row x3.1.A x3.1.c 3 1 (ii v1) :: .row x3.2.1.A x3.2.1.c 3 1 (ii v2) :: .row x3.2.2.1.A x3.2.2.1.c 3 1 (ii v3) :: .box x2 36 [(.slice none 0 0), (.slice none 0 0), (.slice none 0 0), (.slice none 0 0)] :: .box x1 36 [(.slice a1_0_A a1_0_n a1_0_c), (.slice a1_1_A a1_1_n a1_1_c), (.slice a1_2_A a1_2_n a1_2_c), (.slice a1_3_A a1_3_n a1_3_c)] :: F) (fun _ h => h.pick 10 [0, 1, 7, 2, 3, 4, 5, 6, 8, 9] rfl) ?_
        refine j_env [(4, (pt x2)), (5, (pt x4)), (18, (.slice x9.1 (x3.2.2.2.n + 1) x9.2)), (19, (.pointer (some ⟨x4, 3, none⟩)))] ⟨rfl, rfl, rfl, rfl, trivial⟩ ?_
        exact hD255 (x6, x7, x8, x9)
    refine d_join (σ := (Option Addr) × Unit) 4 #[true, true, true, true, true, false, false, false, false] (fun s => [(4, (pt x2)), (5, (pt x4)), (13, (.slice x3.2.2.2.A x3.2.2.2.n x3.2.2.2.c)), (16, (i6 v7))]) (fun s => .row s.1 4 3 1 (ii ([(0:Int), (1:Int), (8:Int), (-1:Int)] : List Int)) :: .box a0_g 92 [(.slice a0_0_A a0_0_n a0_0_c), (i6 v8)] :: .box x4 36 [(.slice x3.1.A x3.1.n x3.1.c), (.slice x3.2.1.A x3.2.1.n x3.2.1.c), (.slice x3.2.2.1.A x3.2.2.1.n x3.2.2.1.c), (.slice x3.2.2.2.A x3.2.2.2.n x3.2.2.2.c)] :: .row x3.1.A x3.1.c 3 1 (ii v1) :: .row x3.2.1.A x3.2.1.c 3 1 (ii v2) :: .row x3.2.2.1.A x3.2.2.1.c 3 1 (ii v3) :: .row x3.2.2.2.A x3.2.2.2.c 3 1 (ii v4) :: .box x2 36 [(.slice none 0 0), (.slice none 0 0), (.slice none 0 0), (.slice none 0 0)] :: .box x1 36 [(.slice a1_0_A a1_0_n a1_0_c), (.slice a1_1_A a1_1_n a1_1_c), (.slice a1_2_A a1_2_n a1_2_c), (.slice a1_3_A a1_3_n a1_3_c)] :: F) ?_ (fun hD31 => ?_)
    · rintro ⟨x6, x7⟩
      show J _ _ [(4, (pt x2)), (5, (pt x4)), (13, (.slice x3.2.2.2.A x3.2.2.2.n x3.2.2.2.c)), (16, (i6 v7))] _ (.row x6 4 3 1 (ii ([(0:Int), (1:Int), (8:Int), (-1:Int)] : List Int)) :: .box a0_g 92 [(.slice a0_0_A a0_0_n a0_0_c), (i6 v8)] :: .box x4 36 [(.slice x3.1.A x3.1.n x3.1.c), (.slice x3.2.1.A x3.2.1.n x3.2.1.c), (.slice x3.2.2.1.A x3.2.2.1.n x3.2.2.1.c), (.slice x3.2.2.2.A x3.2.2.2.n x3.2.2.2.c)] :: .row x3.1.A x3.1.c 3 1 (ii v1) :: .row x3.2.1.A x3.2.1.c 3 1 (ii v2) :: .row x3.2.2.1.A x3.2.2.1.c 3 1 (ii v3) :: .row x3.2.2.2.A x3.2.2.2.c 3 1 (ii v4) :: .box x2 36 [(.slice none 0 0), (.slice none 0 0), (.slice none 0 0), (.slice none 0 0)] :: .box x1 36 [(.slice a1_0_A a1_0_n a1_0_c), (.slice a1_1_A a1_1_n a1_1_c), (.slice a1_2_A a1_2_n a1_2_c), (.slice a1_3_A a1_3_n a1_3_c)] :: F)
      refine d_one 5 (by kernel_rfl) ?_
      · refine o_do rfl (a_litX (vs := [(i6 v7)]) (ii ([v7] : List Int)) un22 sz3 zr3 rfl rfl rfl rfl rfl rfl rfl rfl rfl) rfl rfl (fun x8 w h => h.pick 10 [4, 5, 6, 8, 9] rfl) (fun x8 => ?_)
        refine j_rs (.row x6 4 3 1 (ii ([(0:Int), (1:Int), (8:Int), (-1:Int)] : List Int)) :: .row x8 1 3 1 (ii ([v7] : List Int)) :: .box a0_g 92 [(.slice a0_0_A a0_0_n a0_0_c), (i6 v8)] :: .box x4 36 [(.slice x3.1.A x3.1.n x3.1.c), (.slice x3.2.1.A x3.2.1.n x3.2.1.c), (.slice x3.2.2.1.A x3.2.2.1.n x3.2.2.1.c), (.slice x3.2.2.2.A x3.2.2.2.n x3.2.2.2.c)] :: .row x3.1.A x3.1.c 3 1 (ii v1) :: .row x3.2.1.A x3.2.1.c 3 1 (ii v2) :: .row x3.2.2.1.A x3.2.2.1.c 3 1 (ii v3) :: .row x3.2.2.2.A x3.2.2.2.c 3 1 (ii v4) :: .box x2 36 [(.slice none 0 0), (.slice none 0 0), (.slice none 0 0), (.slice none 0 0)] :: .box x1 36 [(.slice a1_0_A a1_0_n a1_0_c), (.slice a1_1_A a1_1_n a1_1_c), (.slice a1_2_A a1_2_n a1_2_c), (.slice a1_3_A a1_3_n a1_3_c)] :: F) (fun _ h => h.pick 10 [1, 0, 2, 3, 4, 5, 6, 7, 8, 9] rfl) ?_
        refine j_env [(4, (pt x2)), (5, (pt x4)), (13, (.slice x3.2.2.2.A x3.2.2.2.n x3.2.2.2.c)), (17, (.slice x8 1 1))] ⟨rfl, rfl, rfl, rfl, trivial⟩ ?_
        exact hD63 (x6, x7, x8)
    refine d_join (σ := (Option Addr) × Unit × (Option Addr)) 4 #[true, false, true, true, true, true, false, false, false] (fun s => [(4, (pt x2)), (5, (pt x4)), (12, (.pointer (some ⟨x4, 3, none⟩))), (17, (.slice s.2.2 1 1))]) (fun s => .row s.1 4 3 1 (ii ([(0:Int), (1:Int), (8:Int), (-1:Int)] : List Int)) :: .row s.2.2 1 3 1 (ii ([v7] : List Int)) :: .box a0_g 92 [(.slice a0_0_A a0_0_n a0_0_c), (i6 v8)] :: .box x4 36 [(.slice x3.1.A x3.1.n x3.1.c), (.slice x3.2.1.A x3.2.1.n x3.2.1.c), (.slice x3.2.2.1.A x3.2.2.1.n x3.2.2.1.c), (.slice x3.2.2.2.A x3.2.2.2.n x3.2.2.2.c)] :: .row x3.1.A x3.1.c 3 1 (ii v1) :: .row x3.2.1.A x3.2.1.c 3 1 (ii v2) :: .row x3.2.2.1.A x3.2.2.1.c 3 1 (ii v3) :: .row x3.2.2.2.A x3.2.2.2.c 3 1 (ii v4) :: .box x2 36 [(.slice none 0 0), (.slice none 0 0), (.slice none 0 0), (.slice none 0 0)] :: .box x1 36 [(.slice a1_0_A a1_0_n a1_0_c), (.slice a1_1_A a1_1_n a1_1_c), (.slice a1_2_A a1_2_n a1_2_c), (.slice a1_3_A a1_3_n a1_3_c)] :: F) ?_ (fun hD61 => ?_)
    · rintro ⟨x6, x7, x8⟩
      show J _ _ [(4, (pt x2)), (5, (pt x4)), (12, (.pointer (some ⟨x4, 3, none⟩))), (17, (.slice x8 1 1))] _ (.row x6 4 3 1 (ii ([(0:Int), (1:Int), (8:Int), (-1:Int)] : List Int)) :: .row x8 1 3 1 (ii ([v7] : List Int)) :: .box a0_g 92 [(.slice a0_0_A a0_0_n a0_0_c), (i6 v8)] :: .box x4 36 [(.slice x3.1.A x3.1.n x3.1.c), (.slice x3.2.1.A x3.2.1.n x3.2.1.c), (.slice x3.2.2.1.A x3.2.2.1.n x3.2.2.1.c), (.slice x3.2.2.2.A x3.2.2.2.n x3.2.2.2.c)] :: .row x3.1.A x3.1.c 3 1 (ii v1) :: .row x3.2.1.A x3.2.1.c 3 1 (ii v2) :: .row x3.2.2.1.A x3.2.2.1.c 3 1 (ii v3) :: .row x3.2.2.2.A x3.2.2.2.c 3 1 (ii v4) :: .box x2 36 [(.slice none 0 0), (.slice none 0 0), (.slice none 0 0), (.slice none 0 0)] :: .box x1 36 [(.slice a1_0_A a1_0_n a1_0_c), (.slice a1_1_A a1_1_n a1_1_c), (.slice a1_2_A a1_2_n a1_2_c), (.slice a1_3_A a1_3_n a1_3_c)] :: F)
      refine d_one 1 (by kernel_rfl) ?_
      · refine o_do rfl ((q_loadb 3 rfl ag22 rfl rfl rfl)).acts rfl rfl (fun _ w h => h.pick 10 [4, 5, 6, 8, 9] rfl) (fun _ => ?_)
        refine j_rs (.row x6 4 3 1 (ii ([(0:Int), (1:Int), (8:Int), (-1:Int)] : List Int)) :: .row x8 1 3 1 (ii ([v7] : List Int)) :: .box a0_g 92 [(.slice a0_0_A a0_0_n a0_0_c), (i6 v8)] :: .box x4 36 [(.slice x3.1.A x3.1.n x3.1.c), (.slice x3.2.1.A x3.2.1.n x3.2.1.c), (.slice x3.2.2.1.A x3.2.2.1.n x3.2.2.1.c), (.slice x3.2.2.2.A x3.2.2.2.n x3.2.2.2.c)] :: .row x3.1.A x3.1.c 3 1 (ii v1) :: .row x3.2.1.A x3.2.1.c 3 1 (ii v2) :: .row x3.2.2.1.A x3.2.2.1.c 3 1 (ii v3) :: .row x3.2.2.2.A x3.2.2.2.c 3 1 (ii v4) :: .box x2 36 [(.slice none 0 0), (.slice none 0 0), (.slice none 0 0), (.slice none 0 0)] :: .box x1 36 [(.slice a1_0_A a1_0_n a1_0_c), (.slice a1_1_A a1_1_n a1_1_c), (.slice a1_2_A a1_2_n a1_2_c), (.slice a1_3_A a1_3_n a1_3_c)] :: F) (fun _ h => h) ?_
        refine j_env [(4, (pt x2)), (5, (pt x4)), (13, (.slice x3.2.2.2.A x3.2.2.2.n x3.2.2.2.c)), (17, (.slice x8 1 1))] ⟨rfl, rfl, rfl, rfl, trivial⟩ ?_
        exact hD63 (x6, x7, x8)
    refine d_join (σ := (Option Addr)) 5 #[true, true, true, true, false, false, false, false, false] (fun s => [(4, (pt x2)), (5, (pt x4)), (13, (.slice x3.2.2.2.A x3.2.2.2.n x3.2.2.2.c)), (14, (pt a0_g)), (15, (.slice s 4 4))]) (fun s => .row s 4 3 1 (ii ([(0:Int), (1:Int), (8:Int), (-1:Int)] : List Int)) :: .box a0_g 92 [(.slice a0_0_A a0_0_n a0_0_c), (i6 v6)] :: .box x4 36 [(.slice x3.1.A x3.1.n x3.1.c), (.slice x3.2.1.A x3.2.1.n x3.2.1.c), (.slice x3.2.2.1.A x3.2.2.1.n x3.2.2.1.c), (.slice x3.2.2.2.A x3.2.2.2.n x3.2.2.2.c)] :: .row x3.1.A x3.1.c 3 1 (ii v1) :: .row x3.2.1.A x3.2.1.c 3 1 (ii v2) :: .row x3.2.2.1.A x3.2.2.1.c 3 1 (ii v3) :: .row x3.2.2.2.A x3.2.2.2.c 3 1 (ii v4) :: .box x2 36 [(.slice none 0 0), (.slice none 0 0), (.slice none 0 0), (.slice none 0 0)] :: .box x1 36 [(.slice a1_0_A a1_0_n a1_0_c), (.slice a1_1_A a1_1_n a1_1_c), (.slice a1_2_A a1_2_n a1_2_c), (.slice a1_3_A a1_3_n a1_3_c)] :: F) ?_ (fun hD15 => ?_)
    · rintro x6
      show J _ _ [(4, (pt x2)), (5, (pt x4)), (13, (.slice x3.2.2.2.A x3.2.2.2.n x3.2.2.2.c)), (14, (pt a0_g)), (15, (.slice x6 4 4))] _ (.row x6 4 3 1 (ii ([(0:Int), (1:Int), (8:Int), (-1:Int)] : List Int)) :: .box a0_g 92 [(.slice a0_0_A a0_0_n a0_0_c), (i6 v6)] :: .box x4 36 [(.slice x3.1.A x3.1.n x3.1.c), (.slice x3.2.1.A x3.2.1.n x3.2.1.c), (.slice x3.2.2.1.A x3.2.2.1.n x3.2.2.1.c), (.slice x3.2.2.2.A x3.2.2.2.n x3.2.2.2.c)] :: .row x3.1.A x3.1.c 3 1 (ii v1) :: .row x3.2.1.A x3.2.1.c 3 1 (ii v2) :: .row x3.2.2.1.A x3.2.2.1.c 3 1 (ii v3) :: .row x3.2.2.2.A x3.2.2.2.c 3 1 (ii v4) :: .box x2 36 [(.slice none 0 0), (.slice none 0 0), (.slice none 0 0), (.slice none 0 0)] :: .box x1 36 [(.slice a1_0_A a1_0_n a1_0_c), (.slice a1_1_A a1_1_n a1_1_c), (.slice a1_2_A a1_2_n a1_2_c), (.slice a1_3_A a1_3_n a1_3_c)] :: F)
      refine d_one 4 (by kernel_rfl) ?_
      · refine j_rs (.box a0_g 92 [(.slice a0_0_A a0_0_n a0_0_c), (i6 v6)] :: .row x6 4 3 1 (ii ([(0:Int), (1:Int), (8:Int), (-1:Int)] : List Int)) :: .box x4 36 [(.slice x3.1.A x3.1.n x3.1.c), (.slice x3.2.1.A x3.2.1.n x3.2.1.c), (.slice x3.2.2.1.A x3.2.2.1.n x3.2.2.1.c), (.slice x3.2.2.2.A x3.2.2.2.n x3.2.2.2.c)] :: .row x3.1.A x3.1.c 3 1 (ii v1) :: .row x3.2.1.A x3.2.1.c 3 1 (ii v2) :: .row x3.2.2.1.A x3.2.2.1.c 3 1 (ii v3) :: .row x3.2.2.2.A x3.2.2.2.c 3 1 (ii v4) :: .box x2 36 [(.slice none 0 0), (.slice none 0 0), (.slice none 0 0), (.slice none 0 0)] :: .box x1 36 [(.slice a1_0_A a1_0_n a1_0_c), (.slice a1_1_A a1_1_n a1_1_c), (.slice a1_2_A a1_2_n a1_2_c), (.slice a1_3_A a1_3_n a1_3_c)] :: F) (fun _ h => h.pick 9 [1, 0, 2, 3, 4, 5, 6, 7, 8] rfl) ?_
        refine o_do rfl (a_call ok70 rfl rfl rfl rfl (fun w hm => spec_l13Rd_num.calls K a0_g a0_0 a0_0_A a0_0_n a0_0_c v6 ([(0:Int), (1:Int), (8:Int), (-1:Int)] : List Int) x6 4 4 hm a0_0_h (Rd.drop 8 a0_0_R) rfl (Rd.row 0 rfl) hb3)) rfl rfl (fun x7 w h => h.pick 9 [3, 4, 5, 7, 8] rfl) (fun x7 => ?_)
        refine j_rs (.row x6 4 3 1 (ii ([(0:Int), (1:Int), (8:Int), (-1:Int)] : List Int)) :: .box a0_g 92 [(.slice a0_0_A a0_0_n a0_0_c), (i6 v8)] :: .box x4 36 [(.slice x3.1.A x3.1.n x3.1.c), (.slice x3.2.1.A x3.2.1.n x3.2.1.c), (.slice x3.2.2.1.A x3.2.2.1.n x3.2.2.1.c), (.slice x3.2.2.2.A x3.2.2.2.n x3.2.2.2.c)] :: .row x3.1.A x3.1.c 3 1 (ii v1) :: .row x3.2.1.A x3.2.1.c 3 1 (ii v2) :: .row x3.2.2.1.A x3.2.2.1.c 3 1 (ii v3) :: .row x3.2.2.2.A x3.2.2.2.c 3 1 (ii v4) :: .box x2 36 [(.slice none 0 0), (.slice none 0 0), (.slice none 0 0), (.slice none 0 0)] :: .box x1 36 [(.slice a1_0_A a1_0_n a1_0_c), (.slice a1_1_A a1_1_n a1_1_c), (.slice a1_2_A a1_2_n a1_2_c), (.slice a1_3_A a1_3_n a1_3_c)] :: F) (fun _ h => h.pick 9 [1, 0, 2, 3, 4, 5, 6, 7, 8] rfl) ?_
        refine j_env [(4, (pt x2)), (5, (pt x4)), (13, (.slice x3.2.2.2.A x3.2.2.2.n x3.2.2.2.c)), (16, (i6 v7))] ⟨rfl, rfl, rfl, rfl, trivial⟩ ?_
        exact hD31 (x6, x7)
    refine d_join (σ := (Option Addr) × Unit) 5 #[true, false, true, true, true, false, false, false, false] (fun s => [(4, (pt x2)), (5, (pt x4)), (12, (.pointer (some ⟨x4, 3, none⟩))), (16, (i6 v7))]) (fun s => .row s.1 4 3 1 (ii ([(0:Int), (1:Int), (8:Int), (-1:Int)] : List Int)) :: .box a0_g 92 [(.slice a0_0_A a0_0_n a0_0_c), (i6 v8)] :: .box x4 36 [(.slice x3.1.A x3.1.n x3.1.c), (.slice x3.2.1.A x3.2.1.n x3.2.1.c), (.slice x3.2.2.1.A x3.2.2.1.n x3.2.2.1.c), (.slice x3.2.2.2.A x3.2.2.2.n x3.2.2.2.c)] :: .row x3.1.A x3.1.c 3 1 (ii v1) :: .row x3.2.1.A x3.2.1.c 3 1 (ii v2) :: .row x3.2.2.1.A x3.2.2.1.c 3 1 (ii v3) :: .row x3.2.2.2.A x3.2.2.2.c 3 1 (ii v4) :: .box x2 36 [(.slice none 0 0), (.slice none 0 0), (.slice none 0 0), (.slice none 0 0)] :: .box x1 36 [(.slice a1_0_A a1_0_n a1_0_c), (.slice a1_1_A a1_1_n a1_1_c), (.slice a1_2_A a1_2_n a1_2_c), (.slice a1_3_A a1_3_n a1_3_c)] :: F) ?_ (fun hD29 => ?_)
    · rintro ⟨x6, x7⟩
      show J _ _ [(4, (pt x2)), (5, (pt x4)), (12, (.pointer (some ⟨x4, 3, none⟩))), (16, (i6 v7))] _ (.row x6 4 3 1 (ii ([(0:Int), (1:Int), (8:Int), (-1:Int)] : List Int)) :: .box a0_g 92 [(.slice a0_0_A a0_0_n a0_0_c), (i6 v8)] :: .box x4 36 [(.slice x3.1.A x3.1.n x3.1.c), (.slice x3.2.1.A x3.2.1.n x3.2.1.c), (.slice x3.2.2.1.A x3.2.2.1.n x3.2.2.1.c), (.slice x3.2.2.2.A x3.2.2.2.n x3.2.2.2.c)] :: .row x3.1.A x3.1.c 3 1 (ii v1) :: .row x3.2.1.A x3.2.1.c 3 1 (ii v2) :: .row x3.2.2.1.A x3.2.2.1.c 3 1 (ii v3) :: .row x3.2.2.2.A x3.2.2.2.c 3 1 (ii v4) :: .box x2 36 [(.slice none 0 0), (.slice none 0 0), (.slice none 0 0), (.slice none 0 0)] :: .box x1 36 [(.slice a1_0_A a1_0_n a1_0_c), (.slice a1_1_A a1_1_n a1_1_c), (.slice a1_2_A a1_2_n a1_2_c), (.slice a1_3_A a1_3_n a1_3_c)] :: F)
      refine d_two 1 5 (by kernel_rfl) ?_ ?_
      · refine o_do rfl ((q_loadb 2 rfl ag22 rfl rfl rfl)).acts rfl rfl (fun _ w h => h.pick 9 [3, 4, 5, 7, 8] rfl) (fun _ => ?_)
        refine j_rs (.row x6 4 3 1 (ii ([(0:Int), (1:Int), (8:Int), (-1:Int)] : List Int)) :: .box a0_g 92 [(.slice a0_0_A a0_0_n a0_0_c), (i6 v8)] :: .box x4 36 [(.slice x3.1.A x3.1.n x3.1.c), (.slice x3.2.1.A x3.2.1.n x3.2.1.c), (.slice x3.2.2.1.A x3.2.2.1.n x3.2.2.1.c), (.slice x3.2.2.2.A x3.2.2.2.n x3.2.2.2.c)] :: .row x3.1.A x3.1.c 3 1 (ii v1) :: .row x3.2.1.A x3.2.1.c 3 1 (ii v2) :: .row x3.2.2.1.A x3.2.2.1.c 3 1 (ii v3) :: .row x3.2.2.2.A x3.2.2.2.c 3 1 (ii v4) :: .box x2 36 [(.slice none 0 0), (.slice none 0 0), (.slice none 0 0), (.slice none 0 0)] :: .box x1 36 [(.slice a1_0_A a1_0_n a1_0_c), (.slice a1_1_A a1_1_n a1_1_c), (.slice a1_2_A a1_2_n a1_2_c), (.slice a1_3_A a1_3_n a1_3_c)] :: F) (fun _ h => h) ?_
        refine j_env [(4, (pt x2)), (5, (pt x4)), (13, (.slice x3.2.2.2.A x3.2.2.2.n x3.2.2.2.c)), (16, (i6 v7))] ⟨rfl, rfl, rfl, rfl, trivial⟩ ?_
        exact hD31 (x6, x7)
      · refine o_do rfl (a_litX (vs := [(i6 v7)]) (ii ([v7] : List Int)) un22 sz3 zr3 rfl rfl rfl rfl rfl rfl rfl rfl rfl) rfl rfl (fun x8 w h => h.pick 10 [4, 5, 6, 8, 9] rfl) (fun x8 => ?_)
        refine j_rs (.row x6 4 3 1 (ii ([(0:Int), (1:Int), (8:Int), (-1:Int)] : List Int)) :: .row x8 1 3 1 (ii ([v7] : List Int)) :: .box a0_g 92 [(.slice a0_0_A a0_0_n a0_0_c), (i6 v8)] :: .box x4 36 [(.slice x3.1.A x3.1.n x3.1.c), (.slice x3.2.1.A x3.2.1.n x3.2.1.c), (.slice x3.2.2.1.A x3.2.2.1.n x3.2.2.1.c), (.slice x3.2.2.2.A x3.2.2.2.n x3.2.2.2.c)] :: .row x3.1.A x3.1.c 3 1 (ii v1) :: .row x3.2.1.A x3.2.1.c 3 1 (ii v2) :: .row x3.2.2.1.A x3.2.2.1.c 3 1 (ii v3) :: .row x3.2.2.2.A x3.2.2.2.c 3 1 (ii v4) :: .box x2 36 [(.slice none 0 0), (.slice none 0 0), (.slice none 0 0), (.slice none 0 0)] :: .box x1 36 [(.slice a1_0_A a1_0_n a1_0_c), (.slice a1_1_A a1_1_n a1_1_c), (.slice a1_2_A a1_2_n a1_2_c), (.slice a1_3_A a1_3_n a1_3_c)] :: F) (fun _ h => h.pick 10 [1, 0, 2, 3, 4, 5, 6, 7, 8, 9] rfl) ?_
        refine j_env [(4, (pt x2)), (5, (pt x4)), (12, (.pointer (some ⟨x4, 3, none⟩))), (17, (.slice x8 1 1))] ⟨rfl, rfl, rfl, rfl, trivial⟩ ?_
        exact hD61 (x6, x7, x8)
    refine d_join (σ := Unit) 6 #[true, true, true, false, false, false, false, false, false] (fun s => [(4, (pt x2)), (5, (pt x4)), (13, (.slice x3.2.2.2.A x3.2.2.2.n x3.2.2.2.c)), (14, (pt a0_g))]) (fun s => .box a0_g 92 [(.slice a0_0_A a0_0_n a0_0_c), (i6 v6)] :: .box x4 36 [(.slice x3.1.A x3.1.n x3.1.c), (.slice x3.2.1.A x3.2.1.n x3.2.1.c), (.slice x3.2.2.1.A x3.2.2.1.n x3.2.2.1.c), (.slice x3.2.2.2.A x3.2.2.2.n x3.2.2.2.c)] :: .row x3.1.A x3.1.c 3 1 (ii v1) :: .row x3.2.1.A x3.2.1.c 3 1 (ii v2) :: .row x3.2.2.1.A x3.2.2.1.c 3 1 (ii v3) :: .row x3.2.2.2.A x3.2.2.2.c 3 1 (ii v4) :: .box x2 36 [(.slice none 0 0), (.slice none 0 0), (.slice none 0 0), (.slice none 0 0)] :: .box x1 36 [(.slice a1_0_A a1_0_n a1_0_c), (.slice a1_1_A a1_1_n a1_1_c), (.slice a1_2_A a1_2_n a1_2_c), (.slice a1_3_A a1_3_n a1_3_c)] :: F) ?_ (fun hD7 => ?_)
    · rintro _
      show J _ _ [(4, (pt x2)), (5, (pt x4)), (13, (.slice x3.2.2.2.A x3.2.2.2.n x3.2.2.2.c)), (14, (pt a0_g))] _ (.box a0_g 92 [(.slice a0_0_A a0_0_n a0_0_c), (i6 v6)] :: .box x4 36 [(.slice x3.1.A x3.1.n x3.1.c), (.slice x3.2.1.A x3.2.1.n x3.2.1.c), (.slice x3.2.2.1.A x3.2.2.1.n x3.2.2.1.c), (.slice x3.2.2.2.A x3.2.2.2.n x3.2.2.2.c)] :: .row x3.1.A x3.1.c 3 1 (ii v1) :: .row x3.2.1.A x3.2.1.c 3 1 (ii v2) :: .row x3.2.2.1.A x3.2.2.1.c 3 1 (ii v3) :: .row x3.2.2.2.A x3.2.2.2.c 3 1 (ii v4) :: .box x2 36 [(.slice none 0 0), (.slice none 0 0), (.slice none 0 0), (.slice none 0 0)] :: .box x1 36 [(.slice a1_0_A a1_0_n a1_0_c), (.slice a1_1_A a1_1_n a1_1_c), (.slice a1_2_A a1_2_n a1_2_c), (.slice a1_3_A a1_3_n a1_3_c)] :: F)
      refine d_one 3 (by kernel_rfl) ?_
      · refine o_do rfl (a_litX (vs := [(i6 (0:Int)), (i6 (1:Int)), (i6 (8:Int)), (i6 (-1:Int))]) (ii ([(0:Int), (1:Int), (8:Int), (-1:Int)] : List Int)) un22 sz3 zr3 rfl rfl rfl rfl rfl rfl rfl rfl rfl) rfl rfl (fun x6 w h => h.pick 9 [3, 4, 5, 7, 8] rfl) (fun x6 => ?_)
        refine j_rs (.row x6 4 3 1 (ii ([(0:Int), (1:Int), (8:Int), (-1:Int)] : List Int)) :: .box a0_g 92 [(.slice a0_0_A a0_0_n a0_0_c), (i6 v6)] :: .box x4 36 [(.slice x3.1.A x3.1.n x3.1.c), (.slice x3.2.1.A x3.2.1.n x3.2.1.c), (.slice x3.2.2.1.A x3.2.2.1.n x3.2.2.1.c), (.slice x3.2.2.2.A x3.2.2.2.n x3.2.2.2.c)] :: .row x3.1.A x3.1.c 3 1 (ii v1) :: .row x3.2.1.A x3.2.1.c 3 1 (ii v2) :: .row x3.2.2.1.A x3.2.2.1.c 3 1 (ii v3) :: .row x3.2.2.2.A x3.2.2.2.c 3 1 (ii v4) :: .box x2 36 [(.slice none 0 0), (.slice none 0 0), (.slice none 0 0), (.slice none 0 0)] :: .box x1 36 [(.slice a1_0_A a1_0_n a1_0_c), (.slice a1_1_A a1_1_n a1_1_c), (.slice a1_2_A a1_2_n a1_2_c), (.slice a1_3_A a1_3_n a1_3_c)] :: F) (fun _ h => h) ?_
        refine j_env [(4, (pt x2)), (5, (pt x4)), (13, (.slice x3.2.2.2.A x3.2.2.2.n x3.2.2.2.c)), (14, (pt a0_g)), (15, (.slice x6 4 4))] ⟨rfl, rfl, rfl, rfl, rfl, trivial⟩ ?_
        exact hD15 x6
    refine d_join (σ := (Option Addr)) 6 #[true, false, true, true, false, false, false, false, false] (fun s => [(4, (pt x2)), (5, (pt x4)), (12, (.pointer (some ⟨x4, 3, none⟩))), (14, (pt a0_g)), (15, (.slice s 4 4))]) (fun s => .row s 4 3 1 (ii ([(0:Int), (1:Int), (8:Int), (-1:Int)] : List Int)) :: .box a0_g 92 [(.slice a0_0_A a0_0_n a0_0_c), (i6 v6)] :: .box x4 36 [(.slice x3.1.A x3.1.n x3.1.c), (.slice x3.2.1.A x3.2.1.n x3.2.1.c), (.slice x3.2.2.1.A x3.2.2.1.n x3.2.2.1.c), (.slice x3.2.2.2.A x3.2.2.2.n x3.2.2.2.c)] :: .row x3.1.A x3.1.c 3 1 (ii v1) :: .row x3.2.1.A x3.2.1.c 3 1 (ii v2) :: .row x3.2.2.1.A x3.2.2.1.c 3 1 (ii v3) :: .row x3.2.2.2.A x3.2.2.2.c 3 1 (ii v4) :: .box x2 36 [(.slice none 0 0), (.slice none 0 0), (.slice none 0 0), (.slice none 0 0)] :: .box x1 36 [(.slice a1_0_A a1_0_n a1_0_c), (.slice a1_1_A a1_1_n a1_1_c), (.slice a1_2_A a1_2_n a1_2_c), (.slice a1_3_A a1_3_n a1_3_c)] :: F) ?_ (fun hD13 => ?_)
    · rintro x6
      show J _ _ [(4, (pt x2)), (5, (pt x4)), (12, (.pointer (some ⟨x4, 3, none⟩))), (14, (pt a0_g)), (15, (.slice x6 4 4))] _ (.row x6 4 3 1 (ii ([(0:Int), (1:Int), (8:Int), (-1:Int)] : List Int)) :: .box a0_g 92 [(.slice a0_0_A a0_0_n a0_0_c), (i6 v6)] :: .box x4 36 [(.slice x3.1.A x3.1.n x3.1.c), (.slice x3.2.1.A x3.2.1.n x3.2.1.c), (.slice x3.2.2.1.A x3.2.2.1.n x3.2.2.1.c), (.slice x3.2.2.2.A x3.2.2.2.n x3.2.2.2.c)] :: .row x3.1.A x3.1.c 3 1 (ii v1) :: .row x3.2.1.A x3.2.1.c 3 1 (ii v2) :: .row x3.2.2.1.A x3.2.2.1.c 3 1 (ii v3) :: .row x3.2.2.2.A x3.2.2.2.c 3 1 (ii v4) :: .box x2 36 [(.slice none 0 0), (.slice none 0 0), (.slice none 0 0), (.slice none 0 0)] :: .box x1 36 [(.slice a1_0_A a1_0_n a1_0_c), (.slice a1_1_A a1_1_n a1_1_c), (.slice a1_2_A a1_2_n a1_2_c), (.slice a1_3_A a1_3_n a1_3_c)] :: F)
      refine d_two 1 4 (by kernel_rfl) ?_ ?_
      · refine o_do rfl ((q_loadb 2 rfl ag22 rfl rfl rfl)).acts rfl rfl (fun _ w h => h.pick 9 [3, 4, 5, 7, 8] rfl) (fun _ => ?_)
        refine j_rs (.row x6 4 3 1 (ii ([(0:Int), (1:Int), (8:Int), (-1:Int)] : List Int)) :: .box a0_g 92 [(.slice a0_0_A a0_0_n a0_0_c), (i6 v6)] :: .box x4 36 [(.slice x3.1.A x3.1.n x3.1.c), (.slice x3.2.1.A x3.2.1.n x3.2.1.c), (.slice x3.2.2.1.A x3.2.2.1.n x3.2.2.1.c), (.slice x3.2.2.2.A x3.2.2.2.n x3.2.2.2.c)] :: .row x3.1.A x3.1.c 3 1 (ii v1) :: .row x3.2.1.A x3.2.1.c 3 1 (ii v2) :: .row x3.2.2.1.A x3.2.2.1.c 3 1 (ii v3) :: .row x3.2.2.2.A x3.2.2.2.c 3 1 (ii v4) :: .box x2 36 [(.slice none 0 0), (.slice none 0 0), (.slice none 0 0), (.slice none 0 0)] :: .box x1 36 [(.slice a1_0_A a1_0_n a1_0_c), (.slice a1_1_A a1_1_n a1_1_c), (.slice a1_2_A a1_2_n a1_2_c), (.slice a1_3_A a1_3_n a1_3_c)] :: F) (fun _ h => h) ?_
        refine j_env [(4, (pt x2)), (5, (pt x4)), (13, (.slice x3.2.2.2.A x3.2.2.2.n x3.2.2.2.c)), (14, (pt a0_g)), (15, (.slice x6 4 4))] ⟨rfl, rfl, rfl, rfl, rfl, trivial⟩ ?_
        exact hD15 x6
      · refine j_rs (.box a0_g 92 [(.slice a0_0_A a0_0_n a0_0_c), (i6 v6)] :: .row x6 4 3 1 (ii ([(0:Int), (1:Int), (8:Int), (-1:Int)] : List Int)) :: .box x4 36 [(.slice x3.1.A x3.1.n x3.1.c), (.slice x3.2.1.A x3.2.1.n x3.2.1.c), (.slice x3.2.2.1.A x3.2.2.1.n x3.2.2.1.c), (.slice x3.2.2.2.A x3.2.2.2.n x3.2.2.2.c)] :: .row x3.1.A x3.1.c 3 1 (ii v1) :: .row x3.2.1.A x3.2.1.c 3 1 (ii v2) :: .row x3.2.2.1.A x3.2.2.1.c 3 1 (ii v3) :: .row x3.2.2.2.A x3.2.2.2.c 3 1 (ii v4) :: .box x2 36 [(.slice none 0 0), (.slice none 0 0), (.slice none 0 0), (.slice none 0 0)] :: .box x1 36 [(.slice a1_0_A a1_0_n a1_0_c), (.slice a1_1_A a1_1_n a1_1_c), (.slice a1_2_A a1_2_n a1_2_c), (.slice a1_3_A a1_3_n a1_3_c)] :: F) (fun _ h => h.pick 9 [1, 0, 2, 3, 4, 5, 6, 7, 8] rfl) ?_
        refine o_do rfl (a_call ok70 rfl rfl rfl rfl (fun w hm => spec_l13Rd_num.calls K a0_g a0_0 a0_0_A a0_0_n a0_0_c v6 ([(0:Int), (1:Int), (8:Int), (-1:Int)] : List Int) x6 4 4 hm a0_0_h (Rd.drop 8 a0_0_R) rfl (Rd.row 0 rfl) hb3)) rfl rfl (fun x7 w h => h.pick 9 [3, 4, 5, 7, 8] rfl) (fun x7 => ?_)
        refine j_rs (.row x6 4 3 1 (ii ([(0:Int), (1:Int), (8:Int), (-1:Int)] : List Int)) :: .box a0_g 92 [(.slice a0_0_A a0_0_n a0_0_c), (i6 v8)] :: .box x4 36 [(.slice x3.1.A x3.1.n x3.1.c), (.slice x3.2.1.A x3.2.1.n x3.2.1.c), (.slice x3.2.2.1.A x3.2.2.1.n x3.2.2.1.c), (.slice x3.2.2.2.A x3.2.2.2.n x3.2.2.2.c)] :: .row x3.1.A x3.1.c 3 1 (ii v1) :: .row x3.2.1.A x3.2.1.c 3 1 (ii v2) :: .row x3.2.2.1.A x3.2.2.1.c 3 1 (ii v3) :: .row x3.2.2.2.A x3.2.2.2.c 3 1 (ii v4) :: .box x2 36 [(.slice none 0 0), (.slice none 0 0), (.slice none 0 0), (.slice none 0 0)] :: .box x1 36 [(.slice a1_0_A a1_0_n a1_0_c), (.slice a1_1_A a1_1_n a1_1_c), (.slice a1_2_A a1_2_n a1_2_c), (.slice a1_3_A a1_3_n a1_3_c)] :: F) (fun _ h => h.pick 9 [1, 0, 2, 3, 4, 5, 6, 7, 8] rfl) ?_
        refine j_env [(4, (pt x2)), (5, (pt x4)), (12, (.pointer (some ⟨x4, 3, none⟩))), (16, (i6 v7))] ⟨rfl, rfl, rfl, rfl, trivial⟩ ?_
        exact hD29 (x6, x7)
    refine d_two 1 3 (by kernel_rfl) ?_ ?_
    · refine o_do rfl ((q_loadb 1 rfl ag22 rfl rfl rfl)).acts rfl rfl (fun _ w h => h.pick 8 [2, 3, 4, 6, 7] rfl) (fun _ => ?_)
      refine j_rs (.box a0_g 92 [(.slice a0_0_A a0_0_n a0_0_c), (i6 v6)] :: .box x4 36 [(.slice x3.1.A x3.1.n x3.1.c), (.slice x3.2.1.A x3.2.1.n x3.2.1.c), (.slice x3.2.2.1.A x3.2.2.1.n x3.2.2.1.c), (.slice x3.2.2.2.A x3.2.2.2.n x3.2.2.2.c)] :: .row x3.1.A x3.1.c 3 1 (ii v1) :: .row x3.2.1.A x3.2.1.c 3 1 (ii v2) :: .row x3.2.2.1.A x3.2.2.1.c 3 1 (ii v3) :: .row x3.2.2.2.A x3.2.2.2.c 3 1 (ii v4) :: .box x2 36 [(.slice none 0 0), (.slice none 0 0), (.slice none 0 0), (.slice none 0 0)] :: .box x1 36 [(.slice a1_0_A a1_0_n a1_0_c), (.slice a1_1_A a1_1_n a1_1_c), (.slice a1_2_A a1_2_n a1_2_c), (.slice a1_3_A a1_3_n a1_3_c)] :: F) (fun _ h => h) ?_
      refine j_env [(4, (pt x2)), (5, (pt x4)), (13, (.slice x3.2.2.2.A x3.2.2.2.n x3.2.2.2.c)), (14, (pt a0_g))] ⟨rfl, rfl, rfl, rfl, trivial⟩ ?_
      exact hD7 ()
    · refine o_do rfl (a_litX (vs := [(i6 (0:Int)), (i6 (1:Int)), (i6 (8:Int)), (i6 (-1:Int))]) (ii ([(0:Int), (1:Int), (8:Int), (-1:Int)] : List Int)) un22 sz3 zr3 rfl rfl rfl rfl rfl rfl rfl rfl rfl) rfl rfl (fun x6 w h => h.pick 9 [3, 4, 5, 7, 8] rfl) (fun x6 => ?_)
      refine j_rs (.row x6 4 3 1 (ii ([(0:Int), (1:Int), (8:Int), (-1:Int)] : List Int)) :: .box a0_g 92 [(.slice a0_0_A a0_0_n a0_0_c), (i6 v6)] :: .box x4 36 [(.slice x3.1.A x3.1.n x3.1.c), (.slice x3.2.1.A x3.2.1.n x3.2.1.c), (.slice x3.2.2.1.A x3.2.2.1.n x3.2.2.1.c), (.slice x3.2.2.2.A x3.2.2.2.n x3.2.2.2.c)] :: .row x3.1.A x3.1.c 3 1 (ii v1) :: .row x3.2.1.A x3.2.1.c 3 1 (ii v2) :: .row x3.2.2.1.A x3.2.2.1.c 3 1 (ii v3) :: .row x3.2.2.2.A x3.2.2.2.c 3 1 (ii v4) :: .box x2 36 [(.slice none 0 0), (.slice none 0 0), (.slice none 0 0), (.slice none 0 0)] :: .box x1 36 [(.slice a1_0_A a1_0_n a1_0_c), (.slice a1_1_A a1_1_n a1_1_c), (.slice a1_2_A a1_2_n a1_2_c), (.slice a1_3_A a1_3_n a1_3_c)] :: F) (fun _ h => h) ?_
      refine j_env [(4, (pt x2)), (5, (pt x4)), (12, (.pointer (some ⟨x4, 3, none⟩))), (14, (pt a0_g)), (15, (.slice x6 4 4))] ⟨rfl, rfl, rfl, rfl, rfl, trivial⟩ ?_
      exact hD13 x6
  · refine j_false rfl (beq_f c1) ?_
    refine j_seq ?_
    refine j_region ?_
    refine r_q (q_eql rfl rfl rfl) rfl rfl ?_
    refine r_q (q_assign rfl rfl) rfl rfl ?_
    refine r_nil ?_
    refine j_then ?_
    rcases of_if h with ⟨c3, h⟩ | ⟨c3, h⟩
    · refine j_true rfl (beq_t c3) ?_
      refine j_region ?_
      refine r_q (q_move rfl rfl) rfl rfl ?_
      refine r_q (q_move rfl rfl) rfl rfl ?_
      refine r_q (q_fieldAddr fi36_0 sz34 rfl rfl rfl) rfl rfl ?_
      refine r_q (q_loadb_agg 1 rfl ag34 sz34 rfl rfl rfl rfl) rfl rfl ?_
      obtain ⟨v9, v10, v11, v12, hb4, h⟩ := of_b4 h
      refine r_do (a_call ok93 rfl rfl rfl rfl (fun w hm => spec_l1Wrong.calls K a0_g a0_0 a0_0_A a0_0_n a0_0_c v6 v1 x3.1.A x3.1.n x3.1.c v2 x3.2.1.A x3.2.1.n x3.2.1.c v3 x3.2.2.1.A x3.2.2.1.n x3.2.2.1.c hm a0_0_h (Rd.drop 7 a0_0_R) x3.1.h (Rd.row 1 rfl) x3.2.1.h (Rd.row 2 rfl) x3.2.2.1.h (Rd.row 3 rfl) hb4)) rfl rfl (fun x10 => ?_)
      obtain ⟨v13, v14, v15, v16, hb5, h⟩ := of_b4 h
      refine j_rs (.box a0_g 92 [(.slice a0_0_A a0_0_n a0_0_c), (i6 v12)] :: .row x10.1.A x10.1.c 3 1 (ii v9) :: .row x10.2.1.A x10.2.1.c 3 1 (ii v10) :: .row x10.2.2.A x10.2.2.c 3 1 (ii v11) :: .box x4 36 [(.slice x3.1.A x3.1.n x3.1.c), (.slice x3.2.1.A x3.2.1.n x3.2.1.c), (.slice x3.2.2.1.A x3.2.2.1.n x3.2.2.1.c), (.slice x3.2.2.2.A x3.2.2.2.n x3.2.2.2.c)] :: .row x3.1.A x3.1.c 3 1 (ii v1) :: .row x3.2.1.A x3.2.1.c 3 1 (ii v2) :: .row x3.2.2.1.A x3.2.2.1.c 3 1 (ii v3) :: .row x3.2.2.2.A x3.2.2.2.c 3 1 (ii v4) :: .box x2 36 [(.slice none 0 0), (.slice none 0 0), (.slice none 0 0), (.slice none 0 0)] :: .box x1 36 [(.slice a1_0_A a1_0_n a1_0_c), (.slice a1_1_A a1_1_n a1_1_c), (.slice a1_2_A a1_2_n a1_2_c), (.slice a1_3_A a1_3_n a1_3_c)] :: F) (fun _ h => h.pick 11 [3, 0, 1, 2, 4, 5, 6, 7, 8, 9, 10] rfl) ?_
      refine r_do (a_call ok93 rfl rfl rfl rfl (fun w hm => spec_l1Wrong.calls K a0_g a0_0 a0_0_A a0_0_n a0_0_c v12 v9 x10.1.A x10.1.n x10.1.c v10 x10.2.1.A x10.2.1.n x10.2.1.c v11 x10.2.2.A x10.2.2.n x10.2.2.c hm a0_0_h (Rd.drop 10 a0_0_R) x10.1.h (Rd.row 0 rfl) x10.2.1.h (Rd.row 1 rfl) x10.2.2.h (Rd.row 2 rfl) hb5)) rfl rfl (fun x11 => ?_)
      refine r_q (q_fieldAddr fi36_0 sz34 rfl rfl rfl) rfl rfl ?_
      refine r_do (a_storeb 7 rfl sz34 rfl rfl rfl rfl (Nat.le_of_ble_eq_true rfl) rfl) rfl rfl (fun _ => ?_)
      refine j_b7 [(.slice x11.1.A x11.1.n x11.1.c), (.slice x11.2.1.A x11.2.1.n x11.2.1.c), (.slice x11.2.2.A x11.2.2.n x11.2.2.c), (.slice x3.2.2.2.A x3.2.2.2.n x3.2.2.2.c)] rfl ?_
      refine r_nil ?_
      refine j_in ?_
      refine j_then ?_
      refine j_seq ?_
      refine j_region ?_
      refine r_q (q_loadb_agg 7 rfl ag36 sz36 rfl rfl rfl rfl) rfl rfl ?_
      refine r_do (a_storeb 12 rfl sz36 rfl rfl rfl rfl (Nat.le_of_ble_eq_true rfl) rfl) rfl rfl (fun _ => ?_)
      refine j_b12 [(.slice x11.1.A x11.1.n x11.1.c), (.slice x11.2.1.A x11.2.1.n x11.2.1.c), (.slice x11.2.2.A x11.2.2.n x11.2.2.c), (.slice x3.2.2.2.A x3.2.2.2.n x3.2.2.2.c)] rfl ?_
      refine r_nil ?_
      refine j_then ?_
      refine j_ret ?_
      cases h
      exact j_return rfl (ResOf.cell 12 rfl rfl ag36 sz36 ResOf.nil) rfl (fun w h => ⟨(⟨x11.1.A, x11.1.n, x11.1.c, x11.1.h⟩, ⟨x11.2.1.A, x11.2.1.n, x11.2.1.c, x11.2.1.h⟩, ⟨x11.2.2.A, x11.2.2.n, x11.2.2.c, x11.2.2.h⟩, ⟨x3.2.2.2.A, x3.2.2.2.n, x3.2.2.2.c, x3.2.2.2.h⟩), rfl, h.pick 14 [0, 1, 2, 11, 3] rfl⟩)
    · refine j_false rfl (beq_f c3) ?_
      refine j_skip ?_
      refine j_in ?_
      refine j_then ?_
      refine j_seq ?_
      refine j_region ?_
      refine r_q (q_loadb_agg 1 rfl ag36 sz36 rfl rfl rfl rfl) rfl rfl ?_
      refine r_do (a_storeb 6 rfl sz36 rfl rfl rfl rfl (Nat.le_of_ble_eq_true rfl) rfl) rfl rfl (fun _ => ?_)
      refine j_b6 [(.slice x3.1.A x3.1.n x3.1.c), (.slice x3.2.1.A x3.2.1.n x3.2.1.c), (.slice x3.2.2.1.A x3.2.2.1.n x3.2.2.1.c), (.slice x3.2.2.2.A x3.2.2.2.n x3.2.2.2.c)] rfl ?_
      refine r_nil ?_
      refine j_then ?_
      refine j_ret ?_
      cases h
      exact j_return rfl (ResOf.cell 6 rfl rfl ag36 sz36 ResOf.nil) rfl (fun w h => ⟨(⟨x3.1.A, x3.1.n, x3.1.c, x3.1.h⟩, ⟨x3.2.1.A, x3.2.1.n, x3.2.1.c, x3.2.1.h⟩, ⟨x3.2.2.1.A, x3.2.2.1.n, x3.2.2.1.c, x3.2.2.1.h⟩, ⟨x3.2.2.2.A, x3.2.2.2.n, x3.2.2.2.c, x3.2.2.2.h⟩), rfl, h.pick 8 [2, 3, 4, 5, 0] rfl⟩)

theorem spec_l5Op.calls (K : Nat) (a0_g : Nat) (a0_0 : List Int) (a0_0_A : Option Addr) (a0_0_n a0_0_c : Nat) (a0_1 : Int) {w0 w : World} {F : List Res} {r1 : Int} {r2 : Int} {r3 : Int} {r4 : Int} (hm : Mem w0 (.box a0_g 92 [.slice a0_0_A a0_0_n a0_0_c, i6 a0_1] :: F) w) (a0_0_h : a0_0.length = a0_0_n) (a0_0_R : Rd w0 F a0_0_A (ints .u8 a0_0)) (h : spec_l5Op.f K a0_0 a0_1 = some (r1, r2, r3, r4)) :
    Calls Try.prog 94 (List.toArray [pt a0_g]) w fun e w' => ∃ x : Unit, e = .returned (.agg (List.toArray [i6 r1, i6 r2, i6 r3])) ∧ Mem w0 (.box a0_g 92 [.slice a0_0_A a0_0_n a0_0_c, i6 r4] :: F) w' := by
  unfold spec_l5Op.f at h
  refine calls_of_J (n := 19) Try.func94 rfl rfl rfl hm ?_
  refine j_seq ?_
  refine j_region ?_
  refine r_do (a_alloc zr68 rfl) rfl rfl (fun x1 => ?_)
  refine r_nil ?_
  refine j_then ?_
  refine j_seq ?_
  refine j_region ?_
  refine r_q (q_move rfl rfl) rfl rfl ?_
  refine r_do (a_litX (vs := [(i6 (1:Int)), (i6 (5:Int)), (i6 (2:Int)), (i6 (3:Int)), (i6 (4:Int)), (i6 (6:Int)), (i6 (7:Int)), (i6 (1:Int))]) (ii ([(1:Int), (5:Int), (2:Int), (3:Int), (4:Int), (6:Int), (7:Int), (1:Int)] : List Int)) un22 sz3 zr3 rfl rfl rfl rfl rfl rfl rfl rfl rfl) rfl rfl (fun x2 => ?_)
  obtain ⟨v1, v2, hb1, h⟩ := of_b2 h
  refine j_rs (.box a0_g 92 [(.slice a0_0_A a0_0_n a0_0_c), (i6 a0_1)] :: .row x2 8 3 1 (ii ([(1:Int), (5:Int), (2:Int), (3:Int), (4:Int), (6:Int), (7:Int), (1:Int)] : List Int)) :: .box x1 68 [(i6 (0:Int)), (i6 (0:Int)), (i6 (0:Int))] :: F) (fun _ h => h.pick 3 [2, 0, 1] rfl) ?_
  refine r_do (a_call ok70 rfl rfl rfl rfl (fun w hm => spec_l13Rd_num.calls K a0_g a0_0 a0_0_A a0_0_n a0_0_c a0_1 ([(1:Int), (5:Int), (2:Int), (3:Int), (4:Int), (6:Int), (7:Int), (1:Int)] : List Int) x2 8 8 hm a0_0_h (Rd.drop 2 a0_0_R) rfl (Rd.row 0 rfl) hb1)) rfl rfl (fun x3 => ?_)
  refine r_q (q_move rfl rfl) rfl rfl ?_
  refine r_do (a_litX (vs := [(i6 (0:Int)), (i6 (1:Int)), (i6 (0:Int)), (i6 (2:Int))]) (ii ([(0:Int), (1:Int), (0:Int), (2:Int)] : List Int)) un22 sz3 zr3 rfl rfl rfl rfl rfl rfl rfl rfl rfl) rfl rfl (fun x4 => ?_)
  obtain ⟨v3, v4, hb2, h⟩ := of_b2 h
  refine j_rs (.box a0_g 92 [(.slice a0_0_A a0_0_n a0_0_c), (i6 v2)] :: .row x4 4 3 1 (ii ([(0:Int), (1:Int), (0:Int), (2:Int)] : List Int)) :: .row x2 8 3 1 (ii ([(1:Int), (5:Int), (2:Int), (3:Int), (4:Int), (6:Int), (7:Int), (1:Int)] : List Int)) :: .box x1 68 [(i6 (0:Int)), (i6 (0:Int)), (i6 (0:Int))] :: F) (fun _ h => h.pick 4 [1, 0, 2, 3] rfl) ?_
  refine r_do (a_call ok70 rfl rfl rfl rfl (fun w hm => spec_l13Rd_num.calls K a0_g a0_0 a0_0_A a0_0_n a0_0_c v2 ([(0:Int), (1:Int), (0:Int), (2:Int)] : List Int) x4 4 4 hm a0_0_h (Rd.drop 3 a0_0_R) rfl (Rd.row 0 rfl) hb2)) rfl rfl (fun x5 => ?_)
  refine r_q (q_move rfl rfl) rfl rfl ?_
  refine r_do (a_litX (vs := [(i6 (0:Int)), (i6 (1:Int)), (i6 (1:Int)), (i6 (2:Int))]) (ii ([(0:Int), (1:Int), (1:Int), (2:Int)] : List Int)) un22 sz3 zr3 rfl rfl rfl rfl rfl rfl rfl rfl rfl) rfl rfl (fun x6 => ?_)
  obtain ⟨v5, v6, hb3, h⟩ := of_b2 h
  refine j_rs (.box a0_g 92 [(.slice a0_0_A a0_0_n a0_0_c), (i6 v4)] :: .row x6 4 3 1 (ii ([(0:Int), (1:Int), (1:Int), (2:Int)] : List Int)) :: .row x4 4 3 1 (ii ([(0:Int), (1:Int), (0:Int), (2:Int)] : List Int)) :: .row x2 8 3 1 (ii ([(1:Int), (5:Int), (2:Int), (3:Int), (4:Int), (6:Int), (7:Int), (1:Int)] : List Int)) :: .box x1 68 [(i6 (0:Int)), (i6 (0:Int)), (i6 (0:Int))] :: F) (fun _ h => h.pick 5 [1, 0, 2, 3, 4] rfl) ?_
  refine r_do (a_call ok70 rfl rfl rfl rfl (fun w hm => spec_l13Rd_num.calls K a0_g a0_0 a0_0_A a0_0_n a0_0_c v4 ([(0:Int), (1:Int), (1:Int), (2:Int)] : List Int) x6 4 4 hm a0_0_h (Rd.drop 4 a0_0_R) rfl (Rd.row 0 rfl) hb3)) rfl rfl (fun x7 => ?_)
  refine r_q (q_build (cs := [(i6 v1), (i6 v3), (i6 v5)]) zr68 pl68 rfl rfl rfl rfl) rfl rfl ?_
  refine r_do (a_alloc zr68 rfl) rfl rfl (fun x8 => ?_)
  refine r_do (a_storeb 0 rfl sz68 rfl rfl rfl rfl (Nat.le_of_ble_eq_true rfl) rfl) rfl rfl (fun _ => ?_)
  refine j_b0 [(i6 v1), (i6 v3), (i6 v5)] rfl ?_
  refine r_nil ?_
  refine j_then ?_
  refine j_seq ?_
  refine j_seq ?_
  refine j_region ?_
  refine r_q (q_fieldAddr fi68_0 sz3 rfl rfl rfl) rfl rfl ?_
  refine r_q (q_loadb 0 rfl ag3 rfl rfl rfl) rfl rfl ?_
  obtain ⟨v7, hb4, h⟩ := of_b1 h
  refine r_do (a_call ok98 rfl rfl rfl rfl (fun w hm => spec_l5One.calls K v1 hm hb4)) rfl rfl (fun x9 => ?_)
  refine r_nil ?_
  refine j_then ?_
  rcases of_if h with ⟨c1, h⟩ | ⟨c1, h⟩
  · refine j_true rfl c1 ?_
    refine j_region ?_
    refine r_q (q_fieldAddr fi68_2 sz3 rfl rfl rfl) rfl rfl ?_
    refine r_do (a_storeb 0 rfl sz3 rfl rfl rfl rfl (Nat.le_of_ble_eq_true rfl) rfl) rfl rfl (fun _ => ?_)
    refine j_b0 [(i6 v1), (i6 v3), (i6 (0:Int))] rfl ?_
    refine r_nil ?_
    refine j_then ?_
    refine j_seq ?_
    refine j_region ?_
    refine r_q (q_loadb_agg 0 rfl ag68 sz68 rfl rfl rfl rfl) rfl rfl ?_
    refine r_do (a_storeb 5 rfl sz68 rfl rfl rfl rfl (Nat.le_of_ble_eq_true rfl) rfl) rfl rfl (fun _ => ?_)
    refine j_b5 [(i6 v1), (i6 v3), (i6 (0:Int))] rfl ?_
    refine r_nil ?_
    refine j_then ?_
    refine j_ret ?_
    cases h
    exact j_return rfl (ResOf.cell 5 rfl rfl ag68 sz68 ResOf.nil) rfl (fun w h => ⟨(), rfl, h.pick 6 [1] rfl⟩)
  · refine j_false rfl (var_f c1) ?_
    refine j_skip ?_
    refine j_then ?_
    refine j_seq ?_
    refine j_region ?_
    refine r_q (q_loadb_agg 0 rfl ag68 sz68 rfl rfl rfl rfl) rfl rfl ?_
    refine r_do (a_storeb 5 rfl sz68 rfl rfl rfl rfl (Nat.le_of_ble_eq_true rfl) rfl) rfl rfl (fun _ => ?_)
    refine j_b5 [(i6 v1), (i6 v3), (i6 v5)] rfl ?_
    refine r_nil ?_
    refine j_then ?_
    refine j_ret ?_
    cases h
    exact j_return rfl (ResOf.cell 5 rfl rfl ag68 sz68 ResOf.nil) rfl (fun w h => ⟨(), rfl, h.pick 6 [1] rfl⟩)

theorem spec_l5Ops.calls (K : Nat) (a0_g : Nat) (a0_0 : List Int) (a0_0_A : Option Addr) (a0_0_n a0_0_c : Nat) (a0_1 : Int) {w0 w : World} {F : List Res} {r1 : List (Int × Int × Int)} {r2 : Int} (hm : Mem w0 (.box a0_g 92 [.slice a0_0_A a0_0_n a0_0_c, i6 a0_1] :: F) w) (a0_0_h : a0_0.length = a0_0_n) (a0_0_R : Rd w0 F a0_0_A (ints .u8 a0_0)) (h : spec_l5Ops.f K a0_0 a0_1 = some (r1, r2)) :
    Calls Try.prog 75 (List.toArray [pt a0_g]) w fun e w' => ∃ x : (Sl r1.length), e = .returned (.slice x.A x.n x.c) ∧ Mem w0 (.row x.A x.c 68 3 (trips r1) :: .box a0_g 92 [.slice a0_0_A a0_0_n a0_0_c, i6 r2] :: F) w' := by
  unfold spec_l5Ops.f at h
  refine calls_of_J (n := 19) Try.func75 rfl rfl rfl hm ?_
  refine j_seq ?_
  refine j_region ?_
  refine r_q (q_assign rfl rfl) rfl rfl ?_
  refine r_nil ?_
  refine j_then ?_
  refine j_seq ?_
  refine j_region ?_
  refine r_do (a_litX (vs := []) (trips ([] : List (Int × Int × Int))) un38 sz68 zr68 rfl rfl rfl rfl rfl rfl rfl rfl rfl) rfl rfl (fun x1 => ?_)
  refine r_q (q_assign rfl rfl) rfl rfl ?_
  refine r_nil ?_
  refine j_then ?_
  refine j_seq ?_
  refine j_seq ?_
  refine j_region ?_
  refine r_q (q_move rfl rfl) rfl rfl ?_
  refine r_do (a_litX (vs := [(i6 (4:Int)), (i6 (3:Int)), (i6 (6:Int)), (i6 (2:Int)), (i6 (1:Int)), (i6 (0:Int)), (i6 (9:Int))]) (ii ([(4:Int), (3:Int), (6:Int), (2:Int), (1:Int), (0:Int), (9:Int)] : List Int)) un22 sz3 zr3 rfl rfl rfl rfl rfl rfl rfl rfl rfl) rfl rfl (fun x2 => ?_)
  obtain ⟨v1, v2, hb1, h⟩ := of_b2 h
  refine j_rs (.box a0_g 92 [(.slice a0_0_A a0_0_n a0_0_c), (i6 a0_1)] :: .row x2 7 3 1 (ii ([(4:Int), (3:Int), (6:Int), (2:Int), (1:Int), (0:Int), (9:Int)] : List Int)) :: .row x1 0 68 3 (trips ([] : List (Int × Int × Int))) :: F) (fun _ h => h.pick 3 [2, 0, 1] rfl) ?_
  refine r_do (a_call ok70 rfl rfl rfl rfl (fun w hm => spec_l13Rd_num.calls K a0_g a0_0 a0_0_A a0_0_n a0_0_c a0_1 ([(4:Int), (3:Int), (6:Int), (2:Int), (1:Int), (0:Int), (9:Int)] : List Int) x2 7 7 hm a0_0_h (Rd.drop 2 a0_0_R) rfl (Rd.row 0 rfl) hb1)) rfl rfl (fun x3 => ?_)
  refine r_q (q_assign rfl rfl) rfl rfl ?_
  refine r_nil ?_
  refine j_then ?_
  obtain ⟨κ0, h, hκ0⟩ := ex_k (g := fun κ => spec_l5Ops.loop0 K κ a0_0 K ([] : List (Int × Int × Int)) v1 v2 = some (r1, r2)) h
  refine j_cut (σ := (Option Addr) × Nat × Nat × (List (Int × Int × Int)) × Int) (fun s => [(3, (.slice s.1 s.2.1 s.2.2.1))]) (fun s => .box a0_g 92 [(.slice a0_0_A a0_0_n a0_0_c), (i6 s.2.2.2.2)] :: .row s.1 s.2.2.1 68 3 (trips s.2.2.2.1) :: F) (fun s => κ0 s.2.2.2.1 s.2.2.2.2 = some (r1, r2) ∧ (s.2.2.2.1.length = s.2.1)) ?_ ?_
  · refine j_block ?_
    refine j_loop (σ := (Option Addr) × Nat × Nat × (List (Int × Int × Int)) × Int × Int) (fun s => [(0, (pt a0_g)), (3, (.slice s.1 s.2.1 s.2.2.1)), (4, (i6 s.2.2.2.2.1))]) (fun s => .box a0_g 92 [(.slice a0_0_A a0_0_n a0_0_c), (i6 s.2.2.2.2.2)] :: .row s.1 s.2.2.1 68 3 (trips s.2.2.2.1) :: F) (fun m s => spec_l5Ops.loop0 K κ0 a0_0 m s.2.2.2.1 s.2.2.2.2.1 s.2.2.2.2.2 = some (r1, r2) ∧ (s.2.2.2.1.length = s.2.1)) K (x1, 0, 0, ([] : List (Int × Int × Int)), v1, v2) ⟨h, rfl⟩ (fun a he => he.sub ⟨rfl, rfl, rfl, trivial⟩) (fun w h => h.pick 3 [0, 2] rfl) ?_
    rintro m ⟨A2, n2, d2, l2, p3, p4⟩ ⟨h, q2⟩
    cases m with
    | zero => exact absurd h (by rw [spec_l5Ops.loop0]; exact nofun)
    | succ m =>
      rw [spec_l5Ops.loop0] at h
      show J _ _ [(0, (pt a0_g)), (3, (.slice A2 n2 d2)), (4, (i6 p3))] _ (.box a0_g 92 [(.slice a0_0_A a0_0_n a0_0_c), (i6 p4)] :: .row A2 d2 68 3 (trips l2) :: F)
      refine j_seq ?_
      refine j_seq ?_
      refine j_region ?_
      refine r_q (q_move rfl rfl) rfl rfl ?_
      refine r_q (q_gtr rfl rfl rfl) rfl rfl ?_
      refine r_nil ?_
      refine j_then ?_
      rcases of_if h with ⟨c7, h⟩ | ⟨c7, h⟩
      · refine j_true rfl (decide_eq_true c7) ?_
        refine j_skip ?_
        refine j_then ?_
        refine j_seq ?_
        refine j_block ?_
        refine j_region ?_
        refine r_q (q_move rfl rfl) rfl rfl ?_
        refine r_q (q_move rfl rfl) rfl rfl ?_
        obtain ⟨v15, v16, v17, v18, hb5, h⟩ := of_b4 h
        refine r_do (a_call ok94 rfl rfl rfl rfl (fun w hm => spec_l5Op.calls K a0_g a0_0 a0_0_A a0_0_n a0_0_c p4 hm a0_0_h (Rd.drop 1 a0_0_R) hb5)) rfl rfl (fun x4 => ?_)
        refine r_do (a_litX (vs := [(.agg (List.toArray [(i6 v15), (i6 v16), (i6 v17)]))]) (trips ([(v15, v16, v17)] : List (Int × Int × Int))) un38 sz68 zr68 rfl rfl rfl rfl rfl rfl rfl rfl rfl) rfl rfl (fun x5 => ?_)
        obtain ⟨c8, h⟩ := of_guard h
        refine r_do (a_appT (xs := l2) (ys := ([(v15, v16, v17)] : List (Int × Int × Int))) 2 un38 un38 sz68 by68 zr68 rfl rfl rfl rfl rfl rfl rfl rfl rfl q2 rfl (Rd.row 0 rfl) c8) rfl rfl (fun x6 => ?_)
        refine j_s2 ?_
        refine r_q (q_assign rfl rfl) rfl rfl ?_
        refine r_nil ?_
        refine j_in ?_
        refine j_then ?_
        refine j_region ?_
        refine r_q (q_move rfl rfl) rfl rfl ?_
        refine r_q (q_sub rfl rfl rfl) rfl rfl ?_
        refine r_q (q_assign rfl rfl) rfl rfl ?_
        refine r_nil ?_
        refine j_then ?_
        exact j_again m (x6.1, (n2 + 1), x6.2, (l2 ++ ([(v15, v16, v17)] : List (Int × Int × Int))), (wrap64 (p3 - (1:Int))), v18) (Nat.lt_succ_self m) ⟨h, (app_len q2 rfl)⟩ (fun a he => he.sub ⟨rfl, rfl, rfl, trivial⟩) (fun w h => h.tail)
      · refine j_false rfl (decide_eq_false c7) ?_
        refine j_exit ?_
        refine j_then_exit ?_
        refine j_then_exit ?_
        refine j_in_exit ?_
        refine j_then ?_
        exact j_meet (A2, n2, d2, l2, p4) ⟨h, q2⟩ (fun a he => he.sub ⟨rfl, trivial⟩) (fun w h => h)
  · rintro ⟨A3, n3, d3, l3, p5⟩ ⟨h, q3⟩
    subst hκ0
    show J _ _ [(3, (.slice A3 n3 d3))] _ (.box a0_g 92 [(.slice a0_0_A a0_0_n a0_0_c), (i6 p5)] :: .row A3 d3 68 3 (trips l3) :: F)
    refine j_then ?_
    refine j_seq ?_
    refine j_region ?_
    refine r_q (q_move rfl rfl) rfl rfl ?_
    refine r_q (q_assign rfl rfl) rfl rfl ?_
    refine r_nil ?_
    refine j_then ?_
    refine j_ret ?_
    cases h
    exact j_return rfl (ResOf.tmp rfl ResOf.nil) rfl (fun w h => ⟨⟨A3, n3, d3, q3⟩, rfl, h.pick 2 [1, 0] rfl⟩)

theorem spec_DrawRunOps.calls (K : Nat) (a0 : List Int) (a0_A : Option Addr) (a0_n a0_c : Nat) {w0 w : World} {F : List Res} {r1 : List Int} {r2 : List Int} {r3 : List Int} {r4 : List Int} {r5 : List (Int × Int × Int)} (hm : Mem w0 (F) w) (a0_h : a0.length = a0_n) (a0_R : Rd w0 F a0_A (ints .u8 a0)) (a0_k : a0.length ≤ a0_c) (h : spec_DrawRunOps.f K a0 = some (r1, r2, r3, r4, r5)) :
    Calls Try.prog 45 (List.toArray [.slice a0_A a0_n a0_c]) w fun e w' => ∃ x : (Sl r1.length) × (Sl r2.length) × (Sl r3.length) × (Sl r4.length) × (Sl r5.length), e = .returned (.tuple (List.toArray [.agg (List.toArray [.slice x.1.A x.1.n x.1.c, .slice x.2.1.A x.2.1.n x.2.1.c, .slice x.2.2.1.A x.2.2.1.n x.2.2.1.c, .slice x.2.2.2.1.A x.2.2.2.1.n x.2.2.2.1.c]), .slice x.2.2.2.2.A x.2.2.2.2.n x.2.2.2.2.c])) ∧ Mem w0 (.row x.1.A x.1.c 3 1 (ii r1) :: .row x.2.1.A x.2.1.c 3 1 (ii r2) :: .row x.2.2.1.A x.2.2.1.c 3 1 (ii r3) :: .row x.2.2.2.1.A x.2.2.2.1.c 3 1 (ii r4) :: .row x.2.2.2.2.A x.2.2.2.2.c 68 3 (trips r5) :: F) w' := by
  unfold spec_DrawRunOps.f at h
  refine calls_of_J (n := 13) Try.func45 rfl rfl rfl hm ?_
  refine j_seq ?_
  refine j_region ?_
  refine r_do (a_alloc zr36 rfl) rfl rfl (fun x1 => ?_)
  refine r_q (q_assign rfl rfl) rfl rfl ?_
  refine r_nil ?_
  refine j_then ?_
  refine j_seq ?_
  refine j_region ?_
  refine r_q (q_move rfl rfl) rfl rfl ?_
  obtain ⟨_, hb1, h⟩ := of_b1 h
  refine r_do (a_call ok40 rfl rfl rfl rfl (fun w hm => spec_l13Open.calls K a0 a0_A a0_n a0_c hm a0_h (Rd.drop 1 a0_R) a0_k hb1)) rfl rfl (fun x2 => ?_)
  refine r_q (q_assign rfl rfl) rfl rfl ?_
  refine r_nil ?_
  refine j_then ?_
  refine j_seq ?_
  refine j_region ?_
  refine r_q (q_move rfl rfl) rfl rfl ?_
  refine r_q (q_move rfl rfl) rfl rfl ?_
  obtain ⟨v1, v2, v3, v4, v5, hb2, h⟩ := of_b5 h
  refine r_do (a_call ok69 rfl rfl rfl rfl (fun w hm => spec_l4Draw.calls K x2 (a0.take 2000) a0_A (a0.take 2000).length a0_c (0:Int) hm rfl (rd_hiI (Rd.drop 1 a0_R) 2000) hb2)) rfl rfl (fun x3 => ?_)
  obtain ⟨v6, v7, v8, v9, v10, hb3, h⟩ := of_b5 h
  refine j_rs (.box x2 92 [(.slice a0_A (a0.take 2000).length a0_c), (i6 v5)] :: .row x3.1.A x3.1.c 3 1 (ii v1) :: .row x3.2.1.A x3.2.1.c 3 1 (ii v2) :: .row x3.2.2.1.A x3.2.2.1.c 3 1 (ii v3) :: .row x3.2.2.2.A x3.2.2.2.c 3 1 (ii v4) :: .box x1 36 [(.slice none 0 0), (.slice none 0 0), (.slice none 0 0), (.slice none 0 0)] :: F) (fun _ h => h.pick 6 [4, 0, 1, 2, 3, 5] rfl) ?_
  refine r_do (a_call ok74 rfl rfl rfl rfl (fun w hm => spec_l4Wrong.calls K x2 (a0.take 2000) a0_A (a0.take 2000).length a0_c v5 v1 x3.1.A x3.1.n x3.1.c v2 x3.2.1.A x3.2.1.n x3.2.1.c v3 x3.2.2.1.A x3.2.2.1.n x3.2.2.1.c v4 x3.2.2.2.A x3.2.2.2.n x3.2.2.2.c hm rfl (rd_hiI (Rd.drop 5 a0_R) 2000) x3.1.h (Rd.row 0 rfl) x3.2.1.h (Rd.row 1 rfl) x3.2.2.1.h (Rd.row 2 rfl) x3.2.2.2.h (Rd.row 3 rfl) hb3)) rfl rfl (fun x4 => ?_)
  refine r_q (q_move rfl rfl) rfl rfl ?_
  obtain ⟨v11, v12, hb4, h⟩ := of_b2 h
  refine j_rs (.box x2 92 [(.slice a0_A (a0.take 2000).length a0_c), (i6 v10)] :: .row x4.1.A x4.1.c 3 1 (ii v6) :: .row x4.2.1.A x4.2.1.c 3 1 (ii v7) :: .row x4.2.2.1.A x4.2.2.1.c 3 1 (ii v8) :: .row x4.2.2.2.A x4.2.2.2.c 3 1 (ii v9) :: .row x3.1.A x3.1.c 3 1 (ii v1) :: .row x3.2.1.A x3.2.1.c 3 1 (ii v2) :: .row x3.2.2.1.A x3.2.2.1.c 3 1 (ii v3) :: .row x3.2.2.2.A x3.2.2.2.c 3 1 (ii v4) :: .box x1 36 [(.slice none 0 0), (.slice none 0 0), (.slice none 0 0), (.slice none 0 0)] :: F) (fun _ h => h.pick 10 [4, 0, 1, 2, 3, 5, 6, 7, 8, 9] rfl) ?_
  refine r_do (a_call ok75 rfl rfl rfl rfl (fun w hm => spec_l5Ops.calls K x2 (a0.take 2000) a0_A (a0.take 2000).length a0_c v10 hm rfl (rd_hiI (Rd.drop 9 a0_R) 2000) hb4)) rfl rfl (fun x5 => ?_)
  refine r_do (a_storeb 10 rfl sz36 rfl rfl rfl rfl (Nat.le_of_ble_eq_true rfl) rfl) rfl rfl (fun _ => ?_)
  refine j_b10 [(.slice x4.1.A x4.1.n x4.1.c), (.slice x4.2.1.A x4.2.1.n x4.2.1.c), (.slice x4.2.2.1.A x4.2.2.1.n x4.2.2.1.c), (.slice x4.2.2.2.A x4.2.2.2.n x4.2.2.2.c)] rfl ?_
  refine r_q (q_assign rfl rfl) rfl rfl ?_
  refine r_nil ?_
  refine j_then ?_
  refine j_ret ?_
  cases h
  exact j_return rfl (ResOf.cell 10 rfl rfl ag36 sz36 (ResOf.tmp rfl ResOf.nil)) rfl (fun w h => ⟨(⟨x4.1.A, x4.1.n, x4.1.c, x4.1.h⟩, ⟨x4.2.1.A, x4.2.1.n, x4.2.1.c, x4.2.1.h⟩, ⟨x4.2.2.1.A, x4.2.2.1.n, x4.2.2.1.c, x4.2.2.1.h⟩, ⟨x4.2.2.2.A, x4.2.2.2.n, x4.2.2.2.c, x4.2.2.2.h⟩, ⟨x5.A, x5.n, x5.c, x5.h⟩), rfl, h.pick 11 [2, 3, 4, 5, 0] rfl⟩)

theorem spec_DrawNewBoth.calls (K : Nat) (a0 : List Int) (a0_A : Option Addr) (a0_n a0_c : Nat) {w0 w : World} {F : List Res} {r1 : List Int} {r2 : List Int} {r3 : List Int} {r4 : List Int} {r5 : List (Int × Int × Int)} (hm : Mem w0 (F) w) (a0_h : a0.length = a0_n) (a0_R : Rd w0 F a0_A (ints .u8 a0)) (a0_k : a0.length ≤ a0_c) (h : spec_DrawNewBoth.f K a0 = some (r1, r2, r3, r4, r5)) :
    Calls Try.prog 16 (List.toArray [.slice a0_A a0_n a0_c]) w fun e w' => ∃ x : (Sl r1.length) × (Sl r2.length) × (Sl r3.length) × (Sl r4.length) × (Sl r5.length), e = .returned (.tuple (List.toArray [.agg (List.toArray [.slice x.1.A x.1.n x.1.c, .slice x.2.1.A x.2.1.n x.2.1.c, .slice x.2.2.1.A x.2.2.1.n x.2.2.1.c, .slice x.2.2.2.1.A x.2.2.2.1.n x.2.2.2.1.c]), .slice x.2.2.2.2.A x.2.2.2.2.n x.2.2.2.2.c])) ∧ Mem w0 (.row x.1.A x.1.c 3 1 (ii r1) :: .row x.2.1.A x.2.1.c 3 1 (ii r2) :: .row x.2.2.1.A x.2.2.1.c 3 1 (ii r3) :: .row x.2.2.2.1.A x.2.2.2.1.c 3 1 (ii r4) :: .row x.2.2.2.2.A x.2.2.2.2.c 68 3 (trips r5) :: F) w' := by
  unfold spec_DrawNewBoth.f at h
  refine calls_of_J (n := 8) Try.func16 rfl rfl rfl hm ?_
  refine j_seq ?_
  refine j_region ?_
  refine r_do (a_alloc zr36 rfl) rfl rfl (fun x1 => ?_)
  refine r_q (q_assign rfl rfl) rfl rfl ?_
  refine r_nil ?_
  refine j_then ?_
  refine j_seq ?_
  refine j_region ?_
  refine r_q (q_move rfl rfl) rfl rfl ?_
  obtain ⟨v1, v2, v3, v4, v5, hb1, h⟩ := of_b5 h
  refine r_do (a_call ok45 rfl rfl rfl rfl (fun w hm => spec_DrawRunOps.calls K a0 a0_A a0_n a0_c hm a0_h (Rd.drop 1 a0_R) a0_k hb1)) rfl rfl (fun x2 => ?_)
  refine r_q (q_extract rfl rfl rfl) rfl rfl ?_
  refine r_q (q_extract rfl rfl rfl) rfl rfl ?_
  refine r_do (a_storeb 5 rfl sz36 rfl rfl rfl rfl (Nat.le_of_ble_eq_true rfl) rfl) rfl rfl (fun _ => ?_)
  refine j_b5 [(.slice x2.1.A x2.1.n x2.1.c), (.slice x2.2.1.A x2.2.1.n x2.2.1.c), (.slice x2.2.2.1.A x2.2.2.1.n x2.2.2.1.c), (.slice x2.2.2.2.1.A x2.2.2.2.1.n x2.2.2.2.1.c)] rfl ?_
  refine r_q (q_assign rfl rfl) rfl rfl ?_
  refine r_nil ?_
  refine j_then ?_
  refine j_ret ?_
  cases h
  exact j_return rfl (ResOf.cell 5 rfl rfl ag36 sz36 (ResOf.tmp rfl ResOf.nil)) rfl (fun w h => ⟨(⟨x2.1.A, x2.1.n, x2.1.c, x2.1.h⟩, ⟨x2.2.1.A, x2.2.1.n, x2.2.1.c, x2.2.1.h⟩, ⟨x2.2.2.1.A, x2.2.2.1.n, x2.2.2.1.c, x2.2.2.1.h⟩, ⟨x2.2.2.2.1.A, x2.2.2.2.1.n, x2.2.2.2.1.c, x2.2.2.2.1.h⟩, ⟨x2.2.2.2.2.A, x2.2.2.2.2.n, x2.2.2.2.2.c, x2.2.2.2.2.h⟩), rfl, h.pick 6 [0, 1, 2, 3, 4] rfl⟩)

theorem impl_NewGc.calls (K : Nat) (a0_0 : List Int) (a0_0_A : Option Addr) (a0_0_n a0_0_c : Nat) (a0_1 : List Int) (a0_1_A : Option Addr) (a0_1_n a0_1_c : Nat) (a0_2 : List Int) (a0_2_A : Option Addr) (a0_2_n a0_2_c : Nat) (a0_3 : List Int) (a0_3_A : Option Addr) (a0_3_n a0_3_c : Nat) {w0 w : World} {F : List Res} {r1 : Int} {r2 : List Int} {r3 : Int} {r4 : Bool} (hm : Mem w0 (F) w) (a0_0_h : a0_0.length = a0_0_n) (a0_0_R : Rd w0 F a0_0_A (ii a0_0)) (a0_1_h : a0_1.length = a0_1_n) (a0_1_R : Rd w0 F a0_1_A (ii a0_1)) (a0_2_h : a0_2.length = a0_2_n) (a0_2_R : Rd w0 F a0_2_A (ii a0_2)) (a0_3_h : a0_3.length = a0_3_n) (a0_3_R : Rd w0 F a0_3_A (ii a0_3)) (a0_3_k : a0_3.length ≤ a0_3_c) (h : impl_NewGc.f K a0_0 a0_1 a0_2 a0_3 = some (r1, r2, r3, r4)) :
    Calls Try.prog 46 (List.toArray [.agg (List.toArray [.slice a0_0_A a0_0_n a0_0_c, .slice a0_1_A a0_1_n a0_1_c, .slice a0_2_A a0_2_n a0_2_c, .slice a0_3_A a0_3_n a0_3_c])]) w fun e w' => ∃ x : (Sl r2.length), e = .returned (.tuple (List.toArray [.agg (List.toArray [i6 r1, .slice x.A x.n x.c, i6 r3]), .bool r4])) ∧ Mem w0 (.row x.A x.c 3 1 (ii r2) :: F) w' := by
  unfold impl_NewGc.f at h
  refine calls_of_J (n := 14) Try.func46 rfl rfl rfl hm ?_
  refine j_seq ?_
  refine j_region ?_
  refine r_do (a_box rfl rfl) rfl rfl (fun x1 => ?_)
  refine r_do (a_alloc zr37 rfl) rfl rfl (fun x2 => ?_)
  refine r_q (q_assign rfl rfl) rfl rfl ?_
  refine r_nil ?_
  refine j_then ?_
  refine j_seq ?_
  refine j_seq ?_
  refine j_region ?_
  refine r_q (q_loadb_agg 1 rfl ag36 sz36 rfl rfl rfl rfl) rfl rfl ?_
  obtain ⟨v1, hb1, h⟩ := of_b1 h
  refine r_do (a_call ok58 rfl rfl rfl rfl (fun w hm => impl_StoreValid.calls K a0_0 a0_0_A a0_0_n a0_0_c a0_1 a0_1_A a0_1_n a0_1_c a0_2 a0_2_A a0_2_n a0_2_c a0_3 a0_3_A a0_3_n a0_3_c hm a0_0_h (Rd.drop 2 a0_0_R) a0_1_h (Rd.drop 2 a0_1_R) a0_2_h (Rd.drop 2 a0_2_R) a0_3_h (Rd.drop 2 a0_3_R) a0_3_k hb1)) rfl rfl (fun x3 => ?_)
  refine r_q (q_not rfl rfl) rfl rfl ?_
  refine r_nil ?_
  refine j_then ?_
  rcases of_if h with ⟨c1, h⟩ | ⟨c1, h⟩
  · refine j_false rfl (not_f c1) ?_
    refine j_skip ?_
    refine j_then ?_
    refine j_seq ?_
    refine j_region ?_
    refine r_q (q_fieldAddr fi36_0 sz34 rfl rfl rfl) rfl rfl ?_
    refine r_q (q_fieldAddr fi34_0 sz22 rfl rfl rfl) rfl rfl ?_
    refine r_q (q_loadb 1 rfl ag22 rfl rfl rfl) rfl rfl ?_
    refine r_q (q_lenX a0_0 a0_0_h un22 rfl rfl rfl rfl rfl) rfl rfl ?_
    obtain ⟨c2, h⟩ := of_guard h
    refine r_do (a_mkI un22 sz3 by3 zr3 rfl c2 rfl rfl rfl) rfl rfl (fun x4 => ?_)
    refine r_q (q_build (cs := [(i6 (0:Int)), (.slice x4 ((a0_0.length : Int).toNat) ((a0_0.length : Int).toNat)), (i6 (0:Int))]) zr37 pl37 rfl rfl rfl rfl) rfl rfl ?_
    refine r_do (a_storeb 1 rfl sz37 rfl rfl rfl rfl (Nat.le_of_ble_eq_true rfl) rfl) rfl rfl (fun _ => ?_)
    refine j_b1 [(i6 (0:Int)), (.slice x4 ((a0_0.length : Int).toNat) ((a0_0.length : Int).toNat)), (i6 (0:Int))] rfl ?_
    refine r_q (q_assign rfl rfl) rfl rfl ?_
    refine r_nil ?_
    refine j_then ?_
    refine j_ret ?_
    cases h
    exact j_return rfl (ResOf.cell 1 rfl rfl ag37 sz37 (ResOf.tmp rfl ResOf.nil)) rfl (fun w h => ⟨⟨x4, ((a0_0.length : Int).toNat), ((a0_0.length : Int).toNat), List.length_replicate⟩, rfl, h.pick 3 [0] rfl⟩)
  · refine j_true rfl (not_t (var_f c1)) ?_
    refine j_seq ?_
    refine j_region ?_
    refine r_q (q_build (cs := [(i6 (0:Int)), (.slice none 0 0), (i6 (0:Int))]) zr37 pl37 rfl rfl rfl rfl) rfl rfl ?_
    refine r_do (a_storeb 0 rfl sz37 rfl rfl rfl rfl (Nat.le_of_ble_eq_true rfl) rfl) rfl rfl (fun _ => ?_)
    refine j_b0 [(i6 (0:Int)), (.slice none 0 0), (i6 (0:Int))] rfl ?_
    refine r_q (q_assign rfl rfl) rfl rfl ?_
    refine r_nil ?_
    refine j_then ?_
    refine j_ret ?_
    refine j_then_ret ?_
    refine j_nil 3 1 ?_
    cases h
    exact j_return rfl (ResOf.cell 1 rfl rfl ag37 sz37 (ResOf.tmp rfl ResOf.nil)) rfl (fun w h => ⟨⟨none, 0, 0, rfl⟩, rfl, h.pick 3 [0] rfl⟩)

theorem slices_Clone_int.calls (K : Nat) (a0 : List Int) (a0_A : Option Addr) (a0_n a0_c : Nat) {w0 w : World} {F : List Res} {r1 : List Int} (hm : Mem w0 (F) w) (a0_h : a0.length = a0_n) (a0_R : Rd w0 F a0_A (ii a0)) (h : slices_Clone_int.f K a0 = some r1) :
    Calls Try.prog 78 (List.toArray [.slice a0_A a0_n a0_c]) w fun e w' => ∃ x : (Sl r1.length), e = .returned (.slice x.A x.n x.c) ∧ Mem w0 (.row x.A x.c 3 1 (ii r1) :: F) w' := by
  unfold slices_Clone_int.f at h
  refine calls_of_J (n := 8) Try.func78 rfl rfl rfl hm ?_
  refine j_seq ?_
  refine j_region ?_
  refine r_q (q_assign rfl rfl) rfl rfl ?_
  refine r_nil ?_
  refine j_then ?_
  refine j_seq ?_
  refine j_seq ?_
  refine j_region ?_
  refine r_q (q_move rfl rfl) rfl rfl ?_
  refine r_q (q_isnil un22 rfl rfl rfl) rfl rfl ?_
  refine r_nil ?_
  refine j_then ?_
  rcases ghost_nil hm a0_R with ⟨c1, rfl⟩ | c1
  · obtain ⟨_, h⟩ := of_guard h
    refine j_true rfl c1 ?_
    refine j_seq ?_
    refine j_region ?_
    refine r_q (q_assign rfl rfl) rfl rfl ?_
    refine r_nil ?_
    refine j_then ?_
    refine j_ret ?_
    refine j_then_ret ?_
    refine j_nil 3 1 ?_
    cases h
    exact j_return rfl (ResOf.tmp rfl ResOf.nil) rfl (fun w h => ⟨⟨none, 0, 0, rfl⟩, rfl, h⟩)
  · refine j_false rfl c1 ?_
    refine j_skip ?_
    refine j_then ?_
    refine j_seq ?_
    refine j_region ?_
    refine r_do (a_litX (vs := []) (ii ([] : List Int)) un22 sz3 zr3 rfl rfl rfl rfl rfl rfl rfl rfl rfl) rfl rfl (fun x1 => ?_)
    refine r_q (q_move rfl rfl) rfl rfl ?_
    obtain ⟨c2, h⟩ := of_guard h
    refine r_do (a_appI (xs := ([] : List Int)) (ys := a0) 0 un22 un22 sz3 by3 zr3 rfl rfl rfl rfl rfl rfl rfl rfl rfl rfl a0_h (Rd.drop 1 a0_R) c2) rfl rfl (fun x2 => ?_)
    refine j_s0 ?_
    refine r_q (q_assign rfl rfl) rfl rfl ?_
    refine r_nil ?_
    refine j_then ?_
    refine j_ret ?_
    cases h
    exact j_return rfl (ResOf.tmp rfl ResOf.nil) rfl (fun w h => ⟨⟨x2.1, (0 + a0_n), x2.2, (app_len rfl a0_h)⟩, rfl, h⟩)

theorem impl_copied.calls (K : Nat) (a0_0 : List Int) (a0_0_A : Option Addr) (a0_0_n a0_0_c : Nat) (a0_1 : List Int) (a0_1_A : Option Addr) (a0_1_n a0_1_c : Nat) (a0_2 : List Int) (a0_2_A : Option Addr) (a0_2_n a0_2_c : Nat) {w0 w : World} {F : List Res} {r1 : List Int} {r2 : List Int} {r3 : List Int} (hm : Mem w0 (F) w) (a0_0_h : a0_0.length = a0_0_n) (a0_0_R : Rd w0 F a0_0_A (ii a0_0)) (a0_1_h : a0_1.length = a0_1_n) (a0_1_R : Rd w0 F a0_1_A (ii a0_1)) (a0_2_h : a0_2.length = a0_2_n) (a0_2_R : Rd w0 F a0_2_A (ii a0_2)) (h : impl_copied.f K a0_0 a0_1 a0_2 = some (r1, r2, r3)) :
    Calls Try.prog 77 (List.toArray [.agg (List.toArray [.slice a0_0_A a0_0_n a0_0_c, .slice a0_1_A a0_1_n a0_1_c, .slice a0_2_A a0_2_n a0_2_c])]) w fun e w' => ∃ x : (Sl r1.length) × (Sl r2.length) × (Sl r3.length), e = .returned (.agg (List.toArray [.slice x.1.A x.1.n x.1.c, .slice x.2.1.A x.2.1.n x.2.1.c, .slice x.2.2.A x.2.2.n x.2.2.c])) ∧ Mem w0 (.row x.1.A x.1.c 3 1 (ii r1) :: .row x.2.1.A x.2.1.c 3 1 (ii r2) :: .row x.2.2.A x.2.2.c 3 1 (ii r3) :: F) w' := by
  unfold impl_copied.f at h
  refine calls_of_J (n := 13) Try.func77 rfl rfl rfl hm ?_
  refine j_seq ?_
  refine j_region ?_
  refine r_do (a_box rfl rfl) rfl rfl (fun x1 => ?_)
  refine r_do (a_alloc zr34 rfl) rfl rfl (fun x2 => ?_)
  refine r_nil ?_
  refine j_then ?_
  refine j_seq ?_
  obtain ⟨v1, hb1, h⟩ := of_b1 h
  obtain ⟨v2, hb2, h⟩ := of_b1 h
  obtain ⟨v3, hb3, h⟩ := of_b1 h
  refine j_draw (.box x1 34 [(.slice a0_0_A a0_0_n a0_0_c), (.slice a0_1_A a0_1_n a0_1_c), (.slice a0_2_A a0_2_n a0_2_c)] :: F) 11 follows_any rfl ?_
  refine d_take 0 rfl (q_fieldAddr fi34_0 sz22 rfl rfl rfl) rfl rfl (by kernel_rfl) (by kernel_rfl) (by kernel_rfl) (fun w h => h.tail) ?_
  refine d_take 1 rfl (q_loadb 0 rfl ag22 rfl rfl rfl) rfl rfl (by kernel_rfl) (by kernel_rfl) (by kernel_rfl) (fun w h => h.tail) ?_
  refine d_take 3 rfl (q_fieldAddr fi34_1 sz22 rfl rfl rfl) rfl rfl (by kernel_rfl) (by kernel_rfl) (by kernel_rfl) (fun w h => h.tail) ?_
  refine d_take 4 rfl (q_loadb 0 rfl ag22 rfl rfl rfl) rfl rfl (by kernel_rfl) (by kernel_rfl) (by kernel_rfl) (fun w h => h.tail) ?_
  refine d_take 6 rfl (q_fieldAddr fi34_2 sz22 rfl rfl rfl) rfl rfl (by kernel_rfl) (by kernel_rfl) (by kernel_rfl) (fun w h => h.tail) ?_
  refine d_take 7 rfl (q_loadb 0 rfl ag22 rfl rfl rfl) rfl rfl (by kernel_rfl) (by kernel_rfl) (by kernel_rfl) (fun w h => h.tail) ?_
  refine d_one 2 (by kernel_rfl) ?_
  refine o_do rfl (a_call ok78 rfl rfl rfl rfl (fun w hm => slices_Clone_int.calls K a0_0 a0_0_A a0_0_n a0_0_c hm a0_0_h (Rd.drop 2 a0_0_R) hb1)) rfl rfl (fun x3 w h => (h.drop 2)) (fun x3 => ?_)
  refine d_one 5 (by kernel_rfl) ?_
  refine o_do rfl (a_call ok78 rfl rfl rfl rfl (fun w hm => slices_Clone_int.calls K a0_1 a0_1_A a0_1_n a0_1_c hm a0_1_h (Rd.drop 3 a0_1_R) hb2)) rfl rfl (fun x4 w h => (h.drop 3)) (fun x4 => ?_)
  refine d_one 8 (by kernel_rfl) ?_
  refine o_do rfl (a_call ok78 rfl rfl rfl rfl (fun w hm => slices_Clone_int.calls K a0_2 a0_2_A a0_2_n a0_2_c hm a0_2_h (Rd.drop 4 a0_2_R) hb3)) rfl rfl (fun x5 w h => (h.drop 4)) (fun x5 => ?_)
  refine d_take 9 rfl (q_build (cs := [(.slice x3.A x3.n x3.c), (.slice x4.A x4.n x4.c), (.slice x5.A x5.n x5.c)]) zr34 pl34 rfl rfl rfl rfl) rfl rfl (by kernel_rfl) (by kernel_rfl) (by kernel_rfl) (fun w h => (h.drop 4)) ?_
  refine d_one 10 (by kernel_rfl) ?_
  refine o_do rfl (a_storeb 3 rfl sz34 rfl rfl rfl rfl (Nat.le_of_ble_eq_true rfl) rfl) rfl rfl (fun _ w h => (h.drop 4)) (fun _ => ?_)
  refine j_b3 [(.slice x3.A x3.n x3.c), (.slice x4.A x4.n x4.c), (.slice x5.A x5.n x5.c)] rfl ?_
  refine d_done (by kernel_rfl) ?_
  refine j_then ?_
  refine j_ret ?_
  cases h
  exact j_return rfl (ResOf.cell 3 rfl rfl ag34 sz34 ResOf.nil) rfl (fun w h => ⟨(⟨x3.A, x3.n, x3.c, x3.h⟩, ⟨x4.A, x4.n, x4.c, x4.h⟩, ⟨x5.A, x5.n, x5.c, x5.h⟩), rfl, h.pick 5 [2, 1, 0] rfl⟩)

theorem impl_again.calls (K : Nat) (a0_0 : List Int) (a0_0_A : Option Addr) (a0_0_n a0_0_c : Nat) (a0_1 : List Int) (a0_1_A : Option Addr) (a0_1_n a0_1_c : Nat) (a0_2 : List Int) (a0_2_A : Option Addr) (a0_2_n a0_2_c : Nat) (a0_3 : List Int) (a0_3_A : Option Addr) (a0_3_n a0_3_c : Nat) {w0 w : World} {F : List Res} {r1 : List Int} {r2 : List Int} {r3 : List Int} {r4 : List Int} (hm : Mem w0 (F) w) (a0_0_h : a0_0.length = a0_0_n) (a0_0_R : Rd w0 F a0_0_A (ii a0_0)) (a0_1_h : a0_1.length = a0_1_n) (a0_1_R : Rd w0 F a0_1_A (ii a0_1)) (a0_2_h : a0_2.length = a0_2_n) (a0_2_R : Rd w0 F a0_2_A (ii a0_2)) (a0_3_h : a0_3.length = a0_3_n) (a0_3_R : Rd w0 F a0_3_A (ii a0_3)) (h : impl_again.f K a0_0 a0_1 a0_2 a0_3 = some (r1, r2, r3, r4)) :
    Calls Try.prog 48 (List.toArray [.agg (List.toArray [.slice a0_0_A a0_0_n a0_0_c, .slice a0_1_A a0_1_n a0_1_c, .slice a0_2_A a0_2_n a0_2_c, .slice a0_3_A a0_3_n a0_3_c])]) w fun e w' => ∃ x : (Sl r1.length) × (Sl r2.length) × (Sl r3.length) × (Sl r4.length), e = .returned (.agg (List.toArray [.slice x.1.A x.1.n x.1.c, .slice x.2.1.A x.2.1.n x.2.1.c, .slice x.2.2.1.A x.2.2.1.n x.2.2.1.c, .slice x.2.2.2.A x.2.2.2.n x.2.2.2.c])) ∧ Mem w0 (.row x.1.A x.1.c 3 1 (ii r1) :: .row x.2.1.A x.2.1.c 3 1 (ii r2) :: .row x.2.2.1.A x.2.2.1.c 3 1 (ii r3) :: .row x.2.2.2.A x.2.2.2.c 3 1 (ii r4) :: F) w' := by
  unfold impl_again.f at h
  refine calls_of_J (n := 10) Try.func48 rfl rfl rfl hm ?_
  refine j_seq ?_
  refine j_region ?_
  refine r_do (a_box rfl rfl) rfl rfl (fun x1 => ?_)
  refine r_do (a_alloc zr36 rfl) rfl rfl (fun x2 => ?_)
  refine r_nil ?_
  refine j_then ?_
  refine j_seq ?_
  obtain ⟨v1, v2, v3, hb1, h⟩ := of_b3 h
  obtain ⟨v4, hb2, h⟩ := of_b1 h
  refine j_draw (.box x1 36 [(.slice a0_0_A a0_0_n a0_0_c), (.slice a0_1_A a0_1_n a0_1_c), (.slice a0_2_A a0_2_n a0_2_c), (.slice a0_3_A a0_3_n a0_3_c)] :: F) 8 follows_any rfl ?_
  refine d_take 0 rfl (q_fieldAddr fi36_0 sz34 rfl rfl rfl) rfl rfl (by kernel_rfl) (by kernel_rfl) (by kernel_rfl) (fun w h => h.tail) ?_
  refine d_take 1 rfl (q_loadb_agg 0 rfl ag34 sz34 rfl rfl rfl rfl) rfl rfl (by kernel_rfl) (by kernel_rfl) (by kernel_rfl) (fun w h => h.tail) ?_
  refine d_take 3 rfl (q_fieldAddr fi36_1 sz22 rfl rfl rfl) rfl rfl (by kernel_rfl) (by kernel_rfl) (by kernel_rfl) (fun w h => h.tail) ?_
  refine d_take 4 rfl (q_loadb 0 rfl ag22 rfl rfl rfl) rfl rfl (by kernel_rfl) (by kernel_rfl) (by kernel_rfl) (fun w h => h.tail) ?_
  refine d_one 2 (by kernel_rfl) ?_
  refine o_do rfl (a_call ok77 rfl rfl rfl rfl (fun w hm => impl_copied.calls K a0_0 a0_0_A a0_0_n a0_0_c a0_1 a0_1_A a0_1_n a0_1_c a0_2 a0_2_A a0_2_n a0_2_c hm a0_0_h (Rd.drop 2 a0_0_R) a0_1_h (Rd.drop 2 a0_1_R) a0_2_h (Rd.drop 2 a0_2_R) hb1)) rfl rfl (fun x3 w h => (h.drop 4)) (fun x3 => ?_)
  refine d_one 5 (by kernel_rfl) ?_
  refine o_do rfl (a_call ok78 rfl rfl rfl rfl (fun w hm => slices_Clone_int.calls K a0_3 a0_3_A a0_3_n a0_3_c hm a0_3_h (Rd.drop 5 a0_3_R) hb2)) rfl rfl (fun x4 w h => (h.drop 5)) (fun x4 => ?_)
  refine d_take 6 rfl (q_build (cs := [(.slice x3.1.A x3.1.n x3.1.c), (.slice x3.2.1.A x3.2.1.n x3.2.1.c), (.slice x3.2.2.A x3.2.2.n x3.2.2.c), (.slice x4.A x4.n x4.c)]) zr36 pl36 rfl rfl rfl rfl) rfl rfl (by kernel_rfl) (by kernel_rfl) (by kernel_rfl) (fun w h => (h.drop 5)) ?_
  refine d_one 7 (by kernel_rfl) ?_
  refine o_do rfl (a_storeb 4 rfl sz36 rfl rfl rfl rfl (Nat.le_of_ble_eq_true rfl) rfl) rfl rfl (fun _ w h => (h.drop 5)) (fun _ => ?_)
  refine j_b4 [(.slice x3.1.A x3.1.n x3.1.c), (.slice x3.2.1.A x3.2.1.n x3.2.1.c), (.slice x3.2.2.A x3.2.2.n x3.2.2.c), (.slice x4.A x4.n x4.c)] rfl ?_
  refine d_done (by kernel_rfl) ?_
  refine j_then ?_
  refine j_ret ?_
  cases h
  exact j_return rfl (ResOf.cell 4 rfl rfl ag36 sz36 ResOf.nil) rfl (fun w h => ⟨(⟨x3.1.A, x3.1.n, x3.1.c, x3.1.h⟩, ⟨x3.2.1.A, x3.2.1.n, x3.2.1.c, x3.2.1.h⟩, ⟨x3.2.2.A, x3.2.2.n, x3.2.2.c, x3.2.2.h⟩, ⟨x4.A, x4.n, x4.c, x4.h⟩), rfl, h.pick 6 [1, 2, 3, 0] rfl⟩)

theorem slices_Clone_impl_Op.calls (K : Nat) (a0 : List (Int × Int × Int)) (a0_A : Option Addr) (a0_n a0_c : Nat) {w0 w : World} {F : List Res} {r1 : List (Int × Int × Int)} (hm : Mem w0 (F) w) (a0_h : a0.length = a0_n) (a0_R : Rd w0 F a0_A (trips a0)) (h : slices_Clone_impl_Op.f K a0 = some r1) :
    Calls Try.prog 49 (List.toArray [.slice a0_A a0_n a0_c]) w fun e w' => ∃ x : (Sl r1.length), e = .returned (.slice x.A x.n x.c) ∧ Mem w0 (.row x.A x.c 68 3 (trips r1) :: F) w' := by
  unfold slices_Clone_impl_Op.f at h
  refine calls_of_J (n := 8) Try.func49 rfl rfl rfl hm ?_
  refine j_seq ?_
  refine j_region ?_
  refine r_q (q_assign rfl rfl) rfl rfl ?_
  refine r_nil ?_
  refine j_then ?_
  refine j_seq ?_
  refine j_seq ?_
  refine j_region ?_
  refine r_q (q_move rfl rfl) rfl rfl ?_
  refine r_q (q_isnil un38 rfl rfl rfl) rfl rfl ?_
  refine r_nil ?_
  refine j_then ?_
  rcases ghost_nilT hm a0_R with ⟨c1, rfl⟩ | c1
  · obtain ⟨_, h⟩ := of_guard h
    refine j_true rfl c1 ?_
    refine j_seq ?_
    refine j_region ?_
    refine r_q (q_assign rfl rfl) rfl rfl ?_
    refine r_nil ?_
    refine j_then ?_
    refine j_ret ?_
    refine j_then_ret ?_
    refine j_nil 68 3 ?_
    cases h
    exact j_return rfl (ResOf.tmp rfl ResOf.nil) rfl (fun w h => ⟨⟨none, 0, 0, rfl⟩, rfl, h⟩)
  · refine j_false rfl c1 ?_
    refine j_skip ?_
    refine j_then ?_
    refine j_seq ?_
    refine j_region ?_
    refine r_do (a_litX (vs := []) (trips ([] : List (Int × Int × Int))) un38 sz68 zr68 rfl rfl rfl rfl rfl rfl rfl rfl rfl) rfl rfl (fun x1 => ?_)
    refine r_q (q_move rfl rfl) rfl rfl ?_
    obtain ⟨c2, h⟩ := of_guard h
    refine r_do (a_appT (xs := ([] : List (Int × Int × Int))) (ys := a0) 0 un38 un38 sz68 by68 zr68 rfl rfl rfl rfl rfl rfl rfl rfl rfl rfl a0_h (Rd.drop 1 a0_R) c2) rfl rfl (fun x2 => ?_)
    refine j_s0 ?_
    refine r_q (q_assign rfl rfl) rfl rfl ?_
    refine r_nil ?_
    refine j_then ?_
    refine j_ret ?_
    cases h
    exact j_return rfl (ResOf.tmp rfl ResOf.nil) rfl (fun w h => ⟨⟨x2.1, (0 + a0_n), x2.2, (app_len rfl a0_h)⟩, rfl, h⟩)

theorem impl_NewBoth.calls (K : Nat) (a0_0 : List Int) (a0_0_A : Option Addr) (a0_0_n a0_0_c : Nat) (a0_1 : List Int) (a0_1_A : Option Addr) (a0_1_n a0_1_c : Nat) (a0_2 : List Int) (a0_2_A : Option Addr) (a0_2_n a0_2_c : Nat) (a0_3 : List Int) (a0_3_A : Option Addr) (a0_3_n a0_3_c : Nat) (a1 : List (Int × Int × Int)) (a1_A : Option Addr) (a1_n a1_c : Nat) {w0 w : World} {F : List Res} {r1 : List Int} {r2 : List Int} {r3 : List Int} {r4 : List Int} {r5 : Int} {r6 : List Int} {r7 : Int} {r8 : List (Int × Int × Int)} {r9 : Int} {r10 : Bool} {r11 : Bool} (hm : Mem w0 (F) w) (a0_0_h : a0_0.length = a0_0_n) (a0_0_R : Rd w0 F a0_0_A (ii a0_0)) (a0_1_h : a0_1.length = a0_1_n) (a0_1_R : Rd w0 F a0_1_A (ii a0_1)) (a0_2_h : a0_2.length = a0_2_n) (a0_2_R : Rd w0 F a0_2_A (ii a0_2)) (a0_3_h : a0_3.length = a0_3_n) (a0_3_R : Rd w0 F a0_3_A (ii a0_3)) (a0_3_k : a0_3.length ≤ a0_3_c) (a1_h : a1.length = a1_n) (a1_R : Rd w0 F a1_A (trips a1)) (h : impl_NewBoth.f K a0_0 a0_1 a0_2 a0_3 a1 = some (r1, r2, r3, r4, r5, r6, r7, r8, r9, r10, r11)) :
    Calls Try.prog 17 (List.toArray [.agg (List.toArray [.slice a0_0_A a0_0_n a0_0_c, .slice a0_1_A a0_1_n a0_1_c, .slice a0_2_A a0_2_n a0_2_c, .slice a0_3_A a0_3_n a0_3_c]), .slice a1_A a1_n a1_c]) w fun e w' => ∃ x : (Sl r1.length) × (Sl r2.length) × (Sl r3.length) × (Sl r4.length) × (Sl r6.length) × (Sl r8.length), e = .returned (.tuple (List.toArray [.agg (List.toArray [.slice x.1.A x.1.n x.1.c, .slice x.2.1.A x.2.1.n x.2.1.c, .slice x.2.2.1.A x.2.2.1.n x.2.2.1.c, .slice x.2.2.2.1.A x.2.2.2.1.n x.2.2.2.1.c, i6 r5, .slice x.2.2.2.2.1.A x.2.2.2.2.1.n x.2.2.2.2.1.c, i6 r7, .slice x.2.2.2.2.2.A x.2.2.2.2.2.n x.2.2.2.2.2.c, i6 r9, .bool r10]), .bool r11])) ∧ Mem w0 (.row x.1.A x.1.c 3 1 (ii r1) :: .row x.2.1.A x.2.1.c 3 1 (ii r2) :: .row x.2.2.1.A x.2.2.1.c 3 1 (ii r3) :: .row x.2.2.2.1.A x.2.2.2.1.c 3 1 (ii r4) :: .row x.2.2.2.2.1.A x.2.2.2.2.1.c 3 1 (ii r6) :: .row x.2.2.2.2.2.A x.2.2.2.2.2.c 68 3 (trips r8) :: F) w' := by
  unfold impl_NewBoth.f at h
  refine calls_of_J (n := 31) Try.func17 rfl rfl rfl hm ?_
  refine j_seq ?_
  refine j_region ?_
  refine r_do (a_box rfl rfl) rfl rfl (fun x1 => ?_)
  refine r_do (a_alloc zr40 rfl) rfl rfl (fun x2 => ?_)
  refine r_q (q_assign rfl rfl) rfl rfl ?_
  refine r_nil ?_
  refine j_then ?_
  refine j_seq ?_
  refine j_region ?_
  refine r_q (q_loadb_agg 1 rfl ag36 sz36 rfl rfl rfl rfl) rfl rfl ?_
  obtain ⟨v1, v2, v3, v4, hb1, h⟩ := of_b4 h
  refine r_do (a_call ok46 rfl rfl rfl rfl (fun w hm => impl_NewGc.calls K a0_0 a0_0_A a0_0_n a0_0_c a0_1 a0_1_A a0_1_n a0_1_c a0_2 a0_2_A a0_2_n a0_2_c a0_3 a0_3_A a0_3_n a0_3_c hm a0_0_h (Rd.drop 2 a0_0_R) a0_1_h (Rd.drop 2 a0_1_R) a0_2_h (Rd.drop 2 a0_2_R) a0_3_h (Rd.drop 2 a0_3_R) a0_3_k hb1)) rfl rfl (fun x3 => ?_)
  refine r_q (q_move rfl rfl) rfl rfl ?_
  refine r_q (q_extract rfl rfl rfl) rfl rfl ?_
  refine r_q (q_extract rfl rfl rfl) rfl rfl ?_
  refine r_do (a_alloc zr37 rfl) rfl rfl (fun x4 => ?_)
  refine r_do (a_storeb 0 rfl sz37 rfl rfl rfl rfl (Nat.le_of_ble_eq_true rfl) rfl) rfl rfl (fun _ => ?_)
  refine j_b0 [(i6 v1), (.slice x3.A x3.n x3.c), (i6 v3)] rfl ?_
  refine r_q (q_assign rfl rfl) rfl rfl ?_
  refine r_nil ?_
  refine j_then ?_
  refine j_seq ?_
  refine j_seq ?_
  refine j_region ?_
  refine r_q (q_move rfl rfl) rfl rfl ?_
  refine r_q (q_not rfl rfl) rfl rfl ?_
  refine r_q (q_move rfl rfl) rfl rfl ?_
  rcases of_if h with ⟨c1, h⟩ | ⟨c1, h⟩
  · refine r_qon (q_move rfl rfl) rfl rfl rfl rfl (not_f c1) rfl ?_
    refine r_qon (q_fieldAddr fi36_0 sz34 rfl rfl rfl) rfl rfl rfl rfl (not_f c1) rfl ?_
    refine r_qon (q_fieldAddr fi34_2 sz22 rfl rfl rfl) rfl rfl rfl rfl (not_f c1) rfl ?_
    refine r_qon (q_loadb 3 rfl ag22 rfl rfl rfl) rfl rfl rfl rfl (not_f c1) rfl ?_
    refine r_qon (q_lenX a0_2 a0_2_h un22 rfl rfl rfl rfl rfl) rfl rfl rfl rfl (not_f c1) rfl ?_
    obtain ⟨v5, hb2, h⟩ := of_b1 h
    refine r_on (a_call ok47 rfl rfl rfl rfl (fun w hm => impl_opsOk.calls K a1 a1_A a1_n a1_c (a0_2.length : Int) hm a1_h (Rd.drop 4 a1_R) hb2)) rfl rfl rfl rfl (not_f c1) rfl (fun x5 => ?_)
    refine r_qon (q_not rfl rfl) rfl rfl rfl rfl (not_f c1) rfl ?_
    refine r_q (q_pick_f rfl rfl (not_f c1) rfl) rfl rfl ?_
    refine r_nil ?_
    refine j_then ?_
    rcases of_if h with ⟨c2, h⟩ | ⟨c2, h⟩
    · refine j_false rfl (not_f c2) ?_
      refine j_skip ?_
      refine j_then ?_
      refine j_seq ?_
      obtain ⟨v6, v7, v8, v9, hb3, h⟩ := of_b4 h
      obtain ⟨v10, hb4, h⟩ := of_b1 h
      refine j_draw (.box x4 37 [(i6 v1), (.slice x3.A x3.n x3.c), (i6 v3)] :: .row x3.A x3.c 3 1 (ii v2) :: .box x1 36 [(.slice a0_0_A a0_0_n a0_0_c), (.slice a0_1_A a0_1_n a0_1_c), (.slice a0_2_A a0_2_n a0_2_c), (.slice a0_3_A a0_3_n a0_3_c)] :: F) 8 follows_any rfl ?_
      refine d_take 0 rfl (q_loadb_agg 2 rfl ag36 sz36 rfl rfl rfl rfl) rfl rfl (by kernel_rfl) (by kernel_rfl) (by kernel_rfl) (fun w h => h.pick 4 [0, 1, 3] rfl) ?_
      refine d_take 2 rfl (q_loadb_agg 0 rfl ag37 sz37 rfl rfl rfl rfl) rfl rfl (by kernel_rfl) (by kernel_rfl) (by kernel_rfl) (fun w h => h.pick 4 [0, 1, 3] rfl) ?_
      refine d_take 3 rfl (q_move rfl rfl) rfl rfl (by kernel_rfl) (by kernel_rfl) (by kernel_rfl) (fun w h => h.pick 4 [0, 1, 3] rfl) ?_
      refine d_one 1 (by kernel_rfl) ?_
      refine o_do rfl (a_call ok48 rfl rfl rfl rfl (fun w hm => impl_again.calls K a0_0 a0_0_A a0_0_n a0_0_c a0_1 a0_1_A a0_1_n a0_1_c a0_2 a0_2_A a0_2_n a0_2_c a0_3 a0_3_A a0_3_n a0_3_c hm a0_0_h (Rd.drop 4 a0_0_R) a0_1_h (Rd.drop 4 a0_1_R) a0_2_h (Rd.drop 4 a0_2_R) a0_3_h (Rd.drop 4 a0_3_R) hb3)) rfl rfl (fun x6 w h => h.pick 8 [4, 5, 7] rfl) (fun x6 => ?_)
      refine d_one 4 (by kernel_rfl) ?_
      refine o_do rfl (a_call ok49 rfl rfl rfl rfl (fun w hm => slices_Clone_impl_Op.calls K a1 a1_A a1_n a1_c hm a1_h (Rd.drop 8 a1_R) hb4)) rfl rfl (fun x7 w h => h.pick 9 [5, 6, 8] rfl) (fun x7 => ?_)
      refine d_take 5 rfl (q_build (cs := [(.slice x6.1.A x6.1.n x6.1.c), (.slice x6.2.1.A x6.2.1.n x6.2.1.c), (.slice x6.2.2.1.A x6.2.2.1.n x6.2.2.1.c), (.slice x6.2.2.2.A x6.2.2.2.n x6.2.2.2.c), (i6 v1), (.slice x3.A x3.n x3.c), (i6 v3), (.slice x7.A x7.n x7.c), (i6 (0:Int)), (.bool false)]) zr40 pl40 rfl rfl rfl rfl) rfl rfl (by kernel_rfl) (by kernel_rfl) (by kernel_rfl) (fun w h => h.pick 9 [5, 6, 8] rfl) ?_
      refine d_one 6 (by kernel_rfl) ?_
      refine o_do rfl (a_storeb 7 rfl sz40 rfl rfl rfl rfl (Nat.le_of_ble_eq_true rfl) rfl) rfl rfl (fun _ w h => h.pick 9 [5, 6, 8] rfl) (fun _ => ?_)
      refine j_b7 [(.slice x6.1.A x6.1.n x6.1.c), (.slice x6.2.1.A x6.2.1.n x6.2.1.c), (.slice x6.2.2.1.A x6.2.2.1.n x6.2.2.1.c), (.slice x6.2.2.2.A x6.2.2.2.n x6.2.2.2.c), (i6 v1), (.slice x3.A x3.n x3.c), (i6 v3), (.slice x7.A x7.n x7.c), (i6 (0:Int)), (.bool false)] rfl ?_
      refine d_take 7 rfl (q_assign rfl rfl) rfl rfl (by kernel_rfl) (by kernel_rfl) (by kernel_rfl) (fun w h => h.pick 9 [5, 6, 8] rfl) ?_
      refine d_done (by kernel_rfl) ?_
      refine j_then ?_
      refine j_ret ?_
      cases h
      exact j_return rfl (ResOf.cell 7 rfl rfl ag40 sz40 (ResOf.tmp rfl ResOf.nil)) rfl (fun w h => ⟨(⟨x6.1.A, x6.1.n, x6.1.c, x6.1.h⟩, ⟨x6.2.1.A, x6.2.1.n, x6.2.1.c, x6.2.1.h⟩, ⟨x6.2.2.1.A, x6.2.2.1.n, x6.2.2.1.c, x6.2.2.1.h⟩, ⟨x6.2.2.2.A, x6.2.2.2.n, x6.2.2.2.c, x6.2.2.2.h⟩, ⟨x3.A, x3.n, x3.c, x3.h⟩, ⟨x7.A, x7.n, x7.c, x7.h⟩), rfl, h.pick 9 [1, 2, 3, 4, 6, 0] rfl⟩)
    · refine j_true rfl (not_t (var_f c2)) ?_
      refine j_seq ?_
      refine j_region ?_
      refine r_q (q_build (cs := [(.slice none 0 0), (.slice none 0 0), (.slice none 0 0), (.slice none 0 0), (i6 (0:Int)), (.slice none 0 0), (i6 (0:Int)), (.slice none 0 0), (i6 (0:Int)), (.bool false)]) zr40 pl40 rfl rfl rfl rfl) rfl rfl ?_
      refine r_do (a_storeb 2 rfl sz40 rfl rfl rfl rfl (Nat.le_of_ble_eq_true rfl) rfl) rfl rfl (fun _ => ?_)
      refine j_b2 [(.slice none 0 0), (.slice none 0 0), (.slice none 0 0), (.slice none 0 0), (i6 (0:Int)), (.slice none 0 0), (i6 (0:Int)), (.slice none 0 0), (i6 (0:Int)), (.bool false)] rfl ?_
      refine r_q (q_assign rfl rfl) rfl rfl ?_
      refine r_nil ?_
      refine j_then ?_
      refine j_ret ?_
      refine j_then_ret ?_
      refine j_nil 3 1 ?_
      refine j_nil 3 1 ?_
      refine j_nil 3 1 ?_
      refine j_nil 3 1 ?_
      refine j_nil 3 1 ?_
      refine j_nil 68 3 ?_
      cases h
      exact j_return rfl (ResOf.cell 8 rfl rfl ag40 sz40 (ResOf.tmp rfl ResOf.nil)) rfl (fun w h => ⟨(⟨none, 0, 0, rfl⟩, ⟨none, 0, 0, rfl⟩, ⟨none, 0, 0, rfl⟩, ⟨none, 0, 0, rfl⟩, ⟨none, 0, 0, rfl⟩, ⟨none, 0, 0, rfl⟩), rfl, h.pick 10 [5, 4, 3, 2, 1, 0] rfl⟩)
  · refine r_off rfl rfl rfl rfl (not_t (var_f c1)) rfl ?_
    refine r_off rfl rfl rfl rfl (not_t (var_f c1)) rfl ?_
    refine r_off rfl rfl rfl rfl (not_t (var_f c1)) rfl ?_
    refine r_off rfl rfl rfl rfl (not_t (var_f c1)) rfl ?_
    refine r_off rfl rfl rfl rfl (not_t (var_f c1)) rfl ?_
    refine r_off rfl rfl rfl rfl (not_t (var_f c1)) rfl ?_
    refine r_off rfl rfl rfl rfl (not_t (var_f c1)) rfl ?_
    refine r_q (q_pick_t rfl rfl (not_t (var_f c1)) rfl) rfl rfl ?_
    refine r_nil ?_
    refine j_then ?_
    refine j_true rfl rfl ?_
    refine j_seq ?_
    refine j_region ?_
    refine r_q (q_build (cs := [(.slice none 0 0), (.slice none 0 0), (.slice none 0 0), (.slice none 0 0), (i6 (0:Int)), (.slice none 0 0), (i6 (0:Int)), (.slice none 0 0), (i6 (0:Int)), (.bool false)]) zr40 pl40 rfl rfl rfl rfl) rfl rfl ?_
    refine r_do (a_storeb 2 rfl sz40 rfl rfl rfl rfl (Nat.le_of_ble_eq_true rfl) rfl) rfl rfl (fun _ => ?_)
    refine j_b2 [(.slice none 0 0), (.slice none 0 0), (.slice none 0 0), (.slice none 0 0), (i6 (0:Int)), (.slice none 0 0), (i6 (0:Int)), (.slice none 0 0), (i6 (0:Int)), (.bool false)] rfl ?_
    refine r_q (q_assign rfl rfl) rfl rfl ?_
    refine r_nil ?_
    refine j_then ?_
    refine j_ret ?_
    refine j_then_ret ?_
    refine j_nil 3 1 ?_
    refine j_nil 3 1 ?_
    refine j_nil 3 1 ?_
    refine j_nil 3 1 ?_
    refine j_nil 3 1 ?_
    refine j_nil 68 3 ?_
    cases h
    exact j_return rfl (ResOf.cell 8 rfl rfl ag40 sz40 (ResOf.tmp rfl ResOf.nil)) rfl (fun w h => ⟨(⟨none, 0, 0, rfl⟩, ⟨none, 0, 0, rfl⟩, ⟨none, 0, 0, rfl⟩, ⟨none, 0, 0, rfl⟩, ⟨none, 0, 0, rfl⟩, ⟨none, 0, 0, rfl⟩), rfl, h.pick 10 [5, 4, 3, 2, 1, 0] rfl⟩)

theorem spec_NewBoth.calls (K : Nat) (a0_0 : List Int) (a0_0_A : Option Addr) (a0_0_n a0_0_c : Nat) (a0_1 : List Int) (a0_1_A : Option Addr) (a0_1_n a0_1_c : Nat) (a0_2 : List Int) (a0_2_A : Option Addr) (a0_2_n a0_2_c : Nat) (a0_3 : List Int) (a0_3_A : Option Addr) (a0_3_n a0_3_c : Nat) (a1 : List (Int × Int × Int)) (a1_A : Option Addr) (a1_n a1_c : Nat) {w0 w : World} {F : List Res} {r1 : List Int} {r2 : List Int} {r3 : List Int} {r4 : List Int} {r5 : Int} {r6 : List Int} {r7 : Int} {r8 : List (Int × Int × Int)} {r9 : Int} {r10 : Bool} {r11 : Bool} (hm : Mem w0 (F) w) (a0_0_h : a0_0.length = a0_0_n) (a0_0_R : Rd w0 F a0_0_A (ii a0_0)) (a0_1_h : a0_1.length = a0_1_n) (a0_1_R : Rd w0 F a0_1_A (ii a0_1)) (a0_2_h : a0_2.length = a0_2_n) (a0_2_R : Rd w0 F a0_2_A (ii a0_2)) (a0_3_h : a0_3.length = a0_3_n) (a0_3_R : Rd w0 F a0_3_A (ii a0_3)) (a0_3_k : a0_3.length ≤ a0_3_c) (a1_h : a1.length = a1_n) (a1_R : Rd w0 F a1_A (trips a1)) (h : spec_NewBoth.f K a0_0 a0_1 a0_2 a0_3 a1 = some (r1, r2, r3, r4, r5, r6, r7, r8, r9, r10, r11)) :
    Calls Try.prog 18 (List.toArray [.agg (List.toArray [.slice a0_0_A a0_0_n a0_0_c, .slice a0_1_A a0_1_n a0_1_c, .slice a0_2_A a0_2_n a0_2_c, .slice a0_3_A a0_3_n a0_3_c]), .slice a1_A a1_n a1_c]) w fun e w' => ∃ x : (Sl r1.length) × (Sl r2.length) × (Sl r3.length) × (Sl r4.length) × (Sl r6.length) × (Sl r8.length), e = .returned (.tuple (List.toArray [.agg (List.toArray [.slice x.1.A x.1.n x.1.c, .slice x.2.1.A x.2.1.n x.2.1.c, .slice x.2.2.1.A x.2.2.1.n x.2.2.1.c, .slice x.2.2.2.1.A x.2.2.2.1.n x.2.2.2.1.c, i6 r5, .slice x.2.2.2.2.1.A x.2.2.2.2.1.n x.2.2.2.2.1.c, i6 r7, .slice x.2.2.2.2.2.A x.2.2.2.2.2.n x.2.2.2.2.2.c, i6 r9, .bool r10]), .bool r11])) ∧ Mem w0 (.row x.1.A x.1.c 3 1 (ii r1) :: .row x.2.1.A x.2.1.c 3 1 (ii r2) :: .row x.2.2.1.A x.2.2.1.c 3 1 (ii r3) :: .row x.2.2.2.1.A x.2.2.2.1.c 3 1 (ii r4) :: .row x.2.2.2.2.1.A x.2.2.2.2.1.c 3 1 (ii r6) :: .row x.2.2.2.2.2.A x.2.2.2.2.2.c 68 3 (trips r8) :: F) w' := by
  unfold spec_NewBoth.f at h
  refine calls_of_J (n := 32) Try.func18 rfl rfl rfl hm ?_
  refine j_seq ?_
  refine j_region ?_
  refine r_do (a_box rfl rfl) rfl rfl (fun x1 => ?_)
  refine r_do (a_alloc zr40 rfl) rfl rfl (fun x2 => ?_)
  refine r_q (q_assign rfl rfl) rfl rfl ?_
  refine r_nil ?_
  refine j_then ?_
  refine j_seq ?_
  refine j_region ?_
  refine r_q (q_loadb_agg 1 rfl ag36 sz36 rfl rfl rfl rfl) rfl rfl ?_
  obtain ⟨v1, v2, v3, v4, hb1, h⟩ := of_b4 h
  refine r_do (a_call ok50 rfl rfl rfl rfl (fun w hm => spec_NewGc.calls K a0_0 a0_0_A a0_0_n a0_0_c a0_1 a0_1_A a0_1_n a0_1_c a0_2 a0_2_A a0_2_n a0_2_c a0_3 a0_3_A a0_3_n a0_3_c hm a0_0_h (Rd.drop 2 a0_0_R) a0_1_h (Rd.drop 2 a0_1_R) a0_2_h (Rd.drop 2 a0_2_R) a0_3_h (Rd.drop 2 a0_3_R) a0_3_k hb1)) rfl rfl (fun x3 => ?_)
  refine r_q (q_move rfl rfl) rfl rfl ?_
  refine r_q (q_extract rfl rfl rfl) rfl rfl ?_
  refine r_q (q_extract rfl rfl rfl) rfl rfl ?_
  refine r_do (a_alloc zr37 rfl) rfl rfl (fun x4 => ?_)
  refine r_do (a_storeb 0 rfl sz37 rfl rfl rfl rfl (Nat.le_of_ble_eq_true rfl) rfl) rfl rfl (fun _ => ?_)
  refine j_b0 [(i6 v1), (.slice x3.A x3.n x3.c), (i6 v3)] rfl ?_
  refine r_q (q_assign rfl rfl) rfl rfl ?_
  refine r_nil ?_
  refine j_then ?_
  refine j_seq ?_
  refine j_seq ?_
  refine j_region ?_
  refine r_q (q_move rfl rfl) rfl rfl ?_
  refine r_q (q_not rfl rfl) rfl rfl ?_
  refine r_q (q_move rfl rfl) rfl rfl ?_
  rcases of_if h with ⟨c1, h⟩ | ⟨c1, h⟩
  · refine r_qon (q_move rfl rfl) rfl rfl rfl rfl (not_f c1) rfl ?_
    refine r_qon (q_fieldAddr fi36_0 sz34 rfl rfl rfl) rfl rfl rfl rfl (not_f c1) rfl ?_
    refine r_qon (q_fieldAddr fi34_2 sz22 rfl rfl rfl) rfl rfl rfl rfl (not_f c1) rfl ?_
    refine r_qon (q_loadb 3 rfl ag22 rfl rfl rfl) rfl rfl rfl rfl (not_f c1) rfl ?_
    refine r_qon (q_lenX a0_2 a0_2_h un22 rfl rfl rfl rfl rfl) rfl rfl rfl rfl (not_f c1) rfl ?_
    obtain ⟨v5, hb2, h⟩ := of_b1 h
    refine r_on (a_call ok51 rfl rfl rfl rfl (fun w hm => spec_l7Ops.calls K a1 a1_A a1_n a1_c (a0_2.length : Int) hm a1_h (Rd.drop 4 a1_R) hb2)) rfl rfl rfl rfl (not_f c1) rfl (fun x5 => ?_)
    refine r_qon (q_not rfl rfl) rfl rfl rfl rfl (not_f c1) rfl ?_
    refine r_q (q_pick_f rfl rfl (not_f c1) rfl) rfl rfl ?_
    refine r_nil ?_
    refine j_then ?_
    rcases of_if h with ⟨c2, h⟩ | ⟨c2, h⟩
    · refine j_false rfl (not_f c2) ?_
      refine j_skip ?_
      refine j_then ?_
      refine j_seq ?_
      obtain ⟨v6, v7, v8, v9, hb3, h⟩ := of_b4 h
      obtain ⟨c3, h⟩ := of_guard h
      refine j_draw (.box x4 37 [(i6 v1), (.slice x3.A x3.n x3.c), (i6 v3)] :: .row x3.A x3.c 3 1 (ii v2) :: .box x1 36 [(.slice a0_0_A a0_0_n a0_0_c), (.slice a0_1_A a0_1_n a0_1_c), (.slice a0_2_A a0_2_n a0_2_c), (.slice a0_3_A a0_3_n a0_3_c)] :: F) 9 follows_any rfl ?_
      refine d_take 0 rfl (q_loadb_agg 2 rfl ag36 sz36 rfl rfl rfl rfl) rfl rfl (by kernel_rfl) (by kernel_rfl) (by kernel_rfl) (fun w h => h.pick 4 [0, 1, 3] rfl) ?_
      refine d_take 2 rfl (q_loadb_agg 0 rfl ag37 sz37 rfl rfl rfl rfl) rfl rfl (by kernel_rfl) (by kernel_rfl) (by kernel_rfl) (fun w h => h.pick 4 [0, 1, 3] rfl) ?_
      refine d_take 4 rfl (q_move rfl rfl) rfl rfl (by kernel_rfl) (by kernel_rfl) (by kernel_rfl) (fun w h => h.pick 4 [0, 1, 3] rfl) ?_
      refine d_join (σ := ((Sl v6.length) × (Sl v7.length) × (Sl v8.length) × (Sl v9.length)) × (Option Addr) × (Option Addr × Nat)) 0 #[true, true, true, true, true, true, true, true, true] (fun s => [(4, (pt x2)), (5, (.bool true))]) (fun s => .row s.1.1.A s.1.1.c 3 1 (ii v6) :: .row s.1.2.1.A s.1.2.1.c 3 1 (ii v7) :: .row s.1.2.2.1.A s.1.2.2.1.c 3 1 (ii v8) :: .row s.1.2.2.2.A s.1.2.2.2.c 3 1 (ii v9) :: .row s.2.2.1 s.2.2.2 68 3 (trips (([] : List (Int × Int × Int)) ++ a1)) :: .box x4 37 [(i6 v1), (.slice x3.A x3.n x3.c), (i6 v3)] :: .row x3.A x3.c 3 1 (ii v2) :: .box x2 40 [(.slice s.1.1.A s.1.1.n s.1.1.c), (.slice s.1.2.1.A s.1.2.1.n s.1.2.1.c), (.slice s.1.2.2.1.A s.1.2.2.1.n s.1.2.2.1.c), (.slice s.1.2.2.2.A s.1.2.2.2.n s.1.2.2.2.c), (i6 v1), (.slice x3.A x3.n x3.c), (i6 v3), (.slice s.2.2.1 (0 + a1_n) s.2.2.2), (i6 (0:Int)), (.bool false)] :: .box x1 36 [(.slice a0_0_A a0_0_n a0_0_c), (.slice a0_1_A a0_1_n a0_1_c), (.slice a0_2_A a0_2_n a0_2_c), (.slice a0_3_A a0_3_n a0_3_c)] :: F) ?_ (fun hD511 => ?_)
      · rintro ⟨x6, x7, x8⟩
        show J _ _ [(4, (pt x2)), (5, (.bool true))] _ (.row x6.1.A x6.1.c 3 1 (ii v6) :: .row x6.2.1.A x6.2.1.c 3 1 (ii v7) :: .row x6.2.2.1.A x6.2.2.1.c 3 1 (ii v8) :: .row x6.2.2.2.A x6.2.2.2.c 3 1 (ii v9) :: .row x8.1 x8.2 68 3 (trips (([] : List (Int × Int × Int)) ++ a1)) :: .box x4 37 [(i6 v1), (.slice x3.A x3.n x3.c), (i6 v3)] :: .row x3.A x3.c 3 1 (ii v2) :: .box x2 40 [(.slice x6.1.A x6.1.n x6.1.c), (.slice x6.2.1.A x6.2.1.n x6.2.1.c), (.slice x6.2.2.1.A x6.2.2.1.n x6.2.2.1.c), (.slice x6.2.2.2.A x6.2.2.2.n x6.2.2.2.c), (i6 v1), (.slice x3.A x3.n x3.c), (i6 v3), (.slice x8.1 (0 + a1_n) x8.2), (i6 (0:Int)), (.bool false)] :: .box x1 36 [(.slice a0_0_A a0_0_n a0_0_c), (.slice a0_1_A a0_1_n a0_1_c), (.slice a0_2_A a0_2_n a0_2_c), (.slice a0_3_A a0_3_n a0_3_c)] :: F)
        refine d_done (by kernel_rfl) ?_
        refine j_then ?_
        refine j_ret ?_
        cases h
        exact j_return rfl (ResOf.cell 7 rfl rfl ag40 sz40 (ResOf.tmp rfl ResOf.nil)) rfl (fun w h => ⟨(⟨x6.1.A, x6.1.n, x6.1.c, x6.1.h⟩, ⟨x6.2.1.A, x6.2.1.n, x6.2.1.c, x6.2.1.h⟩, ⟨x6.2.2.1.A, x6.2.2.1.n, x6.2.2.1.c, x6.2.2.1.h⟩, ⟨x6.2.2.2.A, x6.2.2.2.n, x6.2.2.2.c, x6.2.2.2.h⟩, ⟨x3.A, x3.n, x3.c, x3.h⟩, ⟨x8.1, (0 + a1_n), x8.2, (app_len rfl a1_h)⟩), rfl, h.pick 9 [0, 1, 2, 3, 6, 4] rfl⟩)
      refine d_join (σ := ((Sl v6.length) × (Sl v7.length) × (Sl v8.length) × (Sl v9.length)) × (Option Addr) × (Option Addr × Nat)) 2 #[true, true, true, true, true, true, true, false, false] (fun s => [(4, (pt x2)), (5, (.bool false)), (31, (.agg (List.toArray [(.slice s.1.1.A s.1.1.n s.1.1.c), (.slice s.1.2.1.A s.1.2.1.n s.1.2.1.c), (.slice s.1.2.2.1.A s.1.2.2.1.n s.1.2.2.1.c), (.slice s.1.2.2.2.A s.1.2.2.2.n s.1.2.2.2.c), (i6 v1), (.slice x3.A x3.n x3.c), (i6 v3), (.slice s.2.2.1 (0 + a1_n) s.2.2.2), (i6 (0:Int)), (.bool false)])))]) (fun s => .row s.1.1.A s.1.1.c 3 1 (ii v6) :: .row s.1.2.1.A s.1.2.1.c 3 1 (ii v7) :: .row s.1.2.2.1.A s.1.2.2.1.c 3 1 (ii v8) :: .row s.1.2.2.2.A s.1.2.2.2.c 3 1 (ii v9) :: .row s.2.2.1 s.2.2.2 68 3 (trips (([] : List (Int × Int × Int)) ++ a1)) :: .box x4 37 [(i6 v1), (.slice x3.A x3.n x3.c), (i6 v3)] :: .row x3.A x3.c 3 1 (ii v2) :: .box x2 40 [(.slice none 0 0), (.slice none 0 0), (.slice none 0 0), (.slice none 0 0), (i6 (0:Int)), (.slice none 0 0), (i6 (0:Int)), (.slice none 0 0), (i6 (0:Int)), (.bool false)] :: .box x1 36 [(.slice a0_0_A a0_0_n a0_0_c), (.slice a0_1_A a0_1_n a0_1_c), (.slice a0_2_A a0_2_n a0_2_c), (.slice a0_3_A a0_3_n a0_3_c)] :: F) ?_ (fun hD127 => ?_)
      · rintro ⟨x6, x7, x8⟩
        show J _ _ [(4, (pt x2)), (5, (.bool false)), (31, (.agg (List.toArray [(.slice x6.1.A x6.1.n x6.1.c), (.slice x6.2.1.A x6.2.1.n x6.2.1.c), (.slice x6.2.2.1.A x6.2.2.1.n x6.2.2.1.c), (.slice x6.2.2.2.A x6.2.2.2.n x6.2.2.2.c), (i6 v1), (.slice x3.A x3.n x3.c), (i6 v3), (.slice x8.1 (0 + a1_n) x8.2), (i6 (0:Int)), (.bool false)])))] _ (.row x6.1.A x6.1.c 3 1 (ii v6) :: .row x6.2.1.A x6.2.1.c 3 1 (ii v7) :: .row x6.2.2.1.A x6.2.2.1.c 3 1 (ii v8) :: .row x6.2.2.2.A x6.2.2.2.c 3 1 (ii v9) :: .row x8.1 x8.2 68 3 (trips (([] : List (Int × Int × Int)) ++ a1)) :: .box x4 37 [(i6 v1), (.slice x3.A x3.n x3.c), (i6 v3)] :: .row x3.A x3.c 3 1 (ii v2) :: .box x2 40 [(.slice none 0 0), (.slice none 0 0), (.slice none 0 0), (.slice none 0 0), (i6 (0:Int)), (.slice none 0 0), (i6 (0:Int)), (.slice none 0 0), (i6 (0:Int)), (.bool false)] :: .box x1 36 [(.slice a0_0_A a0_0_n a0_0_c), (.slice a0_1_A a0_1_n a0_1_c), (.slice a0_2_A a0_2_n a0_2_c), (.slice a0_3_A a0_3_n a0_3_c)] :: F)
        refine d_one 7 (by kernel_rfl) ?_
        · refine o_do rfl (a_storeb 7 rfl sz40 rfl rfl rfl rfl (Nat.le_of_ble_eq_true rfl) rfl) rfl rfl (fun _ w h => h.pick 9 [5, 6, 8] rfl) (fun _ => ?_)
          refine j_b7 [(.slice x6.1.A x6.1.n x6.1.c), (.slice x6.2.1.A x6.2.1.n x6.2.1.c), (.slice x6.2.2.1.A x6.2.2.1.n x6.2.2.1.c), (.slice x6.2.2.2.A x6.2.2.2.n x6.2.2.2.c), (i6 v1), (.slice x3.A x3.n x3.c), (i6 v3), (.slice x8.1 (0 + a1_n) x8.2), (i6 (0:Int)), (.bool false)] rfl ?_
          refine d_take 8 rfl (q_assign rfl rfl) rfl rfl (by kernel_rfl) (by kernel_rfl) (by kernel_rfl) (fun w h => h.pick 9 [5, 6, 8] rfl) ?_
          refine j_rs (.row x6.1.A x6.1.c 3 1 (ii v6) :: .row x6.2.1.A x6.2.1.c 3 1 (ii v7) :: .row x6.2.2.1.A x6.2.2.1.c 3 1 (ii v8) :: .row x6.2.2.2.A x6.2.2.2.c 3 1 (ii v9) :: .row x8.1 x8.2 68 3 (trips (([] : List (Int × Int × Int)) ++ a1)) :: .box x4 37 [(i6 v1), (.slice x3.A x3.n x3.c), (i6 v3)] :: .row x3.A x3.c 3 1 (ii v2) :: .box x2 40 [(.slice x6.1.A x6.1.n x6.1.c), (.slice x6.2.1.A x6.2.1.n x6.2.1.c), (.slice x6.2.2.1.A x6.2.2.1.n x6.2.2.1.c), (.slice x6.2.2.2.A x6.2.2.2.n x6.2.2.2.c), (i6 v1), (.slice x3.A x3.n x3.c), (i6 v3), (.slice x8.1 (0 + a1_n) x8.2), (i6 (0:Int)), (.bool false)] :: .box x1 36 [(.slice a0_0_A a0_0_n a0_0_c), (.slice a0_1_A a0_1_n a0_1_c), (.slice a0_2_A a0_2_n a0_2_c), (.slice a0_3_A a0_3_n a0_3_c)] :: F) (fun _ h => h) ?_
          refine j_env [(4, (pt x2)), (5, (.bool true))] ⟨rfl, rfl, trivial⟩ ?_
          exact hD511 (x6, x7, x8)
      refine d_join (σ := ((Sl v6.length) × (Sl v7.length) × (Sl v8.length) × (Sl v9.length)) × (Option Addr)) 4 #[true, true, true, true, true, false, false, false, false] (fun s => [(4, (pt x2)), (5, (.bool false)), (26, (.agg (List.toArray [(.slice s.1.1.A s.1.1.n s.1.1.c), (.slice s.1.2.1.A s.1.2.1.n s.1.2.1.c), (.slice s.1.2.2.1.A s.1.2.2.1.n s.1.2.2.1.c), (.slice s.1.2.2.2.A s.1.2.2.2.n s.1.2.2.2.c)]))), (27, (.agg (List.toArray [(i6 v1), (.slice x3.A x3.n x3.c), (i6 v3)]))), (28, (.slice s.2 0 0)), (29, (.slice a1_A a1_n a1_c))]) (fun s => .row s.1.1.A s.1.1.c 3 1 (ii v6) :: .row s.1.2.1.A s.1.2.1.c 3 1 (ii v7) :: .row s.1.2.2.1.A s.1.2.2.1.c 3 1 (ii v8) :: .row s.1.2.2.2.A s.1.2.2.2.c 3 1 (ii v9) :: .row s.2 0 68 3 (trips ([] : List (Int × Int × Int))) :: .box x4 37 [(i6 v1), (.slice x3.A x3.n x3.c), (i6 v3)] :: .row x3.A x3.c 3 1 (ii v2) :: .box x2 40 [(.slice none 0 0), (.slice none 0 0), (.slice none 0 0), (.slice none 0 0), (i6 (0:Int)), (.slice none 0 0), (i6 (0:Int)), (.slice none 0 0), (i6 (0:Int)), (.bool false)] :: .box x1 36 [(.slice a0_0_A a0_0_n a0_0_c), (.slice a0_1_A a0_1_n a0_1_c), (.slice a0_2_A a0_2_n a0_2_c), (.slice a0_3_A a0_3_n a0_3_c)] :: F) ?_ (fun hD31 => ?_)
      · rintro ⟨x6, x7⟩
        show J _ _ [(4, (pt x2)), (5, (.bool false)), (26, (.agg (List.toArray [(.slice x6.1.A x6.1.n x6.1.c), (.slice x6.2.1.A x6.2.1.n x6.2.1.c), (.slice x6.2.2.1.A x6.2.2.1.n x6.2.2.1.c), (.slice x6.2.2.2.A x6.2.2.2.n x6.2.2.2.c)]))), (27, (.agg (List.toArray [(i6 v1), (.slice x3.A x3.n x3.c), (i6 v3)]))), (28, (.slice x7 0 0)), (29, (.slice a1_A a1_n a1_c))] _ (.row x6.1.A x6.1.c 3 1 (ii v6) :: .row x6.2.1.A x6.2.1.c 3 1 (ii v7) :: .row x6.2.2.1.A x6.2.2.1.c 3 1 (ii v8) :: .row x6.2.2.2.A x6.2.2.2.c 3 1 (ii v9) :: .row x7 0 68 3 (trips ([] : List (Int × Int × Int))) :: .box x4 37 [(i6 v1), (.slice x3.A x3.n x3.c), (i6 v3)] :: .row x3.A x3.c 3 1 (ii v2) :: .box x2 40 [(.slice none 0 0), (.slice none 0 0), (.slice none 0 0), (.slice none 0 0), (i6 (0:Int)), (.slice none 0 0), (i6 (0:Int)), (.slice none 0 0), (i6 (0:Int)), (.bool false)] :: .box x1 36 [(.slice a0_0_A a0_0_n a0_0_c), (.slice a0_1_A a0_1_n a0_1_c), (.slice a0_2_A a0_2_n a0_2_c), (.slice a0_3_A a0_3_n a0_3_c)] :: F)
        refine d_one 5 (by kernel_rfl) ?_
        · refine o_do rfl (a_appT (xs := ([] : List (Int × Int × Int))) (ys := a1) 4 un38 un38 sz68 by68 zr68 rfl rfl rfl rfl rfl rfl rfl rfl rfl rfl a1_h (Rd.drop 9 a1_R) c3) rfl rfl (fun x8 w h => h.pick 9 [5, 6, 8] rfl) (fun x8 => ?_)
          refine j_s4 ?_
          refine d_take 6 rfl (q_build (cs := [(.slice x6.1.A x6.1.n x6.1.c), (.slice x6.2.1.A x6.2.1.n x6.2.1.c), (.slice x6.2.2.1.A x6.2.2.1.n x6.2.2.1.c), (.slice x6.2.2.2.A x6.2.2.2.n x6.2.2.2.c), (i6 v1), (.slice x3.A x3.n x3.c), (i6 v3), (.slice x8.1 (0 + a1_n) x8.2), (i6 (0:Int)), (.bool false)]) zr40 pl40 rfl rfl rfl rfl) rfl rfl (by kernel_rfl) (by kernel_rfl) (by kernel_rfl) (fun w h => h.pick 9 [5, 6, 8] rfl) ?_
          refine j_rs (.row x6.1.A x6.1.c 3 1 (ii v6) :: .row x6.2.1.A x6.2.1.c 3 1 (ii v7) :: .row x6.2.2.1.A x6.2.2.1.c 3 1 (ii v8) :: .row x6.2.2.2.A x6.2.2.2.c 3 1 (ii v9) :: .row x8.1 x8.2 68 3 (trips (([] : List (Int × Int × Int)) ++ a1)) :: .box x4 37 [(i6 v1), (.slice x3.A x3.n x3.c), (i6 v3)] :: .row x3.A x3.c 3 1 (ii v2) :: .box x2 40 [(.slice none 0 0), (.slice none 0 0), (.slice none 0 0), (.slice none 0 0), (i6 (0:Int)), (.slice none 0 0), (i6 (0:Int)), (.slice none 0 0), (i6 (0:Int)), (.bool false)] :: .box x1 36 [(.slice a0_0_A a0_0_n a0_0_c), (.slice a0_1_A a0_1_n a0_1_c), (.slice a0_2_A a0_2_n a0_2_c), (.slice a0_3_A a0_3_n a0_3_c)] :: F) (fun _ h => h) ?_
          refine j_env [(4, (pt x2)), (5, (.bool false)), (31, (.agg (List.toArray [(.slice x6.1.A x6.1.n x6.1.c), (.slice x6.2.1.A x6.2.1.n x6.2.1.c), (.slice x6.2.2.1.A x6.2.2.1.n x6.2.2.1.c), (.slice x6.2.2.2.A x6.2.2.2.n x6.2.2.2.c), (i6 v1), (.slice x3.A x3.n x3.c), (i6 v3), (.slice x8.1 (0 + a1_n) x8.2), (i6 (0:Int)), (.bool false)])))] ⟨rfl, rfl, rfl, trivial⟩ ?_
          exact hD127 (x6, x7, x8)
      refine d_join (σ := ((Sl v6.length) × (Sl v7.length) × (Sl v8.length) × (Sl v9.length))) 5 #[true, true, true, false, true, false, false, false, false] (fun s => [(4, (pt x2)), (5, (.bool false)), (26, (.agg (List.toArray [(.slice s.1.A s.1.n s.1.c), (.slice s.2.1.A s.2.1.n s.2.1.c), (.slice s.2.2.1.A s.2.2.1.n s.2.2.1.c), (.slice s.2.2.2.A s.2.2.2.n s.2.2.2.c)]))), (27, (.agg (List.toArray [(i6 v1), (.slice x3.A x3.n x3.c), (i6 v3)]))), (29, (.slice a1_A a1_n a1_c))]) (fun s => .row s.1.A s.1.c 3 1 (ii v6) :: .row s.2.1.A s.2.1.c 3 1 (ii v7) :: .row s.2.2.1.A s.2.2.1.c 3 1 (ii v8) :: .row s.2.2.2.A s.2.2.2.c 3 1 (ii v9) :: .box x4 37 [(i6 v1), (.slice x3.A x3.n x3.c), (i6 v3)] :: .row x3.A x3.c 3 1 (ii v2) :: .box x2 40 [(.slice none 0 0), (.slice none 0 0), (.slice none 0 0), (.slice none 0 0), (i6 (0:Int)), (.slice none 0 0), (i6 (0:Int)), (.slice none 0 0), (i6 (0:Int)), (.bool false)] :: .box x1 36 [(.slice a0_0_A a0_0_n a0_0_c), (.slice a0_1_A a0_1_n a0_1_c), (.slice a0_2_A a0_2_n a0_2_c), (.slice a0_3_A a0_3_n a0_3_c)] :: F) ?_ (fun hD23 => ?_)
      · rintro x6
        show J _ _ [(4, (pt x2)), (5, (.bool false)), (26, (.agg (List.toArray [(.slice x6.1.A x6.1.n x6.1.c), (.slice x6.2.1.A x6.2.1.n x6.2.1.c), (.slice x6.2.2.1.A x6.2.2.1.n x6.2.2.1.c), (.slice x6.2.2.2.A x6.2.2.2.n x6.2.2.2.c)]))), (27, (.agg (List.toArray [(i6 v1), (.slice x3.A x3.n x3.c), (i6 v3)]))), (29, (.slice a1_A a1_n a1_c))] _ (.row x6.1.A x6.1.c 3 1 (ii v6) :: .row x6.2.1.A x6.2.1.c 3 1 (ii v7) :: .row x6.2.2.1.A x6.2.2.1.c 3 1 (ii v8) :: .row x6.2.2.2.A x6.2.2.2.c 3 1 (ii v9) :: .box x4 37 [(i6 v1), (.slice x3.A x3.n x3.c), (i6 v3)] :: .row x3.A x3.c 3 1 (ii v2) :: .box x2 40 [(.slice none 0 0), (.slice none 0 0), (.slice none 0 0), (.slice none 0 0), (i6 (0:Int)), (.slice none 0 0), (i6 (0:Int)), (.slice none 0 0), (i6 (0:Int)), (.bool false)] :: .box x1 36 [(.slice a0_0_A a0_0_n a0_0_c), (.slice a0_1_A a0_1_n a0_1_c), (.slice a0_2_A a0_2_n a0_2_c), (.slice a0_3_A a0_3_n a0_3_c)] :: F)
        refine d_one 3 (by kernel_rfl) ?_
        · refine o_do rfl (a_litX (vs := []) (trips ([] : List (Int × Int × Int))) un38 sz68 zr68 rfl rfl rfl rfl rfl rfl rfl rfl rfl) rfl rfl (fun x7 w h => h.pick 9 [5, 6, 8] rfl) (fun x7 => ?_)
          refine j_rs (.row x6.1.A x6.1.c 3 1 (ii v6) :: .row x6.2.1.A x6.2.1.c 3 1 (ii v7) :: .row x6.2.2.1.A x6.2.2.1.c 3 1 (ii v8) :: .row x6.2.2.2.A x6.2.2.2.c 3 1 (ii v9) :: .row x7 0 68 3 (trips ([] : List (Int × Int × Int))) :: .box x4 37 [(i6 v1), (.slice x3.A x3.n x3.c), (i6 v3)] :: .row x3.A x3.c 3 1 (ii v2) :: .box x2 40 [(.slice none 0 0), (.slice none 0 0), (.slice none 0 0), (.slice none 0 0), (i6 (0:Int)), (.slice none 0 0), (i6 (0:Int)), (.slice none 0 0), (i6 (0:Int)), (.bool false)] :: .box x1 36 [(.slice a0_0_A a0_0_n a0_0_c), (.slice a0_1_A a0_1_n a0_1_c), (.slice a0_2_A a0_2_n a0_2_c), (.slice a0_3_A a0_3_n a0_3_c)] :: F) (fun _ h => h.pick 9 [1, 2, 3, 4, 0, 5, 6, 7, 8] rfl) ?_
          refine j_env [(4, (pt x2)), (5, (.bool false)), (26, (.agg (List.toArray [(.slice x6.1.A x6.1.n x6.1.c), (.slice x6.2.1.A x6.2.1.n x6.2.1.c), (.slice x6.2.2.1.A x6.2.2.1.n x6.2.2.1.c), (.slice x6.2.2.2.A x6.2.2.2.n x6.2.2.2.c)]))), (27, (.agg (List.toArray [(i6 v1), (.slice x3.A x3.n x3.c), (i6 v3)]))), (28, (.slice x7 0 0)), (29, (.slice a1_A a1_n a1_c))] ⟨rfl, rfl, rfl, rfl, rfl, rfl, trivial⟩ ?_
          exact hD31 (x6, x7)
      refine d_join (σ := (Option Addr)) 5 #[true, false, true, true, true, false, false, false, false] (fun s => [(4, (pt x2)), (5, (.bool false)), (25, (.agg (List.toArray [(.slice a0_0_A a0_0_n a0_0_c), (.slice a0_1_A a0_1_n a0_1_c), (.slice a0_2_A a0_2_n a0_2_c), (.slice a0_3_A a0_3_n a0_3_c)]))), (27, (.agg (List.toArray [(i6 v1), (.slice x3.A x3.n x3.c), (i6 v3)]))), (28, (.slice s 0 0)), (29, (.slice a1_A a1_n a1_c))]) (fun s => .row s 0 68 3 (trips ([] : List (Int × Int × Int))) :: .box x4 37 [(i6 v1), (.slice x3.A x3.n x3.c), (i6 v3)] :: .row x3.A x3.c 3 1 (ii v2) :: .box x2 40 [(.slice none 0 0), (.slice none 0 0), (.slice none 0 0), (.slice none 0 0), (i6 (0:Int)), (.slice none 0 0), (i6 (0:Int)), (.slice none 0 0), (i6 (0:Int)), (.bool false)] :: .box x1 36 [(.slice a0_0_A a0_0_n a0_0_c), (.slice a0_1_A a0_1_n a0_1_c), (.slice a0_2_A a0_2_n a0_2_c), (.slice a0_3_A a0_3_n a0_3_c)] :: F) ?_ (fun hD29 => ?_)
      · rintro x7
        show J _ _ [(4, (pt x2)), (5, (.bool false)), (25, (.agg (List.toArray [(.slice a0_0_A a0_0_n a0_0_c), (.slice a0_1_A a0_1_n a0_1_c), (.slice a0_2_A a0_2_n a0_2_c), (.slice a0_3_A a0_3_n a0_3_c)]))), (27, (.agg (List.toArray [(i6 v1), (.slice x3.A x3.n x3.c), (i6 v3)]))), (28, (.slice x7 0 0)), (29, (.slice a1_A a1_n a1_c))] _ (.row x7 0 68 3 (trips ([] : List (Int × Int × Int))) :: .box x4 37 [(i6 v1), (.slice x3.A x3.n x3.c), (i6 v3)] :: .row x3.A x3.c 3 1 (ii v2) :: .box x2 40 [(.slice none 0 0), (.slice none 0 0), (.slice none 0 0), (.slice none 0 0), (i6 (0:Int)), (.slice none 0 0), (i6 (0:Int)), (.slice none 0 0), (i6 (0:Int)), (.bool false)] :: .box x1 36 [(.slice a0_0_A a0_0_n a0_0_c), (.slice a0_1_A a0_1_n a0_1_c), (.slice a0_2_A a0_2_n a0_2_c), (.slice a0_3_A a0_3_n a0_3_c)] :: F)
        refine d_one 1 (by kernel_rfl) ?_
        · refine o_do rfl (a_call ok52 rfl rfl rfl rfl (fun w hm => spec_l4Copy.calls K a0_0 a0_0_A a0_0_n a0_0_c a0_1 a0_1_A a0_1_n a0_1_c a0_2 a0_2_A a0_2_n a0_2_c a0_3 a0_3_A a0_3_n a0_3_c hm a0_0_h (Rd.drop 5 a0_0_R) a0_1_h (Rd.drop 5 a0_1_R) a0_2_h (Rd.drop 5 a0_2_R) a0_3_h (Rd.drop 5 a0_3_R) hb3)) rfl rfl (fun x6 w h => h.pick 9 [5, 6, 8] rfl) (fun x6 => ?_)
          refine j_rs (.row x6.1.A x6.1.c 3 1 (ii v6) :: .row x6.2.1.A x6.2.1.c 3 1 (ii v7) :: .row x6.2.2.1.A x6.2.2.1.c 3 1 (ii v8) :: .row x6.2.2.2.A x6.2.2.2.c 3 1 (ii v9) :: .row x7 0 68 3 (trips ([] : List (Int × Int × Int))) :: .box x4 37 [(i6 v1), (.slice x3.A x3.n x3.c), (i6 v3)] :: .row x3.A x3.c 3 1 (ii v2) :: .box x2 40 [(.slice none 0 0), (.slice none 0 0), (.slice none 0 0), (.slice none 0 0), (i6 (0:Int)), (.slice none 0 0), (i6 (0:Int)), (.slice none 0 0), (i6 (0:Int)), (.bool false)] :: .box x1 36 [(.slice a0_0_A a0_0_n a0_0_c), (.slice a0_1_A a0_1_n a0_1_c), (.slice a0_2_A a0_2_n a0_2_c), (.slice a0_3_A a0_3_n a0_3_c)] :: F) (fun _ h => h) ?_
          refine j_env [(4, (pt x2)), (5, (.bool false)), (26, (.agg (List.toArray [(.slice x6.1.A x6.1.n x6.1.c), (.slice x6.2.1.A x6.2.1.n x6.2.1.c), (.slice x6.2.2.1.A x6.2.2.1.n x6.2.2.1.c), (.slice x6.2.2.2.A x6.2.2.2.n x6.2.2.2.c)]))), (27, (.agg (List.toArray [(i6 v1), (.slice x3.A x3.n x3.c), (i6 v3)]))), (28, (.slice x7 0 0)), (29, (.slice a1_A a1_n a1_c))] ⟨rfl, rfl, rfl, rfl, rfl, rfl, trivial⟩ ?_
          exact hD31 (x6, x7)
      refine d_two 1 3 (by kernel_rfl) ?_ ?_
      · refine o_do rfl (a_call ok52 rfl rfl rfl rfl (fun w hm => spec_l4Copy.calls K a0_0 a0_0_A a0_0_n a0_0_c a0_1 a0_1_A a0_1_n a0_1_c a0_2 a0_2_A a0_2_n a0_2_c a0_3 a0_3_A a0_3_n a0_3_c hm a0_0_h (Rd.drop 4 a0_0_R) a0_1_h (Rd.drop 4 a0_1_R) a0_2_h (Rd.drop 4 a0_2_R) a0_3_h (Rd.drop 4 a0_3_R) hb3)) rfl rfl (fun x6 w h => h.pick 8 [4, 5, 7] rfl) (fun x6 => ?_)
        refine j_rs (.row x6.1.A x6.1.c 3 1 (ii v6) :: .row x6.2.1.A x6.2.1.c 3 1 (ii v7) :: .row x6.2.2.1.A x6.2.2.1.c 3 1 (ii v8) :: .row x6.2.2.2.A x6.2.2.2.c 3 1 (ii v9) :: .box x4 37 [(i6 v1), (.slice x3.A x3.n x3.c), (i6 v3)] :: .row x3.A x3.c 3 1 (ii v2) :: .box x2 40 [(.slice none 0 0), (.slice none 0 0), (.slice none 0 0), (.slice none 0 0), (i6 (0:Int)), (.slice none 0 0), (i6 (0:Int)), (.slice none 0 0), (i6 (0:Int)), (.bool false)] :: .box x1 36 [(.slice a0_0_A a0_0_n a0_0_c), (.slice a0_1_A a0_1_n a0_1_c), (.slice a0_2_A a0_2_n a0_2_c), (.slice a0_3_A a0_3_n a0_3_c)] :: F) (fun _ h => h) ?_
        refine j_env [(4, (pt x2)), (5, (.bool false)), (26, (.agg (List.toArray [(.slice x6.1.A x6.1.n x6.1.c), (.slice x6.2.1.A x6.2.1.n x6.2.1.c), (.slice x6.2.2.1.A x6.2.2.1.n x6.2.2.1.c), (.slice x6.2.2.2.A x6.2.2.2.n x6.2.2.2.c)]))), (27, (.agg (List.toArray [(i6 v1), (.slice x3.A x3.n x3.c), (i6 v3)]))), (29, (.slice a1_A a1_n a1_c))] ⟨rfl, rfl, rfl, rfl, rfl, trivial⟩ ?_
        exact hD23 x6
      · refine o_do rfl (a_litX (vs := []) (trips ([] : List (Int × Int × Int))) un38 sz68 zr68 rfl rfl rfl rfl rfl rfl rfl rfl rfl) rfl rfl (fun x7 w h => h.pick 5 [1, 2, 4] rfl) (fun x7 => ?_)
        refine j_rs (.row x7 0 68 3 (trips ([] : List (Int × Int × Int))) :: .box x4 37 [(i6 v1), (.slice x3.A x3.n x3.c), (i6 v3)] :: .row x3.A x3.c 3 1 (ii v2) :: .box x2 40 [(.slice none 0 0), (.slice none 0 0), (.slice none 0 0), (.slice none 0 0), (i6 (0:Int)), (.slice none 0 0), (i6 (0:Int)), (.slice none 0 0), (i6 (0:Int)), (.bool false)] :: .box x1 36 [(.slice a0_0_A a0_0_n a0_0_c), (.slice a0_1_A a0_1_n a0_1_c), (.slice a0_2_A a0_2_n a0_2_c), (.slice a0_3_A a0_3_n a0_3_c)] :: F) (fun _ h => h) ?_
        refine j_env [(4, (pt x2)), (5, (.bool false)), (25, (.agg (List.toArray [(.slice a0_0_A a0_0_n a0_0_c), (.slice a0_1_A a0_1_n a0_1_c), (.slice a0_2_A a0_2_n a0_2_c), (.slice a0_3_A a0_3_n a0_3_c)]))), (27, (.agg (List.toArray [(i6 v1), (.slice x3.A x3.n x3.c), (i6 v3)]))), (28, (.slice x7 0 0)), (29, (.slice a1_A a1_n a1_c))] ⟨rfl, rfl, rfl, rfl, rfl, rfl, trivial⟩ ?_
        exact hD29 x7
    · refine j_true rfl (not_t (var_f c2)) ?_
      refine j_seq ?_
      refine j_region ?_
      refine r_q (q_build (cs := [(.slice none 0 0), (.slice none 0 0), (.slice none 0 0), (.slice none 0 0), (i6 (0:Int)), (.slice none 0 0), (i6 (0:Int)), (.slice none 0 0), (i6 (0:Int)), (.bool false)]) zr40 pl40 rfl rfl rfl rfl) rfl rfl ?_
      refine r_do (a_storeb 2 rfl sz40 rfl rfl rfl rfl (Nat.le_of_ble_eq_true rfl) rfl) rfl rfl (fun _ => ?_)
      refine j_b2 [(.slice none 0 0), (.slice none 0 0), (.slice none 0 0), (.slice none 0 0), (i6 (0:Int)), (.slice none 0 0), (i6 (0:Int)), (.slice none 0 0), (i6 (0:Int)), (.bool false)] rfl ?_
      refine r_q (q_assign rfl rfl) rfl rfl ?_
      refine r_nil ?_
      refine j_then ?_
      refine j_ret ?_
      refine j_then_ret ?_
      refine j_nil 3 1 ?_
      refine j_nil 3 1 ?_
      refine j_nil 3 1 ?_
      refine j_nil 3 1 ?_
      refine j_nil 3 1 ?_
      refine j_nil 68 3 ?_
      cases h
      exact j_return rfl (ResOf.cell 8 rfl rfl ag40 sz40 (ResOf.tmp rfl ResOf.nil)) rfl (fun w h => ⟨(⟨none, 0, 0, rfl⟩, ⟨none, 0, 0, rfl⟩, ⟨none, 0, 0, rfl⟩, ⟨none, 0, 0, rfl⟩, ⟨none, 0, 0, rfl⟩, ⟨none, 0, 0, rfl⟩), rfl, h.pick 10 [5, 4, 3, 2, 1, 0] rfl⟩)
  · refine r_off rfl rfl rfl rfl (not_t (var_f c1)) rfl ?_
    refine r_off rfl rfl rfl rfl (not_t (var_f c1)) rfl ?_
    refine r_off rfl rfl rfl rfl (not_t (var_f c1)) rfl ?_
    refine r_off rfl rfl rfl rfl (not_t (var_f c1)) rfl ?_
    refine r_off rfl rfl rfl rfl (not_t (var_f c1)) rfl ?_
    refine r_off rfl rfl rfl rfl (not_t (var_f c1)) rfl ?_
    refine r_off rfl rfl rfl rfl (not_t (var_f c1)) rfl ?_
    refine r_q (q_pick_t rfl rfl (not_t (var_f c1)) rfl) rfl rfl ?_
    refine r_nil ?_
    refine j_then ?_
    refine j_true rfl rfl ?_
    refine j_seq ?_
    refine j_region ?_
    refine r_q (q_build (cs := [(.slice none 0 0), (.slice none 0 0), (.slice none 0 0), (.slice none 0 0), (i6 (0:Int)), (.slice none 0 0), (i6 (0:Int)), (.slice none 0 0), (i6 (0:Int)), (.bool false)]) zr40 pl40 rfl rfl rfl rfl) rfl rfl ?_
    refine r_do (a_storeb 2 rfl sz40 rfl rfl rfl rfl (Nat.le_of_ble_eq_true rfl) rfl) rfl rfl (fun _ => ?_)
    refine j_b2 [(.slice none 0 0), (.slice none 0 0), (.slice none 0 0), (.slice none 0 0), (i6 (0:Int)), (.slice none 0 0), (i6 (0:Int)), (.slice none 0 0), (i6 (0:Int)), (.bool false)] rfl ?_
    refine r_q (q_assign rfl rfl) rfl rfl ?_
    refine r_nil ?_
    refine j_then ?_
    refine j_ret ?_
    refine j_then_ret ?_
    refine j_nil 3 1 ?_
    refine j_nil 3 1 ?_
    refine j_nil 3 1 ?_
    refine j_nil 3 1 ?_
    refine j_nil 3 1 ?_
    refine j_nil 68 3 ?_
    cases h
    exact j_return rfl (ResOf.cell 8 rfl rfl ag40 sz40 (ResOf.tmp rfl ResOf.nil)) rfl (fun w h => ⟨(⟨none, 0, 0, rfl⟩, ⟨none, 0, 0, rfl⟩, ⟨none, 0, 0, rfl⟩, ⟨none, 0, 0, rfl⟩, ⟨none, 0, 0, rfl⟩, ⟨none, 0, 0, rfl⟩), rfl, h.pick 10 [5, 4, 3, 2, 1, 0] rfl⟩)

theorem laws_ccOps.calls (K : Nat) (a0 : List (Int × Int × Int)) (a0_A : Option Addr) (a0_n a0_c : Nat) (a1 : List (Int × Int × Int)) (a1_A : Option Addr) (a1_n a1_c : Nat) {w0 w : World} {F : List Res} {r1 : Bool} (hm : Mem w0 (F) w) (a0_h : a0.length = a0_n) (a0_R : Rd w0 F a0_A (trips a0)) (a1_h : a1.length = a1_n) (a1_R : Rd w0 F a1_A (trips a1)) (h : laws_ccOps.f K a0 a1 = some r1) :
    Calls Try.prog 21 (List.toArray [.slice a0_A a0_n a0_c, .slice a1_A a1_n a1_c]) w fun e w' => ∃ x : Unit, e = .returned (.bool r1) ∧ Mem w0 (F) w' := by
  unfold laws_ccOps.f at h
  refine calls_of_J (n := 26) Try.func21 rfl rfl rfl hm ?_
  refine j_seq ?_
  refine j_region ?_
  refine r_q (q_assign rfl rfl) rfl rfl ?_
  refine r_nil ?_
  refine j_then ?_
  refine j_seq ?_
  refine j_seq ?_
  refine j_region ?_
  refine r_q (q_move rfl rfl) rfl rfl ?_
  refine r_q (q_lenX a0 a0_h un38 rfl rfl rfl rfl rfl) rfl rfl ?_
  refine r_q (q_move rfl rfl) rfl rfl ?_
  refine r_q (q_lenX a1 a1_h un38 rfl rfl rfl rfl rfl) rfl rfl ?_
  refine r_q (q_neq rfl rfl rfl) rfl rfl ?_
  refine r_nil ?_
  refine j_then ?_
  rcases of_if h with ⟨c1, h⟩ | ⟨c1, h⟩
  · refine j_false rfl (bne_f c1) ?_
    refine j_skip ?_
    refine j_then ?_
    refine j_seq ?_
    refine j_seq ?_
    refine j_region ?_
    refine r_q (q_assign rfl rfl) rfl rfl ?_
    refine r_nil ?_
    refine j_then ?_
    obtain ⟨κ0, h, hκ0⟩ := ex_k (g := fun κ => laws_ccOps.loop0 K κ a0 a1 K (0:Int) = some r1) h
    refine j_cut (σ := Unit) (fun s => []) (fun s => F) (fun s => κ0 () = some r1) ?_ ?_
    · refine j_block ?_
      refine j_loop (σ := Int) (fun s => [(0, (.slice a0_A a0_n a0_c)), (1, (.slice a1_A a1_n a1_c)), (5, (i6 s))]) (fun s => F) (fun m s => laws_ccOps.loop0 K κ0 a0 a1 m s = some r1) K (0:Int) h (fun a he => he.sub ⟨rfl, rfl, rfl, trivial⟩) (fun w h => h) ?_
      rintro m p2 h
      cases m with
      | zero => exact absurd h (by rw [laws_ccOps.loop0]; exact nofun)
      | succ m =>
        rw [laws_ccOps.loop0] at h
        show J _ _ [(0, (.slice a0_A a0_n a0_c)), (1, (.slice a1_A a1_n a1_c)), (5, (i6 p2))] _ (F)
        refine j_seq ?_
        refine j_seq ?_
        refine j_region ?_
        refine r_q (q_move rfl rfl) rfl rfl ?_
        refine r_q (q_move rfl rfl) rfl rfl ?_
        refine r_q (q_lenX a0 a0_h un38 rfl rfl rfl rfl rfl) rfl rfl ?_
        refine r_q (q_lss rfl rfl rfl) rfl rfl ?_
        refine r_nil ?_
        refine j_then ?_
        rcases of_if h with ⟨c14, h⟩ | ⟨c14, h⟩
        · refine j_true rfl (decide_eq_true c14) ?_
          refine j_skip ?_
          refine j_then ?_
          refine j_seq ?_
          refine j_block ?_
          refine j_seq ?_
          obtain ⟨c15, h⟩ := of_guard h
          obtain ⟨c16, h⟩ := of_guard h
          refine j_draw (F) 9 follows_any rfl ?_
          refine d_take 0 rfl (q_move rfl rfl) rfl rfl (by kernel_rfl) (by kernel_rfl) (by kernel_rfl) (fun w h => h) ?_
          refine d_take 1 rfl (q_move rfl rfl) rfl rfl (by kernel_rfl) (by kernel_rfl) (by kernel_rfl) (fun w h => h) ?_
          refine d_take 2 rfl (q_ix a0_R (trips_len a0) (by decide) a0_h c15 un38 sz68 rfl rfl rfl) rfl rfl (by kernel_rfl) (by kernel_rfl) (by kernel_rfl) (fun w h => h) ?_
          refine d_take 3 rfl (q_ldT a0_R c15 ag68 sz68 rfl rfl) rfl rfl (by kernel_rfl) (by kernel_rfl) (by kernel_rfl) (fun w h => h) ?_
          refine d_take 4 rfl (q_move rfl rfl) rfl rfl (by kernel_rfl) (by kernel_rfl) (by kernel_rfl) (fun w h => h) ?_
          refine d_take 5 rfl (q_move rfl rfl) rfl rfl (by kernel_rfl) (by kernel_rfl) (by kernel_rfl) (fun w h => h) ?_
          refine d_take 6 rfl (q_ix a1_R (trips_len a1) (by decide) a1_h c16 un38 sz68 rfl rfl rfl) rfl rfl (by kernel_rfl) (by kernel_rfl) (by kernel_rfl) (fun w h => h) ?_
          refine d_take 7 rfl (q_ldT a1_R c16 ag68 sz68 rfl rfl) rfl rfl (by kernel_rfl) (by kernel_rfl) (by kernel_rfl) (fun w h => h) ?_
          refine d_take 8 rfl (q_neT eqt68 rfl rfl rfl) rfl rfl (by kernel_rfl) (by kernel_rfl) (by kernel_rfl) (fun w h => h) ?_
          refine d_done (by kernel_rfl) ?_
          refine j_then ?_
          rcases of_if h with ⟨c17, h⟩ | ⟨c17, h⟩
          · refine j_true rfl (decide_eq_true c17) ?_
            refine j_seq ?_
            refine j_region ?_
            refine r_q (q_assign rfl rfl) rfl rfl ?_
            refine r_nil ?_
            refine j_then ?_
            refine j_ret ?_
            refine j_in_ret ?_
            refine j_then_ret ?_
            refine j_then_ret ?_
            refine j_in_ret ?_
            refine j_then_ret ?_
            refine j_then_ret ?_
            cases h
            exact j_return rfl (ResOf.tmp rfl ResOf.nil) rfl (fun w h => ⟨(), rfl, h⟩)
          · refine j_false rfl (decide_eq_false c17) ?_
            refine j_skip ?_
            refine j_in ?_
            refine j_then ?_
            refine j_region ?_
            refine r_q (q_move rfl rfl) rfl rfl ?_
            refine r_q (q_add rfl rfl rfl) rfl rfl ?_
            refine r_q (q_assign rfl rfl) rfl rfl ?_
            refine r_nil ?_
            refine j_then ?_
            exact j_again m (wrap64 (p2 + (1:Int))) (Nat.lt_succ_self m) h (fun a he => he.sub ⟨rfl, rfl, rfl, trivial⟩) (fun w h => h)
        · refine j_false rfl (decide_eq_false c14) ?_
          refine j_exit ?_
          refine j_then_exit ?_
          refine j_then_exit ?_
          refine j_in_exit ?_
          refine j_then ?_
          exact j_meet () h (fun a he => he.sub trivial) (fun w h => h)
    · rintro _ h
      subst hκ0
      show J _ _ [] _ (F)
      refine j_then ?_
      refine j_seq ?_
      refine j_region ?_
      refine r_q (q_assign rfl rfl) rfl rfl ?_
      refine r_nil ?_
      refine j_then ?_
      refine j_ret ?_
      cases h
      exact j_return rfl (ResOf.tmp rfl ResOf.nil) rfl (fun w h => ⟨(), rfl, h⟩)
  · refine j_true rfl (bne_t c1) ?_
    refine j_seq ?_
    refine j_region ?_
    refine r_q (q_assign rfl rfl) rfl rfl ?_
    refine r_nil ?_
    refine j_then ?_
    refine j_ret ?_
    refine j_then_ret ?_
    cases h
    exact j_return rfl (ResOf.tmp rfl ResOf.nil) rfl (fun w h => ⟨(), rfl, h⟩)

theorem laws_FnNewBoth.calls (K : Nat) (a0 : List Int) (a0_A : Option Addr) (a0_n a0_c : Nat) {w0 w : World} {F : List Res} {r1 : Bool} (hm : Mem w0 (F) w) (a0_h : a0.length = a0_n) (a0_R : Rd w0 F a0_A (ints .u8 a0)) (a0_k : a0.length ≤ a0_c) (h : laws_FnNewBoth.f K a0 = some r1) :
    Calls Try.prog 5 (List.toArray [.slice a0_A a0_n a0_c]) w fun e w' => ∃ x : Unit, e = .returned (.bool r1) ∧ Mem w0 (F) w' := by
  unfold laws_FnNewBoth.f at h
  refine calls_of_J (n := 80) Try.func5 rfl rfl rfl hm ?_
  refine j_seq ?_
  refine j_region ?_
  refine r_q (q_assign rfl rfl) rfl rfl ?_
  refine r_nil ?_
  refine j_then ?_
  refine j_seq ?_
  refine j_seq ?_
  refine j_region ?_
  refine r_q (q_move rfl rfl) rfl rfl ?_
  refine r_q (q_lenX a0 a0_h un43 rfl rfl rfl rfl rfl) rfl rfl ?_
  refine r_q (q_gtr rfl rfl rfl) rfl rfl ?_
  refine r_nil ?_
  refine j_then ?_
  rcases of_if h with ⟨c1, h⟩ | ⟨c1, h⟩
  · refine j_true rfl (decide_eq_true c1) ?_
    refine j_seq ?_
    refine j_region ?_
    refine r_q (q_assign rfl rfl) rfl rfl ?_
    refine r_nil ?_
    refine j_then ?_
    refine j_ret ?_
    refine j_then_ret ?_
    cases h
    exact j_return rfl (ResOf.tmp rfl ResOf.nil) rfl (fun w h => ⟨(), rfl, h⟩)
  · refine j_false rfl (decide_eq_false c1) ?_
    refine j_skip ?_
    refine j_then ?_
    refine j_seq ?_
    refine j_region ?_
    refine r_q (q_move rfl rfl) rfl rfl ?_
    obtain ⟨v1, v2, v3, v4, v5, hb1, h⟩ := of_b5 h
    refine r_do (a_call ok16 rfl rfl rfl rfl (fun w hm => spec_DrawNewBoth.calls K a0 a0_A a0_n a0_c hm a0_h a0_R a0_k hb1)) rfl rfl (fun x1 => ?_)
    refine r_q (q_move rfl rfl) rfl rfl ?_
    refine r_q (q_extract rfl rfl rfl) rfl rfl ?_
    refine r_q (q_extract rfl rfl rfl) rfl rfl ?_
    refine r_do (a_alloc zr36 rfl) rfl rfl (fun x2 => ?_)
    refine r_do (a_storeb 0 rfl sz36 rfl rfl rfl rfl (Nat.le_of_ble_eq_true rfl) rfl) rfl rfl (fun _ => ?_)
    refine j_b0 [(.slice x1.1.A x1.1.n x1.1.c), (.slice x1.2.1.A x1.2.1.n x1.2.1.c), (.slice x1.2.2.1.A x1.2.2.1.n x1.2.2.1.c), (.slice x1.2.2.2.1.A x1.2.2.2.1.n x1.2.2.2.1.c)] rfl ?_
    refine r_q (q_assign rfl rfl) rfl rfl ?_
    refine r_nil ?_
    refine j_then ?_
    refine j_seq ?_
    refine j_region ?_
    refine r_q (q_loadb_agg 0 rfl ag36 sz36 rfl rfl rfl rfl) rfl rfl ?_
    refine r_q (q_move rfl rfl) rfl rfl ?_
    obtain ⟨v6, v7, v8, v9, v10, v11, v12, v13, v14, v15, v16, hb2, h⟩ := of_b11 h
    refine r_do (a_call ok17 rfl rfl rfl rfl (fun w hm => impl_NewBoth.calls K v1 x1.1.A x1.1.n x1.1.c v2 x1.2.1.A x1.2.1.n x1.2.1.c v3 x1.2.2.1.A x1.2.2.1.n x1.2.2.1.c v4 x1.2.2.2.1.A x1.2.2.2.1.n x1.2.2.2.1.c v5 x1.2.2.2.2.A x1.2.2.2.2.n x1.2.2.2.2.c hm x1.1.h (Rd.row 1 rfl) x1.2.1.h (Rd.row 2 rfl) x1.2.2.1.h (Rd.row 3 rfl) x1.2.2.2.1.h (Rd.row 4 rfl) (hm.roomI 4 rfl) x1.2.2.2.2.h (Rd.row 5 rfl) hb2)) rfl rfl (fun x3 => ?_)
    refine r_q (q_move rfl rfl) rfl rfl ?_
    refine r_q (q_extract rfl rfl rfl) rfl rfl ?_
    refine r_q (q_extract rfl rfl rfl) rfl rfl ?_
    refine r_do (a_alloc zr40 rfl) rfl rfl (fun x4 => ?_)
    refine r_do (a_storeb 0 rfl sz40 rfl rfl rfl rfl (Nat.le_of_ble_eq_true rfl) rfl) rfl rfl (fun _ => ?_)
    refine j_b0 [(.slice x3.1.A x3.1.n x3.1.c), (.slice x3.2.1.A x3.2.1.n x3.2.1.c), (.slice x3.2.2.1.A x3.2.2.1.n x3.2.2.1.c), (.slice x3.2.2.2.1.A x3.2.2.2.1.n x3.2.2.2.1.c), (i6 v10), (.slice x3.2.2.2.2.1.A x3.2.2.2.2.1.n x3.2.2.2.2.1.c), (i6 v12), (.slice x3.2.2.2.2.2.A x3.2.2.2.2.2.n x3.2.2.2.2.2.c), (i6 v14), (.bool v15)] rfl ?_
    refine r_q (q_assign rfl rfl) rfl rfl ?_
    refine r_nil ?_
    refine j_then ?_
    refine j_seq ?_
    refine j_region ?_
    refine r_q (q_loadb_agg 7 rfl ag36 sz36 rfl rfl rfl rfl) rfl rfl ?_
    refine r_q (q_move rfl rfl) rfl rfl ?_
    obtain ⟨v17, v18, v19, v20, v21, v22, v23, v24, v25, v26, v27, hb3, h⟩ := of_b11 h
    refine r_do (a_call ok18 rfl rfl rfl rfl (fun w hm => spec_NewBoth.calls K v1 x1.1.A x1.1.n x1.1.c v2 x1.2.1.A x1.2.1.n x1.2.1.c v3 x1.2.2.1.A x1.2.2.1.n x1.2.2.1.c v4 x1.2.2.2.1.A x1.2.2.2.1.n x1.2.2.2.1.c v5 x1.2.2.2.2.A x1.2.2.2.2.n x1.2.2.2.2.c hm x1.1.h (Rd.row 8 rfl) x1.2.1.h (Rd.row 9 rfl) x1.2.2.1.h (Rd.row 10 rfl) x1.2.2.2.1.h (Rd.row 11 rfl) (hm.roomI 11 rfl) x1.2.2.2.2.h (Rd.row 12 rfl) hb3)) rfl rfl (fun x5 => ?_)
    refine r_q (q_move rfl rfl) rfl rfl ?_
    refine r_q (q_extract rfl rfl rfl) rfl rfl ?_
    refine r_q (q_extract rfl rfl rfl) rfl rfl ?_
    refine r_do (a_alloc zr40 rfl) rfl rfl (fun x6 => ?_)
    refine r_do (a_storeb 0 rfl sz40 rfl rfl rfl rfl (Nat.le_of_ble_eq_true rfl) rfl) rfl rfl (fun _ => ?_)
    refine j_b0 [(.slice x5.1.A x5.1.n x5.1.c), (.slice x5.2.1.A x5.2.1.n x5.2.1.c), (.slice x5.2.2.1.A x5.2.2.1.n x5.2.2.1.c), (.slice x5.2.2.2.1.A x5.2.2.2.1.n x5.2.2.2.1.c), (i6 v21), (.slice x5.2.2.2.2.1.A x5.2.2.2.2.1.n x5.2.2.2.2.1.c), (i6 v23), (.slice x5.2.2.2.2.2.A x5.2.2.2.2.2.n x5.2.2.2.2.2.c), (i6 v25), (.bool v26)] rfl ?_
    refine r_q (q_assign rfl rfl) rfl rfl ?_
    refine r_nil ?_
    refine j_then ?_
    refine j_seq ?_
    refine j_seq ?_
    refine j_region ?_
    refine r_q (q_loadb_agg 7 rfl ag40 sz40 rfl rfl rfl rfl) rfl rfl ?_
    refine r_q (q_loadb_agg 0 rfl ag40 sz40 rfl rfl rfl rfl) rfl rfl ?_
    obtain ⟨v28, hb4, h⟩ := of_b1 h
    refine r_do (a_call ok11 rfl rfl rfl rfl (fun w hm => impl_BothSame.calls K v6 x3.1.A x3.1.n x3.1.c v7 x3.2.1.A x3.2.1.n x3.2.1.c v8 x3.2.2.1.A x3.2.2.1.n x3.2.2.1.c v9 x3.2.2.2.1.A x3.2.2.2.1.n x3.2.2.2.1.c v10 v11 x3.2.2.2.2.1.A x3.2.2.2.2.1.n x3.2.2.2.2.1.c v12 v13 x3.2.2.2.2.2.A x3.2.2.2.2.2.n x3.2.2.2.2.2.c v14 v15 v17 x5.1.A x5.1.n x5.1.c v18 x5.2.1.A x5.2.1.n x5.2.1.c v19 x5.2.2.1.A x5.2.2.1.n x5.2.2.1.c v20 x5.2.2.2.1.A x5.2.2.2.1.n x5.2.2.2.1.c v21 v22 x5.2.2.2.2.1.A x5.2.2.2.2.1.n x5.2.2.2.2.1.c v23 v24 x5.2.2.2.2.2.A x5.2.2.2.2.2.n x5.2.2.2.2.2.c v25 v26 hm x3.1.h (Rd.row 8 rfl) x3.2.1.h (Rd.row 9 rfl) x3.2.2.1.h (Rd.row 10 rfl) x3.2.2.2.1.h (Rd.row 11 rfl) x3.2.2.2.2.1.h (Rd.row 12 rfl) x3.2.2.2.2.2.h (Rd.row 13 rfl) x5.1.h (Rd.row 1 rfl) x5.2.1.h (Rd.row 2 rfl) x5.2.2.1.h (Rd.row 3 rfl) x5.2.2.2.1.h (Rd.row 4 rfl) x5.2.2.2.2.1.h (Rd.row 5 rfl) x5.2.2.2.2.2.h (Rd.row 6 rfl) hb4)) rfl rfl (fun x7 => ?_)
    refine r_q (q_not rfl rfl) rfl rfl ?_
    refine r_q (q_move rfl rfl) rfl rfl ?_
    rcases of_if h with ⟨c2, h⟩ | ⟨c2, h⟩
    · refine r_qon (q_move rfl rfl) rfl rfl rfl rfl (not_f c2) rfl ?_
      refine r_qon (q_move rfl rfl) rfl rfl rfl rfl (not_f c2) rfl ?_
      refine r_qon (q_bneq un4 rfl rfl rfl) rfl rfl rfl rfl (not_f c2) rfl ?_
      refine r_q (q_pick_f rfl rfl (not_f c2) rfl) rfl rfl ?_
      refine r_q (q_move rfl rfl) rfl rfl ?_
      rcases of_if h with ⟨c3, h⟩ | ⟨c3, h⟩
      · refine r_qon (q_move rfl rfl) rfl rfl rfl rfl (bne_f c3) rfl ?_
        refine r_qon (q_not rfl rfl) rfl rfl rfl rfl (bne_f c3) rfl ?_
        refine r_q (q_pick_f rfl rfl (bne_f c3) rfl) rfl rfl ?_
        refine r_nil ?_
        refine j_then ?_
        rcases of_if h with ⟨c4, h⟩ | ⟨c4, h⟩
        · refine j_false rfl (not_f c4) ?_
          refine j_skip ?_
          refine j_then ?_
          refine j_seq ?_
          refine j_region ?_
          refine r_q (q_loadb_agg 7 rfl ag40 sz40 rfl rfl rfl rfl) rfl rfl ?_
          obtain ⟨v29, hb5, h⟩ := of_b1 h
          refine r_do (a_call ok19 rfl rfl rfl rfl (fun w hm => impl_BothValid.calls K v6 x3.1.A x3.1.n x3.1.c v7 x3.2.1.A x3.2.1.n x3.2.1.c v8 x3.2.2.1.A x3.2.2.1.n x3.2.2.1.c v9 x3.2.2.2.1.A x3.2.2.2.1.n x3.2.2.2.1.c v10 v11 x3.2.2.2.2.1.A x3.2.2.2.2.1.n x3.2.2.2.2.1.c v12 v13 x3.2.2.2.2.2.A x3.2.2.2.2.2.n x3.2.2.2.2.2.c v14 v15 hm x3.1.h (Rd.row 8 rfl) x3.2.1.h (Rd.row 9 rfl) x3.2.2.1.h (Rd.row 10 rfl) x3.2.2.2.1.h (Rd.row 11 rfl) (hm.roomI 11 rfl) x3.2.2.2.2.1.h (Rd.row 12 rfl) x3.2.2.2.2.2.h (Rd.row 13 rfl) hb5)) rfl rfl (fun x8 => ?_)
          refine r_q (q_move rfl rfl) rfl rfl ?_
          rcases of_if h with ⟨c5, h⟩ | ⟨c5, h⟩
          · refine r_qon (q_fieldAddr fi40_3 sz3 rfl rfl rfl) rfl rfl rfl rfl c5 rfl ?_
            refine r_qon (q_loadb 7 rfl ag3 rfl rfl rfl) rfl rfl rfl rfl c5 rfl ?_
            refine r_qon (q_eql rfl rfl rfl) rfl rfl rfl rfl c5 rfl ?_
            refine r_q (q_pick_t rfl rfl c5 rfl) rfl rfl ?_
            refine r_q (q_move rfl rfl) rfl rfl ?_
            rcases of_if h with ⟨c6, h⟩ | ⟨c6, h⟩
            · refine r_qon (q_fieldAddr fi40_4 sz4 rfl rfl rfl) rfl rfl rfl rfl (beq_t c6) rfl ?_
              refine r_qon (q_loadb 7 rfl ag4 rfl rfl rfl) rfl rfl rfl rfl (beq_t c6) rfl ?_
              refine r_qon (q_not rfl rfl) rfl rfl rfl rfl (beq_t c6) rfl ?_
              refine r_q (q_pick_t rfl rfl (beq_t c6) rfl) rfl rfl ?_
              refine r_q (q_move rfl rfl) rfl rfl ?_
              rcases of_if h with ⟨c7, h⟩ | ⟨c7, h⟩
              · refine r_off rfl rfl rfl rfl (not_f c7) rfl ?_
                refine r_off rfl rfl rfl rfl (not_f c7) rfl ?_
                refine r_off rfl rfl rfl rfl (not_f c7) rfl ?_
                refine r_off rfl rfl rfl rfl (not_f c7) rfl ?_
                refine r_q (q_pick_f rfl rfl (not_f c7) rfl) rfl rfl ?_
                refine r_q (q_move rfl rfl) rfl rfl ?_
                refine r_off rfl rfl rfl rfl rfl rfl ?_
                refine r_off rfl rfl rfl rfl rfl rfl ?_
                refine r_off rfl rfl rfl rfl rfl rfl ?_
                refine r_off rfl rfl rfl rfl rfl rfl ?_
                refine r_q (q_pick_f rfl rfl rfl rfl) rfl rfl ?_
                refine r_q (q_move rfl rfl) rfl rfl ?_
                refine r_off rfl rfl rfl rfl rfl rfl ?_
                refine r_off rfl rfl rfl rfl rfl rfl ?_
                refine r_off rfl rfl rfl rfl rfl rfl ?_
                refine r_off rfl rfl rfl rfl rfl rfl ?_
                refine r_q (q_pick_f rfl rfl rfl rfl) rfl rfl ?_
                refine r_q (q_assign rfl rfl) rfl rfl ?_
                refine r_nil ?_
                refine j_then ?_
                refine j_ret ?_
                cases h
                exact j_return rfl (ResOf.tmp rfl ResOf.nil) rfl (fun w h => ⟨(), rfl, (h.drop 20)⟩)
              · refine r_qon (q_fieldAddr fi40_1 sz37 rfl rfl rfl) rfl rfl rfl rfl (not_t (var_f c7)) rfl ?_
                refine r_qon (q_fieldAddr fi37_0 sz3 rfl rfl rfl) rfl rfl rfl rfl (not_t (var_f c7)) rfl ?_
                refine r_qon (q_loadb 7 rfl ag3 rfl rfl rfl) rfl rfl rfl rfl (not_t (var_f c7)) rfl ?_
                refine r_qon (q_eql rfl rfl rfl) rfl rfl rfl rfl (not_t (var_f c7)) rfl ?_
                refine r_q (q_pick_t rfl rfl (not_t (var_f c7)) rfl) rfl rfl ?_
                refine r_q (q_move rfl rfl) rfl rfl ?_
                rcases of_if h with ⟨c8, h⟩ | ⟨c8, h⟩
                · refine r_qon (q_fieldAddr fi40_0 sz36 rfl rfl rfl) rfl rfl rfl rfl (beq_t c8) rfl ?_
                  refine r_qon (q_loadb_agg 7 rfl ag36 sz36 rfl rfl rfl rfl) rfl rfl rfl rfl (beq_t c8) rfl ?_
                  refine r_qon (q_loadb_agg 14 rfl ag36 sz36 rfl rfl rfl rfl) rfl rfl rfl rfl (beq_t c8) rfl ?_
                  obtain ⟨v30, hb6, h⟩ := of_b1 h
                  refine r_on (a_call ok20 rfl rfl rfl rfl (fun w hm => impl_StoreSame.calls K v6 x3.1.A x3.1.n x3.1.c v7 x3.2.1.A x3.2.1.n x3.2.1.c v8 x3.2.2.1.A x3.2.2.1.n x3.2.2.1.c v9 x3.2.2.2.1.A x3.2.2.2.1.n x3.2.2.2.1.c v1 x1.1.A x1.1.n x1.1.c v2 x1.2.1.A x1.2.1.n x1.2.1.c v3 x1.2.2.1.A x1.2.2.1.n x1.2.2.1.c v4 x1.2.2.2.1.A x1.2.2.2.1.n x1.2.2.2.1.c hm x3.1.h (Rd.row 8 rfl) x3.2.1.h (Rd.row 9 rfl) x3.2.2.1.h (Rd.row 10 rfl) x3.2.2.2.1.h (Rd.row 11 rfl) x1.1.h (Rd.row 15 rfl) x1.2.1.h (Rd.row 16 rfl) x1.2.2.1.h (Rd.row 17 rfl) x1.2.2.2.1.h (Rd.row 18 rfl) hb6)) rfl rfl rfl rfl (beq_t c8) rfl (fun x9 => ?_)
                  refine r_q (q_pick_t rfl rfl (beq_t c8) rfl) rfl rfl ?_
                  refine r_q (q_move rfl rfl) rfl rfl ?_
                  rcases of_if h with ⟨c9, h⟩ | ⟨c9, h⟩
                  · refine r_qon (q_fieldAddr fi40_2 sz38 rfl rfl rfl) rfl rfl rfl rfl c9 rfl ?_
                    refine r_qon (q_loadb 7 rfl ag38 rfl rfl rfl) rfl rfl rfl rfl c9 rfl ?_
                    refine r_qon (q_move rfl rfl) rfl rfl rfl rfl c9 rfl ?_
                    obtain ⟨v31, hb7, h⟩ := of_b1 h
                    refine r_on (a_call ok21 rfl rfl rfl rfl (fun w hm => laws_ccOps.calls K v13 x3.2.2.2.2.2.A x3.2.2.2.2.2.n x3.2.2.2.2.2.c v5 x1.2.2.2.2.A x1.2.2.2.2.n x1.2.2.2.2.c hm x3.2.2.2.2.2.h (Rd.row 13 rfl) x1.2.2.2.2.h (Rd.row 19 rfl) hb7)) rfl rfl rfl rfl c9 rfl (fun x10 => ?_)
                    refine r_q (q_pick_t rfl rfl c9 rfl) rfl rfl ?_
                    refine r_q (q_assign rfl rfl) rfl rfl ?_
                    refine r_nil ?_
                    refine j_then ?_
                    refine j_ret ?_
                    cases h
                    exact j_return rfl (ResOf.tmp rfl ResOf.nil) rfl (fun w h => ⟨(), rfl, (h.drop 20)⟩)
                  · refine r_off rfl rfl rfl rfl (var_f c9) rfl ?_
                    refine r_off rfl rfl rfl rfl (var_f c9) rfl ?_
                    refine r_off rfl rfl rfl rfl (var_f c9) rfl ?_
                    refine r_off rfl rfl rfl rfl (var_f c9) rfl ?_
                    refine r_q (q_pick_f rfl rfl (var_f c9) rfl) rfl rfl ?_
                    refine r_q (q_assign rfl rfl) rfl rfl ?_
                    refine r_nil ?_
                    refine j_then ?_
                    refine j_ret ?_
                    cases h
                    exact j_return rfl (ResOf.tmp rfl ResOf.nil) rfl (fun w h => ⟨(), rfl, (h.drop 20)⟩)
                · refine r_off rfl rfl rfl rfl (beq_f c8) rfl ?_
                  refine r_off rfl rfl rfl rfl (beq_f c8) rfl ?_
                  refine r_off rfl rfl rfl rfl (beq_f c8) rfl ?_
                  refine r_off rfl rfl rfl rfl (beq_f c8) rfl ?_
                  refine r_q (q_pick_f rfl rfl (beq_f c8) rfl) rfl rfl ?_
                  refine r_q (q_move rfl rfl) rfl rfl ?_
                  refine r_off rfl rfl rfl rfl rfl rfl ?_
                  refine r_off rfl rfl rfl rfl rfl rfl ?_
                  refine r_off rfl rfl rfl rfl rfl rfl ?_
                  refine r_off rfl rfl rfl rfl rfl rfl ?_
                  refine r_q (q_pick_f rfl rfl rfl rfl) rfl rfl ?_
                  refine r_q (q_assign rfl rfl) rfl rfl ?_
                  refine r_nil ?_
                  refine j_then ?_
                  refine j_ret ?_
                  cases h
                  exact j_return rfl (ResOf.tmp rfl ResOf.nil) rfl (fun w h => ⟨(), rfl, (h.drop 20)⟩)
            · refine r_off rfl rfl rfl rfl (beq_f c6) rfl ?_
              refine r_off rfl rfl rfl rfl (beq_f c6) rfl ?_
              refine r_off rfl rfl rfl rfl (beq_f c6) rfl ?_
              refine r_q (q_pick_f rfl rfl (beq_f c6) rfl) rfl rfl ?_
              refine r_q (q_move rfl rfl) rfl rfl ?_
              refine r_off rfl rfl rfl rfl rfl rfl ?_
              refine r_off rfl rfl rfl rfl rfl rfl ?_
              refine r_off rfl rfl rfl rfl rfl rfl ?_
              refine r_off rfl rfl rfl rfl rfl rfl ?_
              refine r_q (q_pick_f rfl rfl rfl rfl) rfl rfl ?_
              refine r_q (q_move rfl rfl) rfl rfl ?_
              refine r_off rfl rfl rfl rfl rfl rfl ?_
              refine r_off rfl rfl rfl rfl rfl rfl ?_
              refine r_off rfl rfl rfl rfl rfl rfl ?_
              refine r_off rfl rfl rfl rfl rfl rfl ?_
              refine r_q (q_pick_f rfl rfl rfl rfl) rfl rfl ?_
              refine r_q (q_move rfl rfl) rfl rfl ?_
              refine r_off rfl rfl rfl rfl rfl rfl ?_
              refine r_off rfl rfl rfl rfl rfl rfl ?_
              refine r_off rfl rfl rfl rfl rfl rfl ?_
              refine r_off rfl rfl rfl rfl rfl rfl ?_
              refine r_q (q_pick_f rfl rfl rfl rfl) rfl rfl ?_
              refine r_q (q_assign rfl rfl) rfl rfl ?_
              refine r_nil ?_
              refine j_then ?_
              refine j_ret ?_
              cases h
              exact j_return rfl (ResOf.tmp rfl ResOf.nil) rfl (fun w h => ⟨(), rfl, (h.drop 20)⟩)
          · refine r_off rfl rfl rfl rfl (var_f c5) rfl ?_
            refine r_off rfl rfl rfl rfl (var_f c5) rfl ?_
            refine r_off rfl rfl rfl rfl (var_f c5) rfl ?_
            refine r_q (q_pick_f rfl rfl (var_f c5) rfl) rfl rfl ?_
            refine r_q (q_move rfl rfl) rfl rfl ?_
            refine r_off rfl rfl rfl rfl rfl rfl ?_
            refine r_off rfl rfl rfl rfl rfl rfl ?_
            refine r_off rfl rfl rfl rfl rfl rfl ?_
            refine r_q (q_pick_f rfl rfl rfl rfl) rfl rfl ?_
            refine r_q (q_move rfl rfl) rfl rfl ?_
            refine r_off rfl rfl rfl rfl rfl rfl ?_
            refine r_off rfl rfl rfl rfl rfl rfl ?_
            refine r_off rfl rfl rfl rfl rfl rfl ?_
            refine r_off rfl rfl rfl rfl rfl rfl ?_
            refine r_q (q_pick_f rfl rfl rfl rfl) rfl rfl ?_
            refine r_q (q_move rfl rfl) rfl rfl ?_
            refine r_off rfl rfl rfl rfl rfl rfl ?_
            refine r_off rfl rfl rfl rfl rfl rfl ?_
            refine r_off rfl rfl rfl rfl rfl rfl ?_
            refine r_off rfl rfl rfl rfl rfl rfl ?_
            refine r_q (q_pick_f rfl rfl rfl rfl) rfl rfl ?_
            refine r_q (q_move rfl rfl) rfl rfl ?_
            refine r_off rfl rfl rfl rfl rfl rfl ?_
            refine r_off rfl rfl rfl rfl rfl rfl ?_
            refine r_off rfl rfl rfl rfl rfl rfl ?_
            refine r_off rfl rfl rfl rfl rfl rfl ?_
            refine r_q (q_pick_f rfl rfl rfl rfl) rfl rfl ?_
            refine r_q (q_assign rfl rfl) rfl rfl ?_
            refine r_nil ?_
            refine j_then ?_
            refine j_ret ?_
            cases h
            exact j_return rfl (ResOf.tmp rfl ResOf.nil) rfl (fun w h => ⟨(), rfl, (h.drop 20)⟩)
        · refine j_true rfl (not_t (var_f c4)) ?_
          refine j_seq ?_
          refine j_region ?_
          refine r_q (q_loadb_agg 7 rfl ag40 sz40 rfl rfl rfl rfl) rfl rfl ?_
          refine r_q (q_loadb_agg 0 rfl ag40 sz40 rfl rfl rfl rfl) rfl rfl ?_
          obtain ⟨v32, hb8, h⟩ := of_b1 h
          refine r_do (a_call ok11 rfl rfl rfl rfl (fun w hm => impl_BothSame.calls K v6 x3.1.A x3.1.n x3.1.c v7 x3.2.1.A x3.2.1.n x3.2.1.c v8 x3.2.2.1.A x3.2.2.1.n x3.2.2.1.c v9 x3.2.2.2.1.A x3.2.2.2.1.n x3.2.2.2.1.c v10 v11 x3.2.2.2.2.1.A x3.2.2.2.2.1.n x3.2.2.2.2.1.c v12 v13 x3.2.2.2.2.2.A x3.2.2.2.2.2.n x3.2.2.2.2.2.c v14 v15 v17 x5.1.A x5.1.n x5.1.c v18 x5.2.1.A x5.2.1.n x5.2.1.c v19 x5.2.2.1.A x5.2.2.1.n x5.2.2.1.c v20 x5.2.2.2.1.A x5.2.2.2.1.n x5.2.2.2.1.c v21 v22 x5.2.2.2.2.1.A x5.2.2.2.2.1.n x5.2.2.2.2.1.c v23 v24 x5.2.2.2.2.2.A x5.2.2.2.2.2.n x5.2.2.2.2.2.c v25 v26 hm x3.1.h (Rd.row 8 rfl) x3.2.1.h (Rd.row 9 rfl) x3.2.2.1.h (Rd.row 10 rfl) x3.2.2.2.1.h (Rd.row 11 rfl) x3.2.2.2.2.1.h (Rd.row 12 rfl) x3.2.2.2.2.2.h (Rd.row 13 rfl) x5.1.h (Rd.row 1 rfl) x5.2.1.h (Rd.row 2 rfl) x5.2.2.1.h (Rd.row 3 rfl) x5.2.2.2.1.h (Rd.row 4 rfl) x5.2.2.2.2.1.h (Rd.row 5 rfl) x5.2.2.2.2.2.h (Rd.row 6 rfl) hb8)) rfl rfl (fun x11 => ?_)
          refine r_q (q_move rfl rfl) rfl rfl ?_
          rcases of_if h with ⟨c10, h⟩ | ⟨c10, h⟩
          · refine r_qon (q_move rfl rfl) rfl rfl rfl rfl c10 rfl ?_
            refine r_qon (q_move rfl rfl) rfl rfl rfl rfl c10 rfl ?_
            refine r_qon (q_beql un4 rfl rfl rfl) rfl rfl rfl rfl c10 rfl ?_
            refine r_q (q_pick_t rfl rfl c10 rfl) rfl rfl ?_
            refine r_q (q_assign rfl rfl) rfl rfl ?_
            refine r_nil ?_
            refine j_then ?_
            refine j_ret ?_
            refine j_then_ret ?_
            cases h
            exact j_return rfl (ResOf.tmp rfl ResOf.nil) rfl (fun w h => ⟨(), rfl, (h.drop 20)⟩)
          · refine r_off rfl rfl rfl rfl (var_f c10) rfl ?_
            refine r_off rfl rfl rfl rfl (var_f c10) rfl ?_
            refine r_off rfl rfl rfl rfl (var_f c10) rfl ?_
            refine r_q (q_pick_f rfl rfl (var_f c10) rfl) rfl rfl ?_
            refine r_q (q_assign rfl rfl) rfl rfl ?_
            refine r_nil ?_
            refine j_then ?_
            refine j_ret ?_
            refine j_then_ret ?_
            cases h
            exact j_return rfl (ResOf.tmp rfl ResOf.nil) rfl (fun w h => ⟨(), rfl, (h.drop 20)⟩)
      · refine r_off rfl rfl rfl rfl (bne_t c3) rfl ?_
        refine r_off rfl rfl rfl rfl (bne_t c3) rfl ?_
        refine r_q (q_pick_t rfl rfl (bne_t c3) rfl) rfl rfl ?_
        refine r_nil ?_
        refine j_then ?_
        refine j_true rfl rfl ?_
        refine j_seq ?_
        refine j_region ?_
        refine r_q (q_loadb_agg 7 rfl ag40 sz40 rfl rfl rfl rfl) rfl rfl ?_
        refine r_q (q_loadb_agg 0 rfl ag40 sz40 rfl rfl rfl rfl) rfl rfl ?_
        obtain ⟨v33, hb9, h⟩ := of_b1 h
        refine r_do (a_call ok11 rfl rfl rfl rfl (fun w hm => impl_BothSame.calls K v6 x3.1.A x3.1.n x3.1.c v7 x3.2.1.A x3.2.1.n x3.2.1.c v8 x3.2.2.1.A x3.2.2.1.n x3.2.2.1.c v9 x3.2.2.2.1.A x3.2.2.2.1.n x3.2.2.2.1.c v10 v11 x3.2.2.2.2.1.A x3.2.2.2.2.1.n x3.2.2.2.2.1.c v12 v13 x3.2.2.2.2.2.A x3.2.2.2.2.2.n x3.2.2.2.2.2.c v14 v15 v17 x5.1.A x5.1.n x5.1.c v18 x5.2.1.A x5.2.1.n x5.2.1.c v19 x5.2.2.1.A x5.2.2.1.n x5.2.2.1.c v20 x5.2.2.2.1.A x5.2.2.2.1.n x5.2.2.2.1.c v21 v22 x5.2.2.2.2.1.A x5.2.2.2.2.1.n x5.2.2.2.2.1.c v23 v24 x5.2.2.2.2.2.A x5.2.2.2.2.2.n x5.2.2.2.2.2.c v25 v26 hm x3.1.h (Rd.row 8 rfl) x3.2.1.h (Rd.row 9 rfl) x3.2.2.1.h (Rd.row 10 rfl) x3.2.2.2.1.h (Rd.row 11 rfl) x3.2.2.2.2.1.h (Rd.row 12 rfl) x3.2.2.2.2.2.h (Rd.row 13 rfl) x5.1.h (Rd.row 1 rfl) x5.2.1.h (Rd.row 2 rfl) x5.2.2.1.h (Rd.row 3 rfl) x5.2.2.2.1.h (Rd.row 4 rfl) x5.2.2.2.2.1.h (Rd.row 5 rfl) x5.2.2.2.2.2.h (Rd.row 6 rfl) hb9)) rfl rfl (fun x11 => ?_)
        refine r_q (q_move rfl rfl) rfl rfl ?_
        rcases of_if h with ⟨c11, h⟩ | ⟨c11, h⟩
        · refine r_qon (q_move rfl rfl) rfl rfl rfl rfl c11 rfl ?_
          refine r_qon (q_move rfl rfl) rfl rfl rfl rfl c11 rfl ?_
          refine r_qon (q_beql un4 rfl rfl rfl) rfl rfl rfl rfl c11 rfl ?_
          refine r_q (q_pick_t rfl rfl c11 rfl) rfl rfl ?_
          refine r_q (q_assign rfl rfl) rfl rfl ?_
          refine r_nil ?_
          refine j_then ?_
          refine j_ret ?_
          refine j_then_ret ?_
          cases h
          exact j_return rfl (ResOf.tmp rfl ResOf.nil) rfl (fun w h => ⟨(), rfl, (h.drop 20)⟩)
        · refine r_off rfl rfl rfl rfl (var_f c11) rfl ?_
          refine r_off rfl rfl rfl rfl (var_f c11) rfl ?_
          refine r_off rfl rfl rfl rfl (var_f c11) rfl ?_
          refine r_q (q_pick_f rfl rfl (var_f c11) rfl) rfl rfl ?_
          refine r_q (q_assign rfl rfl) rfl rfl ?_
          refine r_nil ?_
          refine j_then ?_
          refine j_ret ?_
          refine j_then_ret ?_
          cases h
          exact j_return rfl (ResOf.tmp rfl ResOf.nil) rfl (fun w h => ⟨(), rfl, (h.drop 20)⟩)
    · refine r_off rfl rfl rfl rfl (not_t (var_f c2)) rfl ?_
      refine r_off rfl rfl rfl rfl (not_t (var_f c2)) rfl ?_
      refine r_off rfl rfl rfl rfl (not_t (var_f c2)) rfl ?_
      refine r_q (q_pick_t rfl rfl (not_t (var_f c2)) rfl) rfl rfl ?_
      refine r_q (q_move rfl rfl) rfl rfl ?_
      refine r_off rfl rfl rfl rfl rfl rfl ?_
      refine r_off rfl rfl rfl rfl rfl rfl ?_
      refine r_q (q_pick_t rfl rfl rfl rfl) rfl rfl ?_
      refine r_nil ?_
      refine j_then ?_
      refine j_true rfl rfl ?_
      refine j_seq ?_
      refine j_region ?_
      refine r_q (q_loadb_agg 7 rfl ag40 sz40 rfl rfl rfl rfl) rfl rfl ?_
      refine r_q (q_loadb_agg 0 rfl ag40 sz40 rfl rfl rfl rfl) rfl rfl ?_
      obtain ⟨v34, hb10, h⟩ := of_b1 h
      refine r_do (a_call ok11 rfl rfl rfl rfl (fun w hm => impl_BothSame.calls K v6 x3.1.A x3.1.n x3.1.c v7 x3.2.1.A x3.2.1.n x3.2.1.c v8 x3.2.2.1.A x3.2.2.1.n x3.2.2.1.c v9 x3.2.2.2.1.A x3.2.2.2.1.n x3.2.2.2.1.c v10 v11 x3.2.2.2.2.1.A x3.2.2.2.2.1.n x3.2.2.2.2.1.c v12 v13 x3.2.2.2.2.2.A x3.2.2.2.2.2.n x3.2.2.2.2.2.c v14 v15 v17 x5.1.A x5.1.n x5.1.c v18 x5.2.1.A x5.2.1.n x5.2.1.c v19 x5.2.2.1.A x5.2.2.1.n x5.2.2.1.c v20 x5.2.2.2.1.A x5.2.2.2.1.n x5.2.2.2.1.c v21 v22 x5.2.2.2.2.1.A x5.2.2.2.2.1.n x5.2.2.2.2.1.c v23 v24 x5.2.2.2.2.2.A x5.2.2.2.2.2.n x5.2.2.2.2.2.c v25 v26 hm x3.1.h (Rd.row 8 rfl) x3.2.1.h (Rd.row 9 rfl) x3.2.2.1.h (Rd.row 10 rfl) x3.2.2.2.1.h (Rd.row 11 rfl) x3.2.2.2.2.1.h (Rd.row 12 rfl) x3.2.2.2.2.2.h (Rd.row 13 rfl) x5.1.h (Rd.row 1 rfl) x5.2.1.h (Rd.row 2 rfl) x5.2.2.1.h (Rd.row 3 rfl) x5.2.2.2.1.h (Rd.row 4 rfl) x5.2.2.2.2.1.h (Rd.row 5 rfl) x5.2.2.2.2.2.h (Rd.row 6 rfl) hb10)) rfl rfl (fun x11 => ?_)
      refine r_q (q_move rfl rfl) rfl rfl ?_
      rcases of_if h with ⟨c12, h⟩ | ⟨c12, h⟩
      · refine r_qon (q_move rfl rfl) rfl rfl rfl rfl c12 rfl ?_
        refine r_qon (q_move rfl rfl) rfl rfl rfl rfl c12 rfl ?_
        refine r_qon (q_beql un4 rfl rfl rfl) rfl rfl rfl rfl c12 rfl ?_
        refine r_q (q_pick_t rfl rfl c12 rfl) rfl rfl ?_
        refine r_q (q_assign rfl rfl) rfl rfl ?_
        refine r_nil ?_
        refine j_then ?_
        refine j_ret ?_
        refine j_then_ret ?_
        cases h
        exact j_return rfl (ResOf.tmp rfl ResOf.nil) rfl (fun w h => ⟨(), rfl, (h.drop 20)⟩)
      · refine r_off rfl rfl rfl rfl (var_f c12) rfl ?_
        refine r_off rfl rfl rfl rfl (var_f c12) rfl ?_
        refine r_off rfl rfl rfl rfl (var_f c12) rfl ?_
        refine r_q (q_pick_f rfl rfl (var_f c12) rfl) rfl rfl ?_
        refine r_q (q_assign rfl rfl) rfl rfl ?_
        refine r_nil ?_
        refine j_then ?_
        refine j_ret ?_
        refine j_then_ret ?_
        cases h
        exact j_return rfl (ResOf.tmp rfl ResOf.nil) rfl (fun w h => ⟨(), rfl, (h.drop 20)⟩)

end Go.Proofs.Ytpfkcjddilpbkaa.F
