/- The program computes these pure functions, printed by the generator of wip/gen. -/
import Derived.Test.YtjcbalhdppmdmaaFa
import Derived.Test.YtjcbalhdppmdmaaFb
import Derived.Test.YtjcbalhdppmdmaaC8
namespace Go.Proofs.Ytjcbalhdppmdmaa.F
open Go Go.RowKit Go.Proofs.Ytjcbalhdppmdmaa.S
set_option linter.unusedVariables false
set_option maxRecDepth 100000
theorem spec_l1Copy.calls (K : Nat) (a0_0 : List Int) (a0_0_A : Option Addr) (a0_0_n a0_0_c : Nat) (a0_1 : List Int) (a0_1_A : Option Addr) (a0_1_n a0_1_c : Nat) (a0_2 : List Int) (a0_2_A : Option Addr) (a0_2_n a0_2_c : Nat) {w0 w : World} {F : List Res} {r1 : List Int} {r2 : List Int} {r3 : List Int} (hm : Mem w0 (F) w) (a0_0_h : a0_0.length = a0_0_n) (a0_0_R : Rd w0 F a0_0_A (ii a0_0)) (a0_1_h : a0_1.length = a0_1_n) (a0_1_R : Rd w0 F a0_1_A (ii a0_1)) (a0_2_h : a0_2.length = a0_2_n) (a0_2_R : Rd w0 F a0_2_A (ii a0_2)) (h : spec_l1Copy.f K a0_0 a0_1 a0_2 = some (r1, r2, r3)) :
    Calls Try.prog 94 (List.toArray [.agg (List.toArray [.slice a0_0_A a0_0_n a0_0_c, .slice a0_1_A a0_1_n a0_1_c, .slice a0_2_A a0_2_n a0_2_c])]) w fun e w' => ∃ x : (Sl r1.length) × (Sl r2.length) × (Sl r3.length), e = .returned (.agg (List.toArray [.slice x.1.A x.1.n x.1.c, .slice x.2.1.A x.2.1.n x.2.1.c, .slice x.2.2.A x.2.2.n x.2.2.c])) ∧ Mem w0 (.row x.1.A x.1.c 3 1 (ii r1) :: .row x.2.1.A x.2.1.c 3 1 (ii r2) :: .row x.2.2.A x.2.2.c 3 1 (ii r3) :: F) w' := by
  unfold spec_l1Copy.f at h
  refine calls_of_J (n := 16) Try.func94 rfl rfl rfl hm ?_
  refine j_seq ?_
  refine j_region ?_
  refine r_do (a_box rfl rfl) rfl rfl (fun x1 => ?_)
  refine r_do (a_alloc zr46 rfl) rfl rfl (fun x2 => ?_)
  refine r_nil ?_
  refine j_then ?_
  refine j_seq ?_
  obtain ⟨c1, h⟩ := of_guard h
  obtain ⟨c2, h⟩ := of_guard h
  obtain ⟨c3, h⟩ := of_guard h
  refine j_draw (.box x1 46 [(.slice a0_0_A a0_0_n a0_0_c), (.slice a0_1_A a0_1_n a0_1_c), (.slice a0_2_A a0_2_n a0_2_c)] :: F) 14 follows_any rfl ?_
  refine d_take 1 rfl (q_fieldAddr fi46_0 sz32 rfl rfl rfl) rfl rfl (by kernel_rfl) (by kernel_rfl) (by kernel_rfl) (fun w h => h.tail) ?_
  refine d_take 2 rfl (q_loadb 0 rfl ag32 rfl rfl rfl) rfl rfl (by kernel_rfl) (by kernel_rfl) (by kernel_rfl) (fun w h => h.tail) ?_
  refine d_take 5 rfl (q_fieldAddr fi46_1 sz32 rfl rfl rfl) rfl rfl (by kernel_rfl) (by kernel_rfl) (by kernel_rfl) (fun w h => h.tail) ?_
  refine d_take 6 rfl (q_loadb 0 rfl ag32 rfl rfl rfl) rfl rfl (by kernel_rfl) (by kernel_rfl) (by kernel_rfl) (fun w h => h.tail) ?_
  refine d_take 9 rfl (q_fieldAddr fi46_2 sz32 rfl rfl rfl) rfl rfl (by kernel_rfl) (by kernel_rfl) (by kernel_rfl) (fun w h => h.tail) ?_
  refine d_take 10 rfl (q_loadb 0 rfl ag32 rfl rfl rfl) rfl rfl (by kernel_rfl) (by kernel_rfl) (by kernel_rfl) (fun w h => h.tail) ?_
  refine d_join (σ := (Option Addr) × (Option Addr × Nat) × (Option Addr) × (Option Addr × Nat) × (Option Addr) × (Option Addr × Nat)) 0 #[true, true, true, true, true, true, true, true, true, true, true, true, true, true] (fun s => [(2, (pt x2))]) (fun s => .row s.2.1.1 s.2.1.2 3 1 (ii (([] : List Int) ++ a0_0)) :: .row s.2.2.2.1.1 s.2.2.2.1.2 3 1 (ii (([] : List Int) ++ a0_1)) :: .row s.2.2.2.2.2.1 s.2.2.2.2.2.2 3 1 (ii (([] : List Int) ++ a0_2)) :: .box x2 46 [(.slice s.2.1.1 (0 + a0_0_n) s.2.1.2), (.slice s.2.2.2.1.1 (0 + a0_1_n) s.2.2.2.1.2), (.slice s.2.2.2.2.2.1 (0 + a0_2_n) s.2.2.2.2.2.2)] :: .box x1 46 [(.slice a0_0_A a0_0_n a0_0_c), (.slice a0_1_A a0_1_n a0_1_c), (.slice a0_2_A a0_2_n a0_2_c)] :: F) ?_ (fun hD16383 => ?_)
  · rintro ⟨x3, x4, x5, x6, x7, x8⟩
    show J _ _ [(2, (pt x2))] _ (.row x4.1 x4.2 3 1 (ii (([] : List Int) ++ a0_0)) :: .row x6.1 x6.2 3 1 (ii (([] : List Int) ++ a0_1)) :: .row x8.1 x8.2 3 1 (ii (([] : List Int) ++ a0_2)) :: .box x2 46 [(.slice x4.1 (0 + a0_0_n) x4.2), (.slice x6.1 (0 + a0_1_n) x6.2), (.slice x8.1 (0 + a0_2_n) x8.2)] :: .box x1 46 [(.slice a0_0_A a0_0_n a0_0_c), (.slice a0_1_A a0_1_n a0_1_c), (.slice a0_2_A a0_2_n a0_2_c)] :: F)
    refine d_done (by kernel_rfl) ?_
    refine j_then ?_
    refine j_ret ?_
    cases h
    exact j_return rfl (ResOf.cell 3 rfl rfl ag46 sz46 ResOf.nil) rfl (fun w h => ⟨(⟨x4.1, (0 + a0_0_n), x4.2, (app_len rfl a0_0_h)⟩, ⟨x6.1, (0 + a0_1_n), x6.2, (app_len rfl a0_1_h)⟩, ⟨x8.1, (0 + a0_2_n), x8.2, (app_len rfl a0_2_h)⟩), rfl, h.pick 5 [0, 1, 2] rfl⟩)
  refine d_join (σ := (Option Addr) × (Option Addr × Nat) × (Option Addr) × (Option Addr × Nat) × (Option Addr) × (Option Addr × Nat)) 1 #[true, true, true, true, true, true, true, true, true, true, true, true, true, false] (fun s => [(2, (pt x2)), (15, (.agg (List.toArray [(.slice s.2.1.1 (0 + a0_0_n) s.2.1.2), (.slice s.2.2.2.1.1 (0 + a0_1_n) s.2.2.2.1.2), (.slice s.2.2.2.2.2.1 (0 + a0_2_n) s.2.2.2.2.2.2)])))]) (fun s => .row s.2.1.1 s.2.1.2 3 1 (ii (([] : List Int) ++ a0_0)) :: .row s.2.2.2.1.1 s.2.2.2.1.2 3 1 (ii (([] : List Int) ++ a0_1)) :: .row s.2.2.2.2.2.1 s.2.2.2.2.2.2 3 1 (ii (([] : List Int) ++ a0_2)) :: .box x2 46 [(.slice none 0 0), (.slice none 0 0), (.slice none 0 0)] :: .box x1 46 [(.slice a0_0_A a0_0_n a0_0_c), (.slice a0_1_A a0_1_n a0_1_c), (.slice a0_2_A a0_2_n a0_2_c)] :: F) ?_ (fun hD8191 => ?_)
  · rintro ⟨x3, x4, x5, x6, x7, x8⟩
    show J _ _ [(2, (pt x2)), (15, (.agg (List.toArray [(.slice x4.1 (0 + a0_0_n) x4.2), (.slice x6.1 (0 + a0_1_n) x6.2), (.slice x8.1 (0 + a0_2_n) x8.2)])))] _ (.row x4.1 x4.2 3 1 (ii (([] : List Int) ++ a0_0)) :: .row x6.1 x6.2 3 1 (ii (([] : List Int) ++ a0_1)) :: .row x8.1 x8.2 3 1 (ii (([] : List Int) ++ a0_2)) :: .box x2 46 [(.slice none 0 0), (.slice none 0 0), (.slice none 0 0)] :: .box x1 46 [(.slice a0_0_A a0_0_n a0_0_c), (.slice a0_1_A a0_1_n a0_1_c), (.slice a0_2_A a0_2_n a0_2_c)] :: F)
    refine d_one 13 (by kernel_rfl) ?_
    · refine o_do rfl (a_storeb 3 rfl sz46 rfl rfl rfl rfl (Nat.le_of_ble_eq_true rfl) rfl) rfl rfl (fun _ w h => (h.drop 4)) (fun _ => ?_)
      refine j_b3 [(.slice x4.1 (0 + a0_0_n) x4.2), (.slice x6.1 (0 + a0_1_n) x6.2), (.slice x8.1 (0 + a0_2_n) x8.2)] rfl ?_
      refine j_rs (.row x4.1 x4.2 3 1 (ii (([] : List Int) ++ a0_0)) :: .row x6.1 x6.2 3 1 (ii (([] : List Int) ++ a0_1)) :: .row x8.1 x8.2 3 1 (ii (([] : List Int) ++ a0_2)) :: .box x2 46 [(.slice x4.1 (0 + a0_0_n) x4.2), (.slice x6.1 (0 + a0_1_n) x6.2), (.slice x8.1 (0 + a0_2_n) x8.2)] :: .box x1 46 [(.slice a0_0_A a0_0_n a0_0_c), (.slice a0_1_A a0_1_n a0_1_c), (.slice a0_2_A a0_2_n a0_2_c)] :: F) (fun _ h => h) ?_
      refine j_env [(2, (pt x2))] ⟨rfl, trivial⟩ ?_
      exact hD16383 (x3, x4, x5, x6, x7, x8)
  refine d_join (σ := (Option Addr) × (Option Addr × Nat) × (Option Addr) × (Option Addr × Nat) × (Option Addr)) 3 #[true, true, true, true, true, true, true, true, true, true, true, false, false, false] (fun s => [(2, (pt x2)), (6, (.slice s.2.1.1 (0 + a0_0_n) s.2.1.2)), (10, (.slice s.2.2.2.1.1 (0 + a0_1_n) s.2.2.2.1.2)), (11, (.slice s.2.2.2.2 0 0)), (13, (.slice a0_2_A a0_2_n a0_2_c))]) (fun s => .row s.2.1.1 s.2.1.2 3 1 (ii (([] : List Int) ++ a0_0)) :: .row s.2.2.2.1.1 s.2.2.2.1.2 3 1 (ii (([] : List Int) ++ a0_1)) :: .row s.2.2.2.2 0 3 1 (ii ([] : List Int)) :: .box x2 46 [(.slice none 0 0), (.slice none 0 0), (.slice none 0 0)] :: .box x1 46 [(.slice a0_0_A a0_0_n a0_0_c), (.slice a0_1_A a0_1_n a0_1_c), (.slice a0_2_A a0_2_n a0_2_c)] :: F) ?_ (fun hD2047 => ?_)
  · rintro ⟨x3, x4, x5, x6, x7⟩
    show J _ _ [(2, (pt x2)), (6, (.slice x4.1 (0 + a0_0_n) x4.2)), (10, (.slice x6.1 (0 + a0_1_n) x6.2)), (11, (.slice x7 0 0)), (13, (.slice a0_2_A a0_2_n a0_2_c))] _ (.row x4.1 x4.2 3 1 (ii (([] : List Int) ++ a0_0)) :: .row x6.1 x6.2 3 1 (ii (([] : List Int) ++ a0_1)) :: .row x7 0 3 1 (ii ([] : List Int)) :: .box x2 46 [(.slice none 0 0), (.slice none 0 0), (.slice none 0 0)] :: .box x1 46 [(.slice a0_0_A a0_0_n a0_0_c), (.slice a0_1_A a0_1_n a0_1_c), (.slice a0_2_A a0_2_n a0_2_c)] :: F)
    refine d_one 11 (by kernel_rfl) ?_
    · refine o_do rfl (a_appI (xs := ([] : List Int)) (ys := a0_2) 2 un32 un32 sz3 by3 zr3 rfl rfl rfl rfl rfl rfl rfl rfl rfl rfl a0_2_h (Rd.drop 5 a0_2_R) c3) rfl rfl (fun x8 w h => (h.drop 4)) (fun x8 => ?_)
      refine j_s2 ?_
      refine d_take 12 rfl (q_build (cs := [(.slice x4.1 (0 + a0_0_n) x4.2), (.slice x6.1 (0 + a0_1_n) x6.2), (.slice x8.1 (0 + a0_2_n) x8.2)]) zr46 pl46 rfl rfl rfl rfl) rfl rfl (by kernel_rfl) (by kernel_rfl) (by kernel_rfl) (fun w h => (h.drop 4)) ?_
      refine j_rs (.row x4.1 x4.2 3 1 (ii (([] : List Int) ++ a0_0)) :: .row x6.1 x6.2 3 1 (ii (([] : List Int) ++ a0_1)) :: .row x8.1 x8.2 3 1 (ii (([] : List Int) ++ a0_2)) :: .box x2 46 [(.slice none 0 0), (.slice none 0 0), (.slice none 0 0)] :: .box x1 46 [(.slice a0_0_A a0_0_n a0_0_c), (.slice a0_1_A a0_1_n a0_1_c), (.slice a0_2_A a0_2_n a0_2_c)] :: F) (fun _ h => h) ?_
      refine j_env [(2, (pt x2)), (15, (.agg (List.toArray [(.slice x4.1 (0 + a0_0_n) x4.2), (.slice x6.1 (0 + a0_1_n) x6.2), (.slice x8.1 (0 + a0_2_n) x8.2)])))] ⟨rfl, rfl, trivial⟩ ?_
      exact hD8191 (x3, x4, x5, x6, x7, x8)
  refine d_join (σ := (Option Addr) × (Option Addr × Nat) × (Option Addr) × (Option Addr × Nat)) 4 #[true, true, true, true, true, true, true, true, false, true, true, false, false, false] (fun s => [(2, (pt x2)), (6, (.slice s.2.1.1 (0 + a0_0_n) s.2.1.2)), (10, (.slice s.2.2.2.1 (0 + a0_1_n) s.2.2.2.2)), (13, (.slice a0_2_A a0_2_n a0_2_c))]) (fun s => .row s.2.1.1 s.2.1.2 3 1 (ii (([] : List Int) ++ a0_0)) :: .row s.2.2.2.1 s.2.2.2.2 3 1 (ii (([] : List Int) ++ a0_1)) :: .box x2 46 [(.slice none 0 0), (.slice none 0 0), (.slice none 0 0)] :: .box x1 46 [(.slice a0_0_A a0_0_n a0_0_c), (.slice a0_1_A a0_1_n a0_1_c), (.slice a0_2_A a0_2_n a0_2_c)] :: F) ?_ (fun hD1791 => ?_)
  · rintro ⟨x3, x4, x5, x6⟩
    show J _ _ [(2, (pt x2)), (6, (.slice x4.1 (0 + a0_0_n) x4.2)), (10, (.slice x6.1 (0 + a0_1_n) x6.2)), (13, (.slice a0_2_A a0_2_n a0_2_c))] _ (.row x4.1 x4.2 3 1 (ii (([] : List Int) ++ a0_0)) :: .row x6.1 x6.2 3 1 (ii (([] : List Int) ++ a0_1)) :: .box x2 46 [(.slice none 0 0), (.slice none 0 0), (.slice none 0 0)] :: .box x1 46 [(.slice a0_0_A a0_0_n a0_0_c), (.slice a0_1_A a0_1_n a0_1_c), (.slice a0_2_A a0_2_n a0_2_c)] :: F)
    refine d_one 8 (by kernel_rfl) ?_
    · refine o_do rfl (a_litX (vs := []) (ii ([] : List Int)) un32 sz3 zr3 rfl rfl rfl rfl rfl rfl rfl rfl rfl) rfl rfl (fun x7 w h => (h.drop 4)) (fun x7 => ?_)
      refine j_rs (.row x4.1 x4.2 3 1 (ii (([] : List Int) ++ a0_0)) :: .row x6.1 x6.2 3 1 (ii (([] : List Int) ++ a0_1)) :: .row x7 0 3 1 (ii ([] : List Int)) :: .box x2 46 [(.slice none 0 0), (.slice none 0 0), (.slice none 0 0)] :: .box x1 46 [(.slice a0_0_A a0_0_n a0_0_c), (.slice a0_1_A a0_1_n a0_1_c), (.slice a0_2_A a0_2_n a0_2_c)] :: F) (fun _ h => h.pick 5 [1, 2, 0, 3, 4] rfl) ?_
      refine j_env [(2, (pt x2)), (6, (.slice x4.1 (0 + a0_0_n) x4.2)), (10, (.slice x6.1 (0 + a0_1_n) x6.2)), (11, (.slice x7 0 0)), (13, (.slice a0_2_A a0_2_n a0_2_c))] ⟨rfl, rfl, rfl, rfl, rfl, trivial⟩ ?_
      exact hD2047 (x3, x4, x5, x6, x7)
  refine d_join (σ := (Option Addr) × (Option Addr × Nat) × (Option Addr) × (Option Addr)) 4 #[true, true, true, true, true, true, true, false, true, true, true, false, false, false] (fun s => [(2, (pt x2)), (6, (.slice s.2.1.1 (0 + a0_0_n) s.2.1.2)), (7, (.slice s.2.2.1 0 0)), (9, (.slice a0_1_A a0_1_n a0_1_c)), (11, (.slice s.2.2.2 0 0)), (13, (.slice a0_2_A a0_2_n a0_2_c))]) (fun s => .row s.2.1.1 s.2.1.2 3 1 (ii (([] : List Int) ++ a0_0)) :: .row s.2.2.1 0 3 1 (ii ([] : List Int)) :: .row s.2.2.2 0 3 1 (ii ([] : List Int)) :: .box x2 46 [(.slice none 0 0), (.slice none 0 0), (.slice none 0 0)] :: .box x1 46 [(.slice a0_0_A a0_0_n a0_0_c), (.slice a0_1_A a0_1_n a0_1_c), (.slice a0_2_A a0_2_n a0_2_c)] :: F) ?_ (fun hD1919 => ?_)
  · rintro ⟨x3, x4, x5, x7⟩
    show J _ _ [(2, (pt x2)), (6, (.slice x4.1 (0 + a0_0_n) x4.2)), (7, (.slice x5 0 0)), (9, (.slice a0_1_A a0_1_n a0_1_c)), (11, (.slice x7 0 0)), (13, (.slice a0_2_A a0_2_n a0_2_c))] _ (.row x4.1 x4.2 3 1 (ii (([] : List Int) ++ a0_0)) :: .row x5 0 3 1 (ii ([] : List Int)) :: .row x7 0 3 1 (ii ([] : List Int)) :: .box x2 46 [(.slice none 0 0), (.slice none 0 0), (.slice none 0 0)] :: .box x1 46 [(.slice a0_0_A a0_0_n a0_0_c), (.slice a0_1_A a0_1_n a0_1_c), (.slice a0_2_A a0_2_n a0_2_c)] :: F)
    refine d_one 7 (by kernel_rfl) ?_
    · refine o_do rfl (a_appI (xs := ([] : List Int)) (ys := a0_1) 1 un32 un32 sz3 by3 zr3 rfl rfl rfl rfl rfl rfl rfl rfl rfl rfl a0_1_h (Rd.drop 5 a0_1_R) c2) rfl rfl (fun x6 w h => (h.drop 4)) (fun x6 => ?_)
      refine j_s1 ?_
      refine j_rs (.row x4.1 x4.2 3 1 (ii (([] : List Int) ++ a0_0)) :: .row x6.1 x6.2 3 1 (ii (([] : List Int) ++ a0_1)) :: .row x7 0 3 1 (ii ([] : List Int)) :: .box x2 46 [(.slice none 0 0), (.slice none 0 0), (.slice none 0 0)] :: .box x1 46 [(.slice a0_0_A a0_0_n a0_0_c), (.slice a0_1_A a0_1_n a0_1_c), (.slice a0_2_A a0_2_n a0_2_c)] :: F) (fun _ h => h) ?_
      refine j_env [(2, (pt x2)), (6, (.slice x4.1 (0 + a0_0_n) x4.2)), (10, (.slice x6.1 (0 + a0_1_n) x6.2)), (11, (.slice x7 0 0)), (13, (.slice a0_2_A a0_2_n a0_2_c))] ⟨rfl, rfl, rfl, rfl, rfl, trivial⟩ ?_
      exact hD2047 (x3, x4, x5, x6, x7)
  refine d_join (σ := (Option Addr) × (Option Addr × Nat) × (Option Addr)) 5 #[true, true, true, true, true, true, true, false, false, true, true, false, false, false] (fun s => [(2, (pt x2)), (6, (.slice s.2.1.1 (0 + a0_0_n) s.2.1.2)), (7, (.slice s.2.2 0 0)), (9, (.slice a0_1_A a0_1_n a0_1_c)), (13, (.slice a0_2_A a0_2_n a0_2_c))]) (fun s => .row s.2.1.1 s.2.1.2 3 1 (ii (([] : List Int) ++ a0_0)) :: .row s.2.2 0 3 1 (ii ([] : List Int)) :: .box x2 46 [(.slice none 0 0), (.slice none 0 0), (.slice none 0 0)] :: .box x1 46 [(.slice a0_0_A a0_0_n a0_0_c), (.slice a0_1_A a0_1_n a0_1_c), (.slice a0_2_A a0_2_n a0_2_c)] :: F) ?_ (fun hD1663 => ?_)
  · rintro ⟨x3, x4, x5⟩
    show J _ _ [(2, (pt x2)), (6, (.slice x4.1 (0 + a0_0_n) x4.2)), (7, (.slice x5 0 0)), (9, (.slice a0_1_A a0_1_n a0_1_c)), (13, (.slice a0_2_A a0_2_n a0_2_c))] _ (.row x4.1 x4.2 3 1 (ii (([] : List Int) ++ a0_0)) :: .row x5 0 3 1 (ii ([] : List Int)) :: .box x2 46 [(.slice none 0 0), (.slice none 0 0), (.slice none 0 0)] :: .box x1 46 [(.slice a0_0_A a0_0_n a0_0_c), (.slice a0_1_A a0_1_n a0_1_c), (.slice a0_2_A a0_2_n a0_2_c)] :: F)
    refine d_two 7 8 (by kernel_rfl) ?_ ?_
    · refine o_do rfl (a_appI (xs := ([] : List Int)) (ys := a0_1) 1 un32 un32 sz3 by3 zr3 rfl rfl rfl rfl rfl rfl rfl rfl rfl rfl a0_1_h (Rd.drop 4 a0_1_R) c2) rfl rfl (fun x6 w h => (h.drop 3)) (fun x6 => ?_)
      refine j_s1 ?_
      refine j_rs (.row x4.1 x4.2 3 1 (ii (([] : List Int) ++ a0_0)) :: .row x6.1 x6.2 3 1 (ii (([] : List Int) ++ a0_1)) :: .box x2 46 [(.slice none 0 0), (.slice none 0 0), (.slice none 0 0)] :: .box x1 46 [(.slice a0_0_A a0_0_n a0_0_c), (.slice a0_1_A a0_1_n a0_1_c), (.slice a0_2_A a0_2_n a0_2_c)] :: F) (fun _ h => h) ?_
      refine j_env [(2, (pt x2)), (6, (.slice x4.1 (0 + a0_0_n) x4.2)), (10, (.slice x6.1 (0 + a0_1_n) x6.2)), (13, (.slice a0_2_A a0_2_n a0_2_c))] ⟨rfl, rfl, rfl, rfl, trivial⟩ ?_
      exact hD1791 (x3, x4, x5, x6)
    · refine o_do rfl (a_litX (vs := []) (ii ([] : List Int)) un32 sz3 zr3 rfl rfl rfl rfl rfl rfl rfl rfl rfl) rfl rfl (fun x7 w h => (h.drop 4)) (fun x7 => ?_)
      refine j_rs (.row x4.1 x4.2 3 1 (ii (([] : List Int) ++ a0_0)) :: .row x5 0 3 1 (ii ([] : List Int)) :: .row x7 0 3 1 (ii ([] : List Int)) :: .box x2 46 [(.slice none 0 0), (.slice none 0 0), (.slice none 0 0)] :: .box x1 46 [(.slice a0_0_A a0_0_n a0_0_c), (.slice a0_1_A a0_1_n a0_1_c), (.slice a0_2_A a0_2_n a0_2_c)] :: F) (fun _ h => h.pick 5 [1, 2, 0, 3, 4] rfl) ?_
      refine j_env [(2, (pt x2)), (6, (.slice x4.1 (0 + a0_0_n) x4.2)), (7, (.slice x5 0 0)), (9, (.slice a0_1_A a0_1_n a0_1_c)), (11, (.slice x7 0 0)), (13, (.slice a0_2_A a0_2_n a0_2_c))] ⟨rfl, rfl, rfl, rfl, rfl, rfl, trivial⟩ ?_
      exact hD1919 (x3, x4, x5, x7)
  refine d_join (σ := (Option Addr) × (Option Addr × Nat) × (Option Addr)) 5 #[true, true, true, true, false, true, true, false, true, true, true, false, false, false] (fun s => [(2, (pt x2)), (6, (.slice s.2.1.1 (0 + a0_0_n) s.2.1.2)), (9, (.slice a0_1_A a0_1_n a0_1_c)), (11, (.slice s.2.2 0 0)), (13, (.slice a0_2_A a0_2_n a0_2_c))]) (fun s => .row s.2.1.1 s.2.1.2 3 1 (ii (([] : List Int) ++ a0_0)) :: .row s.2.2 0 3 1 (ii ([] : List Int)) :: .box x2 46 [(.slice none 0 0), (.slice none 0 0), (.slice none 0 0)] :: .box x1 46 [(.slice a0_0_A a0_0_n a0_0_c), (.slice a0_1_A a0_1_n a0_1_c), (.slice a0_2_A a0_2_n a0_2_c)] :: F) ?_ (fun hD1903 => ?_)
  · rintro ⟨x3, x4, x7⟩
    show J _ _ [(2, (pt x2)), (6, (.slice x4.1 (0 + a0_0_n) x4.2)), (9, (.slice a0_1_A a0_1_n a0_1_c)), (11, (.slice x7 0 0)), (13, (.slice a0_2_A a0_2_n a0_2_c))] _ (.row x4.1 x4.2 3 1 (ii (([] : List Int) ++ a0_0)) :: .row x7 0 3 1 (ii ([] : List Int)) :: .box x2 46 [(.slice none 0 0), (.slice none 0 0), (.slice none 0 0)] :: .box x1 46 [(.slice a0_0_A a0_0_n a0_0_c), (.slice a0_1_A a0_1_n a0_1_c), (.slice a0_2_A a0_2_n a0_2_c)] :: F)
    refine d_one 4 (by kernel_rfl) ?_
    · refine o_do rfl (a_litX (vs := []) (ii ([] : List Int)) un32 sz3 zr3 rfl rfl rfl rfl rfl rfl rfl rfl rfl) rfl rfl (fun x5 w h => (h.drop 4)) (fun x5 => ?_)
      refine j_rs (.row x4.1 x4.2 3 1 (ii (([] : List Int) ++ a0_0)) :: .row x5 0 3 1 (ii ([] : List Int)) :: .row x7 0 3 1 (ii ([] : List Int)) :: .box x2 46 [(.slice none 0 0), (.slice none 0 0), (.slice none 0 0)] :: .box x1 46 [(.slice a0_0_A a0_0_n a0_0_c), (.slice a0_1_A a0_1_n a0_1_c), (.slice a0_2_A a0_2_n a0_2_c)] :: F) (fun _ h => h.pick 5 [1, 0, 2, 3, 4] rfl) ?_
      refine j_env [(2, (pt x2)), (6, (.slice x4.1 (0 + a0_0_n) x4.2)), (7, (.slice x5 0 0)), (9, (.slice a0_1_A a0_1_n a0_1_c)), (11, (.slice x7 0 0)), (13, (.slice a0_2_A a0_2_n a0_2_c))] ⟨rfl, rfl, rfl, rfl, rfl, rfl, trivial⟩ ?_
      exact hD1919 (x3, x4, x5, x7)
  refine d_join (σ := (Option Addr) × (Option Addr) × (Option Addr)) 5 #[true, true, true, false, true, true, true, false, true, true, true, false, false, false] (fun s => [(2, (pt x2)), (3, (.slice s.1 0 0)), (5, (.slice a0_0_A a0_0_n a0_0_c)), (7, (.slice s.2.1 0 0)), (9, (.slice a0_1_A a0_1_n a0_1_c)), (11, (.slice s.2.2 0 0)), (13, (.slice a0_2_A a0_2_n a0_2_c))]) (fun s => .row s.1 0 3 1 (ii ([] : List Int)) :: .row s.2.1 0 3 1 (ii ([] : List Int)) :: .row s.2.2 0 3 1 (ii ([] : List Int)) :: .box x2 46 [(.slice none 0 0), (.slice none 0 0), (.slice none 0 0)] :: .box x1 46 [(.slice a0_0_A a0_0_n a0_0_c), (.slice a0_1_A a0_1_n a0_1_c), (.slice a0_2_A a0_2_n a0_2_c)] :: F) ?_ (fun hD1911 => ?_)
  · rintro ⟨x3, x5, x7⟩
    show J _ _ [(2, (pt x2)), (3, (.slice x3 0 0)), (5, (.slice a0_0_A a0_0_n a0_0_c)), (7, (.slice x5 0 0)), (9, (.slice a0_1_A a0_1_n a0_1_c)), (11, (.slice x7 0 0)), (13, (.slice a0_2_A a0_2_n a0_2_c))] _ (.row x3 0 3 1 (ii ([] : List Int)) :: .row x5 0 3 1 (ii ([] : List Int)) :: .row x7 0 3 1 (ii ([] : List Int)) :: .box x2 46 [(.slice none 0 0), (.slice none 0 0), (.slice none 0 0)] :: .box x1 46 [(.slice a0_0_A a0_0_n a0_0_c), (.slice a0_1_A a0_1_n a0_1_c), (.slice a0_2_A a0_2_n a0_2_c)] :: F)
    refine d_one 3 (by kernel_rfl) ?_
    · refine o_do rfl (a_appI (xs := ([] : List Int)) (ys := a0_0) 0 un32 un32 sz3 by3 zr3 rfl rfl rfl rfl rfl rfl rfl rfl rfl rfl a0_0_h (Rd.drop 5 a0_0_R) c1) rfl rfl (fun x4 w h => (h.drop 4)) (fun x4 => ?_)
      refine j_s0 ?_
      refine j_rs (.row x4.1 x4.2 3 1 (ii (([] : List Int) ++ a0_0)) :: .row x5 0 3 1 (ii ([] : List Int)) :: .row x7 0 3 1 (ii ([] : List Int)) :: .box x2 46 [(.slice none 0 0), (.slice none 0 0), (.slice none 0 0)] :: .box x1 46 [(.slice a0_0_A a0_0_n a0_0_c), (.slice a0_1_A a0_1_n a0_1_c), (.slice a0_2_A a0_2_n a0_2_c)] :: F) (fun _ h => h) ?_
      refine j_env [(2, (pt x2)), (6, (.slice x4.1 (0 + a0_0_n) x4.2)), (7, (.slice x5 0 0)), (9, (.slice a0_1_A a0_1_n a0_1_c)), (11, (.slice x7 0 0)), (13, (.slice a0_2_A a0_2_n a0_2_c))] ⟨rfl, rfl, rfl, rfl, rfl, rfl, trivial⟩ ?_
      exact hD1919 (x3, x4, x5, x7)
  refine d_join (σ := (Option Addr) × (Option Addr × Nat)) 6 #[true, true, true, true, false, true, true, false, false, true, true, false, false, false] (fun s => [(2, (pt x2)), (6, (.slice s.2.1 (0 + a0_0_n) s.2.2)), (9, (.slice a0_1_A a0_1_n a0_1_c)), (13, (.slice a0_2_A a0_2_n a0_2_c))]) (fun s => .row s.2.1 s.2.2 3 1 (ii (([] : List Int) ++ a0_0)) :: .box x2 46 [(.slice none 0 0), (.slice none 0 0), (.slice none 0 0)] :: .box x1 46 [(.slice a0_0_A a0_0_n a0_0_c), (.slice a0_1_A a0_1_n a0_1_c), (.slice a0_2_A a0_2_n a0_2_c)] :: F) ?_ (fun hD1647 => ?_)
  · rintro ⟨x3, x4⟩
    show J _ _ [(2, (pt x2)), (6, (.slice x4.1 (0 + a0_0_n) x4.2)), (9, (.slice a0_1_A a0_1_n a0_1_c)), (13, (.slice a0_2_A a0_2_n a0_2_c))] _ (.row x4.1 x4.2 3 1 (ii (([] : List Int) ++ a0_0)) :: .box x2 46 [(.slice none 0 0), (.slice none 0 0), (.slice none 0 0)] :: .box x1 46 [(.slice a0_0_A a0_0_n a0_0_c), (.slice a0_1_A a0_1_n a0_1_c), (.slice a0_2_A a0_2_n a0_2_c)] :: F)
    refine d_two 4 8 (by kernel_rfl) ?_ ?_
    · refine o_do rfl (a_litX (vs := []) (ii ([] : List Int)) un32 sz3 zr3 rfl rfl rfl rfl rfl rfl rfl rfl rfl) rfl rfl (fun x5 w h => (h.drop 3)) (fun x5 => ?_)
      refine j_rs (.row x4.1 x4.2 3 1 (ii (([] : List Int) ++ a0_0)) :: .row x5 0 3 1 (ii ([] : List Int)) :: .box x2 46 [(.slice none 0 0), (.slice none 0 0), (.slice none 0 0)] :: .box x1 46 [(.slice a0_0_A a0_0_n a0_0_c), (.slice a0_1_A a0_1_n a0_1_c), (.slice a0_2_A a0_2_n a0_2_c)] :: F) (fun _ h => h.pick 4 [1, 0, 2, 3] rfl) ?_
      refine j_env [(2, (pt x2)), (6, (.slice x4.1 (0 + a0_0_n) x4.2)), (7, (.slice x5 0 0)), (9, (.slice a0_1_A a0_1_n a0_1_c)), (13, (.slice a0_2_A a0_2_n a0_2_c))] ⟨rfl, rfl, rfl, rfl, rfl, trivial⟩ ?_
      exact hD1663 (x3, x4, x5)
    · refine o_do rfl (a_litX (vs := []) (ii ([] : List Int)) un32 sz3 zr3 rfl rfl rfl rfl rfl rfl rfl rfl rfl) rfl rfl (fun x7 w h => (h.drop 3)) (fun x7 => ?_)
      refine j_rs (.row x4.1 x4.2 3 1 (ii (([] : List Int) ++ a0_0)) :: .row x7 0 3 1 (ii ([] : List Int)) :: .box x2 46 [(.slice none 0 0), (.slice none 0 0), (.slice none 0 0)] :: .box x1 46 [(.slice a0_0_A a0_0_n a0_0_c), (.slice a0_1_A a0_1_n a0_1_c), (.slice a0_2_A a0_2_n a0_2_c)] :: F) (fun _ h => h.pick 4 [1, 0, 2, 3] rfl) ?_
      refine j_env [(2, (pt x2)), (6, (.slice x4.1 (0 + a0_0_n) x4.2)), (9, (.slice a0_1_A a0_1_n a0_1_c)), (11, (.slice x7 0 0)), (13, (.slice a0_2_A a0_2_n a0_2_c))] ⟨rfl, rfl, rfl, rfl, rfl, trivial⟩ ?_
      exact hD1903 (x3, x4, x7)
  refine d_join (σ := (Option Addr) × (Option Addr)) 6 #[true, true, true, false, true, true, true, false, false, true, true, false, false, false] (fun s => [(2, (pt x2)), (3, (.slice s.1 0 0)), (5, (.slice a0_0_A a0_0_n a0_0_c)), (7, (.slice s.2 0 0)), (9, (.slice a0_1_A a0_1_n a0_1_c)), (13, (.slice a0_2_A a0_2_n a0_2_c))]) (fun s => .row s.1 0 3 1 (ii ([] : List Int)) :: .row s.2 0 3 1 (ii ([] : List Int)) :: .box x2 46 [(.slice none 0 0), (.slice none 0 0), (.slice none 0 0)] :: .box x1 46 [(.slice a0_0_A a0_0_n a0_0_c), (.slice a0_1_A a0_1_n a0_1_c), (.slice a0_2_A a0_2_n a0_2_c)] :: F) ?_ (fun hD1655 => ?_)
  · rintro ⟨x3, x5⟩
    show J _ _ [(2, (pt x2)), (3, (.slice x3 0 0)), (5, (.slice a0_0_A a0_0_n a0_0_c)), (7, (.slice x5 0 0)), (9, (.slice a0_1_A a0_1_n a0_1_c)), (13, (.slice a0_2_A a0_2_n a0_2_c))] _ (.row x3 0 3 1 (ii ([] : List Int)) :: .row x5 0 3 1 (ii ([] : List Int)) :: .box x2 46 [(.slice none 0 0), (.slice none 0 0), (.slice none 0 0)] :: .box x1 46 [(.slice a0_0_A a0_0_n a0_0_c), (.slice a0_1_A a0_1_n a0_1_c), (.slice a0_2_A a0_2_n a0_2_c)] :: F)
    refine d_two 3 8 (by kernel_rfl) ?_ ?_
    · refine o_do rfl (a_appI (xs := ([] : List Int)) (ys := a0_0) 0 un32 un32 sz3 by3 zr3 rfl rfl rfl rfl rfl rfl rfl rfl rfl rfl a0_0_h (Rd.drop 4 a0_0_R) c1) rfl rfl (fun x4 w h => (h.drop 3)) (fun x4 => ?_)
      refine j_s0 ?_
      refine j_rs (.row x4.1 x4.2 3 1 (ii (([] : List Int) ++ a0_0)) :: .row x5 0 3 1 (ii ([] : List Int)) :: .box x2 46 [(.slice none 0 0), (.slice none 0 0), (.slice none 0 0)] :: .box x1 46 [(.slice a0_0_A a0_0_n a0_0_c), (.slice a0_1_A a0_1_n a0_1_c), (.slice a0_2_A a0_2_n a0_2_c)] :: F) (fun _ h => h) ?_
      refine j_env [(2, (pt x2)), (6, (.slice x4.1 (0 + a0_0_n) x4.2)), (7, (.slice x5 0 0)), (9, (.slice a0_1_A a0_1_n a0_1_c)), (13, (.slice a0_2_A a0_2_n a0_2_c))] ⟨rfl, rfl, rfl, rfl, rfl, trivial⟩ ?_
      exact hD1663 (x3, x4, x5)
    · refine o_do rfl (a_litX (vs := []) (ii ([] : List Int)) un32 sz3 zr3 rfl rfl rfl rfl rfl rfl rfl rfl rfl) rfl rfl (fun x7 w h => (h.drop 4)) (fun x7 => ?_)
      refine j_rs (.row x3 0 3 1 (ii ([] : List Int)) :: .row x5 0 3 1 (ii ([] : List Int)) :: .row x7 0 3 1 (ii ([] : List Int)) :: .box x2 46 [(.slice none 0 0), (.slice none 0 0), (.slice none 0 0)] :: .box x1 46 [(.slice a0_0_A a0_0_n a0_0_c), (.slice a0_1_A a0_1_n a0_1_c), (.slice a0_2_A a0_2_n a0_2_c)] :: F) (fun _ h => h.pick 5 [1, 2, 0, 3, 4] rfl) ?_
      refine j_env [(2, (pt x2)), (3, (.slice x3 0 0)), (5, (.slice a0_0_A a0_0_n a0_0_c)), (7, (.slice x5 0 0)), (9, (.slice a0_1_A a0_1_n a0_1_c)), (11, (.slice x7 0 0)), (13, (.slice a0_2_A a0_2_n a0_2_c))] ⟨rfl, rfl, rfl, rfl, rfl, rfl, rfl, trivial⟩ ?_
      exact hD1911 (x3, x5, x7)
  refine d_join (σ := (Option Addr) × (Option Addr)) 6 #[true, true, true, false, false, true, true, false, true, true, true, false, false, false] (fun s => [(2, (pt x2)), (3, (.slice s.1 0 0)), (5, (.slice a0_0_A a0_0_n a0_0_c)), (9, (.slice a0_1_A a0_1_n a0_1_c)), (11, (.slice s.2 0 0)), (13, (.slice a0_2_A a0_2_n a0_2_c))]) (fun s => .row s.1 0 3 1 (ii ([] : List Int)) :: .row s.2 0 3 1 (ii ([] : List Int)) :: .box x2 46 [(.slice none 0 0), (.slice none 0 0), (.slice none 0 0)] :: .box x1 46 [(.slice a0_0_A a0_0_n a0_0_c), (.slice a0_1_A a0_1_n a0_1_c), (.slice a0_2_A a0_2_n a0_2_c)] :: F) ?_ (fun hD1895 => ?_)
  · rintro ⟨x3, x7⟩
    show J _ _ [(2, (pt x2)), (3, (.slice x3 0 0)), (5, (.slice a0_0_A a0_0_n a0_0_c)), (9, (.slice a0_1_A a0_1_n a0_1_c)), (11, (.slice x7 0 0)), (13, (.slice a0_2_A a0_2_n a0_2_c))] _ (.row x3 0 3 1 (ii ([] : List Int)) :: .row x7 0 3 1 (ii ([] : List Int)) :: .box x2 46 [(.slice none 0 0), (.slice none 0 0), (.slice none 0 0)] :: .box x1 46 [(.slice a0_0_A a0_0_n a0_0_c), (.slice a0_1_A a0_1_n a0_1_c), (.slice a0_2_A a0_2_n a0_2_c)] :: F)
    refine d_two 3 4 (by kernel_rfl) ?_ ?_
    · refine o_do rfl (a_appI (xs := ([] : List Int)) (ys := a0_0) 0 un32 un32 sz3 by3 zr3 rfl rfl rfl rfl rfl rfl rfl rfl rfl rfl a0_0_h (Rd.drop 4 a0_0_R) c1) rfl rfl (fun x4 w h => (h.drop 3)) (fun x4 => ?_)
      refine j_s0 ?_
      refine j_rs (.row x4.1 x4.2 3 1 (ii (([] : List Int) ++ a0_0)) :: .row x7 0 3 1 (ii ([] : List Int)) :: .box x2 46 [(.slice none 0 0), (.slice none 0 0), (.slice none 0 0)] :: .box x1 46 [(.slice a0_0_A a0_0_n a0_0_c), (.slice a0_1_A a0_1_n a0_1_c), (.slice a0_2_A a0_2_n a0_2_c)] :: F) (fun _ h => h) ?_
      refine j_env [(2, (pt x2)), (6, (.slice x4.1 (0 + a0_0_n) x4.2)), (9, (.slice a0_1_A a0_1_n a0_1_c)), (11, (.slice x7 0 0)), (13, (.slice a0_2_A a0_2_n a0_2_c))] ⟨rfl, rfl, rfl, rfl, rfl, trivial⟩ ?_
      exact hD1903 (x3, x4, x7)
    · refine o_do rfl (a_litX (vs := []) (ii ([] : List Int)) un32 sz3 zr3 rfl rfl rfl rfl rfl rfl rfl rfl rfl) rfl rfl (fun x5 w h => (h.drop 4)) (fun x5 => ?_)
      refine j_rs (.row x3 0 3 1 (ii ([] : List Int)) :: .row x5 0 3 1 (ii ([] : List Int)) :: .row x7 0 3 1 (ii ([] : List Int)) :: .box x2 46 [(.slice none 0 0), (.slice none 0 0), (.slice none 0 0)] :: .box x1 46 [(.slice a0_0_A a0_0_n a0_0_c), (.slice a0_1_A a0_1_n a0_1_c), (.slice a0_2_A a0_2_n a0_2_c)] :: F) (fun _ h => h.pick 5 [1, 0, 2, 3, 4] rfl) ?_
      refine j_env [(2, (pt x2)), (3, (.slice x3 0 0)), (5, (.slice a0_0_A a0_0_n a0_0_c)), (7, (.slice x5 0 0)), (9, (.slice a0_1_A a0_1_n a0_1_c)), (11, (.slice x7 0 0)), (13, (.slice a0_2_A a0_2_n a0_2_c))] ⟨rfl, rfl, rfl, rfl, rfl, rfl, rfl, trivial⟩ ?_
      exact hD1911 (x3, x5, x7)
  refine d_join (σ := (Option Addr) × (Option Addr)) 6 #[false, true, true, false, true, true, true, false, true, true, true, false, false, false] (fun s => [(2, (pt x2)), (5, (.slice a0_0_A a0_0_n a0_0_c)), (7, (.slice s.1 0 0)), (9, (.slice a0_1_A a0_1_n a0_1_c)), (11, (.slice s.2 0 0)), (13, (.slice a0_2_A a0_2_n a0_2_c))]) (fun s => .row s.1 0 3 1 (ii ([] : List Int)) :: .row s.2 0 3 1 (ii ([] : List Int)) :: .box x2 46 [(.slice none 0 0), (.slice none 0 0), (.slice none 0 0)] :: .box x1 46 [(.slice a0_0_A a0_0_n a0_0_c), (.slice a0_1_A a0_1_n a0_1_c), (.slice a0_2_A a0_2_n a0_2_c)] :: F) ?_ (fun hD1910 => ?_)
  · rintro ⟨x5, x7⟩
    show J _ _ [(2, (pt x2)), (5, (.slice a0_0_A a0_0_n a0_0_c)), (7, (.slice x5 0 0)), (9, (.slice a0_1_A a0_1_n a0_1_c)), (11, (.slice x7 0 0)), (13, (.slice a0_2_A a0_2_n a0_2_c))] _ (.row x5 0 3 1 (ii ([] : List Int)) :: .row x7 0 3 1 (ii ([] : List Int)) :: .box x2 46 [(.slice none 0 0), (.slice none 0 0), (.slice none 0 0)] :: .box x1 46 [(.slice a0_0_A a0_0_n a0_0_c), (.slice a0_1_A a0_1_n a0_1_c), (.slice a0_2_A a0_2_n a0_2_c)] :: F)
    refine d_one 0 (by kernel_rfl) ?_
    · refine o_do rfl (a_litX (vs := []) (ii ([] : List Int)) un32 sz3 zr3 rfl rfl rfl rfl rfl rfl rfl rfl rfl) rfl rfl (fun x3 w h => (h.drop 4)) (fun x3 => ?_)
      refine j_rs (.row x3 0 3 1 (ii ([] : List Int)) :: .row x5 0 3 1 (ii ([] : List Int)) :: .row x7 0 3 1 (ii ([] : List Int)) :: .box x2 46 [(.slice none 0 0), (.slice none 0 0), (.slice none 0 0)] :: .box x1 46 [(.slice a0_0_A a0_0_n a0_0_c), (.slice a0_1_A a0_1_n a0_1_c), (.slice a0_2_A a0_2_n a0_2_c)] :: F) (fun _ h => h) ?_
      refine j_env [(2, (pt x2)), (3, (.slice x3 0 0)), (5, (.slice a0_0_A a0_0_n a0_0_c)), (7, (.slice x5 0 0)), (9, (.slice a0_1_A a0_1_n a0_1_c)), (11, (.slice x7 0 0)), (13, (.slice a0_2_A a0_2_n a0_2_c))] ⟨rfl, rfl, rfl, rfl, rfl, rfl, rfl, trivial⟩ ?_
      exact hD1911 (x3, x5, x7)
  refine d_join (σ := (Option Addr)) 7 #[true, true, true, false, false, true, true, false, false, true, true, false, false, false] (fun s => [(2, (pt x2)), (3, (.slice s 0 0)), (5, (.slice a0_0_A a0_0_n a0_0_c)), (9, (.slice a0_1_A a0_1_n a0_1_c)), (13, (.slice a0_2_A a0_2_n a0_2_c))]) (fun s => .row s 0 3 1 (ii ([] : List Int)) :: .box x2 46 [(.slice none 0 0), (.slice none 0 0), (.slice none 0 0)] :: .box x1 46 [(.slice a0_0_A a0_0_n a0_0_c), (.slice a0_1_A a0_1_n a0_1_c), (.slice a0_2_A a0_2_n a0_2_c)] :: F) ?_ (fun hD1639 => ?_)
  · rintro x3
    show J _ _ [(2, (pt x2)), (3, (.slice x3 0 0)), (5, (.slice a0_0_A a0_0_n a0_0_c)), (9, (.slice a0_1_A a0_1_n a0_1_c)), (13, (.slice a0_2_A a0_2_n a0_2_c))] _ (.row x3 0 3 1 (ii ([] : List Int)) :: .box x2 46 [(.slice none 0 0), (.slice none 0 0), (.slice none 0 0)] :: .box x1 46 [(.slice a0_0_A a0_0_n a0_0_c), (.slice a0_1_A a0_1_n a0_1_c), (.slice a0_2_A a0_2_n a0_2_c)] :: F)
    refine d_three 3 4 8 (by kernel_rfl) ?_ ?_ ?_
    · refine o_do rfl (a_appI (xs := ([] : List Int)) (ys := a0_0) 0 un32 un32 sz3 by3 zr3 rfl rfl rfl rfl rfl rfl rfl rfl rfl rfl a0_0_h (Rd.drop 3 a0_0_R) c1) rfl rfl (fun x4 w h => (h.drop 2)) (fun x4 => ?_)
      refine j_s0 ?_
      refine j_rs (.row x4.1 x4.2 3 1 (ii (([] : List Int) ++ a0_0)) :: .box x2 46 [(.slice none 0 0), (.slice none 0 0), (.slice none 0 0)] :: .box x1 46 [(.slice a0_0_A a0_0_n a0_0_c), (.slice a0_1_A a0_1_n a0_1_c), (.slice a0_2_A a0_2_n a0_2_c)] :: F) (fun _ h => h) ?_
      refine j_env [(2, (pt x2)), (6, (.slice x4.1 (0 + a0_0_n) x4.2)), (9, (.slice a0_1_A a0_1_n a0_1_c)), (13, (.slice a0_2_A a0_2_n a0_2_c))] ⟨rfl, rfl, rfl, rfl, trivial⟩ ?_
      exact hD1647 (x3, x4)
    · refine o_do rfl (a_litX (vs := []) (ii ([] : List Int)) un32 sz3 zr3 rfl rfl rfl rfl rfl rfl rfl rfl rfl) rfl rfl (fun x5 w h => (h.drop 3)) (fun x5 => ?_)
      refine j_rs (.row x3 0 3 1 (ii ([] : List Int)) :: .row x5 0 3 1 (ii ([] : List Int)) :: .box x2 46 [(.slice none 0 0), (.slice none 0 0), (.slice none 0 0)] :: .box x1 46 [(.slice a0_0_A a0_0_n a0_0_c), (.slice a0_1_A a0_1_n a0_1_c), (.slice a0_2_A a0_2_n a0_2_c)] :: F) (fun _ h => h.pick 4 [1, 0, 2, 3] rfl) ?_
      refine j_env [(2, (pt x2)), (3, (.slice x3 0 0)), (5, (.slice a0_0_A a0_0_n a0_0_c)), (7, (.slice x5 0 0)), (9, (.slice a0_1_A a0_1_n a0_1_c)), (13, (.slice a0_2_A a0_2_n a0_2_c))] ⟨rfl, rfl, rfl, rfl, rfl, rfl, trivial⟩ ?_
      exact hD1655 (x3, x5)
    · refine o_do rfl (a_litX (vs := []) (ii ([] : List Int)) un32 sz3 zr3 rfl rfl rfl rfl rfl rfl rfl rfl rfl) rfl rfl (fun x7 w h => (h.drop 3)) (fun x7 => ?_)
      refine j_rs (.row x3 0 3 1 (ii ([] : List Int)) :: .row x7 0 3 1 (ii ([] : List Int)) :: .box x2 46 [(.slice none 0 0), (.slice none 0 0), (.slice none 0 0)] :: .box x1 46 [(.slice a0_0_A a0_0_n a0_0_c), (.slice a0_1_A a0_1_n a0_1_c), (.slice a0_2_A a0_2_n a0_2_c)] :: F) (fun _ h => h.pick 4 [1, 0, 2, 3] rfl) ?_
      refine j_env [(2, (pt x2)), (3, (.slice x3 0 0)), (5, (.slice a0_0_A a0_0_n a0_0_c)), (9, (.slice a0_1_A a0_1_n a0_1_c)), (11, (.slice x7 0 0)), (13, (.slice a0_2_A a0_2_n a0_2_c))] ⟨rfl, rfl, rfl, rfl, rfl, rfl, trivial⟩ ?_
      exact hD1895 (x3, x7)
  refine d_join (σ := (Option Addr)) 7 #[false, true, true, false, true, true, true, false, false, true, true, false, false, false] (fun s => [(2, (pt x2)), (5, (.slice a0_0_A a0_0_n a0_0_c)), (7, (.slice s 0 0)), (9, (.slice a0_1_A a0_1_n a0_1_c)), (13, (.slice a0_2_A a0_2_n a0_2_c))]) (fun s => .row s 0 3 1 (ii ([] : List Int)) :: .box x2 46 [(.slice none 0 0), (.slice none 0 0), (.slice none 0 0)] :: .box x1 46 [(.slice a0_0_A a0_0_n a0_0_c), (.slice a0_1_A a0_1_n a0_1_c), (.slice a0_2_A a0_2_n a0_2_c)] :: F) ?_ (fun hD1654 => ?_)
  · rintro x5
    show J _ _ [(2, (pt x2)), (5, (.slice a0_0_A a0_0_n a0_0_c)), (7, (.slice x5 0 0)), (9, (.slice a0_1_A a0_1_n a0_1_c)), (13, (.slice a0_2_A a0_2_n a0_2_c))] _ (.row x5 0 3 1 (ii ([] : List Int)) :: .box x2 46 [(.slice none 0 0), (.slice none 0 0), (.slice none 0 0)] :: .box x1 46 [(.slice a0_0_A a0_0_n a0_0_c), (.slice a0_1_A a0_1_n a0_1_c), (.slice a0_2_A a0_2_n a0_2_c)] :: F)
    refine d_two 0 8 (by kernel_rfl) ?_ ?_
    · refine o_do rfl (a_litX (vs := []) (ii ([] : List Int)) un32 sz3 zr3 rfl rfl rfl rfl rfl rfl rfl rfl rfl) rfl rfl (fun x3 w h => (h.drop 3)) (fun x3 => ?_)
      refine j_rs (.row x3 0 3 1 (ii ([] : List Int)) :: .row x5 0 3 1 (ii ([] : List Int)) :: .box x2 46 [(.slice none 0 0), (.slice none 0 0), (.slice none 0 0)] :: .box x1 46 [(.slice a0_0_A a0_0_n a0_0_c), (.slice a0_1_A a0_1_n a0_1_c), (.slice a0_2_A a0_2_n a0_2_c)] :: F) (fun _ h => h) ?_
      refine j_env [(2, (pt x2)), (3, (.slice x3 0 0)), (5, (.slice a0_0_A a0_0_n a0_0_c)), (7, (.slice x5 0 0)), (9, (.slice a0_1_A a0_1_n a0_1_c)), (13, (.slice a0_2_A a0_2_n a0_2_c))] ⟨rfl, rfl, rfl, rfl, rfl, rfl, trivial⟩ ?_
      exact hD1655 (x3, x5)
    · refine o_do rfl (a_litX (vs := []) (ii ([] : List Int)) un32 sz3 zr3 rfl rfl rfl rfl rfl rfl rfl rfl rfl) rfl rfl (fun x7 w h => (h.drop 3)) (fun x7 => ?_)
      refine j_rs (.row x5 0 3 1 (ii ([] : List Int)) :: .row x7 0 3 1 (ii ([] : List Int)) :: .box x2 46 [(.slice none 0 0), (.slice none 0 0), (.slice none 0 0)] :: .box x1 46 [(.slice a0_0_A a0_0_n a0_0_c), (.slice a0_1_A a0_1_n a0_1_c), (.slice a0_2_A a0_2_n a0_2_c)] :: F) (fun _ h => h.pick 4 [1, 0, 2, 3] rfl) ?_
      refine j_env [(2, (pt x2)), (5, (.slice a0_0_A a0_0_n a0_0_c)), (7, (.slice x5 0 0)), (9, (.slice a0_1_A a0_1_n a0_1_c)), (11, (.slice x7 0 0)), (13, (.slice a0_2_A a0_2_n a0_2_c))] ⟨rfl, rfl, rfl, rfl, rfl, rfl, trivial⟩ ?_
      exact hD1910 (x5, x7)
  refine d_join (σ := (Option Addr)) 7 #[false, true, true, false, false, true, true, false, true, true, true, false, false, false] (fun s => [(2, (pt x2)), (5, (.slice a0_0_A a0_0_n a0_0_c)), (9, (.slice a0_1_A a0_1_n a0_1_c)), (11, (.slice s 0 0)), (13, (.slice a0_2_A a0_2_n a0_2_c))]) (fun s => .row s 0 3 1 (ii ([] : List Int)) :: .box x2 46 [(.slice none 0 0), (.slice none 0 0), (.slice none 0 0)] :: .box x1 46 [(.slice a0_0_A a0_0_n a0_0_c), (.slice a0_1_A a0_1_n a0_1_c), (.slice a0_2_A a0_2_n a0_2_c)] :: F) ?_ (fun hD1894 => ?_)
  · rintro x7
    show J _ _ [(2, (pt x2)), (5, (.slice a0_0_A a0_0_n a0_0_c)), (9, (.slice a0_1_A a0_1_n a0_1_c)), (11, (.slice x7 0 0)), (13, (.slice a0_2_A a0_2_n a0_2_c))] _ (.row x7 0 3 1 (ii ([] : List Int)) :: .box x2 46 [(.slice none 0 0), (.slice none 0 0), (.slice none 0 0)] :: .box x1 46 [(.slice a0_0_A a0_0_n a0_0_c), (.slice a0_1_A a0_1_n a0_1_c), (.slice a0_2_A a0_2_n a0_2_c)] :: F)
    refine d_two 0 4 (by kernel_rfl) ?_ ?_
    · refine o_do rfl (a_litX (vs := []) (ii ([] : List Int)) un32 sz3 zr3 rfl rfl rfl rfl rfl rfl rfl rfl rfl) rfl rfl (fun x3 w h => (h.drop 3)) (fun x3 => ?_)
      refine j_rs (.row x3 0 3 1 (ii ([] : List Int)) :: .row x7 0 3 1 (ii ([] : List Int)) :: .box x2 46 [(.slice none 0 0), (.slice none 0 0), (.slice none 0 0)] :: .box x1 46 [(.slice a0_0_A a0_0_n a0_0_c), (.slice a0_1_A a0_1_n a0_1_c), (.slice a0_2_A a0_2_n a0_2_c)] :: F) (fun _ h => h) ?_
      refine j_env [(2, (pt x2)), (3, (.slice x3 0 0)), (5, (.slice a0_0_A a0_0_n a0_0_c)), (9, (.slice a0_1_A a0_1_n a0_1_c)), (11, (.slice x7 0 0)), (13, (.slice a0_2_A a0_2_n a0_2_c))] ⟨rfl, rfl, rfl, rfl, rfl, rfl, trivial⟩ ?_
      exact hD1895 (x3, x7)
    · refine o_do rfl (a_litX (vs := []) (ii ([] : List Int)) un32 sz3 zr3 rfl rfl rfl rfl rfl rfl rfl rfl rfl) rfl rfl (fun x5 w h => (h.drop 3)) (fun x5 => ?_)
      refine j_rs (.row x5 0 3 1 (ii ([] : List Int)) :: .row x7 0 3 1 (ii ([] : List Int)) :: .box x2 46 [(.slice none 0 0), (.slice none 0 0), (.slice none 0 0)] :: .box x1 46 [(.slice a0_0_A a0_0_n a0_0_c), (.slice a0_1_A a0_1_n a0_1_c), (.slice a0_2_A a0_2_n a0_2_c)] :: F) (fun _ h => h) ?_
      refine j_env [(2, (pt x2)), (5, (.slice a0_0_A a0_0_n a0_0_c)), (7, (.slice x5 0 0)), (9, (.slice a0_1_A a0_1_n a0_1_c)), (11, (.slice x7 0 0)), (13, (.slice a0_2_A a0_2_n a0_2_c))] ⟨rfl, rfl, rfl, rfl, rfl, rfl, trivial⟩ ?_
      exact hD1910 (x5, x7)
  refine d_three 0 4 8 (by kernel_rfl) ?_ ?_ ?_
  · refine o_do rfl (a_litX (vs := []) (ii ([] : List Int)) un32 sz3 zr3 rfl rfl rfl rfl rfl rfl rfl rfl rfl) rfl rfl (fun x3 w h => (h.drop 2)) (fun x3 => ?_)
    refine j_rs (.row x3 0 3 1 (ii ([] : List Int)) :: .box x2 46 [(.slice none 0 0), (.slice none 0 0), (.slice none 0 0)] :: .box x1 46 [(.slice a0_0_A a0_0_n a0_0_c), (.slice a0_1_A a0_1_n a0_1_c), (.slice a0_2_A a0_2_n a0_2_c)] :: F) (fun _ h => h) ?_
    refine j_env [(2, (pt x2)), (3, (.slice x3 0 0)), (5, (.slice a0_0_A a0_0_n a0_0_c)), (9, (.slice a0_1_A a0_1_n a0_1_c)), (13, (.slice a0_2_A a0_2_n a0_2_c))] ⟨rfl, rfl, rfl, rfl, rfl, trivial⟩ ?_
    exact hD1639 x3
  · refine o_do rfl (a_litX (vs := []) (ii ([] : List Int)) un32 sz3 zr3 rfl rfl rfl rfl rfl rfl rfl rfl rfl) rfl rfl (fun x5 w h => (h.drop 2)) (fun x5 => ?_)
    refine j_rs (.row x5 0 3 1 (ii ([] : List Int)) :: .box x2 46 [(.slice none 0 0), (.slice none 0 0), (.slice none 0 0)] :: .box x1 46 [(.slice a0_0_A a0_0_n a0_0_c), (.slice a0_1_A a0_1_n a0_1_c), (.slice a0_2_A a0_2_n a0_2_c)] :: F) (fun _ h => h) ?_
    refine j_env [(2, (pt x2)), (5, (.slice a0_0_A a0_0_n a0_0_c)), (7, (.slice x5 0 0)), (9, (.slice a0_1_A a0_1_n a0_1_c)), (13, (.slice a0_2_A a0_2_n a0_2_c))] ⟨rfl, rfl, rfl, rfl, rfl, trivial⟩ ?_
    exact hD1654 x5
  · refine o_do rfl (a_litX (vs := []) (ii ([] : List Int)) un32 sz3 zr3 rfl rfl rfl rfl rfl rfl rfl rfl rfl) rfl rfl (fun x7 w h => (h.drop 2)) (fun x7 => ?_)
    refine j_rs (.row x7 0 3 1 (ii ([] : List Int)) :: .box x2 46 [(.slice none 0 0), (.slice none 0 0), (.slice none 0 0)] :: .box x1 46 [(.slice a0_0_A a0_0_n a0_0_c), (.slice a0_1_A a0_1_n a0_1_c), (.slice a0_2_A a0_2_n a0_2_c)] :: F) (fun _ h => h) ?_
    refine j_env [(2, (pt x2)), (5, (.slice a0_0_A a0_0_n a0_0_c)), (9, (.slice a0_1_A a0_1_n a0_1_c)), (11, (.slice x7 0 0)), (13, (.slice a0_2_A a0_2_n a0_2_c))] ⟨rfl, rfl, rfl, rfl, rfl, trivial⟩ ?_
    exact hD1894 x7

theorem spec_l1Wrong.calls (K : Nat) (a0_g : Nat) (a0_0 : List Int) (a0_0_A : Option Addr) (a0_0_n a0_0_c : Nat) (a0_1 : Int) (a1_0 : List Int) (a1_0_A : Option Addr) (a1_0_n a1_0_c : Nat) (a1_1 : List Int) (a1_1_A : Option Addr) (a1_1_n a1_1_c : Nat) (a1_2 : List Int) (a1_2_A : Option Addr) (a1_2_n a1_2_c : Nat) {w0 w : World} {F : List Res} {r1 : List Int} {r2 : List Int} {r3 : List Int} {r4 : Int} (hm : Mem w0 (.box a0_g 106 [.slice a0_0_A a0_0_n a0_0_c, i6 a0_1] :: F) w) (a0_0_h : a0_0.length = a0_0_n) (a0_0_R : Rd w0 F a0_0_A (ints .u8 a0_0)) (a1_0_h : a1_0.length = a1_0_n) (a1_0_R : Rd w0 F a1_0_A (ii a1_0)) (a1_1_h : a1_1.length = a1_1_n) (a1_1_R : Rd w0 F a1_1_A (ii a1_1)) (a1_2_h : a1_2.length = a1_2_n) (a1_2_R : Rd w0 F a1_2_A (ii a1_2)) (h : spec_l1Wrong.f K a0_0 a0_1 a1_0 a1_1 a1_2 = some (r1, r2, r3, r4)) :
    Calls Try.prog 107 (List.toArray [pt a0_g, .agg (List.toArray [.slice a1_0_A a1_0_n a1_0_c, .slice a1_1_A a1_1_n a1_1_c, .slice a1_2_A a1_2_n a1_2_c])]) w fun e w' => ∃ x : (Sl r1.length) × (Sl r2.length) × (Sl r3.length), e = .returned (.agg (List.toArray [.slice x.1.A x.1.n x.1.c, .slice x.2.1.A x.2.1.n x.2.1.c, .slice x.2.2.A x.2.2.n x.2.2.c])) ∧ Mem w0 (.row x.1.A x.1.c 3 1 (ii r1) :: .row x.2.1.A x.2.1.c 3 1 (ii r2) :: .row x.2.2.A x.2.2.c 3 1 (ii r3) :: .box a0_g 106 [.slice a0_0_A a0_0_n a0_0_c, i6 r4] :: F) w' := by
  unfold spec_l1Wrong.f at h
  refine calls_of_J (n := 45) Try.func107 rfl rfl rfl hm ?_
  refine j_seq ?_
  refine j_region ?_
  refine r_do (a_box rfl rfl) rfl rfl (fun x1 => ?_)
  refine r_do (a_alloc zr46 rfl) rfl rfl (fun x2 => ?_)
  refine r_nil ?_
  refine j_then ?_
  refine j_seq ?_
  refine j_region ?_
  refine r_q (q_loadb_agg 1 rfl ag46 sz46 rfl rfl rfl rfl) rfl rfl ?_
  obtain ⟨v1, v2, v3, hb1, h⟩ := of_b3 h
  refine r_do (a_call ok94 rfl rfl rfl rfl (fun w hm => spec_l1Copy.calls K a1_0 a1_0_A a1_0_n a1_0_c a1_1 a1_1_A a1_1_n a1_1_c a1_2 a1_2_A a1_2_n a1_2_c hm a1_0_h (Rd.drop 3 a1_0_R) a1_1_h (Rd.drop 3 a1_1_R) a1_2_h (Rd.drop 3 a1_2_R) hb1)) rfl rfl (fun x3 => ?_)
  refine r_do (a_alloc zr46 rfl) rfl rfl (fun x4 => ?_)
  refine r_do (a_storeb 0 rfl sz46 rfl rfl rfl rfl (Nat.le_of_ble_eq_true rfl) rfl) rfl rfl (fun _ => ?_)
  refine j_b0 [(.slice x3.1.A x3.1.n x3.1.c), (.slice x3.2.1.A x3.2.1.n x3.2.1.c), (.slice x3.2.2.A x3.2.2.n x3.2.2.c)] rfl ?_
  refine r_nil ?_
  refine j_then ?_
  refine j_seq ?_
  refine j_seq ?_
  refine j_region ?_
  refine r_q (q_move rfl rfl) rfl rfl ?_
  obtain ⟨v4, v5, hb2, h⟩ := of_b2 h
  refine j_rs (.box a0_g 106 [(.slice a0_0_A a0_0_n a0_0_c), (i6 a0_1)] :: .box x4 46 [(.slice x3.1.A x3.1.n x3.1.c), (.slice x3.2.1.A x3.2.1.n x3.2.1.c), (.slice x3.2.2.A x3.2.2.n x3.2.2.c)] :: .row x3.1.A x3.1.c 3 1 (ii v1) :: .row x3.2.1.A x3.2.1.c 3 1 (ii v2) :: .row x3.2.2.A x3.2.2.c 3 1 (ii v3) :: .box x2 46 [(.slice none 0 0), (.slice none 0 0), (.slice none 0 0)] :: .box x1 46 [(.slice a1_0_A a1_0_n a1_0_c), (.slice a1_1_A a1_1_n a1_1_c), (.slice a1_2_A a1_2_n a1_2_c)] :: F) (fun _ h => h.pick 7 [6, 0, 1, 2, 3, 4, 5] rfl) ?_
  refine r_do (a_call ok68 rfl rfl rfl rfl (fun w hm => spec_l13Rd_pick.calls K a0_g a0_0 a0_0_A a0_0_n a0_0_c a0_1 (20:Int) hm a0_0_h (Rd.drop 6 a0_0_R) hb2)) rfl rfl (fun x5 => ?_)
  refine r_nil ?_
  refine j_then ?_
  refine j_block ?_
  refine j_seq ?_
  refine j_region ?_
  refine r_q (q_eql rfl rfl rfl) rfl rfl ?_
  refine r_q (q_assign rfl rfl) rfl rfl ?_
  refine r_nil ?_
  refine j_then ?_
  rcases of_if h with ⟨c1, h⟩ | ⟨c1, h⟩
  · refine j_true rfl (beq_t c1) ?_
    obtain ⟨v6, v7, hb3, h⟩ := of_b2 h
    obtain ⟨v8, v9, hb4, h⟩ := of_b2 h
    obtain ⟨c2, h⟩ := of_guard h
    refine j_draw (.box x4 46 [(.slice x3.1.A x3.1.n x3.1.c), (.slice x3.2.1.A x3.2.1.n x3.2.1.c), (.slice x3.2.2.A x3.2.2.n x3.2.2.c)] :: .row x3.2.1.A x3.2.1.c 3 1 (ii v2) :: .row x3.2.2.A x3.2.2.c 3 1 (ii v3) :: .box x2 46 [(.slice none 0 0), (.slice none 0 0), (.slice none 0 0)] :: .box x1 46 [(.slice a1_0_A a1_0_n a1_0_c), (.slice a1_1_A a1_1_n a1_1_c), (.slice a1_2_A a1_2_n a1_2_c)] :: F) 12 follows_any rfl ?_
    refine d_take 0 rfl (q_fieldAddr fi46_0 sz32 rfl rfl rfl) rfl rfl (by kernel_rfl) (by kernel_rfl) (by kernel_rfl) (fun w h => h.pick 7 [1, 3, 4, 5, 6] rfl) ?_
    refine d_take 1 rfl (q_loadb 0 rfl ag32 rfl rfl rfl) rfl rfl (by kernel_rfl) (by kernel_rfl) (by kernel_rfl) (fun w h => h.pick 7 [1, 3, 4, 5, 6] rfl) ?_
    refine d_take 2 rfl (q_move rfl rfl) rfl rfl (by kernel_rfl) (by kernel_rfl) (by kernel_rfl) (fun w h => h.pick 7 [1, 3, 4, 5, 6] rfl) ?_
    refine d_take 3 rfl (q_fieldAddr fi46_0 sz32 rfl rfl rfl) rfl rfl (by kernel_rfl) (by kernel_rfl) (by kernel_rfl) (fun w h => h.pick 7 [1, 3, 4, 5, 6] rfl) ?_
    refine d_take 4 rfl (q_loadb 0 rfl ag32 rfl rfl rfl) rfl rfl (by kernel_rfl) (by kernel_rfl) (by kernel_rfl) (fun w h => h.pick 7 [1, 3, 4, 5, 6] rfl) ?_
    refine d_take 5 rfl (q_lenX v1 x3.1.h un32 rfl rfl rfl rfl rfl) rfl rfl (by kernel_rfl) (by kernel_rfl) (by kernel_rfl) (fun w h => h.pick 7 [1, 3, 4, 5, 6] rfl) ?_
    refine d_take 7 rfl (q_move rfl rfl) rfl rfl (by kernel_rfl) (by kernel_rfl) (by kernel_rfl) (fun w h => h.pick 7 [1, 3, 4, 5, 6] rfl) ?_
    refine d_join (σ := Unit × (Option Addr) × Unit) 0 #[true, true, true, true, true, true, true, true, true, true, true, true] (fun s => [(4, (pt x2)), (5, (pt x4))]) (fun s => .row s.2.1 3 3 1 (ii ([(-2:Int), (8:Int), (0:Int)] : List Int)) :: .box a0_g 106 [(.slice a0_0_A a0_0_n a0_0_c), (i6 v9)] :: .box x4 46 [(.slice x3.1.A x3.1.n x3.1.c), (.slice x3.2.1.A x3.2.1.n x3.2.1.c), (.slice x3.2.2.A x3.2.2.n x3.2.2.c)] :: .row x3.1.A x3.1.c 3 1 (ii (v1.set v6.toNat v8)) :: .row x3.2.1.A x3.2.1.c 3 1 (ii v2) :: .row x3.2.2.A x3.2.2.c 3 1 (ii v3) :: .box x2 46 [(.slice none 0 0), (.slice none 0 0), (.slice none 0 0)] :: .box x1 46 [(.slice a1_0_A a1_0_n a1_0_c), (.slice a1_1_A a1_1_n a1_1_c), (.slice a1_2_A a1_2_n a1_2_c)] :: F) ?_ (fun hD4095 => ?_)
    · rintro ⟨x6, x7, x8⟩
      show J _ _ [(4, (pt x2)), (5, (pt x4))] _ (.row x7 3 3 1 (ii ([(-2:Int), (8:Int), (0:Int)] : List Int)) :: .box a0_g 106 [(.slice a0_0_A a0_0_n a0_0_c), (i6 v9)] :: .box x4 46 [(.slice x3.1.A x3.1.n x3.1.c), (.slice x3.2.1.A x3.2.1.n x3.2.1.c), (.slice x3.2.2.A x3.2.2.n x3.2.2.c)] :: .row x3.1.A x3.1.c 3 1 (ii (v1.set v6.toNat v8)) :: .row x3.2.1.A x3.2.1.c 3 1 (ii v2) :: .row x3.2.2.A x3.2.2.c 3 1 (ii v3) :: .box x2 46 [(.slice none 0 0), (.slice none 0 0), (.slice none 0 0)] :: .box x1 46 [(.slice a1_0_A a1_0_n a1_0_c), (.slice a1_1_A a1_1_n a1_1_c), (.slice a1_2_A a1_2_n a1_2_c)] :: F)
      refine d_done (by kernel_rfl) ?_
      refine j_in ?_
      refine j_then ?_
      refine j_seq ?_
      refine j_region ?_
      refine r_q (q_loadb_agg 2 rfl ag46 sz46 rfl rfl rfl rfl) rfl rfl ?_
      refine r_do (a_storeb 6 rfl sz46 rfl rfl rfl rfl (Nat.le_of_ble_eq_true rfl) rfl) rfl rfl (fun _ => ?_)
      refine j_b6 [(.slice x3.1.A x3.1.n x3.1.c), (.slice x3.2.1.A x3.2.1.n x3.2.1.c), (.slice x3.2.2.A x3.2.2.n x3.2.2.c)] rfl ?_
      refine r_nil ?_
      refine j_then ?_
      refine j_ret ?_
      cases h
      exact j_return rfl (ResOf.cell 6 rfl rfl ag46 sz46 ResOf.nil) rfl (fun w h => ⟨(⟨x3.1.A, x3.1.n, x3.1.c, (set_len x3.1.h _ _)⟩, ⟨x3.2.1.A, x3.2.1.n, x3.2.1.c, x3.2.1.h⟩, ⟨x3.2.2.A, x3.2.2.n, x3.2.2.c, x3.2.2.h⟩), rfl, h.pick 8 [3, 4, 5, 1] rfl⟩)
    refine d_join (σ := Unit × (Option Addr) × Unit) 1 #[true, true, true, true, true, true, true, true, true, true, true, false] (fun s => [(4, (pt x2)), (5, (pt x4)), (21, (i6 v8)), (22, (.pointer (x3.1.A.map (·.add (v6.toNat * 1)))))]) (fun s => .row s.2.1 3 3 1 (ii ([(-2:Int), (8:Int), (0:Int)] : List Int)) :: .box a0_g 106 [(.slice a0_0_A a0_0_n a0_0_c), (i6 v9)] :: .box x4 46 [(.slice x3.1.A x3.1.n x3.1.c), (.slice x3.2.1.A x3.2.1.n x3.2.1.c), (.slice x3.2.2.A x3.2.2.n x3.2.2.c)] :: .row x3.1.A x3.1.c 3 1 (ii v1) :: .row x3.2.1.A x3.2.1.c 3 1 (ii v2) :: .row x3.2.2.A x3.2.2.c 3 1 (ii v3) :: .box x2 46 [(.slice none 0 0), (.slice none 0 0), (.slice none 0 0)] :: .box x1 46 [(.slice a1_0_A a1_0_n a1_0_c), (.slice a1_1_A a1_1_n a1_1_c), (.slice a1_2_A a1_2_n a1_2_c)] :: F) ?_ (fun hD2047 => ?_)
    · rintro ⟨x6, x7, x8⟩
      show J _ _ [(4, (pt x2)), (5, (pt x4)), (21, (i6 v8)), (22, (.pointer (x3.1.A.map (·.add (v6.toNat * 1)))))] _ (.row x7 3 3 1 (ii ([(-2:Int), (8:Int), (0:Int)] : List Int)) :: .box a0_g 106 [(.slice a0_0_A a0_0_n a0_0_c), (i6 v9)] :: .box x4 46 [(.slice x3.1.A x3.1.n x3.1.c), (.slice x3.2.1.A x3.2.1.n x3.2.1.c), (.slice x3.2.2.A x3.2.2.n x3.2.2.c)] :: .row x3.1.A x3.1.c 3 1 (ii v1) :: .row x3.2.1.A x3.2.1.c 3 1 (ii v2) :: .row x3.2.2.A x3.2.2.c 3 1 (ii v3) :: .box x2 46 [(.slice none 0 0), (.slice none 0 0), (.slice none 0 0)] :: .box x1 46 [(.slice a1_0_A a1_0_n a1_0_c), (.slice a1_1_A a1_1_n a1_1_c), (.slice a1_2_A a1_2_n a1_2_c)] :: F)
      refine d_one 11 (by kernel_rfl) ?_
      · refine o_do rfl (a_stI 3 rfl c2 sz3 rfl rfl rfl) rfl rfl (fun _ w h => h.pick 8 [2, 4, 5, 6, 7] rfl) (fun _ => ?_)
        refine j_s3 ?_
        refine j_rs (.row x7 3 3 1 (ii ([(-2:Int), (8:Int), (0:Int)] : List Int)) :: .box a0_g 106 [(.slice a0_0_A a0_0_n a0_0_c), (i6 v9)] :: .box x4 46 [(.slice x3.1.A x3.1.n x3.1.c), (.slice x3.2.1.A x3.2.1.n x3.2.1.c), (.slice x3.2.2.A x3.2.2.n x3.2.2.c)] :: .row x3.1.A x3.1.c 3 1 (ii (v1.set v6.toNat v8)) :: .row x3.2.1.A x3.2.1.c 3 1 (ii v2) :: .row x3.2.2.A x3.2.2.c 3 1 (ii v3) :: .box x2 46 [(.slice none 0 0), (.slice none 0 0), (.slice none 0 0)] :: .box x1 46 [(.slice a1_0_A a1_0_n a1_0_c), (.slice a1_1_A a1_1_n a1_1_c), (.slice a1_2_A a1_2_n a1_2_c)] :: F) (fun _ h => h) ?_
        refine j_env [(4, (pt x2)), (5, (pt x4))] ⟨rfl, rfl, trivial⟩ ?_
        exact hD4095 (x6, x7, x8)
    refine d_join (σ := Unit × (Option Addr) × Unit) 2 #[true, true, true, true, true, true, true, true, true, true, false, false] (fun s => [(4, (pt x2)), (5, (pt x4)), (13, (.slice x3.1.A x3.1.n x3.1.c)), (18, (i6 v6)), (21, (i6 v8))]) (fun s => .row s.2.1 3 3 1 (ii ([(-2:Int), (8:Int), (0:Int)] : List Int)) :: .box a0_g 106 [(.slice a0_0_A a0_0_n a0_0_c), (i6 v9)] :: .box x4 46 [(.slice x3.1.A x3.1.n x3.1.c), (.slice x3.2.1.A x3.2.1.n x3.2.1.c), (.slice x3.2.2.A x3.2.2.n x3.2.2.c)] :: .row x3.1.A x3.1.c 3 1 (ii v1) :: .row x3.2.1.A x3.2.1.c 3 1 (ii v2) :: .row x3.2.2.A x3.2.2.c 3 1 (ii v3) :: .box x2 46 [(.slice none 0 0), (.slice none 0 0), (.slice none 0 0)] :: .box x1 46 [(.slice a1_0_A a1_0_n a1_0_c), (.slice a1_1_A a1_1_n a1_1_c), (.slice a1_2_A a1_2_n a1_2_c)] :: F) ?_ (fun hD1023 => ?_)
    · rintro ⟨x6, x7, x8⟩
      show J _ _ [(4, (pt x2)), (5, (pt x4)), (13, (.slice x3.1.A x3.1.n x3.1.c)), (18, (i6 v6)), (21, (i6 v8))] _ (.row x7 3 3 1 (ii ([(-2:Int), (8:Int), (0:Int)] : List Int)) :: .box a0_g 106 [(.slice a0_0_A a0_0_n a0_0_c), (i6 v9)] :: .box x4 46 [(.slice x3.1.A x3.1.n x3.1.c), (.slice x3.2.1.A x3.2.1.n x3.2.1.c), (.slice x3.2.2.A x3.2.2.n x3.2.2.c)] :: .row x3.1.A x3.1.c 3 1 (ii v1) :: .row x3.2.1.A x3.2.1.c 3 1 (ii v2) :: .row x3.2.2.A x3.2.2.c 3 1 (ii v3) :: .box x2 46 [(.slice none 0 0), (.slice none 0 0), (.slice none 0 0)] :: .box x1 46 [(.slice a1_0_A a1_0_n a1_0_c), (.slice a1_1_A a1_1_n a1_1_c), (.slice a1_2_A a1_2_n a1_2_c)] :: F)
      refine d_one 10 (by kernel_rfl) ?_
      · refine o_do rfl ((q_ix (Rd.row 3 rfl) (ints_len1 _ v1) (by decide) x3.1.h c2 un32 sz3 rfl rfl rfl)).acts rfl rfl (fun _ w h => h.pick 8 [2, 4, 5, 6, 7] rfl) (fun _ => ?_)
        refine j_rs (.row x7 3 3 1 (ii ([(-2:Int), (8:Int), (0:Int)] : List Int)) :: .box a0_g 106 [(.slice a0_0_A a0_0_n a0_0_c), (i6 v9)] :: .box x4 46 [(.slice x3.1.A x3.1.n x3.1.c), (.slice x3.2.1.A x3.2.1.n x3.2.1.c), (.slice x3.2.2.A x3.2.2.n x3.2.2.c)] :: .row x3.1.A x3.1.c 3 1 (ii v1) :: .row x3.2.1.A x3.2.1.c 3 1 (ii v2) :: .row x3.2.2.A x3.2.2.c 3 1 (ii v3) :: .box x2 46 [(.slice none 0 0), (.slice none 0 0), (.slice none 0 0)] :: .box x1 46 [(.slice a1_0_A a1_0_n a1_0_c), (.slice a1_1_A a1_1_n a1_1_c), (.slice a1_2_A a1_2_n a1_2_c)] :: F) (fun _ h => h) ?_
        refine j_env [(4, (pt x2)), (5, (pt x4)), (21, (i6 v8)), (22, (.pointer (x3.1.A.map (·.add (v6.toNat * 1)))))] ⟨rfl, rfl, rfl, rfl, trivial⟩ ?_
        exact hD2047 (x6, x7, x8)
    refine d_join (σ := Unit × (Option Addr)) 3 #[true, true, true, true, true, true, true, true, true, false, false, false] (fun s => [(4, (pt x2)), (5, (pt x4)), (13, (.slice x3.1.A x3.1.n x3.1.c)), (18, (i6 v6)), (19, (pt a0_g)), (20, (.slice s.2 3 3))]) (fun s => .row s.2 3 3 1 (ii ([(-2:Int), (8:Int), (0:Int)] : List Int)) :: .box a0_g 106 [(.slice a0_0_A a0_0_n a0_0_c), (i6 v7)] :: .box x4 46 [(.slice x3.1.A x3.1.n x3.1.c), (.slice x3.2.1.A x3.2.1.n x3.2.1.c), (.slice x3.2.2.A x3.2.2.n x3.2.2.c)] :: .row x3.1.A x3.1.c 3 1 (ii v1) :: .row x3.2.1.A x3.2.1.c 3 1 (ii v2) :: .row x3.2.2.A x3.2.2.c 3 1 (ii v3) :: .box x2 46 [(.slice none 0 0), (.slice none 0 0), (.slice none 0 0)] :: .box x1 46 [(.slice a1_0_A a1_0_n a1_0_c), (.slice a1_1_A a1_1_n a1_1_c), (.slice a1_2_A a1_2_n a1_2_c)] :: F) ?_ (fun hD511 => ?_)
    · rintro ⟨x6, x7⟩
      show J _ _ [(4, (pt x2)), (5, (pt x4)), (13, (.slice x3.1.A x3.1.n x3.1.c)), (18, (i6 v6)), (19, (pt a0_g)), (20, (.slice x7 3 3))] _ (.row x7 3 3 1 (ii ([(-2:Int), (8:Int), (0:Int)] : List Int)) :: .box a0_g 106 [(.slice a0_0_A a0_0_n a0_0_c), (i6 v7)] :: .box x4 46 [(.slice x3.1.A x3.1.n x3.1.c), (.slice x3.2.1.A x3.2.1.n x3.2.1.c), (.slice x3.2.2.A x3.2.2.n x3.2.2.c)] :: .row x3.1.A x3.1.c 3 1 (ii v1) :: .row x3.2.1.A x3.2.1.c 3 1 (ii v2) :: .row x3.2.2.A x3.2.2.c 3 1 (ii v3) :: .box x2 46 [(.slice none 0 0), (.slice none 0 0), (.slice none 0 0)] :: .box x1 46 [(.slice a1_0_A a1_0_n a1_0_c), (.slice a1_1_A a1_1_n a1_1_c), (.slice a1_2_A a1_2_n a1_2_c)] :: F)
      refine d_one 9 (by kernel_rfl) ?_
      · refine j_rs (.box a0_g 106 [(.slice a0_0_A a0_0_n a0_0_c), (i6 v7)] :: .row x7 3 3 1 (ii ([(-2:Int), (8:Int), (0:Int)] : List Int)) :: .box x4 46 [(.slice x3.1.A x3.1.n x3.1.c), (.slice x3.2.1.A x3.2.1.n x3.2.1.c), (.slice x3.2.2.A x3.2.2.n x3.2.2.c)] :: .row x3.1.A x3.1.c 3 1 (ii v1) :: .row x3.2.1.A x3.2.1.c 3 1 (ii v2) :: .row x3.2.2.A x3.2.2.c 3 1 (ii v3) :: .box x2 46 [(.slice none 0 0), (.slice none 0 0), (.slice none 0 0)] :: .box x1 46 [(.slice a1_0_A a1_0_n a1_0_c), (.slice a1_1_A a1_1_n a1_1_c), (.slice a1_2_A a1_2_n a1_2_c)] :: F) (fun _ h => h.pick 8 [1, 0, 2, 3, 4, 5, 6, 7] rfl) ?_
        refine o_do rfl (a_call ok69 rfl rfl rfl rfl (fun w hm => spec_l13Rd_num.calls K a0_g a0_0 a0_0_A a0_0_n a0_0_c v7 ([(-2:Int), (8:Int), (0:Int)] : List Int) x7 3 3 hm a0_0_h (Rd.drop 7 a0_0_R) rfl (Rd.row 0 rfl) hb4)) rfl rfl (fun x8 w h => h.pick 8 [2, 4, 5, 6, 7] rfl) (fun x8 => ?_)
        refine j_rs (.row x7 3 3 1 (ii ([(-2:Int), (8:Int), (0:Int)] : List Int)) :: .box a0_g 106 [(.slice a0_0_A a0_0_n a0_0_c), (i6 v9)] :: .box x4 46 [(.slice x3.1.A x3.1.n x3.1.c), (.slice x3.2.1.A x3.2.1.n x3.2.1.c), (.slice x3.2.2.A x3.2.2.n x3.2.2.c)] :: .row x3.1.A x3.1.c 3 1 (ii v1) :: .row x3.2.1.A x3.2.1.c 3 1 (ii v2) :: .row x3.2.2.A x3.2.2.c 3 1 (ii v3) :: .box x2 46 [(.slice none 0 0), (.slice none 0 0), (.slice none 0 0)] :: .box x1 46 [(.slice a1_0_A a1_0_n a1_0_c), (.slice a1_1_A a1_1_n a1_1_c), (.slice a1_2_A a1_2_n a1_2_c)] :: F) (fun _ h => h.pick 8 [1, 0, 2, 3, 4, 5, 6, 7] rfl) ?_
        refine j_env [(4, (pt x2)), (5, (pt x4)), (13, (.slice x3.1.A x3.1.n x3.1.c)), (18, (i6 v6)), (21, (i6 v8))] ⟨rfl, rfl, rfl, rfl, rfl, trivial⟩ ?_
        exact hD1023 (x6, x7, x8)
    refine d_join (σ := Unit) 4 #[true, true, true, true, true, true, true, true, false, false, false, false] (fun s => [(4, (pt x2)), (5, (pt x4)), (13, (.slice x3.1.A x3.1.n x3.1.c)), (18, (i6 v6)), (19, (pt a0_g))]) (fun s => .box a0_g 106 [(.slice a0_0_A a0_0_n a0_0_c), (i6 v7)] :: .box x4 46 [(.slice x3.1.A x3.1.n x3.1.c), (.slice x3.2.1.A x3.2.1.n x3.2.1.c), (.slice x3.2.2.A x3.2.2.n x3.2.2.c)] :: .row x3.1.A x3.1.c 3 1 (ii v1) :: .row x3.2.1.A x3.2.1.c 3 1 (ii v2) :: .row x3.2.2.A x3.2.2.c 3 1 (ii v3) :: .box x2 46 [(.slice none 0 0), (.slice none 0 0), (.slice none 0 0)] :: .box x1 46 [(.slice a1_0_A a1_0_n a1_0_c), (.slice a1_1_A a1_1_n a1_1_c), (.slice a1_2_A a1_2_n a1_2_c)] :: F) ?_ (fun hD255 => ?_)
    · rintro x6
      show J _ _ [(4, (pt x2)), (5, (pt x4)), (13, (.slice x3.1.A x3.1.n x3.1.c)), (18, (i6 v6)), (19, (pt a0_g))] _ (.box a0_g 106 [(.slice a0_0_A a0_0_n a0_0_c), (i6 v7)] :: .box x4 46 [(.slice x3.1.A x3.1.n x3.1.c), (.slice x3.2.1.A x3.2.1.n x3.2.1.c), (.slice x3.2.2.A x3.2.2.n x3.2.2.c)] :: .row x3.1.A x3.1.c 3 1 (ii v1) :: .row x3.2.1.A x3.2.1.c 3 1 (ii v2) :: .row x3.2.2.A x3.2.2.c 3 1 (ii v3) :: .box x2 46 [(.slice none 0 0), (.slice none 0 0), (.slice none 0 0)] :: .box x1 46 [(.slice a1_0_A a1_0_n a1_0_c), (.slice a1_1_A a1_1_n a1_1_c), (.slice a1_2_A a1_2_n a1_2_c)] :: F)
      refine d_one 8 (by kernel_rfl) ?_
      · refine o_do rfl (a_litX (vs := [(i6 (-2:Int)), (i6 (8:Int)), (i6 (0:Int))]) (ii ([(-2:Int), (8:Int), (0:Int)] : List Int)) un32 sz3 zr3 rfl rfl rfl rfl rfl rfl rfl rfl rfl) rfl rfl (fun x7 w h => h.pick 8 [2, 4, 5, 6, 7] rfl) (fun x7 => ?_)
        refine j_rs (.row x7 3 3 1 (ii ([(-2:Int), (8:Int), (0:Int)] : List Int)) :: .box a0_g 106 [(.slice a0_0_A a0_0_n a0_0_c), (i6 v7)] :: .box x4 46 [(.slice x3.1.A x3.1.n x3.1.c), (.slice x3.2.1.A x3.2.1.n x3.2.1.c), (.slice x3.2.2.A x3.2.2.n x3.2.2.c)] :: .row x3.1.A x3.1.c 3 1 (ii v1) :: .row x3.2.1.A x3.2.1.c 3 1 (ii v2) :: .row x3.2.2.A x3.2.2.c 3 1 (ii v3) :: .box x2 46 [(.slice none 0 0), (.slice none 0 0), (.slice none 0 0)] :: .box x1 46 [(.slice a1_0_A a1_0_n a1_0_c), (.slice a1_1_A a1_1_n a1_1_c), (.slice a1_2_A a1_2_n a1_2_c)] :: F) (fun _ h => h) ?_
        refine j_env [(4, (pt x2)), (5, (pt x4)), (13, (.slice x3.1.A x3.1.n x3.1.c)), (18, (i6 v6)), (19, (pt a0_g)), (20, (.slice x7 3 3))] ⟨rfl, rfl, rfl, rfl, rfl, rfl, trivial⟩ ?_
        exact hD511 (x6, x7)
    refine d_join (σ := (Option Addr)) 4 #[true, true, true, true, true, true, false, true, true, false, false, false] (fun s => [(4, (pt x2)), (5, (pt x4)), (13, (.slice x3.1.A x3.1.n x3.1.c)), (14, (pt a0_g)), (17, (i6 (v1.length : Int))), (19, (pt a0_g)), (20, (.slice s 3 3))]) (fun s => .row s 3 3 1 (ii ([(-2:Int), (8:Int), (0:Int)] : List Int)) :: .box a0_g 106 [(.slice a0_0_A a0_0_n a0_0_c), (i6 v5)] :: .box x4 46 [(.slice x3.1.A x3.1.n x3.1.c), (.slice x3.2.1.A x3.2.1.n x3.2.1.c), (.slice x3.2.2.A x3.2.2.n x3.2.2.c)] :: .row x3.1.A x3.1.c 3 1 (ii v1) :: .row x3.2.1.A x3.2.1.c 3 1 (ii v2) :: .row x3.2.2.A x3.2.2.c 3 1 (ii v3) :: .box x2 46 [(.slice none 0 0), (.slice none 0 0), (.slice none 0 0)] :: .box x1 46 [(.slice a1_0_A a1_0_n a1_0_c), (.slice a1_1_A a1_1_n a1_1_c), (.slice a1_2_A a1_2_n a1_2_c)] :: F) ?_ (fun hD447 => ?_)
    · rintro x7
      show J _ _ [(4, (pt x2)), (5, (pt x4)), (13, (.slice x3.1.A x3.1.n x3.1.c)), (14, (pt a0_g)), (17, (i6 (v1.length : Int))), (19, (pt a0_g)), (20, (.slice x7 3 3))] _ (.row x7 3 3 1 (ii ([(-2:Int), (8:Int), (0:Int)] : List Int)) :: .box a0_g 106 [(.slice a0_0_A a0_0_n a0_0_c), (i6 v5)] :: .box x4 46 [(.slice x3.1.A x3.1.n x3.1.c), (.slice x3.2.1.A x3.2.1.n x3.2.1.c), (.slice x3.2.2.A x3.2.2.n x3.2.2.c)] :: .row x3.1.A x3.1.c 3 1 (ii v1) :: .row x3.2.1.A x3.2.1.c 3 1 (ii v2) :: .row x3.2.2.A x3.2.2.c 3 1 (ii v3) :: .box x2 46 [(.slice none 0 0), (.slice none 0 0), (.slice none 0 0)] :: .box x1 46 [(.slice a1_0_A a1_0_n a1_0_c), (.slice a1_1_A a1_1_n a1_1_c), (.slice a1_2_A a1_2_n a1_2_c)] :: F)
      refine d_one 6 (by kernel_rfl) ?_
      · refine j_rs (.box a0_g 106 [(.slice a0_0_A a0_0_n a0_0_c), (i6 v5)] :: .row x7 3 3 1 (ii ([(-2:Int), (8:Int), (0:Int)] : List Int)) :: .box x4 46 [(.slice x3.1.A x3.1.n x3.1.c), (.slice x3.2.1.A x3.2.1.n x3.2.1.c), (.slice x3.2.2.A x3.2.2.n x3.2.2.c)] :: .row x3.1.A x3.1.c 3 1 (ii v1) :: .row x3.2.1.A x3.2.1.c 3 1 (ii v2) :: .row x3.2.2.A x3.2.2.c 3 1 (ii v3) :: .box x2 46 [(.slice none 0 0), (.slice none 0 0), (.slice none 0 0)] :: .box x1 46 [(.slice a1_0_A a1_0_n a1_0_c), (.slice a1_1_A a1_1_n a1_1_c), (.slice a1_2_A a1_2_n a1_2_c)] :: F) (fun _ h => h.pick 8 [1, 0, 2, 3, 4, 5, 6, 7] rfl) ?_
        refine o_do rfl (a_call ok68 rfl rfl rfl rfl (fun w hm => spec_l13Rd_pick.calls K a0_g a0_0 a0_0_A a0_0_n a0_0_c v5 (v1.length : Int) hm a0_0_h (Rd.drop 7 a0_0_R) hb3)) rfl rfl (fun x6 w h => h.pick 8 [2, 4, 5, 6, 7] rfl) (fun x6 => ?_)
        refine j_rs (.row x7 3 3 1 (ii ([(-2:Int), (8:Int), (0:Int)] : List Int)) :: .box a0_g 106 [(.slice a0_0_A a0_0_n a0_0_c), (i6 v7)] :: .box x4 46 [(.slice x3.1.A x3.1.n x3.1.c), (.slice x3.2.1.A x3.2.1.n x3.2.1.c), (.slice x3.2.2.A x3.2.2.n x3.2.2.c)] :: .row x3.1.A x3.1.c 3 1 (ii v1) :: .row x3.2.1.A x3.2.1.c 3 1 (ii v2) :: .row x3.2.2.A x3.2.2.c 3 1 (ii v3) :: .box x2 46 [(.slice none 0 0), (.slice none 0 0), (.slice none 0 0)] :: .box x1 46 [(.slice a1_0_A a1_0_n a1_0_c), (.slice a1_1_A a1_1_n a1_1_c), (.slice a1_2_A a1_2_n a1_2_c)] :: F) (fun _ h => h.pick 8 [1, 0, 2, 3, 4, 5, 6, 7] rfl) ?_
        refine j_env [(4, (pt x2)), (5, (pt x4)), (13, (.slice x3.1.A x3.1.n x3.1.c)), (18, (i6 v6)), (19, (pt a0_g)), (20, (.slice x7 3 3))] ⟨rfl, rfl, rfl, rfl, rfl, rfl, trivial⟩ ?_
        exact hD511 (x6, x7)
    refine d_two 6 8 (by kernel_rfl) ?_ ?_
    · refine o_do rfl (a_call ok68 rfl rfl rfl rfl (fun w hm => spec_l13Rd_pick.calls K a0_g a0_0 a0_0_A a0_0_n a0_0_c v5 (v1.length : Int) hm a0_0_h (Rd.drop 6 a0_0_R) hb3)) rfl rfl (fun x6 w h => h.pick 7 [1, 3, 4, 5, 6] rfl) (fun x6 => ?_)
      refine j_rs (.box a0_g 106 [(.slice a0_0_A a0_0_n a0_0_c), (i6 v7)] :: .box x4 46 [(.slice x3.1.A x3.1.n x3.1.c), (.slice x3.2.1.A x3.2.1.n x3.2.1.c), (.slice x3.2.2.A x3.2.2.n x3.2.2.c)] :: .row x3.1.A x3.1.c 3 1 (ii v1) :: .row x3.2.1.A x3.2.1.c 3 1 (ii v2) :: .row x3.2.2.A x3.2.2.c 3 1 (ii v3) :: .box x2 46 [(.slice none 0 0), (.slice none 0 0), (.slice none 0 0)] :: .box x1 46 [(.slice a1_0_A a1_0_n a1_0_c), (.slice a1_1_A a1_1_n a1_1_c), (.slice a1_2_A a1_2_n a1_2_c)] :: F) (fun _ h => h) ?_
      refine j_env [(4, (pt x2)), (5, (pt x4)), (13, (.slice x3.1.A x3.1.n x3.1.c)), (18, (i6 v6)), (19, (pt a0_g))] ⟨rfl, rfl, rfl, rfl, rfl, trivial⟩ ?_
      exact hD255 x6
    · refine o_do rfl (a_litX (vs := [(i6 (-2:Int)), (i6 (8:Int)), (i6 (0:Int))]) (ii ([(-2:Int), (8:Int), (0:Int)] : List Int)) un32 sz3 zr3 rfl rfl rfl rfl rfl rfl rfl rfl rfl) rfl rfl (fun x7 w h => h.pick 8 [2, 4, 5, 6, 7] rfl) (fun x7 => ?_)
      refine j_rs (.row x7 3 3 1 (ii ([(-2:Int), (8:Int), (0:Int)] : List Int)) :: .box a0_g 106 [(.slice a0_0_A a0_0_n a0_0_c), (i6 v5)] :: .box x4 46 [(.slice x3.1.A x3.1.n x3.1.c), (.slice x3.2.1.A x3.2.1.n x3.2.1.c), (.slice x3.2.2.A x3.2.2.n x3.2.2.c)] :: .row x3.1.A x3.1.c 3 1 (ii v1) :: .row x3.2.1.A x3.2.1.c 3 1 (ii v2) :: .row x3.2.2.A x3.2.2.c 3 1 (ii v3) :: .box x2 46 [(.slice none 0 0), (.slice none 0 0), (.slice none 0 0)] :: .box x1 46 [(.slice a1_0_A a1_0_n a1_0_c), (.slice a1_1_A a1_1_n a1_1_c), (.slice a1_2_A a1_2_n a1_2_c)] :: F) (fun _ h => h) ?_
      refine j_env [(4, (pt x2)), (5, (pt x4)), (13, (.slice x3.1.A x3.1.n x3.1.c)), (14, (pt a0_g)), (17, (i6 (v1.length : Int))), (19, (pt a0_g)), (20, (.slice x7 3 3))] ⟨rfl, rfl, rfl, rfl, rfl, rfl, rfl, trivial⟩ ?_
      exact hD447 x7
  · refine j_false rfl (beq_f c1) ?_
    refine j_seq ?_
    refine j_region ?_
    refine r_q (q_eql rfl rfl rfl) rfl rfl ?_
    refine r_q (q_assign rfl rfl) rfl rfl ?_
    refine r_nil ?_
    refine j_then ?_
    rcases of_if h with ⟨c3, h⟩ | ⟨c3, h⟩
    · refine j_true rfl (beq_t c3) ?_
      refine j_region ?_
      refine r_q (q_fieldAddr fi46_1 sz32 rfl rfl rfl) rfl rfl ?_
      refine r_q (q_loadb 1 rfl ag32 rfl rfl rfl) rfl rfl ?_
      refine r_do (a_litX (vs := [(i6 (-1:Int))]) (ii ([(-1:Int)] : List Int)) un32 sz3 zr3 rfl rfl rfl rfl rfl rfl rfl rfl rfl) rfl rfl (fun x9 => ?_)
      obtain ⟨c4, h⟩ := of_guard h
      refine r_do (a_appI (xs := v2) (ys := ([(-1:Int)] : List Int)) 4 un32 un32 sz3 by3 zr3 rfl rfl rfl rfl rfl rfl rfl rfl rfl x3.2.1.h rfl (Rd.row 0 rfl) c4) rfl rfl (fun x10 => ?_)
      refine j_s4 ?_
      refine r_q (q_fieldAddr fi46_1 sz32 rfl rfl rfl) rfl rfl ?_
      refine r_do (a_storeb 2 rfl sz32 rfl rfl rfl rfl (Nat.le_of_ble_eq_true rfl) rfl) rfl rfl (fun _ => ?_)
      refine j_b2 [(.slice x3.1.A x3.1.n x3.1.c), (.slice x10.1 (x3.2.1.n + 1) x10.2), (.slice x3.2.2.A x3.2.2.n x3.2.2.c)] rfl ?_
      refine r_nil ?_
      refine j_in ?_
      refine j_then ?_
      refine j_seq ?_
      refine j_region ?_
      refine r_q (q_loadb_agg 2 rfl ag46 sz46 rfl rfl rfl rfl) rfl rfl ?_
      refine r_do (a_storeb 6 rfl sz46 rfl rfl rfl rfl (Nat.le_of_ble_eq_true rfl) rfl) rfl rfl (fun _ => ?_)
      refine j_b6 [(.slice x3.1.A x3.1.n x3.1.c), (.slice x10.1 (x3.2.1.n + 1) x10.2), (.slice x3.2.2.A x3.2.2.n x3.2.2.c)] rfl ?_
      refine r_nil ?_
      refine j_then ?_
      refine j_ret ?_
      cases h
      exact j_return rfl (ResOf.cell 6 rfl rfl ag46 sz46 ResOf.nil) rfl (fun w h => ⟨(⟨x3.1.A, x3.1.n, x3.1.c, x3.1.h⟩, ⟨x10.1, (x3.2.1.n + 1), x10.2, (app_len x3.2.1.h rfl)⟩, ⟨x3.2.2.A, x3.2.2.n, x3.2.2.c, x3.2.2.h⟩), rfl, h.pick 8 [3, 4, 5, 1] rfl⟩)
    · refine j_false rfl (beq_f c3) ?_
      refine j_seq ?_
      refine j_region ?_
      refine r_q (q_eql rfl rfl rfl) rfl rfl ?_
      refine r_q (q_assign rfl rfl) rfl rfl ?_
      refine r_nil ?_
      refine j_then ?_
      rcases of_if h with ⟨c5, h⟩ | ⟨c5, h⟩
      · refine j_true rfl (beq_t c5) ?_
        obtain ⟨v10, v11, hb5, h⟩ := of_b2 h
        obtain ⟨c6, h⟩ := of_guard h
        refine j_draw (.row x3.1.A x3.1.c 3 1 (ii v1) :: .row x3.2.1.A x3.2.1.c 3 1 (ii v2) :: .box x2 46 [(.slice none 0 0), (.slice none 0 0), (.slice none 0 0)] :: .box x1 46 [(.slice a1_0_A a1_0_n a1_0_c), (.slice a1_1_A a1_1_n a1_1_c), (.slice a1_2_A a1_2_n a1_2_c)] :: F) 9 follows_any rfl ?_
        refine d_take 0 rfl (q_fieldAddr fi46_2 sz32 rfl rfl rfl) rfl rfl (by kernel_rfl) (by kernel_rfl) (by kernel_rfl) (fun w h => h.pick 7 [2, 3, 5, 6] rfl) ?_
        refine d_take 2 rfl (q_move rfl rfl) rfl rfl (by kernel_rfl) (by kernel_rfl) (by kernel_rfl) (fun w h => h.pick 7 [2, 3, 5, 6] rfl) ?_
        refine d_join (σ := (Option Addr) × Unit × (Option Addr) × (Option Addr × Nat)) 0 #[true, true, true, true, true, true, true, true, true] (fun s => [(4, (pt x2)), (5, (pt x4))]) (fun s => .row s.1 3 3 1 (ii ([(0:Int), (-1:Int), (9:Int)] : List Int)) :: .row s.2.2.1 1 3 1 (ii ([v10] : List Int)) :: .row s.2.2.2.1 s.2.2.2.2 3 1 (ii (v3 ++ ([v10] : List Int))) :: .box a0_g 106 [(.slice a0_0_A a0_0_n a0_0_c), (i6 v11)] :: .box x4 46 [(.slice x3.1.A x3.1.n x3.1.c), (.slice x3.2.1.A x3.2.1.n x3.2.1.c), (.slice s.2.2.2.1 (x3.2.2.n + 1) s.2.2.2.2)] :: .row x3.1.A x3.1.c 3 1 (ii v1) :: .row x3.2.1.A x3.2.1.c 3 1 (ii v2) :: .box x2 46 [(.slice none 0 0), (.slice none 0 0), (.slice none 0 0)] :: .box x1 46 [(.slice a1_0_A a1_0_n a1_0_c), (.slice a1_1_A a1_1_n a1_1_c), (.slice a1_2_A a1_2_n a1_2_c)] :: F) ?_ (fun hD511 => ?_)
        · rintro ⟨x11, x12, x13, x14⟩
          show J _ _ [(4, (pt x2)), (5, (pt x4))] _ (.row x11 3 3 1 (ii ([(0:Int), (-1:Int), (9:Int)] : List Int)) :: .row x13 1 3 1 (ii ([v10] : List Int)) :: .row x14.1 x14.2 3 1 (ii (v3 ++ ([v10] : List Int))) :: .box a0_g 106 [(.slice a0_0_A a0_0_n a0_0_c), (i6 v11)] :: .box x4 46 [(.slice x3.1.A x3.1.n x3.1.c), (.slice x3.2.1.A x3.2.1.n x3.2.1.c), (.slice x14.1 (x3.2.2.n + 1) x14.2)] :: .row x3.1.A x3.1.c 3 1 (ii v1) :: .row x3.2.1.A x3.2.1.c 3 1 (ii v2) :: .box x2 46 [(.slice none 0 0), (.slice none 0 0), (.slice none 0 0)] :: .box x1 46 [(.slice a1_0_A a1_0_n a1_0_c), (.slice a1_1_A a1_1_n a1_1_c), (.slice a1_2_A a1_2_n a1_2_c)] :: F)
          refine d_done (by kernel_rfl) ?_
          refine j_in ?_
          refine j_then ?_
          refine j_seq ?_
          refine j_region ?_
          refine r_q (q_loadb_agg 4 rfl ag46 sz46 rfl rfl rfl rfl) rfl rfl ?_
          refine r_do (a_storeb 7 rfl sz46 rfl rfl rfl rfl (Nat.le_of_ble_eq_true rfl) rfl) rfl rfl (fun _ => ?_)
          refine j_b7 [(.slice x3.1.A x3.1.n x3.1.c), (.slice x3.2.1.A x3.2.1.n x3.2.1.c), (.slice x14.1 (x3.2.2.n + 1) x14.2)] rfl ?_
          refine r_nil ?_
          refine j_then ?_
          refine j_ret ?_
          cases h
          exact j_return rfl (ResOf.cell 7 rfl rfl ag46 sz46 ResOf.nil) rfl (fun w h => ⟨(⟨x3.1.A, x3.1.n, x3.1.c, x3.1.h⟩, ⟨x3.2.1.A, x3.2.1.n, x3.2.1.c, x3.2.1.h⟩, ⟨x14.1, (x3.2.2.n + 1), x14.2, (app_len x3.2.2.h rfl)⟩), rfl, h.pick 9 [5, 6, 2, 3] rfl⟩)
        refine d_join (σ := (Option Addr) × Unit × (Option Addr) × (Option Addr × Nat)) 1 #[true, true, true, true, true, true, true, true, false] (fun s => [(4, (pt x2)), (5, (pt x4)), (38, (.slice s.2.2.2.1 (x3.2.2.n + 1) s.2.2.2.2)), (39, (.pointer (some ⟨x4, 2, none⟩)))]) (fun s => .row s.1 3 3 1 (ii ([(0:Int), (-1:Int), (9:Int)] : List Int)) :: .row s.2.2.1 1 3 1 (ii ([v10] : List Int)) :: .row s.2.2.2.1 s.2.2.2.2 3 1 (ii (v3 ++ ([v10] : List Int))) :: .box a0_g 106 [(.slice a0_0_A a0_0_n a0_0_c), (i6 v11)] :: .box x4 46 [(.slice x3.1.A x3.1.n x3.1.c), (.slice x3.2.1.A x3.2.1.n x3.2.1.c), (.slice x3.2.2.A x3.2.2.n x3.2.2.c)] :: .row x3.1.A x3.1.c 3 1 (ii v1) :: .row x3.2.1.A x3.2.1.c 3 1 (ii v2) :: .box x2 46 [(.slice none 0 0), (.slice none 0 0), (.slice none 0 0)] :: .box x1 46 [(.slice a1_0_A a1_0_n a1_0_c), (.slice a1_1_A a1_1_n a1_1_c), (.slice a1_2_A a1_2_n a1_2_c)] :: F) ?_ (fun hD255 => ?_)
        · rintro ⟨x11, x12, x13, x14⟩
          show J _ _ [(4, (pt x2)), (5, (pt x4)), (38, (.slice x14.1 (x3.2.2.n + 1) x14.2)), (39, (.pointer (some ⟨x4, 2, none⟩)))] _ (.row x11 3 3 1 (ii ([(0:Int), (-1:Int), (9:Int)] : List Int)) :: .row x13 1 3 1 (ii ([v10] : List Int)) :: .row x14.1 x14.2 3 1 (ii (v3 ++ ([v10] : List Int))) :: .box a0_g 106 [(.slice a0_0_A a0_0_n a0_0_c), (i6 v11)] :: .box x4 46 [(.slice x3.1.A x3.1.n x3.1.c), (.slice x3.2.1.A x3.2.1.n x3.2.1.c), (.slice x3.2.2.A x3.2.2.n x3.2.2.c)] :: .row x3.1.A x3.1.c 3 1 (ii v1) :: .row x3.2.1.A x3.2.1.c 3 1 (ii v2) :: .box x2 46 [(.slice none 0 0), (.slice none 0 0), (.slice none 0 0)] :: .box x1 46 [(.slice a1_0_A a1_0_n a1_0_c), (.slice a1_1_A a1_1_n a1_1_c), (.slice a1_2_A a1_2_n a1_2_c)] :: F)
          refine d_one 8 (by kernel_rfl) ?_
          · refine o_do rfl (a_storeb 4 rfl sz32 rfl rfl rfl rfl (Nat.le_of_ble_eq_true rfl) rfl) rfl rfl (fun _ w h => (h.drop 5)) (fun _ => ?_)
            refine j_b4 [(.slice x3.1.A x3.1.n x3.1.c), (.slice x3.2.1.A x3.2.1.n x3.2.1.c), (.slice x14.1 (x3.2.2.n + 1) x14.2)] rfl ?_
            refine j_rs (.row x11 3 3 1 (ii ([(0:Int), (-1:Int), (9:Int)] : List Int)) :: .row x13 1 3 1 (ii ([v10] : List Int)) :: .row x14.1 x14.2 3 1 (ii (v3 ++ ([v10] : List Int))) :: .box a0_g 106 [(.slice a0_0_A a0_0_n a0_0_c), (i6 v11)] :: .box x4 46 [(.slice x3.1.A x3.1.n x3.1.c), (.slice x3.2.1.A x3.2.1.n x3.2.1.c), (.slice x14.1 (x3.2.2.n + 1) x14.2)] :: .row x3.1.A x3.1.c 3 1 (ii v1) :: .row x3.2.1.A x3.2.1.c 3 1 (ii v2) :: .box x2 46 [(.slice none 0 0), (.slice none 0 0), (.slice none 0 0)] :: .box x1 46 [(.slice a1_0_A a1_0_n a1_0_c), (.slice a1_1_A a1_1_n a1_1_c), (.slice a1_2_A a1_2_n a1_2_c)] :: F) (fun _ h => h) ?_
            refine j_env [(4, (pt x2)), (5, (pt x4))] ⟨rfl, rfl, trivial⟩ ?_
            exact hD511 (x11, x12, x13, x14)
        refine d_join (σ := (Option Addr) × Unit × (Option Addr)) 3 #[true, true, true, true, true, true, false, false, false] (fun s => [(4, (pt x2)), (5, (pt x4)), (33, (.slice x3.2.2.A x3.2.2.n x3.2.2.c)), (37, (.slice s.2.2 1 1))]) (fun s => .row s.1 3 3 1 (ii ([(0:Int), (-1:Int), (9:Int)] : List Int)) :: .row s.2.2 1 3 1 (ii ([v10] : List Int)) :: .box a0_g 106 [(.slice a0_0_A a0_0_n a0_0_c), (i6 v11)] :: .box x4 46 [(.slice x3.1.A x3.1.n x3.1.c), (.slice x3.2.1.A x3.2.1.n x3.2.1.c), (.slice x3.2.2.A x3.2.2.n x3.2.2.c)] :: .row x3.1.A x3.1.c 3 1 (ii v1) :: .row x3.2.1.A x3.2.1.c 3 1 (ii v2) :: .row x3.2.2.A x3.2.2.c 3 1 (ii v3) :: .box x2 46 [(.slice none 0 0), (.slice none 0 0), (.slice none 0 0)] :: .box x1 46 [(.slice a1_0_A a1_0_n a1_0_c), (.slice a1_1_A a1_1_n a1_1_c), (.slice a1_2_A a1_2_n a1_2_c)] :: F) ?_ (fun hD63 => ?_)
        · rintro ⟨x11, x12, x13⟩
          show J _ _ [(4, (pt x2)), (5, (pt x4)), (33, (.slice x3.2.2.A x3.2.2.n x3.2.2.c)), (37, (.slice x13 1 1))] _ (.row x11 3 3 1 (ii ([(0:Int), (-1:Int), (9:Int)] : List Int)) :: .row x13 1 3 1 (ii ([v10] : List Int)) :: .box a0_g 106 [(.slice a0_0_A a0_0_n a0_0_c), (i6 v11)] :: .box x4 46 [(.slice x3.1.A x3.1.n x3.1.c), (.slice x3.2.1.A x3.2.1.n x3.2.1.c), (.slice x3.2.2.A x3.2.2.n x3.2.2.c)] :: .row x3.1.A x3.1.c 3 1 (ii v1) :: .row x3.2.1.A x3.2.1.c 3 1 (ii v2) :: .row x3.2.2.A x3.2.2.c 3 1 (ii v3) :: .box x2 46 [(.slice none 0 0), (.slice none 0 0), (.slice none 0 0)] :: .box x1 46 [(.slice a1_0_A a1_0_n a1_0_c), (.slice a1_1_A a1_1_n a1_1_c), (.slice a1_2_A a1_2_n a1_2_c)] :: F)
          refine d_one 6 (by kernel_rfl) ?_
          · refine o_do rfl (a_appI (xs := v3) (ys := ([v10] : List Int)) 6 un32 un32 sz3 by3 zr3 rfl rfl rfl rfl rfl rfl rfl rfl rfl x3.2.2.h rfl (Rd.row 1 rfl) c6) rfl rfl (fun x14 w h => h.pick 9 [4, 5, 7, 8] rfl) (fun x14 => ?_)
            refine j_s6 ?_
            refine d_take 7 rfl (q_fieldAddr fi46_2 sz32 rfl rfl rfl) rfl rfl (by kernel_rfl) (by kernel_rfl) (by kernel_rfl) (fun w h => h.pick 9 [4, 5, 7, 8] rfl) ?_
            refine j_rs (.row x11 3 3 1 (ii ([(0:Int), (-1:Int), (9:Int)] : List Int)) :: .row x13 1 3 1 (ii ([v10] : List Int)) :: .row x14.1 x14.2 3 1 (ii (v3 ++ ([v10] : List Int))) :: .box a0_g 106 [(.slice a0_0_A a0_0_n a0_0_c), (i6 v11)] :: .box x4 46 [(.slice x3.1.A x3.1.n x3.1.c), (.slice x3.2.1.A x3.2.1.n x3.2.1.c), (.slice x3.2.2.A x3.2.2.n x3.2.2.c)] :: .row x3.1.A x3.1.c 3 1 (ii v1) :: .row x3.2.1.A x3.2.1.c 3 1 (ii v2) :: .box x2 46 [(.slice none 0 0), (.slice none 0 0), (.slice none 0 0)] :: .box x1 46 [(.slice a1_0_A a1_0_n a1_0_c), (.slice a1_1_A a1_1_n a1_1_c), (.slice a1_2_A a1_2_n a1_2_c)] :: F) (fun _ h => h.pick 9 [0, 1, 6, 2, 3, 4, 5, 7, 8] rfl) ?_
            refine j_env [(4, (pt x2)), (5, (pt x4)), (38, (.slice x14.1 (x3.2.2.n + 1) x14.2)), (39, (.pointer (some ⟨x4, 2, none⟩)))] ⟨rfl, rfl, rfl, rfl, trivial⟩ ?_
            exact hD255 (x11, x12, x13, x14)
        refine d_join (σ := (Option Addr) × Unit) 4 #[true, true, true, true, true, false, false, false, false] (fun s => [(4, (pt x2)), (5, (pt x4)), (33, (.slice x3.2.2.A x3.2.2.n x3.2.2.c)), (36, (i6 v10))]) (fun s => .row s.1 3 3 1 (ii ([(0:Int), (-1:Int), (9:Int)] : List Int)) :: .box a0_g 106 [(.slice a0_0_A a0_0_n a0_0_c), (i6 v11)] :: .box x4 46 [(.slice x3.1.A x3.1.n x3.1.c), (.slice x3.2.1.A x3.2.1.n x3.2.1.c), (.slice x3.2.2.A x3.2.2.n x3.2.2.c)] :: .row x3.1.A x3.1.c 3 1 (ii v1) :: .row x3.2.1.A x3.2.1.c 3 1 (ii v2) :: .row x3.2.2.A x3.2.2.c 3 1 (ii v3) :: .box x2 46 [(.slice none 0 0), (.slice none 0 0), (.slice none 0 0)] :: .box x1 46 [(.slice a1_0_A a1_0_n a1_0_c), (.slice a1_1_A a1_1_n a1_1_c), (.slice a1_2_A a1_2_n a1_2_c)] :: F) ?_ (fun hD31 => ?_)
        · rintro ⟨x11, x12⟩
          show J _ _ [(4, (pt x2)), (5, (pt x4)), (33, (.slice x3.2.2.A x3.2.2.n x3.2.2.c)), (36, (i6 v10))] _ (.row x11 3 3 1 (ii ([(0:Int), (-1:Int), (9:Int)] : List Int)) :: .box a0_g 106 [(.slice a0_0_A a0_0_n a0_0_c), (i6 v11)] :: .box x4 46 [(.slice x3.1.A x3.1.n x3.1.c), (.slice x3.2.1.A x3.2.1.n x3.2.1.c), (.slice x3.2.2.A x3.2.2.n x3.2.2.c)] :: .row x3.1.A x3.1.c 3 1 (ii v1) :: .row x3.2.1.A x3.2.1.c 3 1 (ii v2) :: .row x3.2.2.A x3.2.2.c 3 1 (ii v3) :: .box x2 46 [(.slice none 0 0), (.slice none 0 0), (.slice none 0 0)] :: .box x1 46 [(.slice a1_0_A a1_0_n a1_0_c), (.slice a1_1_A a1_1_n a1_1_c), (.slice a1_2_A a1_2_n a1_2_c)] :: F)
          refine d_one 5 (by kernel_rfl) ?_
          · refine o_do rfl (a_litX (vs := [(i6 v10)]) (ii ([v10] : List Int)) un32 sz3 zr3 rfl rfl rfl rfl rfl rfl rfl rfl rfl) rfl rfl (fun x13 w h => h.pick 9 [4, 5, 7, 8] rfl) (fun x13 => ?_)
            refine j_rs (.row x11 3 3 1 (ii ([(0:Int), (-1:Int), (9:Int)] : List Int)) :: .row x13 1 3 1 (ii ([v10] : List Int)) :: .box a0_g 106 [(.slice a0_0_A a0_0_n a0_0_c), (i6 v11)] :: .box x4 46 [(.slice x3.1.A x3.1.n x3.1.c), (.slice x3.2.1.A x3.2.1.n x3.2.1.c), (.slice x3.2.2.A x3.2.2.n x3.2.2.c)] :: .row x3.1.A x3.1.c 3 1 (ii v1) :: .row x3.2.1.A x3.2.1.c 3 1 (ii v2) :: .row x3.2.2.A x3.2.2.c 3 1 (ii v3) :: .box x2 46 [(.slice none 0 0), (.slice none 0 0), (.slice none 0 0)] :: .box x1 46 [(.slice a1_0_A a1_0_n a1_0_c), (.slice a1_1_A a1_1_n a1_1_c), (.slice a1_2_A a1_2_n a1_2_c)] :: F) (fun _ h => h.pick 9 [1, 0, 2, 3, 4, 5, 6, 7, 8] rfl) ?_
            refine j_env [(4, (pt x2)), (5, (pt x4)), (33, (.slice x3.2.2.A x3.2.2.n x3.2.2.c)), (37, (.slice x13 1 1))] ⟨rfl, rfl, rfl, rfl, trivial⟩ ?_
            exact hD63 (x11, x12, x13)
        refine d_join (σ := (Option Addr) × Unit × (Option Addr)) 4 #[true, false, true, true, true, true, false, false, false] (fun s => [(4, (pt x2)), (5, (pt x4)), (32, (.pointer (some ⟨x4, 2, none⟩))), (37, (.slice s.2.2 1 1))]) (fun s => .row s.1 3 3 1 (ii ([(0:Int), (-1:Int), (9:Int)] : List Int)) :: .row s.2.2 1 3 1 (ii ([v10] : List Int)) :: .box a0_g 106 [(.slice a0_0_A a0_0_n a0_0_c), (i6 v11)] :: .box x4 46 [(.slice x3.1.A x3.1.n x3.1.c), (.slice x3.2.1.A x3.2.1.n x3.2.1.c), (.slice x3.2.2.A x3.2.2.n x3.2.2.c)] :: .row x3.1.A x3.1.c 3 1 (ii v1) :: .row x3.2.1.A x3.2.1.c 3 1 (ii v2) :: .row x3.2.2.A x3.2.2.c 3 1 (ii v3) :: .box x2 46 [(.slice none 0 0), (.slice none 0 0), (.slice none 0 0)] :: .box x1 46 [(.slice a1_0_A a1_0_n a1_0_c), (.slice a1_1_A a1_1_n a1_1_c), (.slice a1_2_A a1_2_n a1_2_c)] :: F) ?_ (fun hD61 => ?_)
        · rintro ⟨x11, x12, x13⟩
          show J _ _ [(4, (pt x2)), (5, (pt x4)), (32, (.pointer (some ⟨x4, 2, none⟩))), (37, (.slice x13 1 1))] _ (.row x11 3 3 1 (ii ([(0:Int), (-1:Int), (9:Int)] : List Int)) :: .row x13 1 3 1 (ii ([v10] : List Int)) :: .box a0_g 106 [(.slice a0_0_A a0_0_n a0_0_c), (i6 v11)] :: .box x4 46 [(.slice x3.1.A x3.1.n x3.1.c), (.slice x3.2.1.A x3.2.1.n x3.2.1.c), (.slice x3.2.2.A x3.2.2.n x3.2.2.c)] :: .row x3.1.A x3.1.c 3 1 (ii v1) :: .row x3.2.1.A x3.2.1.c 3 1 (ii v2) :: .row x3.2.2.A x3.2.2.c 3 1 (ii v3) :: .box x2 46 [(.slice none 0 0), (.slice none 0 0), (.slice none 0 0)] :: .box x1 46 [(.slice a1_0_A a1_0_n a1_0_c), (.slice a1_1_A a1_1_n a1_1_c), (.slice a1_2_A a1_2_n a1_2_c)] :: F)
          refine d_one 1 (by kernel_rfl) ?_
          · refine o_do rfl ((q_loadb 3 rfl ag32 rfl rfl rfl)).acts rfl rfl (fun _ w h => h.pick 9 [4, 5, 7, 8] rfl) (fun _ => ?_)
            refine j_rs (.row x11 3 3 1 (ii ([(0:Int), (-1:Int), (9:Int)] : List Int)) :: .row x13 1 3 1 (ii ([v10] : List Int)) :: .box a0_g 106 [(.slice a0_0_A a0_0_n a0_0_c), (i6 v11)] :: .box x4 46 [(.slice x3.1.A x3.1.n x3.1.c), (.slice x3.2.1.A x3.2.1.n x3.2.1.c), (.slice x3.2.2.A x3.2.2.n x3.2.2.c)] :: .row x3.1.A x3.1.c 3 1 (ii v1) :: .row x3.2.1.A x3.2.1.c 3 1 (ii v2) :: .row x3.2.2.A x3.2.2.c 3 1 (ii v3) :: .box x2 46 [(.slice none 0 0), (.slice none 0 0), (.slice none 0 0)] :: .box x1 46 [(.slice a1_0_A a1_0_n a1_0_c), (.slice a1_1_A a1_1_n a1_1_c), (.slice a1_2_A a1_2_n a1_2_c)] :: F) (fun _ h => h) ?_
            refine j_env [(4, (pt x2)), (5, (pt x4)), (33, (.slice x3.2.2.A x3.2.2.n x3.2.2.c)), (37, (.slice x13 1 1))] ⟨rfl, rfl, rfl, rfl, trivial⟩ ?_
            exact hD63 (x11, x12, x13)
        refine d_join (σ := (Option Addr)) 5 #[true, true, true, true, false, false, false, false, false] (fun s => [(4, (pt x2)), (5, (pt x4)), (33, (.slice x3.2.2.A x3.2.2.n x3.2.2.c)), (34, (pt a0_g)), (35, (.slice s 3 3))]) (fun s => .row s 3 3 1 (ii ([(0:Int), (-1:Int), (9:Int)] : List Int)) :: .box a0_g 106 [(.slice a0_0_A a0_0_n a0_0_c), (i6 v5)] :: .box x4 46 [(.slice x3.1.A x3.1.n x3.1.c), (.slice x3.2.1.A x3.2.1.n x3.2.1.c), (.slice x3.2.2.A x3.2.2.n x3.2.2.c)] :: .row x3.1.A x3.1.c 3 1 (ii v1) :: .row x3.2.1.A x3.2.1.c 3 1 (ii v2) :: .row x3.2.2.A x3.2.2.c 3 1 (ii v3) :: .box x2 46 [(.slice none 0 0), (.slice none 0 0), (.slice none 0 0)] :: .box x1 46 [(.slice a1_0_A a1_0_n a1_0_c), (.slice a1_1_A a1_1_n a1_1_c), (.slice a1_2_A a1_2_n a1_2_c)] :: F) ?_ (fun hD15 => ?_)
        · rintro x11
          show J _ _ [(4, (pt x2)), (5, (pt x4)), (33, (.slice x3.2.2.A x3.2.2.n x3.2.2.c)), (34, (pt a0_g)), (35, (.slice x11 3 3))] _ (.row x11 3 3 1 (ii ([(0:Int), (-1:Int), (9:Int)] : List Int)) :: .box a0_g 106 [(.slice a0_0_A a0_0_n a0_0_c), (i6 v5)] :: .box x4 46 [(.slice x3.1.A x3.1.n x3.1.c), (.slice x3.2.1.A x3.2.1.n x3.2.1.c), (.slice x3.2.2.A x3.2.2.n x3.2.2.c)] :: .row x3.1.A x3.1.c 3 1 (ii v1) :: .row x3.2.1.A x3.2.1.c 3 1 (ii v2) :: .row x3.2.2.A x3.2.2.c 3 1 (ii v3) :: .box x2 46 [(.slice none 0 0), (.slice none 0 0), (.slice none 0 0)] :: .box x1 46 [(.slice a1_0_A a1_0_n a1_0_c), (.slice a1_1_A a1_1_n a1_1_c), (.slice a1_2_A a1_2_n a1_2_c)] :: F)
          refine d_one 4 (by kernel_rfl) ?_
          · refine j_rs (.box a0_g 106 [(.slice a0_0_A a0_0_n a0_0_c), (i6 v5)] :: .row x11 3 3 1 (ii ([(0:Int), (-1:Int), (9:Int)] : List Int)) :: .box x4 46 [(.slice x3.1.A x3.1.n x3.1.c), (.slice x3.2.1.A x3.2.1.n x3.2.1.c), (.slice x3.2.2.A x3.2.2.n x3.2.2.c)] :: .row x3.1.A x3.1.c 3 1 (ii v1) :: .row x3.2.1.A x3.2.1.c 3 1 (ii v2) :: .row x3.2.2.A x3.2.2.c 3 1 (ii v3) :: .box x2 46 [(.slice none 0 0), (.slice none 0 0), (.slice none 0 0)] :: .box x1 46 [(.slice a1_0_A a1_0_n a1_0_c), (.slice a1_1_A a1_1_n a1_1_c), (.slice a1_2_A a1_2_n a1_2_c)] :: F) (fun _ h => h.pick 8 [1, 0, 2, 3, 4, 5, 6, 7] rfl) ?_
            refine o_do rfl (a_call ok69 rfl rfl rfl rfl (fun w hm => spec_l13Rd_num.calls K a0_g a0_0 a0_0_A a0_0_n a0_0_c v5 ([(0:Int), (-1:Int), (9:Int)] : List Int) x11 3 3 hm a0_0_h (Rd.drop 7 a0_0_R) rfl (Rd.row 0 rfl) hb5)) rfl rfl (fun x12 w h => h.pick 8 [3, 4, 6, 7] rfl) (fun x12 => ?_)
            refine j_rs (.row x11 3 3 1 (ii ([(0:Int), (-1:Int), (9:Int)] : List Int)) :: .box a0_g 106 [(.slice a0_0_A a0_0_n a0_0_c), (i6 v11)] :: .box x4 46 [(.slice x3.1.A x3.1.n x3.1.c), (.slice x3.2.1.A x3.2.1.n x3.2.1.c), (.slice x3.2.2.A x3.2.2.n x3.2.2.c)] :: .row x3.1.A x3.1.c 3 1 (ii v1) :: .row x3.2.1.A x3.2.1.c 3 1 (ii v2) :: .row x3.2.2.A x3.2.2.c 3 1 (ii v3) :: .box x2 46 [(.slice none 0 0), (.slice none 0 0), (.slice none 0 0)] :: .box x1 46 [(.slice a1_0_A a1_0_n a1_0_c), (.slice a1_1_A a1_1_n a1_1_c), (.slice a1_2_A a1_2_n a1_2_c)] :: F) (fun _ h => h.pick 8 [1, 0, 2, 3, 4, 5, 6, 7] rfl) ?_
            refine j_env [(4, (pt x2)), (5, (pt x4)), (33, (.slice x3.2.2.A x3.2.2.n x3.2.2.c)), (36, (i6 v10))] ⟨rfl, rfl, rfl, rfl, trivial⟩ ?_
            exact hD31 (x11, x12)
        refine d_join (σ := (Option Addr) × Unit) 5 #[true, false, true, true, true, false, false, false, false] (fun s => [(4, (pt x2)), (5, (pt x4)), (32, (.pointer (some ⟨x4, 2, none⟩))), (36, (i6 v10))]) (fun s => .row s.1 3 3 1 (ii ([(0:Int), (-1:Int), (9:Int)] : List Int)) :: .box a0_g 106 [(.slice a0_0_A a0_0_n a0_0_c), (i6 v11)] :: .box x4 46 [(.slice x3.1.A x3.1.n x3.1.c), (.slice x3.2.1.A x3.2.1.n x3.2.1.c), (.slice x3.2.2.A x3.2.2.n x3.2.2.c)] :: .row x3.1.A x3.1.c 3 1 (ii v1) :: .row x3.2.1.A x3.2.1.c 3 1 (ii v2) :: .row x3.2.2.A x3.2.2.c 3 1 (ii v3) :: .box x2 46 [(.slice none 0 0), (.slice none 0 0), (.slice none 0 0)] :: .box x1 46 [(.slice a1_0_A a1_0_n a1_0_c), (.slice a1_1_A a1_1_n a1_1_c), (.slice a1_2_A a1_2_n a1_2_c)] :: F) ?_ (fun hD29 => ?_)
        · rintro ⟨x11, x12⟩
          show J _ _ [(4, (pt x2)), (5, (pt x4)), (32, (.pointer (some ⟨x4, 2, none⟩))), (36, (i6 v10))] _ (.row x11 3 3 1 (ii ([(0:Int), (-1:Int), (9:Int)] : List Int)) :: .box a0_g 106 [(.slice a0_0_A a0_0_n a0_0_c), (i6 v11)] :: .box x4 46 [(.slice x3.1.A x3.1.n x3.1.c), (.slice x3.2.1.A x3.2.1.n x3.2.1.c), (.slice x3.2.2.A x3.2.2.n x3.2.2.c)] :: .row x3.1.A x3.1.c 3 1 (ii v1) :: .row x3.2.1.A x3.2.1.c 3 1 (ii v2) :: .row x3.2.2.A x3.2.2.c 3 1 (ii v3) :: .box x2 46 [(.slice none 0 0), (.slice none 0 0), (.slice none 0 0)] :: .box x1 46 [(.slice a1_0_A a1_0_n a1_0_c), (.slice a1_1_A a1_1_n a1_1_c), (.slice a1_2_A a1_2_n a1_2_c)] :: F)
          refine d_two 1 5 (by kernel_rfl) ?_ ?_
          · refine o_do rfl ((q_loadb 2 rfl ag32 rfl rfl rfl)).acts rfl rfl (fun _ w h => h.pick 8 [3, 4, 6, 7] rfl) (fun _ => ?_)
            refine j_rs (.row x11 3 3 1 (ii ([(0:Int), (-1:Int), (9:Int)] : List Int)) :: .box a0_g 106 [(.slice a0_0_A a0_0_n a0_0_c), (i6 v11)] :: .box x4 46 [(.slice x3.1.A x3.1.n x3.1.c), (.slice x3.2.1.A x3.2.1.n x3.2.1.c), (.slice x3.2.2.A x3.2.2.n x3.2.2.c)] :: .row x3.1.A x3.1.c 3 1 (ii v1) :: .row x3.2.1.A x3.2.1.c 3 1 (ii v2) :: .row x3.2.2.A x3.2.2.c 3 1 (ii v3) :: .box x2 46 [(.slice none 0 0), (.slice none 0 0), (.slice none 0 0)] :: .box x1 46 [(.slice a1_0_A a1_0_n a1_0_c), (.slice a1_1_A a1_1_n a1_1_c), (.slice a1_2_A a1_2_n a1_2_c)] :: F) (fun _ h => h) ?_
            refine j_env [(4, (pt x2)), (5, (pt x4)), (33, (.slice x3.2.2.A x3.2.2.n x3.2.2.c)), (36, (i6 v10))] ⟨rfl, rfl, rfl, rfl, trivial⟩ ?_
            exact hD31 (x11, x12)
          · refine o_do rfl (a_litX (vs := [(i6 v10)]) (ii ([v10] : List Int)) un32 sz3 zr3 rfl rfl rfl rfl rfl rfl rfl rfl rfl) rfl rfl (fun x13 w h => h.pick 9 [4, 5, 7, 8] rfl) (fun x13 => ?_)
            refine j_rs (.row x11 3 3 1 (ii ([(0:Int), (-1:Int), (9:Int)] : List Int)) :: .row x13 1 3 1 (ii ([v10] : List Int)) :: .box a0_g 106 [(.slice a0_0_A a0_0_n a0_0_c), (i6 v11)] :: .box x4 46 [(.slice x3.1.A x3.1.n x3.1.c), (.slice x3.2.1.A x3.2.1.n x3.2.1.c), (.slice x3.2.2.A x3.2.2.n x3.2.2.c)] :: .row x3.1.A x3.1.c 3 1 (ii v1) :: .row x3.2.1.A x3.2.1.c 3 1 (ii v2) :: .row x3.2.2.A x3.2.2.c 3 1 (ii v3) :: .box x2 46 [(.slice none 0 0), (.slice none 0 0), (.slice none 0 0)] :: .box x1 46 [(.slice a1_0_A a1_0_n a1_0_c), (.slice a1_1_A a1_1_n a1_1_c), (.slice a1_2_A a1_2_n a1_2_c)] :: F) (fun _ h => h.pick 9 [1, 0, 2, 3, 4, 5, 6, 7, 8] rfl) ?_
            refine j_env [(4, (pt x2)), (5, (pt x4)), (32, (.pointer (some ⟨x4, 2, none⟩))), (37, (.slice x13 1 1))] ⟨rfl, rfl, rfl, rfl, trivial⟩ ?_
            exact hD61 (x11, x12, x13)
        refine d_join (σ := Unit) 6 #[true, true, true, false, false, false, false, false, false] (fun s => [(4, (pt x2)), (5, (pt x4)), (33, (.slice x3.2.2.A x3.2.2.n x3.2.2.c)), (34, (pt a0_g))]) (fun s => .box a0_g 106 [(.slice a0_0_A a0_0_n a0_0_c), (i6 v5)] :: .box x4 46 [(.slice x3.1.A x3.1.n x3.1.c), (.slice x3.2.1.A x3.2.1.n x3.2.1.c), (.slice x3.2.2.A x3.2.2.n x3.2.2.c)] :: .row x3.1.A x3.1.c 3 1 (ii v1) :: .row x3.2.1.A x3.2.1.c 3 1 (ii v2) :: .row x3.2.2.A x3.2.2.c 3 1 (ii v3) :: .box x2 46 [(.slice none 0 0), (.slice none 0 0), (.slice none 0 0)] :: .box x1 46 [(.slice a1_0_A a1_0_n a1_0_c), (.slice a1_1_A a1_1_n a1_1_c), (.slice a1_2_A a1_2_n a1_2_c)] :: F) ?_ (fun hD7 => ?_)
        · rintro _
          show J _ _ [(4, (pt x2)), (5, (pt x4)), (33, (.slice x3.2.2.A x3.2.2.n x3.2.2.c)), (34, (pt a0_g))] _ (.box a0_g 106 [(.slice a0_0_A a0_0_n a0_0_c), (i6 v5)] :: .box x4 46 [(.slice x3.1.A x3.1.n x3.1.c), (.slice x3.2.1.A x3.2.1.n x3.2.1.c), (.slice x3.2.2.A x3.2.2.n x3.2.2.c)] :: .row x3.1.A x3.1.c 3 1 (ii v1) :: .row x3.2.1.A x3.2.1.c 3 1 (ii v2) :: .row x3.2.2.A x3.2.2.c 3 1 (ii v3) :: .box x2 46 [(.slice none 0 0), (.slice none 0 0), (.slice none 0 0)] :: .box x1 46 [(.slice a1_0_A a1_0_n a1_0_c), (.slice a1_1_A a1_1_n a1_1_c), (.slice a1_2_A a1_2_n a1_2_c)] :: F)
          refine d_one 3 (by kernel_rfl) ?_
          · refine o_do rfl (a_litX (vs := [(i6 (0:Int)), (i6 (-1:Int)), (i6 (9:Int))]) (ii ([(0:Int), (-1:Int), (9:Int)] : List Int)) un32 sz3 zr3 rfl rfl rfl rfl rfl rfl rfl rfl rfl) rfl rfl (fun x11 w h => h.pick 8 [3, 4, 6, 7] rfl) (fun x11 => ?_)
            refine j_rs (.row x11 3 3 1 (ii ([(0:Int), (-1:Int), (9:Int)] : List Int)) :: .box a0_g 106 [(.slice a0_0_A a0_0_n a0_0_c), (i6 v5)] :: .box x4 46 [(.slice x3.1.A x3.1.n x3.1.c), (.slice x3.2.1.A x3.2.1.n x3.2.1.c), (.slice x3.2.2.A x3.2.2.n x3.2.2.c)] :: .row x3.1.A x3.1.c 3 1 (ii v1) :: .row x3.2.1.A x3.2.1.c 3 1 (ii v2) :: .row x3.2.2.A x3.2.2.c 3 1 (ii v3) :: .box x2 46 [(.slice none 0 0), (.slice none 0 0), (.slice none 0 0)] :: .box x1 46 [(.slice a1_0_A a1_0_n a1_0_c), (.slice a1_1_A a1_1_n a1_1_c), (.slice a1_2_A a1_2_n a1_2_c)] :: F) (fun _ h => h) ?_
            refine j_env [(4, (pt x2)), (5, (pt x4)), (33, (.slice x3.2.2.A x3.2.2.n x3.2.2.c)), (34, (pt a0_g)), (35, (.slice x11 3 3))] ⟨rfl, rfl, rfl, rfl, rfl, trivial⟩ ?_
            exact hD15 x11
        refine d_join (σ := (Option Addr)) 6 #[true, false, true, true, false, false, false, false, false] (fun s => [(4, (pt x2)), (5, (pt x4)), (32, (.pointer (some ⟨x4, 2, none⟩))), (34, (pt a0_g)), (35, (.slice s 3 3))]) (fun s => .row s 3 3 1 (ii ([(0:Int), (-1:Int), (9:Int)] : List Int)) :: .box a0_g 106 [(.slice a0_0_A a0_0_n a0_0_c), (i6 v5)] :: .box x4 46 [(.slice x3.1.A x3.1.n x3.1.c), (.slice x3.2.1.A x3.2.1.n x3.2.1.c), (.slice x3.2.2.A x3.2.2.n x3.2.2.c)] :: .row x3.1.A x3.1.c 3 1 (ii v1) :: .row x3.2.1.A x3.2.1.c 3 1 (ii v2) :: .row x3.2.2.A x3.2.2.c 3 1 (ii v3) :: .box x2 46 [(.slice none 0 0), (.slice none 0 0), (.slice none 0 0)] :: .box x1 46 [(.slice a1_0_A a1_0_n a1_0_c), (.slice a1_1_A a1_1_n a1_1_c), (.slice a1_2_A a1_2_n a1_2_c)] :: F) ?_ (fun hD13 => ?_)
        · rintro x11
          show J _ _ [(4, (pt x2)), (5, (pt x4)), (32, (.pointer (some ⟨x4, 2, none⟩))), (34, (pt a0_g)), (35, (.slice x11 3 3))] _ (.row x11 3 3 1 (ii ([(0:Int), (-1:Int), (9:Int)] : List Int)) :: .box a0_g 106 [(.slice a0_0_A a0_0_n a0_0_c), (i6 v5)] :: .box x4 46 [(.slice x3.1.A x3.1.n x3.1.c), (.slice x3.2.1.A x3.2.1.n x3.2.1.c), (.slice x3.2.2.A x3.2.2.n x3.2.2.c)] :: .row x3.1.A x3.1.c 3 1 (ii v1) :: .row x3.2.1.A x3.2.1.c 3 1 (ii v2) :: .row x3.2.2.A x3.2.2.c 3 1 (ii v3) :: .box x2 46 [(.slice none 0 0), (.slice none 0 0), (.slice none 0 0)] :: .box x1 46 [(.slice a1_0_A a1_0_n a1_0_c), (.slice a1_1_A a1_1_n a1_1_c), (.slice a1_2_A a1_2_n a1_2_c)] :: F)
          refine d_two 1 4 (by kernel_rfl) ?_ ?_
          · refine o_do rfl ((q_loadb 2 rfl ag32 rfl rfl rfl)).acts rfl rfl (fun _ w h => h.pick 8 [3, 4, 6, 7] rfl) (fun _ => ?_)
            refine j_rs (.row x11 3 3 1 (ii ([(0:Int), (-1:Int), (9:Int)] : List Int)) :: .box a0_g 106 [(.slice a0_0_A a0_0_n a0_0_c), (i6 v5)] :: .box x4 46 [(.slice x3.1.A x3.1.n x3.1.c), (.slice x3.2.1.A x3.2.1.n x3.2.1.c), (.slice x3.2.2.A x3.2.2.n x3.2.2.c)] :: .row x3.1.A x3.1.c 3 1 (ii v1) :: .row x3.2.1.A x3.2.1.c 3 1 (ii v2) :: .row x3.2.2.A x3.2.2.c 3 1 (ii v3) :: .box x2 46 [(.slice none 0 0), (.slice none 0 0), (.slice none 0 0)] :: .box x1 46 [(.slice a1_0_A a1_0_n a1_0_c), (.slice a1_1_A a1_1_n a1_1_c), (.slice a1_2_A a1_2_n a1_2_c)] :: F) (fun _ h => h) ?_
            refine j_env [(4, (pt x2)), (5, (pt x4)), (33, (.slice x3.2.2.A x3.2.2.n x3.2.2.c)), (34, (pt a0_g)), (35, (.slice x11 3 3))] ⟨rfl, rfl, rfl, rfl, rfl, trivial⟩ ?_
            exact hD15 x11
          · refine j_rs (.box a0_g 106 [(.slice a0_0_A a0_0_n a0_0_c), (i6 v5)] :: .row x11 3 3 1 (ii ([(0:Int), (-1:Int), (9:Int)] : List Int)) :: .box x4 46 [(.slice x3.1.A x3.1.n x3.1.c), (.slice x3.2.1.A x3.2.1.n x3.2.1.c), (.slice x3.2.2.A x3.2.2.n x3.2.2.c)] :: .row x3.1.A x3.1.c 3 1 (ii v1) :: .row x3.2.1.A x3.2.1.c 3 1 (ii v2) :: .row x3.2.2.A x3.2.2.c 3 1 (ii v3) :: .box x2 46 [(.slice none 0 0), (.slice none 0 0), (.slice none 0 0)] :: .box x1 46 [(.slice a1_0_A a1_0_n a1_0_c), (.slice a1_1_A a1_1_n a1_1_c), (.slice a1_2_A a1_2_n a1_2_c)] :: F) (fun _ h => h.pick 8 [1, 0, 2, 3, 4, 5, 6, 7] rfl) ?_
            refine o_do rfl (a_call ok69 rfl rfl rfl rfl (fun w hm => spec_l13Rd_num.calls K a0_g a0_0 a0_0_A a0_0_n a0_0_c v5 ([(0:Int), (-1:Int), (9:Int)] : List Int) x11 3 3 hm a0_0_h (Rd.drop 7 a0_0_R) rfl (Rd.row 0 rfl) hb5)) rfl rfl (fun x12 w h => h.pick 8 [3, 4, 6, 7] rfl) (fun x12 => ?_)
            refine j_rs (.row x11 3 3 1 (ii ([(0:Int), (-1:Int), (9:Int)] : List Int)) :: .box a0_g 106 [(.slice a0_0_A a0_0_n a0_0_c), (i6 v11)] :: .box x4 46 [(.slice x3.1.A x3.1.n x3.1.c), (.slice x3.2.1.A x3.2.1.n x3.2.1.c), (.slice x3.2.2.A x3.2.2.n x3.2.2.c)] :: .row x3.1.A x3.1.c 3 1 (ii v1) :: .row x3.2.1.A x3.2.1.c 3 1 (ii v2) :: .row x3.2.2.A x3.2.2.c 3 1 (ii v3) :: .box x2 46 [(.slice none 0 0), (.slice none 0 0), (.slice none 0 0)] :: .box x1 46 [(.slice a1_0_A a1_0_n a1_0_c), (.slice a1_1_A a1_1_n a1_1_c), (.slice a1_2_A a1_2_n a1_2_c)] :: F) (fun _ h => h.pick 8 [1, 0, 2, 3, 4, 5, 6, 7] rfl) ?_
            refine j_env [(4, (pt x2)), (5, (pt x4)), (32, (.pointer (some ⟨x4, 2, none⟩))), (36, (i6 v10))] ⟨rfl, rfl, rfl, rfl, trivial⟩ ?_
            exact hD29 (x11, x12)
        refine d_two 1 3 (by kernel_rfl) ?_ ?_
        · refine o_do rfl ((q_loadb 1 rfl ag32 rfl rfl rfl)).acts rfl rfl (fun _ w h => h.pick 7 [2, 3, 5, 6] rfl) (fun _ => ?_)
          refine j_rs (.box a0_g 106 [(.slice a0_0_A a0_0_n a0_0_c), (i6 v5)] :: .box x4 46 [(.slice x3.1.A x3.1.n x3.1.c), (.slice x3.2.1.A x3.2.1.n x3.2.1.c), (.slice x3.2.2.A x3.2.2.n x3.2.2.c)] :: .row x3.1.A x3.1.c 3 1 (ii v1) :: .row x3.2.1.A x3.2.1.c 3 1 (ii v2) :: .row x3.2.2.A x3.2.2.c 3 1 (ii v3) :: .box x2 46 [(.slice none 0 0), (.slice none 0 0), (.slice none 0 0)] :: .box x1 46 [(.slice a1_0_A a1_0_n a1_0_c), (.slice a1_1_A a1_1_n a1_1_c), (.slice a1_2_A a1_2_n a1_2_c)] :: F) (fun _ h => h) ?_
          refine j_env [(4, (pt x2)), (5, (pt x4)), (33, (.slice x3.2.2.A x3.2.2.n x3.2.2.c)), (34, (pt a0_g))] ⟨rfl, rfl, rfl, rfl, trivial⟩ ?_
          exact hD7 ()
        · refine o_do rfl (a_litX (vs := [(i6 (0:Int)), (i6 (-1:Int)), (i6 (9:Int))]) (ii ([(0:Int), (-1:Int), (9:Int)] : List Int)) un32 sz3 zr3 rfl rfl rfl rfl rfl rfl rfl rfl rfl) rfl rfl (fun x11 w h => h.pick 8 [3, 4, 6, 7] rfl) (fun x11 => ?_)
          refine j_rs (.row x11 3 3 1 (ii ([(0:Int), (-1:Int), (9:Int)] : List Int)) :: .box a0_g 106 [(.slice a0_0_A a0_0_n a0_0_c), (i6 v5)] :: .box x4 46 [(.slice x3.1.A x3.1.n x3.1.c), (.slice x3.2.1.A x3.2.1.n x3.2.1.c), (.slice x3.2.2.A x3.2.2.n x3.2.2.c)] :: .row x3.1.A x3.1.c 3 1 (ii v1) :: .row x3.2.1.A x3.2.1.c 3 1 (ii v2) :: .row x3.2.2.A x3.2.2.c 3 1 (ii v3) :: .box x2 46 [(.slice none 0 0), (.slice none 0 0), (.slice none 0 0)] :: .box x1 46 [(.slice a1_0_A a1_0_n a1_0_c), (.slice a1_1_A a1_1_n a1_1_c), (.slice a1_2_A a1_2_n a1_2_c)] :: F) (fun _ h => h) ?_
          refine j_env [(4, (pt x2)), (5, (pt x4)), (32, (.pointer (some ⟨x4, 2, none⟩))), (34, (pt a0_g)), (35, (.slice x11 3 3))] ⟨rfl, rfl, rfl, rfl, rfl, trivial⟩ ?_
          exact hD13 x11
      · refine j_false rfl (beq_f c5) ?_
        refine j_seq ?_
        refine j_region ?_
        refine r_q (q_eql rfl rfl rfl) rfl rfl ?_
        refine r_q (q_assign rfl rfl) rfl rfl ?_
        refine r_nil ?_
        refine j_then ?_
        rcases of_if h with ⟨c7, h⟩ | ⟨c7, h⟩
        · refine j_true rfl (beq_t c7) ?_
          refine j_region ?_
          refine r_do (a_litX (vs := []) (ii ([] : List Int)) un32 sz3 zr3 rfl rfl rfl rfl rfl rfl rfl rfl rfl) rfl rfl (fun x15 => ?_)
          refine r_q (q_fieldAddr fi46_2 sz32 rfl rfl rfl) rfl rfl ?_
          refine r_do (a_storeb 2 rfl sz32 rfl rfl rfl rfl (Nat.le_of_ble_eq_true rfl) rfl) rfl rfl (fun _ => ?_)
          refine j_b2 [(.slice x3.1.A x3.1.n x3.1.c), (.slice x3.2.1.A x3.2.1.n x3.2.1.c), (.slice x15 0 0)] rfl ?_
          refine r_nil ?_
          refine j_in ?_
          refine j_then ?_
          refine j_seq ?_
          refine j_region ?_
          refine r_q (q_loadb_agg 2 rfl ag46 sz46 rfl rfl rfl rfl) rfl rfl ?_
          refine r_do (a_storeb 6 rfl sz46 rfl rfl rfl rfl (Nat.le_of_ble_eq_true rfl) rfl) rfl rfl (fun _ => ?_)
          refine j_b6 [(.slice x3.1.A x3.1.n x3.1.c), (.slice x3.2.1.A x3.2.1.n x3.2.1.c), (.slice x15 0 0)] rfl ?_
          refine r_nil ?_
          refine j_then ?_
          refine j_ret ?_
          cases h
          exact j_return rfl (ResOf.cell 6 rfl rfl ag46 sz46 ResOf.nil) rfl (fun w h => ⟨(⟨x3.1.A, x3.1.n, x3.1.c, x3.1.h⟩, ⟨x3.2.1.A, x3.2.1.n, x3.2.1.c, x3.2.1.h⟩, ⟨x15, 0, 0, rfl⟩), rfl, h.pick 8 [3, 4, 0, 1] rfl⟩)
        · refine j_false rfl (beq_f c7) ?_
          refine j_skip ?_
          refine j_in ?_
          refine j_then ?_
          refine j_seq ?_
          refine j_region ?_
          refine r_q (q_loadb_agg 1 rfl ag46 sz46 rfl rfl rfl rfl) rfl rfl ?_
          refine r_do (a_storeb 5 rfl sz46 rfl rfl rfl rfl (Nat.le_of_ble_eq_true rfl) rfl) rfl rfl (fun _ => ?_)
          refine j_b5 [(.slice x3.1.A x3.1.n x3.1.c), (.slice x3.2.1.A x3.2.1.n x3.2.1.c), (.slice x3.2.2.A x3.2.2.n x3.2.2.c)] rfl ?_
          refine r_nil ?_
          refine j_then ?_
          refine j_ret ?_
          cases h
          exact j_return rfl (ResOf.cell 5 rfl rfl ag46 sz46 ResOf.nil) rfl (fun w h => ⟨(⟨x3.1.A, x3.1.n, x3.1.c, x3.1.h⟩, ⟨x3.2.1.A, x3.2.1.n, x3.2.1.c, x3.2.1.h⟩, ⟨x3.2.2.A, x3.2.2.n, x3.2.2.c, x3.2.2.h⟩), rfl, h.pick 7 [2, 3, 4, 0] rfl⟩)

end Go.Proofs.Ytjcbalhdppmdmaa.F
