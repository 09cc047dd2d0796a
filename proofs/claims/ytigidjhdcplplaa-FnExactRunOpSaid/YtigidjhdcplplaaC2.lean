/- The program computes these pure functions, printed by the generator of wip/gen. -/
import Derived.Test.YtigidjhdcplplaaFa
import Derived.Test.YtigidjhdcplplaaFb
import Derived.Test.YtigidjhdcplplaaC1
namespace Go.Proofs.Ytigidjhdcplplaa.F
open Go Go.RowKit Go.Proofs.Ytigidjhdcplplaa.S
set_option linter.unusedVariables false
set_option maxRecDepth 100000
theorem spec_l1Copy.calls (K : Nat) (a0_0 : List Int) (a0_0_A : Option Addr) (a0_0_n a0_0_c : Nat) (a0_1 : List Int) (a0_1_A : Option Addr) (a0_1_n a0_1_c : Nat) (a0_2 : List Int) (a0_2_A : Option Addr) (a0_2_n a0_2_c : Nat) {w0 w : World} {F : List Res} {r1 : List Int} {r2 : List Int} {r3 : List Int} (hm : Mem w0 (F) w) (a0_0_h : a0_0.length = a0_0_n) (a0_0_R : Rd w0 F a0_0_A (ii a0_0)) (a0_1_h : a0_1.length = a0_1_n) (a0_1_R : Rd w0 F a0_1_A (ii a0_1)) (a0_2_h : a0_2.length = a0_2_n) (a0_2_R : Rd w0 F a0_2_A (ii a0_2)) (h : spec_l1Copy.f K a0_0 a0_1 a0_2 = some (r1, r2, r3)) :
    Calls Try.prog 92 (List.toArray [.agg (List.toArray [.slice a0_0_A a0_0_n a0_0_c, .slice a0_1_A a0_1_n a0_1_c, .slice a0_2_A a0_2_n a0_2_c])]) w fun e w' => ∃ x : (Sl r1.length) × (Sl r2.length) × (Sl r3.length), e = .returned (.agg (List.toArray [.slice x.1.A x.1.n x.1.c, .slice x.2.1.A x.2.1.n x.2.1.c, .slice x.2.2.A x.2.2.n x.2.2.c])) ∧ Mem w0 (.row x.1.A x.1.c 3 1 (ii r1) :: .row x.2.1.A x.2.1.c 3 1 (ii r2) :: .row x.2.2.A x.2.2.c 3 1 (ii r3) :: F) w' := by
  unfold spec_l1Copy.f at h
  refine calls_of_J (n := 16) Try.func92 rfl rfl rfl hm ?_
  refine j_seq ?_
  refine j_region ?_
  refine r_do (a_box rfl rfl) rfl rfl (fun x1 => ?_)
  refine r_do (a_alloc zr27 rfl) rfl rfl (fun x2 => ?_)
  refine r_nil ?_
  refine j_then ?_
  refine j_seq ?_
  obtain ⟨c1, h⟩ := of_guard h
  obtain ⟨c2, h⟩ := of_guard h
  obtain ⟨c3, h⟩ := of_guard h
  refine j_draw (.box x1 27 [(.slice a0_0_A a0_0_n a0_0_c), (.slice a0_1_A a0_1_n a0_1_c), (.slice a0_2_A a0_2_n a0_2_c)] :: F) 14 follows_any rfl ?_
  refine d_take 1 rfl (q_fieldAddr fi27_0 sz25 rfl rfl rfl) rfl rfl (by kernel_rfl) (by kernel_rfl) (by kernel_rfl) (fun w h => h.tail) ?_
  refine d_take 2 rfl (q_loadb 0 rfl ag25 rfl rfl rfl) rfl rfl (by kernel_rfl) (by kernel_rfl) (by kernel_rfl) (fun w h => h.tail) ?_
  refine d_take 5 rfl (q_fieldAddr fi27_1 sz25 rfl rfl rfl) rfl rfl (by kernel_rfl) (by kernel_rfl) (by kernel_rfl) (fun w h => h.tail) ?_
  refine d_take 6 rfl (q_loadb 0 rfl ag25 rfl rfl rfl) rfl rfl (by kernel_rfl) (by kernel_rfl) (by kernel_rfl) (fun w h => h.tail) ?_
  refine d_take 9 rfl (q_fieldAddr fi27_2 sz25 rfl rfl rfl) rfl rfl (by kernel_rfl) (by kernel_rfl) (by kernel_rfl) (fun w h => h.tail) ?_
  refine d_take 10 rfl (q_loadb 0 rfl ag25 rfl rfl rfl) rfl rfl (by kernel_rfl) (by kernel_rfl) (by kernel_rfl) (fun w h => h.tail) ?_
  refine d_join (σ := (Option Addr) × (Option Addr × Nat) × (Option Addr) × (Option Addr × Nat) × (Option Addr) × (Option Addr × Nat)) 0 #[true, true, true, true, true, true, true, true, true, true, true, true, true, true] (fun s => [(2, (pt x2))]) (fun s => .row s.2.1.1 s.2.1.2 3 1 (ii (([] : List Int) ++ a0_0)) :: .row s.2.2.2.1.1 s.2.2.2.1.2 3 1 (ii (([] : List Int) ++ a0_1)) :: .row s.2.2.2.2.2.1 s.2.2.2.2.2.2 3 1 (ii (([] : List Int) ++ a0_2)) :: .box x2 27 [(.slice s.2.1.1 (0 + a0_0_n) s.2.1.2), (.slice s.2.2.2.1.1 (0 + a0_1_n) s.2.2.2.1.2), (.slice s.2.2.2.2.2.1 (0 + a0_2_n) s.2.2.2.2.2.2)] :: .box x1 27 [(.slice a0_0_A a0_0_n a0_0_c), (.slice a0_1_A a0_1_n a0_1_c), (.slice a0_2_A a0_2_n a0_2_c)] :: F) ?_ (fun hD16383 => ?_)
  · rintro ⟨x3, x4, x5, x6, x7, x8⟩
    show J _ _ [(2, (pt x2))] _ (.row x4.1 x4.2 3 1 (ii (([] : List Int) ++ a0_0)) :: .row x6.1 x6.2 3 1 (ii (([] : List Int) ++ a0_1)) :: .row x8.1 x8.2 3 1 (ii (([] : List Int) ++ a0_2)) :: .box x2 27 [(.slice x4.1 (0 + a0_0_n) x4.2), (.slice x6.1 (0 + a0_1_n) x6.2), (.slice x8.1 (0 + a0_2_n) x8.2)] :: .box x1 27 [(.slice a0_0_A a0_0_n a0_0_c), (.slice a0_1_A a0_1_n a0_1_c), (.slice a0_2_A a0_2_n a0_2_c)] :: F)
    refine d_done (by kernel_rfl) ?_
    refine j_then ?_
    refine j_ret ?_
    cases h
    exact j_return rfl (ResOf.cell 3 rfl rfl ag27 sz27 ResOf.nil) rfl (fun w h => ⟨(⟨x4.1, (0 + a0_0_n), x4.2, (app_len rfl a0_0_h)⟩, ⟨x6.1, (0 + a0_1_n), x6.2, (app_len rfl a0_1_h)⟩, ⟨x8.1, (0 + a0_2_n), x8.2, (app_len rfl a0_2_h)⟩), rfl, h.pick 5 [0, 1, 2] rfl⟩)
  refine d_join (σ := (Option Addr) × (Option Addr × Nat) × (Option Addr) × (Option Addr × Nat) × (Option Addr) × (Option Addr × Nat)) 1 #[true, true, true, true, true, true, true, true, true, true, true, true, true, false] (fun s => [(2, (pt x2)), (15, (.agg (List.toArray [(.slice s.2.1.1 (0 + a0_0_n) s.2.1.2), (.slice s.2.2.2.1.1 (0 + a0_1_n) s.2.2.2.1.2), (.slice s.2.2.2.2.2.1 (0 + a0_2_n) s.2.2.2.2.2.2)])))]) (fun s => .row s.2.1.1 s.2.1.2 3 1 (ii (([] : List Int) ++ a0_0)) :: .row s.2.2.2.1.1 s.2.2.2.1.2 3 1 (ii (([] : List Int) ++ a0_1)) :: .row s.2.2.2.2.2.1 s.2.2.2.2.2.2 3 1 (ii (([] : List Int) ++ a0_2)) :: .box x2 27 [(.slice none 0 0), (.slice none 0 0), (.slice none 0 0)] :: .box x1 27 [(.slice a0_0_A a0_0_n a0_0_c), (.slice a0_1_A a0_1_n a0_1_c), (.slice a0_2_A a0_2_n a0_2_c)] :: F) ?_ (fun hD8191 => ?_)
  · rintro ⟨x3, x4, x5, x6, x7, x8⟩
    show J _ _ [(2, (pt x2)), (15, (.agg (List.toArray [(.slice x4.1 (0 + a0_0_n) x4.2), (.slice x6.1 (0 + a0_1_n) x6.2), (.slice x8.1 (0 + a0_2_n) x8.2)])))] _ (.row x4.1 x4.2 3 1 (ii (([] : List Int) ++ a0_0)) :: .row x6.1 x6.2 3 1 (ii (([] : List Int) ++ a0_1)) :: .row x8.1 x8.2 3 1 (ii (([] : List Int) ++ a0_2)) :: .box x2 27 [(.slice none 0 0), (.slice none 0 0), (.slice none 0 0)] :: .box x1 27 [(.slice a0_0_A a0_0_n a0_0_c), (.slice a0_1_A a0_1_n a0_1_c), (.slice a0_2_A a0_2_n a0_2_c)] :: F)
    refine d_one 13 (by kernel_rfl) ?_
    · refine o_do rfl (a_storeb 3 rfl sz27 rfl rfl rfl rfl (Nat.le_of_ble_eq_true rfl) rfl) rfl rfl (fun _ w h => (h.drop 4)) (fun _ => ?_)
      refine j_b3 [(.slice x4.1 (0 + a0_0_n) x4.2), (.slice x6.1 (0 + a0_1_n) x6.2), (.slice x8.1 (0 + a0_2_n) x8.2)] rfl ?_
      refine j_rs (.row x4.1 x4.2 3 1 (ii (([] : List Int) ++ a0_0)) :: .row x6.1 x6.2 3 1 (ii (([] : List Int) ++ a0_1)) :: .row x8.1 x8.2 3 1 (ii (([] : List Int) ++ a0_2)) :: .box x2 27 [(.slice x4.1 (0 + a0_0_n) x4.2), (.slice x6.1 (0 + a0_1_n) x6.2), (.slice x8.1 (0 + a0_2_n) x8.2)] :: .box x1 27 [(.slice a0_0_A a0_0_n a0_0_c), (.slice a0_1_A a0_1_n a0_1_c), (.slice a0_2_A a0_2_n a0_2_c)] :: F) (fun _ h => h) ?_
      refine j_env [(2, (pt x2))] ⟨rfl, trivial⟩ ?_
      exact hD16383 (x3, x4, x5, x6, x7, x8)
  refine d_join (σ := (Option Addr) × (Option Addr × Nat) × (Option Addr) × (Option Addr × Nat) × (Option Addr)) 3 #[true, true, true, true, true, true, true, true, true, true, true, false, false, false] (fun s => [(2, (pt x2)), (6, (.slice s.2.1.1 (0 + a0_0_n) s.2.1.2)), (10, (.slice s.2.2.2.1.1 (0 + a0_1_n) s.2.2.2.1.2)), (11, (.slice s.2.2.2.2 0 0)), (13, (.slice a0_2_A a0_2_n a0_2_c))]) (fun s => .row s.2.1.1 s.2.1.2 3 1 (ii (([] : List Int) ++ a0_0)) :: .row s.2.2.2.1.1 s.2.2.2.1.2 3 1 (ii (([] : List Int) ++ a0_1)) :: .row s.2.2.2.2 0 3 1 (ii ([] : List Int)) :: .box x2 27 [(.slice none 0 0), (.slice none 0 0), (.slice none 0 0)] :: .box x1 27 [(.slice a0_0_A a0_0_n a0_0_c), (.slice a0_1_A a0_1_n a0_1_c), (.slice a0_2_A a0_2_n a0_2_c)] :: F) ?_ (fun hD2047 => ?_)
  · rintro ⟨x3, x4, x5, x6, x7⟩
    show J _ _ [(2, (pt x2)), (6, (.slice x4.1 (0 + a0_0_n) x4.2)), (10, (.slice x6.1 (0 + a0_1_n) x6.2)), (11, (.slice x7 0 0)), (13, (.slice a0_2_A a0_2_n a0_2_c))] _ (.row x4.1 x4.2 3 1 (ii (([] : List Int) ++ a0_0)) :: .row x6.1 x6.2 3 1 (ii (([] : List Int) ++ a0_1)) :: .row x7 0 3 1 (ii ([] : List Int)) :: .box x2 27 [(.slice none 0 0), (.slice none 0 0), (.slice none 0 0)] :: .box x1 27 [(.slice a0_0_A a0_0_n a0_0_c), (.slice a0_1_A a0_1_n a0_1_c), (.slice a0_2_A a0_2_n a0_2_c)] :: F)
    refine d_one 11 (by kernel_rfl) ?_
    · refine o_do rfl (a_appI (xs := ([] : List Int)) (ys := a0_2) 2 un25 un25 sz3 by3 zr3 rfl rfl rfl rfl rfl rfl rfl rfl rfl rfl a0_2_h (Rd.drop 5 a0_2_R) c3) rfl rfl (fun x8 w h => (h.drop 4)) (fun x8 => ?_)
      refine j_s2 ?_
      refine d_take 12 rfl (q_build (cs := [(.slice x4.1 (0 + a0_0_n) x4.2), (.slice x6.1 (0 + a0_1_n) x6.2), (.slice x8.1 (0 + a0_2_n) x8.2)]) zr27 pl27 rfl rfl rfl rfl) rfl rfl (by kernel_rfl) (by kernel_rfl) (by kernel_rfl) (fun w h => (h.drop 4)) ?_
      refine j_rs (.row x4.1 x4.2 3 1 (ii (([] : List Int) ++ a0_0)) :: .row x6.1 x6.2 3 1 (ii (([] : List Int) ++ a0_1)) :: .row x8.1 x8.2 3 1 (ii (([] : List Int) ++ a0_2)) :: .box x2 27 [(.slice none 0 0), (.slice none 0 0), (.slice none 0 0)] :: .box x1 27 [(.slice a0_0_A a0_0_n a0_0_c), (.slice a0_1_A a0_1_n a0_1_c), (.slice a0_2_A a0_2_n a0_2_c)] :: F) (fun _ h => h) ?_
      refine j_env [(2, (pt x2)), (15, (.agg (List.toArray [(.slice x4.1 (0 + a0_0_n) x4.2), (.slice x6.1 (0 + a0_1_n) x6.2), (.slice x8.1 (0 + a0_2_n) x8.2)])))] ⟨rfl, rfl, trivial⟩ ?_
      exact hD8191 (x3, x4, x5, x6, x7, x8)
  refine d_join (σ := (Option Addr) × (Option Addr × Nat) × (Option Addr) × (Option Addr × Nat)) 4 #[true, true, true, true, true, true, true, true, false, true, true, false, false, false] (fun s => [(2, (pt x2)), (6, (.slice s.2.1.1 (0 + a0_0_n) s.2.1.2)), (10, (.slice s.2.2.2.1 (0 + a0_1_n) s.2.2.2.2)), (13, (.slice a0_2_A a0_2_n a0_2_c))]) (fun s => .row s.2.1.1 s.2.1.2 3 1 (ii (([] : List Int) ++ a0_0)) :: .row s.2.2.2.1 s.2.2.2.2 3 1 (ii (([] : List Int) ++ a0_1)) :: .box x2 27 [(.slice none 0 0), (.slice none 0 0), (.slice none 0 0)] :: .box x1 27 [(.slice a0_0_A a0_0_n a0_0_c), (.slice a0_1_A a0_1_n a0_1_c), (.slice a0_2_A a0_2_n a0_2_c)] :: F) ?_ (fun hD1791 => ?_)
  · rintro ⟨x3, x4, x5, x6⟩
    show J _ _ [(2, (pt x2)), (6, (.slice x4.1 (0 + a0_0_n) x4.2)), (10, (.slice x6.1 (0 + a0_1_n) x6.2)), (13, (.slice a0_2_A a0_2_n a0_2_c))] _ (.row x4.1 x4.2 3 1 (ii (([] : List Int) ++ a0_0)) :: .row x6.1 x6.2 3 1 (ii (([] : List Int) ++ a0_1)) :: .box x2 27 [(.slice none 0 0), (.slice none 0 0), (.slice none 0 0)] :: .box x1 27 [(.slice a0_0_A a0_0_n a0_0_c), (.slice a0_1_A a0_1_n a0_1_c), (.slice a0_2_A a0_2_n a0_2_c)] :: F)
    refine d_one 8 (by kernel_rfl) ?_
    · refine o_do rfl (a_litX (vs := []) (ii ([] : List Int)) un25 sz3 zr3 rfl rfl rfl rfl rfl rfl rfl rfl rfl) rfl rfl (fun x7 w h => (h.drop 4)) (fun x7 => ?_)
      refine j_rs (.row x4.1 x4.2 3 1 (ii (([] : List Int) ++ a0_0)) :: .row x6.1 x6.2 3 1 (ii (([] : List Int) ++ a0_1)) :: .row x7 0 3 1 (ii ([] : List Int)) :: .box x2 27 [(.slice none 0 0), (.slice none 0 0), (.slice none 0 0)] :: .box x1 27 [(.slice a0_0_A a0_0_n a0_0_c), (.slice a0_1_A a0_1_n a0_1_c), (.slice a0_2_A a0_2_n a0_2_c)] :: F) (fun _ h => h.pick 5 [1, 2, 0, 3, 4] rfl) ?_
      refine j_env [(2, (pt x2)), (6, (.slice x4.1 (0 + a0_0_n) x4.2)), (10, (.slice x6.1 (0 + a0_1_n) x6.2)), (11, (.slice x7 0 0)), (13, (.slice a0_2_A a0_2_n a0_2_c))] ⟨rfl, rfl, rfl, rfl, rfl, trivial⟩ ?_
      exact hD2047 (x3, x4, x5, x6, x7)
  refine d_join (σ := (Option Addr) × (Option Addr × Nat) × (Option Addr) × (Option Addr)) 4 #[true, true, true, true, true, true, true, false, true, true, true, false, false, false] (fun s => [(2, (pt x2)), (6, (.slice s.2.1.1 (0 + a0_0_n) s.2.1.2)), (7, (.slice s.2.2.1 0 0)), (9, (.slice a0_1_A a0_1_n a0_1_c)), (11, (.slice s.2.2.2 0 0)), (13, (.slice a0_2_A a0_2_n a0_2_c))]) (fun s => .row s.2.1.1 s.2.1.2 3 1 (ii (([] : List Int) ++ a0_0)) :: .row s.2.2.1 0 3 1 (ii ([] : List Int)) :: .row s.2.2.2 0 3 1 (ii ([] : List Int)) :: .box x2 27 [(.slice none 0 0), (.slice none 0 0), (.slice none 0 0)] :: .box x1 27 [(.slice a0_0_A a0_0_n a0_0_c), (.slice a0_1_A a0_1_n a0_1_c), (.slice a0_2_A a0_2_n a0_2_c)] :: F) ?_ (fun hD1919 => ?_)
  · rintro ⟨x3, x4, x5, x7⟩
    show J _ _ [(2, (pt x2)), (6, (.slice x4.1 (0 + a0_0_n) x4.2)), (7, (.slice x5 0 0)), (9, (.slice a0_1_A a0_1_n a0_1_c)), (11, (.slice x7 0 0)), (13, (.slice a0_2_A a0_2_n a0_2_c))] _ (.row x4.1 x4.2 3 1 (ii (([] : List Int) ++ a0_0)) :: .row x5 0 3 1 (ii ([] : List Int)) :: .row x7 0 3 1 (ii ([] : List Int)) :: .box x2 27 [(.slice none 0 0), (.slice none 0 0), (.slice none 0 0)] :: .box x1 27 [(.slice a0_0_A a0_0_n a0_0_c), (.slice a0_1_A a0_1_n a0_1_c), (.slice a0_2_A a0_2_n a0_2_c)] :: F)
    refine d_one 7 (by kernel_rfl) ?_
    · refine o_do rfl (a_appI (xs := ([] : List Int)) (ys := a0_1) 1 un25 un25 sz3 by3 zr3 rfl rfl rfl rfl rfl rfl rfl rfl rfl rfl a0_1_h (Rd.drop 5 a0_1_R) c2) rfl rfl (fun x6 w h => (h.drop 4)) (fun x6 => ?_)
      refine j_s1 ?_
      refine j_rs (.row x4.1 x4.2 3 1 (ii (([] : List Int) ++ a0_0)) :: .row x6.1 x6.2 3 1 (ii (([] : List Int) ++ a0_1)) :: .row x7 0 3 1 (ii ([] : List Int)) :: .box x2 27 [(.slice none 0 0), (.slice none 0 0), (.slice none 0 0)] :: .box x1 27 [(.slice a0_0_A a0_0_n a0_0_c), (.slice a0_1_A a0_1_n a0_1_c), (.slice a0_2_A a0_2_n a0_2_c)] :: F) (fun _ h => h) ?_
      refine j_env [(2, (pt x2)), (6, (.slice x4.1 (0 + a0_0_n) x4.2)), (10, (.slice x6.1 (0 + a0_1_n) x6.2)), (11, (.slice x7 0 0)), (13, (.slice a0_2_A a0_2_n a0_2_c))] ⟨rfl, rfl, rfl, rfl, rfl, trivial⟩ ?_
      exact hD2047 (x3, x4, x5, x6, x7)
  refine d_join (σ := (Option Addr) × (Option Addr × Nat) × (Option Addr)) 5 #[true, true, true, true, true, true, true, false, false, true, true, false, false, false] (fun s => [(2, (pt x2)), (6, (.slice s.2.1.1 (0 + a0_0_n) s.2.1.2)), (7, (.slice s.2.2 0 0)), (9, (.slice a0_1_A a0_1_n a0_1_c)), (13, (.slice a0_2_A a0_2_n a0_2_c))]) (fun s => .row s.2.1.1 s.2.1.2 3 1 (ii (([] : List Int) ++ a0_0)) :: .row s.2.2 0 3 1 (ii ([] : List Int)) :: .box x2 27 [(.slice none 0 0), (.slice none 0 0), (.slice none 0 0)] :: .box x1 27 [(.slice a0_0_A a0_0_n a0_0_c), (.slice a0_1_A a0_1_n a0_1_c), (.slice a0_2_A a0_2_n a0_2_c)] :: F) ?_ (fun hD1663 => ?_)
  · rintro ⟨x3, x4, x5⟩
    show J _ _ [(2, (pt x2)), (6, (.slice x4.1 (0 + a0_0_n) x4.2)), (7, (.slice x5 0 0)), (9, (.slice a0_1_A a0_1_n a0_1_c)), (13, (.slice a0_2_A a0_2_n a0_2_c))] _ (.row x4.1 x4.2 3 1 (ii (([] : List Int) ++ a0_0)) :: .row x5 0 3 1 (ii ([] : List Int)) :: .box x2 27 [(.slice none 0 0), (.slice none 0 0), (.slice none 0 0)] :: .box x1 27 [(.slice a0_0_A a0_0_n a0_0_c), (.slice a0_1_A a0_1_n a0_1_c), (.slice a0_2_A a0_2_n a0_2_c)] :: F)
    refine d_two 7 8 (by kernel_rfl) ?_ ?_
    · refine o_do rfl (a_appI (xs := ([] : List Int)) (ys := a0_1) 1 un25 un25 sz3 by3 zr3 rfl rfl rfl rfl rfl rfl rfl rfl rfl rfl a0_1_h (Rd.drop 4 a0_1_R) c2) rfl rfl (fun x6 w h => (h.drop 3)) (fun x6 => ?_)
      refine j_s1 ?_
      refine j_rs (.row x4.1 x4.2 3 1 (ii (([] : List Int) ++ a0_0)) :: .row x6.1 x6.2 3 1 (ii (([] : List Int) ++ a0_1)) :: .box x2 27 [(.slice none 0 0), (.slice none 0 0), (.slice none 0 0)] :: .box x1 27 [(.slice a0_0_A a0_0_n a0_0_c), (.slice a0_1_A a0_1_n a0_1_c), (.slice a0_2_A a0_2_n a0_2_c)] :: F) (fun _ h => h) ?_
      refine j_env [(2, (pt x2)), (6, (.slice x4.1 (0 + a0_0_n) x4.2)), (10, (.slice x6.1 (0 + a0_1_n) x6.2)), (13, (.slice a0_2_A a0_2_n a0_2_c))] ⟨rfl, rfl, rfl, rfl, trivial⟩ ?_
      exact hD1791 (x3, x4, x5, x6)
    · refine o_do rfl (a_litX (vs := []) (ii ([] : List Int)) un25 sz3 zr3 rfl rfl rfl rfl rfl rfl rfl rfl rfl) rfl rfl (fun x7 w h => (h.drop 4)) (fun x7 => ?_)
      refine j_rs (.row x4.1 x4.2 3 1 (ii (([] : List Int) ++ a0_0)) :: .row x5 0 3 1 (ii ([] : List Int)) :: .row x7 0 3 1 (ii ([] : List Int)) :: .box x2 27 [(.slice none 0 0), (.slice none 0 0), (.slice none 0 0)] :: .box x1 27 [(.slice a0_0_A a0_0_n a0_0_c), (.slice a0_1_A a0_1_n a0_1_c), (.slice a0_2_A a0_2_n a0_2_c)] :: F) (fun _ h => h.pick 5 [1, 2, 0, 3, 4] rfl) ?_
      refine j_env [(2, (pt x2)), (6, (.slice x4.1 (0 + a0_0_n) x4.2)), (7, (.slice x5 0 0)), (9, (.slice a0_1_A a0_1_n a0_1_c)), (11, (.slice x7 0 0)), (13, (.slice a0_2_A a0_2_n a0_2_c))] ⟨rfl, rfl, rfl, rfl, rfl, rfl, trivial⟩ ?_
      exact hD1919 (x3, x4, x5, x7)
  refine d_join (σ := (Option Addr) × (Option Addr × Nat) × (Option Addr)) 5 #[true, true, true, true, false, true, true, false, true, true, true, false, false, false] (fun s => [(2, (pt x2)), (6, (.slice s.2.1.1 (0 + a0_0_n) s.2.1.2)), (9, (.slice a0_1_A a0_1_n a0_1_c)), (11, (.slice s.2.2 0 0)), (13, (.slice a0_2_A a0_2_n a0_2_c))]) (fun s => .row s.2.1.1 s.2.1.2 3 1 (ii (([] : List Int) ++ a0_0)) :: .row s.2.2 0 3 1 (ii ([] : List Int)) :: .box x2 27 [(.slice none 0 0), (.slice none 0 0), (.slice none 0 0)] :: .box x1 27 [(.slice a0_0_A a0_0_n a0_0_c), (.slice a0_1_A a0_1_n a0_1_c), (.slice a0_2_A a0_2_n a0_2_c)] :: F) ?_ (fun hD1903 => ?_)
  · rintro ⟨x3, x4, x7⟩
    show J _ _ [(2, (pt x2)), (6, (.slice x4.1 (0 + a0_0_n) x4.2)), (9, (.slice a0_1_A a0_1_n a0_1_c)), (11, (.slice x7 0 0)), (13, (.slice a0_2_A a0_2_n a0_2_c))] _ (.row x4.1 x4.2 3 1 (ii (([] : List Int) ++ a0_0)) :: .row x7 0 3 1 (ii ([] : List Int)) :: .box x2 27 [(.slice none 0 0), (.slice none 0 0), (.slice none 0 0)] :: .box x1 27 [(.slice a0_0_A a0_0_n a0_0_c), (.slice a0_1_A a0_1_n a0_1_c), (.slice a0_2_A a0_2_n a0_2_c)] :: F)
    refine d_one 4 (by kernel_rfl) ?_
    · refine o_do rfl (a_litX (vs := []) (ii ([] : List Int)) un25 sz3 zr3 rfl rfl rfl rfl rfl rfl rfl rfl rfl) rfl rfl (fun x5 w h => (h.drop 4)) (fun x5 => ?_)
      refine j_rs (.row x4.1 x4.2 3 1 (ii (([] : List Int) ++ a0_0)) :: .row x5 0 3 1 (ii ([] : List Int)) :: .row x7 0 3 1 (ii ([] : List Int)) :: .box x2 27 [(.slice none 0 0), (.slice none 0 0), (.slice none 0 0)] :: .box x1 27 [(.slice a0_0_A a0_0_n a0_0_c), (.slice a0_1_A a0_1_n a0_1_c), (.slice a0_2_A a0_2_n a0_2_c)] :: F) (fun _ h => h.pick 5 [1, 0, 2, 3, 4] rfl) ?_
      refine j_env [(2, (pt x2)), (6, (.slice x4.1 (0 + a0_0_n) x4.2)), (7, (.slice x5 0 0)), (9, (.slice a0_1_A a0_1_n a0_1_c)), (11, (.slice x7 0 0)), (13, (.slice a0_2_A a0_2_n a0_2_c))] ⟨rfl, rfl, rfl, rfl, rfl, rfl, trivial⟩ ?_
      exact hD1919 (x3, x4, x5, x7)
  refine d_join (σ := (Option Addr) × (Option Addr) × (Option Addr)) 5 #[true, true, true, false, true, true, true, false, true, true, true, false, false, false] (fun s => [(2, (pt x2)), (3, (.slice s.1 0 0)), (5, (.slice a0_0_A a0_0_n a0_0_c)), (7, (.slice s.2.1 0 0)), (9, (.slice a0_1_A a0_1_n a0_1_c)), (11, (.slice s.2.2 0 0)), (13, (.slice a0_2_A a0_2_n a0_2_c))]) (fun s => .row s.1 0 3 1 (ii ([] : List Int)) :: .row s.2.1 0 3 1 (ii ([] : List Int)) :: .row s.2.2 0 3 1 (ii ([] : List Int)) :: .box x2 27 [(.slice none 0 0), (.slice none 0 0), (.slice none 0 0)] :: .box x1 27 [(.slice a0_0_A a0_0_n a0_0_c), (.slice a0_1_A a0_1_n a0_1_c), (.slice a0_2_A a0_2_n a0_2_c)] :: F) ?_ (fun hD1911 => ?_)
  · rintro ⟨x3, x5, x7⟩
    show J _ _ [(2, (pt x2)), (3, (.slice x3 0 0)), (5, (.slice a0_0_A a0_0_n a0_0_c)), (7, (.slice x5 0 0)), (9, (.slice a0_1_A a0_1_n a0_1_c)), (11, (.slice x7 0 0)), (13, (.slice a0_2_A a0_2_n a0_2_c))] _ (.row x3 0 3 1 (ii ([] : List Int)) :: .row x5 0 3 1 (ii ([] : List Int)) :: .row x7 0 3 1 (ii ([] : List Int)) :: .box x2 27 [(.slice none 0 0), (.slice none 0 0), (.slice none 0 0)] :: .box x1 27 [(.slice a0_0_A a0_0_n a0_0_c), (.slice a0_1_A a0_1_n a0_1_c), (.slice a0_2_A a0_2_n a0_2_c)] :: F)
    refine d_one 3 (by kernel_rfl) ?_
    · refine o_do rfl (a_appI (xs := ([] : List Int)) (ys := a0_0) 0 un25 un25 sz3 by3 zr3 rfl rfl rfl rfl rfl rfl rfl rfl rfl rfl a0_0_h (Rd.drop 5 a0_0_R) c1) rfl rfl (fun x4 w h => (h.drop 4)) (fun x4 => ?_)
      refine j_s0 ?_
      refine j_rs (.row x4.1 x4.2 3 1 (ii (([] : List Int) ++ a0_0)) :: .row x5 0 3 1 (ii ([] : List Int)) :: .row x7 0 3 1 (ii ([] : List Int)) :: .box x2 27 [(.slice none 0 0), (.slice none 0 0), (.slice none 0 0)] :: .box x1 27 [(.slice a0_0_A a0_0_n a0_0_c), (.slice a0_1_A a0_1_n a0_1_c), (.slice a0_2_A a0_2_n a0_2_c)] :: F) (fun _ h => h) ?_
      refine j_env [(2, (pt x2)), (6, (.slice x4.1 (0 + a0_0_n) x4.2)), (7, (.slice x5 0 0)), (9, (.slice a0_1_A a0_1_n a0_1_c)), (11, (.slice x7 0 0)), (13, (.slice a0_2_A a0_2_n a0_2_c))] ⟨rfl, rfl, rfl, rfl, rfl, rfl, trivial⟩ ?_
      exact hD1919 (x3, x4, x5, x7)
  refine d_join (σ := (Option Addr) × (Option Addr × Nat)) 6 #[true, true, true, true, false, true, true, false, false, true, true, false, false, false] (fun s => [(2, (pt x2)), (6, (.slice s.2.1 (0 + a0_0_n) s.2.2)), (9, (.slice a0_1_A a0_1_n a0_1_c)), (13, (.slice a0_2_A a0_2_n a0_2_c))]) (fun s => .row s.2.1 s.2.2 3 1 (ii (([] : List Int) ++ a0_0)) :: .box x2 27 [(.slice none 0 0), (.slice none 0 0), (.slice none 0 0)] :: .box x1 27 [(.slice a0_0_A a0_0_n a0_0_c), (.slice a0_1_A a0_1_n a0_1_c), (.slice a0_2_A a0_2_n a0_2_c)] :: F) ?_ (fun hD1647 => ?_)
  · rintro ⟨x3, x4⟩
    show J _ _ [(2, (pt x2)), (6, (.slice x4.1 (0 + a0_0_n) x4.2)), (9, (.slice a0_1_A a0_1_n a0_1_c)), (13, (.slice a0_2_A a0_2_n a0_2_c))] _ (.row x4.1 x4.2 3 1 (ii (([] : List Int) ++ a0_0)) :: .box x2 27 [(.slice none 0 0), (.slice none 0 0), (.slice none 0 0)] :: .box x1 27 [(.slice a0_0_A a0_0_n a0_0_c), (.slice a0_1_A a0_1_n a0_1_c), (.slice a0_2_A a0_2_n a0_2_c)] :: F)
    refine d_two 4 8 (by kernel_rfl) ?_ ?_
    · refine o_do rfl (a_litX (vs := []) (ii ([] : List Int)) un25 sz3 zr3 rfl rfl rfl rfl rfl rfl rfl rfl rfl) rfl rfl (fun x5 w h => (h.drop 3)) (fun x5 => ?_)
      refine j_rs (.row x4.1 x4.2 3 1 (ii (([] : List Int) ++ a0_0)) :: .row x5 0 3 1 (ii ([] : List Int)) :: .box x2 27 [(.slice none 0 0), (.slice none 0 0), (.slice none 0 0)] :: .box x1 27 [(.slice a0_0_A a0_0_n a0_0_c), (.slice a0_1_A a0_1_n a0_1_c), (.slice a0_2_A a0_2_n a0_2_c)] :: F) (fun _ h => h.pick 4 [1, 0, 2, 3] rfl) ?_
      refine j_env [(2, (pt x2)), (6, (.slice x4.1 (0 + a0_0_n) x4.2)), (7, (.slice x5 0 0)), (9, (.slice a0_1_A a0_1_n a0_1_c)), (13, (.slice a0_2_A a0_2_n a0_2_c))] ⟨rfl, rfl, rfl, rfl, rfl, trivial⟩ ?_
      exact hD1663 (x3, x4, x5)
    · refine o_do rfl (a_litX (vs := []) (ii ([] : List Int)) un25 sz3 zr3 rfl rfl rfl rfl rfl rfl rfl rfl rfl) rfl rfl (fun x7 w h => (h.drop 3)) (fun x7 => ?_)
      refine j_rs (.row x4.1 x4.2 3 1 (ii (([] : List Int) ++ a0_0)) :: .row x7 0 3 1 (ii ([] : List Int)) :: .box x2 27 [(.slice none 0 0), (.slice none 0 0), (.slice none 0 0)] :: .box x1 27 [(.slice a0_0_A a0_0_n a0_0_c), (.slice a0_1_A a0_1_n a0_1_c), (.slice a0_2_A a0_2_n a0_2_c)] :: F) (fun _ h => h.pick 4 [1, 0, 2, 3] rfl) ?_
      refine j_env [(2, (pt x2)), (6, (.slice x4.1 (0 + a0_0_n) x4.2)), (9, (.slice a0_1_A a0_1_n a0_1_c)), (11, (.slice x7 0 0)), (13, (.slice a0_2_A a0_2_n a0_2_c))] ⟨rfl, rfl, rfl, rfl, rfl, trivial⟩ ?_
      exact hD1903 (x3, x4, x7)
  refine d_join (σ := (Option Addr) × (Option Addr)) 6 #[true, true, true, false, true, true, true, false, false, true, true, false, false, false] (fun s => [(2, (pt x2)), (3, (.slice s.1 0 0)), (5, (.slice a0_0_A a0_0_n a0_0_c)), (7, (.slice s.2 0 0)), (9, (.slice a0_1_A a0_1_n a0_1_c)), (13, (.slice a0_2_A a0_2_n a0_2_c))]) (fun s => .row s.1 0 3 1 (ii ([] : List Int)) :: .row s.2 0 3 1 (ii ([] : List Int)) :: .box x2 27 [(.slice none 0 0), (.slice none 0 0), (.slice none 0 0)] :: .box x1 27 [(.slice a0_0_A a0_0_n a0_0_c), (.slice a0_1_A a0_1_n a0_1_c), (.slice a0_2_A a0_2_n a0_2_c)] :: F) ?_ (fun hD1655 => ?_)
  · rintro ⟨x3, x5⟩
    show J _ _ [(2, (pt x2)), (3, (.slice x3 0 0)), (5, (.slice a0_0_A a0_0_n a0_0_c)), (7, (.slice x5 0 0)), (9, (.slice a0_1_A a0_1_n a0_1_c)), (13, (.slice a0_2_A a0_2_n a0_2_c))] _ (.row x3 0 3 1 (ii ([] : List Int)) :: .row x5 0 3 1 (ii ([] : List Int)) :: .box x2 27 [(.slice none 0 0), (.slice none 0 0), (.slice none 0 0)] :: .box x1 27 [(.slice a0_0_A a0_0_n a0_0_c), (.slice a0_1_A a0_1_n a0_1_c), (.slice a0_2_A a0_2_n a0_2_c)] :: F)
    refine d_two 3 8 (by kernel_rfl) ?_ ?_
    · refine o_do rfl (a_appI (xs := ([] : List Int)) (ys := a0_0) 0 un25 un25 sz3 by3 zr3 rfl rfl rfl rfl rfl rfl rfl rfl rfl rfl a0_0_h (Rd.drop 4 a0_0_R) c1) rfl rfl (fun x4 w h => (h.drop 3)) (fun x4 => ?_)
      refine j_s0 ?_
      refine j_rs (.row x4.1 x4.2 3 1 (ii (([] : List Int) ++ a0_0)) :: .row x5 0 3 1 (ii ([] : List Int)) :: .box x2 27 [(.slice none 0 0), (.slice none 0 0), (.slice none 0 0)] :: .box x1 27 [(.slice a0_0_A a0_0_n a0_0_c), (.slice a0_1_A a0_1_n a0_1_c), (.slice a0_2_A a0_2_n a0_2_c)] :: F) (fun _ h => h) ?_
      refine j_env [(2, (pt x2)), (6, (.slice x4.1 (0 + a0_0_n) x4.2)), (7, (.slice x5 0 0)), (9, (.slice a0_1_A a0_1_n a0_1_c)), (13, (.slice a0_2_A a0_2_n a0_2_c))] ⟨rfl, rfl, rfl, rfl, rfl, trivial⟩ ?_
      exact hD1663 (x3, x4, x5)
    · refine o_do rfl (a_litX (vs := []) (ii ([] : List Int)) un25 sz3 zr3 rfl rfl rfl rfl rfl rfl rfl rfl rfl) rfl rfl (fun x7 w h => (h.drop 4)) (fun x7 => ?_)
      refine j_rs (.row x3 0 3 1 (ii ([] : List Int)) :: .row x5 0 3 1 (ii ([] : List Int)) :: .row x7 0 3 1 (ii ([] : List Int)) :: .box x2 27 [(.slice none 0 0), (.slice none 0 0), (.slice none 0 0)] :: .box x1 27 [(.slice a0_0_A a0_0_n a0_0_c), (.slice a0_1_A a0_1_n a0_1_c), (.slice a0_2_A a0_2_n a0_2_c)] :: F) (fun _ h => h.pick 5 [1, 2, 0, 3, 4] rfl) ?_
      refine j_env [(2, (pt x2)), (3, (.slice x3 0 0)), (5, (.slice a0_0_A a0_0_n a0_0_c)), (7, (.slice x5 0 0)), (9, (.slice a0_1_A a0_1_n a0_1_c)), (11, (.slice x7 0 0)), (13, (.slice a0_2_A a0_2_n a0_2_c))] ⟨rfl, rfl, rfl, rfl, rfl, rfl, rfl, trivial⟩ ?_
      exact hD1911 (x3, x5, x7)
  refine d_join (σ := (Option Addr) × (Option Addr)) 6 #[true, true, true, false, false, true, true, false, true, true, true, false, false, false] (fun s => [(2, (pt x2)), (3, (.slice s.1 0 0)), (5, (.slice a0_0_A a0_0_n a0_0_c)), (9, (.slice a0_1_A a0_1_n a0_1_c)), (11, (.slice s.2 0 0)), (13, (.slice a0_2_A a0_2_n a0_2_c))]) (fun s => .row s.1 0 3 1 (ii ([] : List Int)) :: .row s.2 0 3 1 (ii ([] : List Int)) :: .box x2 27 [(.slice none 0 0), (.slice none 0 0), (.slice none 0 0)] :: .box x1 27 [(.slice a0_0_A a0_0_n a0_0_c), (.slice a0_1_A a0_1_n a0_1_c), (.slice a0_2_A a0_2_n a0_2_c)] :: F) ?_ (fun hD1895 => ?_)
  · rintro ⟨x3, x7⟩
    show J _ _ [(2, (pt x2)), (3, (.slice x3 0 0)), (5, (.slice a0_0_A a0_0_n a0_0_c)), (9, (.slice a0_1_A a0_1_n a0_1_c)), (11, (.slice x7 0 0)), (13, (.slice a0_2_A a0_2_n a0_2_c))] _ (.row x3 0 3 1 (ii ([] : List Int)) :: .row x7 0 3 1 (ii ([] : List Int)) :: .box x2 27 [(.slice none 0 0), (.slice none 0 0), (.slice none 0 0)] :: .box x1 27 [(.slice a0_0_A a0_0_n a0_0_c), (.slice a0_1_A a0_1_n a0_1_c), (.slice a0_2_A a0_2_n a0_2_c)] :: F)
    refine d_two 3 4 (by kernel_rfl) ?_ ?_
    · refine o_do rfl (a_appI (xs := ([] : List Int)) (ys := a0_0) 0 un25 un25 sz3 by3 zr3 rfl rfl rfl rfl rfl rfl rfl rfl rfl rfl a0_0_h (Rd.drop 4 a0_0_R) c1) rfl rfl (fun x4 w h => (h.drop 3)) (fun x4 => ?_)
      refine j_s0 ?_
      refine j_rs (.row x4.1 x4.2 3 1 (ii (([] : List Int) ++ a0_0)) :: .row x7 0 3 1 (ii ([] : List Int)) :: .box x2 27 [(.slice none 0 0), (.slice none 0 0), (.slice none 0 0)] :: .box x1 27 [(.slice a0_0_A a0_0_n a0_0_c), (.slice a0_1_A a0_1_n a0_1_c), (.slice a0_2_A a0_2_n a0_2_c)] :: F) (fun _ h => h) ?_
      refine j_env [(2, (pt x2)), (6, (.slice x4.1 (0 + a0_0_n) x4.2)), (9, (.slice a0_1_A a0_1_n a0_1_c)), (11, (.slice x7 0 0)), (13, (.slice a0_2_A a0_2_n a0_2_c))] ⟨rfl, rfl, rfl, rfl, rfl, trivial⟩ ?_
      exact hD1903 (x3, x4, x7)
    · refine o_do rfl (a_litX (vs := []) (ii ([] : List Int)) un25 sz3 zr3 rfl rfl rfl rfl rfl rfl rfl rfl rfl) rfl rfl (fun x5 w h => (h.drop 4)) (fun x5 => ?_)
      refine j_rs (.row x3 0 3 1 (ii ([] : List Int)) :: .row x5 0 3 1 (ii ([] : List Int)) :: .row x7 0 3 1 (ii ([] : List Int)) :: .box x2 27 [(.slice none 0 0), (.slice none 0 0), (.slice none 0 0)] :: .box x1 27 [(.slice a0_0_A a0_0_n a0_0_c), (.slice a0_1_A a0_1_n a0_1_c), (.slice a0_2_A a0_2_n a0_2_c)] :: F) (fun _ h => h.pick 5 [1, 0, 2, 3, 4] rfl) ?_
      refine j_env [(2, (pt x2)), (3, (.slice x3 0 0)), (5, (.slice a0_0_A a0_0_n a0_0_c)), (7, (.slice x5 0 0)), (9, (.slice a0_1_A a0_1_n a0_1_c)), (11, (.slice x7 0 0)), (13, (.slice a0_2_A a0_2_n a0_2_c))] ⟨rfl, rfl, rfl, rfl, rfl, rfl, rfl, trivial⟩ ?_
      exact hD1911 (x3, x5, x7)
  refine d_join (σ := (Option Addr) × (Option Addr)) 6 #[false, true, true, false, true, true, true, false, true, true, true, false, false, false] (fun s => [(2, (pt x2)), (5, (.slice a0_0_A a0_0_n a0_0_c)), (7, (.slice s.1 0 0)), (9, (.slice a0_1_A a0_1_n a0_1_c)), (11, (.slice s.2 0 0)), (13, (.slice a0_2_A a0_2_n a0_2_c))]) (fun s => .row s.1 0 3 1 (ii ([] : List Int)) :: .row s.2 0 3 1 (ii ([] : List Int)) :: .box x2 27 [(.slice none 0 0), (.slice none 0 0), (.slice none 0 0)] :: .box x1 27 [(.slice a0_0_A a0_0_n a0_0_c), (.slice a0_1_A a0_1_n a0_1_c), (.slice a0_2_A a0_2_n a0_2_c)] :: F) ?_ (fun hD1910 => ?_)
  · rintro ⟨x5, x7⟩
    show J _ _ [(2, (pt x2)), (5, (.slice a0_0_A a0_0_n a0_0_c)), (7, (.slice x5 0 0)), (9, (.slice a0_1_A a0_1_n a0_1_c)), (11, (.slice x7 0 0)), (13, (.slice a0_2_A a0_2_n a0_2_c))] _ (.row x5 0 3 1 (ii ([] : List Int)) :: .row x7 0 3 1 (ii ([] : List Int)) :: .box x2 27 [(.slice none 0 0), (.slice none 0 0), (.slice none 0 0)] :: .box x1 27 [(.slice a0_0_A a0_0_n a0_0_c), (.slice a0_1_A a0_1_n a0_1_c), (.slice a0_2_A a0_2_n a0_2_c)] :: F)
    refine d_one 0 (by kernel_rfl) ?_
    · refine o_do rfl (a_litX (vs := []) (ii ([] : List Int)) un25 sz3 zr3 rfl rfl rfl rfl rfl rfl rfl rfl rfl) rfl rfl (fun x3 w h => (h.drop 4)) (fun x3 => ?_)
      refine j_rs (.row x3 0 3 1 (ii ([] : List Int)) :: .row x5 0 3 1 (ii ([] : List Int)) :: .row x7 0 3 1 (ii ([] : List Int)) :: .box x2 27 [(.slice none 0 0), (.slice none 0 0), (.slice none 0 0)] :: .box x1 27 [(.slice a0_0_A a0_0_n a0_0_c), (.slice a0_1_A a0_1_n a0_1_c), (.slice a0_2_A a0_2_n a0_2_c)] :: F) (fun _ h => h) ?_
      refine j_env [(2, (pt x2)), (3, (.slice x3 0 0)), (5, (.slice a0_0_A a0_0_n a0_0_c)), (7, (.slice x5 0 0)), (9, (.slice a0_1_A a0_1_n a0_1_c)), (11, (.slice x7 0 0)), (13, (.slice a0_2_A a0_2_n a0_2_c))] ⟨rfl, rfl, rfl, rfl, rfl, rfl, rfl, trivial⟩ ?_
      exact hD1911 (x3, x5, x7)
  refine d_join (σ := (Option Addr)) 7 #[true, true, true, false, false, true, true, false, false, true, true, false, false, false] (fun s => [(2, (pt x2)), (3, (.slice s 0 0)), (5, (.slice a0_0_A a0_0_n a0_0_c)), (9, (.slice a0_1_A a0_1_n a0_1_c)), (13, (.slice a0_2_A a0_2_n a0_2_c))]) (fun s => .row s 0 3 1 (ii ([] : List Int)) :: .box x2 27 [(.slice none 0 0), (.slice none 0 0), (.slice none 0 0)] :: .box x1 27 [(.slice a0_0_A a0_0_n a0_0_c), (.slice a0_1_A a0_1_n a0_1_c), (.slice a0_2_A a0_2_n a0_2_c)] :: F) ?_ (fun hD1639 => ?_)
  · rintro x3
    show J _ _ [(2, (pt x2)), (3, (.slice x3 0 0)), (5, (.slice a0_0_A a0_0_n a0_0_c)), (9, (.slice a0_1_A a0_1_n a0_1_c)), (13, (.slice a0_2_A a0_2_n a0_2_c))] _ (.row x3 0 3 1 (ii ([] : List Int)) :: .box x2 27 [(.slice none 0 0), (.slice none 0 0), (.slice none 0 0)] :: .box x1 27 [(.slice a0_0_A a0_0_n a0_0_c), (.slice a0_1_A a0_1_n a0_1_c), (.slice a0_2_A a0_2_n a0_2_c)] :: F)
    refine d_three 3 4 8 (by kernel_rfl) ?_ ?_ ?_
    · refine o_do rfl (a_appI (xs := ([] : List Int)) (ys := a0_0) 0 un25 un25 sz3 by3 zr3 rfl rfl rfl rfl rfl rfl rfl rfl rfl rfl a0_0_h (Rd.drop 3 a0_0_R) c1) rfl rfl (fun x4 w h => (h.drop 2)) (fun x4 => ?_)
      refine j_s0 ?_
      refine j_rs (.row x4.1 x4.2 3 1 (ii (([] : List Int) ++ a0_0)) :: .box x2 27 [(.slice none 0 0), (.slice none 0 0), (.slice none 0 0)] :: .box x1 27 [(.slice a0_0_A a0_0_n a0_0_c), (.slice a0_1_A a0_1_n a0_1_c), (.slice a0_2_A a0_2_n a0_2_c)] :: F) (fun _ h => h) ?_
      refine j_env [(2, (pt x2)), (6, (.slice x4.1 (0 + a0_0_n) x4.2)), (9, (.slice a0_1_A a0_1_n a0_1_c)), (13, (.slice a0_2_A a0_2_n a0_2_c))] ⟨rfl, rfl, rfl, rfl, trivial⟩ ?_
      exact hD1647 (x3, x4)
    · refine o_do rfl (a_litX (vs := []) (ii ([] : List Int)) un25 sz3 zr3 rfl rfl rfl rfl rfl rfl rfl rfl rfl) rfl rfl (fun x5 w h => (h.drop 3)) (fun x5 => ?_)
      refine j_rs (.row x3 0 3 1 (ii ([] : List Int)) :: .row x5 0 3 1 (ii ([] : List Int)) :: .box x2 27 [(.slice none 0 0), (.slice none 0 0), (.slice none 0 0)] :: .box x1 27 [(.slice a0_0_A a0_0_n a0_0_c), (.slice a0_1_A a0_1_n a0_1_c), (.slice a0_2_A a0_2_n a0_2_c)] :: F) (fun _ h => h.pick 4 [1, 0, 2, 3] rfl) ?_
      refine j_env [(2, (pt x2)), (3, (.slice x3 0 0)), (5, (.slice a0_0_A a0_0_n a0_0_c)), (7, (.slice x5 0 0)), (9, (.slice a0_1_A a0_1_n a0_1_c)), (13, (.slice a0_2_A a0_2_n a0_2_c))] ⟨rfl, rfl, rfl, rfl, rfl, rfl, trivial⟩ ?_
      exact hD1655 (x3, x5)
    · refine o_do rfl (a_litX (vs := []) (ii ([] : List Int)) un25 sz3 zr3 rfl rfl rfl rfl rfl rfl rfl rfl rfl) rfl rfl (fun x7 w h => (h.drop 3)) (fun x7 => ?_)
      refine j_rs (.row x3 0 3 1 (ii ([] : List Int)) :: .row x7 0 3 1 (ii ([] : List Int)) :: .box x2 27 [(.slice none 0 0), (.slice none 0 0), (.slice none 0 0)] :: .box x1 27 [(.slice a0_0_A a0_0_n a0_0_c), (.slice a0_1_A a0_1_n a0_1_c), (.slice a0_2_A a0_2_n a0_2_c)] :: F) (fun _ h => h.pick 4 [1, 0, 2, 3] rfl) ?_
      refine j_env [(2, (pt x2)), (3, (.slice x3 0 0)), (5, (.slice a0_0_A a0_0_n a0_0_c)), (9, (.slice a0_1_A a0_1_n a0_1_c)), (11, (.slice x7 0 0)), (13, (.slice a0_2_A a0_2_n a0_2_c))] ⟨rfl, rfl, rfl, rfl, rfl, rfl, trivial⟩ ?_
      exact hD1895 (x3, x7)
  refine d_join (σ := (Option Addr)) 7 #[false, true, true, false, true, true, true, false, false, true, true, false, false, false] (fun s => [(2, (pt x2)), (5, (.slice a0_0_A a0_0_n a0_0_c)), (7, (.slice s 0 0)), (9, (.slice a0_1_A a0_1_n a0_1_c)), (13, (.slice a0_2_A a0_2_n a0_2_c))]) (fun s => .row s 0 3 1 (ii ([] : List Int)) :: .box x2 27 [(.slice none 0 0), (.slice none 0 0), (.slice none 0 0)] :: .box x1 27 [(.slice a0_0_A a0_0_n a0_0_c), (.slice a0_1_A a0_1_n a0_1_c), (.slice a0_2_A a0_2_n a0_2_c)] :: F) ?_ (fun hD1654 => ?_)
  · rintro x5
    show J _ _ [(2, (pt x2)), (5, (.slice a0_0_A a0_0_n a0_0_c)), (7, (.slice x5 0 0)), (9, (.slice a0_1_A a0_1_n a0_1_c)), (13, (.slice a0_2_A a0_2_n a0_2_c))] _ (.row x5 0 3 1 (ii ([] : List Int)) :: .box x2 27 [(.slice none 0 0), (.slice none 0 0), (.slice none 0 0)] :: .box x1 27 [(.slice a0_0_A a0_0_n a0_0_c), (.slice a0_1_A a0_1_n a0_1_c), (.slice a0_2_A a0_2_n a0_2_c)] :: F)
    refine d_two 0 8 (by kernel_rfl) ?_ ?_
    · refine o_do rfl (a_litX (vs := []) (ii ([] : List Int)) un25 sz3 zr3 rfl rfl rfl rfl rfl rfl rfl rfl rfl) rfl rfl (fun x3 w h => (h.drop 3)) (fun x3 => ?_)
      refine j_rs (.row x3 0 3 1 (ii ([] : List Int)) :: .row x5 0 3 1 (ii ([] : List Int)) :: .box x2 27 [(.slice none 0 0), (.slice none 0 0), (.slice none 0 0)] :: .box x1 27 [(.slice a0_0_A a0_0_n a0_0_c), (.slice a0_1_A a0_1_n a0_1_c), (.slice a0_2_A a0_2_n a0_2_c)] :: F) (fun _ h => h) ?_
      refine j_env [(2, (pt x2)), (3, (.slice x3 0 0)), (5, (.slice a0_0_A a0_0_n a0_0_c)), (7, (.slice x5 0 0)), (9, (.slice a0_1_A a0_1_n a0_1_c)), (13, (.slice a0_2_A a0_2_n a0_2_c))] ⟨rfl, rfl, rfl, rfl, rfl, rfl, trivial⟩ ?_
      exact hD1655 (x3, x5)
    · refine o_do rfl (a_litX (vs := []) (ii ([] : List Int)) un25 sz3 zr3 rfl rfl rfl rfl rfl rfl rfl rfl rfl) rfl rfl (fun x7 w h => (h.drop 3)) (fun x7 => ?_)
      refine j_rs (.row x5 0 3 1 (ii ([] : List Int)) :: .row x7 0 3 1 (ii ([] : List Int)) :: .box x2 27 [(.slice none 0 0), (.slice none 0 0), (.slice none 0 0)] :: .box x1 27 [(.slice a0_0_A a0_0_n a0_0_c), (.slice a0_1_A a0_1_n a0_1_c), (.slice a0_2_A a0_2_n a0_2_c)] :: F) (fun _ h => h.pick 4 [1, 0, 2, 3] rfl) ?_
      refine j_env [(2, (pt x2)), (5, (.slice a0_0_A a0_0_n a0_0_c)), (7, (.slice x5 0 0)), (9, (.slice a0_1_A a0_1_n a0_1_c)), (11, (.slice x7 0 0)), (13, (.slice a0_2_A a0_2_n a0_2_c))] ⟨rfl, rfl, rfl, rfl, rfl, rfl, trivial⟩ ?_
      exact hD1910 (x5, x7)
  refine d_join (σ := (Option Addr)) 7 #[false, true, true, false, false, true, true, false, true, true, true, false, false, false] (fun s => [(2, (pt x2)), (5, (.slice a0_0_A a0_0_n a0_0_c)), (9, (.slice a0_1_A a0_1_n a0_1_c)), (11, (.slice s 0 0)), (13, (.slice a0_2_A a0_2_n a0_2_c))]) (fun s => .row s 0 3 1 (ii ([] : List Int)) :: .box x2 27 [(.slice none 0 0), (.slice none 0 0), (.slice none 0 0)] :: .box x1 27 [(.slice a0_0_A a0_0_n a0_0_c), (.slice a0_1_A a0_1_n a0_1_c), (.slice a0_2_A a0_2_n a0_2_c)] :: F) ?_ (fun hD1894 => ?_)
  · rintro x7
    show J _ _ [(2, (pt x2)), (5, (.slice a0_0_A a0_0_n a0_0_c)), (9, (.slice a0_1_A a0_1_n a0_1_c)), (11, (.slice x7 0 0)), (13, (.slice a0_2_A a0_2_n a0_2_c))] _ (.row x7 0 3 1 (ii ([] : List Int)) :: .box x2 27 [(.slice none 0 0), (.slice none 0 0), (.slice none 0 0)] :: .box x1 27 [(.slice a0_0_A a0_0_n a0_0_c), (.slice a0_1_A a0_1_n a0_1_c), (.slice a0_2_A a0_2_n a0_2_c)] :: F)
    refine d_two 0 4 (by kernel_rfl) ?_ ?_
    · refine o_do rfl (a_litX (vs := []) (ii ([] : List Int)) un25 sz3 zr3 rfl rfl rfl rfl rfl rfl rfl rfl rfl) rfl rfl (fun x3 w h => (h.drop 3)) (fun x3 => ?_)
      refine j_rs (.row x3 0 3 1 (ii ([] : List Int)) :: .row x7 0 3 1 (ii ([] : List Int)) :: .box x2 27 [(.slice none 0 0), (.slice none 0 0), (.slice none 0 0)] :: .box x1 27 [(.slice a0_0_A a0_0_n a0_0_c), (.slice a0_1_A a0_1_n a0_1_c), (.slice a0_2_A a0_2_n a0_2_c)] :: F) (fun _ h => h) ?_
      refine j_env [(2, (pt x2)), (3, (.slice x3 0 0)), (5, (.slice a0_0_A a0_0_n a0_0_c)), (9, (.slice a0_1_A a0_1_n a0_1_c)), (11, (.slice x7 0 0)), (13, (.slice a0_2_A a0_2_n a0_2_c))] ⟨rfl, rfl, rfl, rfl, rfl, rfl, trivial⟩ ?_
      exact hD1895 (x3, x7)
    · refine o_do rfl (a_litX (vs := []) (ii ([] : List Int)) un25 sz3 zr3 rfl rfl rfl rfl rfl rfl rfl rfl rfl) rfl rfl (fun x5 w h => (h.drop 3)) (fun x5 => ?_)
      refine j_rs (.row x5 0 3 1 (ii ([] : List Int)) :: .row x7 0 3 1 (ii ([] : List Int)) :: .box x2 27 [(.slice none 0 0), (.slice none 0 0), (.slice none 0 0)] :: .box x1 27 [(.slice a0_0_A a0_0_n a0_0_c), (.slice a0_1_A a0_1_n a0_1_c), (.slice a0_2_A a0_2_n a0_2_c)] :: F) (fun _ h => h) ?_
      refine j_env [(2, (pt x2)), (5, (.slice a0_0_A a0_0_n a0_0_c)), (7, (.slice x5 0 0)), (9, (.slice a0_1_A a0_1_n a0_1_c)), (11, (.slice x7 0 0)), (13, (.slice a0_2_A a0_2_n a0_2_c))] ⟨rfl, rfl, rfl, rfl, rfl, rfl, trivial⟩ ?_
      exact hD1910 (x5, x7)
  refine d_three 0 4 8 (by kernel_rfl) ?_ ?_ ?_
  · refine o_do rfl (a_litX (vs := []) (ii ([] : List Int)) un25 sz3 zr3 rfl rfl rfl rfl rfl rfl rfl rfl rfl) rfl rfl (fun x3 w h => (h.drop 2)) (fun x3 => ?_)
    refine j_rs (.row x3 0 3 1 (ii ([] : List Int)) :: .box x2 27 [(.slice none 0 0), (.slice none 0 0), (.slice none 0 0)] :: .box x1 27 [(.slice a0_0_A a0_0_n a0_0_c), (.slice a0_1_A a0_1_n a0_1_c), (.slice a0_2_A a0_2_n a0_2_c)] :: F) (fun _ h => h) ?_
    refine j_env [(2, (pt x2)), (3, (.slice x3 0 0)), (5, (.slice a0_0_A a0_0_n a0_0_c)), (9, (.slice a0_1_A a0_1_n a0_1_c)), (13, (.slice a0_2_A a0_2_n a0_2_c))] ⟨rfl, rfl, rfl, rfl, rfl, trivial⟩ ?_
    exact hD1639 x3
  · refine o_do rfl (a_litX (vs := []) (ii ([] : List Int)) un25 sz3 zr3 rfl rfl rfl rfl rfl rfl rfl rfl rfl) rfl rfl (fun x5 w h => (h.drop 2)) (fun x5 => ?_)
    refine j_rs (.row x5 0 3 1 (ii ([] : List Int)) :: .box x2 27 [(.slice none 0 0), (.slice none 0 0), (.slice none 0 0)] :: .box x1 27 [(.slice a0_0_A a0_0_n a0_0_c), (.slice a0_1_A a0_1_n a0_1_c), (.slice a0_2_A a0_2_n a0_2_c)] :: F) (fun _ h => h) ?_
    refine j_env [(2, (pt x2)), (5, (.slice a0_0_A a0_0_n a0_0_c)), (7, (.slice x5 0 0)), (9, (.slice a0_1_A a0_1_n a0_1_c)), (13, (.slice a0_2_A a0_2_n a0_2_c))] ⟨rfl, rfl, rfl, rfl, rfl, trivial⟩ ?_
    exact hD1654 x5
  · refine o_do rfl (a_litX (vs := []) (ii ([] : List Int)) un25 sz3 zr3 rfl rfl rfl rfl rfl rfl rfl rfl rfl) rfl rfl (fun x7 w h => (h.drop 2)) (fun x7 => ?_)
    refine j_rs (.row x7 0 3 1 (ii ([] : List Int)) :: .box x2 27 [(.slice none 0 0), (.slice none 0 0), (.slice none 0 0)] :: .box x1 27 [(.slice a0_0_A a0_0_n a0_0_c), (.slice a0_1_A a0_1_n a0_1_c), (.slice a0_2_A a0_2_n a0_2_c)] :: F) (fun _ h => h) ?_
    refine j_env [(2, (pt x2)), (5, (.slice a0_0_A a0_0_n a0_0_c)), (9, (.slice a0_1_A a0_1_n a0_1_c)), (11, (.slice x7 0 0)), (13, (.slice a0_2_A a0_2_n a0_2_c))] ⟨rfl, rfl, rfl, rfl, rfl, trivial⟩ ?_
    exact hD1894 x7

theorem spec_l4Copy.calls (K : Nat) (a0_0 : List Int) (a0_0_A : Option Addr) (a0_0_n a0_0_c : Nat) (a0_1 : List Int) (a0_1_A : Option Addr) (a0_1_n a0_1_c : Nat) (a0_2 : List Int) (a0_2_A : Option Addr) (a0_2_n a0_2_c : Nat) (a0_3 : List Int) (a0_3_A : Option Addr) (a0_3_n a0_3_c : Nat) {w0 w : World} {F : List Res} {r1 : List Int} {r2 : List Int} {r3 : List Int} {r4 : List Int} (hm : Mem w0 (F) w) (a0_0_h : a0_0.length = a0_0_n) (a0_0_R : Rd w0 F a0_0_A (ii a0_0)) (a0_1_h : a0_1.length = a0_1_n) (a0_1_R : Rd w0 F a0_1_A (ii a0_1)) (a0_2_h : a0_2.length = a0_2_n) (a0_2_R : Rd w0 F a0_2_A (ii a0_2)) (a0_3_h : a0_3.length = a0_3_n) (a0_3_R : Rd w0 F a0_3_A (ii a0_3)) (h : spec_l4Copy.f K a0_0 a0_1 a0_2 a0_3 = some (r1, r2, r3, r4)) :
    Calls Try.prog 68 (List.toArray [.agg (List.toArray [.slice a0_0_A a0_0_n a0_0_c, .slice a0_1_A a0_1_n a0_1_c, .slice a0_2_A a0_2_n a0_2_c, .slice a0_3_A a0_3_n a0_3_c])]) w fun e w' => ∃ x : (Sl r1.length) × (Sl r2.length) × (Sl r3.length) × (Sl r4.length), e = .returned (.agg (List.toArray [.slice x.1.A x.1.n x.1.c, .slice x.2.1.A x.2.1.n x.2.1.c, .slice x.2.2.1.A x.2.2.1.n x.2.2.1.c, .slice x.2.2.2.A x.2.2.2.n x.2.2.2.c])) ∧ Mem w0 (.row x.1.A x.1.c 3 1 (ii r1) :: .row x.2.1.A x.2.1.c 3 1 (ii r2) :: .row x.2.2.1.A x.2.2.1.c 3 1 (ii r3) :: .row x.2.2.2.A x.2.2.2.c 3 1 (ii r4) :: F) w' := by
  unfold spec_l4Copy.f at h
  refine calls_of_J (n := 11) Try.func68 rfl rfl rfl hm ?_
  refine j_seq ?_
  refine j_region ?_
  refine r_do (a_box rfl rfl) rfl rfl (fun x1 => ?_)
  refine r_do (a_alloc zr29 rfl) rfl rfl (fun x2 => ?_)
  refine r_nil ?_
  refine j_then ?_
  refine j_seq ?_
  obtain ⟨v1, v2, v3, hb1, h⟩ := of_b3 h
  obtain ⟨c1, h⟩ := of_guard h
  refine j_draw (.box x1 29 [(.slice a0_0_A a0_0_n a0_0_c), (.slice a0_1_A a0_1_n a0_1_c), (.slice a0_2_A a0_2_n a0_2_c), (.slice a0_3_A a0_3_n a0_3_c)] :: F) 9 follows_any rfl ?_
  refine d_take 0 rfl (q_fieldAddr fi29_0 sz27 rfl rfl rfl) rfl rfl (by kernel_rfl) (by kernel_rfl) (by kernel_rfl) (fun w h => h.tail) ?_
  refine d_take 1 rfl (q_loadb_agg 0 rfl ag27 sz27 rfl rfl rfl rfl) rfl rfl (by kernel_rfl) (by kernel_rfl) (by kernel_rfl) (fun w h => h.tail) ?_
  refine d_take 4 rfl (q_fieldAddr fi29_1 sz25 rfl rfl rfl) rfl rfl (by kernel_rfl) (by kernel_rfl) (by kernel_rfl) (fun w h => h.tail) ?_
  refine d_take 5 rfl (q_loadb 0 rfl ag25 rfl rfl rfl) rfl rfl (by kernel_rfl) (by kernel_rfl) (by kernel_rfl) (fun w h => h.tail) ?_
  refine d_join (σ := ((Sl v1.length) × (Sl v2.length) × (Sl v3.length)) × (Option Addr) × (Option Addr × Nat)) 0 #[true, true, true, true, true, true, true, true, true] (fun s => [(2, (pt x2))]) (fun s => .row s.1.1.A s.1.1.c 3 1 (ii v1) :: .row s.1.2.1.A s.1.2.1.c 3 1 (ii v2) :: .row s.1.2.2.A s.1.2.2.c 3 1 (ii v3) :: .row s.2.2.1 s.2.2.2 3 1 (ii (([] : List Int) ++ a0_3)) :: .box x2 29 [(.slice s.1.1.A s.1.1.n s.1.1.c), (.slice s.1.2.1.A s.1.2.1.n s.1.2.1.c), (.slice s.1.2.2.A s.1.2.2.n s.1.2.2.c), (.slice s.2.2.1 (0 + a0_3_n) s.2.2.2)] :: .box x1 29 [(.slice a0_0_A a0_0_n a0_0_c), (.slice a0_1_A a0_1_n a0_1_c), (.slice a0_2_A a0_2_n a0_2_c), (.slice a0_3_A a0_3_n a0_3_c)] :: F) ?_ (fun hD511 => ?_)
  · rintro ⟨x3, x4, x5⟩
    show J _ _ [(2, (pt x2))] _ (.row x3.1.A x3.1.c 3 1 (ii v1) :: .row x3.2.1.A x3.2.1.c 3 1 (ii v2) :: .row x3.2.2.A x3.2.2.c 3 1 (ii v3) :: .row x5.1 x5.2 3 1 (ii (([] : List Int) ++ a0_3)) :: .box x2 29 [(.slice x3.1.A x3.1.n x3.1.c), (.slice x3.2.1.A x3.2.1.n x3.2.1.c), (.slice x3.2.2.A x3.2.2.n x3.2.2.c), (.slice x5.1 (0 + a0_3_n) x5.2)] :: .box x1 29 [(.slice a0_0_A a0_0_n a0_0_c), (.slice a0_1_A a0_1_n a0_1_c), (.slice a0_2_A a0_2_n a0_2_c), (.slice a0_3_A a0_3_n a0_3_c)] :: F)
    refine d_done (by kernel_rfl) ?_
    refine j_then ?_
    refine j_ret ?_
    cases h
    exact j_return rfl (ResOf.cell 4 rfl rfl ag29 sz29 ResOf.nil) rfl (fun w h => ⟨(⟨x3.1.A, x3.1.n, x3.1.c, x3.1.h⟩, ⟨x3.2.1.A, x3.2.1.n, x3.2.1.c, x3.2.1.h⟩, ⟨x3.2.2.A, x3.2.2.n, x3.2.2.c, x3.2.2.h⟩, ⟨x5.1, (0 + a0_3_n), x5.2, (app_len rfl a0_3_h)⟩), rfl, h.pick 6 [0, 1, 2, 3] rfl⟩)
  refine d_join (σ := ((Sl v1.length) × (Sl v2.length) × (Sl v3.length)) × (Option Addr) × (Option Addr × Nat)) 1 #[true, true, true, true, true, true, true, true, false] (fun s => [(2, (pt x2)), (10, (.agg (List.toArray [(.slice s.1.1.A s.1.1.n s.1.1.c), (.slice s.1.2.1.A s.1.2.1.n s.1.2.1.c), (.slice s.1.2.2.A s.1.2.2.n s.1.2.2.c), (.slice s.2.2.1 (0 + a0_3_n) s.2.2.2)])))]) (fun s => .row s.1.1.A s.1.1.c 3 1 (ii v1) :: .row s.1.2.1.A s.1.2.1.c 3 1 (ii v2) :: .row s.1.2.2.A s.1.2.2.c 3 1 (ii v3) :: .row s.2.2.1 s.2.2.2 3 1 (ii (([] : List Int) ++ a0_3)) :: .box x2 29 [(.slice none 0 0), (.slice none 0 0), (.slice none 0 0), (.slice none 0 0)] :: .box x1 29 [(.slice a0_0_A a0_0_n a0_0_c), (.slice a0_1_A a0_1_n a0_1_c), (.slice a0_2_A a0_2_n a0_2_c), (.slice a0_3_A a0_3_n a0_3_c)] :: F) ?_ (fun hD255 => ?_)
  · rintro ⟨x3, x4, x5⟩
    show J _ _ [(2, (pt x2)), (10, (.agg (List.toArray [(.slice x3.1.A x3.1.n x3.1.c), (.slice x3.2.1.A x3.2.1.n x3.2.1.c), (.slice x3.2.2.A x3.2.2.n x3.2.2.c), (.slice x5.1 (0 + a0_3_n) x5.2)])))] _ (.row x3.1.A x3.1.c 3 1 (ii v1) :: .row x3.2.1.A x3.2.1.c 3 1 (ii v2) :: .row x3.2.2.A x3.2.2.c 3 1 (ii v3) :: .row x5.1 x5.2 3 1 (ii (([] : List Int) ++ a0_3)) :: .box x2 29 [(.slice none 0 0), (.slice none 0 0), (.slice none 0 0), (.slice none 0 0)] :: .box x1 29 [(.slice a0_0_A a0_0_n a0_0_c), (.slice a0_1_A a0_1_n a0_1_c), (.slice a0_2_A a0_2_n a0_2_c), (.slice a0_3_A a0_3_n a0_3_c)] :: F)
    refine d_one 8 (by kernel_rfl) ?_
    · refine o_do rfl (a_storeb 4 rfl sz29 rfl rfl rfl rfl (Nat.le_of_ble_eq_true rfl) rfl) rfl rfl (fun _ w h => (h.drop 5)) (fun _ => ?_)
      refine j_b4 [(.slice x3.1.A x3.1.n x3.1.c), (.slice x3.2.1.A x3.2.1.n x3.2.1.c), (.slice x3.2.2.A x3.2.2.n x3.2.2.c), (.slice x5.1 (0 + a0_3_n) x5.2)] rfl ?_
      refine j_rs (.row x3.1.A x3.1.c 3 1 (ii v1) :: .row x3.2.1.A x3.2.1.c 3 1 (ii v2) :: .row x3.2.2.A x3.2.2.c 3 1 (ii v3) :: .row x5.1 x5.2 3 1 (ii (([] : List Int) ++ a0_3)) :: .box x2 29 [(.slice x3.1.A x3.1.n x3.1.c), (.slice x3.2.1.A x3.2.1.n x3.2.1.c), (.slice x3.2.2.A x3.2.2.n x3.2.2.c), (.slice x5.1 (0 + a0_3_n) x5.2)] :: .box x1 29 [(.slice a0_0_A a0_0_n a0_0_c), (.slice a0_1_A a0_1_n a0_1_c), (.slice a0_2_A a0_2_n a0_2_c), (.slice a0_3_A a0_3_n a0_3_c)] :: F) (fun _ h => h) ?_
      refine j_env [(2, (pt x2))] ⟨rfl, trivial⟩ ?_
      exact hD511 (x3, x4, x5)
  refine d_join (σ := ((Sl v1.length) × (Sl v2.length) × (Sl v3.length)) × (Option Addr)) 3 #[true, true, true, true, true, true, false, false, false] (fun s => [(2, (pt x2)), (5, (.agg (List.toArray [(.slice s.1.1.A s.1.1.n s.1.1.c), (.slice s.1.2.1.A s.1.2.1.n s.1.2.1.c), (.slice s.1.2.2.A s.1.2.2.n s.1.2.2.c)]))), (6, (.slice s.2 0 0)), (8, (.slice a0_3_A a0_3_n a0_3_c))]) (fun s => .row s.1.1.A s.1.1.c 3 1 (ii v1) :: .row s.1.2.1.A s.1.2.1.c 3 1 (ii v2) :: .row s.1.2.2.A s.1.2.2.c 3 1 (ii v3) :: .row s.2 0 3 1 (ii ([] : List Int)) :: .box x2 29 [(.slice none 0 0), (.slice none 0 0), (.slice none 0 0), (.slice none 0 0)] :: .box x1 29 [(.slice a0_0_A a0_0_n a0_0_c), (.slice a0_1_A a0_1_n a0_1_c), (.slice a0_2_A a0_2_n a0_2_c), (.slice a0_3_A a0_3_n a0_3_c)] :: F) ?_ (fun hD63 => ?_)
  · rintro ⟨x3, x4⟩
    show J _ _ [(2, (pt x2)), (5, (.agg (List.toArray [(.slice x3.1.A x3.1.n x3.1.c), (.slice x3.2.1.A x3.2.1.n x3.2.1.c), (.slice x3.2.2.A x3.2.2.n x3.2.2.c)]))), (6, (.slice x4 0 0)), (8, (.slice a0_3_A a0_3_n a0_3_c))] _ (.row x3.1.A x3.1.c 3 1 (ii v1) :: .row x3.2.1.A x3.2.1.c 3 1 (ii v2) :: .row x3.2.2.A x3.2.2.c 3 1 (ii v3) :: .row x4 0 3 1 (ii ([] : List Int)) :: .box x2 29 [(.slice none 0 0), (.slice none 0 0), (.slice none 0 0), (.slice none 0 0)] :: .box x1 29 [(.slice a0_0_A a0_0_n a0_0_c), (.slice a0_1_A a0_1_n a0_1_c), (.slice a0_2_A a0_2_n a0_2_c), (.slice a0_3_A a0_3_n a0_3_c)] :: F)
    refine d_one 6 (by kernel_rfl) ?_
    · refine o_do rfl (a_appI (xs := ([] : List Int)) (ys := a0_3) 3 un25 un25 sz3 by3 zr3 rfl rfl rfl rfl rfl rfl rfl rfl rfl rfl a0_3_h (Rd.drop 6 a0_3_R) c1) rfl rfl (fun x5 w h => (h.drop 5)) (fun x5 => ?_)
      refine j_s3 ?_
      refine d_take 7 rfl (q_build (cs := [(.slice x3.1.A x3.1.n x3.1.c), (.slice x3.2.1.A x3.2.1.n x3.2.1.c), (.slice x3.2.2.A x3.2.2.n x3.2.2.c), (.slice x5.1 (0 + a0_3_n) x5.2)]) zr29 pl29 rfl rfl rfl rfl) rfl rfl (by kernel_rfl) (by kernel_rfl) (by kernel_rfl) (fun w h => (h.drop 5)) ?_
      refine j_rs (.row x3.1.A x3.1.c 3 1 (ii v1) :: .row x3.2.1.A x3.2.1.c 3 1 (ii v2) :: .row x3.2.2.A x3.2.2.c 3 1 (ii v3) :: .row x5.1 x5.2 3 1 (ii (([] : List Int) ++ a0_3)) :: .box x2 29 [(.slice none 0 0), (.slice none 0 0), (.slice none 0 0), (.slice none 0 0)] :: .box x1 29 [(.slice a0_0_A a0_0_n a0_0_c), (.slice a0_1_A a0_1_n a0_1_c), (.slice a0_2_A a0_2_n a0_2_c), (.slice a0_3_A a0_3_n a0_3_c)] :: F) (fun _ h => h) ?_
      refine j_env [(2, (pt x2)), (10, (.agg (List.toArray [(.slice x3.1.A x3.1.n x3.1.c), (.slice x3.2.1.A x3.2.1.n x3.2.1.c), (.slice x3.2.2.A x3.2.2.n x3.2.2.c), (.slice x5.1 (0 + a0_3_n) x5.2)])))] ⟨rfl, rfl, trivial⟩ ?_
      exact hD255 (x3, x4, x5)
  refine d_join (σ := ((Sl v1.length) × (Sl v2.length) × (Sl v3.length))) 4 #[true, true, true, false, true, true, false, false, false] (fun s => [(2, (pt x2)), (5, (.agg (List.toArray [(.slice s.1.A s.1.n s.1.c), (.slice s.2.1.A s.2.1.n s.2.1.c), (.slice s.2.2.A s.2.2.n s.2.2.c)]))), (8, (.slice a0_3_A a0_3_n a0_3_c))]) (fun s => .row s.1.A s.1.c 3 1 (ii v1) :: .row s.2.1.A s.2.1.c 3 1 (ii v2) :: .row s.2.2.A s.2.2.c 3 1 (ii v3) :: .box x2 29 [(.slice none 0 0), (.slice none 0 0), (.slice none 0 0), (.slice none 0 0)] :: .box x1 29 [(.slice a0_0_A a0_0_n a0_0_c), (.slice a0_1_A a0_1_n a0_1_c), (.slice a0_2_A a0_2_n a0_2_c), (.slice a0_3_A a0_3_n a0_3_c)] :: F) ?_ (fun hD55 => ?_)
  · rintro x3
    show J _ _ [(2, (pt x2)), (5, (.agg (List.toArray [(.slice x3.1.A x3.1.n x3.1.c), (.slice x3.2.1.A x3.2.1.n x3.2.1.c), (.slice x3.2.2.A x3.2.2.n x3.2.2.c)]))), (8, (.slice a0_3_A a0_3_n a0_3_c))] _ (.row x3.1.A x3.1.c 3 1 (ii v1) :: .row x3.2.1.A x3.2.1.c 3 1 (ii v2) :: .row x3.2.2.A x3.2.2.c 3 1 (ii v3) :: .box x2 29 [(.slice none 0 0), (.slice none 0 0), (.slice none 0 0), (.slice none 0 0)] :: .box x1 29 [(.slice a0_0_A a0_0_n a0_0_c), (.slice a0_1_A a0_1_n a0_1_c), (.slice a0_2_A a0_2_n a0_2_c), (.slice a0_3_A a0_3_n a0_3_c)] :: F)
    refine d_one 3 (by kernel_rfl) ?_
    · refine o_do rfl (a_litX (vs := []) (ii ([] : List Int)) un25 sz3 zr3 rfl rfl rfl rfl rfl rfl rfl rfl rfl) rfl rfl (fun x4 w h => (h.drop 5)) (fun x4 => ?_)
      refine j_rs (.row x3.1.A x3.1.c 3 1 (ii v1) :: .row x3.2.1.A x3.2.1.c 3 1 (ii v2) :: .row x3.2.2.A x3.2.2.c 3 1 (ii v3) :: .row x4 0 3 1 (ii ([] : List Int)) :: .box x2 29 [(.slice none 0 0), (.slice none 0 0), (.slice none 0 0), (.slice none 0 0)] :: .box x1 29 [(.slice a0_0_A a0_0_n a0_0_c), (.slice a0_1_A a0_1_n a0_1_c), (.slice a0_2_A a0_2_n a0_2_c), (.slice a0_3_A a0_3_n a0_3_c)] :: F) (fun _ h => h.pick 6 [1, 2, 3, 0, 4, 5] rfl) ?_
      refine j_env [(2, (pt x2)), (5, (.agg (List.toArray [(.slice x3.1.A x3.1.n x3.1.c), (.slice x3.2.1.A x3.2.1.n x3.2.1.c), (.slice x3.2.2.A x3.2.2.n x3.2.2.c)]))), (6, (.slice x4 0 0)), (8, (.slice a0_3_A a0_3_n a0_3_c))] ⟨rfl, rfl, rfl, rfl, trivial⟩ ?_
      exact hD63 (x3, x4)
  refine d_join (σ := (Option Addr)) 4 #[true, true, false, true, true, true, false, false, false] (fun s => [(2, (pt x2)), (4, (.agg (List.toArray [(.slice a0_0_A a0_0_n a0_0_c), (.slice a0_1_A a0_1_n a0_1_c), (.slice a0_2_A a0_2_n a0_2_c)]))), (6, (.slice s 0 0)), (8, (.slice a0_3_A a0_3_n a0_3_c))]) (fun s => .row s 0 3 1 (ii ([] : List Int)) :: .box x2 29 [(.slice none 0 0), (.slice none 0 0), (.slice none 0 0), (.slice none 0 0)] :: .box x1 29 [(.slice a0_0_A a0_0_n a0_0_c), (.slice a0_1_A a0_1_n a0_1_c), (.slice a0_2_A a0_2_n a0_2_c), (.slice a0_3_A a0_3_n a0_3_c)] :: F) ?_ (fun hD59 => ?_)
  · rintro x4
    show J _ _ [(2, (pt x2)), (4, (.agg (List.toArray [(.slice a0_0_A a0_0_n a0_0_c), (.slice a0_1_A a0_1_n a0_1_c), (.slice a0_2_A a0_2_n a0_2_c)]))), (6, (.slice x4 0 0)), (8, (.slice a0_3_A a0_3_n a0_3_c))] _ (.row x4 0 3 1 (ii ([] : List Int)) :: .box x2 29 [(.slice none 0 0), (.slice none 0 0), (.slice none 0 0), (.slice none 0 0)] :: .box x1 29 [(.slice a0_0_A a0_0_n a0_0_c), (.slice a0_1_A a0_1_n a0_1_c), (.slice a0_2_A a0_2_n a0_2_c), (.slice a0_3_A a0_3_n a0_3_c)] :: F)
    refine d_one 2 (by kernel_rfl) ?_
    · refine o_do rfl (a_call ok92 rfl rfl rfl rfl (fun w hm => spec_l1Copy.calls K a0_0 a0_0_A a0_0_n a0_0_c a0_1 a0_1_A a0_1_n a0_1_c a0_2 a0_2_A a0_2_n a0_2_c hm a0_0_h (Rd.drop 3 a0_0_R) a0_1_h (Rd.drop 3 a0_1_R) a0_2_h (Rd.drop 3 a0_2_R) hb1)) rfl rfl (fun x3 w h => (h.drop 5)) (fun x3 => ?_)
      refine j_rs (.row x3.1.A x3.1.c 3 1 (ii v1) :: .row x3.2.1.A x3.2.1.c 3 1 (ii v2) :: .row x3.2.2.A x3.2.2.c 3 1 (ii v3) :: .row x4 0 3 1 (ii ([] : List Int)) :: .box x2 29 [(.slice none 0 0), (.slice none 0 0), (.slice none 0 0), (.slice none 0 0)] :: .box x1 29 [(.slice a0_0_A a0_0_n a0_0_c), (.slice a0_1_A a0_1_n a0_1_c), (.slice a0_2_A a0_2_n a0_2_c), (.slice a0_3_A a0_3_n a0_3_c)] :: F) (fun _ h => h) ?_
      refine j_env [(2, (pt x2)), (5, (.agg (List.toArray [(.slice x3.1.A x3.1.n x3.1.c), (.slice x3.2.1.A x3.2.1.n x3.2.1.c), (.slice x3.2.2.A x3.2.2.n x3.2.2.c)]))), (6, (.slice x4 0 0)), (8, (.slice a0_3_A a0_3_n a0_3_c))] ⟨rfl, rfl, rfl, rfl, trivial⟩ ?_
      exact hD63 (x3, x4)
  refine d_two 2 3 (by kernel_rfl) ?_ ?_
  · refine o_do rfl (a_call ok92 rfl rfl rfl rfl (fun w hm => spec_l1Copy.calls K a0_0 a0_0_A a0_0_n a0_0_c a0_1 a0_1_A a0_1_n a0_1_c a0_2 a0_2_A a0_2_n a0_2_c hm a0_0_h (Rd.drop 2 a0_0_R) a0_1_h (Rd.drop 2 a0_1_R) a0_2_h (Rd.drop 2 a0_2_R) hb1)) rfl rfl (fun x3 w h => (h.drop 4)) (fun x3 => ?_)
    refine j_rs (.row x3.1.A x3.1.c 3 1 (ii v1) :: .row x3.2.1.A x3.2.1.c 3 1 (ii v2) :: .row x3.2.2.A x3.2.2.c 3 1 (ii v3) :: .box x2 29 [(.slice none 0 0), (.slice none 0 0), (.slice none 0 0), (.slice none 0 0)] :: .box x1 29 [(.slice a0_0_A a0_0_n a0_0_c), (.slice a0_1_A a0_1_n a0_1_c), (.slice a0_2_A a0_2_n a0_2_c), (.slice a0_3_A a0_3_n a0_3_c)] :: F) (fun _ h => h) ?_
    refine j_env [(2, (pt x2)), (5, (.agg (List.toArray [(.slice x3.1.A x3.1.n x3.1.c), (.slice x3.2.1.A x3.2.1.n x3.2.1.c), (.slice x3.2.2.A x3.2.2.n x3.2.2.c)]))), (8, (.slice a0_3_A a0_3_n a0_3_c))] ⟨rfl, rfl, rfl, trivial⟩ ?_
    exact hD55 x3
  · refine o_do rfl (a_litX (vs := []) (ii ([] : List Int)) un25 sz3 zr3 rfl rfl rfl rfl rfl rfl rfl rfl rfl) rfl rfl (fun x4 w h => (h.drop 2)) (fun x4 => ?_)
    refine j_rs (.row x4 0 3 1 (ii ([] : List Int)) :: .box x2 29 [(.slice none 0 0), (.slice none 0 0), (.slice none 0 0), (.slice none 0 0)] :: .box x1 29 [(.slice a0_0_A a0_0_n a0_0_c), (.slice a0_1_A a0_1_n a0_1_c), (.slice a0_2_A a0_2_n a0_2_c), (.slice a0_3_A a0_3_n a0_3_c)] :: F) (fun _ h => h) ?_
    refine j_env [(2, (pt x2)), (4, (.agg (List.toArray [(.slice a0_0_A a0_0_n a0_0_c), (.slice a0_1_A a0_1_n a0_1_c), (.slice a0_2_A a0_2_n a0_2_c)]))), (6, (.slice x4 0 0)), (8, (.slice a0_3_A a0_3_n a0_3_c))] ⟨rfl, rfl, rfl, rfl, trivial⟩ ?_
    exact hD59 x4

theorem spec_AllocCell.calls (K : Nat) (a0_0 : List Int) (a0_0_A : Option Addr) (a0_0_n a0_0_c : Nat) (a0_1 : List Int) (a0_1_A : Option Addr) (a0_1_n a0_1_c : Nat) (a0_2 : List Int) (a0_2_A : Option Addr) (a0_2_n a0_2_c : Nat) (a0_3 : List Int) (a0_3_A : Option Addr) (a0_3_n a0_3_c : Nat) (a1 : Int) {w0 w : World} {F : List Res} {r1 : List Int} {r2 : List Int} {r3 : List Int} {r4 : List Int} {r5 : Int} {r6 : Bool} (hm : Mem w0 (F) w) (a0_0_h : a0_0.length = a0_0_n) (a0_0_R : Rd w0 F a0_0_A (ii a0_0)) (a0_1_h : a0_1.length = a0_1_n) (a0_1_R : Rd w0 F a0_1_A (ii a0_1)) (a0_2_h : a0_2.length = a0_2_n) (a0_2_R : Rd w0 F a0_2_A (ii a0_2)) (a0_3_h : a0_3.length = a0_3_n) (a0_3_R : Rd w0 F a0_3_A (ii a0_3)) (a0_3_k : a0_3.length ≤ a0_3_c) (h : spec_AllocCell.f K a0_0 a0_1 a0_2 a0_3 a1 = some (r1, r2, r3, r4, r5, r6)) :
    Calls Try.prog 25 (List.toArray [.agg (List.toArray [.slice a0_0_A a0_0_n a0_0_c, .slice a0_1_A a0_1_n a0_1_c, .slice a0_2_A a0_2_n a0_2_c, .slice a0_3_A a0_3_n a0_3_c]), i6 a1]) w fun e w' => ∃ x : (Sl r1.length) × (Sl r2.length) × (Sl r3.length) × (Sl r4.length), e = .returned (.tuple (List.toArray [.agg (List.toArray [.slice x.1.A x.1.n x.1.c, .slice x.2.1.A x.2.1.n x.2.1.c, .slice x.2.2.1.A x.2.2.1.n x.2.2.1.c, .slice x.2.2.2.A x.2.2.2.n x.2.2.2.c]), i6 r5, .bool r6])) ∧ Mem w0 (.row x.1.A x.1.c 3 1 (ii r1) :: .row x.2.1.A x.2.1.c 3 1 (ii r2) :: .row x.2.2.1.A x.2.2.1.c 3 1 (ii r3) :: .row x.2.2.2.A x.2.2.2.c 3 1 (ii r4) :: F) w' := by
  unfold spec_AllocCell.f at h
  refine calls_of_J (n := 51) Try.func25 rfl rfl rfl hm ?_
  refine j_seq ?_
  refine j_region ?_
  refine r_do (a_box rfl rfl) rfl rfl (fun x1 => ?_)
  refine r_do (a_alloc zr29 rfl) rfl rfl (fun x2 => ?_)
  refine r_q (q_assign rfl rfl) rfl rfl ?_
  refine r_q (q_assign rfl rfl) rfl rfl ?_
  refine r_nil ?_
  refine j_then ?_
  refine j_seq ?_
  refine j_seq ?_
  refine j_region ?_
  refine r_q (q_loadb_agg 1 rfl ag29 sz29 rfl rfl rfl rfl) rfl rfl ?_
  obtain ⟨v1, hb1, h⟩ := of_b1 h
  refine r_do (a_call ok23 rfl rfl rfl rfl (fun w hm => spec_StoreValid.calls K a0_0 a0_0_A a0_0_n a0_0_c a0_1 a0_1_A a0_1_n a0_1_c a0_2 a0_2_A a0_2_n a0_2_c a0_3 a0_3_A a0_3_n a0_3_c hm a0_0_h (Rd.drop 2 a0_0_R) a0_1_h (Rd.drop 2 a0_1_R) a0_2_h (Rd.drop 2 a0_2_R) a0_3_h (Rd.drop 2 a0_3_R) a0_3_k hb1)) rfl rfl (fun x3 => ?_)
  refine r_q (q_not rfl rfl) rfl rfl ?_
  refine r_q (q_move rfl rfl) rfl rfl ?_
  rcases of_if h with ⟨c1, h⟩ | ⟨c1, h⟩
  · refine r_qon (q_move rfl rfl) rfl rfl rfl rfl (not_f c1) rfl ?_
    refine r_qon (q_lss rfl rfl rfl) rfl rfl rfl rfl (not_f c1) rfl ?_
    refine r_q (q_pick_f rfl rfl (not_f c1) rfl) rfl rfl ?_
    refine r_q (q_move rfl rfl) rfl rfl ?_
    rcases of_if h with ⟨c2, h⟩ | ⟨c2, h⟩
    · refine r_off rfl rfl rfl rfl (decide_eq_true c2) rfl ?_
      refine r_off rfl rfl rfl rfl (decide_eq_true c2) rfl ?_
      refine r_off rfl rfl rfl rfl (decide_eq_true c2) rfl ?_
      refine r_off rfl rfl rfl rfl (decide_eq_true c2) rfl ?_
      refine r_off rfl rfl rfl rfl (decide_eq_true c2) rfl ?_
      refine r_off rfl rfl rfl rfl (decide_eq_true c2) rfl ?_
      refine r_q (q_pick_t rfl rfl (decide_eq_true c2) rfl) rfl rfl ?_
      refine r_q (q_move rfl rfl) rfl rfl ?_
      refine r_off rfl rfl rfl rfl rfl rfl ?_
      refine r_off rfl rfl rfl rfl rfl rfl ?_
      refine r_off rfl rfl rfl rfl rfl rfl ?_
      refine r_off rfl rfl rfl rfl rfl rfl ?_
      refine r_q (q_pick_t rfl rfl rfl rfl) rfl rfl ?_
      refine r_nil ?_
      refine j_then ?_
      refine j_true rfl rfl ?_
      refine j_seq ?_
      refine j_region ?_
      refine r_q (q_build (cs := [(.slice none 0 0), (.slice none 0 0), (.slice none 0 0), (.slice none 0 0)]) zr29 pl29 rfl rfl rfl rfl) rfl rfl ?_
      refine r_do (a_storeb 0 rfl sz29 rfl rfl rfl rfl (Nat.le_of_ble_eq_true rfl) rfl) rfl rfl (fun _ => ?_)
      refine j_b0 [(.slice none 0 0), (.slice none 0 0), (.slice none 0 0), (.slice none 0 0)] rfl ?_
      refine r_q (q_assign rfl rfl) rfl rfl ?_
      refine r_q (q_assign rfl rfl) rfl rfl ?_
      refine r_nil ?_
      refine j_then ?_
      refine j_ret ?_
      refine j_then_ret ?_
      refine j_nil 3 1 ?_
      refine j_nil 3 1 ?_
      refine j_nil 3 1 ?_
      refine j_nil 3 1 ?_
      cases h
      exact j_return rfl (ResOf.cell 4 rfl rfl ag29 sz29 (ResOf.tmp rfl (ResOf.tmp rfl ResOf.nil))) rfl (fun w h => ⟨(⟨none, 0, 0, rfl⟩, ⟨none, 0, 0, rfl⟩, ⟨none, 0, 0, rfl⟩, ⟨none, 0, 0, rfl⟩), rfl, h.pick 6 [3, 2, 1, 0] rfl⟩)
    · refine r_qon (q_move rfl rfl) rfl rfl rfl rfl (decide_eq_false c2) rfl ?_
      refine r_qon (q_fieldAddr fi29_0 sz27 rfl rfl rfl) rfl rfl rfl rfl (decide_eq_false c2) rfl ?_
      refine r_qon (q_fieldAddr fi27_2 sz25 rfl rfl rfl) rfl rfl rfl rfl (decide_eq_false c2) rfl ?_
      refine r_qon (q_loadb 1 rfl ag25 rfl rfl rfl) rfl rfl rfl rfl (decide_eq_false c2) rfl ?_
      refine r_qon (q_lenX a0_2 a0_2_h un25 rfl rfl rfl rfl rfl) rfl rfl rfl rfl (decide_eq_false c2) rfl ?_
      refine r_qon (q_geq rfl rfl rfl) rfl rfl rfl rfl (decide_eq_false c2) rfl ?_
      refine r_q (q_pick_f rfl rfl (decide_eq_false c2) rfl) rfl rfl ?_
      refine r_q (q_move rfl rfl) rfl rfl ?_
      rcases of_if h with ⟨c3, h⟩ | ⟨c3, h⟩
      · refine r_off rfl rfl rfl rfl (decide_eq_true c3) rfl ?_
        refine r_off rfl rfl rfl rfl (decide_eq_true c3) rfl ?_
        refine r_off rfl rfl rfl rfl (decide_eq_true c3) rfl ?_
        refine r_off rfl rfl rfl rfl (decide_eq_true c3) rfl ?_
        refine r_q (q_pick_t rfl rfl (decide_eq_true c3) rfl) rfl rfl ?_
        refine r_nil ?_
        refine j_then ?_
        refine j_true rfl rfl ?_
        refine j_seq ?_
        refine j_region ?_
        refine r_q (q_build (cs := [(.slice none 0 0), (.slice none 0 0), (.slice none 0 0), (.slice none 0 0)]) zr29 pl29 rfl rfl rfl rfl) rfl rfl ?_
        refine r_do (a_storeb 0 rfl sz29 rfl rfl rfl rfl (Nat.le_of_ble_eq_true rfl) rfl) rfl rfl (fun _ => ?_)
        refine j_b0 [(.slice none 0 0), (.slice none 0 0), (.slice none 0 0), (.slice none 0 0)] rfl ?_
        refine r_q (q_assign rfl rfl) rfl rfl ?_
        refine r_q (q_assign rfl rfl) rfl rfl ?_
        refine r_nil ?_
        refine j_then ?_
        refine j_ret ?_
        refine j_then_ret ?_
        refine j_nil 3 1 ?_
        refine j_nil 3 1 ?_
        refine j_nil 3 1 ?_
        refine j_nil 3 1 ?_
        cases h
        exact j_return rfl (ResOf.cell 4 rfl rfl ag29 sz29 (ResOf.tmp rfl (ResOf.tmp rfl ResOf.nil))) rfl (fun w h => ⟨(⟨none, 0, 0, rfl⟩, ⟨none, 0, 0, rfl⟩, ⟨none, 0, 0, rfl⟩, ⟨none, 0, 0, rfl⟩), rfl, h.pick 6 [3, 2, 1, 0] rfl⟩)
      · refine r_qon (q_fieldAddr fi29_1 sz25 rfl rfl rfl) rfl rfl rfl rfl (decide_eq_false c3) rfl ?_
        refine r_qon (q_loadb 1 rfl ag25 rfl rfl rfl) rfl rfl rfl rfl (decide_eq_false c3) rfl ?_
        refine r_qon (q_lenX a0_3 a0_3_h un25 rfl rfl rfl rfl rfl) rfl rfl rfl rfl (decide_eq_false c3) rfl ?_
        refine r_qon (q_eql rfl rfl rfl) rfl rfl rfl rfl (decide_eq_false c3) rfl ?_
        refine r_q (q_pick_f rfl rfl (decide_eq_false c3) rfl) rfl rfl ?_
        refine r_nil ?_
        refine j_then ?_
        rcases of_if h with ⟨c4, h⟩ | ⟨c4, h⟩
        · refine j_true rfl (beq_t c4) ?_
          refine j_seq ?_
          refine j_region ?_
          refine r_q (q_build (cs := [(.slice none 0 0), (.slice none 0 0), (.slice none 0 0), (.slice none 0 0)]) zr29 pl29 rfl rfl rfl rfl) rfl rfl ?_
          refine r_do (a_storeb 0 rfl sz29 rfl rfl rfl rfl (Nat.le_of_ble_eq_true rfl) rfl) rfl rfl (fun _ => ?_)
          refine j_b0 [(.slice none 0 0), (.slice none 0 0), (.slice none 0 0), (.slice none 0 0)] rfl ?_
          refine r_q (q_assign rfl rfl) rfl rfl ?_
          refine r_q (q_assign rfl rfl) rfl rfl ?_
          refine r_nil ?_
          refine j_then ?_
          refine j_ret ?_
          refine j_then_ret ?_
          refine j_nil 3 1 ?_
          refine j_nil 3 1 ?_
          refine j_nil 3 1 ?_
          refine j_nil 3 1 ?_
          cases h
          exact j_return rfl (ResOf.cell 4 rfl rfl ag29 sz29 (ResOf.tmp rfl (ResOf.tmp rfl ResOf.nil))) rfl (fun w h => ⟨(⟨none, 0, 0, rfl⟩, ⟨none, 0, 0, rfl⟩, ⟨none, 0, 0, rfl⟩, ⟨none, 0, 0, rfl⟩), rfl, h.pick 6 [3, 2, 1, 0] rfl⟩)
        · refine j_false rfl (beq_f c4) ?_
          refine j_skip ?_
          refine j_then ?_
          refine j_seq ?_
          refine j_region ?_
          refine r_q (q_loadb_agg 1 rfl ag29 sz29 rfl rfl rfl rfl) rfl rfl ?_
          obtain ⟨v2, v3, v4, v5, hb2, h⟩ := of_b4 h
          refine r_do (a_call ok68 rfl rfl rfl rfl (fun w hm => spec_l4Copy.calls K a0_0 a0_0_A a0_0_n a0_0_c a0_1 a0_1_A a0_1_n a0_1_c a0_2 a0_2_A a0_2_n a0_2_c a0_3 a0_3_A a0_3_n a0_3_c hm a0_0_h (Rd.drop 2 a0_0_R) a0_1_h (Rd.drop 2 a0_1_R) a0_2_h (Rd.drop 2 a0_2_R) a0_3_h (Rd.drop 2 a0_3_R) hb2)) rfl rfl (fun x4 => ?_)
          refine r_do (a_alloc zr29 rfl) rfl rfl (fun x5 => ?_)
          refine r_do (a_storeb 0 rfl sz29 rfl rfl rfl rfl (Nat.le_of_ble_eq_true rfl) rfl) rfl rfl (fun _ => ?_)
          refine j_b0 [(.slice x4.1.A x4.1.n x4.1.c), (.slice x4.2.1.A x4.2.1.n x4.2.1.c), (.slice x4.2.2.1.A x4.2.2.1.n x4.2.2.1.c), (.slice x4.2.2.2.A x4.2.2.2.n x4.2.2.2.c)] rfl ?_
          refine r_nil ?_
          refine j_then ?_
          refine j_seq ?_
          refine j_region ?_
          refine r_q (q_fieldAddr fi29_1 sz25 rfl rfl rfl) rfl rfl ?_
          refine r_q (q_loadb 6 rfl ag25 rfl rfl rfl) rfl rfl ?_
          obtain ⟨c5, h⟩ := of_guard h
          refine r_q (q_ix (Rd.drop 7 a0_3_R) (ints_len1 _ a0_3) (by decide) a0_3_h c5 un25 sz3 rfl rfl rfl) rfl rfl ?_
          refine r_q (q_ldI (Rd.drop 7 a0_3_R) c5 ag3 rfl rfl) rfl rfl ?_
          refine r_q (q_assign rfl rfl) rfl rfl ?_
          refine r_nil ?_
          refine j_then ?_
          refine j_seq ?_
          refine j_region ?_
          refine r_do (a_litX (vs := []) (ii ([] : List Int)) un25 sz3 zr3 rfl rfl rfl rfl rfl rfl rfl rfl rfl) rfl rfl (fun x6 => ?_)
          refine r_q (q_fieldAddr fi29_1 sz25 rfl rfl rfl) rfl rfl ?_
          refine r_q (q_loadb 7 rfl ag25 rfl rfl rfl) rfl rfl ?_
          obtain ⟨c6, h⟩ := of_guard h
          refine j_fact (fun w hm => a0_3_k) (fun k2 => ?_)
          refine r_q (q_lo a0_3 a0_3_h c6 un25 sz3 rfl rfl rfl) rfl rfl ?_
          obtain ⟨c7, h⟩ := of_guard h
          refine r_do (a_appI (xs := ([] : List Int)) (ys := (a0_3.drop (1:Int).toNat)) 0 un25 un25 sz3 by3 zr3 rfl rfl rfl rfl rfl rfl rfl rfl rfl rfl rfl (rd_loI (Rd.drop 8 a0_3_R) k2 (1:Int).toNat) c7) rfl rfl (fun x7 => ?_)
          refine j_s0 ?_
          refine r_q (q_fieldAddr fi29_1 sz25 rfl rfl rfl) rfl rfl ?_
          refine r_do (a_storeb 1 rfl sz25 rfl rfl rfl rfl (Nat.le_of_ble_eq_true rfl) rfl) rfl rfl (fun _ => ?_)
          refine j_b1 [(.slice x4.1.A x4.1.n x4.1.c), (.slice x4.2.1.A x4.2.1.n x4.2.1.c), (.slice x4.2.2.1.A x4.2.2.1.n x4.2.2.1.c), (.slice x7.1 (0 + (a0_3.drop (1:Int).toNat).length) x7.2)] rfl ?_
          refine r_nil ?_
          refine j_then ?_
          refine j_seq ?_
          refine j_region ?_
          refine r_q (q_fieldAddr fi29_0 sz27 rfl rfl rfl) rfl rfl ?_
          refine r_q (q_fieldAddr fi27_2 sz25 rfl rfl rfl) rfl rfl ?_
          refine r_q (q_loadb 1 rfl ag25 rfl rfl rfl) rfl rfl ?_
          refine r_q (q_move rfl rfl) rfl rfl ?_
          refine r_q (q_move rfl rfl) rfl rfl ?_
          obtain ⟨c8, h⟩ := of_guard h
          refine r_q (q_ix (Rd.row 4 rfl) (ints_len1 _ v4) (by decide) x4.2.2.1.h c8 un25 sz3 rfl rfl rfl) rfl rfl ?_
          refine r_do (a_stI 4 rfl c8 sz3 rfl rfl rfl) rfl rfl (fun _ => ?_)
          refine j_s4 ?_
          refine r_nil ?_
          refine j_then ?_
          refine j_seq ?_
          refine j_region ?_
          refine r_q (q_loadb_agg 1 rfl ag29 sz29 rfl rfl rfl rfl) rfl rfl ?_
          refine r_q (q_move rfl rfl) rfl rfl ?_
          refine r_do (a_storeb 6 rfl sz29 rfl rfl rfl rfl (Nat.le_of_ble_eq_true rfl) rfl) rfl rfl (fun _ => ?_)
          refine j_b6 [(.slice x4.1.A x4.1.n x4.1.c), (.slice x4.2.1.A x4.2.1.n x4.2.1.c), (.slice x4.2.2.1.A x4.2.2.1.n x4.2.2.1.c), (.slice x7.1 (0 + (a0_3.drop (1:Int).toNat).length) x7.2)] rfl ?_
          refine r_q (q_assign rfl rfl) rfl rfl ?_
          refine r_q (q_assign rfl rfl) rfl rfl ?_
          refine r_nil ?_
          refine j_then ?_
          refine j_ret ?_
          cases h
          exact j_return rfl (ResOf.cell 6 rfl rfl ag29 sz29 (ResOf.tmp rfl (ResOf.tmp rfl ResOf.nil))) rfl (fun w h => ⟨(⟨x4.1.A, x4.1.n, x4.1.c, x4.1.h⟩, ⟨x4.2.1.A, x4.2.1.n, x4.2.1.c, x4.2.1.h⟩, ⟨x4.2.2.1.A, x4.2.2.1.n, x4.2.2.1.c, (set_len x4.2.2.1.h _ _)⟩, ⟨x7.1, (0 + (a0_3.drop (1:Int).toNat).length), x7.2, (app_len rfl rfl)⟩), rfl, h.pick 8 [2, 3, 4, 0] rfl⟩)
  · refine r_off rfl rfl rfl rfl (not_t (var_f c1)) rfl ?_
    refine r_off rfl rfl rfl rfl (not_t (var_f c1)) rfl ?_
    refine r_q (q_pick_t rfl rfl (not_t (var_f c1)) rfl) rfl rfl ?_
    refine r_q (q_move rfl rfl) rfl rfl ?_
    refine r_off rfl rfl rfl rfl rfl rfl ?_
    refine r_off rfl rfl rfl rfl rfl rfl ?_
    refine r_off rfl rfl rfl rfl rfl rfl ?_
    refine r_off rfl rfl rfl rfl rfl rfl ?_
    refine r_off rfl rfl rfl rfl rfl rfl ?_
    refine r_off rfl rfl rfl rfl rfl rfl ?_
    refine r_q (q_pick_t rfl rfl rfl rfl) rfl rfl ?_
    refine r_q (q_move rfl rfl) rfl rfl ?_
    refine r_off rfl rfl rfl rfl rfl rfl ?_
    refine r_off rfl rfl rfl rfl rfl rfl ?_
    refine r_off rfl rfl rfl rfl rfl rfl ?_
    refine r_off rfl rfl rfl rfl rfl rfl ?_
    refine r_q (q_pick_t rfl rfl rfl rfl) rfl rfl ?_
    refine r_nil ?_
    refine j_then ?_
    refine j_true rfl rfl ?_
    refine j_seq ?_
    refine j_region ?_
    refine r_q (q_build (cs := [(.slice none 0 0), (.slice none 0 0), (.slice none 0 0), (.slice none 0 0)]) zr29 pl29 rfl rfl rfl rfl) rfl rfl ?_
    refine r_do (a_storeb 0 rfl sz29 rfl rfl rfl rfl (Nat.le_of_ble_eq_true rfl) rfl) rfl rfl (fun _ => ?_)
    refine j_b0 [(.slice none 0 0), (.slice none 0 0), (.slice none 0 0), (.slice none 0 0)] rfl ?_
    refine r_q (q_assign rfl rfl) rfl rfl ?_
    refine r_q (q_assign rfl rfl) rfl rfl ?_
    refine r_nil ?_
    refine j_then ?_
    refine j_ret ?_
    refine j_then_ret ?_
    refine j_nil 3 1 ?_
    refine j_nil 3 1 ?_
    refine j_nil 3 1 ?_
    refine j_nil 3 1 ?_
    cases h
    exact j_return rfl (ResOf.cell 4 rfl rfl ag29 sz29 (ResOf.tmp rfl (ResOf.tmp rfl ResOf.nil))) rfl (fun w h => ⟨(⟨none, 0, 0, rfl⟩, ⟨none, 0, 0, rfl⟩, ⟨none, 0, 0, rfl⟩, ⟨none, 0, 0, rfl⟩), rfl, h.pick 6 [3, 2, 1, 0] rfl⟩)

end Go.Proofs.Ytigidjhdcplplaa.F
