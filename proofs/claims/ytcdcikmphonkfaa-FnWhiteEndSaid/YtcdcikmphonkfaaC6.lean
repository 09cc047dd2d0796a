/- The program computes these pure functions, printed by the generator of wip/gen. -/
import Derived.Test.YtcdcikmphonkfaaFa
import Derived.Test.YtcdcikmphonkfaaFi
import Derived.Test.YtcdcikmphonkfaaFb
import Derived.Test.YtcdcikmphonkfaaC0
import Derived.Test.YtcdcikmphonkfaaC2
import Derived.Test.YtcdcikmphonkfaaC3
import Derived.Test.YtcdcikmphonkfaaC4
namespace Go.Proofs.Ytcdcikmphonkfaa.F
open Go Go.RowKit Go.Proofs.Ytcdcikmphonkfaa.S
set_option linter.unusedVariables false
set_option maxRecDepth 100000
theorem spec_l1Copy.calls (K : Nat) (a0_0 : List Int) (a0_0_A : Option Addr) (a0_0_n a0_0_c : Nat) (a0_1 : List Int) (a0_1_A : Option Addr) (a0_1_n a0_1_c : Nat) (a0_2 : List Int) (a0_2_A : Option Addr) (a0_2_n a0_2_c : Nat) {w0 w : World} {F : List Res} {r1 : List Int} {r2 : List Int} {r3 : List Int} (hm : Mem w0 (F) w) (a0_0_h : a0_0.length = a0_0_n) (a0_0_R : Rd w0 F a0_0_A (ii a0_0)) (a0_1_h : a0_1.length = a0_1_n) (a0_1_R : Rd w0 F a0_1_A (ii a0_1)) (a0_2_h : a0_2.length = a0_2_n) (a0_2_R : Rd w0 F a0_2_A (ii a0_2)) (h : spec_l1Copy.f K a0_0 a0_1 a0_2 = some (r1, r2, r3)) :
    Calls Try.prog 92 (List.toArray [.agg (List.toArray [.slice a0_0_A a0_0_n a0_0_c, .slice a0_1_A a0_1_n a0_1_c, .slice a0_2_A a0_2_n a0_2_c])]) w fun e w' => ∃ x : (Sl r1.length) × (Sl r2.length) × (Sl r3.length), e = .returned (.agg (List.toArray [.slice x.1.A x.1.n x.1.c, .slice x.2.1.A x.2.1.n x.2.1.c, .slice x.2.2.A x.2.2.n x.2.2.c])) ∧ Mem w0 (.row x.1.A x.1.c 3 1 (ii r1) :: .row x.2.1.A x.2.1.c 3 1 (ii r2) :: .row x.2.2.A x.2.2.c 3 1 (ii r3) :: F) w' := by
  unfold spec_l1Copy.f at h
  refine calls_of_J (n := 16) Try.func92 rfl rfl rfl hm ?_
  refine j_seq ?_
  refine j_region ?_
  refine r_do (a_box rfl rfl) rfl rfl (fun x1 => ?_)
  refine r_do (a_alloc zr25 rfl) rfl rfl (fun x2 => ?_)
  refine r_nil ?_
  refine j_then ?_
  refine j_seq ?_
  obtain ⟨c1, h⟩ := of_guard h
  obtain ⟨c2, h⟩ := of_guard h
  obtain ⟨c3, h⟩ := of_guard h
  refine j_draw (.box x1 25 [(.slice a0_0_A a0_0_n a0_0_c), (.slice a0_1_A a0_1_n a0_1_c), (.slice a0_2_A a0_2_n a0_2_c)] :: F) 14 follows_any rfl ?_
  refine d_take 1 rfl (q_fieldAddr fi25_0 sz23 rfl rfl rfl) rfl rfl (by kernel_rfl) (by kernel_rfl) (by kernel_rfl) (fun w h => h.tail) ?_
  refine d_take 2 rfl (q_loadb 0 rfl ag23 rfl rfl rfl) rfl rfl (by kernel_rfl) (by kernel_rfl) (by kernel_rfl) (fun w h => h.tail) ?_
  refine d_take 5 rfl (q_fieldAddr fi25_1 sz23 rfl rfl rfl) rfl rfl (by kernel_rfl) (by kernel_rfl) (by kernel_rfl) (fun w h => h.tail) ?_
  refine d_take 6 rfl (q_loadb 0 rfl ag23 rfl rfl rfl) rfl rfl (by kernel_rfl) (by kernel_rfl) (by kernel_rfl) (fun w h => h.tail) ?_
  refine d_take 9 rfl (q_fieldAddr fi25_2 sz23 rfl rfl rfl) rfl rfl (by kernel_rfl) (by kernel_rfl) (by kernel_rfl) (fun w h => h.tail) ?_
  refine d_take 10 rfl (q_loadb 0 rfl ag23 rfl rfl rfl) rfl rfl (by kernel_rfl) (by kernel_rfl) (by kernel_rfl) (fun w h => h.tail) ?_
  refine d_join (σ := (Option Addr) × (Option Addr × Nat) × (Option Addr) × (Option Addr × Nat) × (Option Addr) × (Option Addr × Nat)) 0 #[true, true, true, true, true, true, true, true, true, true, true, true, true, true] (fun s => [(2, (pt x2))]) (fun s => .row s.2.1.1 s.2.1.2 3 1 (ii (([] : List Int) ++ a0_0)) :: .row s.2.2.2.1.1 s.2.2.2.1.2 3 1 (ii (([] : List Int) ++ a0_1)) :: .row s.2.2.2.2.2.1 s.2.2.2.2.2.2 3 1 (ii (([] : List Int) ++ a0_2)) :: .box x2 25 [(.slice s.2.1.1 (0 + a0_0_n) s.2.1.2), (.slice s.2.2.2.1.1 (0 + a0_1_n) s.2.2.2.1.2), (.slice s.2.2.2.2.2.1 (0 + a0_2_n) s.2.2.2.2.2.2)] :: .box x1 25 [(.slice a0_0_A a0_0_n a0_0_c), (.slice a0_1_A a0_1_n a0_1_c), (.slice a0_2_A a0_2_n a0_2_c)] :: F) ?_ (fun hD16383 => ?_)
  · rintro ⟨x3, x4, x5, x6, x7, x8⟩
    show J _ _ [(2, (pt x2))] _ (.row x4.1 x4.2 3 1 (ii (([] : List Int) ++ a0_0)) :: .row x6.1 x6.2 3 1 (ii (([] : List Int) ++ a0_1)) :: .row x8.1 x8.2 3 1 (ii (([] : List Int) ++ a0_2)) :: .box x2 25 [(.slice x4.1 (0 + a0_0_n) x4.2), (.slice x6.1 (0 + a0_1_n) x6.2), (.slice x8.1 (0 + a0_2_n) x8.2)] :: .box x1 25 [(.slice a0_0_A a0_0_n a0_0_c), (.slice a0_1_A a0_1_n a0_1_c), (.slice a0_2_A a0_2_n a0_2_c)] :: F)
    refine d_done (by kernel_rfl) ?_
    refine j_then ?_
    refine j_ret ?_
    cases h
    exact j_return rfl (ResOf.cell 3 rfl rfl ag25 sz25 ResOf.nil) rfl (fun w h => ⟨(⟨x4.1, (0 + a0_0_n), x4.2, (app_len rfl a0_0_h)⟩, ⟨x6.1, (0 + a0_1_n), x6.2, (app_len rfl a0_1_h)⟩, ⟨x8.1, (0 + a0_2_n), x8.2, (app_len rfl a0_2_h)⟩), rfl, h.pick 5 [0, 1, 2] rfl⟩)
  refine d_join (σ := (Option Addr) × (Option Addr × Nat) × (Option Addr) × (Option Addr × Nat) × (Option Addr) × (Option Addr × Nat)) 1 #[true, true, true, true, true, true, true, true, true, true, true, true, true, false] (fun s => [(2, (pt x2)), (15, (.agg (List.toArray [(.slice s.2.1.1 (0 + a0_0_n) s.2.1.2), (.slice s.2.2.2.1.1 (0 + a0_1_n) s.2.2.2.1.2), (.slice s.2.2.2.2.2.1 (0 + a0_2_n) s.2.2.2.2.2.2)])))]) (fun s => .row s.2.1.1 s.2.1.2 3 1 (ii (([] : List Int) ++ a0_0)) :: .row s.2.2.2.1.1 s.2.2.2.1.2 3 1 (ii (([] : List Int) ++ a0_1)) :: .row s.2.2.2.2.2.1 s.2.2.2.2.2.2 3 1 (ii (([] : List Int) ++ a0_2)) :: .box x2 25 [(.slice none 0 0), (.slice none 0 0), (.slice none 0 0)] :: .box x1 25 [(.slice a0_0_A a0_0_n a0_0_c), (.slice a0_1_A a0_1_n a0_1_c), (.slice a0_2_A a0_2_n a0_2_c)] :: F) ?_ (fun hD8191 => ?_)
  · rintro ⟨x3, x4, x5, x6, x7, x8⟩
    show J _ _ [(2, (pt x2)), (15, (.agg (List.toArray [(.slice x4.1 (0 + a0_0_n) x4.2), (.slice x6.1 (0 + a0_1_n) x6.2), (.slice x8.1 (0 + a0_2_n) x8.2)])))] _ (.row x4.1 x4.2 3 1 (ii (([] : List Int) ++ a0_0)) :: .row x6.1 x6.2 3 1 (ii (([] : List Int) ++ a0_1)) :: .row x8.1 x8.2 3 1 (ii (([] : List Int) ++ a0_2)) :: .box x2 25 [(.slice none 0 0), (.slice none 0 0), (.slice none 0 0)] :: .box x1 25 [(.slice a0_0_A a0_0_n a0_0_c), (.slice a0_1_A a0_1_n a0_1_c), (.slice a0_2_A a0_2_n a0_2_c)] :: F)
    refine d_one 13 (by kernel_rfl) ?_
    · refine o_do rfl (a_storeb 3 rfl sz25 rfl rfl rfl rfl (Nat.le_of_ble_eq_true rfl) rfl) rfl rfl (fun _ w h => (h.drop 4)) (fun _ => ?_)
      refine j_b3 [(.slice x4.1 (0 + a0_0_n) x4.2), (.slice x6.1 (0 + a0_1_n) x6.2), (.slice x8.1 (0 + a0_2_n) x8.2)] rfl ?_
      refine j_rs (.row x4.1 x4.2 3 1 (ii (([] : List Int) ++ a0_0)) :: .row x6.1 x6.2 3 1 (ii (([] : List Int) ++ a0_1)) :: .row x8.1 x8.2 3 1 (ii (([] : List Int) ++ a0_2)) :: .box x2 25 [(.slice x4.1 (0 + a0_0_n) x4.2), (.slice x6.1 (0 + a0_1_n) x6.2), (.slice x8.1 (0 + a0_2_n) x8.2)] :: .box x1 25 [(.slice a0_0_A a0_0_n a0_0_c), (.slice a0_1_A a0_1_n a0_1_c), (.slice a0_2_A a0_2_n a0_2_c)] :: F) (fun _ h => h) ?_
      refine j_env [(2, (pt x2))] ⟨rfl, trivial⟩ ?_
      exact hD16383 (x3, x4, x5, x6, x7, x8)
  refine d_join (σ := (Option Addr) × (Option Addr × Nat) × (Option Addr) × (Option Addr × Nat) × (Option Addr)) 3 #[true, true, true, true, true, true, true, true, true, true, true, false, false, false] (fun s => [(2, (pt x2)), (6, (.slice s.2.1.1 (0 + a0_0_n) s.2.1.2)), (10, (.slice s.2.2.2.1.1 (0 + a0_1_n) s.2.2.2.1.2)), (11, (.slice s.2.2.2.2 0 0)), (13, (.slice a0_2_A a0_2_n a0_2_c))]) (fun s => .row s.2.1.1 s.2.1.2 3 1 (ii (([] : List Int) ++ a0_0)) :: .row s.2.2.2.1.1 s.2.2.2.1.2 3 1 (ii (([] : List Int) ++ a0_1)) :: .row s.2.2.2.2 0 3 1 (ii ([] : List Int)) :: .box x2 25 [(.slice none 0 0), (.slice none 0 0), (.slice none 0 0)] :: .box x1 25 [(.slice a0_0_A a0_0_n a0_0_c), (.slice a0_1_A a0_1_n a0_1_c), (.slice a0_2_A a0_2_n a0_2_c)] :: F) ?_ (fun hD2047 => ?_)
  · rintro ⟨x3, x4, x5, x6, x7⟩
    show J _ _ [(2, (pt x2)), (6, (.slice x4.1 (0 + a0_0_n) x4.2)), (10, (.slice x6.1 (0 + a0_1_n) x6.2)), (11, (.slice x7 0 0)), (13, (.slice a0_2_A a0_2_n a0_2_c))] _ (.row x4.1 x4.2 3 1 (ii (([] : List Int) ++ a0_0)) :: .row x6.1 x6.2 3 1 (ii (([] : List Int) ++ a0_1)) :: .row x7 0 3 1 (ii ([] : List Int)) :: .box x2 25 [(.slice none 0 0), (.slice none 0 0), (.slice none 0 0)] :: .box x1 25 [(.slice a0_0_A a0_0_n a0_0_c), (.slice a0_1_A a0_1_n a0_1_c), (.slice a0_2_A a0_2_n a0_2_c)] :: F)
    refine d_one 11 (by kernel_rfl) ?_
    · refine o_do rfl (a_appI (xs := ([] : List Int)) (ys := a0_2) 2 un23 un23 sz3 by3 zr3 rfl rfl rfl rfl rfl rfl rfl rfl rfl rfl a0_2_h (Rd.drop 5 a0_2_R) c3) rfl rfl (fun x8 w h => (h.drop 4)) (fun x8 => ?_)
      refine j_s2 ?_
      refine d_take 12 rfl (q_build (cs := [(.slice x4.1 (0 + a0_0_n) x4.2), (.slice x6.1 (0 + a0_1_n) x6.2), (.slice x8.1 (0 + a0_2_n) x8.2)]) zr25 pl25 rfl rfl rfl rfl) rfl rfl (by kernel_rfl) (by kernel_rfl) (by kernel_rfl) (fun w h => (h.drop 4)) ?_
      refine j_rs (.row x4.1 x4.2 3 1 (ii (([] : List Int) ++ a0_0)) :: .row x6.1 x6.2 3 1 (ii (([] : List Int) ++ a0_1)) :: .row x8.1 x8.2 3 1 (ii (([] : List Int) ++ a0_2)) :: .box x2 25 [(.slice none 0 0), (.slice none 0 0), (.slice none 0 0)] :: .box x1 25 [(.slice a0_0_A a0_0_n a0_0_c), (.slice a0_1_A a0_1_n a0_1_c), (.slice a0_2_A a0_2_n a0_2_c)] :: F) (fun _ h => h) ?_
      refine j_env [(2, (pt x2)), (15, (.agg (List.toArray [(.slice x4.1 (0 + a0_0_n) x4.2), (.slice x6.1 (0 + a0_1_n) x6.2), (.slice x8.1 (0 + a0_2_n) x8.2)])))] ⟨rfl, rfl, trivial⟩ ?_
      exact hD8191 (x3, x4, x5, x6, x7, x8)
  refine d_join (σ := (Option Addr) × (Option Addr × Nat) × (Option Addr) × (Option Addr × Nat)) 4 #[true, true, true, true, true, true, true, true, false, true, true, false, false, false] (fun s => [(2, (pt x2)), (6, (.slice s.2.1.1 (0 + a0_0_n) s.2.1.2)), (10, (.slice s.2.2.2.1 (0 + a0_1_n) s.2.2.2.2)), (13, (.slice a0_2_A a0_2_n a0_2_c))]) (fun s => .row s.2.1.1 s.2.1.2 3 1 (ii (([] : List Int) ++ a0_0)) :: .row s.2.2.2.1 s.2.2.2.2 3 1 (ii (([] : List Int) ++ a0_1)) :: .box x2 25 [(.slice none 0 0), (.slice none 0 0), (.slice none 0 0)] :: .box x1 25 [(.slice a0_0_A a0_0_n a0_0_c), (.slice a0_1_A a0_1_n a0_1_c), (.slice a0_2_A a0_2_n a0_2_c)] :: F) ?_ (fun hD1791 => ?_)
  · rintro ⟨x3, x4, x5, x6⟩
    show J _ _ [(2, (pt x2)), (6, (.slice x4.1 (0 + a0_0_n) x4.2)), (10, (.slice x6.1 (0 + a0_1_n) x6.2)), (13, (.slice a0_2_A a0_2_n a0_2_c))] _ (.row x4.1 x4.2 3 1 (ii (([] : List Int) ++ a0_0)) :: .row x6.1 x6.2 3 1 (ii (([] : List Int) ++ a0_1)) :: .box x2 25 [(.slice none 0 0), (.slice none 0 0), (.slice none 0 0)] :: .box x1 25 [(.slice a0_0_A a0_0_n a0_0_c), (.slice a0_1_A a0_1_n a0_1_c), (.slice a0_2_A a0_2_n a0_2_c)] :: F)
    refine d_one 8 (by kernel_rfl) ?_
    · refine o_do rfl (a_litX (vs := []) (ii ([] : List Int)) un23 sz3 zr3 rfl rfl rfl rfl rfl rfl rfl rfl rfl) rfl rfl (fun x7 w h => (h.drop 4)) (fun x7 => ?_)
      refine j_rs (.row x4.1 x4.2 3 1 (ii (([] : List Int) ++ a0_0)) :: .row x6.1 x6.2 3 1 (ii (([] : List Int) ++ a0_1)) :: .row x7 0 3 1 (ii ([] : List Int)) :: .box x2 25 [(.slice none 0 0), (.slice none 0 0), (.slice none 0 0)] :: .box x1 25 [(.slice a0_0_A a0_0_n a0_0_c), (.slice a0_1_A a0_1_n a0_1_c), (.slice a0_2_A a0_2_n a0_2_c)] :: F) (fun _ h => h.pick 5 [1, 2, 0, 3, 4] rfl) ?_
      refine j_env [(2, (pt x2)), (6, (.slice x4.1 (0 + a0_0_n) x4.2)), (10, (.slice x6.1 (0 + a0_1_n) x6.2)), (11, (.slice x7 0 0)), (13, (.slice a0_2_A a0_2_n a0_2_c))] ⟨rfl, rfl, rfl, rfl, rfl, trivial⟩ ?_
      exact hD2047 (x3, x4, x5, x6, x7)
  refine d_join (σ := (Option Addr) × (Option Addr × Nat) × (Option Addr) × (Option Addr)) 4 #[true, true, true, true, true, true, true, false, true, true, true, false, false, false] (fun s => [(2, (pt x2)), (6, (.slice s.2.1.1 (0 + a0_0_n) s.2.1.2)), (7, (.slice s.2.2.1 0 0)), (9, (.slice a0_1_A a0_1_n a0_1_c)), (11, (.slice s.2.2.2 0 0)), (13, (.slice a0_2_A a0_2_n a0_2_c))]) (fun s => .row s.2.1.1 s.2.1.2 3 1 (ii (([] : List Int) ++ a0_0)) :: .row s.2.2.1 0 3 1 (ii ([] : List Int)) :: .row s.2.2.2 0 3 1 (ii ([] : List Int)) :: .box x2 25 [(.slice none 0 0), (.slice none 0 0), (.slice none 0 0)] :: .box x1 25 [(.slice a0_0_A a0_0_n a0_0_c), (.slice a0_1_A a0_1_n a0_1_c), (.slice a0_2_A a0_2_n a0_2_c)] :: F) ?_ (fun hD1919 => ?_)
  · rintro ⟨x3, x4, x5, x7⟩
    show J _ _ [(2, (pt x2)), (6, (.slice x4.1 (0 + a0_0_n) x4.2)), (7, (.slice x5 0 0)), (9, (.slice a0_1_A a0_1_n a0_1_c)), (11, (.slice x7 0 0)), (13, (.slice a0_2_A a0_2_n a0_2_c))] _ (.row x4.1 x4.2 3 1 (ii (([] : List Int) ++ a0_0)) :: .row x5 0 3 1 (ii ([] : List Int)) :: .row x7 0 3 1 (ii ([] : List Int)) :: .box x2 25 [(.slice none 0 0), (.slice none 0 0), (.slice none 0 0)] :: .box x1 25 [(.slice a0_0_A a0_0_n a0_0_c), (.slice a0_1_A a0_1_n a0_1_c), (.slice a0_2_A a0_2_n a0_2_c)] :: F)
    refine d_one 7 (by kernel_rfl) ?_
    · refine o_do rfl (a_appI (xs := ([] : List Int)) (ys := a0_1) 1 un23 un23 sz3 by3 zr3 rfl rfl rfl rfl rfl rfl rfl rfl rfl rfl a0_1_h (Rd.drop 5 a0_1_R) c2) rfl rfl (fun x6 w h => (h.drop 4)) (fun x6 => ?_)
      refine j_s1 ?_
      refine j_rs (.row x4.1 x4.2 3 1 (ii (([] : List Int) ++ a0_0)) :: .row x6.1 x6.2 3 1 (ii (([] : List Int) ++ a0_1)) :: .row x7 0 3 1 (ii ([] : List Int)) :: .box x2 25 [(.slice none 0 0), (.slice none 0 0), (.slice none 0 0)] :: .box x1 25 [(.slice a0_0_A a0_0_n a0_0_c), (.slice a0_1_A a0_1_n a0_1_c), (.slice a0_2_A a0_2_n a0_2_c)] :: F) (fun _ h => h) ?_
      refine j_env [(2, (pt x2)), (6, (.slice x4.1 (0 + a0_0_n) x4.2)), (10, (.slice x6.1 (0 + a0_1_n) x6.2)), (11, (.slice x7 0 0)), (13, (.slice a0_2_A a0_2_n a0_2_c))] ⟨rfl, rfl, rfl, rfl, rfl, trivial⟩ ?_
      exact hD2047 (x3, x4, x5, x6, x7)
  refine d_join (σ := (Option Addr) × (Option Addr × Nat) × (Option Addr)) 5 #[true, true, true, true, true, true, true, false, false, true, true, false, false, false] (fun s => [(2, (pt x2)), (6, (.slice s.2.1.1 (0 + a0_0_n) s.2.1.2)), (7, (.slice s.2.2 0 0)), (9, (.slice a0_1_A a0_1_n a0_1_c)), (13, (.slice a0_2_A a0_2_n a0_2_c))]) (fun s => .row s.2.1.1 s.2.1.2 3 1 (ii (([] : List Int) ++ a0_0)) :: .row s.2.2 0 3 1 (ii ([] : List Int)) :: .box x2 25 [(.slice none 0 0), (.slice none 0 0), (.slice none 0 0)] :: .box x1 25 [(.slice a0_0_A a0_0_n a0_0_c), (.slice a0_1_A a0_1_n a0_1_c), (.slice a0_2_A a0_2_n a0_2_c)] :: F) ?_ (fun hD1663 => ?_)
  · rintro ⟨x3, x4, x5⟩
    show J _ _ [(2, (pt x2)), (6, (.slice x4.1 (0 + a0_0_n) x4.2)), (7, (.slice x5 0 0)), (9, (.slice a0_1_A a0_1_n a0_1_c)), (13, (.slice a0_2_A a0_2_n a0_2_c))] _ (.row x4.1 x4.2 3 1 (ii (([] : List Int) ++ a0_0)) :: .row x5 0 3 1 (ii ([] : List Int)) :: .box x2 25 [(.slice none 0 0), (.slice none 0 0), (.slice none 0 0)] :: .box x1 25 [(.slice a0_0_A a0_0_n a0_0_c), (.slice a0_1_A a0_1_n a0_1_c), (.slice a0_2_A a0_2_n a0_2_c)] :: F)
    refine d_two 7 8 (by kernel_rfl) ?_ ?_
    · refine o_do rfl (a_appI (xs := ([] : List Int)) (ys := a0_1) 1 un23 un23 sz3 by3 zr3 rfl rfl rfl rfl rfl rfl rfl rfl rfl rfl a0_1_h (Rd.drop 4 a0_1_R) c2) rfl rfl (fun x6 w h => (h.drop 3)) (fun x6 => ?_)
      refine j_s1 ?_
      refine j_rs (.row x4.1 x4.2 3 1 (ii (([] : List Int) ++ a0_0)) :: .row x6.1 x6.2 3 1 (ii (([] : List Int) ++ a0_1)) :: .box x2 25 [(.slice none 0 0), (.slice none 0 0), (.slice none 0 0)] :: .box x1 25 [(.slice a0_0_A a0_0_n a0_0_c), (.slice a0_1_A a0_1_n a0_1_c), (.slice a0_2_A a0_2_n a0_2_c)] :: F) (fun _ h => h) ?_
      refine j_env [(2, (pt x2)), (6, (.slice x4.1 (0 + a0_0_n) x4.2)), (10, (.slice x6.1 (0 + a0_1_n) x6.2)), (13, (.slice a0_2_A a0_2_n a0_2_c))] ⟨rfl, rfl, rfl, rfl, trivial⟩ ?_
      exact hD1791 (x3, x4, x5, x6)
    · refine o_do rfl (a_litX (vs := []) (ii ([] : List Int)) un23 sz3 zr3 rfl rfl rfl rfl rfl rfl rfl rfl rfl) rfl rfl (fun x7 w h => (h.drop 4)) (fun x7 => ?_)
      refine j_rs (.row x4.1 x4.2 3 1 (ii (([] : List Int) ++ a0_0)) :: .row x5 0 3 1 (ii ([] : List Int)) :: .row x7 0 3 1 (ii ([] : List Int)) :: .box x2 25 [(.slice none 0 0), (.slice none 0 0), (.slice none 0 0)] :: .box x1 25 [(.slice a0_0_A a0_0_n a0_0_c), (.slice a0_1_A a0_1_n a0_1_c), (.slice a0_2_A a0_2_n a0_2_c)] :: F) (fun _ h => h.pick 5 [1, 2, 0, 3, 4] rfl) ?_
      refine j_env [(2, (pt x2)), (6, (.slice x4.1 (0 + a0_0_n) x4.2)), (7, (.slice x5 0 0)), (9, (.slice a0_1_A a0_1_n a0_1_c)), (11, (.slice x7 0 0)), (13, (.slice a0_2_A a0_2_n a0_2_c))] ⟨rfl, rfl, rfl, rfl, rfl, rfl, trivial⟩ ?_
      exact hD1919 (x3, x4, x5, x7)
  refine d_join (σ := (Option Addr) × (Option Addr × Nat) × (Option Addr)) 5 #[true, true, true, true, false, true, true, false, true, true, true, false, false, false] (fun s => [(2, (pt x2)), (6, (.slice s.2.1.1 (0 + a0_0_n) s.2.1.2)), (9, (.slice a0_1_A a0_1_n a0_1_c)), (11, (.slice s.2.2 0 0)), (13, (.slice a0_2_A a0_2_n a0_2_c))]) (fun s => .row s.2.1.1 s.2.1.2 3 1 (ii (([] : List Int) ++ a0_0)) :: .row s.2.2 0 3 1 (ii ([] : List Int)) :: .box x2 25 [(.slice none 0 0), (.slice none 0 0), (.slice none 0 0)] :: .box x1 25 [(.slice a0_0_A a0_0_n a0_0_c), (.slice a0_1_A a0_1_n a0_1_c), (.slice a0_2_A a0_2_n a0_2_c)] :: F) ?_ (fun hD1903 => ?_)
  · rintro ⟨x3, x4, x7⟩
    show J _ _ [(2, (pt x2)), (6, (.slice x4.1 (0 + a0_0_n) x4.2)), (9, (.slice a0_1_A a0_1_n a0_1_c)), (11, (.slice x7 0 0)), (13, (.slice a0_2_A a0_2_n a0_2_c))] _ (.row x4.1 x4.2 3 1 (ii (([] : List Int) ++ a0_0)) :: .row x7 0 3 1 (ii ([] : List Int)) :: .box x2 25 [(.slice none 0 0), (.slice none 0 0), (.slice none 0 0)] :: .box x1 25 [(.slice a0_0_A a0_0_n a0_0_c), (.slice a0_1_A a0_1_n a0_1_c), (.slice a0_2_A a0_2_n a0_2_c)] :: F)
    refine d_one 4 (by kernel_rfl) ?_
    · refine o_do rfl (a_litX (vs := []) (ii ([] : List Int)) un23 sz3 zr3 rfl rfl rfl rfl rfl rfl rfl rfl rfl) rfl rfl (fun x5 w h => (h.drop 4)) (fun x5 => ?_)
      refine j_rs (.row x4.1 x4.2 3 1 (ii (([] : List Int) ++ a0_0)) :: .row x5 0 3 1 (ii ([] : List Int)) :: .row x7 0 3 1 (ii ([] : List Int)) :: .box x2 25 [(.slice none 0 0), (.slice none 0 0), (.slice none 0 0)] :: .box x1 25 [(.slice a0_0_A a0_0_n a0_0_c), (.slice a0_1_A a0_1_n a0_1_c), (.slice a0_2_A a0_2_n a0_2_c)] :: F) (fun _ h => h.pick 5 [1, 0, 2, 3, 4] rfl) ?_
      refine j_env [(2, (pt x2)), (6, (.slice x4.1 (0 + a0_0_n) x4.2)), (7, (.slice x5 0 0)), (9, (.slice a0_1_A a0_1_n a0_1_c)), (11, (.slice x7 0 0)), (13, (.slice a0_2_A a0_2_n a0_2_c))] ⟨rfl, rfl, rfl, rfl, rfl, rfl, trivial⟩ ?_
      exact hD1919 (x3, x4, x5, x7)
  refine d_join (σ := (Option Addr) × (Option Addr) × (Option Addr)) 5 #[true, true, true, false, true, true, true, false, true, true, true, false, false, false] (fun s => [(2, (pt x2)), (3, (.slice s.1 0 0)), (5, (.slice a0_0_A a0_0_n a0_0_c)), (7, (.slice s.2.1 0 0)), (9, (.slice a0_1_A a0_1_n a0_1_c)), (11, (.slice s.2.2 0 0)), (13, (.slice a0_2_A a0_2_n a0_2_c))]) (fun s => .row s.1 0 3 1 (ii ([] : List Int)) :: .row s.2.1 0 3 1 (ii ([] : List Int)) :: .row s.2.2 0 3 1 (ii ([] : List Int)) :: .box x2 25 [(.slice none 0 0), (.slice none 0 0), (.slice none 0 0)] :: .box x1 25 [(.slice a0_0_A a0_0_n a0_0_c), (.slice a0_1_A a0_1_n a0_1_c), (.slice a0_2_A a0_2_n a0_2_c)] :: F) ?_ (fun hD1911 => ?_)
  · rintro ⟨x3, x5, x7⟩
    show J _ _ [(2, (pt x2)), (3, (.slice x3 0 0)), (5, (.slice a0_0_A a0_0_n a0_0_c)), (7, (.slice x5 0 0)), (9, (.slice a0_1_A a0_1_n a0_1_c)), (11, (.slice x7 0 0)), (13, (.slice a0_2_A a0_2_n a0_2_c))] _ (.row x3 0 3 1 (ii ([] : List Int)) :: .row x5 0 3 1 (ii ([] : List Int)) :: .row x7 0 3 1 (ii ([] : List Int)) :: .box x2 25 [(.slice none 0 0), (.slice none 0 0), (.slice none 0 0)] :: .box x1 25 [(.slice a0_0_A a0_0_n a0_0_c), (.slice a0_1_A a0_1_n a0_1_c), (.slice a0_2_A a0_2_n a0_2_c)] :: F)
    refine d_one 3 (by kernel_rfl) ?_
    · refine o_do rfl (a_appI (xs := ([] : List Int)) (ys := a0_0) 0 un23 un23 sz3 by3 zr3 rfl rfl rfl rfl rfl rfl rfl rfl rfl rfl a0_0_h (Rd.drop 5 a0_0_R) c1) rfl rfl (fun x4 w h => (h.drop 4)) (fun x4 => ?_)
      refine j_s0 ?_
      refine j_rs (.row x4.1 x4.2 3 1 (ii (([] : List Int) ++ a0_0)) :: .row x5 0 3 1 (ii ([] : List Int)) :: .row x7 0 3 1 (ii ([] : List Int)) :: .box x2 25 [(.slice none 0 0), (.slice none 0 0), (.slice none 0 0)] :: .box x1 25 [(.slice a0_0_A a0_0_n a0_0_c), (.slice a0_1_A a0_1_n a0_1_c), (.slice a0_2_A a0_2_n a0_2_c)] :: F) (fun _ h => h) ?_
      refine j_env [(2, (pt x2)), (6, (.slice x4.1 (0 + a0_0_n) x4.2)), (7, (.slice x5 0 0)), (9, (.slice a0_1_A a0_1_n a0_1_c)), (11, (.slice x7 0 0)), (13, (.slice a0_2_A a0_2_n a0_2_c))] ⟨rfl, rfl, rfl, rfl, rfl, rfl, trivial⟩ ?_
      exact hD1919 (x3, x4, x5, x7)
  refine d_join (σ := (Option Addr) × (Option Addr × Nat)) 6 #[true, true, true, true, false, true, true, false, false, true, true, false, false, false] (fun s => [(2, (pt x2)), (6, (.slice s.2.1 (0 + a0_0_n) s.2.2)), (9, (.slice a0_1_A a0_1_n a0_1_c)), (13, (.slice a0_2_A a0_2_n a0_2_c))]) (fun s => .row s.2.1 s.2.2 3 1 (ii (([] : List Int) ++ a0_0)) :: .box x2 25 [(.slice none 0 0), (.slice none 0 0), (.slice none 0 0)] :: .box x1 25 [(.slice a0_0_A a0_0_n a0_0_c), (.slice a0_1_A a0_1_n a0_1_c), (.slice a0_2_A a0_2_n a0_2_c)] :: F) ?_ (fun hD1647 => ?_)
  · rintro ⟨x3, x4⟩
    show J _ _ [(2, (pt x2)), (6, (.slice x4.1 (0 + a0_0_n) x4.2)), (9, (.slice a0_1_A a0_1_n a0_1_c)), (13, (.slice a0_2_A a0_2_n a0_2_c))] _ (.row x4.1 x4.2 3 1 (ii (([] : List Int) ++ a0_0)) :: .box x2 25 [(.slice none 0 0), (.slice none 0 0), (.slice none 0 0)] :: .box x1 25 [(.slice a0_0_A a0_0_n a0_0_c), (.slice a0_1_A a0_1_n a0_1_c), (.slice a0_2_A a0_2_n a0_2_c)] :: F)
    refine d_two 4 8 (by kernel_rfl) ?_ ?_
    · refine o_do rfl (a_litX (vs := []) (ii ([] : List Int)) un23 sz3 zr3 rfl rfl rfl rfl rfl rfl rfl rfl rfl) rfl rfl (fun x5 w h => (h.drop 3)) (fun x5 => ?_)
      refine j_rs (.row x4.1 x4.2 3 1 (ii (([] : List Int) ++ a0_0)) :: .row x5 0 3 1 (ii ([] : List Int)) :: .box x2 25 [(.slice none 0 0), (.slice none 0 0), (.slice none 0 0)] :: .box x1 25 [(.slice a0_0_A a0_0_n a0_0_c), (.slice a0_1_A a0_1_n a0_1_c), (.slice a0_2_A a0_2_n a0_2_c)] :: F) (fun _ h => h.pick 4 [1, 0, 2, 3] rfl) ?_
      refine j_env [(2, (pt x2)), (6, (.slice x4.1 (0 + a0_0_n) x4.2)), (7, (.slice x5 0 0)), (9, (.slice a0_1_A a0_1_n a0_1_c)), (13, (.slice a0_2_A a0_2_n a0_2_c))] ⟨rfl, rfl, rfl, rfl, rfl, trivial⟩ ?_
      exact hD1663 (x3, x4, x5)
    · refine o_do rfl (a_litX (vs := []) (ii ([] : List Int)) un23 sz3 zr3 rfl rfl rfl rfl rfl rfl rfl rfl rfl) rfl rfl (fun x7 w h => (h.drop 3)) (fun x7 => ?_)
      refine j_rs (.row x4.1 x4.2 3 1 (ii (([] : List Int) ++ a0_0)) :: .row x7 0 3 1 (ii ([] : List Int)) :: .box x2 25 [(.slice none 0 0), (.slice none 0 0), (.slice none 0 0)] :: .box x1 25 [(.slice a0_0_A a0_0_n a0_0_c), (.slice a0_1_A a0_1_n a0_1_c), (.slice a0_2_A a0_2_n a0_2_c)] :: F) (fun _ h => h.pick 4 [1, 0, 2, 3] rfl) ?_
      refine j_env [(2, (pt x2)), (6, (.slice x4.1 (0 + a0_0_n) x4.2)), (9, (.slice a0_1_A a0_1_n a0_1_c)), (11, (.slice x7 0 0)), (13, (.slice a0_2_A a0_2_n a0_2_c))] ⟨rfl, rfl, rfl, rfl, rfl, trivial⟩ ?_
      exact hD1903 (x3, x4, x7)
  refine d_join (σ := (Option Addr) × (Option Addr)) 6 #[true, true, true, false, true, true, true, false, false, true, true, false, false, false] (fun s => [(2, (pt x2)), (3, (.slice s.1 0 0)), (5, (.slice a0_0_A a0_0_n a0_0_c)), (7, (.slice s.2 0 0)), (9, (.slice a0_1_A a0_1_n a0_1_c)), (13, (.slice a0_2_A a0_2_n a0_2_c))]) (fun s => .row s.1 0 3 1 (ii ([] : List Int)) :: .row s.2 0 3 1 (ii ([] : List Int)) :: .box x2 25 [(.slice none 0 0), (.slice none 0 0), (.slice none 0 0)] :: .box x1 25 [(.slice a0_0_A a0_0_n a0_0_c), (.slice a0_1_A a0_1_n a0_1_c), (.slice a0_2_A a0_2_n a0_2_c)] :: F) ?_ (fun hD1655 => ?_)
  · rintro ⟨x3, x5⟩
    show J _ _ [(2, (pt x2)), (3, (.slice x3 0 0)), (5, (.slice a0_0_A a0_0_n a0_0_c)), (7, (.slice x5 0 0)), (9, (.slice a0_1_A a0_1_n a0_1_c)), (13, (.slice a0_2_A a0_2_n a0_2_c))] _ (.row x3 0 3 1 (ii ([] : List Int)) :: .row x5 0 3 1 (ii ([] : List Int)) :: .box x2 25 [(.slice none 0 0), (.slice none 0 0), (.slice none 0 0)] :: .box x1 25 [(.slice a0_0_A a0_0_n a0_0_c), (.slice a0_1_A a0_1_n a0_1_c), (.slice a0_2_A a0_2_n a0_2_c)] :: F)
    refine d_two 3 8 (by kernel_rfl) ?_ ?_
    · refine o_do rfl (a_appI (xs := ([] : List Int)) (ys := a0_0) 0 un23 un23 sz3 by3 zr3 rfl rfl rfl rfl rfl rfl rfl rfl rfl rfl a0_0_h (Rd.drop 4 a0_0_R) c1) rfl rfl (fun x4 w h => (h.drop 3)) (fun x4 => ?_)
      refine j_s0 ?_
      refine j_rs (.row x4.1 x4.2 3 1 (ii (([] : List Int) ++ a0_0)) :: .row x5 0 3 1 (ii ([] : List Int)) :: .box x2 25 [(.slice none 0 0), (.slice none 0 0), (.slice none 0 0)] :: .box x1 25 [(.slice a0_0_A a0_0_n a0_0_c), (.slice a0_1_A a0_1_n a0_1_c), (.slice a0_2_A a0_2_n a0_2_c)] :: F) (fun _ h => h) ?_
      refine j_env [(2, (pt x2)), (6, (.slice x4.1 (0 + a0_0_n) x4.2)), (7, (.slice x5 0 0)), (9, (.slice a0_1_A a0_1_n a0_1_c)), (13, (.slice a0_2_A a0_2_n a0_2_c))] ⟨rfl, rfl, rfl, rfl, rfl, trivial⟩ ?_
      exact hD1663 (x3, x4, x5)
    · refine o_do rfl (a_litX (vs := []) (ii ([] : List Int)) un23 sz3 zr3 rfl rfl rfl rfl rfl rfl rfl rfl rfl) rfl rfl (fun x7 w h => (h.drop 4)) (fun x7 => ?_)
      refine j_rs (.row x3 0 3 1 (ii ([] : List Int)) :: .row x5 0 3 1 (ii ([] : List Int)) :: .row x7 0 3 1 (ii ([] : List Int)) :: .box x2 25 [(.slice none 0 0), (.slice none 0 0), (.slice none 0 0)] :: .box x1 25 [(.slice a0_0_A a0_0_n a0_0_c), (.slice a0_1_A a0_1_n a0_1_c), (.slice a0_2_A a0_2_n a0_2_c)] :: F) (fun _ h => h.pick 5 [1, 2, 0, 3, 4] rfl) ?_
      refine j_env [(2, (pt x2)), (3, (.slice x3 0 0)), (5, (.slice a0_0_A a0_0_n a0_0_c)), (7, (.slice x5 0 0)), (9, (.slice a0_1_A a0_1_n a0_1_c)), (11, (.slice x7 0 0)), (13, (.slice a0_2_A a0_2_n a0_2_c))] ⟨rfl, rfl, rfl, rfl, rfl, rfl, rfl, trivial⟩ ?_
      exact hD1911 (x3, x5, x7)
  refine d_join (σ := (Option Addr) × (Option Addr)) 6 #[true, true, true, false, false, true, true, false, true, true, true, false, false, false] (fun s => [(2, (pt x2)), (3, (.slice s.1 0 0)), (5, (.slice a0_0_A a0_0_n a0_0_c)), (9, (.slice a0_1_A a0_1_n a0_1_c)), (11, (.slice s.2 0 0)), (13, (.slice a0_2_A a0_2_n a0_2_c))]) (fun s => .row s.1 0 3 1 (ii ([] : List Int)) :: .row s.2 0 3 1 (ii ([] : List Int)) :: .box x2 25 [(.slice none 0 0), (.slice none 0 0), (.slice none 0 0)] :: .box x1 25 [(.slice a0_0_A a0_0_n a0_0_c), (.slice a0_1_A a0_1_n a0_1_c), (.slice a0_2_A a0_2_n a0_2_c)] :: F) ?_ (fun hD1895 => ?_)
  · rintro ⟨x3, x7⟩
    show J _ _ [(2, (pt x2)), (3, (.slice x3 0 0)), (5, (.slice a0_0_A a0_0_n a0_0_c)), (9, (.slice a0_1_A a0_1_n a0_1_c)), (11, (.slice x7 0 0)), (13, (.slice a0_2_A a0_2_n a0_2_c))] _ (.row x3 0 3 1 (ii ([] : List Int)) :: .row x7 0 3 1 (ii ([] : List Int)) :: .box x2 25 [(.slice none 0 0), (.slice none 0 0), (.slice none 0 0)] :: .box x1 25 [(.slice a0_0_A a0_0_n a0_0_c), (.slice a0_1_A a0_1_n a0_1_c), (.slice a0_2_A a0_2_n a0_2_c)] :: F)
    refine d_two 3 4 (by kernel_rfl) ?_ ?_
    · refine o_do rfl (a_appI (xs := ([] : List Int)) (ys := a0_0) 0 un23 un23 sz3 by3 zr3 rfl rfl rfl rfl rfl rfl rfl rfl rfl rfl a0_0_h (Rd.drop 4 a0_0_R) c1) rfl rfl (fun x4 w h => (h.drop 3)) (fun x4 => ?_)
      refine j_s0 ?_
      refine j_rs (.row x4.1 x4.2 3 1 (ii (([] : List Int) ++ a0_0)) :: .row x7 0 3 1 (ii ([] : List Int)) :: .box x2 25 [(.slice none 0 0), (.slice none 0 0), (.slice none 0 0)] :: .box x1 25 [(.slice a0_0_A a0_0_n a0_0_c), (.slice a0_1_A a0_1_n a0_1_c), (.slice a0_2_A a0_2_n a0_2_c)] :: F) (fun _ h => h) ?_
      refine j_env [(2, (pt x2)), (6, (.slice x4.1 (0 + a0_0_n) x4.2)), (9, (.slice a0_1_A a0_1_n a0_1_c)), (11, (.slice x7 0 0)), (13, (.slice a0_2_A a0_2_n a0_2_c))] ⟨rfl, rfl, rfl, rfl, rfl, trivial⟩ ?_
      exact hD1903 (x3, x4, x7)
    · refine o_do rfl (a_litX (vs := []) (ii ([] : List Int)) un23 sz3 zr3 rfl rfl rfl rfl rfl rfl rfl rfl rfl) rfl rfl (fun x5 w h => (h.drop 4)) (fun x5 => ?_)
      refine j_rs (.row x3 0 3 1 (ii ([] : List Int)) :: .row x5 0 3 1 (ii ([] : List Int)) :: .row x7 0 3 1 (ii ([] : List Int)) :: .box x2 25 [(.slice none 0 0), (.slice none 0 0), (.slice none 0 0)] :: .box x1 25 [(.slice a0_0_A a0_0_n a0_0_c), (.slice a0_1_A a0_1_n a0_1_c), (.slice a0_2_A a0_2_n a0_2_c)] :: F) (fun _ h => h.pick 5 [1, 0, 2, 3, 4] rfl) ?_
      refine j_env [(2, (pt x2)), (3, (.slice x3 0 0)), (5, (.slice a0_0_A a0_0_n a0_0_c)), (7, (.slice x5 0 0)), (9, (.slice a0_1_A a0_1_n a0_1_c)), (11, (.slice x7 0 0)), (13, (.slice a0_2_A a0_2_n a0_2_c))] ⟨rfl, rfl, rfl, rfl, rfl, rfl, rfl, trivial⟩ ?_
      exact hD1911 (x3, x5, x7)
  refine d_join (σ := (Option Addr) × (Option Addr)) 6 #[false, true, true, false, true, true, true, false, true, true, true, false, false, false] (fun s => [(2, (pt x2)), (5, (.slice a0_0_A a0_0_n a0_0_c)), (7, (.slice s.1 0 0)), (9, (.slice a0_1_A a0_1_n a0_1_c)), (11, (.slice s.2 0 0)), (13, (.slice a0_2_A a0_2_n a0_2_c))]) (fun s => .row s.1 0 3 1 (ii ([] : List Int)) :: .row s.2 0 3 1 (ii ([] : List Int)) :: .box x2 25 [(.slice none 0 0), (.slice none 0 0), (.slice none 0 0)] :: .box x1 25 [(.slice a0_0_A a0_0_n a0_0_c), (.slice a0_1_A a0_1_n a0_1_c), (.slice a0_2_A a0_2_n a0_2_c)] :: F) ?_ (fun hD1910 => ?_)
  · rintro ⟨x5, x7⟩
    show J _ _ [(2, (pt x2)), (5, (.slice a0_0_A a0_0_n a0_0_c)), (7, (.slice x5 0 0)), (9, (.slice a0_1_A a0_1_n a0_1_c)), (11, (.slice x7 0 0)), (13, (.slice a0_2_A a0_2_n a0_2_c))] _ (.row x5 0 3 1 (ii ([] : List Int)) :: .row x7 0 3 1 (ii ([] : List Int)) :: .box x2 25 [(.slice none 0 0), (.slice none 0 0), (.slice none 0 0)] :: .box x1 25 [(.slice a0_0_A a0_0_n a0_0_c), (.slice a0_1_A a0_1_n a0_1_c), (.slice a0_2_A a0_2_n a0_2_c)] :: F)
    refine d_one 0 (by kernel_rfl) ?_
    · refine o_do rfl (a_litX (vs := []) (ii ([] : List Int)) un23 sz3 zr3 rfl rfl rfl rfl rfl rfl rfl rfl rfl) rfl rfl (fun x3 w h => (h.drop 4)) (fun x3 => ?_)
      refine j_rs (.row x3 0 3 1 (ii ([] : List Int)) :: .row x5 0 3 1 (ii ([] : List Int)) :: .row x7 0 3 1 (ii ([] : List Int)) :: .box x2 25 [(.slice none 0 0), (.slice none 0 0), (.slice none 0 0)] :: .box x1 25 [(.slice a0_0_A a0_0_n a0_0_c), (.slice a0_1_A a0_1_n a0_1_c), (.slice a0_2_A a0_2_n a0_2_c)] :: F) (fun _ h => h) ?_
      refine j_env [(2, (pt x2)), (3, (.slice x3 0 0)), (5, (.slice a0_0_A a0_0_n a0_0_c)), (7, (.slice x5 0 0)), (9, (.slice a0_1_A a0_1_n a0_1_c)), (11, (.slice x7 0 0)), (13, (.slice a0_2_A a0_2_n a0_2_c))] ⟨rfl, rfl, rfl, rfl, rfl, rfl, rfl, trivial⟩ ?_
      exact hD1911 (x3, x5, x7)
  refine d_join (σ := (Option Addr)) 7 #[true, true, true, false, false, true, true, false, false, true, true, false, false, false] (fun s => [(2, (pt x2)), (3, (.slice s 0 0)), (5, (.slice a0_0_A a0_0_n a0_0_c)), (9, (.slice a0_1_A a0_1_n a0_1_c)), (13, (.slice a0_2_A a0_2_n a0_2_c))]) (fun s => .row s 0 3 1 (ii ([] : List Int)) :: .box x2 25 [(.slice none 0 0), (.slice none 0 0), (.slice none 0 0)] :: .box x1 25 [(.slice a0_0_A a0_0_n a0_0_c), (.slice a0_1_A a0_1_n a0_1_c), (.slice a0_2_A a0_2_n a0_2_c)] :: F) ?_ (fun hD1639 => ?_)
  · rintro x3
    show J _ _ [(2, (pt x2)), (3, (.slice x3 0 0)), (5, (.slice a0_0_A a0_0_n a0_0_c)), (9, (.slice a0_1_A a0_1_n a0_1_c)), (13, (.slice a0_2_A a0_2_n a0_2_c))] _ (.row x3 0 3 1 (ii ([] : List Int)) :: .box x2 25 [(.slice none 0 0), (.slice none 0 0), (.slice none 0 0)] :: .box x1 25 [(.slice a0_0_A a0_0_n a0_0_c), (.slice a0_1_A a0_1_n a0_1_c), (.slice a0_2_A a0_2_n a0_2_c)] :: F)
    refine d_three 3 4 8 (by kernel_rfl) ?_ ?_ ?_
    · refine o_do rfl (a_appI (xs := ([] : List Int)) (ys := a0_0) 0 un23 un23 sz3 by3 zr3 rfl rfl rfl rfl rfl rfl rfl rfl rfl rfl a0_0_h (Rd.drop 3 a0_0_R) c1) rfl rfl (fun x4 w h => (h.drop 2)) (fun x4 => ?_)
      refine j_s0 ?_
      refine j_rs (.row x4.1 x4.2 3 1 (ii (([] : List Int) ++ a0_0)) :: .box x2 25 [(.slice none 0 0), (.slice none 0 0), (.slice none 0 0)] :: .box x1 25 [(.slice a0_0_A a0_0_n a0_0_c), (.slice a0_1_A a0_1_n a0_1_c), (.slice a0_2_A a0_2_n a0_2_c)] :: F) (fun _ h => h) ?_
      refine j_env [(2, (pt x2)), (6, (.slice x4.1 (0 + a0_0_n) x4.2)), (9, (.slice a0_1_A a0_1_n a0_1_c)), (13, (.slice a0_2_A a0_2_n a0_2_c))] ⟨rfl, rfl, rfl, rfl, trivial⟩ ?_
      exact hD1647 (x3, x4)
    · refine o_do rfl (a_litX (vs := []) (ii ([] : List Int)) un23 sz3 zr3 rfl rfl rfl rfl rfl rfl rfl rfl rfl) rfl rfl (fun x5 w h => (h.drop 3)) (fun x5 => ?_)
      refine j_rs (.row x3 0 3 1 (ii ([] : List Int)) :: .row x5 0 3 1 (ii ([] : List Int)) :: .box x2 25 [(.slice none 0 0), (.slice none 0 0), (.slice none 0 0)] :: .box x1 25 [(.slice a0_0_A a0_0_n a0_0_c), (.slice a0_1_A a0_1_n a0_1_c), (.slice a0_2_A a0_2_n a0_2_c)] :: F) (fun _ h => h.pick 4 [1, 0, 2, 3] rfl) ?_
      refine j_env [(2, (pt x2)), (3, (.slice x3 0 0)), (5, (.slice a0_0_A a0_0_n a0_0_c)), (7, (.slice x5 0 0)), (9, (.slice a0_1_A a0_1_n a0_1_c)), (13, (.slice a0_2_A a0_2_n a0_2_c))] ⟨rfl, rfl, rfl, rfl, rfl, rfl, trivial⟩ ?_
      exact hD1655 (x3, x5)
    · refine o_do rfl (a_litX (vs := []) (ii ([] : List Int)) un23 sz3 zr3 rfl rfl rfl rfl rfl rfl rfl rfl rfl) rfl rfl (fun x7 w h => (h.drop 3)) (fun x7 => ?_)
      refine j_rs (.row x3 0 3 1 (ii ([] : List Int)) :: .row x7 0 3 1 (ii ([] : List Int)) :: .box x2 25 [(.slice none 0 0), (.slice none 0 0), (.slice none 0 0)] :: .box x1 25 [(.slice a0_0_A a0_0_n a0_0_c), (.slice a0_1_A a0_1_n a0_1_c), (.slice a0_2_A a0_2_n a0_2_c)] :: F) (fun _ h => h.pick 4 [1, 0, 2, 3] rfl) ?_
      refine j_env [(2, (pt x2)), (3, (.slice x3 0 0)), (5, (.slice a0_0_A a0_0_n a0_0_c)), (9, (.slice a0_1_A a0_1_n a0_1_c)), (11, (.slice x7 0 0)), (13, (.slice a0_2_A a0_2_n a0_2_c))] ⟨rfl, rfl, rfl, rfl, rfl, rfl, trivial⟩ ?_
      exact hD1895 (x3, x7)
  refine d_join (σ := (Option Addr)) 7 #[false, true, true, false, true, true, true, false, false, true, true, false, false, false] (fun s => [(2, (pt x2)), (5, (.slice a0_0_A a0_0_n a0_0_c)), (7, (.slice s 0 0)), (9, (.slice a0_1_A a0_1_n a0_1_c)), (13, (.slice a0_2_A a0_2_n a0_2_c))]) (fun s => .row s 0 3 1 (ii ([] : List Int)) :: .box x2 25 [(.slice none 0 0), (.slice none 0 0), (.slice none 0 0)] :: .box x1 25 [(.slice a0_0_A a0_0_n a0_0_c), (.slice a0_1_A a0_1_n a0_1_c), (.slice a0_2_A a0_2_n a0_2_c)] :: F) ?_ (fun hD1654 => ?_)
  · rintro x5
    show J _ _ [(2, (pt x2)), (5, (.slice a0_0_A a0_0_n a0_0_c)), (7, (.slice x5 0 0)), (9, (.slice a0_1_A a0_1_n a0_1_c)), (13, (.slice a0_2_A a0_2_n a0_2_c))] _ (.row x5 0 3 1 (ii ([] : List Int)) :: .box x2 25 [(.slice none 0 0), (.slice none 0 0), (.slice none 0 0)] :: .box x1 25 [(.slice a0_0_A a0_0_n a0_0_c), (.slice a0_1_A a0_1_n a0_1_c), (.slice a0_2_A a0_2_n a0_2_c)] :: F)
    refine d_two 0 8 (by kernel_rfl) ?_ ?_
    · refine o_do rfl (a_litX (vs := []) (ii ([] : List Int)) un23 sz3 zr3 rfl rfl rfl rfl rfl rfl rfl rfl rfl) rfl rfl (fun x3 w h => (h.drop 3)) (fun x3 => ?_)
      refine j_rs (.row x3 0 3 1 (ii ([] : List Int)) :: .row x5 0 3 1 (ii ([] : List Int)) :: .box x2 25 [(.slice none 0 0), (.slice none 0 0), (.slice none 0 0)] :: .box x1 25 [(.slice a0_0_A a0_0_n a0_0_c), (.slice a0_1_A a0_1_n a0_1_c), (.slice a0_2_A a0_2_n a0_2_c)] :: F) (fun _ h => h) ?_
      refine j_env [(2, (pt x2)), (3, (.slice x3 0 0)), (5, (.slice a0_0_A a0_0_n a0_0_c)), (7, (.slice x5 0 0)), (9, (.slice a0_1_A a0_1_n a0_1_c)), (13, (.slice a0_2_A a0_2_n a0_2_c))] ⟨rfl, rfl, rfl, rfl, rfl, rfl, trivial⟩ ?_
      exact hD1655 (x3, x5)
    · refine o_do rfl (a_litX (vs := []) (ii ([] : List Int)) un23 sz3 zr3 rfl rfl rfl rfl rfl rfl rfl rfl rfl) rfl rfl (fun x7 w h => (h.drop 3)) (fun x7 => ?_)
      refine j_rs (.row x5 0 3 1 (ii ([] : List Int)) :: .row x7 0 3 1 (ii ([] : List Int)) :: .box x2 25 [(.slice none 0 0), (.slice none 0 0), (.slice none 0 0)] :: .box x1 25 [(.slice a0_0_A a0_0_n a0_0_c), (.slice a0_1_A a0_1_n a0_1_c), (.slice a0_2_A a0_2_n a0_2_c)] :: F) (fun _ h => h.pick 4 [1, 0, 2, 3] rfl) ?_
      refine j_env [(2, (pt x2)), (5, (.slice a0_0_A a0_0_n a0_0_c)), (7, (.slice x5 0 0)), (9, (.slice a0_1_A a0_1_n a0_1_c)), (11, (.slice x7 0 0)), (13, (.slice a0_2_A a0_2_n a0_2_c))] ⟨rfl, rfl, rfl, rfl, rfl, rfl, trivial⟩ ?_
      exact hD1910 (x5, x7)
  refine d_join (σ := (Option Addr)) 7 #[false, true, true, false, false, true, true, false, true, true, true, false, false, false] (fun s => [(2, (pt x2)), (5, (.slice a0_0_A a0_0_n a0_0_c)), (9, (.slice a0_1_A a0_1_n a0_1_c)), (11, (.slice s 0 0)), (13, (.slice a0_2_A a0_2_n a0_2_c))]) (fun s => .row s 0 3 1 (ii ([] : List Int)) :: .box x2 25 [(.slice none 0 0), (.slice none 0 0), (.slice none 0 0)] :: .box x1 25 [(.slice a0_0_A a0_0_n a0_0_c), (.slice a0_1_A a0_1_n a0_1_c), (.slice a0_2_A a0_2_n a0_2_c)] :: F) ?_ (fun hD1894 => ?_)
  · rintro x7
    show J _ _ [(2, (pt x2)), (5, (.slice a0_0_A a0_0_n a0_0_c)), (9, (.slice a0_1_A a0_1_n a0_1_c)), (11, (.slice x7 0 0)), (13, (.slice a0_2_A a0_2_n a0_2_c))] _ (.row x7 0 3 1 (ii ([] : List Int)) :: .box x2 25 [(.slice none 0 0), (.slice none 0 0), (.slice none 0 0)] :: .box x1 25 [(.slice a0_0_A a0_0_n a0_0_c), (.slice a0_1_A a0_1_n a0_1_c), (.slice a0_2_A a0_2_n a0_2_c)] :: F)
    refine d_two 0 4 (by kernel_rfl) ?_ ?_
    · refine o_do rfl (a_litX (vs := []) (ii ([] : List Int)) un23 sz3 zr3 rfl rfl rfl rfl rfl rfl rfl rfl rfl) rfl rfl (fun x3 w h => (h.drop 3)) (fun x3 => ?_)
      refine j_rs (.row x3 0 3 1 (ii ([] : List Int)) :: .row x7 0 3 1 (ii ([] : List Int)) :: .box x2 25 [(.slice none 0 0), (.slice none 0 0), (.slice none 0 0)] :: .box x1 25 [(.slice a0_0_A a0_0_n a0_0_c), (.slice a0_1_A a0_1_n a0_1_c), (.slice a0_2_A a0_2_n a0_2_c)] :: F) (fun _ h => h) ?_
      refine j_env [(2, (pt x2)), (3, (.slice x3 0 0)), (5, (.slice a0_0_A a0_0_n a0_0_c)), (9, (.slice a0_1_A a0_1_n a0_1_c)), (11, (.slice x7 0 0)), (13, (.slice a0_2_A a0_2_n a0_2_c))] ⟨rfl, rfl, rfl, rfl, rfl, rfl, trivial⟩ ?_
      exact hD1895 (x3, x7)
    · refine o_do rfl (a_litX (vs := []) (ii ([] : List Int)) un23 sz3 zr3 rfl rfl rfl rfl rfl rfl rfl rfl rfl) rfl rfl (fun x5 w h => (h.drop 3)) (fun x5 => ?_)
      refine j_rs (.row x5 0 3 1 (ii ([] : List Int)) :: .row x7 0 3 1 (ii ([] : List Int)) :: .box x2 25 [(.slice none 0 0), (.slice none 0 0), (.slice none 0 0)] :: .box x1 25 [(.slice a0_0_A a0_0_n a0_0_c), (.slice a0_1_A a0_1_n a0_1_c), (.slice a0_2_A a0_2_n a0_2_c)] :: F) (fun _ h => h) ?_
      refine j_env [(2, (pt x2)), (5, (.slice a0_0_A a0_0_n a0_0_c)), (7, (.slice x5 0 0)), (9, (.slice a0_1_A a0_1_n a0_1_c)), (11, (.slice x7 0 0)), (13, (.slice a0_2_A a0_2_n a0_2_c))] ⟨rfl, rfl, rfl, rfl, rfl, rfl, trivial⟩ ?_
      exact hD1910 (x5, x7)
  refine d_three 0 4 8 (by kernel_rfl) ?_ ?_ ?_
  · refine o_do rfl (a_litX (vs := []) (ii ([] : List Int)) un23 sz3 zr3 rfl rfl rfl rfl rfl rfl rfl rfl rfl) rfl rfl (fun x3 w h => (h.drop 2)) (fun x3 => ?_)
    refine j_rs (.row x3 0 3 1 (ii ([] : List Int)) :: .box x2 25 [(.slice none 0 0), (.slice none 0 0), (.slice none 0 0)] :: .box x1 25 [(.slice a0_0_A a0_0_n a0_0_c), (.slice a0_1_A a0_1_n a0_1_c), (.slice a0_2_A a0_2_n a0_2_c)] :: F) (fun _ h => h) ?_
    refine j_env [(2, (pt x2)), (3, (.slice x3 0 0)), (5, (.slice a0_0_A a0_0_n a0_0_c)), (9, (.slice a0_1_A a0_1_n a0_1_c)), (13, (.slice a0_2_A a0_2_n a0_2_c))] ⟨rfl, rfl, rfl, rfl, rfl, trivial⟩ ?_
    exact hD1639 x3
  · refine o_do rfl (a_litX (vs := []) (ii ([] : List Int)) un23 sz3 zr3 rfl rfl rfl rfl rfl rfl rfl rfl rfl) rfl rfl (fun x5 w h => (h.drop 2)) (fun x5 => ?_)
    refine j_rs (.row x5 0 3 1 (ii ([] : List Int)) :: .box x2 25 [(.slice none 0 0), (.slice none 0 0), (.slice none 0 0)] :: .box x1 25 [(.slice a0_0_A a0_0_n a0_0_c), (.slice a0_1_A a0_1_n a0_1_c), (.slice a0_2_A a0_2_n a0_2_c)] :: F) (fun _ h => h) ?_
    refine j_env [(2, (pt x2)), (5, (.slice a0_0_A a0_0_n a0_0_c)), (7, (.slice x5 0 0)), (9, (.slice a0_1_A a0_1_n a0_1_c)), (13, (.slice a0_2_A a0_2_n a0_2_c))] ⟨rfl, rfl, rfl, rfl, rfl, trivial⟩ ?_
    exact hD1654 x5
  · refine o_do rfl (a_litX (vs := []) (ii ([] : List Int)) un23 sz3 zr3 rfl rfl rfl rfl rfl rfl rfl rfl rfl) rfl rfl (fun x7 w h => (h.drop 2)) (fun x7 => ?_)
    refine j_rs (.row x7 0 3 1 (ii ([] : List Int)) :: .box x2 25 [(.slice none 0 0), (.slice none 0 0), (.slice none 0 0)] :: .box x1 25 [(.slice a0_0_A a0_0_n a0_0_c), (.slice a0_1_A a0_1_n a0_1_c), (.slice a0_2_A a0_2_n a0_2_c)] :: F) (fun _ h => h) ?_
    refine j_env [(2, (pt x2)), (5, (.slice a0_0_A a0_0_n a0_0_c)), (9, (.slice a0_1_A a0_1_n a0_1_c)), (11, (.slice x7 0 0)), (13, (.slice a0_2_A a0_2_n a0_2_c))] ⟨rfl, rfl, rfl, rfl, rfl, trivial⟩ ?_
    exact hD1894 x7

theorem spec_l3Copy.calls (K : Nat) (a0_0 : List Int) (a0_0_A : Option Addr) (a0_0_n a0_0_c : Nat) (a0_1 : List Int) (a0_1_A : Option Addr) (a0_1_n a0_1_c : Nat) (a0_2 : List Int) (a0_2_A : Option Addr) (a0_2_n a0_2_c : Nat) (a0_3 : List Int) (a0_3_A : Option Addr) (a0_3_n a0_3_c : Nat) {w0 w : World} {F : List Res} {r1 : List Int} {r2 : List Int} {r3 : List Int} {r4 : List Int} (hm : Mem w0 (F) w) (a0_0_h : a0_0.length = a0_0_n) (a0_0_R : Rd w0 F a0_0_A (ii a0_0)) (a0_1_h : a0_1.length = a0_1_n) (a0_1_R : Rd w0 F a0_1_A (ii a0_1)) (a0_2_h : a0_2.length = a0_2_n) (a0_2_R : Rd w0 F a0_2_A (ii a0_2)) (a0_3_h : a0_3.length = a0_3_n) (a0_3_R : Rd w0 F a0_3_A (ii a0_3)) (h : spec_l3Copy.f K a0_0 a0_1 a0_2 a0_3 = some (r1, r2, r3, r4)) :
    Calls Try.prog 61 (List.toArray [.agg (List.toArray [.slice a0_0_A a0_0_n a0_0_c, .slice a0_1_A a0_1_n a0_1_c, .slice a0_2_A a0_2_n a0_2_c, .slice a0_3_A a0_3_n a0_3_c])]) w fun e w' => ∃ x : (Sl r1.length) × (Sl r2.length) × (Sl r3.length) × (Sl r4.length), e = .returned (.agg (List.toArray [.slice x.1.A x.1.n x.1.c, .slice x.2.1.A x.2.1.n x.2.1.c, .slice x.2.2.1.A x.2.2.1.n x.2.2.1.c, .slice x.2.2.2.A x.2.2.2.n x.2.2.2.c])) ∧ Mem w0 (.row x.1.A x.1.c 3 1 (ii r1) :: .row x.2.1.A x.2.1.c 3 1 (ii r2) :: .row x.2.2.1.A x.2.2.1.c 3 1 (ii r3) :: .row x.2.2.2.A x.2.2.2.c 3 1 (ii r4) :: F) w' := by
  unfold spec_l3Copy.f at h
  refine calls_of_J (n := 11) Try.func61 rfl rfl rfl hm ?_
  refine j_seq ?_
  refine j_region ?_
  refine r_do (a_box rfl rfl) rfl rfl (fun x1 => ?_)
  refine r_do (a_alloc zr27 rfl) rfl rfl (fun x2 => ?_)
  refine r_nil ?_
  refine j_then ?_
  refine j_seq ?_
  obtain ⟨v1, v2, v3, hb1, h⟩ := of_b3 h
  obtain ⟨c1, h⟩ := of_guard h
  refine j_draw (.box x1 27 [(.slice a0_0_A a0_0_n a0_0_c), (.slice a0_1_A a0_1_n a0_1_c), (.slice a0_2_A a0_2_n a0_2_c), (.slice a0_3_A a0_3_n a0_3_c)] :: F) 9 follows_any rfl ?_
  refine d_take 0 rfl (q_fieldAddr fi27_0 sz25 rfl rfl rfl) rfl rfl (by kernel_rfl) (by kernel_rfl) (by kernel_rfl) (fun w h => h.tail) ?_
  refine d_take 1 rfl (q_loadb_agg 0 rfl ag25 sz25 rfl rfl rfl rfl) rfl rfl (by kernel_rfl) (by kernel_rfl) (by kernel_rfl) (fun w h => h.tail) ?_
  refine d_take 4 rfl (q_fieldAddr fi27_1 sz23 rfl rfl rfl) rfl rfl (by kernel_rfl) (by kernel_rfl) (by kernel_rfl) (fun w h => h.tail) ?_
  refine d_take 5 rfl (q_loadb 0 rfl ag23 rfl rfl rfl) rfl rfl (by kernel_rfl) (by kernel_rfl) (by kernel_rfl) (fun w h => h.tail) ?_
  refine d_join (σ := ((Sl v1.length) × (Sl v2.length) × (Sl v3.length)) × (Option Addr) × (Option Addr × Nat)) 0 #[true, true, true, true, true, true, true, true, true] (fun s => [(2, (pt x2))]) (fun s => .row s.1.1.A s.1.1.c 3 1 (ii v1) :: .row s.1.2.1.A s.1.2.1.c 3 1 (ii v2) :: .row s.1.2.2.A s.1.2.2.c 3 1 (ii v3) :: .row s.2.2.1 s.2.2.2 3 1 (ii (([] : List Int) ++ a0_3)) :: .box x2 27 [(.slice s.1.1.A s.1.1.n s.1.1.c), (.slice s.1.2.1.A s.1.2.1.n s.1.2.1.c), (.slice s.1.2.2.A s.1.2.2.n s.1.2.2.c), (.slice s.2.2.1 (0 + a0_3_n) s.2.2.2)] :: .box x1 27 [(.slice a0_0_A a0_0_n a0_0_c), (.slice a0_1_A a0_1_n a0_1_c), (.slice a0_2_A a0_2_n a0_2_c), (.slice a0_3_A a0_3_n a0_3_c)] :: F) ?_ (fun hD511 => ?_)
  · rintro ⟨x3, x4, x5⟩
    show J _ _ [(2, (pt x2))] _ (.row x3.1.A x3.1.c 3 1 (ii v1) :: .row x3.2.1.A x3.2.1.c 3 1 (ii v2) :: .row x3.2.2.A x3.2.2.c 3 1 (ii v3) :: .row x5.1 x5.2 3 1 (ii (([] : List Int) ++ a0_3)) :: .box x2 27 [(.slice x3.1.A x3.1.n x3.1.c), (.slice x3.2.1.A x3.2.1.n x3.2.1.c), (.slice x3.2.2.A x3.2.2.n x3.2.2.c), (.slice x5.1 (0 + a0_3_n) x5.2)] :: .box x1 27 [(.slice a0_0_A a0_0_n a0_0_c), (.slice a0_1_A a0_1_n a0_1_c), (.slice a0_2_A a0_2_n a0_2_c), (.slice a0_3_A a0_3_n a0_3_c)] :: F)
    refine d_done (by kernel_rfl) ?_
    refine j_then ?_
    refine j_ret ?_
    cases h
    exact j_return rfl (ResOf.cell 4 rfl rfl ag27 sz27 ResOf.nil) rfl (fun w h => ⟨(⟨x3.1.A, x3.1.n, x3.1.c, x3.1.h⟩, ⟨x3.2.1.A, x3.2.1.n, x3.2.1.c, x3.2.1.h⟩, ⟨x3.2.2.A, x3.2.2.n, x3.2.2.c, x3.2.2.h⟩, ⟨x5.1, (0 + a0_3_n), x5.2, (app_len rfl a0_3_h)⟩), rfl, h.pick 6 [0, 1, 2, 3] rfl⟩)
  refine d_join (σ := ((Sl v1.length) × (Sl v2.length) × (Sl v3.length)) × (Option Addr) × (Option Addr × Nat)) 1 #[true, true, true, true, true, true, true, true, false] (fun s => [(2, (pt x2)), (10, (.agg (List.toArray [(.slice s.1.1.A s.1.1.n s.1.1.c), (.slice s.1.2.1.A s.1.2.1.n s.1.2.1.c), (.slice s.1.2.2.A s.1.2.2.n s.1.2.2.c), (.slice s.2.2.1 (0 + a0_3_n) s.2.2.2)])))]) (fun s => .row s.1.1.A s.1.1.c 3 1 (ii v1) :: .row s.1.2.1.A s.1.2.1.c 3 1 (ii v2) :: .row s.1.2.2.A s.1.2.2.c 3 1 (ii v3) :: .row s.2.2.1 s.2.2.2 3 1 (ii (([] : List Int) ++ a0_3)) :: .box x2 27 [(.slice none 0 0), (.slice none 0 0), (.slice none 0 0), (.slice none 0 0)] :: .box x1 27 [(.slice a0_0_A a0_0_n a0_0_c), (.slice a0_1_A a0_1_n a0_1_c), (.slice a0_2_A a0_2_n a0_2_c), (.slice a0_3_A a0_3_n a0_3_c)] :: F) ?_ (fun hD255 => ?_)
  · rintro ⟨x3, x4, x5⟩
    show J _ _ [(2, (pt x2)), (10, (.agg (List.toArray [(.slice x3.1.A x3.1.n x3.1.c), (.slice x3.2.1.A x3.2.1.n x3.2.1.c), (.slice x3.2.2.A x3.2.2.n x3.2.2.c), (.slice x5.1 (0 + a0_3_n) x5.2)])))] _ (.row x3.1.A x3.1.c 3 1 (ii v1) :: .row x3.2.1.A x3.2.1.c 3 1 (ii v2) :: .row x3.2.2.A x3.2.2.c 3 1 (ii v3) :: .row x5.1 x5.2 3 1 (ii (([] : List Int) ++ a0_3)) :: .box x2 27 [(.slice none 0 0), (.slice none 0 0), (.slice none 0 0), (.slice none 0 0)] :: .box x1 27 [(.slice a0_0_A a0_0_n a0_0_c), (.slice a0_1_A a0_1_n a0_1_c), (.slice a0_2_A a0_2_n a0_2_c), (.slice a0_3_A a0_3_n a0_3_c)] :: F)
    refine d_one 8 (by kernel_rfl) ?_
    · refine o_do rfl (a_storeb 4 rfl sz27 rfl rfl rfl rfl (Nat.le_of_ble_eq_true rfl) rfl) rfl rfl (fun _ w h => (h.drop 5)) (fun _ => ?_)
      refine j_b4 [(.slice x3.1.A x3.1.n x3.1.c), (.slice x3.2.1.A x3.2.1.n x3.2.1.c), (.slice x3.2.2.A x3.2.2.n x3.2.2.c), (.slice x5.1 (0 + a0_3_n) x5.2)] rfl ?_
      refine j_rs (.row x3.1.A x3.1.c 3 1 (ii v1) :: .row x3.2.1.A x3.2.1.c 3 1 (ii v2) :: .row x3.2.2.A x3.2.2.c 3 1 (ii v3) :: .row x5.1 x5.2 3 1 (ii (([] : List Int) ++ a0_3)) :: .box x2 27 [(.slice x3.1.A x3.1.n x3.1.c), (.slice x3.2.1.A x3.2.1.n x3.2.1.c), (.slice x3.2.2.A x3.2.2.n x3.2.2.c), (.slice x5.1 (0 + a0_3_n) x5.2)] :: .box x1 27 [(.slice a0_0_A a0_0_n a0_0_c), (.slice a0_1_A a0_1_n a0_1_c), (.slice a0_2_A a0_2_n a0_2_c), (.slice a0_3_A a0_3_n a0_3_c)] :: F) (fun _ h => h) ?_
      refine j_env [(2, (pt x2))] ⟨rfl, trivial⟩ ?_
      exact hD511 (x3, x4, x5)
  refine d_join (σ := ((Sl v1.length) × (Sl v2.length) × (Sl v3.length)) × (Option Addr)) 3 #[true, true, true, true, true, true, false, false, false] (fun s => [(2, (pt x2)), (5, (.agg (List.toArray [(.slice s.1.1.A s.1.1.n s.1.1.c), (.slice s.1.2.1.A s.1.2.1.n s.1.2.1.c), (.slice s.1.2.2.A s.1.2.2.n s.1.2.2.c)]))), (6, (.slice s.2 0 0)), (8, (.slice a0_3_A a0_3_n a0_3_c))]) (fun s => .row s.1.1.A s.1.1.c 3 1 (ii v1) :: .row s.1.2.1.A s.1.2.1.c 3 1 (ii v2) :: .row s.1.2.2.A s.1.2.2.c 3 1 (ii v3) :: .row s.2 0 3 1 (ii ([] : List Int)) :: .box x2 27 [(.slice none 0 0), (.slice none 0 0), (.slice none 0 0), (.slice none 0 0)] :: .box x1 27 [(.slice a0_0_A a0_0_n a0_0_c), (.slice a0_1_A a0_1_n a0_1_c), (.slice a0_2_A a0_2_n a0_2_c), (.slice a0_3_A a0_3_n a0_3_c)] :: F) ?_ (fun hD63 => ?_)
  · rintro ⟨x3, x4⟩
    show J _ _ [(2, (pt x2)), (5, (.agg (List.toArray [(.slice x3.1.A x3.1.n x3.1.c), (.slice x3.2.1.A x3.2.1.n x3.2.1.c), (.slice x3.2.2.A x3.2.2.n x3.2.2.c)]))), (6, (.slice x4 0 0)), (8, (.slice a0_3_A a0_3_n a0_3_c))] _ (.row x3.1.A x3.1.c 3 1 (ii v1) :: .row x3.2.1.A x3.2.1.c 3 1 (ii v2) :: .row x3.2.2.A x3.2.2.c 3 1 (ii v3) :: .row x4 0 3 1 (ii ([] : List Int)) :: .box x2 27 [(.slice none 0 0), (.slice none 0 0), (.slice none 0 0), (.slice none 0 0)] :: .box x1 27 [(.slice a0_0_A a0_0_n a0_0_c), (.slice a0_1_A a0_1_n a0_1_c), (.slice a0_2_A a0_2_n a0_2_c), (.slice a0_3_A a0_3_n a0_3_c)] :: F)
    refine d_one 6 (by kernel_rfl) ?_
    · refine o_do rfl (a_appI (xs := ([] : List Int)) (ys := a0_3) 3 un23 un23 sz3 by3 zr3 rfl rfl rfl rfl rfl rfl rfl rfl rfl rfl a0_3_h (Rd.drop 6 a0_3_R) c1) rfl rfl (fun x5 w h => (h.drop 5)) (fun x5 => ?_)
      refine j_s3 ?_
      refine d_take 7 rfl (q_build (cs := [(.slice x3.1.A x3.1.n x3.1.c), (.slice x3.2.1.A x3.2.1.n x3.2.1.c), (.slice x3.2.2.A x3.2.2.n x3.2.2.c), (.slice x5.1 (0 + a0_3_n) x5.2)]) zr27 pl27 rfl rfl rfl rfl) rfl rfl (by kernel_rfl) (by kernel_rfl) (by kernel_rfl) (fun w h => (h.drop 5)) ?_
      refine j_rs (.row x3.1.A x3.1.c 3 1 (ii v1) :: .row x3.2.1.A x3.2.1.c 3 1 (ii v2) :: .row x3.2.2.A x3.2.2.c 3 1 (ii v3) :: .row x5.1 x5.2 3 1 (ii (([] : List Int) ++ a0_3)) :: .box x2 27 [(.slice none 0 0), (.slice none 0 0), (.slice none 0 0), (.slice none 0 0)] :: .box x1 27 [(.slice a0_0_A a0_0_n a0_0_c), (.slice a0_1_A a0_1_n a0_1_c), (.slice a0_2_A a0_2_n a0_2_c), (.slice a0_3_A a0_3_n a0_3_c)] :: F) (fun _ h => h) ?_
      refine j_env [(2, (pt x2)), (10, (.agg (List.toArray [(.slice x3.1.A x3.1.n x3.1.c), (.slice x3.2.1.A x3.2.1.n x3.2.1.c), (.slice x3.2.2.A x3.2.2.n x3.2.2.c), (.slice x5.1 (0 + a0_3_n) x5.2)])))] ⟨rfl, rfl, trivial⟩ ?_
      exact hD255 (x3, x4, x5)
  refine d_join (σ := ((Sl v1.length) × (Sl v2.length) × (Sl v3.length))) 4 #[true, true, true, false, true, true, false, false, false] (fun s => [(2, (pt x2)), (5, (.agg (List.toArray [(.slice s.1.A s.1.n s.1.c), (.slice s.2.1.A s.2.1.n s.2.1.c), (.slice s.2.2.A s.2.2.n s.2.2.c)]))), (8, (.slice a0_3_A a0_3_n a0_3_c))]) (fun s => .row s.1.A s.1.c 3 1 (ii v1) :: .row s.2.1.A s.2.1.c 3 1 (ii v2) :: .row s.2.2.A s.2.2.c 3 1 (ii v3) :: .box x2 27 [(.slice none 0 0), (.slice none 0 0), (.slice none 0 0), (.slice none 0 0)] :: .box x1 27 [(.slice a0_0_A a0_0_n a0_0_c), (.slice a0_1_A a0_1_n a0_1_c), (.slice a0_2_A a0_2_n a0_2_c), (.slice a0_3_A a0_3_n a0_3_c)] :: F) ?_ (fun hD55 => ?_)
  · rintro x3
    show J _ _ [(2, (pt x2)), (5, (.agg (List.toArray [(.slice x3.1.A x3.1.n x3.1.c), (.slice x3.2.1.A x3.2.1.n x3.2.1.c), (.slice x3.2.2.A x3.2.2.n x3.2.2.c)]))), (8, (.slice a0_3_A a0_3_n a0_3_c))] _ (.row x3.1.A x3.1.c 3 1 (ii v1) :: .row x3.2.1.A x3.2.1.c 3 1 (ii v2) :: .row x3.2.2.A x3.2.2.c 3 1 (ii v3) :: .box x2 27 [(.slice none 0 0), (.slice none 0 0), (.slice none 0 0), (.slice none 0 0)] :: .box x1 27 [(.slice a0_0_A a0_0_n a0_0_c), (.slice a0_1_A a0_1_n a0_1_c), (.slice a0_2_A a0_2_n a0_2_c), (.slice a0_3_A a0_3_n a0_3_c)] :: F)
    refine d_one 3 (by kernel_rfl) ?_
    · refine o_do rfl (a_litX (vs := []) (ii ([] : List Int)) un23 sz3 zr3 rfl rfl rfl rfl rfl rfl rfl rfl rfl) rfl rfl (fun x4 w h => (h.drop 5)) (fun x4 => ?_)
      refine j_rs (.row x3.1.A x3.1.c 3 1 (ii v1) :: .row x3.2.1.A x3.2.1.c 3 1 (ii v2) :: .row x3.2.2.A x3.2.2.c 3 1 (ii v3) :: .row x4 0 3 1 (ii ([] : List Int)) :: .box x2 27 [(.slice none 0 0), (.slice none 0 0), (.slice none 0 0), (.slice none 0 0)] :: .box x1 27 [(.slice a0_0_A a0_0_n a0_0_c), (.slice a0_1_A a0_1_n a0_1_c), (.slice a0_2_A a0_2_n a0_2_c), (.slice a0_3_A a0_3_n a0_3_c)] :: F) (fun _ h => h.pick 6 [1, 2, 3, 0, 4, 5] rfl) ?_
      refine j_env [(2, (pt x2)), (5, (.agg (List.toArray [(.slice x3.1.A x3.1.n x3.1.c), (.slice x3.2.1.A x3.2.1.n x3.2.1.c), (.slice x3.2.2.A x3.2.2.n x3.2.2.c)]))), (6, (.slice x4 0 0)), (8, (.slice a0_3_A a0_3_n a0_3_c))] ⟨rfl, rfl, rfl, rfl, trivial⟩ ?_
      exact hD63 (x3, x4)
  refine d_join (σ := (Option Addr)) 4 #[true, true, false, true, true, true, false, false, false] (fun s => [(2, (pt x2)), (4, (.agg (List.toArray [(.slice a0_0_A a0_0_n a0_0_c), (.slice a0_1_A a0_1_n a0_1_c), (.slice a0_2_A a0_2_n a0_2_c)]))), (6, (.slice s 0 0)), (8, (.slice a0_3_A a0_3_n a0_3_c))]) (fun s => .row s 0 3 1 (ii ([] : List Int)) :: .box x2 27 [(.slice none 0 0), (.slice none 0 0), (.slice none 0 0), (.slice none 0 0)] :: .box x1 27 [(.slice a0_0_A a0_0_n a0_0_c), (.slice a0_1_A a0_1_n a0_1_c), (.slice a0_2_A a0_2_n a0_2_c), (.slice a0_3_A a0_3_n a0_3_c)] :: F) ?_ (fun hD59 => ?_)
  · rintro x4
    show J _ _ [(2, (pt x2)), (4, (.agg (List.toArray [(.slice a0_0_A a0_0_n a0_0_c), (.slice a0_1_A a0_1_n a0_1_c), (.slice a0_2_A a0_2_n a0_2_c)]))), (6, (.slice x4 0 0)), (8, (.slice a0_3_A a0_3_n a0_3_c))] _ (.row x4 0 3 1 (ii ([] : List Int)) :: .box x2 27 [(.slice none 0 0), (.slice none 0 0), (.slice none 0 0), (.slice none 0 0)] :: .box x1 27 [(.slice a0_0_A a0_0_n a0_0_c), (.slice a0_1_A a0_1_n a0_1_c), (.slice a0_2_A a0_2_n a0_2_c), (.slice a0_3_A a0_3_n a0_3_c)] :: F)
    refine d_one 2 (by kernel_rfl) ?_
    · refine o_do rfl (a_call ok92 rfl rfl rfl rfl (fun w hm => spec_l1Copy.calls K a0_0 a0_0_A a0_0_n a0_0_c a0_1 a0_1_A a0_1_n a0_1_c a0_2 a0_2_A a0_2_n a0_2_c hm a0_0_h (Rd.drop 3 a0_0_R) a0_1_h (Rd.drop 3 a0_1_R) a0_2_h (Rd.drop 3 a0_2_R) hb1)) rfl rfl (fun x3 w h => (h.drop 5)) (fun x3 => ?_)
      refine j_rs (.row x3.1.A x3.1.c 3 1 (ii v1) :: .row x3.2.1.A x3.2.1.c 3 1 (ii v2) :: .row x3.2.2.A x3.2.2.c 3 1 (ii v3) :: .row x4 0 3 1 (ii ([] : List Int)) :: .box x2 27 [(.slice none 0 0), (.slice none 0 0), (.slice none 0 0), (.slice none 0 0)] :: .box x1 27 [(.slice a0_0_A a0_0_n a0_0_c), (.slice a0_1_A a0_1_n a0_1_c), (.slice a0_2_A a0_2_n a0_2_c), (.slice a0_3_A a0_3_n a0_3_c)] :: F) (fun _ h => h) ?_
      refine j_env [(2, (pt x2)), (5, (.agg (List.toArray [(.slice x3.1.A x3.1.n x3.1.c), (.slice x3.2.1.A x3.2.1.n x3.2.1.c), (.slice x3.2.2.A x3.2.2.n x3.2.2.c)]))), (6, (.slice x4 0 0)), (8, (.slice a0_3_A a0_3_n a0_3_c))] ⟨rfl, rfl, rfl, rfl, trivial⟩ ?_
      exact hD63 (x3, x4)
  refine d_two 2 3 (by kernel_rfl) ?_ ?_
  · refine o_do rfl (a_call ok92 rfl rfl rfl rfl (fun w hm => spec_l1Copy.calls K a0_0 a0_0_A a0_0_n a0_0_c a0_1 a0_1_A a0_1_n a0_1_c a0_2 a0_2_A a0_2_n a0_2_c hm a0_0_h (Rd.drop 2 a0_0_R) a0_1_h (Rd.drop 2 a0_1_R) a0_2_h (Rd.drop 2 a0_2_R) hb1)) rfl rfl (fun x3 w h => (h.drop 4)) (fun x3 => ?_)
    refine j_rs (.row x3.1.A x3.1.c 3 1 (ii v1) :: .row x3.2.1.A x3.2.1.c 3 1 (ii v2) :: .row x3.2.2.A x3.2.2.c 3 1 (ii v3) :: .box x2 27 [(.slice none 0 0), (.slice none 0 0), (.slice none 0 0), (.slice none 0 0)] :: .box x1 27 [(.slice a0_0_A a0_0_n a0_0_c), (.slice a0_1_A a0_1_n a0_1_c), (.slice a0_2_A a0_2_n a0_2_c), (.slice a0_3_A a0_3_n a0_3_c)] :: F) (fun _ h => h) ?_
    refine j_env [(2, (pt x2)), (5, (.agg (List.toArray [(.slice x3.1.A x3.1.n x3.1.c), (.slice x3.2.1.A x3.2.1.n x3.2.1.c), (.slice x3.2.2.A x3.2.2.n x3.2.2.c)]))), (8, (.slice a0_3_A a0_3_n a0_3_c))] ⟨rfl, rfl, rfl, trivial⟩ ?_
    exact hD55 x3
  · refine o_do rfl (a_litX (vs := []) (ii ([] : List Int)) un23 sz3 zr3 rfl rfl rfl rfl rfl rfl rfl rfl rfl) rfl rfl (fun x4 w h => (h.drop 2)) (fun x4 => ?_)
    refine j_rs (.row x4 0 3 1 (ii ([] : List Int)) :: .box x2 27 [(.slice none 0 0), (.slice none 0 0), (.slice none 0 0), (.slice none 0 0)] :: .box x1 27 [(.slice a0_0_A a0_0_n a0_0_c), (.slice a0_1_A a0_1_n a0_1_c), (.slice a0_2_A a0_2_n a0_2_c), (.slice a0_3_A a0_3_n a0_3_c)] :: F) (fun _ h => h) ?_
    refine j_env [(2, (pt x2)), (4, (.agg (List.toArray [(.slice a0_0_A a0_0_n a0_0_c), (.slice a0_1_A a0_1_n a0_1_c), (.slice a0_2_A a0_2_n a0_2_c)]))), (6, (.slice x4 0 0)), (8, (.slice a0_3_A a0_3_n a0_3_c))] ⟨rfl, rfl, rfl, rfl, trivial⟩ ?_
    exact hD59 x4

theorem spec_l3First.calls (K : Nat) (a0_0_A : Option Addr) (a0_0_n a0_0_c : Nat) (a0_1_A : Option Addr) (a0_1_n a0_1_c : Nat) (a0_2_A : Option Addr) (a0_2_n a0_2_c : Nat) (a0_3 : List Int) (a0_3_A : Option Addr) (a0_3_n a0_3_c : Nat) (a1 : Int) {w0 w : World} {F : List Res} {r1 : Int} (hm : Mem w0 (F) w) (a0_3_h : a0_3.length = a0_3_n) (a0_3_R : Rd w0 F a0_3_A (ii a0_3)) (h : spec_l3First.f K a0_3 a1 = some r1) :
    Calls Try.prog 67 (List.toArray [.agg (List.toArray [.slice a0_0_A a0_0_n a0_0_c, .slice a0_1_A a0_1_n a0_1_c, .slice a0_2_A a0_2_n a0_2_c, .slice a0_3_A a0_3_n a0_3_c]), i6 a1]) w fun e w' => ∃ x : Unit, e = .returned (i6 r1) ∧ Mem w0 (F) w' := by
  unfold spec_l3First.f at h
  refine calls_of_J (n := 21) Try.func67 rfl rfl rfl hm ?_
  refine j_seq ?_
  refine j_region ?_
  refine r_do (a_box rfl rfl) rfl rfl (fun x1 => ?_)
  refine r_q (q_assign rfl rfl) rfl rfl ?_
  refine r_nil ?_
  refine j_then ?_
  refine j_seq ?_
  refine j_seq ?_
  refine j_region ?_
  refine r_q (q_assign rfl rfl) rfl rfl ?_
  refine r_nil ?_
  refine j_then ?_
  obtain ⟨κ0, h, hκ0⟩ := ex_k (g := fun κ => spec_l3First.loop0 K κ a0_3 a1 K (0:Int) = some r1) h
  refine j_cut (σ := Unit) (fun s => []) (fun s => F) (fun s => κ0 () = some r1) ?_ ?_
  · refine j_block ?_
    refine j_loop (σ := Int) (fun s => [(1, (i6 a1)), (2, (pt x1)), (5, (i6 s))]) (fun s => .box x1 27 [(.slice a0_0_A a0_0_n a0_0_c), (.slice a0_1_A a0_1_n a0_1_c), (.slice a0_2_A a0_2_n a0_2_c), (.slice a0_3_A a0_3_n a0_3_c)] :: F) (fun m s => spec_l3First.loop0 K κ0 a0_3 a1 m s = some r1) K (0:Int) h (fun a he => he.sub ⟨rfl, rfl, rfl, trivial⟩) (fun w h => h) ?_
    rintro m p2 h
    cases m with
    | zero => exact absurd h (by rw [spec_l3First.loop0]; exact nofun)
    | succ m =>
      rw [spec_l3First.loop0] at h
      show J _ _ [(1, (i6 a1)), (2, (pt x1)), (5, (i6 p2))] _ (.box x1 27 [(.slice a0_0_A a0_0_n a0_0_c), (.slice a0_1_A a0_1_n a0_1_c), (.slice a0_2_A a0_2_n a0_2_c), (.slice a0_3_A a0_3_n a0_3_c)] :: F)
      refine j_seq ?_
      refine j_seq ?_
      refine j_region ?_
      refine r_q (q_move rfl rfl) rfl rfl ?_
      refine r_q (q_fieldAddr fi27_1 sz23 rfl rfl rfl) rfl rfl ?_
      refine r_q (q_loadb 0 rfl ag23 rfl rfl rfl) rfl rfl ?_
      refine r_q (q_lenX a0_3 a0_3_h un23 rfl rfl rfl rfl rfl) rfl rfl ?_
      refine r_q (q_lss rfl rfl rfl) rfl rfl ?_
      refine r_nil ?_
      refine j_then ?_
      rcases of_if h with ⟨c10, h⟩ | ⟨c10, h⟩
      · refine j_true rfl (decide_eq_true c10) ?_
        refine j_skip ?_
        refine j_then ?_
        refine j_seq ?_
        refine j_block ?_
        refine j_seq ?_
        refine j_region ?_
        refine r_q (q_fieldAddr fi27_1 sz23 rfl rfl rfl) rfl rfl ?_
        refine r_q (q_loadb 0 rfl ag23 rfl rfl rfl) rfl rfl ?_
        refine r_q (q_move rfl rfl) rfl rfl ?_
        obtain ⟨c11, h⟩ := of_guard h
        refine r_q (q_ix (Rd.drop 1 a0_3_R) (ints_len1 _ a0_3) (by decide) a0_3_h c11 un23 sz3 rfl rfl rfl) rfl rfl ?_
        refine r_q (q_ldI (Rd.drop 1 a0_3_R) c11 ag3 rfl rfl) rfl rfl ?_
        refine r_q (q_move rfl rfl) rfl rfl ?_
        refine r_q (q_eql rfl rfl rfl) rfl rfl ?_
        refine r_nil ?_
        refine j_then ?_
        rcases of_if h with ⟨c12, h⟩ | ⟨c12, h⟩
        · refine j_true rfl (beq_t c12) ?_
          refine j_seq ?_
          refine j_region ?_
          refine r_q (q_move rfl rfl) rfl rfl ?_
          refine r_q (q_assign rfl rfl) rfl rfl ?_
          refine r_nil ?_
          refine j_then ?_
          refine j_ret ?_
          refine j_in_ret ?_
          refine j_then_ret ?_
          refine j_then_ret ?_
          refine j_in_ret ?_
          refine j_then_ret ?_
          refine j_then_ret ?_
          cases h
          exact j_return rfl (ResOf.tmp rfl ResOf.nil) rfl (fun w h => ⟨(), rfl, h.tail⟩)
        · refine j_false rfl (beq_f c12) ?_
          refine j_skip ?_
          refine j_in ?_
          refine j_then ?_
          refine j_region ?_
          refine r_q (q_move rfl rfl) rfl rfl ?_
          refine r_q (q_add rfl rfl rfl) rfl rfl ?_
          refine r_q (q_assign rfl rfl) rfl rfl ?_
          refine r_nil ?_
          refine j_then ?_
          exact j_again m (wrap64 (p2 + (1:Int))) (Nat.lt_succ_self m) h (fun a he => he.sub ⟨rfl, rfl, rfl, trivial⟩) (fun w h => h)
      · refine j_false rfl (decide_eq_false c10) ?_
        refine j_exit ?_
        refine j_then_exit ?_
        refine j_then_exit ?_
        refine j_in_exit ?_
        refine j_then ?_
        exact j_meet () h (fun a he => he.sub trivial) (fun w h => h.tail)
  · rintro _ h
    subst hκ0
    show J _ _ [] _ (F)
    refine j_then ?_
    refine j_seq ?_
    refine j_region ?_
    refine r_q (q_assign rfl rfl) rfl rfl ?_
    refine r_nil ?_
    refine j_then ?_
    refine j_ret ?_
    cases h
    exact j_return rfl (ResOf.tmp rfl ResOf.nil) rfl (fun w h => ⟨(), rfl, h⟩)

theorem spec_l3Black.calls (K : Nat) (a0_0 : List Int) (a0_0_A : Option Addr) (a0_0_n a0_0_c : Nat) (a0_1 : List Int) (a0_1_A : Option Addr) (a0_1_n a0_1_c : Nat) (a0_2_A : Option Addr) (a0_2_n a0_2_c : Nat) (a0_3 : List Int) (a0_3_A : Option Addr) (a0_3_n a0_3_c : Nat) (a1 : Int) {w0 w : World} {F : List Res} {r1 : List Int} (hm : Mem w0 (.row a0_3_A a0_3_c 3 1 (ii a0_3) :: F) w) (a0_0_h : a0_0.length = a0_0_n) (a0_0_R : Rd w0 F a0_0_A (ii a0_0)) (a0_1_h : a0_1.length = a0_1_n) (a0_1_R : Rd w0 F a0_1_A (ii a0_1)) (a0_3_h : a0_3.length = a0_3_n) (h : spec_l3Black.f K a0_0 a0_1 a0_3 a1 = some r1) :
    Calls Try.prog 68 (List.toArray [.agg (List.toArray [.slice a0_0_A a0_0_n a0_0_c, .slice a0_1_A a0_1_n a0_1_c, .slice a0_2_A a0_2_n a0_2_c, .slice a0_3_A a0_3_n a0_3_c]), i6 a1]) w fun e w' => ∃ x : (Ln r1.length a0_3.length), e = .returned (.agg (List.toArray [.slice a0_0_A a0_0_n a0_0_c, .slice a0_1_A a0_1_n a0_1_c, .slice a0_2_A a0_2_n a0_2_c, .slice a0_3_A a0_3_n a0_3_c])) ∧ Mem w0 (.row a0_3_A a0_3_c 3 1 (ii r1) :: F) w' := by
  unfold spec_l3Black.f at h
  refine calls_of_J (n := 30) Try.func68 rfl rfl rfl hm ?_
  refine j_seq ?_
  refine j_region ?_
  refine r_do (a_box rfl rfl) rfl rfl (fun x1 => ?_)
  refine r_do (a_alloc zr27 rfl) rfl rfl (fun x2 => ?_)
  refine r_nil ?_
  refine j_then ?_
  refine j_seq ?_
  obtain ⟨c1, h⟩ := of_guard h
  obtain ⟨v1, hb1, h⟩ := of_b1 h
  refine j_draw (.box x2 27 [(.slice none 0 0), (.slice none 0 0), (.slice none 0 0), (.slice none 0 0)] :: F) 11 follows_any rfl ?_
  refine d_take 0 rfl (q_fieldAddr fi27_1 sz23 rfl rfl rfl) rfl rfl (by kernel_rfl) (by kernel_rfl) (by kernel_rfl) (fun w h => h.pick 3 [0] rfl) ?_
  refine d_take 2 rfl (q_fieldAddr fi27_0 sz25 rfl rfl rfl) rfl rfl (by kernel_rfl) (by kernel_rfl) (by kernel_rfl) (fun w h => h.pick 3 [0] rfl) ?_
  refine d_take 3 rfl (q_fieldAddr fi25_0 sz23 rfl rfl rfl) rfl rfl (by kernel_rfl) (by kernel_rfl) (by kernel_rfl) (fun w h => h.pick 3 [0] rfl) ?_
  refine d_take 5 rfl (q_move rfl rfl) rfl rfl (by kernel_rfl) (by kernel_rfl) (by kernel_rfl) (fun w h => h.pick 3 [0] rfl) ?_
  refine d_join (σ := ((Ln v1.length a0_3.length))) 0 #[true, true, true, true, true, true, true, true, true, true, true] (fun s => [(1, (i6 a1)), (2, (pt x1)), (4, (pt x2))]) (fun s => .box x2 27 [(.slice none 0 0), (.slice none 0 0), (.slice none 0 0), (.slice none 0 0)] :: .box x1 27 [(.slice a0_0_A a0_0_n a0_0_c), (.slice a0_1_A a0_1_n a0_1_c), (.slice a0_2_A a0_2_n a0_2_c), (.slice a0_3_A a0_3_n a0_3_c)] :: .row a0_3_A a0_3_c 3 1 (ii v1) :: F) ?_ (fun hD2047 => ?_)
  · rintro x3
    show J _ _ [(1, (i6 a1)), (2, (pt x1)), (4, (pt x2))] _ (.box x2 27 [(.slice none 0 0), (.slice none 0 0), (.slice none 0 0), (.slice none 0 0)] :: .box x1 27 [(.slice a0_0_A a0_0_n a0_0_c), (.slice a0_1_A a0_1_n a0_1_c), (.slice a0_2_A a0_2_n a0_2_c), (.slice a0_3_A a0_3_n a0_3_c)] :: .row a0_3_A a0_3_c 3 1 (ii v1) :: F)
    refine d_done (by kernel_rfl) ?_
    refine j_then ?_
    refine j_seq ?_
    obtain ⟨c2, h⟩ := of_guard h
    obtain ⟨v2, hb2, h⟩ := of_b1 h
    refine j_draw (.box x2 27 [(.slice none 0 0), (.slice none 0 0), (.slice none 0 0), (.slice none 0 0)] :: F) 11 follows_any rfl ?_
    refine d_take 0 rfl (q_fieldAddr fi27_1 sz23 rfl rfl rfl) rfl rfl (by kernel_rfl) (by kernel_rfl) (by kernel_rfl) (fun w h => h.pick 3 [0] rfl) ?_
    refine d_take 2 rfl (q_fieldAddr fi27_0 sz25 rfl rfl rfl) rfl rfl (by kernel_rfl) (by kernel_rfl) (by kernel_rfl) (fun w h => h.pick 3 [0] rfl) ?_
    refine d_take 3 rfl (q_fieldAddr fi25_1 sz23 rfl rfl rfl) rfl rfl (by kernel_rfl) (by kernel_rfl) (by kernel_rfl) (fun w h => h.pick 3 [0] rfl) ?_
    refine d_take 5 rfl (q_move rfl rfl) rfl rfl (by kernel_rfl) (by kernel_rfl) (by kernel_rfl) (fun w h => h.pick 3 [0] rfl) ?_
    refine d_join (σ := ((Ln v2.length v1.length))) 0 #[true, true, true, true, true, true, true, true, true, true, true] (fun s => [(1, (i6 a1)), (2, (pt x1)), (4, (pt x2))]) (fun s => .box x2 27 [(.slice none 0 0), (.slice none 0 0), (.slice none 0 0), (.slice none 0 0)] :: .box x1 27 [(.slice a0_0_A a0_0_n a0_0_c), (.slice a0_1_A a0_1_n a0_1_c), (.slice a0_2_A a0_2_n a0_2_c), (.slice a0_3_A a0_3_n a0_3_c)] :: .row a0_3_A a0_3_c 3 1 (ii v2) :: F) ?_ (fun hD2047 => ?_)
    · rintro x4
      show J _ _ [(1, (i6 a1)), (2, (pt x1)), (4, (pt x2))] _ (.box x2 27 [(.slice none 0 0), (.slice none 0 0), (.slice none 0 0), (.slice none 0 0)] :: .box x1 27 [(.slice a0_0_A a0_0_n a0_0_c), (.slice a0_1_A a0_1_n a0_1_c), (.slice a0_2_A a0_2_n a0_2_c), (.slice a0_3_A a0_3_n a0_3_c)] :: .row a0_3_A a0_3_c 3 1 (ii v2) :: F)
      refine d_done (by kernel_rfl) ?_
      refine j_then ?_
      refine j_seq ?_
      refine j_region ?_
      refine r_q (q_fieldAddr fi27_1 sz23 rfl rfl rfl) rfl rfl ?_
      refine r_q (q_loadb 1 rfl ag23 rfl rfl rfl) rfl rfl ?_
      refine r_q (q_move rfl rfl) rfl rfl ?_
      obtain ⟨c3, h⟩ := of_guard h
      refine r_q (q_ix (Rd.row 2 rfl) (ints_len1 _ v2) (by decide) (x4.h.trans (x3.h.trans a0_3_h)) c3 un23 sz3 rfl rfl rfl) rfl rfl ?_
      refine r_do (a_stI 2 rfl c3 sz3 rfl rfl rfl) rfl rfl (fun _ => ?_)
      refine j_s2 ?_
      refine r_nil ?_
      refine j_then ?_
      refine j_seq ?_
      refine j_region ?_
      refine r_q (q_loadb_agg 1 rfl ag27 sz27 rfl rfl rfl rfl) rfl rfl ?_
      refine r_do (a_storeb 0 rfl sz27 rfl rfl rfl rfl (Nat.le_of_ble_eq_true rfl) rfl) rfl rfl (fun _ => ?_)
      refine j_b0 [(.slice a0_0_A a0_0_n a0_0_c), (.slice a0_1_A a0_1_n a0_1_c), (.slice a0_2_A a0_2_n a0_2_c), (.slice a0_3_A a0_3_n a0_3_c)] rfl ?_
      refine r_nil ?_
      refine j_then ?_
      refine j_ret ?_
      cases h
      exact j_return rfl (ResOf.cell 0 rfl rfl ag27 sz27 ResOf.nil) rfl (fun w h => ⟨⟨Eq.trans (set_len (x4.h.trans (x3.h.trans a0_3_h)) _ _) a0_3_h.symm⟩, rfl, (h.drop 2)⟩)
    refine d_join (σ := ((Ln v2.length v1.length))) 1 #[true, true, true, true, true, true, true, true, true, true, false] (fun s => [(1, (i6 a1)), (2, (pt x1)), (4, (pt x2)), (23, (.slice a0_3_A a0_3_n a0_3_c)), (24, (.pointer (some ⟨x1, 3, none⟩)))]) (fun s => .box x2 27 [(.slice none 0 0), (.slice none 0 0), (.slice none 0 0), (.slice none 0 0)] :: .box x1 27 [(.slice a0_0_A a0_0_n a0_0_c), (.slice a0_1_A a0_1_n a0_1_c), (.slice a0_2_A a0_2_n a0_2_c), (.slice a0_3_A a0_3_n a0_3_c)] :: .row a0_3_A a0_3_c 3 1 (ii v2) :: F) ?_ (fun hD1023 => ?_)
    · rintro x4
      show J _ _ [(1, (i6 a1)), (2, (pt x1)), (4, (pt x2)), (23, (.slice a0_3_A a0_3_n a0_3_c)), (24, (.pointer (some ⟨x1, 3, none⟩)))] _ (.box x2 27 [(.slice none 0 0), (.slice none 0 0), (.slice none 0 0), (.slice none 0 0)] :: .box x1 27 [(.slice a0_0_A a0_0_n a0_0_c), (.slice a0_1_A a0_1_n a0_1_c), (.slice a0_2_A a0_2_n a0_2_c), (.slice a0_3_A a0_3_n a0_3_c)] :: .row a0_3_A a0_3_c 3 1 (ii v2) :: F)
      refine d_one 10 (by kernel_rfl) ?_
      · refine o_do rfl (a_storeb 1 rfl sz23 rfl rfl rfl rfl (Nat.le_of_ble_eq_true rfl) rfl) rfl rfl (fun _ w h => h.pick 3 [0] rfl) (fun _ => ?_)
        refine j_b1 [(.slice a0_0_A a0_0_n a0_0_c), (.slice a0_1_A a0_1_n a0_1_c), (.slice a0_2_A a0_2_n a0_2_c), (.slice a0_3_A a0_3_n a0_3_c)] rfl ?_
        refine j_rs (.box x2 27 [(.slice none 0 0), (.slice none 0 0), (.slice none 0 0), (.slice none 0 0)] :: .box x1 27 [(.slice a0_0_A a0_0_n a0_0_c), (.slice a0_1_A a0_1_n a0_1_c), (.slice a0_2_A a0_2_n a0_2_c), (.slice a0_3_A a0_3_n a0_3_c)] :: .row a0_3_A a0_3_c 3 1 (ii v2) :: F) (fun _ h => h) ?_
        refine j_env [(1, (i6 a1)), (2, (pt x1)), (4, (pt x2))] ⟨rfl, rfl, rfl, trivial⟩ ?_
        exact hD2047 x4
    refine d_join (σ := Unit) 3 #[true, true, true, true, true, true, true, true, false, false, false] (fun s => [(1, (i6 a1)), (2, (pt x1)), (4, (pt x2)), (16, (.slice a0_3_A a0_3_n a0_3_c)), (22, (i6 (rd a0_1 a1)))]) (fun s => .box x2 27 [(.slice none 0 0), (.slice none 0 0), (.slice none 0 0), (.slice none 0 0)] :: .box x1 27 [(.slice a0_0_A a0_0_n a0_0_c), (.slice a0_1_A a0_1_n a0_1_c), (.slice a0_2_A a0_2_n a0_2_c), (.slice a0_3_A a0_3_n a0_3_c)] :: .row a0_3_A a0_3_c 3 1 (ii v1) :: F) ?_ (fun hD255 => ?_)
    · rintro _
      show J _ _ [(1, (i6 a1)), (2, (pt x1)), (4, (pt x2)), (16, (.slice a0_3_A a0_3_n a0_3_c)), (22, (i6 (rd a0_1 a1)))] _ (.box x2 27 [(.slice none 0 0), (.slice none 0 0), (.slice none 0 0), (.slice none 0 0)] :: .box x1 27 [(.slice a0_0_A a0_0_n a0_0_c), (.slice a0_1_A a0_1_n a0_1_c), (.slice a0_2_A a0_2_n a0_2_c), (.slice a0_3_A a0_3_n a0_3_c)] :: .row a0_3_A a0_3_c 3 1 (ii v1) :: F)
      refine d_one 8 (by kernel_rfl) ?_
      · refine j_rs (.row a0_3_A a0_3_c 3 1 (ii v1) :: .box x2 27 [(.slice none 0 0), (.slice none 0 0), (.slice none 0 0), (.slice none 0 0)] :: .box x1 27 [(.slice a0_0_A a0_0_n a0_0_c), (.slice a0_1_A a0_1_n a0_1_c), (.slice a0_2_A a0_2_n a0_2_c), (.slice a0_3_A a0_3_n a0_3_c)] :: F) (fun _ h => h.pick 3 [2, 0, 1] rfl) ?_
        refine o_do rfl (a_call ok62 rfl rfl rfl rfl (fun w hm => spec_l3Shade.calls K v1 a0_3_A a0_3_n a0_3_c (rd a0_1 a1) hm (x3.h.trans a0_3_h) hb2)) rfl rfl (fun x4 w h => h.pick 3 [1] rfl) (fun x4 => ?_)
        refine d_take 9 rfl (q_fieldAddr fi27_1 sz23 rfl rfl rfl) rfl rfl (by kernel_rfl) (by kernel_rfl) (by kernel_rfl) (fun w h => h.pick 3 [1] rfl) ?_
        refine j_rs (.box x2 27 [(.slice none 0 0), (.slice none 0 0), (.slice none 0 0), (.slice none 0 0)] :: .box x1 27 [(.slice a0_0_A a0_0_n a0_0_c), (.slice a0_1_A a0_1_n a0_1_c), (.slice a0_2_A a0_2_n a0_2_c), (.slice a0_3_A a0_3_n a0_3_c)] :: .row a0_3_A a0_3_c 3 1 (ii v2) :: F) (fun _ h => h.pick 3 [1, 2, 0] rfl) ?_
        refine j_env [(1, (i6 a1)), (2, (pt x1)), (4, (pt x2)), (23, (.slice a0_3_A a0_3_n a0_3_c)), (24, (.pointer (some ⟨x1, 3, none⟩)))] ⟨rfl, rfl, rfl, rfl, rfl, trivial⟩ ?_
        exact hD1023 x4
    refine d_join (σ := Unit) 4 #[true, false, true, true, true, true, true, true, false, false, false] (fun s => [(1, (i6 a1)), (2, (pt x1)), (4, (pt x2)), (15, (.pointer (some ⟨x1, 3, none⟩))), (22, (i6 (rd a0_1 a1)))]) (fun s => .box x2 27 [(.slice none 0 0), (.slice none 0 0), (.slice none 0 0), (.slice none 0 0)] :: .box x1 27 [(.slice a0_0_A a0_0_n a0_0_c), (.slice a0_1_A a0_1_n a0_1_c), (.slice a0_2_A a0_2_n a0_2_c), (.slice a0_3_A a0_3_n a0_3_c)] :: .row a0_3_A a0_3_c 3 1 (ii v1) :: F) ?_ (fun hD253 => ?_)
    · rintro _
      show J _ _ [(1, (i6 a1)), (2, (pt x1)), (4, (pt x2)), (15, (.pointer (some ⟨x1, 3, none⟩))), (22, (i6 (rd a0_1 a1)))] _ (.box x2 27 [(.slice none 0 0), (.slice none 0 0), (.slice none 0 0), (.slice none 0 0)] :: .box x1 27 [(.slice a0_0_A a0_0_n a0_0_c), (.slice a0_1_A a0_1_n a0_1_c), (.slice a0_2_A a0_2_n a0_2_c), (.slice a0_3_A a0_3_n a0_3_c)] :: .row a0_3_A a0_3_c 3 1 (ii v1) :: F)
      refine d_one 1 (by kernel_rfl) ?_
      · refine o_do rfl ((q_loadb 1 rfl ag23 rfl rfl rfl)).acts rfl rfl (fun _ w h => h.pick 3 [0] rfl) (fun _ => ?_)
        refine j_rs (.box x2 27 [(.slice none 0 0), (.slice none 0 0), (.slice none 0 0), (.slice none 0 0)] :: .box x1 27 [(.slice a0_0_A a0_0_n a0_0_c), (.slice a0_1_A a0_1_n a0_1_c), (.slice a0_2_A a0_2_n a0_2_c), (.slice a0_3_A a0_3_n a0_3_c)] :: .row a0_3_A a0_3_c 3 1 (ii v1) :: F) (fun _ h => h) ?_
        refine j_env [(1, (i6 a1)), (2, (pt x1)), (4, (pt x2)), (16, (.slice a0_3_A a0_3_n a0_3_c)), (22, (i6 (rd a0_1 a1)))] ⟨rfl, rfl, rfl, rfl, rfl, trivial⟩ ?_
        exact hD255 ()
    refine d_join (σ := Unit) 6 #[true, true, true, true, false, true, false, false, false, false, false] (fun s => [(1, (i6 a1)), (2, (pt x1)), (4, (pt x2)), (16, (.slice a0_3_A a0_3_n a0_3_c)), (18, (.pointer (some ⟨x1, 1, none⟩))), (20, (i6 a1))]) (fun s => .box x2 27 [(.slice none 0 0), (.slice none 0 0), (.slice none 0 0), (.slice none 0 0)] :: .box x1 27 [(.slice a0_0_A a0_0_n a0_0_c), (.slice a0_1_A a0_1_n a0_1_c), (.slice a0_2_A a0_2_n a0_2_c), (.slice a0_3_A a0_3_n a0_3_c)] :: .row a0_3_A a0_3_c 3 1 (ii v1) :: F) ?_ (fun hD47 => ?_)
    · rintro _
      show J _ _ [(1, (i6 a1)), (2, (pt x1)), (4, (pt x2)), (16, (.slice a0_3_A a0_3_n a0_3_c)), (18, (.pointer (some ⟨x1, 1, none⟩))), (20, (i6 a1))] _ (.box x2 27 [(.slice none 0 0), (.slice none 0 0), (.slice none 0 0), (.slice none 0 0)] :: .box x1 27 [(.slice a0_0_A a0_0_n a0_0_c), (.slice a0_1_A a0_1_n a0_1_c), (.slice a0_2_A a0_2_n a0_2_c), (.slice a0_3_A a0_3_n a0_3_c)] :: .row a0_3_A a0_3_c 3 1 (ii v1) :: F)
      refine d_one 4 (by kernel_rfl) ?_
      · refine o_do rfl ((q_loadb 1 rfl ag23 rfl rfl rfl)).acts rfl rfl (fun _ w h => h.pick 3 [0] rfl) (fun _ => ?_)
        refine d_take 6 rfl (q_ix (Rd.drop 1 a0_1_R) (ints_len1 _ a0_1) (by decide) a0_1_h c2 un23 sz3 rfl rfl rfl) rfl rfl (by kernel_rfl) (by kernel_rfl) (by kernel_rfl) (fun w h => h.pick 3 [0] rfl) ?_
        refine d_take 7 rfl (q_ldI (Rd.drop 1 a0_1_R) c2 ag3 rfl rfl) rfl rfl (by kernel_rfl) (by kernel_rfl) (by kernel_rfl) (fun w h => h.pick 3 [0] rfl) ?_
        refine j_rs (.box x2 27 [(.slice none 0 0), (.slice none 0 0), (.slice none 0 0), (.slice none 0 0)] :: .box x1 27 [(.slice a0_0_A a0_0_n a0_0_c), (.slice a0_1_A a0_1_n a0_1_c), (.slice a0_2_A a0_2_n a0_2_c), (.slice a0_3_A a0_3_n a0_3_c)] :: .row a0_3_A a0_3_c 3 1 (ii v1) :: F) (fun _ h => h) ?_
        refine j_env [(1, (i6 a1)), (2, (pt x1)), (4, (pt x2)), (16, (.slice a0_3_A a0_3_n a0_3_c)), (22, (i6 (rd a0_1 a1)))] ⟨rfl, rfl, rfl, rfl, rfl, trivial⟩ ?_
        exact hD255 ()
    refine d_two 1 4 (by kernel_rfl) ?_ ?_
    · refine o_do rfl ((q_loadb 1 rfl ag23 rfl rfl rfl)).acts rfl rfl (fun _ w h => h.pick 3 [0] rfl) (fun _ => ?_)
      refine j_rs (.box x2 27 [(.slice none 0 0), (.slice none 0 0), (.slice none 0 0), (.slice none 0 0)] :: .box x1 27 [(.slice a0_0_A a0_0_n a0_0_c), (.slice a0_1_A a0_1_n a0_1_c), (.slice a0_2_A a0_2_n a0_2_c), (.slice a0_3_A a0_3_n a0_3_c)] :: .row a0_3_A a0_3_c 3 1 (ii v1) :: F) (fun _ h => h) ?_
      refine j_env [(1, (i6 a1)), (2, (pt x1)), (4, (pt x2)), (16, (.slice a0_3_A a0_3_n a0_3_c)), (18, (.pointer (some ⟨x1, 1, none⟩))), (20, (i6 a1))] ⟨rfl, rfl, rfl, rfl, rfl, rfl, trivial⟩ ?_
      exact hD47 ()
    · refine o_do rfl ((q_loadb 1 rfl ag23 rfl rfl rfl)).acts rfl rfl (fun _ w h => h.pick 3 [0] rfl) (fun _ => ?_)
      refine d_take 6 rfl (q_ix (Rd.drop 1 a0_1_R) (ints_len1 _ a0_1) (by decide) a0_1_h c2 un23 sz3 rfl rfl rfl) rfl rfl (by kernel_rfl) (by kernel_rfl) (by kernel_rfl) (fun w h => h.pick 3 [0] rfl) ?_
      refine d_take 7 rfl (q_ldI (Rd.drop 1 a0_1_R) c2 ag3 rfl rfl) rfl rfl (by kernel_rfl) (by kernel_rfl) (by kernel_rfl) (fun w h => h.pick 3 [0] rfl) ?_
      refine j_rs (.box x2 27 [(.slice none 0 0), (.slice none 0 0), (.slice none 0 0), (.slice none 0 0)] :: .box x1 27 [(.slice a0_0_A a0_0_n a0_0_c), (.slice a0_1_A a0_1_n a0_1_c), (.slice a0_2_A a0_2_n a0_2_c), (.slice a0_3_A a0_3_n a0_3_c)] :: .row a0_3_A a0_3_c 3 1 (ii v1) :: F) (fun _ h => h) ?_
      refine j_env [(1, (i6 a1)), (2, (pt x1)), (4, (pt x2)), (15, (.pointer (some ⟨x1, 3, none⟩))), (22, (i6 (rd a0_1 a1)))] ⟨rfl, rfl, rfl, rfl, rfl, trivial⟩ ?_
      exact hD253 ()
  refine d_join (σ := ((Ln v1.length a0_3.length))) 1 #[true, true, true, true, true, true, true, true, true, true, false] (fun s => [(1, (i6 a1)), (2, (pt x1)), (4, (pt x2)), (13, (.slice a0_3_A a0_3_n a0_3_c)), (14, (.pointer (some ⟨x1, 3, none⟩)))]) (fun s => .box x2 27 [(.slice none 0 0), (.slice none 0 0), (.slice none 0 0), (.slice none 0 0)] :: .box x1 27 [(.slice a0_0_A a0_0_n a0_0_c), (.slice a0_1_A a0_1_n a0_1_c), (.slice a0_2_A a0_2_n a0_2_c), (.slice a0_3_A a0_3_n a0_3_c)] :: .row a0_3_A a0_3_c 3 1 (ii v1) :: F) ?_ (fun hD1023 => ?_)
  · rintro x3
    show J _ _ [(1, (i6 a1)), (2, (pt x1)), (4, (pt x2)), (13, (.slice a0_3_A a0_3_n a0_3_c)), (14, (.pointer (some ⟨x1, 3, none⟩)))] _ (.box x2 27 [(.slice none 0 0), (.slice none 0 0), (.slice none 0 0), (.slice none 0 0)] :: .box x1 27 [(.slice a0_0_A a0_0_n a0_0_c), (.slice a0_1_A a0_1_n a0_1_c), (.slice a0_2_A a0_2_n a0_2_c), (.slice a0_3_A a0_3_n a0_3_c)] :: .row a0_3_A a0_3_c 3 1 (ii v1) :: F)
    refine d_one 10 (by kernel_rfl) ?_
    · refine o_do rfl (a_storeb 1 rfl sz23 rfl rfl rfl rfl (Nat.le_of_ble_eq_true rfl) rfl) rfl rfl (fun _ w h => h.pick 3 [0] rfl) (fun _ => ?_)
      refine j_b1 [(.slice a0_0_A a0_0_n a0_0_c), (.slice a0_1_A a0_1_n a0_1_c), (.slice a0_2_A a0_2_n a0_2_c), (.slice a0_3_A a0_3_n a0_3_c)] rfl ?_
      refine j_rs (.box x2 27 [(.slice none 0 0), (.slice none 0 0), (.slice none 0 0), (.slice none 0 0)] :: .box x1 27 [(.slice a0_0_A a0_0_n a0_0_c), (.slice a0_1_A a0_1_n a0_1_c), (.slice a0_2_A a0_2_n a0_2_c), (.slice a0_3_A a0_3_n a0_3_c)] :: .row a0_3_A a0_3_c 3 1 (ii v1) :: F) (fun _ h => h) ?_
      refine j_env [(1, (i6 a1)), (2, (pt x1)), (4, (pt x2))] ⟨rfl, rfl, rfl, trivial⟩ ?_
      exact hD2047 x3
  refine d_join (σ := Unit) 3 #[true, true, true, true, true, true, true, true, false, false, false] (fun s => [(1, (i6 a1)), (2, (pt x1)), (4, (pt x2)), (6, (.slice a0_3_A a0_3_n a0_3_c)), (12, (i6 (rd a0_0 a1)))]) (fun s => .box x2 27 [(.slice none 0 0), (.slice none 0 0), (.slice none 0 0), (.slice none 0 0)] :: .box x1 27 [(.slice a0_0_A a0_0_n a0_0_c), (.slice a0_1_A a0_1_n a0_1_c), (.slice a0_2_A a0_2_n a0_2_c), (.slice a0_3_A a0_3_n a0_3_c)] :: .row a0_3_A a0_3_c 3 1 (ii a0_3) :: F) ?_ (fun hD255 => ?_)
  · rintro _
    show J _ _ [(1, (i6 a1)), (2, (pt x1)), (4, (pt x2)), (6, (.slice a0_3_A a0_3_n a0_3_c)), (12, (i6 (rd a0_0 a1)))] _ (.box x2 27 [(.slice none 0 0), (.slice none 0 0), (.slice none 0 0), (.slice none 0 0)] :: .box x1 27 [(.slice a0_0_A a0_0_n a0_0_c), (.slice a0_1_A a0_1_n a0_1_c), (.slice a0_2_A a0_2_n a0_2_c), (.slice a0_3_A a0_3_n a0_3_c)] :: .row a0_3_A a0_3_c 3 1 (ii a0_3) :: F)
    refine d_one 8 (by kernel_rfl) ?_
    · refine j_rs (.row a0_3_A a0_3_c 3 1 (ii a0_3) :: .box x2 27 [(.slice none 0 0), (.slice none 0 0), (.slice none 0 0), (.slice none 0 0)] :: .box x1 27 [(.slice a0_0_A a0_0_n a0_0_c), (.slice a0_1_A a0_1_n a0_1_c), (.slice a0_2_A a0_2_n a0_2_c), (.slice a0_3_A a0_3_n a0_3_c)] :: F) (fun _ h => h.pick 3 [2, 0, 1] rfl) ?_
      refine o_do rfl (a_call ok62 rfl rfl rfl rfl (fun w hm => spec_l3Shade.calls K a0_3 a0_3_A a0_3_n a0_3_c (rd a0_0 a1) hm a0_3_h hb1)) rfl rfl (fun x3 w h => h.pick 3 [1] rfl) (fun x3 => ?_)
      refine d_take 9 rfl (q_fieldAddr fi27_1 sz23 rfl rfl rfl) rfl rfl (by kernel_rfl) (by kernel_rfl) (by kernel_rfl) (fun w h => h.pick 3 [1] rfl) ?_
      refine j_rs (.box x2 27 [(.slice none 0 0), (.slice none 0 0), (.slice none 0 0), (.slice none 0 0)] :: .box x1 27 [(.slice a0_0_A a0_0_n a0_0_c), (.slice a0_1_A a0_1_n a0_1_c), (.slice a0_2_A a0_2_n a0_2_c), (.slice a0_3_A a0_3_n a0_3_c)] :: .row a0_3_A a0_3_c 3 1 (ii v1) :: F) (fun _ h => h.pick 3 [1, 2, 0] rfl) ?_
      refine j_env [(1, (i6 a1)), (2, (pt x1)), (4, (pt x2)), (13, (.slice a0_3_A a0_3_n a0_3_c)), (14, (.pointer (some ⟨x1, 3, none⟩)))] ⟨rfl, rfl, rfl, rfl, rfl, trivial⟩ ?_
      exact hD1023 x3
  refine d_join (σ := Unit) 4 #[true, false, true, true, true, true, true, true, false, false, false] (fun s => [(1, (i6 a1)), (2, (pt x1)), (4, (pt x2)), (5, (.pointer (some ⟨x1, 3, none⟩))), (12, (i6 (rd a0_0 a1)))]) (fun s => .box x2 27 [(.slice none 0 0), (.slice none 0 0), (.slice none 0 0), (.slice none 0 0)] :: .box x1 27 [(.slice a0_0_A a0_0_n a0_0_c), (.slice a0_1_A a0_1_n a0_1_c), (.slice a0_2_A a0_2_n a0_2_c), (.slice a0_3_A a0_3_n a0_3_c)] :: .row a0_3_A a0_3_c 3 1 (ii a0_3) :: F) ?_ (fun hD253 => ?_)
  · rintro _
    show J _ _ [(1, (i6 a1)), (2, (pt x1)), (4, (pt x2)), (5, (.pointer (some ⟨x1, 3, none⟩))), (12, (i6 (rd a0_0 a1)))] _ (.box x2 27 [(.slice none 0 0), (.slice none 0 0), (.slice none 0 0), (.slice none 0 0)] :: .box x1 27 [(.slice a0_0_A a0_0_n a0_0_c), (.slice a0_1_A a0_1_n a0_1_c), (.slice a0_2_A a0_2_n a0_2_c), (.slice a0_3_A a0_3_n a0_3_c)] :: .row a0_3_A a0_3_c 3 1 (ii a0_3) :: F)
    refine d_one 1 (by kernel_rfl) ?_
    · refine o_do rfl ((q_loadb 1 rfl ag23 rfl rfl rfl)).acts rfl rfl (fun _ w h => h.pick 3 [0] rfl) (fun _ => ?_)
      refine j_rs (.box x2 27 [(.slice none 0 0), (.slice none 0 0), (.slice none 0 0), (.slice none 0 0)] :: .box x1 27 [(.slice a0_0_A a0_0_n a0_0_c), (.slice a0_1_A a0_1_n a0_1_c), (.slice a0_2_A a0_2_n a0_2_c), (.slice a0_3_A a0_3_n a0_3_c)] :: .row a0_3_A a0_3_c 3 1 (ii a0_3) :: F) (fun _ h => h) ?_
      refine j_env [(1, (i6 a1)), (2, (pt x1)), (4, (pt x2)), (6, (.slice a0_3_A a0_3_n a0_3_c)), (12, (i6 (rd a0_0 a1)))] ⟨rfl, rfl, rfl, rfl, rfl, trivial⟩ ?_
      exact hD255 ()
  refine d_join (σ := Unit) 6 #[true, true, true, true, false, true, false, false, false, false, false] (fun s => [(1, (i6 a1)), (2, (pt x1)), (4, (pt x2)), (6, (.slice a0_3_A a0_3_n a0_3_c)), (8, (pt x1)), (10, (i6 a1))]) (fun s => .box x2 27 [(.slice none 0 0), (.slice none 0 0), (.slice none 0 0), (.slice none 0 0)] :: .box x1 27 [(.slice a0_0_A a0_0_n a0_0_c), (.slice a0_1_A a0_1_n a0_1_c), (.slice a0_2_A a0_2_n a0_2_c), (.slice a0_3_A a0_3_n a0_3_c)] :: .row a0_3_A a0_3_c 3 1 (ii a0_3) :: F) ?_ (fun hD47 => ?_)
  · rintro _
    show J _ _ [(1, (i6 a1)), (2, (pt x1)), (4, (pt x2)), (6, (.slice a0_3_A a0_3_n a0_3_c)), (8, (pt x1)), (10, (i6 a1))] _ (.box x2 27 [(.slice none 0 0), (.slice none 0 0), (.slice none 0 0), (.slice none 0 0)] :: .box x1 27 [(.slice a0_0_A a0_0_n a0_0_c), (.slice a0_1_A a0_1_n a0_1_c), (.slice a0_2_A a0_2_n a0_2_c), (.slice a0_3_A a0_3_n a0_3_c)] :: .row a0_3_A a0_3_c 3 1 (ii a0_3) :: F)
    refine d_one 4 (by kernel_rfl) ?_
    · refine o_do rfl ((q_loadb 1 rfl ag23 rfl rfl rfl)).acts rfl rfl (fun _ w h => h.pick 3 [0] rfl) (fun _ => ?_)
      refine d_take 6 rfl (q_ix (Rd.drop 1 a0_0_R) (ints_len1 _ a0_0) (by decide) a0_0_h c1 un23 sz3 rfl rfl rfl) rfl rfl (by kernel_rfl) (by kernel_rfl) (by kernel_rfl) (fun w h => h.pick 3 [0] rfl) ?_
      refine d_take 7 rfl (q_ldI (Rd.drop 1 a0_0_R) c1 ag3 rfl rfl) rfl rfl (by kernel_rfl) (by kernel_rfl) (by kernel_rfl) (fun w h => h.pick 3 [0] rfl) ?_
      refine j_rs (.box x2 27 [(.slice none 0 0), (.slice none 0 0), (.slice none 0 0), (.slice none 0 0)] :: .box x1 27 [(.slice a0_0_A a0_0_n a0_0_c), (.slice a0_1_A a0_1_n a0_1_c), (.slice a0_2_A a0_2_n a0_2_c), (.slice a0_3_A a0_3_n a0_3_c)] :: .row a0_3_A a0_3_c 3 1 (ii a0_3) :: F) (fun _ h => h) ?_
      refine j_env [(1, (i6 a1)), (2, (pt x1)), (4, (pt x2)), (6, (.slice a0_3_A a0_3_n a0_3_c)), (12, (i6 (rd a0_0 a1)))] ⟨rfl, rfl, rfl, rfl, rfl, trivial⟩ ?_
      exact hD255 ()
  refine d_two 1 4 (by kernel_rfl) ?_ ?_
  · refine o_do rfl ((q_loadb 1 rfl ag23 rfl rfl rfl)).acts rfl rfl (fun _ w h => h.pick 3 [0] rfl) (fun _ => ?_)
    refine j_rs (.box x2 27 [(.slice none 0 0), (.slice none 0 0), (.slice none 0 0), (.slice none 0 0)] :: .box x1 27 [(.slice a0_0_A a0_0_n a0_0_c), (.slice a0_1_A a0_1_n a0_1_c), (.slice a0_2_A a0_2_n a0_2_c), (.slice a0_3_A a0_3_n a0_3_c)] :: .row a0_3_A a0_3_c 3 1 (ii a0_3) :: F) (fun _ h => h) ?_
    refine j_env [(1, (i6 a1)), (2, (pt x1)), (4, (pt x2)), (6, (.slice a0_3_A a0_3_n a0_3_c)), (8, (pt x1)), (10, (i6 a1))] ⟨rfl, rfl, rfl, rfl, rfl, rfl, trivial⟩ ?_
    exact hD47 ()
  · refine o_do rfl ((q_loadb 1 rfl ag23 rfl rfl rfl)).acts rfl rfl (fun _ w h => h.pick 3 [0] rfl) (fun _ => ?_)
    refine d_take 6 rfl (q_ix (Rd.drop 1 a0_0_R) (ints_len1 _ a0_0) (by decide) a0_0_h c1 un23 sz3 rfl rfl rfl) rfl rfl (by kernel_rfl) (by kernel_rfl) (by kernel_rfl) (fun w h => h.pick 3 [0] rfl) ?_
    refine d_take 7 rfl (q_ldI (Rd.drop 1 a0_0_R) c1 ag3 rfl rfl) rfl rfl (by kernel_rfl) (by kernel_rfl) (by kernel_rfl) (fun w h => h.pick 3 [0] rfl) ?_
    refine j_rs (.box x2 27 [(.slice none 0 0), (.slice none 0 0), (.slice none 0 0), (.slice none 0 0)] :: .box x1 27 [(.slice a0_0_A a0_0_n a0_0_c), (.slice a0_1_A a0_1_n a0_1_c), (.slice a0_2_A a0_2_n a0_2_c), (.slice a0_3_A a0_3_n a0_3_c)] :: .row a0_3_A a0_3_c 3 1 (ii a0_3) :: F) (fun _ h => h) ?_
    refine j_env [(1, (i6 a1)), (2, (pt x1)), (4, (pt x2)), (5, (.pointer (some ⟨x1, 3, none⟩))), (12, (i6 (rd a0_0 a1)))] ⟨rfl, rfl, rfl, rfl, rfl, trivial⟩ ?_
    exact hD253 ()

theorem impl_ColoredValid.calls (K : Nat) (a0_0 : List Int) (a0_0_A : Option Addr) (a0_0_n a0_0_c : Nat) (a0_1 : List Int) (a0_1_A : Option Addr) (a0_1_n a0_1_c : Nat) (a0_2 : List Int) (a0_2_A : Option Addr) (a0_2_n a0_2_c : Nat) (a0_3 : List Int) (a0_3_A : Option Addr) (a0_3_n a0_3_c : Nat) {w0 w : World} {F : List Res} {r1 : Bool} (hm : Mem w0 (F) w) (a0_0_h : a0_0.length = a0_0_n) (a0_0_R : Rd w0 F a0_0_A (ii a0_0)) (a0_1_h : a0_1.length = a0_1_n) (a0_1_R : Rd w0 F a0_1_A (ii a0_1)) (a0_2_h : a0_2.length = a0_2_n) (a0_2_R : Rd w0 F a0_2_A (ii a0_2)) (a0_3_h : a0_3.length = a0_3_n) (a0_3_R : Rd w0 F a0_3_A (ii a0_3)) (h : impl_ColoredValid.f K a0_0 a0_1 a0_2 a0_3 = some r1) :
    Calls Try.prog 30 (List.toArray [.agg (List.toArray [.slice a0_0_A a0_0_n a0_0_c, .slice a0_1_A a0_1_n a0_1_c, .slice a0_2_A a0_2_n a0_2_c, .slice a0_3_A a0_3_n a0_3_c])]) w fun e w' => ∃ x : Unit, e = .returned (.bool r1) ∧ Mem w0 (F) w' := by
  unfold impl_ColoredValid.f at h
  refine calls_of_J (n := 15) Try.func30 rfl rfl rfl hm ?_
  refine j_seq ?_
  refine j_region ?_
  refine r_do (a_box rfl rfl) rfl rfl (fun x1 => ?_)
  refine r_q (q_assign rfl rfl) rfl rfl ?_
  refine r_nil ?_
  refine j_then ?_
  refine j_seq ?_
  refine j_region ?_
  refine r_q (q_fieldAddr fi27_0 sz25 rfl rfl rfl) rfl rfl ?_
  refine r_q (q_loadb_agg 0 rfl ag25 sz25 rfl rfl rfl rfl) rfl rfl ?_
  obtain ⟨v1, hb1, h⟩ := of_b1 h
  refine r_do (a_call ok78 rfl rfl rfl rfl (fun w hm => impl_HeapValid.calls K a0_0 a0_0_A a0_0_n a0_0_c a0_1 a0_1_A a0_1_n a0_1_c a0_2 a0_2_A a0_2_n a0_2_c hm a0_0_h (Rd.drop 1 a0_0_R) a0_1_h (Rd.drop 1 a0_1_R) a0_2_h (Rd.drop 1 a0_2_R) hb1)) rfl rfl (fun x2 => ?_)
  refine r_q (q_move rfl rfl) rfl rfl ?_
  rcases of_if h with ⟨c1, h⟩ | ⟨c1, h⟩
  · refine r_qon (q_fieldAddr fi27_1 sz23 rfl rfl rfl) rfl rfl rfl rfl c1 rfl ?_
    refine r_qon (q_loadb 0 rfl ag23 rfl rfl rfl) rfl rfl rfl rfl c1 rfl ?_
    refine r_qon (q_fieldAddr fi27_0 sz25 rfl rfl rfl) rfl rfl rfl rfl c1 rfl ?_
    refine r_qon (q_fieldAddr fi25_0 sz23 rfl rfl rfl) rfl rfl rfl rfl c1 rfl ?_
    refine r_qon (q_loadb 0 rfl ag23 rfl rfl rfl) rfl rfl rfl rfl c1 rfl ?_
    refine r_qon (q_lenX a0_0 a0_0_h un23 rfl rfl rfl rfl rfl) rfl rfl rfl rfl c1 rfl ?_
    obtain ⟨v2, hb2, h⟩ := of_b1 h
    refine r_on (a_call ok79 rfl rfl rfl rfl (fun w hm => impl_colorsOk.calls K a0_3 a0_3_A a0_3_n a0_3_c (a0_0.length : Int) hm a0_3_h (Rd.drop 1 a0_3_R) hb2)) rfl rfl rfl rfl c1 rfl (fun x3 => ?_)
    refine r_q (q_pick_t rfl rfl c1 rfl) rfl rfl ?_
    refine r_q (q_assign rfl rfl) rfl rfl ?_
    refine r_nil ?_
    refine j_then ?_
    refine j_ret ?_
    cases h
    exact j_return rfl (ResOf.tmp rfl ResOf.nil) rfl (fun w h => ⟨(), rfl, h.tail⟩)
  · refine r_off rfl rfl rfl rfl (var_f c1) rfl ?_
    refine r_off rfl rfl rfl rfl (var_f c1) rfl ?_
    refine r_off rfl rfl rfl rfl (var_f c1) rfl ?_
    refine r_off rfl rfl rfl rfl (var_f c1) rfl ?_
    refine r_off rfl rfl rfl rfl (var_f c1) rfl ?_
    refine r_off rfl rfl rfl rfl (var_f c1) rfl ?_
    refine r_off rfl rfl rfl rfl (var_f c1) rfl ?_
    refine r_q (q_pick_f rfl rfl (var_f c1) rfl) rfl rfl ?_
    refine r_q (q_assign rfl rfl) rfl rfl ?_
    refine r_nil ?_
    refine j_then ?_
    refine j_ret ?_
    cases h
    exact j_return rfl (ResOf.tmp rfl ResOf.nil) rfl (fun w h => ⟨(), rfl, h.tail⟩)

theorem impl_copied.calls (K : Nat) (a0_0 : List Int) (a0_0_A : Option Addr) (a0_0_n a0_0_c : Nat) (a0_1 : List Int) (a0_1_A : Option Addr) (a0_1_n a0_1_c : Nat) (a0_2 : List Int) (a0_2_A : Option Addr) (a0_2_n a0_2_c : Nat) {w0 w : World} {F : List Res} {r1 : List Int} {r2 : List Int} {r3 : List Int} (hm : Mem w0 (F) w) (a0_0_h : a0_0.length = a0_0_n) (a0_0_R : Rd w0 F a0_0_A (ii a0_0)) (a0_1_h : a0_1.length = a0_1_n) (a0_1_R : Rd w0 F a0_1_A (ii a0_1)) (a0_2_h : a0_2.length = a0_2_n) (a0_2_R : Rd w0 F a0_2_A (ii a0_2)) (h : impl_copied.f K a0_0 a0_1 a0_2 = some (r1, r2, r3)) :
    Calls Try.prog 90 (List.toArray [.agg (List.toArray [.slice a0_0_A a0_0_n a0_0_c, .slice a0_1_A a0_1_n a0_1_c, .slice a0_2_A a0_2_n a0_2_c])]) w fun e w' => ∃ x : (Sl r1.length) × (Sl r2.length) × (Sl r3.length), e = .returned (.agg (List.toArray [.slice x.1.A x.1.n x.1.c, .slice x.2.1.A x.2.1.n x.2.1.c, .slice x.2.2.A x.2.2.n x.2.2.c])) ∧ Mem w0 (.row x.1.A x.1.c 3 1 (ii r1) :: .row x.2.1.A x.2.1.c 3 1 (ii r2) :: .row x.2.2.A x.2.2.c 3 1 (ii r3) :: F) w' := by
  unfold impl_copied.f at h
  refine calls_of_J (n := 13) Try.func90 rfl rfl rfl hm ?_
  refine j_seq ?_
  refine j_region ?_
  refine r_do (a_box rfl rfl) rfl rfl (fun x1 => ?_)
  refine r_do (a_alloc zr25 rfl) rfl rfl (fun x2 => ?_)
  refine r_nil ?_
  refine j_then ?_
  refine j_seq ?_
  obtain ⟨v1, hb1, h⟩ := of_b1 h
  obtain ⟨v2, hb2, h⟩ := of_b1 h
  obtain ⟨v3, hb3, h⟩ := of_b1 h
  refine j_draw (.box x1 25 [(.slice a0_0_A a0_0_n a0_0_c), (.slice a0_1_A a0_1_n a0_1_c), (.slice a0_2_A a0_2_n a0_2_c)] :: F) 11 follows_any rfl ?_
  refine d_take 0 rfl (q_fieldAddr fi25_0 sz23 rfl rfl rfl) rfl rfl (by kernel_rfl) (by kernel_rfl) (by kernel_rfl) (fun w h => h.tail) ?_
  refine d_take 1 rfl (q_loadb 0 rfl ag23 rfl rfl rfl) rfl rfl (by kernel_rfl) (by kernel_rfl) (by kernel_rfl) (fun w h => h.tail) ?_
  refine d_take 3 rfl (q_fieldAddr fi25_1 sz23 rfl rfl rfl) rfl rfl (by kernel_rfl) (by kernel_rfl) (by kernel_rfl) (fun w h => h.tail) ?_
  refine d_take 4 rfl (q_loadb 0 rfl ag23 rfl rfl rfl) rfl rfl (by kernel_rfl) (by kernel_rfl) (by kernel_rfl) (fun w h => h.tail) ?_
  refine d_take 6 rfl (q_fieldAddr fi25_2 sz23 rfl rfl rfl) rfl rfl (by kernel_rfl) (by kernel_rfl) (by kernel_rfl) (fun w h => h.tail) ?_
  refine d_take 7 rfl (q_loadb 0 rfl ag23 rfl rfl rfl) rfl rfl (by kernel_rfl) (by kernel_rfl) (by kernel_rfl) (fun w h => h.tail) ?_
  refine d_one 2 (by kernel_rfl) ?_
  refine o_do rfl (a_call ok82 rfl rfl rfl rfl (fun w hm => slices_Clone_int.calls K a0_0 a0_0_A a0_0_n a0_0_c hm a0_0_h (Rd.drop 2 a0_0_R) hb1)) rfl rfl (fun x3 w h => (h.drop 2)) (fun x3 => ?_)
  refine d_one 5 (by kernel_rfl) ?_
  refine o_do rfl (a_call ok82 rfl rfl rfl rfl (fun w hm => slices_Clone_int.calls K a0_1 a0_1_A a0_1_n a0_1_c hm a0_1_h (Rd.drop 3 a0_1_R) hb2)) rfl rfl (fun x4 w h => (h.drop 3)) (fun x4 => ?_)
  refine d_one 8 (by kernel_rfl) ?_
  refine o_do rfl (a_call ok82 rfl rfl rfl rfl (fun w hm => slices_Clone_int.calls K a0_2 a0_2_A a0_2_n a0_2_c hm a0_2_h (Rd.drop 4 a0_2_R) hb3)) rfl rfl (fun x5 w h => (h.drop 4)) (fun x5 => ?_)
  refine d_take 9 rfl (q_build (cs := [(.slice x3.A x3.n x3.c), (.slice x4.A x4.n x4.c), (.slice x5.A x5.n x5.c)]) zr25 pl25 rfl rfl rfl rfl) rfl rfl (by kernel_rfl) (by kernel_rfl) (by kernel_rfl) (fun w h => (h.drop 4)) ?_
  refine d_one 10 (by kernel_rfl) ?_
  refine o_do rfl (a_storeb 3 rfl sz25 rfl rfl rfl rfl (Nat.le_of_ble_eq_true rfl) rfl) rfl rfl (fun _ w h => (h.drop 4)) (fun _ => ?_)
  refine j_b3 [(.slice x3.A x3.n x3.c), (.slice x4.A x4.n x4.c), (.slice x5.A x5.n x5.c)] rfl ?_
  refine d_done (by kernel_rfl) ?_
  refine j_then ?_
  refine j_ret ?_
  cases h
  exact j_return rfl (ResOf.cell 3 rfl rfl ag25 sz25 ResOf.nil) rfl (fun w h => ⟨(⟨x3.A, x3.n, x3.c, x3.h⟩, ⟨x4.A, x4.n, x4.c, x4.h⟩, ⟨x5.A, x5.n, x5.c, x5.h⟩), rfl, h.pick 5 [2, 1, 0] rfl⟩)

theorem impl_fresh.calls (K : Nat) (a0_0 : List Int) (a0_0_A : Option Addr) (a0_0_n a0_0_c : Nat) (a0_1 : List Int) (a0_1_A : Option Addr) (a0_1_n a0_1_c : Nat) (a0_2 : List Int) (a0_2_A : Option Addr) (a0_2_n a0_2_c : Nat) (a0_3 : List Int) (a0_3_A : Option Addr) (a0_3_n a0_3_c : Nat) {w0 w : World} {F : List Res} {r1 : List Int} {r2 : List Int} {r3 : List Int} {r4 : List Int} (hm : Mem w0 (F) w) (a0_0_h : a0_0.length = a0_0_n) (a0_0_R : Rd w0 F a0_0_A (ii a0_0)) (a0_1_h : a0_1.length = a0_1_n) (a0_1_R : Rd w0 F a0_1_A (ii a0_1)) (a0_2_h : a0_2.length = a0_2_n) (a0_2_R : Rd w0 F a0_2_A (ii a0_2)) (a0_3_h : a0_3.length = a0_3_n) (a0_3_R : Rd w0 F a0_3_A (ii a0_3)) (h : impl_fresh.f K a0_0 a0_1 a0_2 a0_3 = some (r1, r2, r3, r4)) :
    Calls Try.prog 57 (List.toArray [.agg (List.toArray [.slice a0_0_A a0_0_n a0_0_c, .slice a0_1_A a0_1_n a0_1_c, .slice a0_2_A a0_2_n a0_2_c, .slice a0_3_A a0_3_n a0_3_c])]) w fun e w' => ∃ x : (Sl r1.length) × (Sl r2.length) × (Sl r3.length) × (Sl r4.length), e = .returned (.agg (List.toArray [.slice x.1.A x.1.n x.1.c, .slice x.2.1.A x.2.1.n x.2.1.c, .slice x.2.2.1.A x.2.2.1.n x.2.2.1.c, .slice x.2.2.2.A x.2.2.2.n x.2.2.2.c])) ∧ Mem w0 (.row x.1.A x.1.c 3 1 (ii r1) :: .row x.2.1.A x.2.1.c 3 1 (ii r2) :: .row x.2.2.1.A x.2.2.1.c 3 1 (ii r3) :: .row x.2.2.2.A x.2.2.2.c 3 1 (ii r4) :: F) w' := by
  unfold impl_fresh.f at h
  refine calls_of_J (n := 10) Try.func57 rfl rfl rfl hm ?_
  refine j_seq ?_
  refine j_region ?_
  refine r_do (a_box rfl rfl) rfl rfl (fun x1 => ?_)
  refine r_do (a_alloc zr27 rfl) rfl rfl (fun x2 => ?_)
  refine r_nil ?_
  refine j_then ?_
  refine j_seq ?_
  obtain ⟨v1, v2, v3, hb1, h⟩ := of_b3 h
  obtain ⟨v4, hb2, h⟩ := of_b1 h
  refine j_draw (.box x1 27 [(.slice a0_0_A a0_0_n a0_0_c), (.slice a0_1_A a0_1_n a0_1_c), (.slice a0_2_A a0_2_n a0_2_c), (.slice a0_3_A a0_3_n a0_3_c)] :: F) 8 follows_any rfl ?_
  refine d_take 0 rfl (q_fieldAddr fi27_0 sz25 rfl rfl rfl) rfl rfl (by kernel_rfl) (by kernel_rfl) (by kernel_rfl) (fun w h => h.tail) ?_
  refine d_take 1 rfl (q_loadb_agg 0 rfl ag25 sz25 rfl rfl rfl rfl) rfl rfl (by kernel_rfl) (by kernel_rfl) (by kernel_rfl) (fun w h => h.tail) ?_
  refine d_take 3 rfl (q_fieldAddr fi27_1 sz23 rfl rfl rfl) rfl rfl (by kernel_rfl) (by kernel_rfl) (by kernel_rfl) (fun w h => h.tail) ?_
  refine d_take 4 rfl (q_loadb 0 rfl ag23 rfl rfl rfl) rfl rfl (by kernel_rfl) (by kernel_rfl) (by kernel_rfl) (fun w h => h.tail) ?_
  refine d_one 2 (by kernel_rfl) ?_
  refine o_do rfl (a_call ok90 rfl rfl rfl rfl (fun w hm => impl_copied.calls K a0_0 a0_0_A a0_0_n a0_0_c a0_1 a0_1_A a0_1_n a0_1_c a0_2 a0_2_A a0_2_n a0_2_c hm a0_0_h (Rd.drop 2 a0_0_R) a0_1_h (Rd.drop 2 a0_1_R) a0_2_h (Rd.drop 2 a0_2_R) hb1)) rfl rfl (fun x3 w h => (h.drop 4)) (fun x3 => ?_)
  refine d_one 5 (by kernel_rfl) ?_
  refine o_do rfl (a_call ok82 rfl rfl rfl rfl (fun w hm => slices_Clone_int.calls K a0_3 a0_3_A a0_3_n a0_3_c hm a0_3_h (Rd.drop 5 a0_3_R) hb2)) rfl rfl (fun x4 w h => (h.drop 5)) (fun x4 => ?_)
  refine d_take 6 rfl (q_build (cs := [(.slice x3.1.A x3.1.n x3.1.c), (.slice x3.2.1.A x3.2.1.n x3.2.1.c), (.slice x3.2.2.A x3.2.2.n x3.2.2.c), (.slice x4.A x4.n x4.c)]) zr27 pl27 rfl rfl rfl rfl) rfl rfl (by kernel_rfl) (by kernel_rfl) (by kernel_rfl) (fun w h => (h.drop 5)) ?_
  refine d_one 7 (by kernel_rfl) ?_
  refine o_do rfl (a_storeb 4 rfl sz27 rfl rfl rfl rfl (Nat.le_of_ble_eq_true rfl) rfl) rfl rfl (fun _ w h => (h.drop 5)) (fun _ => ?_)
  refine j_b4 [(.slice x3.1.A x3.1.n x3.1.c), (.slice x3.2.1.A x3.2.1.n x3.2.1.c), (.slice x3.2.2.A x3.2.2.n x3.2.2.c), (.slice x4.A x4.n x4.c)] rfl ?_
  refine d_done (by kernel_rfl) ?_
  refine j_then ?_
  refine j_ret ?_
  cases h
  exact j_return rfl (ResOf.cell 4 rfl rfl ag27 sz27 ResOf.nil) rfl (fun w h => ⟨(⟨x3.1.A, x3.1.n, x3.1.c, x3.1.h⟩, ⟨x3.2.1.A, x3.2.1.n, x3.2.1.c, x3.2.1.h⟩, ⟨x3.2.2.A, x3.2.2.n, x3.2.2.c, x3.2.2.h⟩, ⟨x4.A, x4.n, x4.c, x4.h⟩), rfl, h.pick 6 [1, 2, 3, 0] rfl⟩)

end Go.Proofs.Ytcdcikmphonkfaa.F
