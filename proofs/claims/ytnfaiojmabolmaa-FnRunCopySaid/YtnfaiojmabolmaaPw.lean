/- Pure theorems of drawn laws of operations: FnRunCopy, FnRunPointers, FnRunPutGet. -/
import Derived.Test.YtnfaiojmabolmaaPv
import Derived.Test.YtnfaiojmabolmaaFk
namespace Go.Proofs.Ytnfaiojmabolmaa.T
open Go Go.RowKit Go.Proofs.Ytnfaiojmabolmaa.S Go.Proofs.Ytnfaiojmabolmaa.F
set_option linter.unusedVariables false
set_option linter.unusedSimpArgs false
/-- How many places of two lists differ. -/
def dif (xs ys : List Int) (n : Nat) : Nat := ((upto n).filter fun i => !decide (rd xs i = rd ys i)).length
theorem dif_zero {xs ys : List Int} : dif xs ys 0 = 0 := rfl
theorem dif_succ {xs ys : List Int} {n : Nat} : dif xs ys (n + 1) = dif xs ys n + if rd xs n = rd ys n then 0 else 1 := by
  unfold dif
  rw [upto_succ, List.filter_append, List.length_append]
  by_cases c : rd xs n = rd ys n
  · simp [c]
  · simp [c]
theorem dif_le {xs ys : List Int} {n : Nat} : dif xs ys n ≤ n := by
  unfold dif; exact Nat.le_trans (List.length_filter_le _ _) (by rw [upto_len]; exact Nat.le_refl _)
theorem dif_self {xs : List Int} {n : Nat} : dif xs xs n = 0 := by
  induction n with
  | zero => rfl
  | succ n ih => rw [dif_succ, ih, if_pos rfl]
theorem dif_set {xs : List Int} {i v : Int} {n : Nat} (h0 : 0 ≤ i) (h1 : i < xs.length) : dif (xs.set i.toNat v) xs n ≤ if i < n then 1 else 0 := by
  induction n with
  | zero => rw [dif_zero]; exact Nat.zero_le _
  | succ n ih =>
    rw [dif_succ, rd_set h0 (by omega) h1]
    by_cases c : i = n
    · subst c
      rw [if_neg (by omega)] at ih
      have h1 : ∀ (p : Prop) [Decidable p], (if p then 0 else 1 : Nat) ≤ 1 := fun p _ => by split <;> omega
      have h2 := h1 ((if (n : Int) = n then v else rd xs n) = rd xs n)
      rw [if_pos (show (n : Int) < ((n + 1 : Nat) : Int) by omega)]
      omega
    · rw [if_neg c, if_pos rfl]
      by_cases c2 : i < (n : Int)
      · rw [if_pos c2] at ih; rw [if_pos (by omega)]; omega
      · rw [if_neg c2] at ih; rw [if_neg (by omega)]; omega
theorem dif_set1 {xs : List Int} {i v : Int} {n : Nat} (h0 : 0 ≤ i) (h1 : i < xs.length) : dif (xs.set i.toNat v) xs n ≤ 1 := by
  have := @dif_set xs i v n h0 h1
  split at this <;> omega
/-- A valid operation changes one place at most. -/
theorem runW_dif {L R Ro F : List Int} {k a b : Int} (h : SV L R Ro F) (g : OpV k a b Ro.length) (n m : Nat) : dif (runW L R Ro F k a b).1 L n + dif (runW L R Ro F k a b).2.1 R n + dif (runW L R Ro F k a b).2.2.1 Ro m ≤ 1 := by
  obtain ⟨hra, hrb⟩ := g.roots
  have hR := h.1.2.2.1
  have pa := h.1.rdRo hra.1 hra.2
  have pb := h.1.rdRo hrb.1 hrb.2
  have ro1 : ∀ v, dif (Ro.set a.toNat v) Ro m ≤ 1 := fun v => dif_set1 hra.1 hra.2
  have z1 := @dif_self L n
  have z2 := @dif_self R n
  have z3 := @dif_self Ro m
  have roo : ∀ v, dif L L n + dif R R n + dif (Ro.set a.toNat v) Ro m ≤ 1 := fun v => by have := ro1 v; omega
  have zz : dif L L n + dif R R n + dif Ro Ro m ≤ 1 := by omega
  unfold runW
  rcases op_cases g.1 g.2.1 with rfl | rfl | rfl | rfl | rfl | rfl | rfl
  · rw [if_pos rfl]
    by_cases c : F = []
    · rw [if_pos c]; exact zz
    · rw [if_neg c]; exact roo _
  · exact roo _
  · simp only [show ¬((3 : Int) = 1) by omega, show ¬((3 : Int) = 2) by omega, if_false, if_true]
    by_cases c : rd Ro b = -1
    · rw [if_pos c]; exact zz
    · rw [if_neg c]; exact roo _
  · simp only [show ¬((4 : Int) = 1) by omega, show ¬((4 : Int) = 2) by omega, show ¬((4 : Int) = 3) by omega, if_false, if_true]
    by_cases c : rd Ro b = -1
    · rw [if_pos c]; exact zz
    · rw [if_neg c]; exact roo _
  · simp only [show ¬((5 : Int) = 1) by omega, show ¬((5 : Int) = 2) by omega, show ¬((5 : Int) = 3) by omega, show ¬((5 : Int) = 4) by omega, if_false, if_true]
    by_cases c : rd Ro a = -1
    · rw [if_pos c]; exact zz
    · rw [if_neg c]
      have := @dif_set1 L (rd Ro a) (rd Ro b) n (by omega) pa.2
      show dif (L.set (rd Ro a).toNat (rd Ro b)) L n + dif R R n + dif Ro Ro m ≤ 1
      omega
  · simp only [show ¬((6 : Int) = 1) by omega, show ¬((6 : Int) = 2) by omega, show ¬((6 : Int) = 3) by omega, show ¬((6 : Int) = 4) by omega, show ¬((6 : Int) = 5) by omega, if_false, if_true]
    by_cases c : rd Ro a = -1
    · rw [if_pos c]; exact zz
    · rw [if_neg c]
      have := @dif_set1 R (rd Ro a) (rd Ro b) n (by omega) (by omega)
      show dif L L n + dif (R.set (rd Ro a).toNat (rd Ro b)) R n + dif Ro Ro m ≤ 1
      omega
  · exact roo _
theorem runW_lens {L R Ro F : List Int} {k a b : Int} : (runW L R Ro F k a b).1.length = L.length ∧ (runW L R Ro F k a b).2.1.length = R.length ∧ (runW L R Ro F k a b).2.2.1.length = Ro.length := by
  unfold runW
  repeat' split
  all_goals simp
end Go.Proofs.Ytnfaiojmabolmaa.T
namespace Go.Proofs.Ytnfaiojmabolmaa.Pure
open Go Go.RowKit Go.Proofs.Ytnfaiojmabolmaa.S Go.Proofs.Ytnfaiojmabolmaa.F Go.Proofs.Ytnfaiojmabolmaa.T
theorem FnRunCopy : ∀ (a0 : List Int), a0.length ≤ 9223372036854775807 → (∀ x ∈ a0, U8 x) → ∃ K, laws_FnRunCopy.f K a0 = some true := by
  intro a _ hu
  refine ⟨KK, ?_⟩
  unfold laws_FnRunCopy.f
  by_cases big : (a.length : Int) > 1048576
  · rw [if_pos big]
  rw [if_neg big]
  obtain ⟨L, R, Ro, F, k, x, y, e, hs⟩ := DrawRunOp_ex (K := KK) hu (by decide)
  obtain ⟨s1, s2, s3, s4, s5⟩ := hs
  have hF : F.length < KK := by show _ < 1048577; omega
  rw [e, b7_some]
  by_cases h : SV L R Ro F ∧ OpV k x y Ro.length
  rotate_left
  · obtain ⟨e1, e2⟩ := run_no hF h
    rw [e1, e2, b6_some, b6_some, same_nil]
    simp [b1_some]
  obtain ⟨e1, e2⟩ := run_ok hF h.1 h.2
  obtain ⟨L', R', Ro', F', en, e3, hs', hc⟩ := runW_facts h.1 h.2
  rw [e1, e2, e3, b6_some, b6_some, same_sv hs', b1_some, if_pos rfl, if_pos rfl, if_pos rfl, if_pos rfl]
  by_cases k2 : k = 2
  rotate_left
  · rw [if_neg k2, b1_some, if_pos rfl]; rfl
  subst k2
  rw [if_pos rfl]
  obtain ⟨hra, hrb⟩ := h.2.roots
  have e4 : runW L R Ro F 2 x y = (L, R, Ro.set x.toNat (rd Ro y), F, 0, true) := rfl
  rw [e4] at e3
  injection e3 with q1 e3
  injection e3 with q2 e3
  injection e3 with q3 e3
  injection e3 with q4 e3
  subst q1 q2 q3 q4
  have hop' : OpV 2 x y (Ro.set x.toNat (rd Ro y)).length := by rw [List.length_set]; exact h.2
  obtain ⟨e5, _⟩ := run_ok hF hs' hop'
  have e6 : runW L R (Ro.set x.toNat (rd Ro y)) F 2 x y = (L, R, (Ro.set x.toNat (rd Ro y)).set x.toNat (rd (Ro.set x.toNat (rd Ro y)) y), F, 0, true) := rfl
  have e7 : rd (Ro.set x.toNat (rd Ro y)) y = rd Ro y := by
    rw [rd_set hra.1 hrb.1 hra.2]; split <;> rfl
  rw [e5, e6, b6_some, if_pos (by rw [List.length_set]; exact hra), if_pos hrb, rd_set_self hra.1 hra.2, if_pos rfl, if_pos rfl, if_pos rfl, e7, List.set_set, same_sv hs', b1_some]
theorem FnRunPointers : ∀ (a0 : List Int), a0.length ≤ 9223372036854775807 → (∀ x ∈ a0, U8 x) → ∃ K, laws_FnRunPointers.f K a0 = some true := by
  intro a _ hu
  refine ⟨KK, ?_⟩
  unfold laws_FnRunPointers.f
  by_cases big : (a.length : Int) > 1048576
  · rw [if_pos big]
  rw [if_neg big]
  obtain ⟨L, R, Ro, F, k, x, y, e, hs⟩ := DrawRunOp_ex (K := KK) hu (by decide)
  obtain ⟨s1, s2, s3, s4, s5⟩ := hs
  have hF : F.length < KK := by show _ < 1048577; omega
  rw [e, b7_some]
  by_cases h : SV L R Ro F ∧ OpV k x y Ro.length
  rotate_left
  · obtain ⟨e1, e2⟩ := run_no hF h
    rw [e1, e2, b6_some, b6_some, same_nil]
    simp [b1_some]
  obtain ⟨e1, e2⟩ := run_ok hF h.1 h.2
  have hd := runW_dif h.1 h.2 L.length Ro.length
  have hl := @runW_lens L R Ro F k x y
  obtain ⟨L', R', Ro', F', en, e3, hs', hc⟩ := runW_facts h.1 h.2
  rw [e3] at hd hl
  simp only [] at hd hl
  rw [e1, e2, e3, b6_some, b6_some, same_sv hs', b1_some, if_pos rfl, if_pos rfl, if_pos rfl, if_pos rfl]
  have hR := h.1.1.2.2.1
  have lo1 : laws_FnRunPointers.loop1 KK (fun p10 => some (decide (p10 ≤ (1:Int)))) Ro Ro' KK ((dif L' L L.length + dif R' R L.length : Nat) : Int) 0 = some true := by
    have key := loop_st (fun m p (s : Int) => laws_FnRunPointers.loop1 KK (fun p10 => some (decide (p10 ≤ (1:Int)))) Ro Ro' m s p) (fun i => ((dif L' L L.length + dif R' R L.length + dif Ro' Ro i : Nat) : Int)) Ro.length (some true) ?_ ?_ (K := KK) (by show _ < 1048577; omega)
    · simpa [dif_zero] using key
    · intro m i hi
      show laws_FnRunPointers.loop1 KK _ _ _ (m + 1) _ (i : Int) = laws_FnRunPointers.loop1 KK _ _ _ m _ ((i + 1 : Nat) : Int)
      have b1 := @dif_le L' L L.length; have b2 := @dif_le R' R L.length; have b3 := @dif_le Ro' Ro i
      rw [laws_FnRunPointers.loop1, if_pos (by omega), if_pos (by omega), if_pos (by omega), w64_succ hi (by omega), dif_succ]
      by_cases c : rd Ro' i = rd Ro i
      · rw [if_pos c, if_pos c]; rfl
      · rw [if_neg c, if_neg c, w64 (by omega) (by omega)]; rfl
    · intro m
      show laws_FnRunPointers.loop1 KK _ _ _ (m + 1) _ (Ro.length : Int) = _
      rw [laws_FnRunPointers.loop1, if_neg (by omega)]
      exact congrArg some (decide_eq_true (by omega))
  have key := loop_st (fun m p (s : Int) => laws_FnRunPointers.loop0 KK (fun p5 => laws_FnRunPointers.loop1 KK (fun p10 => some (decide (p10 ≤ (1:Int)))) Ro Ro' KK p5 (0:Int)) L R L' R' m s p) (fun i => ((dif L' L i + dif R' R i : Nat) : Int)) L.length (some true) ?_ ?_ (K := KK) (by show _ < 1048577; omega)
  · simpa [dif_zero] using key
  · intro m i hi
    show laws_FnRunPointers.loop0 KK _ _ _ _ _ (m + 1) _ (i : Int) = laws_FnRunPointers.loop0 KK _ _ _ _ _ m _ ((i + 1 : Nat) : Int)
    have b1 := @dif_le L' L i; have b2 := @dif_le R' R i
    rw [laws_FnRunPointers.loop0, if_pos (by omega), if_pos (by omega), if_pos (by omega), w64_succ hi (by omega), dif_succ, dif_succ]
    have i1 : 0 ≤ (i : Int) ∧ (i : Int) < (R'.length : Int) := by omega
    have i2 : 0 ≤ (i : Int) ∧ (i : Int) < (R.length : Int) := by omega
    rw [w64 (x := ((dif L' L i + dif R' R i : Nat) : Int) + 1) (by omega) (by omega), w64 (x := ((dif L' L i + dif R' R i : Nat) : Int) + 1 + 1) (by omega) (by omega)]
    by_cases c1 : rd L' i = rd L i
    · rw [if_pos c1, if_pos c1, if_pos i1, if_pos i2]
      by_cases c2 : rd R' i = rd R i
      · rw [if_pos c2, if_pos c2]; rfl
      · rw [if_neg c2, if_neg c2]; congr 1
    · rw [if_neg c1, if_neg c1, if_pos i1, if_pos i2]
      by_cases c2 : rd R' i = rd R i
      · rw [if_pos c2, if_pos c2]; congr 1; omega
      · rw [if_neg c2, if_neg c2]; congr 1; omega
  · intro m
    show laws_FnRunPointers.loop0 KK _ _ _ _ _ (m + 1) _ (L.length : Int) = _
    rw [laws_FnRunPointers.loop0, if_neg (by omega)]
    exact lo1
theorem FnRunPutGet : ∀ (a0 : List Int), a0.length ≤ 9223372036854775807 → (∀ x ∈ a0, U8 x) → ∃ K, laws_FnRunPutGet.f K a0 = some true := by
  intro a _ hu
  refine ⟨KK, ?_⟩
  unfold laws_FnRunPutGet.f
  by_cases big : (a.length : Int) > 1048576
  · rw [if_pos big]
  rw [if_neg big]
  obtain ⟨L, R, Ro, F, k, x, y, e, hs⟩ := DrawRunOp_ex (K := KK) hu (by decide)
  obtain ⟨s1, s2, s3, s4, s5⟩ := hs
  have hF : F.length < KK := by show _ < 1048577; omega
  rw [e, b7_some]
  by_cases h : SV L R Ro F ∧ OpV k x y Ro.length
  rotate_left
  · obtain ⟨e1, e2⟩ := run_no hF h
    rw [e1, e2, b6_some, b6_some, same_nil]
    simp [b1_some]
  obtain ⟨e1, e2⟩ := run_ok hF h.1 h.2
  obtain ⟨L', R', Ro', F', en, e3, hs', hc⟩ := runW_facts h.1 h.2
  rw [e1, e2, e3, b6_some, b6_some, same_sv hs', b1_some, if_pos rfl, if_pos rfl, if_pos rfl, if_pos rfl]
  by_cases en0 : en = 0
  rotate_left
  · rw [if_neg en0, b1_some, if_pos rfl]; rfl
  subst en0
  rw [if_pos rfl]
  obtain ⟨hra, hrb⟩ := h.2.roots
  have pa := h.1.1.rdRo hra.1 hra.2
  have pb := h.1.1.rdRo hrb.1 hrb.2
  have hR := h.1.1.2.2.1
  have ha3 := h.2.2.2.2.2.1
  by_cases k5 : k = 5
  · subst k5
    rw [if_pos rfl, if_neg (by omega)]
    have c : rd Ro x ≠ -1 := by
      intro c
      unfold runW at e3
      simp [c] at e3
    have e4 : runW L R Ro F 5 x y = (L.set (rd Ro x).toNat (rd Ro y), R, Ro, F, 0, true) := by unfold runW; simp [c]
    rw [e4] at e3
    injection e3 with q1 e3
    injection e3 with q2 e3
    injection e3 with q3 e3
    injection e3 with q4 e3
    subst q1 q2 q3 q4
    have hop' : OpV 3 x x Ro.length := ⟨by omega, by omega, hra.1, hra.2, ha3, hra.1, ha3, by rw [if_neg (by omega)]; exact hra.2⟩
    obtain ⟨e5, _⟩ := run_ok hF hs' hop'
    have e6 : runW (L.set (rd Ro x).toNat (rd Ro y)) R Ro F 3 x x = (L.set (rd Ro x).toNat (rd Ro y), R, Ro.set x.toNat (rd (L.set (rd Ro x).toNat (rd Ro y)) (rd Ro x)), F, 0, true) := by unfold runW; simp [c]
    rw [e5, e6, b6_some, if_pos rfl, if_pos rfl, if_pos (by rw [List.length_set]; exact hra), if_pos hrb, rd_set_self hra.1 hra.2, rd_set_self (by omega) pa.2]
    simp
  · rw [if_neg k5]
    by_cases k6 : k = 6
    · subst k6
      rw [if_pos rfl]
      have c : rd Ro x ≠ -1 := by
        intro c
        unfold runW at e3
        simp [c] at e3
      have e4 : runW L R Ro F 6 x y = (L, R.set (rd Ro x).toNat (rd Ro y), Ro, F, 0, true) := by unfold runW; simp [c]
      rw [e4] at e3
      injection e3 with q1 e3
      injection e3 with q2 e3
      injection e3 with q3 e3
      injection e3 with q4 e3
      subst q1 q2 q3 q4
      have hop' : OpV 4 x x Ro.length := ⟨by omega, by omega, hra.1, hra.2, ha3, hra.1, ha3, by rw [if_neg (by omega)]; exact hra.2⟩
      obtain ⟨e5, _⟩ := run_ok hF hs' hop'
      have e6 : runW L (R.set (rd Ro x).toNat (rd Ro y)) Ro F 4 x x = (L, R.set (rd Ro x).toNat (rd Ro y), Ro.set x.toNat (rd (R.set (rd Ro x).toNat (rd Ro y)) (rd Ro x)), F, 0, true) := by unfold runW; simp [c]
      rw [e5, e6, b6_some, if_pos rfl, if_pos rfl, if_pos (by rw [List.length_set]; exact hra), if_pos hrb, rd_set_self hra.1 hra.2, rd_set_self (by omega) (by omega)]
      simp
    · rw [if_neg k6, b1_some, if_pos rfl]; rfl
end Go.Proofs.Ytnfaiojmabolmaa.Pure
