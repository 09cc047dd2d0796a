/- Pure theorems of drawn laws of operations: FnTargetOf, FnRunOp. -/
import Derived.Test.YtigidjhdcplplaaPu
namespace Go.Proofs.Ytigidjhdcplplaa.T
open Go Go.RowKit Go.Proofs.Ytigidjhdcplplaa.S Go.Proofs.Ytigidjhdcplplaa.F
set_option linter.unusedVariables false
set_option linter.unusedSimpArgs false
theorem DrawRunOp_ex {K : Nat} {a : List Int} (hu : ∀ x ∈ a, U8 x) (hK : 20 < K) : ∃ L R Ro F k x y, spec_DrawRunOp.f K a = some (L, R, Ro, F, k, x, y) ∧ Short 10 L R Ro F := by
  have h := Src.open hu
  unfold spec_DrawRunOp.f
  rw [l13Open_eq, b1_some]
  obtain ⟨L, R, Ro, F, p, e1, hv, p0, p1⟩ := l4Draw_ex (K := K) h (by omega) hK
  obtain ⟨L', R', Ro', F', p', e2, hs, p2, p3⟩ := l4Wrong_ex (K := K) (h.at (p' := p) (by omega) (by omega)) (by omega) hv.short (by omega)
  obtain ⟨k, x, y, e3, _⟩ := l5Op_ex (K := K) (h.at (p' := p') (by omega) (by omega)) (by omega)
  rw [e1, b5_some, e2, b5_some, e3, b4_some]
  exact ⟨_, _, _, _, _, _, _, rfl, hs⟩
theorem runW_facts {L R Ro F : List Int} {k a b : Int} (h : SV L R Ro F) (g : OpV k a b Ro.length) : ∃ L' R' Ro' F' en, runW L R Ro F k a b = (L', R', Ro', F', en, true) ∧ SV L' R' Ro' F' ∧ ((en = 0 ∧ (F'.length = F.length ∨ (k = 1 ∧ F'.length + 1 = F.length))) ∨ (en ≠ 0 ∧ L' = L ∧ R' = R ∧ Ro' = Ro ∧ F' = F)) := by
  have hs := runV_sv h g
  have key : (runW L R Ro F k a b).2.2.2.2.2 = true ∧ (((runW L R Ro F k a b).2.2.2.2.1 = 0 ∧ ((runW L R Ro F k a b).2.2.2.1.length = F.length ∨ (k = 1 ∧ (runW L R Ro F k a b).2.2.2.1.length + 1 = F.length))) ∨ ((runW L R Ro F k a b).2.2.2.2.1 ≠ 0 ∧ (runW L R Ro F k a b).1 = L ∧ (runW L R Ro F k a b).2.1 = R ∧ (runW L R Ro F k a b).2.2.1 = Ro ∧ (runW L R Ro F k a b).2.2.2.1 = F)) := by
    unfold runW
    by_cases k1 : k = 1
    · rw [if_pos k1]
      by_cases c : F = []
      · rw [if_pos c]; exact ⟨rfl, .inr ⟨fun q => absurd (show (1 : Int) = 0 from q) (by decide), rfl, rfl, rfl, rfl⟩⟩
      · rw [if_neg c]
        have := List.length_pos_iff.2 c
        exact ⟨rfl, .inl ⟨rfl, .inr ⟨k1, by show (F.drop 1).length + 1 = F.length; rw [List.length_drop]; omega⟩⟩⟩
    rw [if_neg k1]
    repeat' split
    all_goals first | exact ⟨rfl, .inl ⟨rfl, .inl rfl⟩⟩ | exact ⟨rfl, .inr ⟨fun q => absurd (show (2 : Int) = 0 from q) (by decide), rfl, rfl, rfl, rfl⟩⟩
  obtain ⟨k1, k2⟩ := key
  refine ⟨_, _, _, _, _, ?_, hs, k2⟩
  rw [← k1]
theorem run_ok {L R Ro F : List Int} {k a b : Int} (hF : F.length < KK) (h : SV L R Ro F) (g : OpV k a b Ro.length) : impl_RunOp.f KK L R Ro F k a b = some (runW L R Ro F k a b) ∧ spec_RunOp.f KK L R Ro F k a b = some (runW L R Ro F k a b) := by
  have e : runV L R Ro F k a b = runW L R Ro F k a b := by unfold runV; rw [if_pos ⟨h, g⟩]
  have hF' : F.length < 1048577 := hF
  rw [impl_RunOp_eq (by decide) hF (by omega), spec_RunOp_eq (by decide), e]
  exact ⟨rfl, rfl⟩
theorem run_no {L R Ro F : List Int} {k a b : Int} (hF : F.length < KK) (h : ¬(SV L R Ro F ∧ OpV k a b Ro.length)) : impl_RunOp.f KK L R Ro F k a b = some ([], [], [], [], 0, false) ∧ spec_RunOp.f KK L R Ro F k a b = some ([], [], [], [], 0, false) := by
  have e : runV L R Ro F k a b = ([], [], [], [], 0, false) := by unfold runV; rw [if_neg h]
  have hF' : F.length < 1048577 := hF
  rw [impl_RunOp_eq (by decide) hF (by omega), spec_RunOp_eq (by decide), e]
  exact ⟨rfl, rfl⟩
theorem SV.le8 {L R Ro F : List Int} (h : SV L R Ro F) : L.length ≤ 8 ∧ R.length ≤ 8 ∧ Ro.length ≤ 8 ∧ F.length ≤ 8 := by
  have := h.len; have := h.1.2.1; have := h.1.2.2.1; have := h.1.2.2.2.2.1
  omega
theorem same_sv {L R Ro F : List Int} (h : SV L R Ro F) : impl_StoreSame.f KK L R Ro F L R Ro F = some true := by
  have := h.le8
  exact storeSame_self (by omega) (by omega) (by omega) (by omega)
theorem same_nil : impl_StoreSame.f KK [] [] [] [] [] [] [] [] = some true := storeSame_self (by simp) (by simp) (by simp) (by simp)
end Go.Proofs.Ytigidjhdcplplaa.T
namespace Go.Proofs.Ytigidjhdcplplaa.Pure
open Go Go.RowKit Go.Proofs.Ytigidjhdcplplaa.S Go.Proofs.Ytigidjhdcplplaa.F Go.Proofs.Ytigidjhdcplplaa.T
theorem FnRunOp : ∀ (a0 : List Int), a0.length ≤ 9223372036854775807 → (∀ x ∈ a0, U8 x) → ∃ K, laws_FnRunOp.f K a0 = some true := by
  intro a _ hu
  refine ⟨KK, ?_⟩
  unfold laws_FnRunOp.f
  by_cases big : (a.length : Int) > 1048576
  · rw [if_pos big]
  rw [if_neg big]
  obtain ⟨L, R, Ro, F, k, x, y, e, hs⟩ := DrawRunOp_ex (K := KK) hu (by decide)
  obtain ⟨s1, s2, s3, s4, s5⟩ := hs
  have hF : F.length < KK := by show _ < 1048577; omega
  rw [e, b7_some]
  by_cases h : SV L R Ro F ∧ OpV k x y Ro.length
  rotate_left
  · obtain ⟨e1, e2⟩ := run_no hF h
    rw [e1, e2, b6_some, b6_some, same_nil]
    simp [b1_some]
  obtain ⟨e1, e2⟩ := run_ok hF h.1 h.2
  obtain ⟨L', R', Ro', F', en, e3, hs', hc⟩ := runW_facts h.1 h.2
  rw [e1, e2, e3, b6_some, b6_some, same_sv hs', b1_some, if_pos rfl, if_pos rfl, if_pos rfl, if_pos rfl]
  have h8 := h.1.le8
  have h8' := hs'.le8
  rcases hc with ⟨rfl, hl⟩ | ⟨hne, rfl, rfl, rfl, rfl⟩
  · rw [if_pos rfl, impl_StoreValid_eq (by decide) (by show _ < 1048577; omega) (by omega), b1_some, if_pos (decide_eq_true hs')]
    rcases hl with hl | ⟨rfl, hl⟩
    · rw [if_pos (by omega)]
    · rw [if_neg (by omega), if_pos rfl, w64 (by omega) (by omega)]
      have : (F'.length : Int) = F.length - 1 := by omega
      rw [this]; simp
  · rw [if_neg hne, same_sv h.1, b1_some]
theorem FnTargetOf : ∀ (a0 : List Int), a0.length ≤ 9223372036854775807 → (∀ x ∈ a0, U8 x) → ∃ K, laws_FnTargetOf.f K a0 = some true := by
  intro a _ hu
  refine ⟨KK, ?_⟩
  unfold laws_FnTargetOf.f
  by_cases big : (a.length : Int) > 1048576
  · rw [if_pos big]
  rw [if_neg big]
  obtain ⟨L, R, Ro, F, k, x, y, e, hs⟩ := DrawRunOp_ex (K := KK) hu (by decide)
  obtain ⟨s1, s2, s3, s4, s5⟩ := hs
  have hF : F.length < KK := by show _ < 1048577; omega
  have e' : spec_DrawTargetOf.f KK a = some (L, R, Ro, F, k, x, y) := by unfold spec_DrawTargetOf.f; rw [e, b7_some]
  have et := spec_TargetOf_eq (K := KK) (L := L) (R := R) (Ro := Ro) (F := F) (k := k) (a := x) (b := y) (by decide)
  rw [e', b7_some, et, impl_TargetOf_eq (by decide) hF (by omega), b1_some, b1_some, if_pos rfl]
  by_cases c : tgtV L R Ro F k x y = -1
  · rw [if_pos c, b1_some]; simp
  rw [if_neg c]
  have hv : SV L R Ro F ∧ OpV k x y Ro.length ∧ (k = 5 ∨ k = 6) ∧ rd Ro x ≠ -1 := by
    unfold tgtV at c
    split at c
    · assumption
    · exact absurd rfl c
  have ev : tgtV L R Ro F k x y = rd Ro y := by unfold tgtV; rw [if_pos hv]
  rw [ev] at c ⊢
  obtain ⟨hsv, hop, hk, ha⟩ := hv
  obtain ⟨hra, hrb⟩ := hop.roots
  have pa := hsv.1.rdRo hra.1 hra.2
  have pb := hsv.1.rdRo hrb.1 hrb.2
  have hR := hsv.1.2.2.1
  obtain ⟨e1, _⟩ := run_ok hF hsv hop
  have lv : liveB L R Ro (rd Ro y) = true := by
    rw [liveB_iff]; exact .root (rd_mem hrb.1 hrb.2) (by omega)
  rw [e1, impl_Reachable_eq (by decide)]
  unfold livV runW
  rw [if_pos hsv.1]
  rcases hk with rfl | rfl
  · simp only [show ¬((5 : Int) = 1) by omega, show ¬((5 : Int) = 2) by omega, show ¬((5 : Int) = 3) by omega, show ¬((5 : Int) = 4) by omega, if_false, if_true, ha]
    rw [b6_some, b1_some, if_pos hra, if_pos rfl, if_pos rfl, liv_len, if_pos (by omega), rdb_liv (by omega) pb.2, if_pos lv, if_pos (by rw [List.length_set]; omega), rd_set_self (by omega) pa.2, if_pos rfl]
  · simp only [show ¬((6 : Int) = 1) by omega, show ¬((6 : Int) = 2) by omega, show ¬((6 : Int) = 3) by omega, show ¬((6 : Int) = 4) by omega, show ¬((6 : Int) = 5) by omega, if_false, if_true, ha]
    rw [b6_some, b1_some, if_pos hra, if_pos rfl, if_pos rfl, liv_len, if_pos (by omega), rdb_liv (by omega) pb.2, if_pos lv, if_pos (by omega)]
    by_cases q : rd L (rd Ro x) = rd Ro y
    · rw [if_pos q]
    · rw [if_neg q, if_pos (by rw [List.length_set]; omega), rd_set_self (by omega) (by omega)]
      simp
end Go.Proofs.Ytigidjhdcplplaa.Pure
