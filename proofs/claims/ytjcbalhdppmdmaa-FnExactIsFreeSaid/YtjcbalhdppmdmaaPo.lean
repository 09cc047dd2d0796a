/- Pure theorems of exact laws of heaps and stores: FnExactCountsOf, FnExactNewStore, FnExactStoreValid, FnExactIsFree. -/
import Derived.Test.YtjcbalhdppmdmaaPn
namespace Go.Proofs.Ytjcbalhdppmdmaa.Pure
open Go Go.RowKit Go.Proofs.Ytjcbalhdppmdmaa.S Go.Proofs.Ytjcbalhdppmdmaa.F Go.Proofs.Ytjcbalhdppmdmaa.T
set_option linter.unusedVariables false
set_option linter.unusedSimpArgs false
theorem FnExactCountsOf : ∀ (a0_0 : List Int), a0_0.length ≤ 9223372036854775807 → (∀ x ∈ a0_0, I64 x) → ∀ (a0_1 : List Int), a0_1.length ≤ 9223372036854775807 → (∀ x ∈ a0_1, I64 x) → ∀ (a0_2 : List Int), a0_2.length ≤ 9223372036854775807 → (∀ x ∈ a0_2, I64 x) → ∃ K, laws_FnExactCountsOf.f K a0_0 a0_1 a0_2 = some true := by
  intro L hL _ R hR _ Ro hRo _
  refine ⟨KK, ?_⟩
  unfold laws_FnExactCountsOf.f
  obtain ⟨r, e, g⟩ := szHeap_f hL hR hRo
  rw [e, b1_some]
  rcases g with g | ⟨g, fL, fR, fRo⟩
  · rw [if_pos g]
  rw [if_neg g]
  have fC : Fit KK (cntV L R Ro) := .of (by unfold cntV; split; (rw [cntL_len]; exact fL.2); simp)
  obtain ⟨k, x1, x2, x3, m1, _, m3⟩ := markHeap_ex fL fR fRo
  obtain ⟨k2, y, n1, n2, n3⟩ := markIntS_ex fC
  simp only [toHeap_f fL fR fRo, b3_some, spec_CountsOf_eq (K := KK) (L := L) (R := R) (Ro := Ro) (by decide), impl_CountsOf_eq (K := KK) (L := L) (R := R) (Ro := Ro) (by decide), b1_some, eqIntS_s fC, eqHeap_s fL fR fRo, m1, b4_some, m3, n1, n2, n3, b2_some, if_true, if_false]
theorem FnExactNewStore : ∀ (a0 : Int), I64 a0 → ∀ (a1 : Int), I64 a1 → ∃ K, laws_FnExactNewStore.f K a0 a1 = some true := by
  intro n _ r _
  refine ⟨KK, ?_⟩
  unfold laws_FnExactNewStore.f
  have h8 : (nS n r).1.length ≤ 8 ∧ (nS n r).2.1.length ≤ 8 ∧ (nS n r).2.2.1.length ≤ 8 ∧ (nS n r).2.2.2.1.length ≤ 8 := by
    unfold nS
    split
    · refine ⟨?_, ?_, ?_, ?_⟩ <;> simp [upto_len] <;> omega
    · simp
  have f1 : Fit KK (nS n r).1 := .of (by omega)
  have f2 : Fit KK (nS n r).2.1 := .of (by omega)
  have f3 : Fit KK (nS n r).2.2.1 := .of (by omega)
  have f4 : Fit KK (nS n r).2.2.2.1 := .of (by omega)
  obtain ⟨k, x1, x2, x3, x4, m1, m2, m3⟩ := markStore_ex f1 f2 f3 f4
  simp only [spec_NewStore_eq (K := KK) (n := n) (r := r) (by decide), impl_NewStore_eq (K := KK) (n := n) (r := r) (by decide), b5_p, eqStore_s f1 f2 f3 f4, b1_some, if_true, m1, m2, m3, if_false]
theorem FnExactStoreValid : ∀ (a0_0 : List Int), a0_0.length ≤ 9223372036854775807 → (∀ x ∈ a0_0, I64 x) → ∀ (a0_1 : List Int), a0_1.length ≤ 9223372036854775807 → (∀ x ∈ a0_1, I64 x) → ∀ (a0_2 : List Int), a0_2.length ≤ 9223372036854775807 → (∀ x ∈ a0_2, I64 x) → ∀ (a0_3 : List Int), a0_3.length ≤ 9223372036854775807 → (∀ x ∈ a0_3, I64 x) → ∃ K, laws_FnExactStoreValid.f K a0_0 a0_1 a0_2 a0_3 = some true := by
  intro L hL _ R hR _ Ro hRo _ F hF _
  refine ⟨KK, ?_⟩
  unfold laws_FnExactStoreValid.f
  obtain ⟨r, e, g⟩ := szStore_f hL hR hRo hF
  rw [e, b1_some]
  rcases g with g | ⟨g, _, _, fL, fR, fRo, fF⟩
  · rw [if_pos g]
  rw [if_neg g]
  simp only [toStore_f fL fR fRo fF, b4_some, spec_StoreValid_eq (K := KK) (L := L) (R := R) (Ro := Ro) (F := F) (by decide), impl_StoreValid_eq (K := KK) (L := L) (R := R) (Ro := Ro) (F := F) (by decide) fF.1 fF.mx2, b1_some, eqStore_s fL fR fRo fF, if_true]
theorem FnExactIsFree : ∀ (a0_0 : List Int), a0_0.length ≤ 9223372036854775807 → (∀ x ∈ a0_0, I64 x) → ∀ (a0_1 : List Int), a0_1.length ≤ 9223372036854775807 → (∀ x ∈ a0_1, I64 x) → ∀ (a0_2 : List Int), a0_2.length ≤ 9223372036854775807 → (∀ x ∈ a0_2, I64 x) → ∀ (a0_3 : List Int), a0_3.length ≤ 9223372036854775807 → (∀ x ∈ a0_3, I64 x) → ∀ (a1 : Int), I64 a1 → ∃ K, laws_FnExactIsFree.f K a0_0 a0_1 a0_2 a0_3 a1 = some true := by
  intro L hL _ R hR _ Ro hRo _ F hF _ c _
  refine ⟨KK, ?_⟩
  unfold laws_FnExactIsFree.f
  obtain ⟨r, e, g⟩ := szStore_f hL hR hRo hF
  rw [e, b1_some]
  rcases g with g | ⟨g, _, _, fL, fR, fRo, fF⟩
  · rw [if_pos g]
  rw [if_neg g]
  simp only [toStore_f fL fR fRo fF, b4_some, spec_IsFree_eq (K := KK) (L := L) (R := R) (Ro := Ro) (F := F) (c := c) (by decide), impl_IsFree_eq (K := KK) (L := L) (R := R) (Ro := Ro) (F := F) (c := c) (by decide) fF.1 fF.mx2, b1_some, eqStore_s fL fR fRo fF, if_true]
end Go.Proofs.Ytjcbalhdppmdmaa.Pure
