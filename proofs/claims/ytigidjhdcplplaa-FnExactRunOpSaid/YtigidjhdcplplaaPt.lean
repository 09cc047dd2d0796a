/- Pure theorems of exact laws of stores and operations: FnExactAllocCell, FnExactLeakedOf, FnExactTargetOf, FnExactRunOp. -/
import Derived.Test.YtigidjhdcplplaaPs
namespace Go.Proofs.Ytigidjhdcplplaa.Pure
open Go Go.RowKit Go.Proofs.Ytigidjhdcplplaa.S Go.Proofs.Ytigidjhdcplplaa.F Go.Proofs.Ytigidjhdcplplaa.T
set_option linter.unusedVariables false
set_option linter.unusedSimpArgs false
theorem FnExactAllocCell : ∀ (a0_0 : List Int), a0_0.length ≤ 9223372036854775807 → (∀ x ∈ a0_0, I64 x) → ∀ (a0_1 : List Int), a0_1.length ≤ 9223372036854775807 → (∀ x ∈ a0_1, I64 x) → ∀ (a0_2 : List Int), a0_2.length ≤ 9223372036854775807 → (∀ x ∈ a0_2, I64 x) → ∀ (a0_3 : List Int), a0_3.length ≤ 9223372036854775807 → (∀ x ∈ a0_3, I64 x) → ∀ (a1 : Int), I64 a1 → ∃ K, laws_FnExactAllocCell.f K a0_0 a0_1 a0_2 a0_3 a1 = some true := by
  intro L hL _ R hR _ Ro hRo _ F hF _ r _
  refine ⟨KK, ?_⟩
  unfold laws_FnExactAllocCell.f
  obtain ⟨z, e, g⟩ := szStore_f hL hR hRo hF
  rw [e, b1_some]
  rcases g with g | ⟨g, _, _, fL, fR, fRo, fF⟩
  · rw [if_pos g]
  rw [if_neg g]
  have hl := @takeV_len L R Ro F r
  have l1 := fL.2; have l2 := fR.2; have l3 := fRo.2; have l4 := fF.2
  have f1 : Fit KK (takeV L R Ro F r).1 := .of (by omega)
  have f2 : Fit KK (takeV L R Ro F r).2.1 := .of (by omega)
  have f3 : Fit KK (takeV L R Ro F r).2.2.1 := .of (by omega)
  have f4 : Fit KK (takeV L R Ro F r).2.2.2.1 := .of (by omega)
  obtain ⟨k, x1, x2, x3, x4, m1, m2, m3⟩ := markStore_ex f1 f2 f3 f4
  obtain ⟨k', y1, y2, y3, y4, n1, n2, n3⟩ := markStore_ex fL fR fRo fF
  simp only [toStore_f fL fR fRo fF, b4_some, spec_AllocCell_eq (K := KK) (L := L) (R := R) (Ro := Ro) (F := F) (r := r) (by decide), impl_AllocCell_eq (K := KK) (L := L) (R := R) (Ro := Ro) (F := F) (r := r) (by decide) fF.1 fF.mx2, b6_p, b5_some, b1_some, eqStore_s fL fR fRo fF, eqStore_s f1 f2 f3 f4, m1, m2, m3, n1, n2, n3, if_true, if_false]
theorem FnExactLeakedOf : ∀ (a0_0 : List Int), a0_0.length ≤ 9223372036854775807 → (∀ x ∈ a0_0, I64 x) → ∀ (a0_1 : List Int), a0_1.length ≤ 9223372036854775807 → (∀ x ∈ a0_1, I64 x) → ∀ (a0_2 : List Int), a0_2.length ≤ 9223372036854775807 → (∀ x ∈ a0_2, I64 x) → ∀ (a0_3 : List Int), a0_3.length ≤ 9223372036854775807 → (∀ x ∈ a0_3, I64 x) → ∃ K, laws_FnExactLeakedOf.f K a0_0 a0_1 a0_2 a0_3 = some true := by
  intro L hL _ R hR _ Ro hRo _ F hF _
  refine ⟨KK, ?_⟩
  unfold laws_FnExactLeakedOf.f
  obtain ⟨z, e, g⟩ := szStore_f hL hR hRo hF
  rw [e, b1_some]
  rcases g with g | ⟨g, _, _, fL, fR, fRo, fF⟩
  · rw [if_pos g]
  rw [if_neg g]
  have hll := @leakV_len L R Ro F
  have f1 : Fit KK (leakV L R Ro F) := .of (by omega)
  obtain ⟨k, x1, m1, m2, m3⟩ := markIntS_ex f1
  obtain ⟨k', y1, y2, y3, y4, n1, n2, n3⟩ := markStore_ex fL fR fRo fF
  simp only [toStore_f fL fR fRo fF, b4_some, spec_LeakedOf_eq (K := KK) (L := L) (R := R) (Ro := Ro) (F := F) (by decide), impl_LeakedOf_eq (K := KK) (L := L) (R := R) (Ro := Ro) (F := F) (by decide) fF.1 fF.mx2, b5_some, b2_some, b1_some, eqStore_s fL fR fRo fF, eqIntS_s f1, m1, m2, m3, n1, n2, n3, if_true, if_false]
theorem FnExactTargetOf : ∀ (a0_0 : List Int), a0_0.length ≤ 9223372036854775807 → (∀ x ∈ a0_0, I64 x) → ∀ (a0_1 : List Int), a0_1.length ≤ 9223372036854775807 → (∀ x ∈ a0_1, I64 x) → ∀ (a0_2 : List Int), a0_2.length ≤ 9223372036854775807 → (∀ x ∈ a0_2, I64 x) → ∀ (a0_3 : List Int), a0_3.length ≤ 9223372036854775807 → (∀ x ∈ a0_3, I64 x) → ∀ (a1_0 : Int), I64 a1_0 → ∀ (a1_1 : Int), I64 a1_1 → ∀ (a1_2 : Int), I64 a1_2 → ∃ K, laws_FnExactTargetOf.f K a0_0 a0_1 a0_2 a0_3 a1_0 a1_1 a1_2 = some true := by
  intro L hL _ R hR _ Ro hRo _ F hF _ k _ a _ b _
  refine ⟨KK, ?_⟩
  unfold laws_FnExactTargetOf.f
  obtain ⟨z, e, g⟩ := szStore_f hL hR hRo hF
  rw [e, b1_some]
  rcases g with g | ⟨g, _, _, fL, fR, fRo, fF⟩
  · rw [if_pos g]
  rw [if_neg g]
  simp only [toStore_f fL fR fRo fF, b4_some, toOp_eq, b3_some, spec_TargetOf_eq (K := KK) (L := L) (R := R) (Ro := Ro) (F := F) (k := k) (a := a) (b := b) (by decide), impl_TargetOf_eq (K := KK) (L := L) (R := R) (Ro := Ro) (F := F) (k := k) (a := a) (b := b) (by decide) fF.1 fF.mx2, b1_some, eqStore_s fL fR fRo fF, if_true]
theorem FnExactRunOp : ∀ (a0_0 : List Int), a0_0.length ≤ 9223372036854775807 → (∀ x ∈ a0_0, I64 x) → ∀ (a0_1 : List Int), a0_1.length ≤ 9223372036854775807 → (∀ x ∈ a0_1, I64 x) → ∀ (a0_2 : List Int), a0_2.length ≤ 9223372036854775807 → (∀ x ∈ a0_2, I64 x) → ∀ (a0_3 : List Int), a0_3.length ≤ 9223372036854775807 → (∀ x ∈ a0_3, I64 x) → ∀ (a1_0 : Int), I64 a1_0 → ∀ (a1_1 : Int), I64 a1_1 → ∀ (a1_2 : Int), I64 a1_2 → ∃ K, laws_FnExactRunOp.f K a0_0 a0_1 a0_2 a0_3 a1_0 a1_1 a1_2 = some true := by
  intro L hL _ R hR _ Ro hRo _ F hF _ k _ a _ b _
  refine ⟨KK, ?_⟩
  unfold laws_FnExactRunOp.f
  obtain ⟨z, e, g⟩ := szStore_f hL hR hRo hF
  rw [e, b1_some]
  rcases g with g | ⟨g, _, _, fL, fR, fRo, fF⟩
  · rw [if_pos g]
  rw [if_neg g]
  have hl := @runV_len L R Ro F k a b
  have l1 := fL.2; have l2 := fR.2; have l3 := fRo.2; have l4 := fF.2
  have f1 : Fit KK (runV L R Ro F k a b).1 := .of (by omega)
  have f2 : Fit KK (runV L R Ro F k a b).2.1 := .of (by omega)
  have f3 : Fit KK (runV L R Ro F k a b).2.2.1 := .of (by omega)
  have f4 : Fit KK (runV L R Ro F k a b).2.2.2.1 := .of (by omega)
  obtain ⟨k1, x1, x2, x3, x4, m1, m2, m3⟩ := markStore_ex f1 f2 f3 f4
  obtain ⟨k', y1, y2, y3, y4, n1, n2, n3⟩ := markStore_ex fL fR fRo fF
  simp only [toStore_f fL fR fRo fF, b4_some, toOp_eq, b3_some, spec_RunOp_eq (K := KK) (L := L) (R := R) (Ro := Ro) (F := F) (k := k) (a := a) (b := b) (by decide), impl_RunOp_eq (K := KK) (L := L) (R := R) (Ro := Ro) (F := F) (k := k) (a := a) (b := b) (by decide) fF.1 fF.mx2, b6_p, b5_some, b1_some, eqStore_s fL fR fRo fF, eqStore_s f1 f2 f3 f4, m1, m2, m3, n1, n2, n3, if_true, if_false]
end Go.Proofs.Ytigidjhdcplplaa.Pure
