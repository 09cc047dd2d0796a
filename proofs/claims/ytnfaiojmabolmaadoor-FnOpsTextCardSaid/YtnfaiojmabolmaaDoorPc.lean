/- Pure theorems of counted stores: sizes, copies, equality, and the law of equality. -/
import Derived.Test.YtnfaiojmabolmaaDoorPb
namespace Go.Proofs.YtnfaiojmabolmaaDoor.T
open Go Go.RowKit Go.Proofs.YtnfaiojmabolmaaDoor.S Go.Proofs.YtnfaiojmabolmaaDoor.F
set_option linter.unusedVariables false
set_option linter.unusedSimpArgs false
theorem szCounted_ex {K : Nat} {a b c d e : List Int} {left : Int} (h0 : 0 ≤ left) (h1 : left ≤ 1048576) (ha : a.length ≤ 9223372036854775807) (hb : b.length ≤ 9223372036854775807) (hc : c.length ≤ 9223372036854775807) (hd : d.length ≤ 9223372036854775807) (he : e.length ≤ 9223372036854775807) :
    ∃ r, laws_szCounted.f K a b c d e left = some r ∧ Lft left (a.length + b.length + c.length + d.length + e.length) r := by
  unfold laws_szCounted.f
  obtain ⟨r1, e1, g1⟩ := szStore_ex (K := K) h0 h1 ha hb hc hd
  rw [e1, b1_some]
  unfold Lft at *
  by_cases c1 : r1 < 0
  · rw [if_pos c1]; exact ⟨_, rfl, .inl (by omega)⟩
  obtain ⟨r2, e2, g2⟩ := szIntS_ex (K := K) (a := e) (left := r1) (by omega) (by omega) he
  rw [if_neg c1, e2, b1_some]
  unfold Lft at *
  by_cases c2 : r2 < 0
  · rw [if_pos c2]; exact ⟨_, rfl, .inl (by omega)⟩
  · rw [if_neg c2]; exact ⟨_, rfl, .inr (by omega)⟩
theorem toCounted_eq {K : Nat} {a b c d e : List Int} (ha : a.length < K) (hb : b.length < K) (hc : c.length < K) (hd : d.length < K) (he : e.length < K) (hK : K ≤ 1099511627776) : laws_toCounted.f K a b c d e = some (a, b, c, d, e) := by
  unfold laws_toCounted.f
  rw [toStore_eq ha hb hc hd hK, b4_some, toIntS_eq he (by omega), b1_some]
theorem spec_CountedSame_eq {K : Nat} {a b c d e a' b' c' d' e' : List Int} (ha : a.length < K) (hb : b.length < K) (hc : c.length < K) (hd : d.length < K) (he : e.length < K) (hK : K ≤ 1099511627776) : spec_CountedSame.f K a b c d e a' b' c' d' e' = some (decide (a = a' ∧ b = b' ∧ c = c' ∧ d = d' ∧ e = e')) := by
  unfold spec_CountedSame.f
  rw [spec_StoreSame_eq ha hb hc hd hK, l1Ints_eq he (by omega)]
  simp only [b1_some]
  repeat' split
  all_goals simp_all
theorem impl_CountedSame_eq {K : Nat} {a b c d e a' b' c' d' e' : List Int} (ha : a.length < K) (hb : b.length < K) (hc : c.length < K) (hd : d.length < K) (he : e.length < K) (hK : K ≤ 1099511627776) : impl_CountedSame.f K a b c d e a' b' c' d' e' = some (decide (a = a' ∧ b = b' ∧ c = c' ∧ d = d' ∧ e = e')) := by
  unfold impl_CountedSame.f
  rw [impl_StoreSame_eq ha hb hc hd hK, sEqual_eq he (by omega)]
  simp only [b1_some]
  repeat' split
  all_goals simp_all
theorem eqCounted_eq {K : Nat} {a b c d e a' b' c' d' e' : List Int} (ha : a.length < K) (hb : b.length < K) (hc : c.length < K) (hd : d.length < K) (he : e.length < K) (hK : K ≤ 1099511627776) : laws_eqCounted.f K a b c d e a' b' c' d' e' = some (decide (a = a' ∧ b = b' ∧ c = c' ∧ d = d' ∧ e = e')) := by
  unfold laws_eqCounted.f
  rw [eqStore_eq ha hb hc hd hK, eqIntS_eq he (by omega)]
  simp only [b1_some]
  repeat' split
  all_goals simp_all
end Go.Proofs.YtnfaiojmabolmaaDoor.T
namespace Go.Proofs.YtnfaiojmabolmaaDoor.Pure
open Go Go.RowKit Go.Proofs.YtnfaiojmabolmaaDoor.S Go.Proofs.YtnfaiojmabolmaaDoor.F Go.Proofs.YtnfaiojmabolmaaDoor.T
theorem FnExactCountedSame : ∀ (a0_0 : List Int), a0_0.length ≤ 9223372036854775807 → (∀ x ∈ a0_0, I64 x) → ∀ (a0_1 : List Int), a0_1.length ≤ 9223372036854775807 → (∀ x ∈ a0_1, I64 x) → ∀ (a0_2 : List Int), a0_2.length ≤ 9223372036854775807 → (∀ x ∈ a0_2, I64 x) → ∀ (a0_3 : List Int), a0_3.length ≤ 9223372036854775807 → (∀ x ∈ a0_3, I64 x) → ∀ (a0_4 : List Int), a0_4.length ≤ 9223372036854775807 → (∀ x ∈ a0_4, I64 x) → ∀ (a1_0 : List Int), a1_0.length ≤ 9223372036854775807 → (∀ x ∈ a1_0, I64 x) → ∀ (a1_1 : List Int), a1_1.length ≤ 9223372036854775807 → (∀ x ∈ a1_1, I64 x) → ∀ (a1_2 : List Int), a1_2.length ≤ 9223372036854775807 → (∀ x ∈ a1_2, I64 x) → ∀ (a1_3 : List Int), a1_3.length ≤ 9223372036854775807 → (∀ x ∈ a1_3, I64 x) → ∀ (a1_4 : List Int), a1_4.length ≤ 9223372036854775807 → (∀ x ∈ a1_4, I64 x) → ∃ K, laws_FnExactCountedSame.f K a0_0 a0_1 a0_2 a0_3 a0_4 a1_0 a1_1 a1_2 a1_3 a1_4 = some true := by
  intro a ha _ b hb _ c hc _ d hd _ e he _ a' ha' _ b' hb' _ c' hc' _ d' hd' _ e' he' _
  refine ⟨1048577, ?_⟩
  unfold laws_FnExactCountedSame.f
  obtain ⟨r1, e1, g1⟩ := szCounted_ex (K := 1048577) (left := 1048576) (by omega) (by omega) ha hb hc hd he
  rw [e1, b1_some]
  unfold Lft at *
  by_cases c1 : r1 < 0
  · rw [if_pos c1]
  obtain ⟨r2, e2, g2⟩ := szCounted_ex (K := 1048577) (left := r1) (by omega) (by omega) ha' hb' hc' hd' he'
  rw [if_neg c1, e2, b1_some]
  unfold Lft at *
  by_cases c2 : r2 < 0
  · rw [if_pos c2]
  have la : a.length < 1048577 := by omega
  have lb : b.length < 1048577 := by omega
  have lc : c.length < 1048577 := by omega
  have ld : d.length < 1048577 := by omega
  have le : e.length < 1048577 := by omega
  have la' : a'.length < 1048577 := by omega
  have lb' : b'.length < 1048577 := by omega
  have lc' : c'.length < 1048577 := by omega
  have ld' : d'.length < 1048577 := by omega
  have le' : e'.length < 1048577 := by omega
  rw [if_neg c2, toCounted_eq la lb lc ld le (by omega), toCounted_eq la' lb' lc' ld' le' (by omega)]
  simp only [b5_some]
  rw [spec_CountedSame_eq la lb lc ld le (by omega), impl_CountedSame_eq la lb lc ld le (by omega)]
  simp only [b1_some, if_true]
  rw [eqCounted_eq la lb lc ld le (by omega), eqCounted_eq la' lb' lc' ld' le' (by omega)]
  simp [b1_some]
end Go.Proofs.YtnfaiojmabolmaaDoor.Pure
