/- Pure theorem: FnOpsText. -/
import Derived.Test.YtnfaiojmabolmaaDoorRh
namespace Go.Proofs.YtnfaiojmabolmaaDoor.T
open Go Go.RowKit Go.Proofs.YtnfaiojmabolmaaDoor.S Go.Proofs.YtnfaiojmabolmaaDoor.F
set_option linter.unusedVariables false
set_option linter.unusedSimpArgs false
theorem of_exK {K : Nat} {xs : List Int} {p : Int} {l : List ByteArray} (h : Src xs p) (h1 : 1 ≤ l.length) (h2 : l.length ≤ 1000) (hl : ∀ x ∈ l, x.size ≤ 1) : ∃ t, spec_l13Rd_of.f K xs p l = some (t, p + 1) ∧ t.size ≤ 1 := by
  unfold spec_l13Rd_of.f
  obtain ⟨v, e, v0, v1, _⟩ := pick_ex (K := K) (n := (l.length : Int)) h (by omega)
  have v4 := v1 (by omega)
  rw [e, b2_some, if_pos ⟨v0, v4⟩]
  refine ⟨_, rfl, ?_⟩
  have hv : v.toNat < l.length := by omega
  have e2 : rds l v = l[v.toNat] := by
    have := rds_get hv
    rwa [show ((v.toNat : Nat) : Int) = v by omega] at this
  rw [e2]
  exact hl _ (List.getElem_mem hv)
theorem DrawParseOps_ex {K : Nat} (hK : 20 ≤ K) {a : List Int} (hu : ∀ x ∈ a, U8 x) : ∃ t, spec_DrawParseOps.f K a = some t ∧ t.size ≤ 2000 := by
  have h := Src.open hu
  unfold spec_DrawParseOps.f
  rw [l13Open_eq, b1_some]
  obtain ⟨o, p, e1, ho, p0, p1⟩ := l5Ops_at hK h (by omega)
  rw [e1, b2_some, specFO hK, b1_some]
  have sz : (if opsV o 3 then jt o else (⟨#[]⟩ : ByteArray)).size ≤ 504 := by
    by_cases v : opsV o 3
    · rw [if_pos v]; exact jt_size (opsV_iff.1 v)
    · rw [if_neg v]; decide
  generalize (if opsV o 3 then jt o else (⟨#[]⟩ : ByteArray)) = t at sz
  by_cases c0 : (t.size : Int) = 0
  · rw [if_pos c0]; exact ⟨_, rfl, by omega⟩
  rw [if_neg c0]
  obtain ⟨v, e2, _⟩ := pick_ex (K := K) (n := 2) (h.at (p' := p) (by omega) (by omega)) (by omega)
  rw [e2, b2_some]
  by_cases c : v = 0
  · rw [if_pos c]; exact ⟨_, rfl, by omega⟩
  rw [if_neg c]
  obtain ⟨u, e3, u0, u1, _⟩ := pick_ex (K := K) (n := (t.size : Int)) (h.at (p' := p + 1) (by omega) (by omega)) (by omega)
  have u2 := u1 (by omega)
  obtain ⟨w, e4, hw⟩ := of_exK (K := K) (l := [⟨#[]⟩, ⟨#[32]⟩, ⟨#[44]⟩, ⟨#[48]⟩]) (h.at (p' := p + 1 + 1) (by omega) (by omega)) (by simp) (by simp) (by
    intro x hx
    simp only [List.mem_cons, List.not_mem_nil, or_false] at hx
    rcases hx with e | e | e | e <;> subst e <;> decide)
  obtain ⟨q, e5, q0, q1, _⟩ := pick_ex (K := K) (n := 2) (h.at (p' := p + 1 + 1 + 1) (by omega) (by omega)) (by omega)
  have q2 := q1 (by omega)
  have s1 : (t.extract 0 u.toNat).size ≤ 504 := by rw [ByteArray.size_extract]; omega
  have s2 : ∀ i : Nat, (t.extract i t.size).size ≤ 504 := fun i => by rw [ByteArray.size_extract]; omega
  have s3 : (t.extract 0 u.toNat ++ w).size ≤ 505 := by rw [ByteArray.size_append]; omega
  have s4 := s2 (wrap64 (u + q)).toNat
  rw [e3, b2_some, if_pos (by omega), e4, b2_some, if_pos (by omega), e5, b2_some, if_pos (by rw [w64 (x := u + q) (by omega) (by omega)]; omega), if_pos (by omega)]
  exact ⟨_, rfl, by rw [ByteArray.size_append]; omega⟩
theorem cc_self {K : Nat} (hK : 20 ≤ K) {o : Ops} (h : o.length ≤ 12) : laws_ccOps.f K o o = some true := (ccOps_eq (by omega) (by omega)).trans (congrArg some (decide_eq_true rfl))
theorem text2 {K : Nat} (hK : 1048600 ≤ K) {a : List Int} (hu : ∀ x ∈ a, U8 x) : (b1 (spec_DrawParseOps.f K a) fun v4 => b2 (impl_ParseOps.f K v4) fun v5 v6 => b2 (spec_ParseOps.f K v4) fun v7 v8 => b1 (laws_ccOps.f K v5 v7) fun v9 => if v9 = true then if v6 = v8 then if v6 = true then b1 (impl_FormatOps.f K v5) fun v10 => some (v10.toList == v4.toList) else some true else some false else some false) = some true := by
  obtain ⟨t, e, ht⟩ := DrawParseOps_ex (K := K) (by omega) hu
  obtain ⟨o, ok, ho, e1, e2, hr⟩ := reads (K := K) (s := t) (by omega) hK
  rw [e, b1_some, e2, b2_some, e1, b2_some, cc_self (by omega) ho, b1_some, if_pos rfl, if_pos rfl]
  by_cases c : ok = true
  · obtain ⟨v, g⟩ := hr c
    rw [if_pos c, implFO (by omega) (by omega), b1_some, if_pos (opsV_iff.2 v), ← g]
    simp
  · rw [if_neg c]
end Go.Proofs.YtnfaiojmabolmaaDoor.T
namespace Go.Proofs.YtnfaiojmabolmaaDoor.Pure
open Go Go.RowKit Go.Proofs.YtnfaiojmabolmaaDoor.S Go.Proofs.YtnfaiojmabolmaaDoor.F Go.Proofs.YtnfaiojmabolmaaDoor.T
set_option linter.unusedVariables false
set_option linter.unusedSimpArgs false
theorem FnOpsText : ∀ (a0 : List Int), a0.length ≤ 9223372036854775807 → (∀ x ∈ a0, U8 x) → ∀ (a1 : List Int), a1.length ≤ 9223372036854775807 → (∀ x ∈ a1, U8 x) → ∃ K, laws_FnOpsText.f K a0 a1 = some true := by
  intro a _ hu a' _ hu'
  refine ⟨1048600, ?_⟩
  unfold laws_FnOpsText.f
  by_cases big : (a.length : Int) > 1048576
  · rw [if_pos big]
  rw [if_neg big]
  by_cases big2 : (a'.length : Int) > 1048576
  · rw [if_pos big2]
  rw [if_neg big2]
  obtain ⟨o, e, ho⟩ := DrawFormatOps_ex (K := 1048600) (by omega) hu
  rw [e, b1_some, implFO (by omega) (by omega), b1_some, specFO (by omega), b1_some, if_pos rfl]
  by_cases v : opsV o 3
  rotate_left
  · rw [if_neg v, if_pos rfl]
    exact text2 (by omega) hu'
  rw [if_pos v]
  have hv := opsV_iff.1 v
  by_cases ne : o = []
  · subst ne
    rw [if_pos (by rfl)]
    exact text2 (by omega) hu'
  · rw [if_neg (jt_ne ne hv.2), impl_back (by omega) ne hv, b2_some, if_pos rfl, cc_self (by omega) hv.1, b1_some, if_pos rfl]
    exact text2 (by omega) hu'
end Go.Proofs.YtnfaiojmabolmaaDoor.Pure
