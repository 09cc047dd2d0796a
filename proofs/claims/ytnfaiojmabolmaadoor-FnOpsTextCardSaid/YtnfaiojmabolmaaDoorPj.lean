/- Pure theorems of drawn operations: they never fail, and what they give lies in its bounds; FnOpValid's pure theorem. -/
import Derived.Test.YtnfaiojmabolmaaDoorPd
namespace Go.Proofs.YtnfaiojmabolmaaDoor.T
open Go Go.RowKit Go.Proofs.YtnfaiojmabolmaaDoor.S Go.Proofs.YtnfaiojmabolmaaDoor.F
set_option linter.unusedVariables false
set_option linter.unusedSimpArgs false
theorem Src.open {a : List Int} (hu : ∀ x ∈ a, U8 x) : Src (a.take 2000) 0 := ⟨by rw [List.length_take]; omega, fun x hx => hu x (List.mem_of_mem_take hx), by omega, by omega⟩
theorem l13Open_eq (K : Nat) (a : List Int) : spec_l13Open.f K a = some () := by
  unfold spec_l13Open.f
  split
  · rw [if_pos (by omega)]
  · rfl
theorem l5One_eq (K : Nat) (a : Int) : spec_l5One.f K a = some (decide (a = 1 ∨ a = 7)) := by
  unfold spec_l5One.f
  split
  · simp_all
  · rename_i h
    simp only [h, false_or]
    by_cases h7 : a = 7 <;> simp [h7]
/-- A valid operation for three roots, and what the drawing of one gives. -/
def OpOk (k a b : Int) : Prop := 1 ≤ k ∧ k ≤ 7 ∧ 0 ≤ a ∧ a < 3 ∧ 0 ≤ b ∧ b < 3 ∧ (k = 1 ∨ k = 7 → b = 0)
theorem l5Op_ex {K : Nat} {xs : List Int} {p : Int} (h : Src xs p) (hp : p ≤ 999999999990) : ∃ k a b, spec_l5Op.f K xs p = some (k, a, b, p + 3) ∧ OpOk k a b := by
  unfold spec_l5Op.f
  obtain ⟨k, e1, m1⟩ := num_ex (K := K) (l := [1, 5, 2, 3, 4, 6, 7, 1]) h (by simp) (by simp)
  rw [e1, b2_some]
  have h1 := h.next (by omega)
  obtain ⟨a, e2, m2⟩ := num_ex (K := K) (l := [0, 1, 0, 2]) h1 (by simp) (by simp)
  rw [e2, b2_some]
  have h2 := h1.next (by omega)
  obtain ⟨b, e3, m3⟩ := num_ex (K := K) (l := [0, 1, 1, 2]) h2 (by simp) (by simp)
  rw [e3, b2_some, l5One_eq, b1_some]
  simp only [List.mem_cons, List.not_mem_nil, or_false] at m1 m2 m3
  have e : p + 1 + 1 + 1 = p + 3 := by omega
  rw [e]
  split
  · exact ⟨k, a, 0, rfl, by unfold OpOk; omega⟩
  · rename_i hne
    refine ⟨k, a, b, rfl, ?_⟩
    simp only [decide_eq_true_eq] at hne
    unfold OpOk; omega
theorem DrawOpValid_ex {K : Nat} {a : List Int} (hu : ∀ x ∈ a, U8 x) : ∃ k x y r, spec_DrawOpValid.f K a = some (k, x, y, r) ∧ 0 ≤ r ∧ r ≤ 5 := by
  have h := Src.open hu
  unfold spec_DrawOpValid.f
  rw [l13Open_eq, b1_some]
  obtain ⟨k, x, y, e1, _⟩ := l5Op_ex (K := K) h (by omega)
  rw [e1, b4_some]
  have h3 : Src (a.take 2000) (0 + 3) := ⟨h.1, h.2.1, by omega, by omega⟩
  obtain ⟨v, e2, _⟩ := pick_ex (K := K) (n := 6) h3 (by omega)
  rw [e2, b2_some]
  have h4 := h3.next (by omega)
  have h5 := h4.next (by omega)
  have fin : ∀ {p : Int}, Src (a.take 2000) p → ∃ r, spec_l13Rd_num.f K (a.take 2000) p [2, 3, 1, 0, 5] = some (r, p + 1) ∧ 0 ≤ r ∧ r ≤ 5 := by
    intro p hp
    obtain ⟨r, e, m⟩ := num_ex (K := K) (l := [2, 3, 1, 0, 5]) hp (by simp) (by simp)
    simp only [List.mem_cons, List.not_mem_nil, or_false] at m
    exact ⟨r, e, by omega⟩
  split
  · obtain ⟨q, e3, _⟩ := num_ex (K := K) (l := [0, 8, 1]) h4 (by simp) (by simp)
    rw [e3, b2_some]
    obtain ⟨r, e4, hr⟩ := fin h5
    rw [e4, b2_some]
    exact ⟨_, _, _, _, rfl, hr⟩
  · split
    · obtain ⟨q, e3, _⟩ := num_ex (K := K) (l := [-1, 3]) h4 (by simp) (by simp)
      rw [e3, b2_some]
      obtain ⟨r, e4, hr⟩ := fin h5
      rw [e4, b2_some]
      exact ⟨_, _, _, _, rfl, hr⟩
    · split
      · obtain ⟨q, e3, _⟩ := num_ex (K := K) (l := [-1, 3, 1]) h4 (by simp) (by simp)
        rw [e3, b2_some]
        obtain ⟨r, e4, hr⟩ := fin h5
        rw [e4, b2_some]
        exact ⟨_, _, _, _, rfl, hr⟩
      · obtain ⟨r, e4, hr⟩ := fin h4
        rw [e4, b2_some]
        exact ⟨_, _, _, _, rfl, hr⟩
end Go.Proofs.YtnfaiojmabolmaaDoor.T
namespace Go.Proofs.YtnfaiojmabolmaaDoor.Pure
open Go Go.RowKit Go.Proofs.YtnfaiojmabolmaaDoor.S Go.Proofs.YtnfaiojmabolmaaDoor.F Go.Proofs.YtnfaiojmabolmaaDoor.T
theorem FnOpValid : ∀ (a0 : List Int), a0.length ≤ 9223372036854775807 → (∀ x ∈ a0, U8 x) → ∃ K, laws_FnOpValid.f K a0 = some true := by
  intro a _ hu
  refine ⟨0, ?_⟩
  unfold laws_FnOpValid.f
  split
  · rfl
  obtain ⟨k, x, y, r, e, h0, h5⟩ := DrawOpValid_ex (K := 0) hu
  rw [e, b4_some]
  simp only [impl_OpValid_eq, spec_OpValid_eq, b1_some, if_true, decide_eq_true_eq]
  rw [w64 (by omega) (by omega)]
  repeat' split
  all_goals first | rfl | exact congrArg some (decide_eq_true (by omega)) | omega
end Go.Proofs.YtnfaiojmabolmaaDoor.Pure
