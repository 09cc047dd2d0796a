/- Pure theorems of operations: the program's test of an operation is the reference's. -/
import Derived.Test.YtnfaiojmabolmaaDoorTa
import Derived.Test.YtnfaiojmabolmaaDoorFa
namespace Go.Proofs.YtnfaiojmabolmaaDoor.T
open Go Go.RowKit Go.Proofs.YtnfaiojmabolmaaDoor.S Go.Proofs.YtnfaiojmabolmaaDoor.F
set_option linter.unusedVariables false
set_option linter.unusedSimpArgs false
theorem impl_OpValid_eq (K : Nat) (a b c r : Int) : impl_OpValid.f K a b c r = some (decide (1 ≤ a ∧ a ≤ 7 ∧ 0 ≤ b ∧ b < r ∧ b < 3 ∧ 0 ≤ c ∧ c < 3 ∧ (if a = 1 ∨ a = 7 then c = 0 else c < r))) := by
  unfold impl_OpValid.f
  repeat' split
  all_goals refine congrArg some (Bool.eq_iff_iff.2 ?_)
  all_goals simp only [decide_eq_true_eq, beq_iff_eq, Bool.false_eq_true, false_iff]
  all_goals omega
theorem word_mem {a : Int} (h1 : 1 ≤ a) (h7 : a ≤ 7) : a = 1 ∨ a = 2 ∨ a = 3 ∨ a = 4 ∨ a = 5 ∨ a = 6 ∨ a = 7 := by omega
theorem l5Word_none (K : Nat) {a : Int} (h : a < 1 ∨ 7 < a) : spec_l5Word.f K a = some ⟨#[]⟩ := by
  unfold spec_l5Word.f
  by_cases h1 : a < 1
  · rw [if_pos h1]
  · rw [if_neg h1, if_pos (by omega)]
theorem l5Word_some (K : Nat) {a : Int} (h1 : 1 ≤ a) (h7 : a ≤ 7) : ∃ s, spec_l5Word.f K a = some s ∧ s.data.toList ≠ [] := by
  unfold spec_l5Word.f
  rw [if_neg (by omega), if_neg (by omega), if_pos (by simp; omega)]
  refine ⟨_, rfl, ?_⟩
  rcases word_mem h1 h7 with rfl | rfl | rfl | rfl | rfl | rfl | rfl <;> simp [rds]
theorem spec_OpValid_eq (K : Nat) (a b c r : Int) : spec_OpValid.f K a b c r = some (decide (1 ≤ a ∧ a ≤ 7 ∧ 0 ≤ b ∧ b < r ∧ b < 3 ∧ 0 ≤ c ∧ c < 3 ∧ (if a = 1 ∨ a = 7 then c = 0 else c < r))) := by
  unfold spec_OpValid.f
  by_cases h : 1 ≤ a ∧ a ≤ 7
  · obtain ⟨s, hs, hne⟩ := l5Word_some K h.1 h.2
    rw [hs, b1_some, if_neg (by rw [toList_eq, toList_eq]; exact hne)]
    unfold spec_l5One.f
    by_cases h1 : a = 1
    · rw [if_pos h1]; simp only [b1_some, if_true]
      repeat' split
      all_goals refine congrArg some (Bool.eq_iff_iff.2 ?_)
      all_goals simp only [decide_eq_true_eq, beq_iff_eq, Bool.false_eq_true, false_iff]
      all_goals omega
    · rw [if_neg h1]; simp only [b1_some, beq_iff_eq]
      repeat' split
      all_goals refine congrArg some (Bool.eq_iff_iff.2 ?_)
      all_goals simp only [decide_eq_true_eq, beq_iff_eq, Bool.false_eq_true, false_iff]
      all_goals omega
  · rw [l5Word_none K (by omega), b1_some, if_pos rfl]
    simp only [Option.some.injEq]
    rw [eq_comm, decide_eq_false_iff_not]
    omega
theorem toOp_eq (K : Nat) (a b c : Int) : laws_toOp.f K a b c = some (a, b, c) := rfl
end Go.Proofs.YtnfaiojmabolmaaDoor.T
namespace Go.Proofs.YtnfaiojmabolmaaDoor.Pure
open Go Go.RowKit Go.Proofs.YtnfaiojmabolmaaDoor.S Go.Proofs.YtnfaiojmabolmaaDoor.F Go.Proofs.YtnfaiojmabolmaaDoor.T
theorem FnExactOpValid : ∀ (a0_0 : Int), I64 a0_0 → ∀ (a0_1 : Int), I64 a0_1 → ∀ (a0_2 : Int), I64 a0_2 → ∀ (a1 : Int), I64 a1 → ∃ K, laws_FnExactOpValid.f K a0_0 a0_1 a0_2 a1 = some true := by
  intro a _ b _ c _ r _
  refine ⟨0, ?_⟩
  unfold laws_FnExactOpValid.f
  rw [toOp_eq, b3_some, spec_OpValid_eq, b1_some, b3_some, impl_OpValid_eq, b1_some, if_pos rfl]
end Go.Proofs.YtnfaiojmabolmaaDoor.Pure
