/- Pure theorems of the text of an operation: FnExactFormatOp, FnExactParseOp. -/
import Derived.Test.YtnfaiojmabolmaaDoorQd
import Derived.Test.YtnfaiojmabolmaaDoorFl
namespace Go.Proofs.YtnfaiojmabolmaaDoor.T
open Go Go.RowKit Go.Proofs.YtnfaiojmabolmaaDoor.S Go.Proofs.YtnfaiojmabolmaaDoor.F
set_option linter.unusedVariables false
set_option linter.unusedSimpArgs false
/-- The text of an operation. -/
def tx (k a b : Int) : ByteArray := (spec_FormatOp.f KK k a b).getD ⟨#[]⟩
set_option maxRecDepth 100000 in
theorem fmt_all : ∀ k : Nat, k < 7 → ∀ a : Nat, a < 3 → ∀ b : Nat, b < 3 → spec_FormatOp.f KK ((k : Int) + 1) (a : Int) (b : Int) = some (tx ((k : Int) + 1) (a : Int) (b : Int)) ∧ impl_FormatOp.f KK ((k : Int) + 1) (a : Int) (b : Int) = some (tx ((k : Int) + 1) (a : Int) (b : Int)) := by decide +kernel
theorem fmt_both {k a b : Int} (hk : 1 ≤ k ∧ k ≤ 7) (ha : 0 ≤ a ∧ a ≤ 2) (hb : 0 ≤ b ∧ b ≤ 2) : spec_FormatOp.f KK k a b = some (tx k a b) ∧ impl_FormatOp.f KK k a b = some (tx k a b) := by
  have h := fmt_all (k - 1).toNat (by omega) a.toNat (by omega) b.toNat (by omega)
  rw [show (((k - 1).toNat : Nat) : Int) + 1 = k by omega, show ((a.toNat : Nat) : Int) = a by omega, show ((b.toNat : Nat) : Int) = b by omega] at h
  exact h
theorem spec_fmt {k a b : Int} (hk : 1 ≤ k ∧ k ≤ 7) (ha : 0 ≤ a ∧ a ≤ 2) (hb : 0 ≤ b ∧ b ≤ 2) : spec_FormatOp.f KK k a b = some (tx k a b) := (fmt_both hk ha hb).1
theorem impl_fmt {k a b : Int} (hk : 1 ≤ k ∧ k ≤ 7) (ha : 0 ≤ a ∧ a ≤ 2) (hb : 0 ≤ b ∧ b ≤ 2) : impl_FormatOp.f KK k a b = some (tx k a b) := (fmt_both hk ha hb).2
theorem fmt_no {k a b : Int} (h : ¬OpV k a b 3) : spec_FormatOp.f KK k a b = some ⟨#[]⟩ ∧ impl_FormatOp.f KK k a b = some ⟨#[]⟩ := by
  unfold spec_FormatOp.f impl_FormatOp.f
  rw [spec_OpValid_v, impl_OpValid_v, b1_some, b1_some, if_neg (by simpa using h), if_neg (by simpa using h)]
  exact ⟨rfl, rfl⟩
theorem OpV.rng {k a b : Int} (h : OpV k a b 3) : (1 ≤ k ∧ k ≤ 7) ∧ (0 ≤ a ∧ a ≤ 2) ∧ 0 ≤ b ∧ b ≤ 2 := by
  obtain ⟨h1, h2, h3, h4, h5, h6, h7, _⟩ := h
  omega
theorem fmt_same (k a b : Int) : ∃ t, spec_FormatOp.f KK k a b = some t ∧ impl_FormatOp.f KK k a b = some t := by
  by_cases h : OpV k a b 3
  · have r := h.rng
    exact ⟨_, fmt_both r.1 r.2.1 r.2.2⟩
  · exact ⟨_, fmt_no h⟩
/-! ### what is read -/
def pv2 (s : ByteArray) (z : Option (Int × Int × Int × Bool)) (k a : Int) : Option (Int × Int × Int × Bool) :=
  if s.toList = (⟨#[]⟩ : ByteArray).toList then z else if (tx k a 0).toList = s.toList then some (k, a, 0, true) else if (tx k a 1).toList = s.toList then some (k, a, 1, true) else if (tx k a 2).toList = s.toList then some (k, a, 2, true) else z
def pv1 (s : ByteArray) (z : Option (Int × Int × Int × Bool)) (k : Int) : Option (Int × Int × Int × Bool) := pv2 s (pv2 s (pv2 s z k 2) k 1) k 0
def pv0 (s : ByteArray) : Option (Int × Int × Int × Bool) := pv1 s (pv1 s (pv1 s (pv1 s (pv1 s (pv1 s (pv1 s (some (0, 0, 0, false)) 7) 6) 5) 4) 3) 2) 1
theorem pv2_ex {s : ByteArray} {z : Option (Int × Int × Int × Bool)} {k a : Int} (h : ∃ v, z = some v) : ∃ v, pv2 s z k a = some v := by
  obtain ⟨v, rfl⟩ := h
  unfold pv2
  split
  · exact ⟨_, rfl⟩
  · split
    · exact ⟨_, rfl⟩
    · split
      · exact ⟨_, rfl⟩
      · split
        · exact ⟨_, rfl⟩
        · exact ⟨_, rfl⟩
theorem pv1_ex {s : ByteArray} {z : Option (Int × Int × Int × Bool)} {k : Int} (h : ∃ v, z = some v) : ∃ v, pv1 s z k = some v := pv2_ex (pv2_ex (pv2_ex h))
theorem pv0_ex (s : ByteArray) : ∃ v, pv0 s = some v := pv1_ex (pv1_ex (pv1_ex (pv1_ex (pv1_ex (pv1_ex (pv1_ex ⟨_, rfl⟩))))))

section
variable {s : ByteArray} {κ : Unit → Option (Int × Int × Int × Bool)} {k : Int}
theorem spec_l2 {a : Int} (hk : 1 ≤ k ∧ k ≤ 7) (ha : 0 ≤ a ∧ a ≤ 2) : spec_ParseOp.loop2 KK κ s k a KK 0 = pv2 s (κ ()) k a := by
  have step : ∀ (m b : Nat), b < 3 → spec_ParseOp.loop2 KK κ s k a (m + 1) (b : Int) = if s.toList = (⟨#[]⟩ : ByteArray).toList then spec_ParseOp.loop2 KK κ s k a m ((b + 1 : Nat) : Int) else if (tx k a b).toList = s.toList then some (k, a, (b : Int), true) else spec_ParseOp.loop2 KK κ s k a m ((b + 1 : Nat) : Int) := by
    intro m b hb
    rw [spec_ParseOp.loop2, if_pos (by omega), spec_fmt hk ha (b := (b : Int)) (by omega), b1_some, w64 (x := (b : Int) + 1) (by omega) (by omega)]
    rfl
  have stop : ∀ m : Nat, spec_ParseOp.loop2 KK κ s k a (m + 1) ((3 : Nat) : Int) = κ () := by
    intro m
    rw [spec_ParseOp.loop2, if_neg (by omega)]
  show spec_ParseOp.loop2 KK κ s k a (1048573 + 1 + 1 + 1 + 1) ((0 : Nat) : Int) = _
  rw [step _ 0 (by omega), step _ 1 (by omega), step _ 2 (by omega), stop]
  unfold pv2
  by_cases c : s.toList = (⟨#[]⟩ : ByteArray).toList
  · rw [if_pos c, if_pos c, if_pos c, if_pos c]
  · rw [if_neg c, if_neg c, if_neg c, if_neg c]
    rfl
theorem spec_l1 (hk : 1 ≤ k ∧ k ≤ 7) : spec_ParseOp.loop1 KK κ s k KK 0 = pv1 s (κ ()) k := by
  have step : ∀ (m a : Nat), a < 3 → spec_ParseOp.loop1 KK κ s k (m + 1) (a : Int) = pv2 s (spec_ParseOp.loop1 KK κ s k m ((a + 1 : Nat) : Int)) k a := by
    intro m a ha
    rw [spec_ParseOp.loop1, if_pos (by omega), spec_l2 hk (by omega), w64 (x := (a : Int) + 1) (by omega) (by omega)]
    rfl
  have stop : ∀ m : Nat, spec_ParseOp.loop1 KK κ s k (m + 1) ((3 : Nat) : Int) = κ () := by
    intro m
    rw [spec_ParseOp.loop1, if_neg (by omega)]
  show spec_ParseOp.loop1 KK κ s k (1048573 + 1 + 1 + 1 + 1) ((0 : Nat) : Int) = _
  rw [step _ 0 (by omega), step _ 1 (by omega), step _ 2 (by omega), stop]
  rfl
theorem spec_l0 : spec_ParseOp.f KK s = pv0 s := by
  unfold spec_ParseOp.f
  have step : ∀ (m k : Nat), 1 ≤ k ∧ k ≤ 7 → spec_ParseOp.loop0 KK (fun _ => some ((0:Int), (0:Int), (0:Int), false)) s (m + 1) (k : Int) = pv1 s (spec_ParseOp.loop0 KK (fun _ => some ((0:Int), (0:Int), (0:Int), false)) s m ((k + 1 : Nat) : Int)) k := by
    intro m k hk
    rw [spec_ParseOp.loop0, if_pos (by omega), spec_l1 (by omega), w64 (x := (k : Int) + 1) (by omega) (by omega)]
    rfl
  have stop : ∀ m : Nat, spec_ParseOp.loop0 KK (fun _ => some ((0:Int), (0:Int), (0:Int), false)) s (m + 1) ((8 : Nat) : Int) = some ((0:Int), (0:Int), (0:Int), false) := by
    intro m
    rw [spec_ParseOp.loop0, if_neg (by omega)]
  show spec_ParseOp.loop0 KK (fun _ => some ((0:Int), (0:Int), (0:Int), false)) s (1048569 + 1 + 1 + 1 + 1 + 1 + 1 + 1 + 1) ((1 : Nat) : Int) = _
  rw [step _ 1 (by omega), step _ 2 (by omega), step _ 3 (by omega), step _ 4 (by omega), step _ 5 (by omega), step _ 6 (by omega), step _ 7 (by omega), stop]
  rfl
end

section
variable {s : ByteArray} {κ : Unit → Option (Int × Int × Int × Bool)} {k : Int}
theorem impl_l2 {a : Int} (hk : 1 ≤ k ∧ k ≤ 7) (ha : 0 ≤ a ∧ a ≤ 2) : impl_ParseOp.loop2 KK κ s k a KK 0 = pv2 s (κ ()) k a := by
  have step : ∀ (m b : Nat), b < 3 → impl_ParseOp.loop2 KK κ s k a (m + 1) (b : Int) = if s.toList = (⟨#[]⟩ : ByteArray).toList then impl_ParseOp.loop2 KK κ s k a m ((b + 1 : Nat) : Int) else if (tx k a b).toList = s.toList then some (k, a, (b : Int), true) else impl_ParseOp.loop2 KK κ s k a m ((b + 1 : Nat) : Int) := by
    intro m b hb
    rw [impl_ParseOp.loop2, if_pos (by omega), impl_fmt hk ha (b := (b : Int)) (by omega), b1_some, w64 (x := (b : Int) + 1) (by omega) (by omega)]
    rfl
  have stop : ∀ m : Nat, impl_ParseOp.loop2 KK κ s k a (m + 1) ((3 : Nat) : Int) = κ () := by
    intro m
    rw [impl_ParseOp.loop2, if_neg (by omega)]
  show impl_ParseOp.loop2 KK κ s k a (1048573 + 1 + 1 + 1 + 1) ((0 : Nat) : Int) = _
  rw [step _ 0 (by omega), step _ 1 (by omega), step _ 2 (by omega), stop]
  unfold pv2
  by_cases c : s.toList = (⟨#[]⟩ : ByteArray).toList
  · rw [if_pos c, if_pos c, if_pos c, if_pos c]
  · rw [if_neg c, if_neg c, if_neg c, if_neg c]
    rfl
theorem impl_l1 (hk : 1 ≤ k ∧ k ≤ 7) : impl_ParseOp.loop1 KK κ s k KK 0 = pv1 s (κ ()) k := by
  have step : ∀ (m a : Nat), a < 3 → impl_ParseOp.loop1 KK κ s k (m + 1) (a : Int) = pv2 s (impl_ParseOp.loop1 KK κ s k m ((a + 1 : Nat) : Int)) k a := by
    intro m a ha
    rw [impl_ParseOp.loop1, if_pos (by omega), impl_l2 hk (by omega), w64 (x := (a : Int) + 1) (by omega) (by omega)]
    rfl
  have stop : ∀ m : Nat, impl_ParseOp.loop1 KK κ s k (m + 1) ((3 : Nat) : Int) = κ () := by
    intro m
    rw [impl_ParseOp.loop1, if_neg (by omega)]
  show impl_ParseOp.loop1 KK κ s k (1048573 + 1 + 1 + 1 + 1) ((0 : Nat) : Int) = _
  rw [step _ 0 (by omega), step _ 1 (by omega), step _ 2 (by omega), stop]
  rfl
theorem impl_l0 : impl_ParseOp.f KK s = pv0 s := by
  unfold impl_ParseOp.f
  have step : ∀ (m k : Nat), 1 ≤ k ∧ k ≤ 7 → impl_ParseOp.loop0 KK (fun _ => some ((0:Int), (0:Int), (0:Int), false)) s (m + 1) (k : Int) = pv1 s (impl_ParseOp.loop0 KK (fun _ => some ((0:Int), (0:Int), (0:Int), false)) s m ((k + 1 : Nat) : Int)) k := by
    intro m k hk
    rw [impl_ParseOp.loop0, if_pos (by omega), impl_l1 (by omega), w64 (x := (k : Int) + 1) (by omega) (by omega)]
    rfl
  have stop : ∀ m : Nat, impl_ParseOp.loop0 KK (fun _ => some ((0:Int), (0:Int), (0:Int), false)) s (m + 1) ((8 : Nat) : Int) = some ((0:Int), (0:Int), (0:Int), false) := by
    intro m
    rw [impl_ParseOp.loop0, if_neg (by omega)]
  show impl_ParseOp.loop0 KK (fun _ => some ((0:Int), (0:Int), (0:Int), false)) s (1048569 + 1 + 1 + 1 + 1 + 1 + 1 + 1 + 1) ((1 : Nat) : Int) = _
  rw [step _ 1 (by omega), step _ 2 (by omega), step _ 3 (by omega), step _ 4 (by omega), step _ 5 (by omega), step _ 6 (by omega), step _ 7 (by omega), stop]
  rfl
end
end Go.Proofs.YtnfaiojmabolmaaDoor.T
namespace Go.Proofs.YtnfaiojmabolmaaDoor.Pure
open Go Go.RowKit Go.Proofs.YtnfaiojmabolmaaDoor.S Go.Proofs.YtnfaiojmabolmaaDoor.F Go.Proofs.YtnfaiojmabolmaaDoor.T
set_option linter.unusedVariables false
set_option linter.unusedSimpArgs false
theorem FnExactFormatOp : ∀ (a0_0 : Int), I64 a0_0 → ∀ (a0_1 : Int), I64 a0_1 → ∀ (a0_2 : Int), I64 a0_2 → ∃ K, laws_FnExactFormatOp.f K a0_0 a0_1 a0_2 = some true := by
  intro k _ a _ b _
  refine ⟨KK, ?_⟩
  unfold laws_FnExactFormatOp.f
  obtain ⟨t, e1, e2⟩ := fmt_same k a b
  rw [toOp_eq, b3_some, e1, b1_some, b3_some, e2, b1_some, if_pos rfl]
theorem FnExactParseOp : ∀ (a0 : ByteArray), a0.size ≤ maxLen → ∃ K, laws_FnExactParseOp.f K a0 = some true := by
  intro s _
  refine ⟨KK, ?_⟩
  unfold laws_FnExactParseOp.f
  by_cases big : (s.size : Int) > 1048576
  · rw [if_pos big]
  rw [if_neg big]
  obtain ⟨⟨k, a, b, ok⟩, e⟩ := pv0_ex s
  rw [spec_l0, impl_l0, e, b4_some, b4_some]
  unfold laws_eqOp.f
  rw [if_pos rfl, if_pos rfl, if_pos rfl, b1_some, if_pos rfl, if_pos rfl]
end Go.Proofs.YtnfaiojmabolmaaDoor.Pure
