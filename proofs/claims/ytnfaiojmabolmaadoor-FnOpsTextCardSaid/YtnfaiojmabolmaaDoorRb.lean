/- Pure theorem of FnOpText: operations are read back from their texts. -/
import Derived.Test.YtnfaiojmabolmaaDoorRa
namespace Go.Proofs.YtnfaiojmabolmaaDoor.T
open Go Go.RowKit Go.Proofs.YtnfaiojmabolmaaDoor.S Go.Proofs.YtnfaiojmabolmaaDoor.F
set_option linter.unusedVariables false
set_option linter.unusedSimpArgs false
theorem toList_inj {a b : ByteArray} (h : a.toList = b.toList) : a = b := by
  rw [toList_eq, toList_eq] at h
  exact ByteArray.ext (Array.ext' h)
def txOk (k a b k' a' b' : Nat) : Bool := !(decide (OpV ((k : Int) + 1) a b 3)) || !(decide (tx ((k' : Int) + 1) a' b' = tx ((k : Int) + 1) a b)) || (k' == k && a' == a && b' == b)
set_option maxRecDepth 100000 in
theorem tx_all : ∀ k : Nat, k < 7 → ∀ a : Nat, a < 3 → ∀ b : Nat, b < 3 → ∀ k' : Nat, k' < 7 → ∀ a' : Nat, a' < 3 → ∀ b' : Nat, b' < 3 → txOk k a b k' a' b' = true := by decide +kernel
set_option maxRecDepth 100000 in
theorem tx_some : ∀ k : Nat, k < 7 → ∀ a : Nat, a < 3 → ∀ b : Nat, b < 3 → (!(decide (OpV ((k : Int) + 1) a b 3)) || decide (1 ≤ (tx ((k : Int) + 1) a b).size ∧ (tx ((k : Int) + 1) a b).size ≤ 40)) = true := by decide +kernel
theorem tx_inj {k a b k' a' b' : Int} (h : OpV k a b 3) (hk : 1 ≤ k' ∧ k' ≤ 7) (ha : 0 ≤ a' ∧ a' ≤ 2) (hb : 0 ≤ b' ∧ b' ≤ 2) (e : tx k' a' b' = tx k a b) : k' = k ∧ a' = a ∧ b' = b := by
  obtain ⟨r1, r2, r3⟩ := h.rng
  have t := tx_all (k - 1).toNat (by omega) a.toNat (by omega) b.toNat (by omega) (k' - 1).toNat (by omega) a'.toNat (by omega) b'.toNat (by omega)
  unfold txOk at t
  rw [show (((k - 1).toNat : Nat) : Int) + 1 = k by omega, show ((a.toNat : Nat) : Int) = a by omega, show ((b.toNat : Nat) : Int) = b by omega, show (((k' - 1).toNat : Nat) : Int) + 1 = k' by omega, show ((a'.toNat : Nat) : Int) = a' by omega, show ((b'.toNat : Nat) : Int) = b' by omega, decide_eq_true h, decide_eq_true e] at t
  simp only [Bool.not_true, Bool.false_or, Bool.and_eq_true, beq_iff_eq] at t
  omega
theorem tx_size {k a b : Int} (h : OpV k a b 3) : 1 ≤ (tx k a b).size ∧ (tx k a b).size ≤ 40 := by
  obtain ⟨r1, r2, r3⟩ := h.rng
  have t := tx_some (k - 1).toNat (by omega) a.toNat (by omega) b.toNat (by omega)
  rw [show (((k - 1).toNat : Nat) : Int) + 1 = k by omega, show ((a.toNat : Nat) : Int) = a by omega, show ((b.toNat : Nat) : Int) = b by omega, decide_eq_true h] at t
  simpa using t
theorem tx_ne {k a b : Int} (h : OpV k a b 3) : ¬(tx k a b).toList = (⟨#[]⟩ : ByteArray).toList := fun e => by
  have h1 := (tx_size h).1
  rw [toList_inj e] at h1
  exact absurd h1 (by decide)
section
variable {k0 a0 b0 : Int} {z : Option (Int × Int × Int × Bool)}
theorem pv2_tx (h : OpV k0 a0 b0 3) {k a : Int} (hk : 1 ≤ k ∧ k ≤ 7) (ha : 0 ≤ a ∧ a ≤ 2) : pv2 (tx k0 a0 b0) z k a = if k = k0 ∧ a = a0 then some (k0, a0, b0, true) else z := by
  have hit : ∀ b : Int, 0 ≤ b ∧ b ≤ 2 → ((tx k a b).toList = (tx k0 a0 b0).toList ↔ (k = k0 ∧ a = a0) ∧ b = b0) := fun b hb =>
    ⟨fun e => by have := tx_inj h hk ha hb (toList_inj e); exact ⟨⟨this.1, this.2.1⟩, this.2.2⟩, fun e => by rw [e.1.1, e.1.2, e.2]⟩
  have r3 := h.rng.2.2
  unfold pv2
  rw [if_neg (tx_ne h)]
  by_cases c : k = k0 ∧ a = a0
  · rw [if_pos c]
    rcases (show b0 = 0 ∨ b0 = 1 ∨ b0 = 2 by omega) with e | e | e
    · rw [if_pos ((hit 0 (by omega)).2 ⟨c, e.symm⟩), c.1, c.2, e]
    · rw [if_neg (fun g => by have := (hit 0 (by omega)).1 g; omega), if_pos ((hit 1 (by omega)).2 ⟨c, e.symm⟩), c.1, c.2, e]
    · rw [if_neg (fun g => by have := (hit 0 (by omega)).1 g; omega), if_neg (fun g => by have := (hit 1 (by omega)).1 g; omega), if_pos ((hit 2 (by omega)).2 ⟨c, e.symm⟩), c.1, c.2, e]
  · rw [if_neg c, if_neg (fun g => c ((hit 0 (by omega)).1 g).1), if_neg (fun g => c ((hit 1 (by omega)).1 g).1), if_neg (fun g => c ((hit 2 (by omega)).1 g).1)]
theorem pv1_tx (h : OpV k0 a0 b0 3) {k : Int} (hk : 1 ≤ k ∧ k ≤ 7) : pv1 (tx k0 a0 b0) z k = if k = k0 then some (k0, a0, b0, true) else z := by
  have r2 := h.rng.2.1
  unfold pv1
  rw [pv2_tx h hk (by omega), pv2_tx h hk (by omega), pv2_tx h hk (by omega)]
  by_cases c : k = k0
  · rw [if_pos c]
    rcases (show a0 = 0 ∨ a0 = 1 ∨ a0 = 2 by omega) with e | e | e
    · rw [if_pos ⟨c, e.symm⟩]
    · rw [if_neg (by omega), if_pos ⟨c, e.symm⟩]
    · rw [if_neg (by omega), if_neg (by omega), if_pos ⟨c, e.symm⟩]
  · rw [if_neg c, if_neg (fun g => c g.1), if_neg (fun g => c g.1), if_neg (fun g => c g.1)]
theorem pv0_tx (h : OpV k0 a0 b0 3) : pv0 (tx k0 a0 b0) = some (k0, a0, b0, true) := by
  have r1 := h.rng.1
  unfold pv0
  rw [pv1_tx h (by omega), pv1_tx h (by omega), pv1_tx h (by omega), pv1_tx h (by omega), pv1_tx h (by omega), pv1_tx h (by omega), pv1_tx h (by omega)]
  rcases (show k0 = 1 ∨ k0 = 2 ∨ k0 = 3 ∨ k0 = 4 ∨ k0 = 5 ∨ k0 = 6 ∨ k0 = 7 by omega) with e | e | e | e | e | e | e <;> subst e <;> rfl
end
/-- What was read has that text. -/
def Sd (s : ByteArray) (v : Int × Int × Int × Bool) : Prop := v.2.2.2 = true → ((1 ≤ v.1 ∧ v.1 ≤ 7) ∧ (0 ≤ v.2.1 ∧ v.2.1 ≤ 2) ∧ 0 ≤ v.2.2.1 ∧ v.2.2.1 ≤ 2) ∧ (tx v.1 v.2.1 v.2.2.1).toList = s.toList
theorem pv2_says {s : ByteArray} {z : Option (Int × Int × Int × Bool)} {k a : Int} (hk : 1 ≤ k ∧ k ≤ 7) (ha : 0 ≤ a ∧ a ≤ 2) (hz : ∀ v, z = some v → Sd s v) : ∀ v, pv2 s z k a = some v → Sd s v := by
  intro v h
  unfold pv2 at h
  split at h
  · exact hz v h
  · split at h
    · rename_i c; cases h; exact fun _ => ⟨⟨hk, ha, by show (0 : Int) ≤ 0; omega, by show (0 : Int) ≤ 2; omega⟩, c⟩
    · split at h
      · rename_i c; cases h; exact fun _ => ⟨⟨hk, ha, by show (0 : Int) ≤ 1; omega, by show (1 : Int) ≤ 2; omega⟩, c⟩
      · split at h
        · rename_i c; cases h; exact fun _ => ⟨⟨hk, ha, by show (0 : Int) ≤ 2; omega, by show (2 : Int) ≤ 2; omega⟩, c⟩
        · exact hz v h
theorem pv1_says {s : ByteArray} {z : Option (Int × Int × Int × Bool)} {k : Int} (hk : 1 ≤ k ∧ k ≤ 7) (hz : ∀ v, z = some v → Sd s v) : ∀ v, pv1 s z k = some v → Sd s v :=
  pv2_says hk (by omega) (pv2_says hk (by omega) (pv2_says hk (by omega) hz))
theorem pv0_says (s : ByteArray) : ∀ v, pv0 s = some v → Sd s v :=
  pv1_says (by omega) (pv1_says (by omega) (pv1_says (by omega) (pv1_says (by omega) (pv1_says (by omega) (pv1_says (by omega) (pv1_says (by omega) fun v h => by cases h; intro g; cases g))))))
theorem pv0_empty : pv0 ⟨#[]⟩ = some (0, 0, 0, false) := by
  have h : ∀ z k a, pv2 ⟨#[]⟩ z k a = z := fun z k a => by unfold pv2; rw [if_pos rfl]
  unfold pv0 pv1
  simp only [h]
/-! ### draws -/
theorem OpOk.v {k a b : Int} (h : OpOk k a b) : OpV k a b 3 := by
  obtain ⟨h1, h2, h3, h4, h5, h6, h7⟩ := h
  refine ⟨h1, h2, h3, h4, h4, h5, h6, ?_⟩
  by_cases c : k = 1 ∨ k = 7
  · rw [if_pos c]; exact h7 c
  · rw [if_neg c]; exact h6
theorem DrawFormatOp_ex {a : List Int} (hu : ∀ x ∈ a, U8 x) : ∃ k x y, spec_DrawFormatOp.f KK a = some (k, x, y) := by
  have h := Src.open hu
  unfold spec_DrawFormatOp.f spec_DrawOpValid.f
  rw [l13Open_eq, b1_some]
  obtain ⟨k, x, y, e1, _⟩ := l5Op_ex (K := KK) h (by omega)
  obtain ⟨v, e2, _⟩ := pick_ex (K := KK) (n := 6) (h.at (p' := 0 + 3) (by omega) (by omega)) (by omega)
  have h4 := h.at (p' := 0 + 3 + 1) (by omega) (by omega)
  rw [e1, b4_some, e2, b2_some]
  have last := fun (p : Int) (h0 : 0 ≤ p) (h1 : p ≤ 100) => num_ex (K := KK) (l := [2, 3, 1, 0, 5]) (h.at (p' := p) h0 (by omega)) (by simp) (by simp)
  split
  · obtain ⟨u, e3, _⟩ := num_ex (K := KK) (l := [0, 8, 1]) h4 (by simp) (by simp)
    obtain ⟨w, e4, _⟩ := last (0 + 3 + 1 + 1) (by omega) (by omega)
    rw [e3, b2_some, e4, b2_some, b4_some]; exact ⟨_, _, _, rfl⟩
  · split
    · obtain ⟨u, e3, _⟩ := num_ex (K := KK) (l := [-1, 3]) h4 (by simp) (by simp)
      obtain ⟨w, e4, _⟩ := last (0 + 3 + 1 + 1) (by omega) (by omega)
      rw [e3, b2_some, e4, b2_some, b4_some]; exact ⟨_, _, _, rfl⟩
    · split
      · obtain ⟨u, e3, _⟩ := num_ex (K := KK) (l := [-1, 3, 1]) h4 (by simp) (by simp)
        obtain ⟨w, e4, _⟩ := last (0 + 3 + 1 + 1) (by omega) (by omega)
        rw [e3, b2_some, e4, b2_some, b4_some]; exact ⟨_, _, _, rfl⟩
      · obtain ⟨w, e4, _⟩ := last (0 + 3 + 1) (by omega) (by omega)
        rw [e4, b2_some, b4_some]; exact ⟨_, _, _, rfl⟩
theorem of_ex {xs : List Int} {p : Int} (h : Src xs p) : ∃ t, spec_l13Rd_of.f KK xs p [⟨#[]⟩, ⟨#[32]⟩, ⟨#[51]⟩, ⟨#[110]⟩] = some (t, p + 1) ∧ t.size ≤ 1 := by
  unfold spec_l13Rd_of.f
  obtain ⟨v, e, v0, v1, _⟩ := pick_ex (K := KK) (n := ((([⟨#[]⟩, ⟨#[32]⟩, ⟨#[51]⟩, ⟨#[110]⟩] : List ByteArray).length : Nat) : Int)) h (by decide)
  have v4 : v < 4 := v1 (by decide)
  rw [e, b2_some, if_pos ⟨v0, v4⟩]
  refine ⟨_, rfl, ?_⟩
  rcases (show v = 0 ∨ v = 1 ∨ v = 2 ∨ v = 3 by omega) with g | g | g | g <;> subst g <;> decide
theorem DrawParseOp_ex {a : List Int} (hu : ∀ x ∈ a, U8 x) : ∃ t, spec_DrawParseOp.f KK a = some t := by
  have h := Src.open hu
  unfold spec_DrawParseOp.f
  rw [l13Open_eq, b1_some]
  obtain ⟨k, x, y, e1, ok⟩ := l5Op_ex (K := KK) h (by omega)
  have hv := ok.v
  obtain ⟨r1, r2, r3⟩ := hv.rng
  have sz := tx_size hv
  rw [e1, b4_some, spec_fmt r1 r2 r3, b1_some]
  obtain ⟨v, e2, _⟩ := pick_ex (K := KK) (n := 2) (h.at (p' := 0 + 3) (by omega) (by omega)) (by omega)
  rw [e2, b2_some]
  generalize tx k x y = t at sz
  by_cases c : v = 0
  · rw [if_pos c]; exact ⟨_, rfl⟩
  rw [if_neg c]
  obtain ⟨u, e3, u0, u1, _⟩ := pick_ex (K := KK) (n := (t.size : Int)) (h.at (p' := 0 + 3 + 1) (by omega) (by omega)) (by omega)
  have u2 := u1 (by omega)
  obtain ⟨w, e4, hw⟩ := of_ex (h.at (p' := 0 + 3 + 1 + 1) (by omega) (by omega))
  obtain ⟨q, e5, q0, q1, _⟩ := pick_ex (K := KK) (n := 2) (h.at (p' := 0 + 3 + 1 + 1 + 1) (by omega) (by omega)) (by omega)
  have q2 := q1 (by omega)
  have s1 : (t.extract 0 u.toNat).size ≤ 40 := by rw [ByteArray.size_extract]; omega
  have s2 : ∀ i : Nat, (t.extract i t.size).size ≤ 40 := fun i => by rw [ByteArray.size_extract]; omega
  have s3 : (t.extract 0 u.toNat ++ w).size ≤ 41 := by rw [ByteArray.size_append]; omega
  have s4 := s2 (wrap64 (u + q)).toNat
  rw [e3, b2_some, if_pos (by omega), e4, b2_some, if_pos (by omega), e5, b2_some, if_pos (by rw [w64 (x := u + q) (by omega) (by omega)]; omega), if_pos (by omega)]
  exact ⟨_, rfl⟩
theorem part2 {a : List Int} (hu : ∀ x ∈ a, U8 x) : (b1 (spec_DrawParseOp.f KK a) fun v11 => b4 (impl_ParseOp.f KK v11) fun v12 v13 v14 v15 => b4 (spec_ParseOp.f KK v11) fun v16 v17 v18 v19 => if v12 = v16 ∧ v13 = v17 ∧ v14 = v18 then if v15 = v19 then if v15 = true then b1 (impl_FormatOp.f KK v12 v13 v14) fun v20 => some (v20.toList == v11.toList) else some true else some false else some false) = some true := by
  obtain ⟨t, e⟩ := DrawParseOp_ex hu
  obtain ⟨⟨k, x, y, ok⟩, e2⟩ := pv0_ex t
  have hs := pv0_says t _ e2
  rw [e, b1_some, impl_l0, spec_l0, e2, b4_some, b4_some, if_pos ⟨rfl, rfl, rfl⟩, if_pos rfl]
  by_cases c : ok = true
  · obtain ⟨⟨r1, r2, r3⟩, g⟩ := hs c
    rw [if_pos c, impl_fmt r1 r2 r3, b1_some, g]; simp
  · rw [if_neg c]
end Go.Proofs.YtnfaiojmabolmaaDoor.T
namespace Go.Proofs.YtnfaiojmabolmaaDoor.Pure
open Go Go.RowKit Go.Proofs.YtnfaiojmabolmaaDoor.S Go.Proofs.YtnfaiojmabolmaaDoor.F Go.Proofs.YtnfaiojmabolmaaDoor.T
set_option linter.unusedVariables false
set_option linter.unusedSimpArgs false
theorem FnOpText : ∀ (a0 : List Int), a0.length ≤ 9223372036854775807 → (∀ x ∈ a0, U8 x) → ∀ (a1 : List Int), a1.length ≤ 9223372036854775807 → (∀ x ∈ a1, U8 x) → ∃ K, laws_FnOpText.f K a0 a1 = some true := by
  intro a _ hu a' _ hu'
  refine ⟨KK, ?_⟩
  unfold laws_FnOpText.f
  by_cases big : (a.length : Int) > 1048576
  · rw [if_pos big]
  rw [if_neg big]
  by_cases big2 : (a'.length : Int) > 1048576
  · rw [if_pos big2]
  rw [if_neg big2]
  obtain ⟨k, x, y, e⟩ := DrawFormatOp_ex hu
  rw [e, b3_some]
  by_cases h : OpV k x y 3
  · obtain ⟨r1, r2, r3⟩ := h.rng
    have hne : ((tx k x y).toList == (⟨#[]⟩ : ByteArray).toList) = false := beq_eq_false_iff_ne.2 (tx_ne h)
    rw [impl_fmt r1 r2 r3, b1_some, impl_l0, pv0_tx h, b4_some, spec_fmt r1 r2 r3, b1_some, if_pos rfl, impl_OpValid_v, b1_some, decide_eq_true h, hne, if_pos (by rfl), if_pos (by rfl), if_pos rfl, if_neg (fun g => g ⟨rfl, rfl, rfl⟩)]
    exact part2 hu'
  · rw [(fmt_no h).2, b1_some, impl_l0, pv0_empty, b4_some, (fmt_no h).1, b1_some, if_pos rfl, impl_OpValid_v, b1_some, decide_eq_false h, beq_self_eq_true, if_pos (by rfl), if_pos (by rfl), if_neg (by simp)]
    exact part2 hu'
end Go.Proofs.YtnfaiojmabolmaaDoor.Pure
