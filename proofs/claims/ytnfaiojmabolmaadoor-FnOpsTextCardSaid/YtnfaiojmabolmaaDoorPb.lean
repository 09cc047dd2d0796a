/- Pure theorems of lists: the three tests of equality, the copies and the sizes that the laws use, and the laws of equality. -/
import Derived.Test.YtnfaiojmabolmaaDoorTa
import Derived.Test.YtnfaiojmabolmaaDoorFa
namespace Go.Proofs.YtnfaiojmabolmaaDoor.T
open Go Go.RowKit Go.Proofs.YtnfaiojmabolmaaDoor.S Go.Proofs.YtnfaiojmabolmaaDoor.F
set_option linter.unusedVariables false
set_option linter.unusedSimpArgs false
theorem rd_get {xs : List Int} {i : Nat} (h : i < xs.length) : rd xs (i : Int) = xs[i] := by simp [rd, h]
theorem drop_eq_iff {a b : List Int} {i : Nat} (ha : i < a.length) (hb : i < b.length) : a.drop i = b.drop i ↔ (a[i] = b[i] ∧ a.drop (i + 1) = b.drop (i + 1)) := by
  rw [List.drop_eq_getElem_cons ha, List.drop_eq_getElem_cons hb, List.cons.injEq]
theorem w64_succ {i n : Nat} (h : i < n) (hn : n ≤ 9223372036854775807) : wrap64 ((i : Int) + (1 : Int)) = ((i + 1 : Nat) : Int) := by
  rw [w64 (by omega) (by omega)]; simp
theorem same_loop {L : Nat → Int → Option Bool} {κ : Option Bool} {a b : List Int} (hlen : a.length = b.length) (hmax : a.length ≤ 9223372036854775807)
    (hs : ∀ m p, L (m + 1) p = if p < (a.length : Int) then if 0 ≤ p ∧ p < (a.length : Int) then if 0 ≤ p ∧ p < (b.length : Int) then if (rd a p) = (rd b p) then L m (wrap64 (p + (1:Int))) else some false else none else none else κ) :
    ∀ (m i : Nat), i ≤ a.length → a.length - i < m → L m (i : Int) = if a.drop i = b.drop i then κ else some false := by
  intro m
  induction m with
  | zero => intro i _ h; omega
  | succ m ih =>
    intro i hi hm
    rw [hs]
    by_cases h : i < a.length
    · have hb : i < b.length := by omega
      rw [if_pos (by omega), if_pos (by omega), if_pos (by omega), rd_get h, rd_get hb, w64_succ h hmax, ih (i + 1) (by omega) (by omega)]
      by_cases e : a[i] = b[i]
      · rw [if_pos e]
        by_cases e2 : a.drop (i + 1) = b.drop (i + 1)
        · rw [if_pos e2, if_pos ((drop_eq_iff h hb).2 ⟨e, e2⟩)]
        · rw [if_neg e2, if_neg (fun c => e2 ((drop_eq_iff h hb).1 c).2)]
      · rw [if_neg e, if_neg (fun c => e ((drop_eq_iff h hb).1 c).1)]
    · rw [if_neg (by omega), if_pos (by rw [List.drop_eq_nil_of_le (by omega), List.drop_eq_nil_of_le (by omega)])]
theorem same_fn {L : Nat → Int → Option Bool} {K : Nat} {a b : List Int} (hK : a.length < K) (hmax : a.length ≤ 9223372036854775807)
    (hs : ∀ m p, L (m + 1) p = if p < (a.length : Int) then if 0 ≤ p ∧ p < (a.length : Int) then if 0 ≤ p ∧ p < (b.length : Int) then if (rd a p) = (rd b p) then L m (wrap64 (p + (1:Int))) else some false else none else none else some true) :
    (if (a.length : Int) = (b.length : Int) then L K (0:Int) else some false) = some (decide (a = b)) := by
  by_cases h : a.length = b.length
  · rw [if_pos (by omega)]
    have := same_loop h hmax hs K 0 (by omega) (by omega)
    rw [show ((0 : Nat) : Int) = (0:Int) from rfl] at this
    rw [this]
    by_cases e : a = b
    · rw [if_pos (by rw [e]), decide_eq_true e]
    · rw [if_neg (by simpa using e), decide_eq_false e]
  · rw [if_neg (by omega), decide_eq_false (fun e => h (by rw [e]))]
theorem l1Ints_eq {K : Nat} {a b : List Int} (hK : a.length < K) (hmax : a.length ≤ 9223372036854775807) : spec_l1Ints.f K a b = some (decide (a = b)) := by
  unfold spec_l1Ints.f
  exact same_fn (L := spec_l1Ints.loop0 K (fun _ => some true) a b) hK hmax (fun m p => by rw [spec_l1Ints.loop0])
theorem sEqual_eq {K : Nat} {a b : List Int} (hK : a.length < K) (hmax : a.length ≤ 9223372036854775807) : slices_Equal_int.f K a b = some (decide (a = b)) := by
  unfold slices_Equal_int.f
  exact same_fn (L := slices_Equal_int.loop0 K (fun _ => some true) a b) hK hmax (fun m p => by rw [slices_Equal_int.loop0])
theorem eqIntS_eq {K : Nat} {a b : List Int} (hK : a.length < K) (hmax : a.length ≤ 9223372036854775807) : laws_eqIntS.f K a b = some (decide (a = b)) := by
  unfold laws_eqIntS.f
  exact same_fn (L := laws_eqIntS.loop0 K (fun _ => some true) a b) hK hmax (fun m p => by rw [laws_eqIntS.loop0])
/-! ### copies -/
theorem set_take {a : List Int} {i n : Nat} (h : i < a.length) (hn : a.length = n) (z : Int) : (a.take i ++ List.replicate (n - i) z).set i a[i] = a.take (i + 1) ++ List.replicate (n - (i + 1)) z := by
  have hl : (a.take i).length = i := by rw [List.length_take]; omega
  rw [List.set_append_right _ _ (by omega), hl, Nat.sub_self, show n - i = (n - (i + 1)) + 1 by omega, List.replicate_succ, List.set_cons_zero, List.take_succ_eq_append_getElem h, List.append_assoc]
  rfl
theorem toIntS_loop {K : Nat} {κ : List Int → Option (List Int)} {a : List Int} (hmax : a.length ≤ 9223372036854775807) : ∀ (m i : Nat), i ≤ a.length → a.length - i < m →
    laws_toIntS.loop0 K κ a m (i : Int) (a.take i ++ List.replicate (a.length - i) 0) = κ a := by
  intro m
  induction m with
  | zero => intro i _ h; omega
  | succ m ih =>
    intro i hi hm
    rw [laws_toIntS.loop0]
    by_cases h : i < a.length
    · have hl : (a.take i ++ List.replicate (a.length - i) (0 : Int)).length = a.length := by
        rw [List.length_append, List.length_take, List.length_replicate]; omega
      rw [if_pos (by omega), if_pos (by omega), if_pos (by rw [hl]; omega), w64_succ h hmax, rd_get h, Int.toNat_natCast, set_take h rfl, ih (i + 1) (by omega) (by omega)]
    · rw [if_neg (by omega)]
      have : i = a.length := by omega
      subst this
      simp
theorem toIntS_eq {K : Nat} {a : List Int} (hK : a.length < K) (hmax : a.length ≤ 1099511627776) : laws_toIntS.f K a = some a := by
  unfold laws_toIntS.f
  rw [if_pos (by omega), Int.toNat_natCast]
  have := toIntS_loop (K := K) (κ := fun l3 => some l3) (a := a) (by omega) K 0 (by omega) (by omega)
  simpa using this
/-- r is what is left of a room behind that many numbers, or below nothing. -/
def Lft (left : Int) (n : Int) (r : Int) : Prop := r < 0 ∨ (0 ≤ r ∧ r + n = left)
theorem szIntS_ex {K : Nat} {a : List Int} {left : Int} (h0 : 0 ≤ left) (h1 : left ≤ 1048576) (hmax : a.length ≤ 9223372036854775807) : ∃ r, laws_szIntS.f K a left = some r ∧ Lft left a.length r := by
  unfold laws_szIntS.f
  rw [w64 (by omega) (by omega)]
  split
  · exact ⟨_, rfl, .inl (by omega)⟩
  · exact ⟨_, rfl, .inr (by omega)⟩
/-! ### collectors -/
theorem szGc_ex {K : Nat} {p : Int} {a : List Int} {q left : Int} (h0 : 0 ≤ left) (h1 : left ≤ 1048576) (hmax : a.length ≤ 9223372036854775807) : ∃ r, laws_szGc.f K p a q left = some r ∧ Lft left a.length r := by
  obtain ⟨r, hr, h⟩ := szIntS_ex (K := K) h0 h1 hmax
  unfold laws_szGc.f
  rw [hr, b1_some]
  split
  · exact ⟨_, rfl, .inl (by omega)⟩
  · exact ⟨_, rfl, h⟩
theorem toGc_eq {K : Nat} {p : Int} {a : List Int} {q : Int} (hK : a.length < K) (hmax : a.length ≤ 1099511627776) : laws_toGc.f K p a q = some (p, a, q) := by
  unfold laws_toGc.f
  rw [toIntS_eq hK hmax, b1_some]
theorem spec_GcSame_eq {K : Nat} {p : Int} {a : List Int} {q p' : Int} {a' : List Int} {q' : Int} (hK : a.length < K) (hmax : a.length ≤ 9223372036854775807) : spec_GcSame.f K p a q p' a' q' = some (decide (p = p' ∧ q = q' ∧ a = a')) := by
  unfold spec_GcSame.f
  rw [l1Ints_eq hK hmax]
  simp only [b1_some]
  repeat' split
  all_goals simp_all
theorem impl_GcSame_eq {K : Nat} {p : Int} {a : List Int} {q p' : Int} {a' : List Int} {q' : Int} (hK : a.length < K) (hmax : a.length ≤ 9223372036854775807) : impl_GcSame.f K p a q p' a' q' = some (decide (p = p' ∧ q = q' ∧ a = a')) := by
  unfold impl_GcSame.f
  rw [sEqual_eq hK hmax]
  simp only [b1_some]
  repeat' split
  all_goals simp_all
theorem eqGc_self {K : Nat} {p : Int} {a : List Int} {q : Int} (hK : a.length < K) (hmax : a.length ≤ 9223372036854775807) : laws_eqGc.f K p a q p a q = some true := by
  unfold laws_eqGc.f
  rw [if_pos rfl, eqIntS_eq hK hmax, b1_some, if_pos (by simp), if_pos rfl]
/-! ### heaps, stores -/
theorem szHeap_ex {K : Nat} {a b c : List Int} {left : Int} (h0 : 0 ≤ left) (h1 : left ≤ 1048576) (ha : a.length ≤ 9223372036854775807) (hb : b.length ≤ 9223372036854775807) (hc : c.length ≤ 9223372036854775807) :
    ∃ r, laws_szHeap.f K a b c left = some r ∧ Lft left (a.length + b.length + c.length) r := by
  unfold laws_szHeap.f
  obtain ⟨r1, e1, g1⟩ := szIntS_ex (K := K) h0 h1 ha
  rw [e1, b1_some]
  unfold Lft at *
  by_cases c1 : r1 < 0
  · rw [if_pos c1]; exact ⟨_, rfl, .inl (by omega)⟩
  obtain ⟨r2, e2, g2⟩ := szIntS_ex (K := K) (a := b) (left := r1) (by omega) (by omega) hb
  rw [if_neg c1, e2, b1_some]
  unfold Lft at *
  by_cases c2 : r2 < 0
  · rw [if_pos c2]; exact ⟨_, rfl, .inl (by omega)⟩
  obtain ⟨r3, e3, g3⟩ := szIntS_ex (K := K) (a := c) (left := r2) (by omega) (by omega) hc
  rw [if_neg c2, e3, b1_some]
  unfold Lft at *
  by_cases c3 : r3 < 0
  · rw [if_pos c3]; exact ⟨_, rfl, .inl (by omega)⟩
  · rw [if_neg c3]; exact ⟨_, rfl, .inr (by omega)⟩
theorem szStore_ex {K : Nat} {a b c d : List Int} {left : Int} (h0 : 0 ≤ left) (h1 : left ≤ 1048576) (ha : a.length ≤ 9223372036854775807) (hb : b.length ≤ 9223372036854775807) (hc : c.length ≤ 9223372036854775807) (hd : d.length ≤ 9223372036854775807) :
    ∃ r, laws_szStore.f K a b c d left = some r ∧ Lft left (a.length + b.length + c.length + d.length) r := by
  unfold laws_szStore.f
  obtain ⟨r1, e1, g1⟩ := szHeap_ex (K := K) h0 h1 ha hb hc
  rw [e1, b1_some]
  unfold Lft at *
  by_cases c1 : r1 < 0
  · rw [if_pos c1]; exact ⟨_, rfl, .inl (by omega)⟩
  obtain ⟨r2, e2, g2⟩ := szIntS_ex (K := K) (a := d) (left := r1) (by omega) (by omega) hd
  rw [if_neg c1, e2, b1_some]
  unfold Lft at *
  by_cases c2 : r2 < 0
  · rw [if_pos c2]; exact ⟨_, rfl, .inl (by omega)⟩
  · rw [if_neg c2]; exact ⟨_, rfl, .inr (by omega)⟩
theorem toHeap_eq {K : Nat} {a b c : List Int} (ha : a.length < K) (hb : b.length < K) (hc : c.length < K) (hK : K ≤ 1099511627776) : laws_toHeap.f K a b c = some (a, b, c) := by
  unfold laws_toHeap.f
  rw [toIntS_eq ha (by omega), b1_some, toIntS_eq hb (by omega), b1_some, toIntS_eq hc (by omega), b1_some]
theorem toStore_eq {K : Nat} {a b c d : List Int} (ha : a.length < K) (hb : b.length < K) (hc : c.length < K) (hd : d.length < K) (hK : K ≤ 1099511627776) : laws_toStore.f K a b c d = some (a, b, c, d) := by
  unfold laws_toStore.f
  rw [toHeap_eq ha hb hc hK, b3_some, toIntS_eq hd (by omega), b1_some]
theorem if_dec {α : Type} {p : Prop} [Decidable p] {x y : α} : (if decide p = true then x else y) = if p then x else y := by
  by_cases h : p <;> simp [h]
theorem spec_HeapSame_eq {K : Nat} {a b c a' b' c' : List Int} (ha : a.length < K) (hb : b.length < K) (hc : c.length < K) (hK : K ≤ 1099511627776) : spec_HeapSame.f K a b c a' b' c' = some (decide (a = a' ∧ b = b' ∧ c = c')) := by
  unfold spec_HeapSame.f
  rw [l1Ints_eq ha (by omega), l1Ints_eq hb (by omega), l1Ints_eq hc (by omega)]
  simp only [b1_some]
  repeat' split
  all_goals simp_all
theorem impl_HeapSame_eq {K : Nat} {a b c a' b' c' : List Int} (ha : a.length < K) (hb : b.length < K) (hc : c.length < K) (hK : K ≤ 1099511627776) : impl_HeapSame.f K a b c a' b' c' = some (decide (a = a' ∧ b = b' ∧ c = c')) := by
  unfold impl_HeapSame.f
  rw [sEqual_eq ha (by omega), sEqual_eq hb (by omega), sEqual_eq hc (by omega)]
  simp only [b1_some]
  repeat' split
  all_goals simp_all
theorem eqHeap_eq {K : Nat} {a b c a' b' c' : List Int} (ha : a.length < K) (hb : b.length < K) (hc : c.length < K) (hK : K ≤ 1099511627776) : laws_eqHeap.f K a b c a' b' c' = some (decide (a = a' ∧ b = b' ∧ c = c')) := by
  unfold laws_eqHeap.f
  rw [eqIntS_eq ha (by omega), eqIntS_eq hb (by omega), eqIntS_eq hc (by omega)]
  simp only [b1_some]
  repeat' split
  all_goals simp_all
theorem spec_StoreSame_eq {K : Nat} {a b c d a' b' c' d' : List Int} (ha : a.length < K) (hb : b.length < K) (hc : c.length < K) (hd : d.length < K) (hK : K ≤ 1099511627776) : spec_StoreSame.f K a b c d a' b' c' d' = some (decide (a = a' ∧ b = b' ∧ c = c' ∧ d = d')) := by
  unfold spec_StoreSame.f
  rw [spec_HeapSame_eq ha hb hc hK, l1Ints_eq hd (by omega)]
  simp only [b1_some]
  repeat' split
  all_goals simp_all
theorem impl_StoreSame_eq {K : Nat} {a b c d a' b' c' d' : List Int} (ha : a.length < K) (hb : b.length < K) (hc : c.length < K) (hd : d.length < K) (hK : K ≤ 1099511627776) : impl_StoreSame.f K a b c d a' b' c' d' = some (decide (a = a' ∧ b = b' ∧ c = c' ∧ d = d')) := by
  unfold impl_StoreSame.f
  rw [impl_HeapSame_eq ha hb hc hK, sEqual_eq hd (by omega)]
  simp only [b1_some]
  repeat' split
  all_goals simp_all
theorem eqStore_eq {K : Nat} {a b c d a' b' c' d' : List Int} (ha : a.length < K) (hb : b.length < K) (hc : c.length < K) (hd : d.length < K) (hK : K ≤ 1099511627776) : laws_eqStore.f K a b c d a' b' c' d' = some (decide (a = a' ∧ b = b' ∧ c = c' ∧ d = d')) := by
  unfold laws_eqStore.f
  rw [eqHeap_eq ha hb hc hK, eqIntS_eq hd (by omega)]
  simp only [b1_some]
  repeat' split
  all_goals simp_all
end Go.Proofs.YtnfaiojmabolmaaDoor.T
namespace Go.Proofs.YtnfaiojmabolmaaDoor.Pure
open Go Go.RowKit Go.Proofs.YtnfaiojmabolmaaDoor.S Go.Proofs.YtnfaiojmabolmaaDoor.F Go.Proofs.YtnfaiojmabolmaaDoor.T
theorem FnExactGcSame : ∀ (a0_0 : Int), I64 a0_0 → ∀ (a0_1 : List Int), a0_1.length ≤ 9223372036854775807 → (∀ x ∈ a0_1, I64 x) → ∀ (a0_2 : Int), I64 a0_2 → ∀ (a1_0 : Int), I64 a1_0 → ∀ (a1_1 : List Int), a1_1.length ≤ 9223372036854775807 → (∀ x ∈ a1_1, I64 x) → ∀ (a1_2 : Int), I64 a1_2 → ∃ K, laws_FnExactGcSame.f K a0_0 a0_1 a0_2 a1_0 a1_1 a1_2 = some true := by
  intro p _ a ha _ q _ p' _ b hb _ q' _
  refine ⟨1048577, ?_⟩
  unfold laws_FnExactGcSame.f
  obtain ⟨r1, e1, g1⟩ := szGc_ex (K := 1048577) (p := p) (q := q) (left := 1048576) (by omega) (by omega) ha
  rw [e1, b1_some]
  unfold Lft at *
  by_cases c1 : r1 < 0
  · rw [if_pos c1]
  obtain ⟨r2, e2, g2⟩ := szGc_ex (K := 1048577) (p := p') (q := q') (left := r1) (by omega) (by omega) hb
  rw [if_neg c1, e2, b1_some]
  unfold Lft at *
  by_cases c2 : r2 < 0
  · rw [if_pos c2]
  have la : a.length < 1048577 := by omega
  have lb : b.length < 1048577 := by omega
  rw [if_neg c2, toGc_eq la (by omega), toGc_eq lb (by omega)]
  simp only [b3_some]
  rw [spec_GcSame_eq la (by omega), impl_GcSame_eq la (by omega)]
  simp only [b1_some, if_true]
  rw [eqGc_self la (by omega), eqGc_self lb (by omega)]
  rfl
theorem FnExactStoreSame : ∀ (a0_0 : List Int), a0_0.length ≤ 9223372036854775807 → (∀ x ∈ a0_0, I64 x) → ∀ (a0_1 : List Int), a0_1.length ≤ 9223372036854775807 → (∀ x ∈ a0_1, I64 x) → ∀ (a0_2 : List Int), a0_2.length ≤ 9223372036854775807 → (∀ x ∈ a0_2, I64 x) → ∀ (a0_3 : List Int), a0_3.length ≤ 9223372036854775807 → (∀ x ∈ a0_3, I64 x) → ∀ (a1_0 : List Int), a1_0.length ≤ 9223372036854775807 → (∀ x ∈ a1_0, I64 x) → ∀ (a1_1 : List Int), a1_1.length ≤ 9223372036854775807 → (∀ x ∈ a1_1, I64 x) → ∀ (a1_2 : List Int), a1_2.length ≤ 9223372036854775807 → (∀ x ∈ a1_2, I64 x) → ∀ (a1_3 : List Int), a1_3.length ≤ 9223372036854775807 → (∀ x ∈ a1_3, I64 x) → ∃ K, laws_FnExactStoreSame.f K a0_0 a0_1 a0_2 a0_3 a1_0 a1_1 a1_2 a1_3 = some true := by
  intro a ha _ b hb _ c hc _ d hd _ a' ha' _ b' hb' _ c' hc' _ d' hd' _
  refine ⟨1048577, ?_⟩
  unfold laws_FnExactStoreSame.f
  obtain ⟨r1, e1, g1⟩ := szStore_ex (K := 1048577) (left := 1048576) (by omega) (by omega) ha hb hc hd
  rw [e1, b1_some]
  unfold Lft at *
  by_cases c1 : r1 < 0
  · rw [if_pos c1]
  obtain ⟨r2, e2, g2⟩ := szStore_ex (K := 1048577) (left := r1) (by omega) (by omega) ha' hb' hc' hd'
  rw [if_neg c1, e2, b1_some]
  unfold Lft at *
  by_cases c2 : r2 < 0
  · rw [if_pos c2]
  have la : a.length < 1048577 := by omega
  have lb : b.length < 1048577 := by omega
  have lc : c.length < 1048577 := by omega
  have ld : d.length < 1048577 := by omega
  have la' : a'.length < 1048577 := by omega
  have lb' : b'.length < 1048577 := by omega
  have lc' : c'.length < 1048577 := by omega
  have ld' : d'.length < 1048577 := by omega
  rw [if_neg c2, toStore_eq la lb lc ld (by omega), toStore_eq la' lb' lc' ld' (by omega)]
  simp only [b4_some]
  rw [spec_StoreSame_eq la lb lc ld (by omega), impl_StoreSame_eq la lb lc ld (by omega)]
  simp only [b1_some, if_true]
  rw [eqStore_eq la lb lc ld (by omega), eqStore_eq la' lb' lc' ld' (by omega)]
  simp [b1_some]
end Go.Proofs.YtnfaiojmabolmaaDoor.Pure
