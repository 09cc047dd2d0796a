/- Pure theorems of the reference's source of random numbers: it never fails, and what it gives lies in its bounds (the source itself). -/
import Derived.Test.YtnfaiojmabolmaaDoorPa
namespace Go.Proofs.YtnfaiojmabolmaaDoor.T
open Go Go.RowKit Go.Proofs.YtnfaiojmabolmaaDoor.S Go.Proofs.YtnfaiojmabolmaaDoor.F
set_option linter.unusedVariables false
set_option linter.unusedSimpArgs false
theorem xor64_nonneg {p q : Int} (hp : 0 ≤ p) (hp' : p ≤ 9223372036854775807) (hq : 0 ≤ q) (hq' : q ≤ 9223372036854775807) : 0 ≤ xor64 p q ∧ xor64 p q ≤ 9223372036854775807 := by
  obtain ⟨a, rfl⟩ := Int.eq_ofNat_of_zero_le hp
  obtain ⟨b, rfl⟩ := Int.eq_ofNat_of_zero_le hq
  have ha : a < 2 ^ 63 := by omega
  have hb : b < 2 ^ 63 := by omega
  have hx : a ^^^ b < 2 ^ 63 := Nat.xor_lt_two_pow ha hb
  have e : (BitVec.ofInt 64 (a : Int) ^^^ BitVec.ofInt 64 (b : Int)).toNat = a ^^^ b := by
    rw [BitVec.toNat_xor, BitVec.ofInt_natCast, BitVec.ofInt_natCast, BitVec.toNat_ofNat, BitVec.toNat_ofNat, Nat.mod_eq_of_lt (by omega), Nat.mod_eq_of_lt (by omega)]
  unfold xor64
  rw [e, w64 (by omega) (by omega)]
  omega
/-- A source: bytes, and a place. -/
def Src (xs : List Int) (p : Int) : Prop := xs.length ≤ 2000 ∧ (∀ x ∈ xs, U8 x) ∧ 0 ≤ p ∧ p ≤ 1000000000000
theorem rd_u8 {xs : List Int} (h : ∀ x ∈ xs, U8 x) (i : Int) : 0 ≤ rd xs i ∧ rd xs i ≤ 255 := by
  unfold rd
  rw [List.getD_eq_getElem?_getD]
  cases hx : xs[i.toNat]? with
  | none => simp
  | some y => exact h y (List.mem_of_getElem? hx)
theorem pick_ex {K : Nat} {xs : List Int} {p n : Int} (h : Src xs p) (hn : n ≤ 1000000000000) : ∃ v, spec_l13Rd_pick.f K xs p n = some (v, p + 1) ∧ 0 ≤ v ∧ (1 ≤ n → v < n) ∧ (n < 1 → v = 0) := by
  obtain ⟨hl, hu, hp, hp'⟩ := h
  unfold spec_l13Rd_pick.f
  have e1 : wrap64 (p + 1) = p + 1 := w64 (by omega) (by omega)
  have e2 : wrap64 (p + 1 - 1) = p := by rw [show p + 1 - 1 = p by omega]; exact w64 (by omega) (by omega)
  rw [e1, e2]
  by_cases c1 : n < 1
  · rw [if_pos c1]; exact ⟨0, rfl, by omega, by omega, fun _ => rfl⟩
  rw [if_neg c1]
  by_cases c2 : (xs.length : Int) = 0
  · rw [if_pos c2]; exact ⟨0, rfl, by omega, by omega, fun _ => rfl⟩
  rw [if_neg c2]
  have hnp : 0 < n := by omega
  by_cases c3 : p < (xs.length : Int)
  · rw [if_pos c3, if_pos ⟨hp, c3⟩, if_pos (by omega)]
    have hb := rd_u8 hu p
    rw [w64 (by omega) (by omega)]
    refine ⟨_, rfl, Int.tmod_nonneg _ hb.1, fun _ => Int.tmod_lt_of_pos _ hnp, by omega⟩
  rw [if_neg c3, if_pos c2]
  have hlp : (0 : Int) < xs.length := by omega
  have k1 : 0 ≤ Int.tmod p xs.length ∧ Int.tmod p xs.length < xs.length := ⟨Int.tmod_nonneg _ hp, Int.tmod_lt_of_pos _ hlp⟩
  have e7 : wrap64 (p * 7) = p * 7 := w64 (by omega) (by omega)
  have e73 : wrap64 (p * 7 + 3) = p * 7 + 3 := w64 (by omega) (by omega)
  rw [if_pos k1, e7, e73]
  have k2 : 0 ≤ Int.tmod (p * 7 + 3) xs.length ∧ Int.tmod (p * 7 + 3) xs.length < xs.length := ⟨Int.tmod_nonneg _ (by omega), Int.tmod_lt_of_pos _ hlp⟩
  rw [if_pos k2, if_pos (by omega)]
  have b1 := rd_u8 hu (Int.tmod p xs.length)
  have b2 := rd_u8 hu (Int.tmod (p * 7 + 3) xs.length)
  generalize rd xs (Int.tmod p xs.length) = y1 at *
  generalize rd xs (Int.tmod (p * 7 + 3) xs.length) = y2 at *
  have q0 : 0 ≤ Int.tdiv p xs.length := Int.tdiv_nonneg hp (by omega)
  have q1 : Int.tdiv p xs.length ≤ p := Int.tdiv_le_self _ hp
  generalize Int.tdiv p xs.length = d at *
  rw [w64 (x := y1) (by omega) (by omega), w64 (x := y2) (by omega) (by omega), w64 (x := y1 * 131) (by omega) (by omega), w64 (x := y2 * 1117) (by omega) (by omega),
    w64 (x := y1 * 131 + y2 * 1117) (by omega) (by omega), w64 (x := p * 29) (by omega) (by omega), w64 (x := d) (by omega) (by omega), w64 (x := d * 53) (by omega) (by omega),
    w64 (x := y1 * 131 + y2 * 1117 + p * 29) (by omega) (by omega), w64 (x := y1 * 131 + y2 * 1117 + p * 29 + d * 53) (by omega) (by omega)]
  have z0 : 0 ≤ y1 * 131 + y2 * 1117 + p * 29 + d * 53 := by omega
  have z1 : y1 * 131 + y2 * 1117 + p * 29 + d * 53 ≤ 9223372036854775807 := by omega
  generalize y1 * 131 + y2 * 1117 + p * 29 + d * 53 = z at *
  have t0 : 0 ≤ Int.tdiv z 64 := Int.tdiv_nonneg z0 (by omega)
  have t1 : Int.tdiv z 64 ≤ z := Int.tdiv_le_self _ z0
  rw [w64 (x := Int.tdiv z 64) (by omega) (by omega)]
  have hx := xor64_nonneg z0 z1 t0 (by omega)
  exact ⟨_, rfl, Int.tmod_nonneg _ hx.1, fun _ => Int.tmod_lt_of_pos _ hnp, by omega⟩
theorem Src.next {xs : List Int} {p : Int} (h : Src xs p) (hp : p < 1000000000000) : Src xs (p + 1) := ⟨h.1, h.2.1, by have := h.2.2.1; omega, by omega⟩
theorem num_ex {K : Nat} {xs : List Int} {p : Int} {l : List Int} (h : Src xs p) (hl : 1 ≤ l.length) (hl' : l.length ≤ 1000) : ∃ v, spec_l13Rd_num.f K xs p l = some (v, p + 1) ∧ v ∈ l := by
  unfold spec_l13Rd_num.f
  obtain ⟨v, hv, h0, h1, _⟩ := pick_ex (K := K) (n := l.length) h (by omega)
  have hlt := h1 (by omega)
  rw [hv, b2_some, if_pos ⟨h0, hlt⟩]
  refine ⟨_, rfl, ?_⟩
  have hi : v.toNat < l.length := by omega
  unfold rd
  rw [List.getD_eq_getElem?_getD, List.getElem?_eq_getElem hi]
  exact List.getElem_mem hi
end Go.Proofs.YtnfaiojmabolmaaDoor.T
