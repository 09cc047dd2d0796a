/- Words for the laws: results that are read part by part, marks that are held, sizes that fit. -/
import Derived.Test.YtnfaiojmabolmaaDoorPm
import Derived.Test.YtnfaiojmabolmaaDoorX2
namespace Go.Proofs.YtnfaiojmabolmaaDoor.T
open Go Go.RowKit Go.Proofs.YtnfaiojmabolmaaDoor.S Go.Proofs.YtnfaiojmabolmaaDoor.F
set_option linter.unusedVariables false
set_option linter.unusedSimpArgs false
theorem b2_p {α1 α2 β : Type} (x : α1 × α2) (f : α1 → α2 → Option β) : b2 (some x) f = f x.1 x.2 := rfl
theorem b3_p {α1 α2 α3 β : Type} (x : α1 × α2 × α3) (f : α1 → α2 → α3 → Option β) : b3 (some x) f = f x.1 x.2.1 x.2.2 := rfl
theorem b4_p {α1 α2 α3 α4 β : Type} (x : α1 × α2 × α3 × α4) (f : α1 → α2 → α3 → α4 → Option β) : b4 (some x) f = f x.1 x.2.1 x.2.2.1 x.2.2.2 := rfl
theorem b5_p {α1 α2 α3 α4 α5 β : Type} (x : α1 × α2 × α3 × α4 × α5) (f : α1 → α2 → α3 → α4 → α5 → Option β) : b5 (some x) f = f x.1 x.2.1 x.2.2.1 x.2.2.2.1 x.2.2.2.2 := rfl
theorem b6_p {α1 α2 α3 α4 α5 α6 β : Type} (x : α1 × α2 × α3 × α4 × α5 × α6) (f : α1 → α2 → α3 → α4 → α5 → α6 → Option β) : b6 (some x) f = f x.1 x.2.1 x.2.2.1 x.2.2.2.1 x.2.2.2.2.1 x.2.2.2.2.2 := rfl
theorem b7_p {α1 α2 α3 α4 α5 α6 α7 β : Type} (x : α1 × α2 × α3 × α4 × α5 × α6 × α7) (f : α1 → α2 → α3 → α4 → α5 → α6 → α7 → Option β) : b7 (some x) f = f x.1 x.2.1 x.2.2.1 x.2.2.2.1 x.2.2.2.2.1 x.2.2.2.2.2.1 x.2.2.2.2.2.2 := rfl
theorem b8_p {α1 α2 α3 α4 α5 α6 α7 α8 β : Type} (x : α1 × α2 × α3 × α4 × α5 × α6 × α7 × α8) (f : α1 → α2 → α3 → α4 → α5 → α6 → α7 → α8 → Option β) : b8 (some x) f = f x.1 x.2.1 x.2.2.1 x.2.2.2.1 x.2.2.2.2.1 x.2.2.2.2.2.1 x.2.2.2.2.2.2.1 x.2.2.2.2.2.2.2 := rfl
theorem b9_p {α1 α2 α3 α4 α5 α6 α7 α8 α9 β : Type} (x : α1 × α2 × α3 × α4 × α5 × α6 × α7 × α8 × α9) (f : α1 → α2 → α3 → α4 → α5 → α6 → α7 → α8 → α9 → Option β) : b9 (some x) f = f x.1 x.2.1 x.2.2.1 x.2.2.2.1 x.2.2.2.2.1 x.2.2.2.2.2.1 x.2.2.2.2.2.2.1 x.2.2.2.2.2.2.2.1 x.2.2.2.2.2.2.2.2 := rfl
theorem b10_p {α1 α2 α3 α4 α5 α6 α7 α8 α9 α10 β : Type} (x : α1 × α2 × α3 × α4 × α5 × α6 × α7 × α8 × α9 × α10) (f : α1 → α2 → α3 → α4 → α5 → α6 → α7 → α8 → α9 → α10 → Option β) : b10 (some x) f = f x.1 x.2.1 x.2.2.1 x.2.2.2.1 x.2.2.2.2.1 x.2.2.2.2.2.1 x.2.2.2.2.2.2.1 x.2.2.2.2.2.2.2.1 x.2.2.2.2.2.2.2.2.1 x.2.2.2.2.2.2.2.2.2 := rfl

/-- The fuel of the laws. -/
abbrev KK : Nat := 1048577
theorem Fit.of {xs : List Int} (h : xs.length ≤ 1048576) : Fit KK xs := ⟨by show xs.length < 1048577; omega, h⟩
theorem Fit.lt {xs : List Int} (h : Fit KK xs) : xs.length < 1048577 := h.1
theorem Fit.le {xs : List Int} (h : Fit KK xs) : xs.length ≤ 1048576 := h.2
theorem Fit.mx {xs : List Int} (h : Fit KK xs) : xs.length ≤ 1099511627776 := by have := h.2; omega
theorem Fit.mx2 {xs : List Int} (h : Fit KK xs) : xs.length ≤ 9223372036854775807 := by have := h.2; omega
theorem toIntS_f {a : List Int} (ha : Fit KK a) : laws_toIntS.f KK a = some a := toIntS_eq ha.1 ha.mx
theorem toHeap_f {a b c : List Int} (ha : Fit KK a) (hb : Fit KK b) (hc : Fit KK c) : laws_toHeap.f KK a b c = some (a, b, c) := toHeap_eq ha.1 hb.1 hc.1 (by decide)
theorem toStore_f {a b c d : List Int} (ha : Fit KK a) (hb : Fit KK b) (hc : Fit KK c) (hd : Fit KK d) : laws_toStore.f KK a b c d = some (a, b, c, d) := toStore_eq ha.1 hb.1 hc.1 hd.1 (by decide)
theorem toCounted_f {a b c d e : List Int} (ha : Fit KK a) (hb : Fit KK b) (hc : Fit KK c) (hd : Fit KK d) (he : Fit KK e) : laws_toCounted.f KK a b c d e = some (a, b, c, d, e) := toCounted_eq ha.1 hb.1 hc.1 hd.1 he.1 (by decide)
theorem toGc_f {p q : Int} {a : List Int} (ha : Fit KK a) : laws_toGc.f KK p a q = some (p, a, q) := toGc_eq ha.1 ha.mx
/-! ### a value equals itself -/
theorem eqIntS_s {a : List Int} (ha : Fit KK a) : laws_eqIntS.f KK a a = some true := by rw [eqIntS_eq ha.1 ha.mx2]; simp
theorem ccInts_eq {K : Nat} {a b : List Int} (hK : a.length < K) (hmax : a.length ≤ 9223372036854775807) : laws_ccInts.f K a b = some (decide (a = b)) := by
  unfold laws_ccInts.f
  exact same_fn (L := laws_ccInts.loop0 K (fun _ => some true) a b) hK hmax (fun m p => by rw [laws_ccInts.loop0])
theorem eqHeap_s {a b c : List Int} (ha : Fit KK a) (hb : Fit KK b) (hc : Fit KK c) : laws_eqHeap.f KK a b c a b c = some true := by rw [eqHeap_eq ha.1 hb.1 hc.1 (by decide)]; simp
theorem eqStore_s {a b c d : List Int} (ha : Fit KK a) (hb : Fit KK b) (hc : Fit KK c) (hd : Fit KK d) : laws_eqStore.f KK a b c d a b c d = some true := by rw [eqStore_eq ha.1 hb.1 hc.1 hd.1 (by decide)]; simp
theorem eqCounted_s {a b c d e : List Int} (ha : Fit KK a) (hb : Fit KK b) (hc : Fit KK c) (hd : Fit KK d) (he : Fit KK e) : laws_eqCounted.f KK a b c d e a b c d e = some true := by rw [eqCounted_eq ha.1 hb.1 hc.1 hd.1 he.1 (by decide)]; simp
theorem eqGc_s {p q : Int} {a : List Int} (ha : Fit KK a) : laws_eqGc.f KK p a q p a q = some true := eqGc_self ha.1 ha.mx2
/-! ### marks are held -/
theorem markIntS_ex {a : List Int} (ha : Fit KK a) : ∃ k a', laws_markIntS.f KK a 1 = some (k, a') ∧ laws_heldIntS.f KK a' 1 = some k ∧ ¬k < 0 :=
  ⟨_, _, markIntS_eq ha.1 ha.2 (by omega) (by omega), heldIntS_eq ha.1 ha.2 (by omega) (by omega), by omega⟩
theorem markHeap_ex {a b c : List Int} (ha : Fit KK a) (hb : Fit KK b) (hc : Fit KK c) : ∃ k a' b' c', laws_markHeap.f KK a b c 1 = some (k, a', b', c') ∧ laws_heldHeap.f KK a' b' c' 1 = some k ∧ ¬k < 0 :=
  ⟨_, _, _, _, markHeap_eq ha hb hc (by omega) (by omega), heldHeap_eq ha hb hc (by omega) (by omega), by omega⟩
theorem markStore_ex {a b c d : List Int} (ha : Fit KK a) (hb : Fit KK b) (hc : Fit KK c) (hd : Fit KK d) : ∃ k a' b' c' d', laws_markStore.f KK a b c d 1 = some (k, a', b', c', d') ∧ laws_heldStore.f KK a' b' c' d' 1 = some k ∧ ¬k < 0 :=
  ⟨_, _, _, _, _, markStore_eq ha hb hc hd (by omega) (by omega), heldStore_eq ha hb hc hd (by omega) (by omega), by omega⟩
/-! ### sizes -/
theorem szHeap_f {a b c : List Int} (ha : a.length ≤ 9223372036854775807) (hb : b.length ≤ 9223372036854775807) (hc : c.length ≤ 9223372036854775807) : ∃ r, laws_szHeap.f KK a b c 1048576 = some r ∧ (r < 0 ∨ (¬r < 0 ∧ Fit KK a ∧ Fit KK b ∧ Fit KK c)) := by
  obtain ⟨r, e, g⟩ := szHeap_ex (K := KK) (left := 1048576) (by omega) (by omega) ha hb hc
  refine ⟨r, e, ?_⟩
  unfold Lft at g
  rcases g with g | g
  · exact .inl g
  · exact .inr ⟨by omega, .of (by omega), .of (by omega), .of (by omega)⟩
theorem szStore_f {a b c d : List Int} (ha : a.length ≤ 9223372036854775807) (hb : b.length ≤ 9223372036854775807) (hc : c.length ≤ 9223372036854775807) (hd : d.length ≤ 9223372036854775807) : ∃ r, laws_szStore.f KK a b c d 1048576 = some r ∧ (r < 0 ∨ (¬r < 0 ∧ 0 ≤ r ∧ r ≤ 1048576 ∧ Fit KK a ∧ Fit KK b ∧ Fit KK c ∧ Fit KK d)) := by
  obtain ⟨r, e, g⟩ := szStore_ex (K := KK) (left := 1048576) (by omega) (by omega) ha hb hc hd
  refine ⟨r, e, ?_⟩
  unfold Lft at g
  rcases g with g | g
  · exact .inl g
  · exact .inr ⟨by omega, by omega, by omega, .of (by omega), .of (by omega), .of (by omega), .of (by omega)⟩
theorem szCounted_f {a b c d e : List Int} (ha : a.length ≤ 9223372036854775807) (hb : b.length ≤ 9223372036854775807) (hc : c.length ≤ 9223372036854775807) (hd : d.length ≤ 9223372036854775807) (he : e.length ≤ 9223372036854775807) : ∃ r, laws_szCounted.f KK a b c d e 1048576 = some r ∧ (r < 0 ∨ (¬r < 0 ∧ 0 ≤ r ∧ r ≤ 1048576 ∧ Fit KK a ∧ Fit KK b ∧ Fit KK c ∧ Fit KK d ∧ Fit KK e)) := by
  obtain ⟨r, e1, g⟩ := szCounted_ex (K := KK) (left := 1048576) (by omega) (by omega) ha hb hc hd he
  refine ⟨r, e1, ?_⟩
  unfold Lft at g
  rcases g with g | g
  · exact .inl g
  · exact .inr ⟨by omega, by omega, by omega, .of (by omega), .of (by omega), .of (by omega), .of (by omega), .of (by omega)⟩
/-! ### the program's own functions of stores -/
theorem impl_GarbageOf_eq {K : Nat} {L R Ro : List Int} (hK : 20 < K) : impl_GarbageOf.f K L R Ro = some (garV L R Ro) := by
  unfold impl_GarbageOf.f garV
  rw [impl_Reachable_eq hK, b1_some]
  unfold livV
  by_cases h : HV L R Ro
  · rw [if_pos h, if_pos h]
    have h8 := h.2.1
    have hl := @liv_len L R Ro
    exact garb_loop (p := fun x => !liveB L R Ro x) (fun m p (l : List Int) => impl_GarbageOf.loop0 K (fun l3 => some l3) (liv L R Ro) m l p) some (n := L.length) (by omega) (by omega)
      (fun m i l hi hl2 => by
        show impl_GarbageOf.loop0 K _ _ (m + 1) l (i : Int) = _
        rw [impl_GarbageOf.loop0, if_pos (by omega), if_pos (by omega), w64_succ hi (by omega), rdb_liv (by omega) (by omega)]
        by_cases c : liveB L R Ro i = true
        · rw [if_pos c, if_neg (by simp [c])]
        · rw [if_neg c, if_pos (by simp; omega), if_pos (by simpa using c)])
      (fun m l => by
        show impl_GarbageOf.loop0 K _ _ (m + 1) l (L.length : Int) = _
        rw [impl_GarbageOf.loop0, if_neg (by omega)])
  · rw [if_neg h, if_neg h]
    obtain ⟨K, rfl⟩ : ∃ K', K = K' + 1 := ⟨K - 1, by omega⟩
    rw [impl_GarbageOf.loop0, if_neg (by simp)]
theorem impl_LeakedOf_eq {K : Nat} {L R Ro F : List Int} (hK : 32 < K) (hF : F.length < K) (hmax : F.length ≤ 9223372036854775807) : impl_LeakedOf.f K L R Ro F = some (leakV L R Ro F) := by
  unfold impl_LeakedOf.f leakV
  rw [impl_StoreValid_eq hK hF hmax, b1_some]
  by_cases h : SV L R Ro F
  · rw [if_pos (decide_eq_true h), if_pos h, impl_GarbageOf_eq (by omega), b1_some]
    unfold garV
    rw [if_pos h.1]
    have h8 := h.1.2.1
    have hf := h.len
    have hg := @gar_len L R Ro
    exact filt_loop (fun m p (l : List Int) => impl_LeakedOf.loop0 K (fun l3 => some l3) F (gar L R Ro) m l p) some (by omega)
      (fun m i l hi hl => by
        show impl_LeakedOf.loop0 K _ _ _ (m + 1) l (i : Int) = _
        rw [impl_LeakedOf.loop0, if_pos (by omega), if_pos (by omega), Contains_eq (by omega) (by omega), b1_some, w64_succ hi (by omega)]
        simp only [decide_eq_true_eq]
        by_cases c : rd (gar L R Ro) i ∈ F
        · rw [if_pos c, if_neg (by simpa using c)]
        · rw [if_neg c, if_pos (by simp; omega), if_pos (by simpa using c)])
      (fun m l => by
        show impl_LeakedOf.loop0 K _ _ _ (m + 1) l ((gar L R Ro).length : Int) = _
        rw [impl_LeakedOf.loop0, if_neg (by omega)])
  · rw [if_neg (by simpa using h), if_neg h]
theorem impl_IsFree_eq {K : Nat} {L R Ro F : List Int} {c : Int} (hK : 32 < K) (hF : F.length < K) (hmax : F.length ≤ 9223372036854775807) : impl_IsFree.f K L R Ro F c = some (freeV L R Ro F c) := by
  unfold impl_IsFree.f freeV
  rw [impl_StoreValid_eq hK hF hmax, b1_some]
  by_cases h : SV L R Ro F
  · rw [if_pos (decide_eq_true h), Contains_eq hF hmax, b1_some]
    exact congrArg some (decide_eq_decide.2 ⟨fun g => ⟨h, g⟩, fun g => g.2⟩)
  · rw [if_neg (by simpa using h), decide_eq_false (fun g => h g.1)]
/-- One cell is cleared, the pointers to it one by one. -/
theorem clear1_eq {K : Nat} {L R F : List Int} {c : Int} (hR : R.length = L.length) (h8 : L.length ≤ 8) (hF : F.length ≤ 1000) (h0 : 0 ≤ c) (h1 : c < L.length) (hK : 20 < K) : impl_Store_clear.f K L R F [c] = some (clr [c] L, clr [c] R, F ++ [c]) := by
  unfold impl_Store_clear.f
  obtain ⟨K, rfl⟩ : ∃ K', K = K' + 2 := ⟨K - 2, by omega⟩
  have e0 : rd [c] (0 : Int) = c := rfl
  rw [impl_Store_clear.loop0, if_pos (by simp), if_pos (by simp), e0, if_pos ⟨h0, h1⟩, if_pos (by omega)]
  let up (i : Nat) (xs : List Int) : List Int := (upto xs.length).map fun j => if (j < (i : Int) ∧ rd xs j = c) ∨ j = c then -1 else rd xs j
  have up_len : ∀ i xs, (up i xs).length = xs.length := fun i xs => by simp [up, upto_len]
  have rd_up : ∀ i xs (x : Int), 0 ≤ x → x < xs.length → rd (up i xs) x = if (x < (i : Int) ∧ rd xs x = c) ∨ x = c then -1 else rd xs x := fun i xs x g0 g1 => rd_map_upto g0 g1
  have up0 : ∀ xs : List Int, c < xs.length → xs.set c.toNat (-1) = up 0 xs := fun xs hc => ext_rd (by rw [List.length_set, up_len]) fun i hi => by
    rw [List.length_set] at hi
    rw [rd_up 0 xs i (by omega) (by omega), rd_set h0 (by omega) hc]
    by_cases k : c = i
    · rw [if_pos k, if_pos (.inr k.symm)]
    · rw [if_neg k, if_neg (by rintro (g | g); omega; exact k g.symm)]
  have upn : ∀ xs, up xs.length xs = clr [c] xs := fun xs => ext_rd (by rw [up_len, clr_len]) fun i hi => by
    rw [up_len] at hi
    rw [rd_up _ xs i (by omega) (by omega), rd_clr1 (by omega) (by omega)]
    by_cases k : rd xs i = c ∨ (i : Int) = c
    · rw [if_pos (by rcases k with k | k; exact .inl ⟨by omega, k⟩; exact .inr k), if_pos k]
    · rw [if_neg (by rintro (g | g); exact k (.inl g.2); exact k (.inr g)), if_neg k]
  have up_yes : ∀ (i : Nat) xs, i < xs.length → rd (up i xs) i = c → (up i xs).set (i : Int).toNat (-1) = up (i + 1) xs := fun i xs hi hy => ext_rd (by rw [List.length_set, up_len, up_len]) fun j hj => by
    rw [List.length_set, up_len] at hj
    rw [rd_up _ _ _ (by omega) (by omega)] at hy
    rw [rd_set (by omega) (by omega) (by rw [up_len]; omega), rd_up _ _ _ (by omega) (by omega), rd_up _ _ _ (by omega) (by omega)]
    by_cases k : (i : Int) = c
    · rw [if_pos (.inr k)] at hy; omega
    · rw [if_neg (by rintro (g | g); omega; exact k g)] at hy
      by_cases k2 : (i : Int) = j
      · rw [if_pos k2, ← k2, if_pos (.inl ⟨by omega, hy⟩)]
      · rw [if_neg k2]
        by_cases k3 : ((j : Int) < i ∧ rd xs j = c) ∨ (j : Int) = c
        · rw [if_pos k3, if_pos (by rcases k3 with k3 | k3; exact .inl ⟨by omega, k3.2⟩; exact .inr k3)]
        · rw [if_neg k3, if_neg (by rintro (g | g); exact k3 (.inl ⟨by omega, g.2⟩); exact k3 (.inr g))]
  have up_no : ∀ (i : Nat) xs, i < xs.length → ¬rd (up i xs) i = c → up i xs = up (i + 1) xs := fun i xs hi hy => ext_rd (by rw [up_len, up_len]) fun j hj => by
    rw [up_len] at hj
    rw [rd_up _ _ _ (by omega) (by omega)] at hy
    rw [rd_up _ _ _ (by omega) (by omega), rd_up _ _ _ (by omega) (by omega)]
    by_cases k2 : (i : Int) = j
    · rw [← k2]
      by_cases k : (i : Int) = c
      · rw [if_pos (.inr k), if_pos (.inr k)]
      · rw [if_neg (by rintro (g | g); omega; exact k g)] at hy
        rw [if_neg (by rintro (g | g); omega; exact k g), if_neg (by rintro (g | g); exact hy g.2; exact k g)]
    · by_cases k3 : ((j : Int) < i ∧ rd xs j = c) ∨ (j : Int) = c
      · rw [if_pos k3, if_pos (by rcases k3 with k3 | k3; exact .inl ⟨by omega, k3.2⟩; exact .inr k3)]
      · rw [if_neg k3, if_neg (by rintro (g | g); exact k3 (.inl ⟨by omega, g.2⟩); exact k3 (.inr g))]
  rw [up0 L h1, up0 R (by omega)]
  have lo : ∀ κ : List Int → List Int → Option (List Int × List Int × List Int), impl_Store_clear.loop1 (K + 2) κ [c] 0 L (K + 2) 0 (up 0 L) (up 0 R) = κ (clr [c] L) (clr [c] R) := by
    intro κ
    have := loop_st (fun m p (s : List Int × List Int) => impl_Store_clear.loop1 (K + 2) κ [c] 0 L m p s.1 s.2) (fun i => (up i L, up i R)) L.length (κ (clr [c] L) (clr [c] R)) ?_ ?_ (K := K + 2) (by omega)
    · exact this
    · intro m i hi
      have c1 := up_len i L
      have c2 := up_len i R
      have hR2 : 0 ≤ (i : Int) ∧ (i : Int) < ((up i R).length : Int) := by omega
      simp only []
      rw [impl_Store_clear.loop1, if_pos (by rw [List.length_set]; omega), if_pos (by omega)]
      simp only [hR2, and_self, if_true, e0]
      rw [w64_succ hi (by omega)]
      by_cases e1 : rd (up i L) i = c <;> by_cases e2 : rd (up i R) i = c <;> simp only [e1, e2, if_true, if_false]
      · rw [up_yes i L hi e1, up_yes i R (by omega) e2]
      · rw [up_yes i L hi e1, ← up_no i R (by omega) e2]
      · rw [← up_no i L hi e1, up_yes i R (by omega) e2]
      · rw [← up_no i L hi e1, ← up_no i R (by omega) e2]
    · intro m
      simp only []
      rw [impl_Store_clear.loop1, if_neg (by rw [List.length_set]; omega), upn, show up L.length R = clr [c] R by rw [← hR]; exact upn R]
  rw [lo, if_pos (by simp; omega), impl_Store_clear.loop0, if_neg (by simp [wrap64])]
theorem impl_FreeCell_eq {K : Nat} {L R Ro F : List Int} {c : Int} (hK : 1000 < K) (hF : F.length < K) (hmax : F.length ≤ 9223372036854775807) : impl_FreeCell.f K L R Ro F c = some (fcV L R Ro F c) := by
  have hll := @leakV_len L R Ro F
  unfold impl_FreeCell.f fcV
  rw [impl_LeakedOf_eq (by omega) hF hmax, b1_some, Contains_eq (by omega) (by omega), b1_some]
  by_cases h : c ∈ leakV L R Ro F
  · have hs : SV L R Ro F := by
      unfold leakV at h
      split at h
      · rename_i g; exact g
      · simp at h
    have hm : c ∈ leak L R Ro F := by
      unfold leakV at h
      rwa [if_pos hs] at h
    have hf := hs.len
    have h8 := hs.1.2.1
    have hR := hs.1.2.2.1
    have hro := hs.1.2.2.2.2.1
    obtain ⟨⟨hr, _⟩, _⟩ := mem_leak.1 hm
    rw [if_pos (decide_eq_true h), if_pos h, again_eq (by omega) (by omega) (by omega) (by omega), b4_some, clear1_eq hR h8 (by omega) hr.1 hr.2 (by omega), b3_some]
  · rw [if_neg (by simpa using h), if_neg h]
theorem has_eq {K : Nat} {L R Ro : List Int} {c : Int} (hK : 8 < K) : impl_has.f K L R Ro c = some (decide (HV L R Ro ∧ 0 ≤ c ∧ c < L.length)) := by
  unfold impl_has.f
  rw [impl_HeapValid_eq hK, b1_some]
  by_cases h : HV L R Ro
  · rw [if_pos (decide_eq_true h)]
    split
    · exact congrArg some (decide_eq_decide.2 ⟨fun g => ⟨h, by omega, g⟩, fun g => g.2.2⟩)
    · rw [decide_eq_false (fun g => by omega)]
  · rw [if_neg (by simpa using h), decide_eq_false (fun g => h g.1)]
theorem l1Cell_eq {K : Nat} {L R Ro : List Int} {c : Int} (hK : 8 < K) : spec_l1Cell.f K L R Ro c = some (decide (HV L R Ro ∧ 0 ≤ c ∧ c < L.length)) := by
  unfold spec_l1Cell.f
  rw [spec_HeapValid_eq hK, b1_some]
  by_cases h : HV L R Ro
  · rw [if_pos (decide_eq_true h)]
    split
    · exact congrArg some (decide_eq_decide.2 ⟨fun g => ⟨h, by omega, g⟩, fun g => g.2.2⟩)
    · rw [decide_eq_false (fun g => by omega)]
  · rw [if_neg (by simpa using h), decide_eq_false (fun g => h g.1)]
def putR (L R Ro : List Int) (c to : Int) : List Int × List Int × List Int × Bool :=
  if (HV L R Ro ∧ 0 ≤ c ∧ c < L.length) ∧ -1 ≤ to ∧ to < L.length then (L, R.set c.toNat to, Ro, true) else ([], [], [], false)
theorem spec_PutRight_eq {K : Nat} {L R Ro : List Int} {c to : Int} (hK : 8 < K) : spec_PutRight.f K L R Ro c to = some (putR L R Ro c to) := by
  unfold spec_PutRight.f putR
  rw [l1Cell_eq hK, b1_some, l1Points_eq, b1_some]
  by_cases h : HV L R Ro ∧ 0 ≤ c ∧ c < L.length
  · rw [if_pos (decide_eq_true h)]
    by_cases g : -1 ≤ to ∧ to < L.length
    · have := h.1.2.1; have := h.1.2.2.1; have := h.1.2.2.2.2.1
      rw [if_pos (decide_eq_true g), if_pos ⟨h, g⟩, l1Copy_eq (by omega) (by omega) (by omega), b3_some, if_pos (by omega)]
    · rw [if_neg (by simpa using g), if_neg (fun k => g k.2)]
  · rw [if_neg (by simpa using h), if_neg (fun k => h k.1)]
theorem impl_PutRight_eq {K : Nat} {L R Ro : List Int} {c to : Int} (hK : 8 < K) : impl_PutRight.f K L R Ro c to = some (putR L R Ro c to) := by
  unfold impl_PutRight.f putR impl_pointer.f
  rw [has_eq hK, b1_some]
  by_cases h : HV L R Ro ∧ 0 ≤ c ∧ c < L.length
  · rw [if_pos (decide_eq_true h)]
    by_cases g1 : to ≥ -1
    · rw [if_pos g1, b1_some]
      by_cases g : to < (L.length : Int)
      · have := h.1.2.1; have := h.1.2.2.1; have := h.1.2.2.2.2.1
        rw [if_pos (decide_eq_true g), if_pos ⟨h, by omega⟩, copied_eq (by omega) (by omega) (by omega), b3_some, if_pos (by omega)]
      · rw [if_neg (by simpa using g), if_neg (fun k => g k.2.2)]
    · rw [if_neg g1, b1_some, if_neg (by simp), if_neg (fun k => by omega)]
  · rw [if_neg (by simpa using h), if_neg (fun k => h k.1)]
theorem SourcesOf_eq {K : Nat} {L R Ro : List Int} {c : Int} (hK : 8 < K) : impl_SourcesOf.f K L R Ro c = some (if HV L R Ro ∧ 0 ≤ c ∧ c < L.length then src L R c else []) := by
  unfold impl_SourcesOf.f
  rw [has_eq hK, b1_some]
  by_cases h : HV L R Ro ∧ 0 ≤ c ∧ c < L.length
  · rw [if_pos (decide_eq_true h), if_pos h]
    have h8 := h.1.2.1
    have hR := h.1.2.2.1
    exact garb_loop (p := fun j => decide (rd L j = c) || decide (rd R j = c)) (fun m p (l : List Int) => impl_SourcesOf.loop0 K (fun l3 => some l3) L R c m l p) some (n := L.length) (by omega) (by omega)
      (fun m i l hi hl => by
        show impl_SourcesOf.loop0 K _ _ _ _ (m + 1) l (i : Int) = _
        rw [impl_SourcesOf.loop0, if_pos (by omega), if_pos (by omega), w64_succ hi (by omega)]
        by_cases c1 : rd L i = c
        · rw [if_pos c1, if_pos (by simp; omega), if_pos (by simp [c1])]
        · rw [if_neg c1, if_pos (by omega)]
          by_cases c2 : rd R i = c
          · rw [if_pos c2, if_pos (by simp; omega), if_pos (by simp [c2])]
          · rw [if_neg c2, if_neg (by simp [c1, c2])])
      (fun m l => by
        show impl_SourcesOf.loop0 K _ _ _ _ (m + 1) l (L.length : Int) = _
        rw [impl_SourcesOf.loop0, if_neg (by omega)])
  · rw [if_neg (by simpa using h), if_neg h]
theorem CountPointers_eq {K : Nat} {L R Ro : List Int} (hK : 32 < K) : impl_CountPointers.f K L R Ro = some (if HV L R Ro then ((((L ++ R) ++ Ro).filter fun x => !decide (x = -1)).length : Int) else 0) := by
  unfold impl_CountPointers.f
  rw [impl_HeapValid_eq (by omega), b1_some]
  by_cases h : HV L R Ro
  · rw [if_pos (decide_eq_true h), if_pos h]
    obtain ⟨h1, h2, h3, h4, h5, h6, h7, h8⟩ := id h
    rw [Concat_eq (by omega) (by omega) (by omega), b1_some]
    have hlen : ((L ++ R) ++ Ro).length ≤ 19 := by simp; omega
    generalize (L ++ R) ++ Ro = all at hlen
    have := loop_st (fun m p (s : Int) => impl_CountPointers.loop0 K (fun p5 => some p5) all m s p) (fun i => (((all.take i).filter fun x => !decide (x = -1)).length : Int)) all.length (some ((all.filter fun x => !decide (x = -1)).length : Int)) ?_ ?_ (K := K) (by omega)
    · simpa using this
    · intro m i hi
      show impl_CountPointers.loop0 K _ all (m + 1) _ (i : Int) = impl_CountPointers.loop0 K _ all m _ ((i + 1 : Nat) : Int)
      have hb : ((all.take i).filter fun x => !decide (x = -1)).length ≤ 19 := Nat.le_trans (List.length_filter_le _ _) (by rw [List.length_take]; omega)
      rw [impl_CountPointers.loop0, if_pos (by omega), if_pos (by omega), w64_succ hi (by omega), List.take_succ_eq_append_getElem hi, List.filter_append, List.length_append, ← rd_get hi]
      by_cases c : rd all i = -1
      · rw [if_pos c]; simp [c]
      · rw [if_neg c, w64 (by omega) (by omega)]; simp [c]
    · intro m
      show impl_CountPointers.loop0 K _ all (m + 1) _ (all.length : Int) = _
      rw [impl_CountPointers.loop0, if_neg (by omega), List.take_length]
  · rw [if_neg (by simpa using h), if_neg h]
end Go.Proofs.YtnfaiojmabolmaaDoor.T
