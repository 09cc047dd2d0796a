/- Pure theorems of garbage: what is live, what is garbage, what is leaked, and what is cleared, in the reference. -/
import Derived.Test.YtnfaiojmabolmaaDoorPf
namespace Go.Proofs.YtnfaiojmabolmaaDoor.T
open Go Go.RowKit Go.Proofs.YtnfaiojmabolmaaDoor.S Go.Proofs.YtnfaiojmabolmaaDoor.F
set_option linter.unusedVariables false
set_option linter.unusedSimpArgs false
noncomputable def liveB (L R Ro : List Int) (x : Int) : Bool := @decide (Live L R Ro x) (Classical.propDecidable _)
theorem liveB_iff {L R Ro : List Int} {x : Int} : liveB L R Ro x = true ↔ Live L R Ro x := by unfold liveB; exact @decide_eq_true_iff _ (Classical.propDecidable _)
noncomputable def liv (L R Ro : List Int) : List Bool := (upto L.length).map (liveB L R Ro)
noncomputable def livV (L R Ro : List Int) : List Bool := if HV L R Ro then liv L R Ro else []
theorem liv_len {L R Ro : List Int} : (liv L R Ro).length = L.length := by simp [liv, upto_len]
theorem rd_upto {n : Nat} {x : Int} (h0 : 0 ≤ x) (h1 : x < n) : rd (upto n) x = x := by
  unfold upto; rw [rd_map_range h0 h1, Int.toNat_of_nonneg h0]
theorem rdb_map {xs : List Int} {f : Int → Bool} {x : Int} (h0 : 0 ≤ x) (h1 : x < xs.length) : rdb (xs.map f) x = f (rd xs x) := by
  have h : x.toNat < xs.length := by omega
  unfold rdb rd
  rw [List.getD_eq_getElem?_getD, List.getD_eq_getElem?_getD, List.getElem?_map, List.getElem?_eq_getElem h]
  rfl
theorem rdb_liv {L R Ro : List Int} {x : Int} (h0 : 0 ≤ x) (h1 : x < L.length) : rdb (liv L R Ro) x = liveB L R Ro x := by
  unfold liv
  rw [rdb_map h0 (by rw [upto_len]; exact h1), rd_upto h0 h1]
theorem spec_Reachable_eq {K : Nat} {L R Ro : List Int} (hK : 20 < K) : spec_Reachable.f K L R Ro = some (livV L R Ro) := by
  unfold spec_Reachable.f livV
  rw [spec_HeapValid_eq (by omega), b1_some]
  by_cases h : HV L R Ro
  · rw [if_pos (decide_eq_true h), if_pos h]
    have h8 := h.2.1
    obtain ⟨out, e, hl, hd⟩ := l2Distances_ex h hK
    rw [e, b1_some]
    have := loop_st (fun m p (l : List Bool) => spec_Reachable.loop0 K (fun l3 => some l3) out m l p) (fun i => (upto i).map (liveB L R Ro)) L.length (some (liv L R Ro)) ?_ ?_ (K := K) (by omega)
    · exact this
    · intro m i hi
      show spec_Reachable.loop0 K _ out (m + 1) _ (i : Int) = _
      rw [spec_Reachable.loop0, if_pos (by omega), if_pos (by omega), if_pos (by simp [upto_len]; omega), w64_succ hi (by omega), upto_succ, List.map_append]
      have : decide (rd out i > 0) = liveB L R Ro i := by
        rw [Bool.eq_iff_iff, decide_eq_true_iff, liveB_iff]
        exact hd i (by omega) (by omega)
      rw [this]; rfl
    · intro m
      show spec_Reachable.loop0 K _ out (m + 1) _ (L.length : Int) = _
      rw [spec_Reachable.loop0, if_neg (by omega)]; rfl
  · rw [if_neg (by simpa using h), if_neg h]
noncomputable def gar (L R Ro : List Int) : List Int := (upto L.length).filter fun x => !liveB L R Ro x
noncomputable def garV (L R Ro : List Int) : List Int := if HV L R Ro then gar L R Ro else []
theorem mem_gar {L R Ro : List Int} {x : Int} : x ∈ gar L R Ro ↔ (0 ≤ x ∧ x < L.length) ∧ ¬Live L R Ro x := by
  unfold gar
  rw [List.mem_filter, mem_upto, Bool.not_eq_true', ← Bool.not_eq_true, liveB_iff]
theorem gar_nodup {L R Ro : List Int} : (gar L R Ro).Nodup := (upto_nodup _).filter _
theorem gar_len {L R Ro : List Int} : (gar L R Ro).length ≤ L.length := by
  unfold gar
  exact Nat.le_trans (List.length_filter_le _ _) (by rw [upto_len]; exact Nat.le_refl _)
/-- Numbers are picked out, by a list of yes and no. -/
theorem garb_loop {β : Type} {K n : Nat} {p : Int → Bool} (L : Nat → Int → List Int → Option β) (κ : List Int → Option β) (hn : n ≤ 1000000) (hK : n < K)
    (hs : ∀ m (i : Nat) l, i < n → l.length ≤ i → L (m + 1) (i : Int) l = if p (i : Int) = true then L m ((i + 1 : Nat) : Int) (l ++ [(i : Int)]) else L m ((i + 1 : Nat) : Int) l) (he : ∀ m l, L (m + 1) (n : Int) l = κ l) : L K (0 : Int) [] = κ ((upto n).filter p) := by
  have := loop_st L (fun i => (upto i).filter p) n (κ ((upto n).filter p)) ?_ ?_ hK
  · exact this
  · intro m i hi
    have hl : ((upto i).filter p).length ≤ i := Nat.le_trans (List.length_filter_le _ _) (by rw [upto_len]; exact Nat.le_refl _)
    rw [hs m i _ hi hl, upto_succ, List.filter_append]
    by_cases c : p (i : Int) = true
    · rw [if_pos c]; simp [c]
    · rw [if_neg c]; simp [c]
  · intro m; exact he m _
theorem spec_GarbageOf_eq {K : Nat} {L R Ro : List Int} (hK : 20 < K) : spec_GarbageOf.f K L R Ro = some (garV L R Ro) := by
  unfold spec_GarbageOf.f garV
  rw [spec_Reachable_eq hK, b1_some]
  unfold livV
  by_cases h : HV L R Ro
  · rw [if_pos h, if_pos h]
    have h8 := h.2.1
    have hl := @liv_len L R Ro
    exact garb_loop (p := fun x => !liveB L R Ro x) (fun m p (l : List Int) => spec_GarbageOf.loop0 K (fun l3 => some l3) (liv L R Ro) m l p) some (n := L.length) (by omega) (by omega)
      (fun m i l hi hl2 => by
        show spec_GarbageOf.loop0 K _ _ (m + 1) l (i : Int) = _
        rw [spec_GarbageOf.loop0, if_pos (by omega), if_pos (by omega), w64_succ hi (by omega), rdb_liv (by omega) (by omega)]
        by_cases c : liveB L R Ro i = true
        · rw [if_pos c, if_neg (by simp [c])]
        · rw [if_neg c, if_pos (by simp; omega), if_pos (by simpa using c)])
      (fun m l => by
        show spec_GarbageOf.loop0 K _ _ (m + 1) l (L.length : Int) = _
        rw [spec_GarbageOf.loop0, if_neg (by omega)])
  · rw [if_neg h, if_neg h]
    obtain ⟨K, rfl⟩ : ∃ K', K = K' + 1 := ⟨K - 1, by omega⟩
    rw [spec_GarbageOf.loop0, if_neg (by simp)]
/-- Elements are picked out of a list. -/
theorem filt_loop {β : Type} {K : Nat} {xs : List Int} {p : Int → Bool} (L : Nat → Int → List Int → Option β) (κ : List Int → Option β) (hK : xs.length < K)
    (hs : ∀ m (i : Nat) l, i < xs.length → l.length ≤ i → L (m + 1) (i : Int) l = if p (rd xs i) = true then L m ((i + 1 : Nat) : Int) (l ++ [rd xs i]) else L m ((i + 1 : Nat) : Int) l) (he : ∀ m l, L (m + 1) (xs.length : Int) l = κ l) : L K (0 : Int) [] = κ (xs.filter p) := by
  have := loop_st L (fun i => (xs.take i).filter p) xs.length (κ (xs.filter p)) ?_ ?_ hK
  · simpa using this
  · intro m i hi
    have hl : ((xs.take i).filter p).length ≤ i := Nat.le_trans (List.length_filter_le _ _) (by rw [List.length_take]; omega)
    rw [hs m i _ hi hl, List.take_succ_eq_append_getElem hi, List.filter_append, rd_get hi]
    by_cases c : p xs[i] = true
    · rw [if_pos c]; simp [c]
    · rw [if_neg c]; simp [c]
  · intro m; rw [List.take_length]; exact he m _
noncomputable def leak (L R Ro F : List Int) : List Int := (gar L R Ro).filter fun x => !decide (x ∈ F)
noncomputable def leakV (L R Ro F : List Int) : List Int := if SV L R Ro F then leak L R Ro F else []
theorem mem_leak {L R Ro F : List Int} {x : Int} : x ∈ leak L R Ro F ↔ ((0 ≤ x ∧ x < L.length) ∧ ¬Live L R Ro x) ∧ x ∉ F := by
  unfold leak
  rw [List.mem_filter, mem_gar, Bool.not_eq_true', decide_eq_false_iff_not]
theorem leak_nodup {L R Ro F : List Int} : (leak L R Ro F).Nodup := gar_nodup.filter _
theorem leak_len {L R Ro F : List Int} : (leak L R Ro F).length ≤ L.length := Nat.le_trans (List.length_filter_le _ _) gar_len
theorem leakV_len {L R Ro F : List Int} : (leakV L R Ro F).length ≤ 8 := by
  unfold leakV
  split
  · rename_i h; exact Nat.le_trans leak_len h.1.2.1
  · simp
theorem spec_LeakedOf_eq {K : Nat} {L R Ro F : List Int} (hK : 20 < K) : spec_LeakedOf.f K L R Ro F = some (leakV L R Ro F) := by
  unfold spec_LeakedOf.f leakV
  rw [spec_StoreValid_eq (by omega), b1_some]
  by_cases h : SV L R Ro F
  · rw [if_pos (decide_eq_true h), if_pos h, spec_GarbageOf_eq hK, b1_some]
    unfold garV
    rw [if_pos h.1]
    have h8 := h.1.2.1
    have hf := h.len
    have hg := @gar_len L R Ro
    exact filt_loop (fun m p (l : List Int) => spec_LeakedOf.loop0 K (fun l3 => some l3) F (gar L R Ro) m l p) some (by omega)
      (fun m i l hi hl => by
        show spec_LeakedOf.loop0 K _ _ _ (m + 1) l (i : Int) = _
        rw [spec_LeakedOf.loop0, if_pos (by omega), if_pos (by omega), l4At_eq (by omega) (by omega), b1_some, w64_succ hi (by omega)]
        by_cases c : rd (gar L R Ro) i ∈ F
        · rw [if_neg (fun g => fi_neg.1 g c), if_neg (by simpa using c)]
        · rw [if_pos (fi_neg.2 c), if_pos (by simp; omega), if_pos (by simpa using c)])
      (fun m l => by
        show spec_LeakedOf.loop0 K _ _ _ (m + 1) l ((gar L R Ro).length : Int) = _
        rw [spec_LeakedOf.loop0, if_neg (by omega)])
  · rw [if_neg (by simpa using h), if_neg h]
/-! ### what is cleared -/
/-- A pointer row without the pointers to these, and without those of these. -/
def clr (cells : List Int) (xs : List Int) : List Int := (upto xs.length).map fun i => if rd xs i ∈ cells ∨ i ∈ cells then -1 else rd xs i
theorem clr_len {cells xs : List Int} : (clr cells xs).length = xs.length := by simp [clr, upto_len]
theorem rd_map_upto {n : Nat} {f : Int → Int} {x : Int} (h0 : 0 ≤ x) (h1 : x < n) : rd ((upto n).map f) x = f x := by
  have h : x.toNat < (upto n).length := by rw [upto_len]; omega
  have e : (upto n)[x.toNat]'h = x := by
    have := rd_upto (n := n) h0 h1
    unfold rd at this
    rwa [List.getD_eq_getElem?_getD, List.getElem?_eq_getElem h] at this
  unfold rd
  rw [List.getD_eq_getElem?_getD, List.getElem?_map, List.getElem?_eq_getElem h, e]
  rfl
theorem rd_clr {cells xs : List Int} {x : Int} (h0 : 0 ≤ x) (h1 : x < xs.length) : rd (clr cells xs) x = if rd xs x ∈ cells ∨ x ∈ cells then -1 else rd xs x := rd_map_upto h0 h1
theorem l4Clear_eq {K : Nat} {L R Ro F cells : List Int} (h : R.length = L.length) (h8 : L.length ≤ 8) (hRo : Ro.length ≤ 1000) (hF : F.length ≤ 1000) (hc : cells.length ≤ 1000) (hK : 1000 < K) : spec_l4Clear.f K L R Ro F cells = some (clr cells L, clr cells R, Ro, F ++ cells) := by
  unfold spec_l4Clear.f
  rw [l4Copy_eq (by omega) (by omega) (by omega) (by omega), b4_some]
  -- rows that are cleared up to i
  let up (i : Nat) (xs : List Int) : List Int := (upto xs.length).map fun j => if j < (i : Int) ∧ (rd xs j ∈ cells ∨ j ∈ cells) then -1 else rd xs j
  have up_len : ∀ i xs, (up i xs).length = xs.length := fun i xs => by simp [up, upto_len]
  have rd_up : ∀ i xs (x : Int), 0 ≤ x → x < xs.length → rd (up i xs) x = if x < (i : Int) ∧ (rd xs x ∈ cells ∨ x ∈ cells) then -1 else rd xs x := fun i xs x h0 h1 => rd_map_upto h0 h1
  have up0 : ∀ xs, up 0 xs = xs := fun xs => ext_rd (up_len _ _) fun i hi => by
    rw [rd_up 0 xs i (by omega) (by rw [up_len] at hi; omega), if_neg (by omega)]
  have upn : ∀ xs, up xs.length xs = clr cells xs := fun xs => ext_rd (by rw [up_len, clr_len]) fun i hi => by
    rw [up_len] at hi
    rw [rd_up _ xs i (by omega) (by omega), rd_clr (by omega) (by omega)]
    by_cases c : rd xs i ∈ cells ∨ (i : Int) ∈ cells
    · rw [if_pos ⟨by omega, c⟩, if_pos c]
    · rw [if_neg (fun g => c g.2), if_neg c]
  have up_yes : ∀ (i : Nat) xs, i < xs.length → (rd xs i ∈ cells ∨ (i : Int) ∈ cells) → (up i xs).set (i : Int).toNat (-1) = up (i + 1) xs := fun i xs hi hy => ext_rd (by rw [List.length_set, up_len, up_len]) fun j hj => by
    rw [List.length_set, up_len] at hj
    rw [rd_set (by omega) (by omega) (by rw [up_len]; omega), rd_up _ _ _ (by omega) (by omega), rd_up _ _ _ (by omega) (by omega)]
    by_cases c : (i : Int) = j
    · rw [if_pos c, ← c, if_pos ⟨by omega, hy⟩]
    · rw [if_neg c]
      by_cases c2 : (j : Int) < i ∧ (rd xs j ∈ cells ∨ (j : Int) ∈ cells)
      · rw [if_pos c2, if_pos ⟨by omega, c2.2⟩]
      · rw [if_neg c2, if_neg (fun g => c2 ⟨by omega, g.2⟩)]
  have up_no : ∀ (i : Nat) xs, i < xs.length → ¬(rd xs i ∈ cells ∨ (i : Int) ∈ cells) → up i xs = up (i + 1) xs := fun i xs hi hy => ext_rd (by rw [up_len, up_len]) fun j hj => by
    rw [up_len] at hj
    rw [rd_up _ _ _ (by omega) (by omega), rd_up _ _ _ (by omega) (by omega)]
    by_cases c : (i : Int) = j
    · rw [if_neg (by omega), ← c, if_neg (fun g => hy g.2)]
    · by_cases c2 : (j : Int) < i ∧ (rd xs j ∈ cells ∨ (j : Int) ∈ cells)
      · rw [if_pos c2, if_pos ⟨by omega, c2.2⟩]
      · rw [if_neg c2, if_neg (fun g => c2 ⟨by omega, g.2⟩)]
  have up_at : ∀ (i : Nat) xs, i < xs.length → rd (up i xs) i = rd xs i := fun i xs hi => by
    rw [rd_up _ _ _ (by omega) (by omega), if_neg (by omega)]
  have := loop_st (fun m p (s : List Int × List Int) => spec_l4Clear.loop0 K (fun l5 l6 => if F.length + cells.length ≤ 1099511627776 then some (l5, l6, Ro, (F ++ cells)) else none) cells m p s.1 s.2) (fun i => (up i L, up i R)) L.length (some (clr cells L, clr cells R, Ro, F ++ cells)) ?_ ?_ (K := K) (by omega)
  · simp only [up0] at this
    exact this
  · intro m i hi
    have c1 := up_len i L
    have c2 := up_len i R
    have a1 := up_at i L hi
    have a2 := up_at i R (by omega)
    have y1 := up_yes i L hi
    have y2 := up_yes i R (by omega)
    have n1 := up_no i L hi
    have n2 := up_no i R (by omega)
    have hat : ∀ x, spec_l4At.f K cells x = some (fi cells x) := fun x => l4At_eq (by omega) (by omega)
    simp only []
    rw [spec_l4Clear.loop0, if_pos (by omega), if_pos (by omega)]
    have hR : 0 ≤ (i : Int) ∧ (i : Int) < ((up i R).length : Int) := by omega
    simp only [hat, b1_some, ge_iff_le, fi_nonneg, a1, a2, hR, and_self, if_true]
    rw [w64_succ hi (by omega)]
    by_cases e1 : rd L i ∈ cells <;> by_cases e2 : rd R i ∈ cells <;> by_cases e3 : (i : Int) ∈ cells <;> simp only [e1, e2, e3, if_true, if_false]
    · rw [y1 (.inl e1), y2 (.inl e2)]
    · rw [y1 (.inl e1), y2 (.inl e2)]
    · rw [y1 (.inl e1), y2 (.inr e3)]
    · rw [y1 (.inl e1), n2 (fun g => g.elim e2 e3)]
    · rw [y1 (.inr e3), y2 (.inl e2)]
    · rw [n1 (fun g => g.elim e1 e3), y2 (.inl e2)]
    · rw [y1 (.inr e3), y2 (.inr e3)]
    · rw [n1 (fun g => g.elim e1 e3), n2 (fun g => g.elim e2 e3)]
  · intro m
    simp only []
    rw [spec_l4Clear.loop0, if_neg (by rw [up_len]; omega), if_pos (by omega), upn, show up L.length R = clr cells R by rw [← h]; exact upn R]
end Go.Proofs.YtnfaiojmabolmaaDoor.T
