/- Pure theorems of marks: the numbers that the exact laws write into results, and that these are still there. -/
import Derived.Test.YtnfaiojmabolmaaDoorPe
namespace Go.Proofs.YtnfaiojmabolmaaDoor.T
open Go Go.RowKit Go.Proofs.YtnfaiojmabolmaaDoor.S Go.Proofs.YtnfaiojmabolmaaDoor.F
set_option linter.unusedVariables false
set_option linter.unusedSimpArgs false
/-- Numbers from k on, as many as a list has. -/
def mk (k : Int) (xs : List Int) : List Int := (upto xs.length).map fun i => k + i
theorem mk_len {k : Int} {xs : List Int} : (mk k xs).length = xs.length := by simp [mk, upto_len]
theorem rd_map_upto' {n : Nat} {f : Int → Int} {x : Int} (h0 : 0 ≤ x) (h1 : x < n) : rd ((upto n).map f) x = f x := by
  have h : x.toNat < n := by omega
  unfold rd upto
  simp [h]
  congr 1; omega
theorem rd_mk {k x : Int} {xs : List Int} (h0 : 0 ≤ x) (h1 : x < xs.length) : rd (mk k xs) x = k + x := rd_map_upto' h0 h1
theorem markIntS_eq {K : Nat} {xs : List Int} {k : Int} (hK : xs.length < K) (hl : xs.length ≤ 1048576) (h0 : 0 ≤ k) (h1 : k ≤ 1099511627776) : laws_markIntS.f K xs k = some (k + xs.length, mk k xs) := by
  unfold laws_markIntS.f
  let up (i : Nat) : List Int := (upto xs.length).map fun j => if j < (i : Int) then k + j else rd xs j
  have up_len : ∀ i, (up i).length = xs.length := fun i => by simp [up, upto_len]
  have rd_up : ∀ i (x : Int), 0 ≤ x → x < xs.length → rd (up i) x = if x < (i : Int) then k + x else rd xs x := fun i x h0 h1 => rd_map_upto' h0 h1
  have up0 : up 0 = xs := ext_rd (up_len _) fun i hi => by
    rw [rd_up 0 i (by omega) (by rw [up_len] at hi; omega), if_neg (by omega)]
  have upn : up xs.length = mk k xs := ext_rd (by rw [up_len, mk_len]) fun i hi => by
    rw [up_len] at hi
    rw [rd_up _ i (by omega) (by omega), rd_mk (by omega) (by omega), if_pos (by omega)]
  have := loop_st (fun m p (s : Int × List Int) => laws_markIntS.loop0 K (fun p5 l3 => some (p5, l3)) m s.1 p s.2) (fun i => (k + i, up i)) xs.length (some (k + xs.length, mk k xs)) ?_ ?_ hK
  · simp only [up0] at this
    rw [show k + ((0 : Nat) : Int) = k by simp] at this
    exact this
  · intro m i hi
    simp only []
    rw [laws_markIntS.loop0, if_pos (by rw [up_len]; omega), if_pos (by rw [up_len]; omega), w64 (x := k + i + 1) (by omega) (by omega), w64_succ hi (by omega), show k + (i : Int) + 1 = k + ((i + 1 : Nat) : Int) by omega]
    congr 1
    refine ext_rd (by rw [List.length_set, up_len, up_len]) fun j hj => ?_
    rw [List.length_set, up_len] at hj
    rw [rd_set (by omega) (by omega) (by rw [up_len]; omega), rd_up _ _ (by omega) (by omega), rd_up _ _ (by omega) (by omega)]
    by_cases c : (i : Int) = j
    · rw [if_pos c, if_pos (by omega)]; omega
    · rw [if_neg c]
      by_cases c2 : (j : Int) < i
      · rw [if_pos c2, if_pos (by omega)]
      · rw [if_neg c2, if_neg (by omega)]
  · intro m
    simp only []
    rw [laws_markIntS.loop0, if_neg (by rw [up_len]; omega), upn]
theorem heldIntS_eq {K : Nat} {xs : List Int} {k : Int} (hK : xs.length < K) (hl : xs.length ≤ 1048576) (h0 : 0 ≤ k) (h1 : k ≤ 1099511627776) : laws_heldIntS.f K (mk k xs) k = some (k + xs.length) := by
  unfold laws_heldIntS.f
  have := loop_st (fun m p (s : Int) => laws_heldIntS.loop0 K (fun p5 => some p5) (mk k xs) m s p) (fun i => k + i) xs.length (some (k + xs.length)) ?_ ?_ hK
  · simpa using this
  · intro m i hi
    show laws_heldIntS.loop0 K _ (mk k xs) (m + 1) (k + (i : Int)) (i : Int) = laws_heldIntS.loop0 K _ (mk k xs) m (k + ((i + 1 : Nat) : Int)) ((i + 1 : Nat) : Int)
    rw [laws_heldIntS.loop0, if_pos (by rw [mk_len]; omega), if_pos (by rw [mk_len]; omega), rd_mk (by omega) (by omega), if_pos rfl, w64 (x := k + i + 1) (by omega) (by omega), w64_succ hi (by omega), show k + (i : Int) + 1 = k + ((i + 1 : Nat) : Int) by omega]
  · intro m
    show laws_heldIntS.loop0 K _ (mk k xs) (m + 1) (k + (xs.length : Int)) (xs.length : Int) = _
    rw [laws_heldIntS.loop0, if_neg (by rw [mk_len]; omega)]
/-- It fits. -/
def Fit (K : Nat) (xs : List Int) : Prop := xs.length < K ∧ xs.length ≤ 1048576
theorem markHeap_eq {K : Nat} {L R Ro : List Int} {k : Int} (hL : Fit K L) (hR : Fit K R) (hRo : Fit K Ro) (h0 : 0 ≤ k) (h1 : k ≤ 1099500000000) : laws_markHeap.f K L R Ro k = some (k + L.length + R.length + Ro.length, mk k L, mk (k + L.length) R, mk (k + L.length + R.length) Ro) := by
  obtain ⟨a, a'⟩ := hL; obtain ⟨b, b'⟩ := hR; obtain ⟨c, c'⟩ := hRo
  unfold laws_markHeap.f
  rw [markIntS_eq a a' h0 (by omega), b2_some, markIntS_eq b b' (by omega) (by omega), b2_some, markIntS_eq c c' (by omega) (by omega), b2_some]
theorem heldHeap_eq {K : Nat} {L R Ro : List Int} {k : Int} (hL : Fit K L) (hR : Fit K R) (hRo : Fit K Ro) (h0 : 0 ≤ k) (h1 : k ≤ 1099500000000) : laws_heldHeap.f K (mk k L) (mk (k + L.length) R) (mk (k + L.length + R.length) Ro) k = some (k + L.length + R.length + Ro.length) := by
  obtain ⟨a, a'⟩ := hL; obtain ⟨b, b'⟩ := hR; obtain ⟨c, c'⟩ := hRo
  unfold laws_heldHeap.f
  rw [heldIntS_eq a a' h0 (by omega), b1_some, if_neg (by omega), heldIntS_eq b b' (by omega) (by omega), b1_some, if_neg (by omega), heldIntS_eq c c' (by omega) (by omega), b1_some, if_neg (by omega)]
theorem markStore_eq {K : Nat} {L R Ro F : List Int} {k : Int} (hL : Fit K L) (hR : Fit K R) (hRo : Fit K Ro) (hF : Fit K F) (h0 : 0 ≤ k) (h1 : k ≤ 1099400000000) : laws_markStore.f K L R Ro F k = some (k + L.length + R.length + Ro.length + F.length, mk k L, mk (k + L.length) R, mk (k + L.length + R.length) Ro, mk (k + L.length + R.length + Ro.length) F) := by
  unfold laws_markStore.f
  rw [markHeap_eq hL hR hRo h0 (by omega), b4_some]
  obtain ⟨a, a'⟩ := hL; obtain ⟨b, b'⟩ := hR; obtain ⟨c, c'⟩ := hRo; obtain ⟨d, d'⟩ := hF
  rw [markIntS_eq d d' (by omega) (by omega), b2_some]
theorem heldStore_eq {K : Nat} {L R Ro F : List Int} {k : Int} (hL : Fit K L) (hR : Fit K R) (hRo : Fit K Ro) (hF : Fit K F) (h0 : 0 ≤ k) (h1 : k ≤ 1099400000000) : laws_heldStore.f K (mk k L) (mk (k + L.length) R) (mk (k + L.length + R.length) Ro) (mk (k + L.length + R.length + Ro.length) F) k = some (k + L.length + R.length + Ro.length + F.length) := by
  unfold laws_heldStore.f
  rw [heldHeap_eq hL hR hRo h0 (by omega), b1_some]
  obtain ⟨a, a'⟩ := hL; obtain ⟨b, b'⟩ := hR; obtain ⟨c, c'⟩ := hRo; obtain ⟨d, d'⟩ := hF
  rw [if_neg (by omega), heldIntS_eq d d' (by omega) (by omega), b1_some, if_neg (by omega)]
theorem Fit.mk {K : Nat} {k : Int} {xs : List Int} (h : Fit K xs) : Fit K (mk k xs) := by unfold Fit; rw [mk_len]; exact h
end Go.Proofs.YtnfaiojmabolmaaDoor.T
