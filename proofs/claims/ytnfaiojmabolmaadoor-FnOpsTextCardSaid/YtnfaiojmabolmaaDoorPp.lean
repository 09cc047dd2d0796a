/- Pure theorems of drawn laws of heaps and stores: FnCountsPut, FnCountsOf, FnFreeLeft. -/
import Derived.Test.YtnfaiojmabolmaaDoorPn
import Derived.Test.YtnfaiojmabolmaaDoorPk
import Derived.Test.YtnfaiojmabolmaaDoorPj
namespace Go.Proofs.YtnfaiojmabolmaaDoor.T
open Go Go.RowKit Go.Proofs.YtnfaiojmabolmaaDoor.S Go.Proofs.YtnfaiojmabolmaaDoor.F
set_option linter.unusedVariables false
set_option linter.unusedSimpArgs false
theorem putR_len {L R Ro : List Int} {c to : Int} : (putR L R Ro c to).1.length ≤ L.length ∧ (putR L R Ro c to).2.1.length ≤ R.length ∧ (putR L R Ro c to).2.2.1.length ≤ Ro.length := by
  unfold putR; split <;> simp
theorem DrawHeapValid_ex {K : Nat} {a : List Int} (hu : ∀ x ∈ a, U8 x) (hK : 8 < K) : ∃ L R Ro, spec_DrawHeapValid.f K a = some (L, R, Ro) ∧ Short 9 L R Ro [] := by
  have h := Src.open hu
  unfold spec_DrawHeapValid.f
  rw [l13Open_eq, b1_some]
  obtain ⟨L, R, Ro, p, e1, hv, p0, p1⟩ := l1Draw_ex (K := K) h (by omega) hK
  obtain ⟨L', R', Ro', p', e2, hs, _⟩ := l1Wrong_ex (K := K) (h.at (p' := p) (by omega) (by omega)) (by omega) hv.short (by omega)
  rw [e1, b4_some, e2, b4_some]
  exact ⟨_, _, _, rfl, hs⟩
theorem DrawPutRight_ex {K : Nat} {a : List Int} (hu : ∀ x ∈ a, U8 x) (hK : 8 < K) : ∃ L R Ro c to, spec_DrawPutRight.f K a = some (L, R, Ro, c, to) ∧ Short 9 L R Ro [] := by
  have h := Src.open hu
  unfold spec_DrawPutRight.f spec_l1Case.f
  rw [l13Open_eq, b1_some]
  obtain ⟨L, R, Ro, p, e1, hv, p0, p1⟩ := l1Draw_ex (K := K) h (by omega) hK
  obtain ⟨L', R', Ro', p', e2, hs, p2, p3⟩ := l1Wrong_ex (K := K) (h.at (p' := p) (by omega) (by omega)) (by omega) hv.short (by omega)
  obtain ⟨c, e3, _⟩ := num_ex (K := K) (l := [0, 1, 2, 3, 0, 8, -1]) (h.at (p' := p') (by omega) (by omega)) (by simp) (by simp)
  obtain ⟨to, e4, _⟩ := num_ex (K := K) (l := [1, 0, 2, -1, 3, 8, -2]) (h.at (p' := p' + 1) (by omega) (by omega)) (by simp) (by simp)
  rw [e1, b4_some, e2, b4_some, e3, b2_some, e4, b2_some, b5_some]
  exact ⟨_, _, _, _, _, rfl, hs⟩
theorem l4Case_ex {K : Nat} {a : List Int} (hu : ∀ x ∈ a, U8 x) (hK : 20 < K) : ∃ L R Ro F c, spec_l4Case.f K a = some (L, R, Ro, F, c) ∧ Short 10 L R Ro F := by
  have h := Src.open hu
  unfold spec_l4Case.f
  rw [l13Open_eq, b1_some]
  obtain ⟨L, R, Ro, F, p, e1, hv, p0, p1⟩ := l4Draw_ex (K := K) h (by omega) hK
  obtain ⟨L', R', Ro', F', p', e2, hs, p2, p3⟩ := l4Wrong_ex (K := K) (h.at (p' := p) (by omega) (by omega)) (by omega) hv.short (by omega)
  obtain ⟨c, e3, _⟩ := num_ex (K := K) (l := [0, 1, 2, 3, 8, -1]) (h.at (p' := p') (by omega) (by omega)) (by simp) (by simp)
  rw [e1, b5_some, e2, b5_some, e3, b2_some, spec_LeakedOf_eq hK, b1_some]
  have hll := @leakV_len L' R' Ro' F'
  by_cases k : ((leakV L' R' Ro' F').length : Int) > 0
  · rw [if_pos k]
    obtain ⟨v, ev, _⟩ := pick_ex (K := K) (n := 2) (h.at (p' := p' + 1) (by omega) (by omega)) (by omega)
    rw [ev, b2_some]
    split
    · obtain ⟨u, eu, u0, u1, _⟩ := pick_ex (K := K) (n := (leakV L' R' Ro' F').length) (h.at (p' := p' + 1 + 1) (by omega) (by omega)) (by omega)
      rw [eu, b2_some, if_pos ⟨u0, u1 (by omega)⟩]
      exact ⟨_, _, _, _, _, rfl, hs⟩
    · exact ⟨_, _, _, _, _, rfl, hs⟩
  · rw [if_neg k]
    exact ⟨_, _, _, _, _, rfl, hs⟩
end Go.Proofs.YtnfaiojmabolmaaDoor.T
namespace Go.Proofs.YtnfaiojmabolmaaDoor.Pure
open Go Go.RowKit Go.Proofs.YtnfaiojmabolmaaDoor.S Go.Proofs.YtnfaiojmabolmaaDoor.F Go.Proofs.YtnfaiojmabolmaaDoor.T
theorem FnCountsPut : ∀ (a0 : List Int), a0.length ≤ 9223372036854775807 → (∀ x ∈ a0, U8 x) → ∃ K, laws_FnCountsPut.f K a0 = some true := by
  intro a _ hu
  refine ⟨KK, ?_⟩
  unfold laws_FnCountsPut.f
  by_cases big : (a.length : Int) > 1048576
  · rw [if_pos big]
  rw [if_neg big]
  obtain ⟨L, R, Ro, c, to, e, hs⟩ := DrawPutRight_ex (K := KK) hu (by decide)
  obtain ⟨s1, s2, s3, s4, s5⟩ := hs
  have hl := @putR_len L R Ro c to
  have hsame := impl_HeapSame_eq (K := KK) (a := (putR L R Ro c to).1) (b := (putR L R Ro c to).2.1) (c := (putR L R Ro c to).2.2.1) (a' := (putR L R Ro c to).1) (b' := (putR L R Ro c to).2.1) (c' := (putR L R Ro c to).2.2.1) (by show _ < 1048577; omega) (by show _ < 1048577; omega) (by show _ < 1048577; omega) (by decide)
  simp only [and_self, decide_true] at hsame
  simp only [e, b5_some, spec_PutRight_eq (K := KK) (L := L) (R := R) (Ro := Ro) (c := c) (to := to) (by decide), impl_PutRight_eq (K := KK) (L := L) (R := R) (Ro := Ro) (c := c) (to := to) (by decide), b4_p, hsame, b1_some, if_true, impl_CountsOf_eq (K := KK) (by decide), BEq.rfl]
  by_cases h : (HV L R Ro ∧ 0 ≤ c ∧ c < L.length) ∧ -1 ≤ to ∧ to < L.length
  rotate_left
  · unfold putR; rw [if_neg h, if_neg (by simp)]
  unfold putR
  simp only [if_pos h, if_true]
  obtain ⟨⟨hv, c0, c1⟩, ht⟩ := h
  have hv' : HV L (R.set c.toNat to) Ro := hv.setR ht
  have h8 := hv.2.1
  have hR := hv.2.2.1
  unfold cntV
  rw [if_pos hv, if_pos hv']
  -- what the counts differ by
  have dif : ∀ i : Nat, i < L.length → rd (cntL L (R.set c.toNat to) Ro) i - rd (cntL L R Ro) i = (if to = (i : Int) then 1 else 0) - (if rd R c = (i : Int) then 1 else 0) := by
    intro i hi
    rw [rd_cntL (by omega) (by omega), rd_cntL (by omega) (by omega)]
    have s := count_set_rd (xs := R) (v := to) (x := (i : Int)) c0 (by omega)
    unfold cnt
    omega
  have small : ∀ i : Nat, i < L.length → -1 ≤ rd (cntL L (R.set c.toNat to) Ro) i - rd (cntL L R Ro) i ∧ rd (cntL L (R.set c.toNat to) Ro) i - rd (cntL L R Ro) i ≤ 1 := by
    intro i hi
    rw [dif i hi]; split <;> split <;> omega
  let P : Int → Bool := fun i => !decide (rd (cntL L (R.set c.toNat to) Ro) i - rd (cntL L R Ro) i = 0)
  have two : ((upto L.length).filter P).length ≤ 2 := by
    have hsub : (upto L.length).filter P ⊆ [to, rd R c] := by
      intro x hx
      have hx := List.mem_filter.1 hx
      have hr := mem_upto.1 hx.1
      have hp : ¬rd (cntL L (R.set c.toNat to) Ro) x - rd (cntL L R Ro) x = 0 := by simpa [P] using hx.2
      have e := dif x.toNat (by omega)
      rw [Int.toNat_of_nonneg hr.1] at e
      rw [List.mem_cons, List.mem_singleton]
      by_cases k1 : to = x
      · exact .inl k1.symm
      · by_cases k2 : rd R c = x
        · exact .inr k2.symm
        · rw [if_neg k1, if_neg k2] at e; omega
    exact List.Nodup.length_le_of_subset (List.Pairwise.filter _ (upto_nodup _)) hsub
  have cl1 := @cntL_len L R Ro
  have cl2 := @cntL_len L (R.set c.toNat to) Ro
  have key := loop_st (fun m p (s : Int) => laws_FnCountsPut.loop0 KK (fun p5 => some (decide (p5 ≤ (2:Int)))) (cntL L R Ro) (cntL L (R.set c.toNat to) Ro) m s p) (fun i => (((upto i).filter P).length : Int)) L.length (some true) ?_ ?_ (K := KK) (by show _ < 1048577; omega)
  · exact key
  · intro m i hi
    show laws_FnCountsPut.loop0 KK _ _ _ (m + 1) _ (i : Int) = laws_FnCountsPut.loop0 KK _ _ _ m _ ((i + 1 : Nat) : Int)
    have sm := small i hi
    have hb : ((upto i).filter P).length ≤ i := Nat.le_trans (List.length_filter_le _ _) (by rw [upto_len]; exact Nat.le_refl _)
    rw [laws_FnCountsPut.loop0, if_pos (by omega), if_pos (by omega), if_pos (by omega), w64 (x := _ - _) (by omega) (by omega), if_neg (by omega), if_neg (by omega), w64_succ hi (by omega), upto_succ, List.filter_append, List.length_append]
    by_cases k : rd (cntL L (R.set c.toNat to) Ro) i - rd (cntL L R Ro) i = 0
    · rw [if_pos k]
      have : [(i : Int)].filter P = [] := by simp [P, k]
      rw [this]; rfl
    · rw [if_neg k, w64 (by omega) (by omega)]
      have : [(i : Int)].filter P = [(i : Int)] := by simp [P, k]
      rw [this]; rfl
  · intro m
    show laws_FnCountsPut.loop0 KK _ _ _ (m + 1) _ (L.length : Int) = _
    rw [laws_FnCountsPut.loop0, if_neg (by omega)]
    exact congrArg some (decide_eq_true (by omega))
theorem FnCountsOf : ∀ (a0 : List Int), a0.length ≤ 9223372036854775807 → (∀ x ∈ a0, U8 x) → ∃ K, laws_FnCountsOf.f K a0 = some true := by
  intro a _ hu
  refine ⟨KK, ?_⟩
  unfold laws_FnCountsOf.f
  by_cases big : (a.length : Int) > 1048576
  · rw [if_pos big]
  rw [if_neg big]
  obtain ⟨L, R, Ro, e, hs⟩ := DrawHeapValid_ex (K := KK) hu (by decide)
  obtain ⟨s1, s2, s3, s4, s5⟩ := hs
  have e' : spec_DrawCountsOf.f KK a = some (L, R, Ro) := by unfold spec_DrawCountsOf.f; rw [e, b3_some]
  have hcl : (cntV L R Ro).length ≤ 9 := by unfold cntV; split; (rw [cntL_len]; exact s2); simp
  have hcc := ccInts_eq (K := KK) (a := cntV L R Ro) (b := cntV L R Ro) (by show _ < 1048577; omega) (by omega)
  simp only [decide_true] at hcc
  simp only [e', b3_some, spec_CountsOf_eq (K := KK) (L := L) (R := R) (Ro := Ro) (by decide), impl_CountsOf_eq (K := KK) (L := L) (R := R) (Ro := Ro) (by decide), b1_some, hcc, if_true, impl_HeapValid_eq (K := KK) (L := L) (R := R) (Ro := Ro) (by decide), CountPointers_eq (K := KK) (L := L) (R := R) (Ro := Ro) (by decide), decide_eq_true_eq]
  by_cases hv : HV L R Ro
  rotate_left
  · rw [if_neg hv]; unfold cntV; rw [if_neg hv]; rfl
  rw [if_pos hv]
  unfold cntV
  simp only [if_pos hv]
  have h8 := hv.2.1
  have hR := hv.2.2.1
  have hsum := count_sum hv.app
  rw [← cntL_app] at hsum
  have cl := @cntL_len L R Ro
  have bound : ∀ i : Nat, i < L.length → 0 ≤ rd (cntL L R Ro) i ∧ rd (cntL L R Ro) i ≤ 19 := by
    intro i hi
    rw [rd_cntL (by omega) (by omega)]
    unfold cnt
    have a1 := List.count_le_length (a := (i : Int)) (l := L)
    have a2 := List.count_le_length (a := (i : Int)) (l := R)
    have a3 := List.count_le_length (a := (i : Int)) (l := Ro)
    have := hv.2.2.2.2.1
    omega
  have sb : ∀ i : Nat, i ≤ L.length → 0 ≤ ((cntL L R Ro).take i).sum ∧ ((cntL L R Ro).take i).sum ≤ 19 * i := by
    intro i
    induction i with
    | zero => intro _; simp
    | succ i ih =>
      intro hi
      have b := bound i (by omega)
      have ih := ih (by omega)
      rw [List.take_succ_eq_append_getElem (by omega), List.sum_append, ← rd_get (by omega)]
      simp only [List.sum_cons, List.sum_nil]
      omega
  have key := loop_st (fun m p (s : Int) => laws_FnCountsOf.loop0 KK (fun p5 => if p5 = ((((L ++ R) ++ Ro).filter fun x => !decide (x = -1)).length : Int) then some (((cntL L R Ro).length : Int) == (L.length : Int)) else some false) L R Ro (cntL L R Ro) m s p) (fun i => ((cntL L R Ro).take i).sum) L.length (some true) ?_ ?_ (K := KK) (by show _ < 1048577; omega)
  · simpa using key
  · intro m i hi
    show laws_FnCountsOf.loop0 KK _ _ _ _ _ (m + 1) _ (i : Int) = laws_FnCountsOf.loop0 KK _ _ _ _ _ m _ ((i + 1 : Nat) : Int)
    have b := bound i hi
    have s := sb i (by omega)
    have hsl := src_le (Ro := Ro) hR (i : Int)
    have es : impl_SourcesOf.f KK L R Ro (i : Int) = some (src L R i) := by rw [SourcesOf_eq (by decide), if_pos ⟨hv, by omega, by omega⟩]
    have er := rd_cntL (L := L) (R := R) (Ro := Ro) (x := (i : Int)) (by omega) (by omega)
    rw [laws_FnCountsOf.loop0, if_pos (by omega), if_pos (by omega), es, b1_some, if_neg (by omega), w64_succ hi (by omega), w64 (by omega) (by omega), List.take_succ_eq_append_getElem (by omega), List.sum_append, ← rd_get (by omega)]
    simp
  · intro m
    show laws_FnCountsOf.loop0 KK _ _ _ _ _ (m + 1) _ (L.length : Int) = _
    rw [laws_FnCountsOf.loop0, if_neg (by omega), List.take_of_length_le (by omega), hsum, if_pos rfl, cl]
    simp
theorem FnFreeLeft : ∀ (a0 : List Int), a0.length ≤ 9223372036854775807 → (∀ x ∈ a0, U8 x) → ∃ K, laws_FnFreeLeft.f K a0 = some true := by
  intro a _ hu
  refine ⟨KK, ?_⟩
  unfold laws_FnFreeLeft.f
  by_cases big : (a.length : Int) > 1048576
  · rw [if_pos big]
  rw [if_neg big]
  obtain ⟨L, R, Ro, F, c, e, hs⟩ := l4Case_ex (K := KK) hu (by decide)
  obtain ⟨s1, s2, s3, s4, s5⟩ := hs
  have e' : spec_DrawFreeCell.f KK a = some (L, R, Ro, F, c) := by unfold spec_DrawFreeCell.f; rw [e, b5_some]
  have hl : (fcV L R Ro F c).1.length ≤ 11 ∧ (fcV L R Ro F c).2.1.length ≤ 11 ∧ (fcV L R Ro F c).2.2.1.length ≤ 11 ∧ (fcV L R Ro F c).2.2.2.1.length ≤ 11 := by
    unfold fcV; split
    · simp only [clr_len, List.length_append, List.length_singleton]; omega
    · simp
  have hsame := impl_StoreSame_eq (K := KK) (a := (fcV L R Ro F c).1) (b := (fcV L R Ro F c).2.1) (c := (fcV L R Ro F c).2.2.1) (d := (fcV L R Ro F c).2.2.2.1) (a' := (fcV L R Ro F c).1) (b' := (fcV L R Ro F c).2.1) (c' := (fcV L R Ro F c).2.2.1) (d' := (fcV L R Ro F c).2.2.2.1) (by show _ < 1048577; omega) (by show _ < 1048577; omega) (by show _ < 1048577; omega) (by show _ < 1048577; omega) (by decide)
  simp only [and_self, decide_true] at hsame
  simp only [e', b5_some, spec_FreeCell_eq (K := KK) (L := L) (R := R) (Ro := Ro) (F := F) (c := c) (by decide), impl_FreeCell_eq (K := KK) (L := L) (R := R) (Ro := Ro) (F := F) (c := c) (by decide) (show F.length < 1048577 by omega) (by omega), b5_p, hsame, b1_some, if_true, BEq.rfl]
  by_cases h : c ∈ leakV L R Ro F
  rotate_left
  · unfold fcV; rw [if_neg h, if_neg (by simp)]
  unfold fcV
  simp only [if_pos h, if_true]
  have hsv : SV L R Ro F := by
    unfold leakV at h
    split at h
    · rename_i g; exact g
    · simp at h
  have hm : c ∈ leak L R Ro F := by
    unfold leakV at h
    rwa [if_pos hsv] at h
  have hsv' := hsv.clr hm
  have el : leakV (clr [c] L) (clr [c] R) Ro (F ++ [c]) = (leakV L R Ro F).erase c := by
    unfold leakV
    rw [if_pos hsv, if_pos hsv', leak_clr hsv hm]
  have hnot : c ∉ leakV (clr [c] L) (clr [c] R) Ro (F ++ [c]) := by
    rw [el]
    have : (leakV L R Ro F).Nodup := by
      unfold leakV; rw [if_pos hsv]; exact leak_nodup
    rw [this.mem_erase_iff]
    simp
  have hF1 : (F ++ [c]).length < 1048577 := by rw [List.length_append, List.length_singleton]; omega
  rw [impl_FreeCell_eq (by decide) hF1 (by omega), b5_p]
  rw [impl_LeakedOf_eq (by decide) hF1 (by omega), b1_some, impl_LeakedOf_eq (by decide) (show F.length < 1048577 by omega) (by omega), b1_some, el, List.length_erase_of_mem h]
  have hp : 0 < (leakV L R Ro F).length := List.length_pos_of_mem h
  have hll := @leakV_len L R Ro F
  have e3 : fcV (clr [c] L) (clr [c] R) Ro (F ++ [c]) c = ([], [], [], [], false) := by unfold fcV; rw [if_neg hnot]
  simp only [e3, Bool.false_eq_true, if_false]
  rw [w64 (by omega) (by omega), if_pos (by omega), List.length_append, List.length_singleton, w64 (by omega) (by omega), if_pos (by omega)]
  have : rd (F ++ [c]) (((F.length + 1 : Nat) : Int) - 1) = c := by
    rw [show (((F.length + 1 : Nat) : Int) - 1) = F.length by omega]; exact rd_app_r
  rw [this]; simp
end Go.Proofs.YtnfaiojmabolmaaDoor.Pure
