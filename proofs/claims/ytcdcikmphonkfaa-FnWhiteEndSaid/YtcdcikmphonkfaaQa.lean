/- Pure theorems of the laws of colored heaps. -/
import Derived.Test.YtcdcikmphonkfaaPz
namespace Go.Proofs.Ytcdcikmphonkfaa.T
open Go Go.RowKit Go.Proofs.Ytcdcikmphonkfaa.S Go.Proofs.Ytcdcikmphonkfaa.F
set_option linter.unusedVariables false
set_option linter.unusedSimpArgs false
def shV (L R Ro C : List Int) (c : Int) : List Int × List Int × List Int × List Int × Bool :=
  if CV L R Ro C ∧ 0 ≤ c ∧ c < L.length then (L, R, Ro, sh C c, true) else ([], [], [], [], false)
theorem impl_ShadeCell_eq {K : Nat} {L R Ro C : List Int} {c : Int} (hK : 8 < K) (hC : C.length < K) (hmax : C.length ≤ 9223372036854775807) : impl_ShadeCell.f K L R Ro C c = some (shV L R Ro C c) := by
  unfold impl_ShadeCell.f shV
  rw [impl_ColoredValid_eq hK hC hmax, b1_some]
  by_cases h : CV L R Ro C
  rotate_left
  · rw [if_neg (by simpa using h), if_neg (fun g => h g.1)]
  have hl := h.le
  rw [if_pos (decide_eq_true h), has_eq hK, b1_some]
  by_cases g : 0 ≤ c ∧ c < L.length
  · rw [if_pos (decide_eq_true ⟨h.1, g⟩), if_pos ⟨h, g⟩, fresh_eq (by omega) (by omega) (by omega) (by omega), b4_some, shade_eq (by omega) (by omega), b1_some]
  · rw [if_neg (by rw [decide_eq_true_eq]; exact fun k => g k.2), if_neg (fun k => g k.2)]
theorem spec_ShadeCell_eq {K : Nat} {L R Ro C : List Int} {c : Int} (hK : 8 < K) (hC : C.length < K) (hmax : C.length ≤ 9223372036854775807) : spec_ShadeCell.f K L R Ro C c = some (shV L R Ro C c) := by
  unfold spec_ShadeCell.f shV
  rw [spec_ColoredValid_eq hK hC hmax, b1_some]
  by_cases h : CV L R Ro C
  rotate_left
  · rw [if_neg (by simpa using h), if_neg (fun g => h g.1)]
  have hl := h.le
  rw [if_pos (decide_eq_true h), l1Cell_eq hK, b1_some]
  by_cases g : 0 ≤ c ∧ c < L.length
  · rw [if_pos (decide_eq_true ⟨h.1, g⟩), if_pos ⟨h, g⟩, l3Copy_eq (by omega) (by omega) (by omega) (by omega), b4_some, l3Shade_eq (by omega) (by omega), b1_some]
  · rw [if_neg (by rw [decide_eq_true_eq]; exact fun k => g k.2), if_neg (fun k => g k.2)]
theorem csame_cv {L R Ro C : List Int} (h : CV L R Ro C) : impl_ColoredSame.f KK L R Ro C L R Ro C = some true := by
  have := h.le
  exact csame_self (by omega) (by omega) (by omega) (by omega)
theorem csame_nil : impl_ColoredSame.f KK [] [] [] [] [] [] [] [] = some true := csame_self (by simp) (by simp) (by simp) (by simp)
theorem maV_ok {L R Ro C : List Int} (h : CV L R Ro C) : CV L R Ro (ma 8 L R C) ∧ (1 : Int) ∉ ma 8 L R C := ⟨(ma_ind (P := fun _ => True) (fun _ _ _ _ => trivial) 8 C h trivial).1, ma_done 8 C h (by have := h.le; omega)⟩
theorem msV_ok {L R Ro C : List Int} (h : CV L R Ro C) (c : (1 : Int) ∈ C) : msV L R Ro C = (L, R, Ro, bk L R C (fi C 1), true, true) := by unfold msV; rw [if_pos h, if_pos c]
theorem msV_end {L R Ro C : List Int} (h : CV L R Ro C) (c : (1 : Int) ∉ C) : msV L R Ro C = (L, R, Ro, C, false, true) := by unfold msV; rw [if_pos h, if_neg c]
theorem DrawMarkAll_ex {a : List Int} (hu : ∀ x ∈ a, U8 x) : ∃ L R Ro C, spec_DrawMarkAll.f KK a = some (L, R, Ro, C) ∧ Short 9 L R Ro [] ∧ C.length ≤ 9 := by
  obtain ⟨L, R, Ro, C, e, hs, hc⟩ := l3Case_ex (K := KK) hu (by decide)
  exact ⟨L, R, Ro, C, by unfold spec_DrawMarkAll.f; rw [e, b4_some], hs, hc⟩
theorem DrawMarkStep_ex {a : List Int} (hu : ∀ x ∈ a, U8 x) : ∃ L R Ro C, spec_DrawMarkStep.f KK a = some (L, R, Ro, C) ∧ Short 9 L R Ro [] ∧ C.length ≤ 9 := by
  obtain ⟨L, R, Ro, C, e, hs, hc⟩ := l3Case_ex (K := KK) hu (by decide)
  exact ⟨L, R, Ro, C, by unfold spec_DrawMarkStep.f; rw [e, b4_some], hs, hc⟩
theorem DrawShadeCell_ex {a : List Int} (hu : ∀ x ∈ a, U8 x) : ∃ L R Ro C c, spec_DrawShadeCell.f KK a = some (L, R, Ro, C, c) ∧ Short 9 L R Ro [] ∧ C.length ≤ 9 := by
  obtain ⟨L, R, Ro, C, e, hs, hc⟩ := l3Case_ex (K := KK) hu (by decide)
  obtain ⟨c, e2, _⟩ := num_ex (K := KK) (l := [0, 1, 2, 3, 8, -1]) (Src.open hu) (by simp) (by simp)
  exact ⟨L, R, Ro, C, c, by unfold spec_DrawShadeCell.f; rw [e, b4_some, l13Open_eq, b1_some, e2, b2_some], hs, hc⟩
theorem eqColored_s {a b c d : List Int} (ha : Fit KK a) (hb : Fit KK b) (hc : Fit KK c) (hd : Fit KK d) : laws_eqColored.f KK a b c d a b c d = some true := by
  unfold laws_eqColored.f
  rw [eqHeap_s ha hb hc, b1_some, if_pos rfl, eqIntS_s hd, b1_some, if_pos rfl]
theorem toColored_f {a b c d : List Int} (ha : Fit KK a) (hb : Fit KK b) (hc : Fit KK c) (hd : Fit KK d) : laws_toColored.f KK a b c d = some (a, b, c, d) := by
  unfold laws_toColored.f
  rw [toHeap_f ha hb hc, b3_some, toIntS_f hd, b1_some]
theorem szColored_f {a b c d : List Int} (ha : a.length ≤ 9223372036854775807) (hb : b.length ≤ 9223372036854775807) (hc : c.length ≤ 9223372036854775807) (hd : d.length ≤ 9223372036854775807) : ∃ r, laws_szColored.f KK a b c d 1048576 = some r ∧ (r < 0 ∨ (¬r < 0 ∧ Fit KK a ∧ Fit KK b ∧ Fit KK c ∧ Fit KK d)) := by
  obtain ⟨r, e, g⟩ := szStore_f ha hb hc hd
  refine ⟨r, ?_, ?_⟩
  · unfold laws_szColored.f
    unfold laws_szStore.f at e
    exact e
  · rcases g with g | ⟨g, _, _, g2⟩
    · exact .inl g
    · exact .inr ⟨g, g2⟩
theorem markColored_ex {a b c d : List Int} (ha : Fit KK a) (hb : Fit KK b) (hc : Fit KK c) (hd : Fit KK d) : ∃ k a' b' c' d', laws_markColored.f KK a b c d 1 = some (k, a', b', c', d') ∧ laws_heldColored.f KK a' b' c' d' 1 = some k ∧ ¬k < 0 := by
  obtain ⟨k, a', b', c', d', e1, e2, e3⟩ := markStore_ex ha hb hc hd
  refine ⟨k, a', b', c', d', ?_, ?_, e3⟩
  · unfold laws_markColored.f
    unfold laws_markStore.f at e1
    exact e1
  · unfold laws_heldColored.f
    unfold laws_heldStore.f at e2
    exact e2
end Go.Proofs.Ytcdcikmphonkfaa.T
namespace Go.Proofs.Ytcdcikmphonkfaa.Pure
open Go Go.RowKit Go.Proofs.Ytcdcikmphonkfaa.S Go.Proofs.Ytcdcikmphonkfaa.F Go.Proofs.Ytcdcikmphonkfaa.T
set_option linter.unusedVariables false
set_option linter.unusedSimpArgs false
theorem FnExactMarkStep : ∀ (a0_0 : List Int), a0_0.length ≤ 9223372036854775807 → (∀ x ∈ a0_0, I64 x) → ∀ (a0_1 : List Int), a0_1.length ≤ 9223372036854775807 → (∀ x ∈ a0_1, I64 x) → ∀ (a0_2 : List Int), a0_2.length ≤ 9223372036854775807 → (∀ x ∈ a0_2, I64 x) → ∀ (a0_3 : List Int), a0_3.length ≤ 9223372036854775807 → (∀ x ∈ a0_3, I64 x) → ∃ K, laws_FnExactMarkStep.f K a0_0 a0_1 a0_2 a0_3 = some true := by
  intro L hL _ R hR _ Ro hRo _ C hC _
  refine ⟨KK, ?_⟩
  unfold laws_FnExactMarkStep.f
  obtain ⟨r, e, g⟩ := szColored_f hL hR hRo hC
  rw [e, b1_some]
  rcases g with g | ⟨g, fL, fR, fRo, fC⟩
  · rw [if_pos g]
  rw [if_neg g]
  have f : Fit KK (msV L R Ro C).1 ∧ Fit KK (msV L R Ro C).2.1 ∧ Fit KK (msV L R Ro C).2.2.1 ∧ Fit KK (msV L R Ro C).2.2.2.1 := by
    have z : Fit KK [] := .of (by simp)
    unfold msV
    by_cases h : CV L R Ro C
    · rw [if_pos h]
      by_cases c : (1 : Int) ∈ C
      · rw [if_pos c]
        refine ⟨fL, fR, fRo, .of ?_⟩
        show (bk L R C (fi C 1)).length ≤ _
        rw [bk_len]; exact fC.2
      · rw [if_neg c]
        exact ⟨fL, fR, fRo, fC⟩
    · rw [if_neg h]
      exact ⟨z, z, z, z⟩
  obtain ⟨f1, f2, f3, f4⟩ := f
  obtain ⟨k, x1, x2, x3, x4, m1, m2, m3⟩ := markColored_ex fL fR fRo fC
  obtain ⟨k', y1, y2, y3, y4, n1, n2, n3⟩ := markColored_ex f1 f2 f3 f4
  simp only [toColored_f fL fR fRo fC, b4_some, spec_MarkStep_eq (K := KK) (L := L) (R := R) (Ro := Ro) (by decide) fC.1 fC.mx2, impl_MarkStep_eq (K := KK) (L := L) (R := R) (Ro := Ro) (by decide) fC.1 fC.mx2, b6_p, b5_p, b1_some, eqColored_s f1 f2 f3 f4, eqColored_s fL fR fRo fC, if_true, m1, m3, n1, n2, n3, if_false]
theorem FnExactMarkAll : ∀ (a0_0 : List Int), a0_0.length ≤ 9223372036854775807 → (∀ x ∈ a0_0, I64 x) → ∀ (a0_1 : List Int), a0_1.length ≤ 9223372036854775807 → (∀ x ∈ a0_1, I64 x) → ∀ (a0_2 : List Int), a0_2.length ≤ 9223372036854775807 → (∀ x ∈ a0_2, I64 x) → ∀ (a0_3 : List Int), a0_3.length ≤ 9223372036854775807 → (∀ x ∈ a0_3, I64 x) → ∃ K, laws_FnExactMarkAll.f K a0_0 a0_1 a0_2 a0_3 = some true := by
  intro L hL _ R hR _ Ro hRo _ C hC _
  refine ⟨KK, ?_⟩
  unfold laws_FnExactMarkAll.f
  obtain ⟨r, e, g⟩ := szColored_f hL hR hRo hC
  rw [e, b1_some]
  rcases g with g | ⟨g, fL, fR, fRo, fC⟩
  · rw [if_pos g]
  rw [if_neg g]
  have f : Fit KK (maV L R Ro C).1 ∧ Fit KK (maV L R Ro C).2.1 ∧ Fit KK (maV L R Ro C).2.2.1 ∧ Fit KK (maV L R Ro C).2.2.2.1 := by
    have z : Fit KK [] := .of (by simp)
    unfold maV
    by_cases h : CV L R Ro C
    · rw [if_pos h]
      refine ⟨fL, fR, fRo, .of ?_⟩
      show (ma 8 L R C).length ≤ _
      rw [ma_len]; exact fC.2
    · rw [if_neg h]
      exact ⟨z, z, z, z⟩
  obtain ⟨f1, f2, f3, f4⟩ := f
  obtain ⟨k, x1, x2, x3, x4, m1, m2, m3⟩ := markColored_ex fL fR fRo fC
  obtain ⟨k', y1, y2, y3, y4, n1, n2, n3⟩ := markColored_ex f1 f2 f3 f4
  simp only [toColored_f fL fR fRo fC, b4_some, spec_MarkAll_eq (K := KK) (L := L) (R := R) (Ro := Ro) (by decide) fC.1 fC.mx2, impl_MarkAll_eq (K := KK) (L := L) (R := R) (Ro := Ro) (by decide) fC.1 fC.mx2, b5_p, b1_some, eqColored_s f1 f2 f3 f4, eqColored_s fL fR fRo fC, if_true, m1, m3, n1, n2, n3, if_false]
theorem FnShadeCell : ∀ (a0 : List Int), a0.length ≤ 9223372036854775807 → (∀ x ∈ a0, U8 x) → ∃ K, laws_FnShadeCell.f K a0 = some true := by
  intro a _ hu
  refine ⟨KK, ?_⟩
  unfold laws_FnShadeCell.f
  by_cases big : (a.length : Int) > 1048576
  · rw [if_pos big]
  rw [if_neg big]
  obtain ⟨L, R, Ro, C, c, e, hs, hc⟩ := DrawShadeCell_ex hu
  unfold Short at hs
  have hC : C.length < KK := by show _ < 1048577; omega
  rw [e, b5_some, impl_ShadeCell_eq (by decide) hC (by omega), spec_ShadeCell_eq (by decide) hC (by omega)]
  unfold shV
  by_cases h : CV L R Ro C ∧ 0 ≤ c ∧ c < L.length
  rotate_left
  · rw [if_neg h, b5_some, b5_some, csame_nil]; rfl
  obtain ⟨hcv, h0, h1⟩ := h
  have hl := hcv.le
  have hcv2 := hcv.sh c
  have e0 : ¬rd (sh C c) c = 0 := by
    rw [rd_sh (by omega) (by omega) h0]
    by_cases z : rd C c = 0
    · rw [if_pos ⟨rfl, z⟩]; omega
    · rw [if_neg (fun g => z g.2)]; exact z
  rw [if_pos ⟨hcv, h0, h1⟩, b5_some, b5_some, csame_cv hcv2, b1_some, if_pos rfl, if_pos rfl, if_pos rfl, CountColor_eq hcv2 (by decide), b1_some, CountColor_eq hcv (by decide), b1_some, if_pos (by rw [sh_len]; omega), if_neg e0, count_sh (by omega) (by omega)]
  have hle := List.count_le_length (a := (1 : Int)) (l := C)
  by_cases z : rd C c = 0
  · have e1 : (C.count (1 : Int) : Int) - (if c ≠ -1 ∧ rd C c = 0 ∧ (1 : Int) = 0 then 1 else 0) + (if c ≠ -1 ∧ rd C c = 0 ∧ (1 : Int) = 1 then 1 else 0) - C.count (1 : Int) = 1 := by
      rw [if_neg (by omega), if_pos ⟨by omega, z, rfl⟩]; omega
    rw [if_pos (by omega), e1, w64 (by omega) (by omega), z]
    rfl
  · have e1 : (C.count (1 : Int) : Int) - (if c ≠ -1 ∧ rd C c = 0 ∧ (1 : Int) = 0 then 1 else 0) + (if c ≠ -1 ∧ rd C c = 0 ∧ (1 : Int) = 1 then 1 else 0) - C.count (1 : Int) = 0 := by
      rw [if_neg (by omega), if_neg (fun g => z g.2.1)]; omega
    have e2 : (rd C c == 0) = false := by simpa using z
    rw [if_pos (by omega), e1, w64 (by omega) (by omega), e2]
    rfl
theorem FnMarkStep : ∀ (a0 : List Int), a0.length ≤ 9223372036854775807 → (∀ x ∈ a0, U8 x) → ∃ K, laws_FnMarkStep.f K a0 = some true := by
  intro a _ hu
  refine ⟨KK, ?_⟩
  unfold laws_FnMarkStep.f
  by_cases big : (a.length : Int) > 1048576
  · rw [if_pos big]
  rw [if_neg big]
  obtain ⟨L, R, Ro, C, e, hs, hc⟩ := DrawMarkStep_ex hu
  unfold Short at hs
  have hC : C.length < KK := by show _ < 1048577; omega
  rw [e, b4_some, impl_MarkStep_eq (by decide) hC (by omega), spec_MarkStep_eq (by decide) hC (by omega)]
  by_cases h : CV L R Ro C
  rotate_left
  · unfold msV; rw [if_neg h, b6_some, b6_some, csame_nil]; rfl
  have hl := h.le
  by_cases c : (1 : Int) ∈ C
  · have g := gray_at h c
    have h2 := h.bk (fi C 1)
    have hB : (bk L R C (fi C 1)).length < KK := by rw [bk_len]; exact hC
    have hle := List.count_le_length (a := (2 : Int)) (l := C)
    have c2 := bk_count2 h g.1 g.2.1 g.2.2
    have c0 := bk_count0 h g.1 g.2.1 g.2.2
    rw [msV_ok h c, b6_some, b6_some, csame_cv h2, b1_some, if_pos rfl, if_pos rfl, if_pos rfl, if_pos rfl, if_pos rfl, impl_ColoredValid_eq (by decide) hB (by rw [bk_len]; omega), b1_some, if_pos (decide_eq_true h2), CountColor_eq h2 (by decide), b1_some, CountColor_eq h (by decide), b1_some, w64 (by omega) (by omega), if_pos (by omega), CountColor_eq h2 (by decide), b1_some, CountColor_eq h (by decide), b1_some, if_pos (by omega), ColorHolds_eq (by decide) hC (by omega), b1_some]
    by_cases hh : holds L R C
    · rw [if_pos (decide_eq_true ⟨h, hh⟩), ColorHolds_eq (by decide) hB (by rw [bk_len]; omega), b1_some, decide_eq_true ⟨h2, bk_holds h g.1 g.2.1 hh⟩]
    · rw [if_neg (by rw [decide_eq_true_eq]; exact fun k => hh k.2)]
  · rw [msV_end h c, b6_some, b6_some, csame_cv h, b1_some, if_pos rfl, if_pos rfl, if_pos rfl, if_pos rfl, if_neg (by simp), b1_some, if_pos rfl, CountColor_eq h (by decide), b1_some, List.count_eq_zero_of_not_mem c]
    rfl
theorem FnMarkAll : ∀ (a0 : List Int), a0.length ≤ 9223372036854775807 → (∀ x ∈ a0, U8 x) → ∃ K, laws_FnMarkAll.f K a0 = some true := by
  intro a _ hu
  refine ⟨KK, ?_⟩
  unfold laws_FnMarkAll.f
  by_cases big : (a.length : Int) > 1048576
  · rw [if_pos big]
  rw [if_neg big]
  obtain ⟨L, R, Ro, C, e, hs, hc⟩ := DrawMarkAll_ex hu
  unfold Short at hs
  have hC : C.length < KK := by show _ < 1048577; omega
  rw [e, b4_some, impl_MarkAll_eq (by decide) hC (by omega), spec_MarkAll_eq (by decide) hC (by omega)]
  unfold maV
  by_cases h : CV L R Ro C
  rotate_left
  · rw [if_neg h, b5_some, b5_some, csame_nil]; rfl
  have hl := h.le
  obtain ⟨h2, hn⟩ := maV_ok h
  have hh : holds L R C → holds L R (ma 8 L R C) := fun g => (ma_ind (P := holds L R) (fun D hD hd hp => bk_holds hD (gray_at hD hd).1 (gray_at hD hd).2.1 hp) 8 C h g).2
  -- what was not white is black in the end
  have hb : ∀ x : Int, 0 ≤ x → x < L.length → rd C x ≠ 0 → rd (ma 8 L R C) x = 2 := by
    intro x x0 x1 hx
    have k := (ma_ind (P := fun D => rd D x ≠ 0) (fun D hD hd hp => by
      have g := gray_at hD hd
      rw [rd_bk hD g.1 g.2.1 x0 x1]
      by_cases q : fi D 1 = x
      · rw [if_pos q]; omega
      · rw [if_neg q, if_neg (fun k => hp k.1)]; exact hp) 8 C h hx).2
    have q := h2.rd x0 x1
    have hl2 := h2.le
    have q1 : rd (ma 8 L R C) x ≠ 1 := fun g => hn (by rw [← g]; exact rd_mem x0 (by omega))
    omega
  have hlen : (ma 8 L R C).length = L.length := h2.2.1
  have hM : (ma 8 L R C).length < KK := by rw [hlen]; show _ < 1048577; omega
  have hmm : ma 8 L R (ma 8 L R C) = ma 8 L R C := ma_none hn
  have hcnt : (ma 8 L R C).count (1 : Int) = 0 := List.count_eq_zero_of_not_mem hn
  generalize ma 8 L R C = D at *
  rw [if_pos h, b5_some, b5_some, csame_cv h2, b1_some, if_pos rfl, if_pos rfl, if_pos rfl]
  refine loop_st (fun m p (s : Unit) => laws_FnMarkAll.loop0 KK _ C D m p) (fun _ => ()) C.length (some true) ?_ ?_ hC
  · intro m i hi
    rw [laws_FnMarkAll.loop0, if_pos (by omega), if_pos (by omega), w64_succ hi (by omega)]
    by_cases z : rd C (i : Int) = 0
    · rw [if_pos z]
    · rw [if_neg z, if_pos (by omega), if_pos (hb i (by omega) (by omega) z)]
  · intro m
    rw [laws_FnMarkAll.loop0, if_neg (by omega), impl_MarkAll_eq (by decide) hM (by omega)]
    unfold maV
    rw [if_pos h2, hmm, b5_some, CountColor_eq h2 (by decide), b1_some, hcnt, if_pos (by rfl), if_pos rfl, csame_cv h2, b1_some, if_pos rfl, ColorHolds_eq (by decide) hC (by omega), b1_some]
    by_cases g : holds L R C
    · rw [if_pos (decide_eq_true ⟨h, g⟩), ColorHolds_eq (by decide) hM (by omega), b1_some, decide_eq_true ⟨h2, hh g⟩]
    · rw [if_neg (by rw [decide_eq_true_eq]; exact fun k => g k.2)]
theorem FnWhiteEnd : ∀ (a0 : List Int), a0.length ≤ 9223372036854775807 → (∀ x ∈ a0, U8 x) → ∃ K, laws_FnWhiteEnd.f K a0 = some true := by
  intro a _ hu
  refine ⟨KK, ?_⟩
  unfold laws_FnWhiteEnd.f
  by_cases big : (a.length : Int) > 1048576
  · rw [if_pos big]
  rw [if_neg big]
  obtain ⟨L, R, Ro, C, e, hs, hc⟩ := DrawMarkAll_ex hu
  unfold Short at hs
  have hC : C.length < KK := by show _ < 1048577; omega
  rw [e, b4_some, impl_MarkAll_eq (by decide) hC (by omega), spec_MarkAll_eq (by decide) hC (by omega)]
  unfold maV
  by_cases h : CV L R Ro C
  rotate_left
  · rw [if_neg h, b5_some, b5_some, csame_nil]; rfl
  have hl := h.le
  obtain ⟨h2, hn⟩ := maV_ok h
  have hh : holds L R C → holds L R (ma 8 L R C) := fun g => (ma_ind (P := holds L R) (fun D hD hd hp => bk_holds hD (gray_at hD hd).1 (gray_at hD hd).2.1 hp) 8 C h g).2
  have hlen : (ma 8 L R C).length = L.length := h2.2.1
  generalize ma 8 L R C = D at *
  rw [if_pos h, b5_some, b5_some, csame_cv h2, b1_some, if_pos rfl, if_pos rfl, if_pos rfl, ColorHolds_eq (by decide) hC (by omega), b1_some]
  by_cases g : holds L R C
  rotate_left
  · rw [if_neg (by rw [decide_eq_true_eq]; exact fun k => g k.2), b1_some]; rfl
  rw [if_pos (decide_eq_true ⟨h, g⟩)]
  have hD := hh g
  refine loop_st (fun m p (s : Unit) => laws_FnWhiteEnd.loop0 KK _ L R Ro D m p) (fun _ => ()) D.length (some true) ?_ ?_ (by rw [hlen]; show _ < 1048577; omega)
  · intro m i hi
    rw [laws_FnWhiteEnd.loop0, if_pos (by omega), SourcesOf_eq (by decide), b1_some, if_pos ⟨h.1, by omega, by omega⟩, w64_succ hi (by omega)]
    have sl : (src L R i).length ≤ L.length := by
      unfold src
      have := List.length_filter_le (fun j => decide (rd L j = (i : Int)) || decide (rd R j = (i : Int))) (upto L.length)
      rw [upto_len] at this
      exact this
    refine loop_st (fun m' p (s : Unit) => laws_FnWhiteEnd.loop1 KK (fun _ => laws_FnWhiteEnd.loop0 KK _ L R Ro D m _) D i (src L R i) m' p) (fun _ => ()) (src L R i).length (laws_FnWhiteEnd.loop0 KK _ L R Ro D m _) ?_ ?_ (by show _ < 1048577; omega)
    · intro m' j hj
      have mj := mem_src.1 (rd_mem (xs := src L R i) (i := (j : Int)) (by omega) (by omega))
      rw [laws_FnWhiteEnd.loop1, if_pos (by omega), if_pos (by omega), w64_succ hj (by omega)]
      by_cases z : rd D (i : Int) = 0
      · rw [if_pos z, if_pos (by omega), if_pos (by omega), if_pos]
        generalize rd (src L R i) (j : Int) = x at mj
        have q := h2.rd mj.1.1 mj.1.2
        have q1 : rd D x ≠ 1 := fun g => hn (by rw [← g]; exact rd_mem mj.1.1 (by omega))
        have q2 : rd D x ≠ 2 := by
          intro k
          obtain ⟨y, rfl⟩ := Int.eq_ofNat_of_zero_le mj.1.1
          have hd := hD y (by omega) k
          rcases mj.2 with r | r
          · rw [r] at hd; exact hd.1.elim (by omega) (fun q => q z)
          · rw [r] at hd; exact hd.2.elim (by omega) (fun q => q z)
        omega
      · rw [if_neg z]
    · intro m'
      rw [laws_FnWhiteEnd.loop1, if_neg (by omega)]
  · intro m
    rw [laws_FnWhiteEnd.loop0, if_neg (by omega)]
theorem FnMarkCount : ∀ (a0 : List Int), a0.length ≤ 9223372036854775807 → (∀ x ∈ a0, U8 x) → ∃ K, laws_FnMarkCount.f K a0 = some true := by
  intro a _ hu
  refine ⟨KK, ?_⟩
  unfold laws_FnMarkCount.f
  by_cases big : (a.length : Int) > 1048576
  · rw [if_pos big]
  rw [if_neg big]
  obtain ⟨L, R, Ro, C, e, hs, hc⟩ := DrawMarkAll_ex hu
  unfold Short at hs
  have hC : C.length < KK := by show _ < 1048577; omega
  rw [e, b4_some, impl_MarkAll_eq (by decide) hC (by omega), spec_MarkAll_eq (by decide) hC (by omega)]
  unfold maV
  by_cases h : CV L R Ro C
  rotate_left
  · rw [if_neg h, b5_some, b5_some, csame_nil]; rfl
  have hl := h.le
  obtain ⟨h2, hn⟩ := maV_ok h
  have h9 : ∃ k, ma k L R C = ma 8 L R C := ⟨8, rfl⟩
  generalize ma 8 L R C = D at *
  have hle := List.count_le_length (a := (2 : Int)) (l := C)
  have hleD := List.count_le_length (a := (2 : Int)) (l := D)
  have hlD := h2.le
  rw [if_pos h, b5_some, b5_some, csame_cv h2, b1_some, if_pos rfl, if_pos rfl, if_pos rfl, impl_MarkStep_eq (by decide) hC (by omega)]
  have nx : ∀ B : List Int, (∃ k, ma k L R B = D) → (1 : Int) ∈ B → ∃ k, ma k L R (bk L R B (fi B 1)) = D := by
    rintro B ⟨k, ek⟩ hB
    cases k with
    | zero => exact absurd (by rw [← ek]; exact hB) hn
    | succ k =>
      unfold ma at ek
      rw [if_pos hB] at ek
      exact ⟨k, ek⟩
  by_cases c : (1 : Int) ∈ C
  rotate_left
  · obtain ⟨k, ek⟩ := h9
    rw [ma_none c] at ek
    subst ek
    rw [msV_end h c, b6_some, if_pos rfl, if_neg (by simp), csame_cv h, b1_some, if_pos rfl, CountColor_eq h (by decide), b1_some, b1_some, Int.sub_self, w64 (x := 0) (by omega) (by omega)]
    rfl
  have g := gray_at h c
  have c2 := bk_count2 h g.1 g.2.1 g.2.2
  rw [msV_ok h c, b6_some, if_pos rfl, if_pos rfl]
  have key := loop_mu (fun m (s : Int × List Int) => laws_FnMarkCount.loop0 KK () L R Ro C L R Ro D m s.1 L R Ro s.2)
    (fun s => CV L R Ro s.2 ∧ (∃ k, ma k L R s.2 = D) ∧ s.1 + C.count (2 : Int) = s.2.count (2 : Int) ∧ 0 ≤ s.1) (fun s => 8 - s.2.count (2 : Int)) (fun _ => True) (fun _ => some true) ?_ (K := KK) (a := (1, bk L R C (fi C 1))) ⟨h.bk _, nx C h9 c, by show (1 : Int) + _ = ((bk L R C (fi C 1)).count (2 : Int) : Int); omega, by show (0 : Int) ≤ 1; omega⟩ (by show 8 - _ < 1048577; omega)
  · obtain ⟨s, _, _, e⟩ := key
    exact e
  · rintro m ⟨q, B⟩ ⟨g1, g2, g3, g4⟩
    simp only [] at g1 g2 g3 g4 ⊢
    have hlB := g1.le
    have hleB := List.count_le_length (a := (2 : Int)) (l := B)
    rw [laws_FnMarkCount.loop0, impl_MarkStep_eq (by decide) (by show _ < 1048577; omega) (by omega)]
    by_cases cB : (1 : Int) ∈ B
    · left
      have gg := gray_at g1 cB
      have cc := bk_count2 g1 gg.1 gg.2.1 gg.2.2
      have hleB2 := List.count_le_length (a := (2 : Int)) (l := bk L R B (fi B 1))
      rw [bk_len] at hleB2
      rw [msV_ok g1 cB, b6_some, if_pos rfl, if_pos rfl, w64 (x := q + 1) (by omega) (by omega)]
      exact ⟨(q + 1, bk L R B (fi B 1)), ⟨g1.bk _, nx B g2 cB, by show q + 1 + _ = ((bk L R B (fi B 1)).count (2 : Int) : Int); omega, by show 0 ≤ q + 1; omega⟩, by show 8 - (bk L R B (fi B 1)).count (2 : Int) < 8 - B.count (2 : Int); omega, rfl⟩
    · right
      obtain ⟨k, ek⟩ := g2
      rw [ma_none cB] at ek
      subst ek
      rw [msV_end g1 cB, b6_some, if_pos rfl, if_neg (by simp), csame_cv g1, b1_some, if_pos rfl, CountColor_eq g1 (by decide), b1_some, CountColor_eq h (by decide), b1_some, w64 (by omega) (by omega)]
      refine ⟨trivial, ?_⟩
      have : q = (B.count (2 : Int) : Int) - C.count (2 : Int) := by omega
      rw [← this]; simp
end Go.Proofs.Ytcdcikmphonkfaa.Pure
