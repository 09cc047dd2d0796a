/- Pure theorems of colored heaps and of markers: what the reference's and the program's functions come to. -/
import Derived.Test.YtnfaiojmabolmaaDoorPp
import Derived.Test.YtnfaiojmabolmaaDoorTd
import Derived.Test.YtnfaiojmabolmaaDoorFi
namespace Go.Proofs.YtnfaiojmabolmaaDoor.T
open Go Go.RowKit Go.Proofs.YtnfaiojmabolmaaDoor.S Go.Proofs.YtnfaiojmabolmaaDoor.F
set_option linter.unusedVariables false
set_option linter.unusedSimpArgs false
theorem colors_iff {C : List Int} : (∀ j : Nat, j < C.length → 0 ≤ rd C j ∧ rd C j ≤ 2) ↔ ∀ k ∈ C, (0 : Int) ≤ k ∧ k ≤ 2 := forall_rd (p := fun k => 0 ≤ k ∧ k ≤ 2)
theorem spec_ColoredValid_eq {K : Nat} {L R Ro C : List Int} (hK : 8 < K) (hC : C.length < K) (hmax : C.length ≤ 9223372036854775807) : spec_ColoredValid.f K L R Ro C = some (decide (CV L R Ro C)) := by
  unfold spec_ColoredValid.f
  rw [spec_HeapValid_eq hK, b1_some]
  by_cases h : HV L R Ro
  rotate_left
  · rw [if_neg (by simpa using h), decide_eq_false (fun g => h g.1)]
  rw [if_pos (decide_eq_true h)]
  by_cases hl : (C.length : Int) = (L.length : Int)
  rotate_left
  · rw [if_neg hl, decide_eq_false (fun g => hl (by rw [g.2.1]))]
  rw [if_pos hl]
  have key := check_loop (fun m p => spec_ColoredValid.loop0 K (fun _ => some true) C m p) C.length (fun j => 0 ≤ rd C j ∧ rd C j ≤ 2) (some true) (some false) ?_ ?_ (K := K) hC
  · rw [key]
    by_cases g : ∀ j, j < C.length → 0 ≤ rd C (j : Nat) ∧ rd C (j : Nat) ≤ 2
    · rw [if_pos g, decide_eq_true ⟨h, by omega, colors_iff.1 g⟩]
    · rw [if_neg g, decide_eq_false (fun k => g (colors_iff.2 k.2.2))]
  · intro m i hi _
    rw [spec_ColoredValid.loop0, if_pos (by omega), if_pos (by omega), w64_succ hi (by omega)]
    by_cases c1 : rd C (i : Int) < 0
    · rw [if_pos c1, if_neg (by omega)]
    · rw [if_neg c1]
      by_cases c2 : rd C (i : Int) > 2
      · rw [if_pos c2, if_neg (by omega)]
      · rw [if_neg c2, if_pos (by omega)]
  · intro m _
    rw [spec_ColoredValid.loop0, if_neg (by omega)]
theorem colorsOk_eq {K : Nat} {C : List Int} {n : Int} (hC : C.length < K) (hmax : C.length ≤ 9223372036854775807) : impl_colorsOk.f K C n = some (decide ((C.length : Int) = n ∧ ∀ k ∈ C, (0 : Int) ≤ k ∧ k ≤ 2)) := by
  unfold impl_colorsOk.f
  have key := check_loop (fun m p => impl_colorsOk.loop0 K (fun _ => some ((C.length : Int) == n)) C m p) C.length (fun j => 0 ≤ rd C j ∧ rd C j ≤ 2) (some ((C.length : Int) == n)) (some false) ?_ ?_ (K := K) hC
  · rw [key]
    by_cases g : ∀ j, j < C.length → 0 ≤ rd C (j : Nat) ∧ rd C (j : Nat) ≤ 2
    · rw [if_pos g]
      have g' := colors_iff.1 g
      simp only [eq_true g', and_true]
      by_cases c : (C.length : Int) = n
      · simp [c]
      · simp [c]
    · rw [if_neg g, decide_eq_false (fun k => g (colors_iff.2 k.2))]
  · intro m i hi _
    rw [impl_colorsOk.loop0, if_pos (by omega), if_pos (by omega), w64_succ hi (by omega)]
    by_cases c1 : rd C (i : Int) < 0
    · rw [if_pos c1, if_neg (by omega)]
    · rw [if_neg c1]
      by_cases c2 : rd C (i : Int) > 2
      · rw [if_pos c2, if_neg (by omega)]
      · rw [if_neg c2, if_pos (by omega)]
  · intro m _
    rw [impl_colorsOk.loop0, if_neg (by omega)]
theorem impl_ColoredValid_eq {K : Nat} {L R Ro C : List Int} (hK : 8 < K) (hC : C.length < K) (hmax : C.length ≤ 9223372036854775807) : impl_ColoredValid.f K L R Ro C = some (decide (CV L R Ro C)) := by
  unfold impl_ColoredValid.f
  rw [impl_HeapValid_eq hK, b1_some]
  by_cases h : HV L R Ro
  · rw [if_pos (decide_eq_true h), colorsOk_eq hC hmax, b1_some]
    refine congrArg some (decide_eq_decide.2 ⟨fun g => ⟨h, by omega, g.2⟩, fun g => ⟨by rw [g.2.1], g.2.2⟩⟩)
  · rw [if_neg (by simpa using h), decide_eq_false (fun g => h g.1)]
theorem CV.le {L R Ro C : List Int} (h : CV L R Ro C) : 1 ≤ L.length ∧ L.length ≤ 8 ∧ R.length = L.length ∧ Ro.length ≤ 8 ∧ C.length = L.length := by
  have := h.1.1; have := h.1.2.1; have := h.1.2.2.1; have := h.1.2.2.2.2.1; have := h.2.1
  omega
theorem l3Shade_eq {K : Nat} {C : List Int} {p : Int} (hp : -1 ≤ p) (hl : p < C.length) : spec_l3Shade.f K C p = some (sh C p) := by
  unfold spec_l3Shade.f sh
  by_cases c : p = -1
  · rw [if_pos c, if_neg (fun g => g.1 c)]
  · rw [if_neg c, if_pos (by omega)]
    by_cases e : rd C p = 0
    · rw [if_pos e, if_pos ⟨c, e⟩]
    · rw [if_neg e, if_neg (fun g => e g.2)]
theorem shade_eq {K : Nat} {C : List Int} {p : Int} (hp : -1 ≤ p) (hl : p < C.length) : impl_shade.f K C p = some (sh C p) := by
  unfold impl_shade.f sh
  by_cases c : p = -1
  · rw [if_pos c, if_neg (fun g => g.1 c)]
  · rw [if_neg c, if_pos (by omega)]
    by_cases e : rd C p = 0
    · rw [if_pos e, if_pos ⟨c, e⟩]
    · rw [if_neg e, if_neg (fun g => e g.2)]
theorem l3Copy_eq {K : Nat} {L R Ro C : List Int} (hL : L.length ≤ 1099511627776) (hR : R.length ≤ 1099511627776) (hRo : Ro.length ≤ 1099511627776) (hC : C.length ≤ 1099511627776) : spec_l3Copy.f K L R Ro C = some (L, R, Ro, C) := by
  unfold spec_l3Copy.f
  rw [l1Copy_eq hL hR hRo, b3_some, if_pos (by simpa)]
  simp
theorem fresh_eq {K : Nat} {L R Ro C : List Int} (hL : L.length ≤ 1099511627776) (hR : R.length ≤ 1099511627776) (hRo : Ro.length ≤ 1099511627776) (hC : C.length ≤ 1099511627776) : impl_fresh.f K L R Ro C = some (L, R, Ro, C) := by
  unfold impl_fresh.f
  rw [copied_eq hL hR hRo, b3_some, Clone_eq hC, b1_some]
theorem l3First_eq {K : Nat} {C : List Int} {a : Int} (hK : C.length < K) (hmax : C.length ≤ 9223372036854775807) : spec_l3First.f K C a = some (fi C a) := by
  unfold spec_l3First.f
  exact find_loop (spec_l3First.loop0 K (fun _ => some (-1:Int)) C a) C a some hmax (fun m p => by rw [spec_l3First.loop0]) hK
theorem l3Black_eq {K : Nat} {L R Ro C : List Int} (h : CV L R Ro C) {c : Int} (h0 : 0 ≤ c) (h1 : c < L.length) : spec_l3Black.f K L R C c = some (bk L R C c) := by
  have hl := h.le
  have a := h.1.rdL h0 h1
  have b := h.1.rdR h0 h1
  unfold spec_l3Black.f bk
  rw [if_pos ⟨h0, h1⟩, l3Shade_eq a.1 (by omega), b1_some, if_pos (by omega), l3Shade_eq b.1 (by rw [sh_len]; omega), b1_some, if_pos (by rw [sh_len, sh_len]; omega)]
theorem look_eq {K : Nat} {L R Ro C : List Int} (h : CV L R Ro C) (hK : 8 < K) : impl_look.f K L R C = some (if (1 : Int) ∈ C then (true, bk L R C (fi C 1)) else (false, C)) := by
  have hl := h.le
  unfold impl_look.f
  rw [Index_eq (by omega) (by omega), b1_some]
  by_cases c : (1 : Int) ∈ C
  · have g := gray_at h c
    have a := h.1.rdL g.1 g.2.1
    have b := h.1.rdR g.1 g.2.1
    rw [if_neg (by omega), if_pos c, if_pos ⟨g.1, g.2.1⟩, shade_eq a.1 (by omega), b1_some, if_pos (by omega), shade_eq b.1 (by rw [sh_len]; omega), b1_some, if_pos (by rw [sh_len, sh_len]; omega)]
    rfl
  · rw [fi_none c, if_pos (by omega), if_neg c]
/-- One step of marking. -/
def msV (L R Ro C : List Int) : List Int × List Int × List Int × List Int × Bool × Bool :=
  if CV L R Ro C then (if (1 : Int) ∈ C then (L, R, Ro, bk L R C (fi C 1), true, true) else (L, R, Ro, C, false, true)) else ([], [], [], [], false, false)
theorem spec_MarkStep_eq {K : Nat} {L R Ro C : List Int} (hK : 8 < K) (hC : C.length < K) (hmax : C.length ≤ 9223372036854775807) : spec_MarkStep.f K L R Ro C = some (msV L R Ro C) := by
  unfold spec_MarkStep.f msV
  rw [spec_ColoredValid_eq hK hC hmax, b1_some]
  by_cases h : CV L R Ro C
  rotate_left
  · rw [if_neg (by simpa using h), if_neg h]
  have hl := h.le
  rw [if_pos (decide_eq_true h), if_pos h, l3First_eq hC hmax, b1_some, l3Copy_eq (by omega) (by omega) (by omega) (by omega), b4_some, b4_some]
  by_cases c : (1 : Int) ∈ C
  · have g := gray_at h c
    rw [if_neg (by omega), if_pos c, l3Black_eq h g.1 g.2.1, b1_some]
  · rw [fi_none c, if_pos (by omega), if_neg c]
theorem impl_MarkStep_eq {K : Nat} {L R Ro C : List Int} (hK : 8 < K) (hC : C.length < K) (hmax : C.length ≤ 9223372036854775807) : impl_MarkStep.f K L R Ro C = some (msV L R Ro C) := by
  unfold impl_MarkStep.f msV
  rw [impl_ColoredValid_eq hK hC hmax, b1_some]
  by_cases h : CV L R Ro C
  rotate_left
  · rw [if_neg (by simpa using h), if_neg h]
  have hl := h.le
  rw [if_pos (decide_eq_true h), if_pos h, fresh_eq (by omega) (by omega) (by omega) (by omega), b4_some, look_eq h hK]
  by_cases c : (1 : Int) ∈ C
  · rw [if_pos c, if_pos c, b2_some]
  · rw [if_neg c, if_neg c, b2_some]
/-- All marking. -/
def maV (L R Ro C : List Int) : List Int × List Int × List Int × List Int × Bool :=
  if CV L R Ro C then (L, R, Ro, ma 8 L R C, true) else ([], [], [], [], false)
theorem ma_len {L R : List Int} : ∀ (k : Nat) (C : List Int), (ma k L R C).length = C.length := by
  intro k
  induction k with
  | zero => intro C; rfl
  | succ k ih => intro C; unfold ma; split; rw [ih, bk_len]; rfl
theorem spec_maLoop {K : Nat} {L R Ro : List Int} (κ : List Int → Option (List Int × List Int × List Int × List Int × Bool)) (hK : 8 < K) : ∀ (k m : Nat) (C : List Int), CV L R Ro C → L.length ≤ k + C.count 2 → k < m → spec_MarkAll.loop0 K κ L R m C = κ (ma k L R C) := by
  intro k
  induction k with
  | zero =>
    intro m C h hk hm
    obtain ⟨m, rfl⟩ : ∃ m', m = m' + 1 := ⟨m - 1, by omega⟩
    have hl := h.le
    have c : (1 : Int) ∉ C := ma_done 0 C h hk
    rw [spec_MarkAll.loop0, l3First_eq (by omega) (by omega), b1_some, fi_none c, if_neg (by omega)]
    rfl
  | succ k ih =>
    intro m C h hk hm
    obtain ⟨m, rfl⟩ : ∃ m', m = m' + 1 := ⟨m - 1, by omega⟩
    have hl := h.le
    rw [spec_MarkAll.loop0, l3First_eq (by omega) (by omega), b1_some]
    by_cases c : (1 : Int) ∈ C
    · have g := gray_at h c
      rw [if_pos (by omega), b1_some, l3Black_eq h g.1 g.2.1, b1_some, ih m _ (h.bk _) (by rw [bk_count2 h g.1 g.2.1 g.2.2]; omega) (by omega)]
      conv => rhs; unfold ma
      rw [if_pos c]
    · rw [fi_none c, if_neg (by omega), ma_none c]
theorem impl_maLoop {K : Nat} {L R Ro : List Int} (κ : List Int → Option (List Int × List Int × List Int × List Int × Bool)) (hK : 8 < K) : ∀ (k m : Nat) (C : List Int), CV L R Ro C → L.length ≤ k + C.count 2 → k < m → impl_MarkAll.loop0 K κ L R m C = κ (ma k L R C) := by
  intro k
  induction k with
  | zero =>
    intro m C h hk hm
    obtain ⟨m, rfl⟩ : ∃ m', m = m' + 1 := ⟨m - 1, by omega⟩
    have c' : (1 : Int) ∉ C := ma_done 0 C h hk
    rw [impl_MarkAll.loop0, look_eq h hK, if_neg c', b2_some, if_neg (by simp)]
    rfl
  | succ k ih =>
    intro m C h hk hm
    obtain ⟨m, rfl⟩ : ∃ m', m = m' + 1 := ⟨m - 1, by omega⟩
    rw [impl_MarkAll.loop0, look_eq h hK]
    by_cases c : (1 : Int) ∈ C
    · have g := gray_at h c
      rw [if_pos c, b2_some, if_pos rfl, ih m _ (h.bk _) (by rw [bk_count2 h g.1 g.2.1 g.2.2]; omega) (by omega)]
      conv => rhs; unfold ma
      rw [if_pos c]
    · rw [if_neg c, b2_some, if_neg (by simp), ma_none c]
theorem spec_MarkAll_eq {K : Nat} {L R Ro C : List Int} (hK : 8 < K) (hC : C.length < K) (hmax : C.length ≤ 9223372036854775807) : spec_MarkAll.f K L R Ro C = some (maV L R Ro C) := by
  unfold spec_MarkAll.f maV
  rw [spec_ColoredValid_eq hK hC hmax, b1_some]
  by_cases h : CV L R Ro C
  rotate_left
  · rw [if_neg (by simpa using h), if_neg h]
  have hl := h.le
  rw [if_pos (decide_eq_true h), if_pos h, l3Copy_eq (by omega) (by omega) (by omega) (by omega), b4_some, spec_maLoop _ hK 8 K C h (by omega) hK]
theorem impl_MarkAll_eq {K : Nat} {L R Ro C : List Int} (hK : 8 < K) (hC : C.length < K) (hmax : C.length ≤ 9223372036854775807) : impl_MarkAll.f K L R Ro C = some (maV L R Ro C) := by
  unfold impl_MarkAll.f maV
  rw [impl_ColoredValid_eq hK hC hmax, b1_some]
  by_cases h : CV L R Ro C
  rotate_left
  · rw [if_neg (by simpa using h), if_neg h]
  have hl := h.le
  rw [if_pos (decide_eq_true h), if_pos h, fresh_eq (by omega) (by omega) (by omega) (by omega), b4_some, impl_maLoop _ hK 8 K C h (by omega) hK]
theorem count_take_succ {C : List Int} {a : Int} {i : Nat} (hi : i < C.length) : (C.take (i + 1)).count a = (C.take i).count a + if rd C i = a then 1 else 0 := by
  rw [List.take_succ_eq_append_getElem hi, List.count_append, List.count_singleton, rd_get hi]
  by_cases c : C[i] = a
  · simp [c]
  · have : (C[i] == a) = false := by simpa using c
    simp [c, this]
theorem CountColor_eq {K : Nat} {L R Ro C : List Int} {a : Int} (h : CV L R Ro C) (hK : 8 < K) : impl_CountColor.f K L R Ro C a = some (C.count a : Int) := by
  have hl := h.le
  unfold impl_CountColor.f
  rw [impl_ColoredValid_eq hK (by omega) (by omega), b1_some, if_pos (decide_eq_true h)]
  have key := loop_st (fun m p (s : Int) => impl_CountColor.loop0 K (fun p5 => some p5) C a m s p) (fun i => ((C.take i).count a : Int)) C.length (some (C.count a : Int)) ?_ ?_ (K := K) (by omega)
  · simpa using key
  · intro m i hi
    have hc := List.count_le_length (a := a) (l := C.take i)
    rw [List.length_take] at hc
    rw [impl_CountColor.loop0, if_pos (by omega), if_pos (by omega), w64_succ hi (by omega), count_take_succ hi]
    by_cases c : rd C (i : Int) = a
    · rw [if_pos c, if_pos c, w64 (by omega) (by omega)]; rfl
    · rw [if_neg c, if_neg c]; rfl
  · intro m
    rw [impl_CountColor.loop0, if_neg (by omega), List.take_length]
theorem ColorHolds_1_eq {K : Nat} {C : List Int} {p : Int} (hp : -1 ≤ p) (hl : p < C.length) : impl_ColorHolds_1.f K p C = some (decide (¬(p = -1 ∨ rd C p ≠ 0))) := by
  unfold impl_ColorHolds_1.f
  by_cases c : p = -1
  · rw [if_pos c, decide_eq_false (fun g => g (.inl c))]
  · rw [if_neg c, if_pos (by omega)]
    by_cases e : rd C p = 0
    · simp [c, e]
    · simp [c, e]
theorem ColorHolds_eq {K : Nat} {L R Ro C : List Int} (hK : 8 < K) (hC : C.length < K) (hmax : C.length ≤ 9223372036854775807) : impl_ColorHolds.f K L R Ro C = some (decide (CV L R Ro C ∧ holds L R C)) := by
  unfold impl_ColorHolds.f
  rw [impl_ColoredValid_eq hK hC hmax, b1_some]
  by_cases h : CV L R Ro C
  rotate_left
  · rw [if_neg (by simpa using h), decide_eq_false (fun g => h g.1)]
  have hl := h.le
  rw [if_pos (decide_eq_true h)]
  have key := check_loop (fun m p => impl_ColorHolds.loop0 K (fun _ => some true) L R C m p) C.length (fun i => rd C (i : Int) = 2 → (rd L i = -1 ∨ rd C (rd L i) ≠ 0) ∧ (rd R i = -1 ∨ rd C (rd R i) ≠ 0)) (some true) (some false) ?_ ?_ (K := K) hC
  · rw [key]
    by_cases g : holds L R C
    · rw [decide_eq_true ⟨h, g⟩]; unfold holds at g; rw [if_pos g]
    · rw [decide_eq_false (fun k => g k.2)]; unfold holds at g; rw [if_neg g]
  · intro m i hi _
    have a := h.1.rdL (i := i) (by omega) (by omega)
    have b := h.1.rdR (i := i) (by omega) (by omega)
    rw [impl_ColorHolds.loop0, if_pos (by omega), if_pos (by omega), w64_succ hi (by omega)]
    by_cases c : rd C (i : Int) = 2
    · rw [if_pos c, if_pos (by omega), ColorHolds_1_eq a.1 (by omega), b1_some]
      by_cases c1 : rd L (i : Int) = -1 ∨ rd C (rd L i) ≠ 0
      · rw [if_neg (by rw [decide_eq_true_eq]; exact fun k => k c1), if_pos (by omega), ColorHolds_1_eq b.1 (by omega), b1_some]
        by_cases c2 : rd R (i : Int) = -1 ∨ rd C (rd R i) ≠ 0
        · rw [if_neg (by rw [decide_eq_true_eq]; exact fun k => k c2), if_pos (fun _ => ⟨c1, c2⟩)]
        · rw [if_pos (decide_eq_true c2), if_neg (fun g => c2 (g c).2)]
      · rw [if_pos (decide_eq_true c1), if_neg (fun g => c1 (g c).1)]
    · rw [if_neg c, if_pos (fun g => absurd g c)]
  · intro m _
    rw [impl_ColorHolds.loop0, if_neg (by omega)]
theorem impl_ColoredSame_eq {K : Nat} {a b c d a' b' c' d' : List Int} (ha : a.length < K) (hb : b.length < K) (hc : c.length < K) (hd : d.length < K) (hK : K ≤ 1099511627776) : impl_ColoredSame.f K a b c d a' b' c' d' = some (decide (a = a' ∧ b = b' ∧ c = c' ∧ d = d')) := by
  unfold impl_ColoredSame.f
  rw [impl_HeapSame_eq ha hb hc hK, b1_some]
  by_cases h : a = a' ∧ b = b' ∧ c = c'
  · rw [if_pos (decide_eq_true h), sEqual_eq hd (by omega), b1_some]
    exact congrArg some (decide_eq_decide.2 ⟨fun g => ⟨h.1, h.2.1, h.2.2, g⟩, fun g => g.2.2.2⟩)
  · rw [if_neg (by simpa using h), decide_eq_false (fun g => h ⟨g.1, g.2.1, g.2.2.1⟩)]
theorem csame_self {a b c d : List Int} (ha : a.length ≤ 1000) (hb : b.length ≤ 1000) (hc : c.length ≤ 1000) (hd : d.length ≤ 1000) : impl_ColoredSame.f KK a b c d a b c d = some true := by
  rw [impl_ColoredSame_eq (by show _ < 1048577; omega) (by show _ < 1048577; omega) (by show _ < 1048577; omega) (by show _ < 1048577; omega) (by decide)]
  simp
/-! ### draws -/
theorem CV.zero {L R Ro : List Int} (h : HV L R Ro) : CV L R Ro (List.replicate L.length 0) := by
  refine ⟨h, by simp, fun k hk => ?_⟩
  have := List.eq_of_mem_replicate hk
  omega
theorem spec_NewColored_eq {K : Nat} {L R Ro : List Int} (h : HV L R Ro) (hK : 8 < K) : spec_NewColored.f K L R Ro = some (L, R, Ro, List.replicate L.length 0, true) := by
  have := h.1; have := h.2.1; have := h.2.2.1; have := h.2.2.2.2.1
  unfold spec_NewColored.f
  rw [spec_HeapValid_eq hK, b1_some, if_pos (decide_eq_true h), l1Copy_eq (by omega) (by omega) (by omega), b3_some, if_pos (by omega), Int.toNat_natCast]
theorem spec_ShadeRoots_ex {K : Nat} {L R Ro C : List Int} (h : CV L R Ro C) (hK : 8 < K) : ∃ C', spec_ShadeRoots.f K L R Ro C = some (L, R, Ro, C', true) ∧ CV L R Ro C' := by
  have hl := h.le
  unfold spec_ShadeRoots.f
  rw [spec_ColoredValid_eq hK (by omega) (by omega), b1_some, if_pos (decide_eq_true h), l3Copy_eq (by omega) (by omega) (by omega) (by omega), b4_some]
  obtain ⟨C', g, e⟩ := loop_ex (fun m p (s : List Int) => spec_ShadeRoots.loop0 K (fun l3 => some (L, R, Ro, l3, true)) Ro m p s) (fun _ s => CV L R Ro s) Ro.length (fun s => some (L, R, Ro, s, true))
    (by
      intro m i s hi g
      have r := h.1.rdRo (i := i) (by omega) (by omega)
      have hs := g.2.1
      refine ⟨sh s (rd Ro i), g.sh _, ?_⟩
      rw [spec_ShadeRoots.loop0, if_pos (by omega), if_pos (by omega), l3Shade_eq r.1 (by omega), b1_some, w64_succ hi (by omega)])
    (by
      intro m s g
      rw [spec_ShadeRoots.loop0, if_neg (by omega)]) (K := K) (by omega) h
  exact ⟨C', e, g⟩
theorem CV.set {L R Ro C : List Int} (h : CV L R Ro C) {i v : Int} (hv : 0 ≤ v ∧ v ≤ 2) : CV L R Ro (C.set i.toNat v) := by
  refine ⟨h.1, by rw [List.length_set, h.2.1], fun k hk => ?_⟩
  rcases mem_set_of hk with rfl | hk
  · exact hv
  · exact h.2.2 k hk
theorem l3Draw_ex {K : Nat} {xs : List Int} {p : Int} (h : Src xs p) (hp : p ≤ 100000000) (hK : 20 < K) : ∃ L R Ro C p', spec_l3Draw.f K xs p = some (L, R, Ro, C, p') ∧ CV L R Ro C ∧ p ≤ p' ∧ p' ≤ p + 60 := by
  have hp0 := h.2.2.1
  unfold spec_l3Draw.f
  obtain ⟨L, R, Ro, p1, e1, hv, g1, g2⟩ := l1Draw_ex (K := K) h (by omega) (by omega)
  rw [e1, b4_some, spec_NewColored_eq hv (by omega), b5_some]
  obtain ⟨v, e2, v0, v1, _⟩ := pick_ex (K := K) (n := 3) (h.at (p' := p1) (by omega) (by omega)) (by omega)
  rw [e2, b2_some]
  have hz := CV.zero hv
  generalize List.replicate L.length (0 : Int) = Z at hz
  have hl := hz.le
  by_cases c : v = 0
  · rw [if_pos c]
    obtain ⟨⟨q, C'⟩, ⟨g3, g4⟩, e⟩ := loop_ex (fun m i (s : Int × List Int) => spec_l3Draw.loop0 K (fun p5 l3 => some (L, R, Ro, l3, p5)) xs m i s.1 s.2) (fun i s => s.1 = p1 + 1 + i ∧ CV L R Ro s.2) Z.length (fun s => some (L, R, Ro, s.2, s.1))
      (by
        rintro m i ⟨q, C⟩ hi ⟨g3, g4⟩
        simp only [] at g3 g4 ⊢
        have hs := g4.2.1
        obtain ⟨u, eu, u0, u1, _⟩ := pick_ex (K := K) (n := 3) (h.at (p' := q) (by omega) (by omega)) (by omega)
        refine ⟨(q + 1, C.set (i : Int).toNat u), ⟨by show q + 1 = _; omega, g4.set ⟨u0, by omega⟩⟩, ?_⟩
        rw [spec_l3Draw.loop0, if_pos (by omega), eu, b2_some, if_pos (by omega), w64_succ hi (by omega)])
      (by
        rintro m ⟨q, C⟩ ⟨g3, g4⟩
        simp only [] at g3 g4 ⊢
        have hs := g4.2.1
        rw [spec_l3Draw.loop0, if_neg (by omega)]) (K := K) (a := (p1 + 1, Z)) (by omega) ⟨by show p1 + 1 = p1 + 1 + ((0 : Nat) : Int); omega, hz⟩
    simp only [] at g3 g4 e
    exact ⟨_, _, _, _, _, e, g4, by omega, by omega⟩
  · rw [if_neg c]
    obtain ⟨C1, e3, g3⟩ := spec_ShadeRoots_ex (K := K) hz (by omega)
    obtain ⟨t, e4, t0, t1, _⟩ := pick_ex (K := K) (n := 4) (h.at (p' := p1 + 1) (by omega) (by omega)) (by omega)
    rw [e3, b5_some, e4, b2_some]
    have key := loop_mu (fun m (s : Int × List Int) => spec_l3Draw.loop1 K (fun l12 l13 l14 l15 => some (l12, l13, l14, l15, p1 + 1 + 1)) m s.1 L R Ro s.2)
      (fun s => 0 ≤ s.1 ∧ s.1 ≤ 4 ∧ CV L R Ro s.2) (fun s => s.1.toNat) (fun _ => True) (fun s => some (L, R, Ro, s.2, p1 + 1 + 1)) ?_ (K := K) (a := (t, C1)) ⟨t0, by show t ≤ 4; omega, g3⟩ (by show t.toNat < K; omega)
    · obtain ⟨⟨q, C'⟩, ⟨_, _, g4⟩, _, e⟩ := key
      simp only [] at g4 e
      exact ⟨_, _, _, _, _, e, g4, by omega, by omega⟩
    · rintro m ⟨q, C⟩ ⟨q0, q1, g4⟩
      simp only [] at q0 q1 g4 ⊢
      have hl4 := g4.le
      by_cases c2 : q > 0
      · left
        rw [spec_l3Draw.loop1, if_pos c2, spec_MarkStep_eq (by omega) (by omega) (by omega), w64 (x := q - 1) (by omega) (by omega)]
        unfold msV
        rw [if_pos g4]
        by_cases c3 : (1 : Int) ∈ C
        · rw [if_pos c3, b6_some]
          exact ⟨(q - 1, bk L R C (fi C 1)), ⟨by show 0 ≤ q - 1; omega, by show q - 1 ≤ 4; omega, g4.bk _⟩, by show (q - 1).toNat < q.toNat; omega, rfl⟩
        · rw [if_neg c3, b6_some]
          exact ⟨(q - 1, C), ⟨by show 0 ≤ q - 1; omega, by show q - 1 ≤ 4; omega, g4⟩, by show (q - 1).toNat < q.toNat; omega, rfl⟩
      · right
        rw [spec_l3Draw.loop1, if_neg c2]
        exact ⟨trivial, rfl⟩
theorem l3Wrong_ex {K n : Nat} {xs L R Ro C : List Int} {p : Int} (h : Src xs p) (hp : p ≤ 1000000) (hs : Short n L R Ro []) (hn : n ≤ 10000) (hC : 1 ≤ C.length) (hC2 : C.length ≤ n) : ∃ L' R' Ro' C' p', spec_l3Wrong.f K xs p L R Ro C = some (L', R', Ro', C', p') ∧ Short (n + 1) L' R' Ro' [] ∧ C'.length ≤ n + 1 ∧ 1 ≤ C'.length ∧ p ≤ p' ∧ p' ≤ p + 40 := by
  have hp0 := h.2.2.1
  have hs' := hs
  unfold Short at hs
  unfold spec_l3Wrong.f
  rw [l3Copy_eq (by omega) (by omega) (by omega) (by omega), b4_some]
  obtain ⟨k, ek, k0, _, _⟩ := pick_ex (K := K) (n := 20) h (by omega)
  rw [ek, b2_some]
  have h1 := h.at (p' := p + 1) (by omega) (by omega)
  split
  · obtain ⟨u, eu, u0, u1, _⟩ := pick_ex (K := K) (n := C.length) h1 (by omega)
    obtain ⟨v, ev, _⟩ := num_ex (K := K) (l := [3, -1, 0]) (h.at (p' := p + 1 + 1) (by omega) (by omega)) (by simp) (by simp)
    rw [eu, b2_some, ev, b2_some, if_pos ⟨u0, u1 (by omega)⟩]
    exact ⟨_, _, _, _, _, rfl, hs'.up (by omega), by simp; omega, by simp; omega, by omega, by omega⟩
  · split
    · rw [if_pos (by simp; omega)]
      exact ⟨_, _, _, _, _, rfl, hs'.up (by omega), by simp; omega, by simp, by omega, by omega⟩
    · split
      · obtain ⟨L1, R1, Ro1, p1, e1, s1, a1, b1'⟩ := l1Wrong_ex (K := K) h1 (by omega) hs' (by omega)
        rw [e1, b4_some]
        exact ⟨_, _, _, _, _, rfl, s1, by omega, by omega, by omega, by omega⟩
      · exact ⟨_, _, _, _, _, rfl, hs'.up (by omega), by omega, by omega, by omega, by omega⟩
theorem CV.short {L R Ro C : List Int} (h : CV L R Ro C) : Short 8 L R Ro [] ∧ 1 ≤ C.length ∧ C.length ≤ 8 := by
  have := h.le
  exact ⟨h.1.short, by omega, by omega⟩
theorem l3Case_ex {K : Nat} {a : List Int} (hu : ∀ x ∈ a, U8 x) (hK : 20 < K) : ∃ L R Ro C, spec_l3Case.f K a = some (L, R, Ro, C) ∧ Short 9 L R Ro [] ∧ C.length ≤ 9 := by
  have h := Src.open hu
  unfold spec_l3Case.f
  rw [l13Open_eq, b1_some]
  obtain ⟨L, R, Ro, C, p, e1, hk, p0, p1⟩ := l3Draw_ex (K := K) h (by omega) hK
  have hsh := hk.short
  obtain ⟨L', R', Ro', C', p', e2, hs, hc, _, p2, p3⟩ := l3Wrong_ex (K := K) (h.at (p' := p) (by omega) (by omega)) (by omega) hsh.1 (by omega) hsh.2.1 hsh.2.2
  rw [e1, b5_some, e2, b5_some]
  exact ⟨_, _, _, _, rfl, hs, hc⟩
end Go.Proofs.YtnfaiojmabolmaaDoor.T
