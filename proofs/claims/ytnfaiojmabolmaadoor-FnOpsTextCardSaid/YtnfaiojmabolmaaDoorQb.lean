/- Pure theorems of the exact laws of markers. -/
import Derived.Test.YtnfaiojmabolmaaDoorPz
namespace Go.Proofs.YtnfaiojmabolmaaDoor.T
open Go Go.RowKit Go.Proofs.YtnfaiojmabolmaaDoor.S Go.Proofs.YtnfaiojmabolmaaDoor.F
set_option linter.unusedVariables false
set_option linter.unusedSimpArgs false
/-- Where the marker stands. -/
def PH (ph n : Int) (ro l : Nat) : Prop := 0 ≤ n ∧ (((ph = 0 ∨ ph = 2) ∧ n = 0) ∨ (ph = 1 ∧ n < ro) ∨ (ph = 3 ∧ n < l))
instance {ph n : Int} {ro l : Nat} : Decidable (PH ph n ro l) := by unfold PH; infer_instance
theorem ph_eq {ph n : Int} {ro l : Nat} : (if n < 0 then some false else if ph = (0:Int) then some (n == (0:Int)) else if ph = (2:Int) then some (n == (0:Int)) else if ph = (1:Int) then some (decide (n < (ro : Int))) else if ph = (3:Int) then some (decide (n < (l : Int))) else some false) = some (decide (PH ph n ro l)) := by
  have hp : PH ph n ro l ↔ 0 ≤ n ∧ (((ph = 0 ∨ ph = 2) ∧ n = 0) ∨ (ph = 1 ∧ n < ro) ∨ (ph = 3 ∧ n < l)) := Iff.rfl
  by_cases h : n < 0
  · rw [if_pos h, decide_eq_false (fun g => by have := hp.1 g; omega)]
  rw [if_neg h]
  by_cases h0 : ph = 0
  · rw [if_pos h0]
    by_cases z : n = 0
    · rw [decide_eq_true (hp.2 (by omega))]; simp [z]
    · rw [decide_eq_false (fun g => by have := hp.1 g; omega)]; simp [z]
  rw [if_neg h0]
  by_cases h2 : ph = 2
  · rw [if_pos h2]
    by_cases z : n = 0
    · rw [decide_eq_true (hp.2 (by omega))]; simp [z]
    · rw [decide_eq_false (fun g => by have := hp.1 g; omega)]; simp [z]
  rw [if_neg h2]
  by_cases h1 : ph = 1
  · rw [if_pos h1]
    exact congrArg some (decide_eq_decide.2 (by rw [hp]; omega))
  rw [if_neg h1]
  by_cases h3 : ph = 3
  · rw [if_pos h3]
    exact congrArg some (decide_eq_decide.2 (by rw [hp]; omega))
  · rw [if_neg h3, decide_eq_false (fun g => by have := hp.1 g; omega)]
/-- A marker is valid. -/
def GV (L R Ro F C : List Int) (ph n : Int) : Prop := SV L R Ro F ∧ CV L R Ro C ∧ PH ph n Ro.length L.length
instance {L R Ro F C : List Int} {ph n : Int} : Decidable (GV L R Ro F C ph n) := by unfold GV; infer_instance
theorem spec_GcValid_eq {L R Ro F C : List Int} {ph n : Int} (hC : C.length < KK) : spec_GcValid.f KK L R Ro F ph C n = some (decide (GV L R Ro F C ph n)) := by
  have hC' : C.length < 1048577 := hC
  unfold spec_GcValid.f
  rw [spec_StoreValid_eq (by decide), b1_some]
  by_cases h : SV L R Ro F
  rotate_left
  · rw [if_neg (by simpa using h), decide_eq_false (fun g => h g.1)]
  rw [if_pos (decide_eq_true h), spec_ColoredValid_eq (by decide) hC (by omega), b1_some]
  by_cases g : CV L R Ro C
  rotate_left
  · rw [if_neg (by simpa using g), decide_eq_false (fun k => g k.2.1)]
  rw [if_pos (decide_eq_true g), ph_eq]
  exact congrArg some (decide_eq_decide.2 ⟨fun k => ⟨h, g, k⟩, fun k => k.2.2⟩)
theorem impl_GcValid_eq {L R Ro F C : List Int} {ph n : Int} (hF : F.length < KK) (hC : C.length < KK) : impl_GcValid.f KK L R Ro F ph C n = some (decide (GV L R Ro F C ph n)) := by
  have hC' : C.length < 1048577 := hC
  have hF' : F.length < 1048577 := hF
  unfold impl_GcValid.f
  rw [impl_StoreValid_eq (by decide) hF (by omega), b1_some]
  by_cases h : SV L R Ro F
  rotate_left
  · rw [if_neg (by simpa using h), decide_eq_false (fun g => h g.1)]
  rw [if_pos (decide_eq_true h), colorsOk_eq hC (by omega), b1_some]
  by_cases g : (C.length : Int) = (L.length : Int) ∧ ∀ k ∈ C, (0 : Int) ≤ k ∧ k ≤ 2
  rotate_left
  · rw [if_neg (by rw [decide_eq_true_eq]; exact g), decide_eq_false (fun k => g ⟨by rw [k.2.1.2.1], k.2.1.2.2⟩)]
  rw [if_pos (decide_eq_true g), ph_eq]
  exact congrArg some (decide_eq_decide.2 ⟨fun k => ⟨h, ⟨h.1, by omega, g.2⟩, k⟩, fun k => k.2.2⟩)
theorem GV.le {L R Ro F C : List Int} {ph n : Int} (h : GV L R Ro F C ph n) : 1 ≤ L.length ∧ L.length ≤ 8 ∧ R.length = L.length ∧ Ro.length ≤ 8 ∧ C.length = L.length ∧ F.length ≤ L.length := by
  have := h.2.1.le; have := h.1.len
  omega
theorem l6Copy_eq {K : Nat} {C : List Int} {ph n : Int} (hC : C.length ≤ 1099511627776) : spec_l6Copy.f K ph C n = some (ph, C, n) := by
  unfold spec_l6Copy.f
  rw [if_pos (by simpa)]
  simp
/-- A new cell is colored. -/
def cnV (L R Ro F C : List Int) (ph n c : Int) : Int × List Int × Int × Bool :=
  if GV L R Ro F C ph n ∧ 0 ≤ c ∧ c < L.length then (ph, C.set c.toNat (if ph = 1 ∨ ph = 2 ∨ (ph = 3 ∧ c ≥ n) then 2 else 0), n, true) else (0, [], 0, false)
theorem cn_tail {C : List Int} {ph n c : Int} (h0 : 0 ≤ c) (h1 : c < C.length) :
    (if ph = (1:Int) then
        if 0 ≤ c ∧ c < ((C.set c.toNat (0:Int)).length : Int) then
        some (ph, ((C.set c.toNat (0:Int)).set c.toNat (2:Int)), n, true)
        else none
      else
        if ph = (2:Int) then
          if 0 ≤ c ∧ c < ((C.set c.toNat (0:Int)).length : Int) then
          some (ph, ((C.set c.toNat (0:Int)).set c.toNat (2:Int)), n, true)
          else none
        else
          if ph = (3:Int) then
            if c ≥ n then
              if 0 ≤ c ∧ c < ((C.set c.toNat (0:Int)).length : Int) then
              some (ph, ((C.set c.toNat (0:Int)).set c.toNat (2:Int)), n, true)
              else none
            else
              some (ph, (C.set c.toNat (0:Int)), n, true)
          else
            some (ph, (C.set c.toNat (0:Int)), n, true)) = some (ph, C.set c.toNat (if ph = 1 ∨ ph = 2 ∨ (ph = 3 ∧ c ≥ n) then 2 else 0), n, true) := by
  have hr : 0 ≤ c ∧ c < ((C.set c.toNat (0:Int)).length : Int) := by rw [List.length_set]; exact ⟨h0, h1⟩
  rw [if_pos hr, List.set_set]
  by_cases a : ph = 1
  · rw [if_pos a, if_pos (.inl a)]
  rw [if_neg a]
  by_cases b : ph = 2
  · rw [if_pos b, if_pos (.inr (.inl b))]
  rw [if_neg b]
  by_cases d : ph = 3
  · rw [if_pos d]
    by_cases e : c ≥ n
    · rw [if_pos e, if_pos (.inr (.inr ⟨d, e⟩))]
    · rw [if_neg e, if_neg (by omega)]
  · rw [if_neg d, if_neg (by omega)]
theorem spec_ColorNew_eq {L R Ro F C : List Int} {ph n c : Int} (hC : C.length < KK) : spec_ColorNew.f KK L R Ro F ph C n c = some (cnV L R Ro F C ph n c) := by
  unfold spec_ColorNew.f cnV
  rw [spec_GcValid_eq hC, b1_some]
  by_cases h : GV L R Ro F C ph n
  rotate_left
  · rw [if_neg (by simpa using h), if_neg (fun g => h g.1)]
  have hl := h.le
  rw [if_pos (decide_eq_true h), l1Cell_eq (by decide), b1_some]
  by_cases g : 0 ≤ c ∧ c < L.length
  · rw [if_pos (decide_eq_true ⟨h.1.1, g⟩), if_pos ⟨h, g⟩, l6Copy_eq (by omega), b3_some, if_pos (by omega)]
    exact cn_tail g.1 (by omega)
  · rw [if_neg (by rw [decide_eq_true_eq]; exact fun k => g k.2), if_neg (fun k => g k.2)]
theorem impl_ColorNew_eq {L R Ro F C : List Int} {ph n c : Int} (hF : F.length < KK) (hC : C.length < KK) : impl_ColorNew.f KK L R Ro F ph C n c = some (cnV L R Ro F C ph n c) := by
  unfold impl_ColorNew.f cnV
  rw [impl_GcValid_eq hF hC, b1_some]
  by_cases h : GV L R Ro F C ph n
  rotate_left
  · rw [if_neg (by simpa using h), if_neg (fun g => h g.1)]
  have hl := h.le
  rw [if_pos (decide_eq_true h), has_eq (by decide), b1_some]
  by_cases g : 0 ≤ c ∧ c < L.length
  · rw [if_pos (decide_eq_true ⟨h.1.1, g⟩), if_pos ⟨h, g⟩, Clone_eq (by omega), b1_some, if_pos (by omega)]
    exact cn_tail g.1 (by omega)
  · rw [if_neg (by rw [decide_eq_true_eq]; exact fun k => g k.2), if_neg (fun k => g k.2)]
/-- A cell is shaded while the marker marks. -/
def sgV (L R Ro F C : List Int) (ph n c : Int) : Int × List Int × Int × Bool :=
  if GV L R Ro F C ph n ∧ 0 ≤ c ∧ c < L.length then (ph, (if ph = 1 ∨ ph = 2 then sh C c else C), n, true) else (0, [], 0, false)
theorem spec_ShadeGc_eq {L R Ro F C : List Int} {ph n c : Int} (hC : C.length < KK) : spec_ShadeGc.f KK L R Ro F ph C n c = some (sgV L R Ro F C ph n c) := by
  unfold spec_ShadeGc.f sgV
  rw [spec_GcValid_eq hC, b1_some]
  by_cases h : GV L R Ro F C ph n
  rotate_left
  · rw [if_neg (by simpa using h), if_neg (fun g => h g.1)]
  have hl := h.le
  rw [if_pos (decide_eq_true h), l1Cell_eq (by decide), b1_some]
  by_cases g : 0 ≤ c ∧ c < L.length
  · rw [if_pos (decide_eq_true ⟨h.1.1, g⟩), if_pos ⟨h, g⟩, l6Copy_eq (by omega), b3_some, l3Shade_eq (by omega) (by omega), b1_some]
    by_cases a : ph = 1
    · rw [if_pos a, if_pos (.inl a)]
    · rw [if_neg a]
      by_cases b : ph = 2
      · rw [if_pos b, if_pos (.inr b)]
      · rw [if_neg b, if_neg (by omega)]
  · rw [if_neg (by rw [decide_eq_true_eq]; exact fun k => g k.2), if_neg (fun k => g k.2)]
theorem impl_ShadeGc_eq {L R Ro F C : List Int} {ph n c : Int} (hF : F.length < KK) (hC : C.length < KK) : impl_ShadeGc.f KK L R Ro F ph C n c = some (sgV L R Ro F C ph n c) := by
  unfold impl_ShadeGc.f sgV
  rw [impl_GcValid_eq hF hC, b1_some]
  by_cases h : GV L R Ro F C ph n
  rotate_left
  · rw [if_neg (by simpa using h), if_neg (fun g => h g.1)]
  have hl := h.le
  rw [if_pos (decide_eq_true h), has_eq (by decide), b1_some]
  by_cases g : 0 ≤ c ∧ c < L.length
  · rw [if_pos (decide_eq_true ⟨h.1.1, g⟩), if_pos ⟨h, g⟩, Clone_eq (by omega), b1_some, shade_eq (by omega) (by omega), b1_some]
    by_cases a : ph = 1
    · rw [if_pos a, if_pos (.inl a)]
    · rw [if_neg a]
      by_cases b : ph = 2
      · rw [if_pos b, if_pos (.inr b)]
      · rw [if_neg b, if_neg (by omega)]
  · rw [if_neg (by rw [decide_eq_true_eq]; exact fun k => g k.2), if_neg (fun k => g k.2)]
/-- The cell that the next step frees. -/
def swV (L R Ro F C : List Int) (ph n : Int) : Int :=
  if GV L R Ro F C ph n ∧ ph = 3 ∧ rd C n = 0 ∧ n ∉ F then n else -1
theorem l6Swept_eq {L R Ro F C : List Int} {ph n : Int} (h : GV L R Ro F C ph n) : spec_l6Swept.f KK F ph C n = some (swV L R Ro F C ph n) := by
  have hl := h.le
  have hp := h.2.2
  unfold PH at hp
  unfold spec_l6Swept.f swV
  by_cases a : ph = 3
  rotate_left
  · rw [if_neg a, if_neg (fun g => a g.2.1)]
  rw [if_pos a, if_pos (by omega)]
  by_cases z : rd C n = 0
  rotate_left
  · rw [if_neg z, if_neg (fun g => z g.2.2.1)]
  rw [if_pos z, l4At_eq (by show _ < 1048577; omega) (by omega), b1_some]
  by_cases m : n ∈ F
  · have := (fi_nonneg (xs := F) (a := n)).2 m
    rw [if_neg (by omega), if_neg (fun g => g.2.2.2 m)]
  · rw [fi_none m, if_pos (by omega), if_pos ⟨h, a, z, m⟩]
theorem spec_SweptCell_eq {L R Ro F C : List Int} {ph n : Int} (hC : C.length < KK) : spec_SweptCell.f KK L R Ro F ph C n = some (swV L R Ro F C ph n) := by
  unfold spec_SweptCell.f
  rw [spec_GcValid_eq hC, b1_some]
  by_cases h : GV L R Ro F C ph n
  · rw [if_pos (decide_eq_true h), l6Swept_eq h, b1_some]
  · unfold swV; rw [if_neg (by simpa using h), if_neg (fun g => h g.1)]
theorem impl_SweptCell_eq {L R Ro F C : List Int} {ph n : Int} (hF : F.length < KK) (hC : C.length < KK) : impl_SweptCell.f KK L R Ro F ph C n = some (swV L R Ro F C ph n) := by
  unfold impl_SweptCell.f swV
  rw [impl_GcValid_eq hF hC, b1_some]
  by_cases h : GV L R Ro F C ph n
  rotate_left
  · rw [if_neg (by simpa using h), if_neg (fun g => h g.1)]
  have hl := h.le
  have hp := h.2.2
  unfold PH at hp
  rw [if_pos (decide_eq_true h)]
  by_cases a : ph = 3
  rotate_left
  · rw [if_neg a, if_neg (fun g => a g.2.1)]
  rw [if_pos a, if_pos (by omega)]
  by_cases z : rd C n = 0
  rotate_left
  · rw [if_neg z, if_neg (fun g => z g.2.2.1)]
  rw [if_pos z, Contains_eq hF (by omega), b1_some]
  by_cases m : n ∈ F
  · rw [if_pos (decide_eq_true m), if_neg (fun g => g.2.2.2 m)]
  · rw [if_neg (by simpa using m), if_pos ⟨h, a, z, m⟩]
/-- A new marker. -/
def ngV (L R Ro F : List Int) : Int × List Int × Int × Bool := if SV L R Ro F then (0, List.replicate L.length 0, 0, true) else (0, [], 0, false)
theorem spec_NewGc_eq {K : Nat} {L R Ro F : List Int} (hK : 32 < K) : spec_NewGc.f K L R Ro F = some (ngV L R Ro F) := by
  unfold spec_NewGc.f ngV
  rw [spec_StoreValid_eq (by omega), b1_some]
  by_cases h : SV L R Ro F
  · have := h.1.2.1
    rw [if_pos (decide_eq_true h), if_pos h, if_pos (by omega), Int.toNat_natCast]
  · rw [if_neg (by simpa using h), if_neg h]
theorem impl_NewGc_eq {K : Nat} {L R Ro F : List Int} (hK : 32 < K) (hF : F.length < K) (hmax : F.length ≤ 9223372036854775807) : impl_NewGc.f K L R Ro F = some (ngV L R Ro F) := by
  unfold impl_NewGc.f ngV
  rw [impl_StoreValid_eq hK hF hmax, b1_some]
  by_cases h : SV L R Ro F
  · have := h.1.2.1
    rw [if_pos (decide_eq_true h), if_pos h, if_pos (by omega), Int.toNat_natCast]
  · rw [if_neg (by simpa using h), if_neg h]
/-! ### marks -/
theorem markGc_ex {p q : Int} {a : List Int} (ha : Fit KK a) : ∃ k a', laws_markGc.f KK p a q 1 = some (k, a') ∧ laws_heldGc.f KK p a' q 1 = some k ∧ ¬k < 0 := by
  obtain ⟨k, a', e1, e2, e3⟩ := markIntS_ex ha
  refine ⟨k, a', ?_, ?_, e3⟩
  · unfold laws_markGc.f; rw [e1, b2_some]
  · unfold laws_heldGc.f; rw [e2, b1_some, if_neg e3]
theorem markBoth_ex {p q : Int} {a b c d e : List Int} (ha : Fit KK a) (hb : Fit KK b) (hc : Fit KK c) (hd : Fit KK d) (he : Fit KK e) : ∃ k a' b' c' d' k2 e', laws_markStore.f KK a b c d 1 = some (k, a', b', c', d') ∧ laws_markGc.f KK p e q k = some (k2, e') ∧ ¬k2 < 0 := by
  have := ha.2; have := hb.2; have := hc.2; have := hd.2
  have e1 := markStore_eq (K := KK) (k := 1) ha hb hc hd (by omega) (by omega)
  have e2 := markIntS_eq (K := KK) (k := 1 + a.length + b.length + c.length + d.length) he.1 he.2 (by omega) (by omega)
  exact ⟨_, _, _, _, _, _, _, e1, by unfold laws_markGc.f; rw [e2, b2_some], by omega⟩
theorem szGc_f {p q r : Int} {a : List Int} (h0 : 0 ≤ r) (h1 : r ≤ 1048576) (ha : a.length ≤ 9223372036854775807) : ∃ r2, laws_szGc.f KK p a q r = some r2 ∧ (r2 < 0 ∨ (¬r2 < 0 ∧ Fit KK a)) := by
  obtain ⟨r2, e, g⟩ := szGc_ex (K := KK) (p := p) (q := q) h0 h1 ha
  refine ⟨r2, e, ?_⟩
  unfold Lft at g
  rcases g with g | g
  · exact .inl g
  · exact .inr ⟨by omega, .of (by omega)⟩
end Go.Proofs.YtnfaiojmabolmaaDoor.T
namespace Go.Proofs.YtnfaiojmabolmaaDoor.Pure
open Go Go.RowKit Go.Proofs.YtnfaiojmabolmaaDoor.S Go.Proofs.YtnfaiojmabolmaaDoor.F Go.Proofs.YtnfaiojmabolmaaDoor.T
set_option linter.unusedVariables false
set_option linter.unusedSimpArgs false
theorem FnExactColorNew : ∀ (a0_0 : List Int), a0_0.length ≤ 9223372036854775807 → (∀ x ∈ a0_0, I64 x) → ∀ (a0_1 : List Int), a0_1.length ≤ 9223372036854775807 → (∀ x ∈ a0_1, I64 x) → ∀ (a0_2 : List Int), a0_2.length ≤ 9223372036854775807 → (∀ x ∈ a0_2, I64 x) → ∀ (a0_3 : List Int), a0_3.length ≤ 9223372036854775807 → (∀ x ∈ a0_3, I64 x) → ∀ (a1_0 : Int), I64 a1_0 → ∀ (a1_1 : List Int), a1_1.length ≤ 9223372036854775807 → (∀ x ∈ a1_1, I64 x) → ∀ (a1_2 : Int), I64 a1_2 → ∀ (a2 : Int), I64 a2 → ∃ K, laws_FnExactColorNew.f K a0_0 a0_1 a0_2 a0_3 a1_0 a1_1 a1_2 a2 = some true := by
  intro L hL _ R hR _ Ro hRo _ F hF _ ph _ C hC _ n _ c _
  refine ⟨KK, ?_⟩
  unfold laws_FnExactColorNew.f
  obtain ⟨r, e, g⟩ := szStore_f hL hR hRo hF
  rw [e, b1_some]
  rcases g with g | ⟨g, g0, g1, fL, fR, fRo, fF⟩
  · rw [if_pos g]
  rw [if_neg g]
  obtain ⟨r2, e2, g2⟩ := szGc_f (p := ph) (q := n) g0 g1 hC
  rw [e2, b1_some]
  rcases g2 with g2 | ⟨g2, fC⟩
  · rw [if_pos g2]
  rw [if_neg g2]
  have f : Fit KK (cnV L R Ro F C ph n c).2.1 := by
    unfold cnV
    by_cases h : GV L R Ro F C ph n ∧ 0 ≤ c ∧ c < L.length
    · have := h.1.le
      rw [if_pos h]
      refine .of ?_
      show (C.set _ _).length ≤ _; rw [List.length_set]; exact fC.2
    · rw [if_neg h]; exact .of (by simp)
  obtain ⟨k, x1, x2, x3, x4, k2, x5, m1, m2, m3⟩ := markBoth_ex (p := ph) (q := n) fL fR fRo fF fC
  obtain ⟨k', y, n1, n2, n3⟩ := markGc_ex (p := (cnV L R Ro F C ph n c).1) (q := (cnV L R Ro F C ph n c).2.2.1) f
  simp only [toStore_f fL fR fRo fF, toGc_f fC, b4_some, b3_some, spec_ColorNew_eq (L := L) (R := R) (Ro := Ro) (F := F) fC.1, impl_ColorNew_eq (L := L) (R := R) (Ro := Ro) fF.1 fC.1, b4_p, b1_some, b2_some, b5_some, eqGc_s f, eqGc_s fC, eqStore_s fL fR fRo fF, if_true, m1, m2, m3, n1, n2, n3, if_false]
theorem FnExactShadeGc : ∀ (a0_0 : List Int), a0_0.length ≤ 9223372036854775807 → (∀ x ∈ a0_0, I64 x) → ∀ (a0_1 : List Int), a0_1.length ≤ 9223372036854775807 → (∀ x ∈ a0_1, I64 x) → ∀ (a0_2 : List Int), a0_2.length ≤ 9223372036854775807 → (∀ x ∈ a0_2, I64 x) → ∀ (a0_3 : List Int), a0_3.length ≤ 9223372036854775807 → (∀ x ∈ a0_3, I64 x) → ∀ (a1_0 : Int), I64 a1_0 → ∀ (a1_1 : List Int), a1_1.length ≤ 9223372036854775807 → (∀ x ∈ a1_1, I64 x) → ∀ (a1_2 : Int), I64 a1_2 → ∀ (a2 : Int), I64 a2 → ∃ K, laws_FnExactShadeGc.f K a0_0 a0_1 a0_2 a0_3 a1_0 a1_1 a1_2 a2 = some true := by
  intro L hL _ R hR _ Ro hRo _ F hF _ ph _ C hC _ n _ c _
  refine ⟨KK, ?_⟩
  unfold laws_FnExactShadeGc.f
  obtain ⟨r, e, g⟩ := szStore_f hL hR hRo hF
  rw [e, b1_some]
  rcases g with g | ⟨g, g0, g1, fL, fR, fRo, fF⟩
  · rw [if_pos g]
  rw [if_neg g]
  obtain ⟨r2, e2, g2⟩ := szGc_f (p := ph) (q := n) g0 g1 hC
  rw [e2, b1_some]
  rcases g2 with g2 | ⟨g2, fC⟩
  · rw [if_pos g2]
  rw [if_neg g2]
  have f : Fit KK (sgV L R Ro F C ph n c).2.1 := by
    unfold sgV
    by_cases h : GV L R Ro F C ph n ∧ 0 ≤ c ∧ c < L.length
    · have := h.1.le
      rw [if_pos h]
      refine .of ?_
      show (if ph = 1 ∨ ph = 2 then sh C c else C).length ≤ _; split; rw [sh_len]; exact fC.2; exact fC.2
    · rw [if_neg h]; exact .of (by simp)
  obtain ⟨k, x1, x2, x3, x4, k2, x5, m1, m2, m3⟩ := markBoth_ex (p := ph) (q := n) fL fR fRo fF fC
  obtain ⟨k', y, n1, n2, n3⟩ := markGc_ex (p := (sgV L R Ro F C ph n c).1) (q := (sgV L R Ro F C ph n c).2.2.1) f
  simp only [toStore_f fL fR fRo fF, toGc_f fC, b4_some, b3_some, spec_ShadeGc_eq (L := L) (R := R) (Ro := Ro) (F := F) fC.1, impl_ShadeGc_eq (L := L) (R := R) (Ro := Ro) fF.1 fC.1, b4_p, b1_some, b2_some, b5_some, eqGc_s f, eqGc_s fC, eqStore_s fL fR fRo fF, if_true, m1, m2, m3, n1, n2, n3, if_false]
theorem FnExactNewGc : ∀ (a0_0 : List Int), a0_0.length ≤ 9223372036854775807 → (∀ x ∈ a0_0, I64 x) → ∀ (a0_1 : List Int), a0_1.length ≤ 9223372036854775807 → (∀ x ∈ a0_1, I64 x) → ∀ (a0_2 : List Int), a0_2.length ≤ 9223372036854775807 → (∀ x ∈ a0_2, I64 x) → ∀ (a0_3 : List Int), a0_3.length ≤ 9223372036854775807 → (∀ x ∈ a0_3, I64 x) → ∃ K, laws_FnExactNewGc.f K a0_0 a0_1 a0_2 a0_3 = some true := by
  intro L hL _ R hR _ Ro hRo _ F hF _
  refine ⟨KK, ?_⟩
  unfold laws_FnExactNewGc.f
  obtain ⟨r, e, g⟩ := szStore_f hL hR hRo hF
  rw [e, b1_some]
  rcases g with g | ⟨g, g0, g1, fL, fR, fRo, fF⟩
  · rw [if_pos g]
  rw [if_neg g]
  have f : Fit KK (ngV L R Ro F).2.1 := by
    unfold ngV
    by_cases h : SV L R Ro F
    · have := h.1.2.1
      rw [if_pos h]
      refine .of ?_
      show (List.replicate _ _).length ≤ _
      simp; omega
    · rw [if_neg h]; exact .of (by simp)
  obtain ⟨k, x1, x2, x3, x4, m1, m2, m3⟩ := markStore_ex fL fR fRo fF
  obtain ⟨k', y, n1, n2, n3⟩ := markGc_ex (p := (ngV L R Ro F).1) (q := (ngV L R Ro F).2.2.1) f
  simp only [toStore_f fL fR fRo fF, b4_some, spec_NewGc_eq (K := KK) (L := L) (R := R) (Ro := Ro) (F := F) (by decide), impl_NewGc_eq (K := KK) (L := L) (R := R) (Ro := Ro) (by decide) fF.1 fF.mx2, b4_p, b1_some, b2_some, b5_some, eqGc_s f, eqStore_s fL fR fRo fF, if_true, m1, m3, n1, n2, n3, if_false]
theorem FnExactGcValid : ∀ (a0_0 : List Int), a0_0.length ≤ 9223372036854775807 → (∀ x ∈ a0_0, I64 x) → ∀ (a0_1 : List Int), a0_1.length ≤ 9223372036854775807 → (∀ x ∈ a0_1, I64 x) → ∀ (a0_2 : List Int), a0_2.length ≤ 9223372036854775807 → (∀ x ∈ a0_2, I64 x) → ∀ (a0_3 : List Int), a0_3.length ≤ 9223372036854775807 → (∀ x ∈ a0_3, I64 x) → ∀ (a1_0 : Int), I64 a1_0 → ∀ (a1_1 : List Int), a1_1.length ≤ 9223372036854775807 → (∀ x ∈ a1_1, I64 x) → ∀ (a1_2 : Int), I64 a1_2 → ∃ K, laws_FnExactGcValid.f K a0_0 a0_1 a0_2 a0_3 a1_0 a1_1 a1_2 = some true := by
  intro L hL _ R hR _ Ro hRo _ F hF _ ph _ C hC _ n _
  refine ⟨KK, ?_⟩
  unfold laws_FnExactGcValid.f
  obtain ⟨r, e, g⟩ := szStore_f hL hR hRo hF
  rw [e, b1_some]
  rcases g with g | ⟨g, g0, g1, fL, fR, fRo, fF⟩
  · rw [if_pos g]
  rw [if_neg g]
  obtain ⟨r2, e2, g2⟩ := szGc_f (p := ph) (q := n) g0 g1 hC
  rw [e2, b1_some]
  rcases g2 with g2 | ⟨g2, fC⟩
  · rw [if_pos g2]
  rw [if_neg g2]
  simp only [toStore_f fL fR fRo fF, toGc_f fC, b4_some, b3_some, spec_GcValid_eq (L := L) (R := R) (Ro := Ro) (F := F) fC.1, impl_GcValid_eq (L := L) (R := R) (Ro := Ro) fF.1 fC.1, b1_some, eqGc_s fC, eqStore_s fL fR fRo fF, if_true]
theorem FnExactSweptCell : ∀ (a0_0 : List Int), a0_0.length ≤ 9223372036854775807 → (∀ x ∈ a0_0, I64 x) → ∀ (a0_1 : List Int), a0_1.length ≤ 9223372036854775807 → (∀ x ∈ a0_1, I64 x) → ∀ (a0_2 : List Int), a0_2.length ≤ 9223372036854775807 → (∀ x ∈ a0_2, I64 x) → ∀ (a0_3 : List Int), a0_3.length ≤ 9223372036854775807 → (∀ x ∈ a0_3, I64 x) → ∀ (a1_0 : Int), I64 a1_0 → ∀ (a1_1 : List Int), a1_1.length ≤ 9223372036854775807 → (∀ x ∈ a1_1, I64 x) → ∀ (a1_2 : Int), I64 a1_2 → ∃ K, laws_FnExactSweptCell.f K a0_0 a0_1 a0_2 a0_3 a1_0 a1_1 a1_2 = some true := by
  intro L hL _ R hR _ Ro hRo _ F hF _ ph _ C hC _ n _
  refine ⟨KK, ?_⟩
  unfold laws_FnExactSweptCell.f
  obtain ⟨r, e, g⟩ := szStore_f hL hR hRo hF
  rw [e, b1_some]
  rcases g with g | ⟨g, g0, g1, fL, fR, fRo, fF⟩
  · rw [if_pos g]
  rw [if_neg g]
  obtain ⟨r2, e2, g2⟩ := szGc_f (p := ph) (q := n) g0 g1 hC
  rw [e2, b1_some]
  rcases g2 with g2 | ⟨g2, fC⟩
  · rw [if_pos g2]
  rw [if_neg g2]
  simp only [toStore_f fL fR fRo fF, toGc_f fC, b4_some, b3_some, spec_SweptCell_eq (L := L) (R := R) (Ro := Ro) (F := F) fC.1, impl_SweptCell_eq (L := L) (R := R) (Ro := Ro) fF.1 fC.1, b1_some, eqGc_s fC, eqStore_s fL fR fRo fF, if_true]
end Go.Proofs.YtnfaiojmabolmaaDoor.Pure
