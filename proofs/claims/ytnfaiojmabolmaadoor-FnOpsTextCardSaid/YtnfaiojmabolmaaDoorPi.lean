/- Pure theorems of one cell that is cleared, and of cells that are taken. -/
import Derived.Test.YtnfaiojmabolmaaDoorX2
namespace Go.Proofs.YtnfaiojmabolmaaDoor.T
open Go Go.RowKit Go.Proofs.YtnfaiojmabolmaaDoor.S Go.Proofs.YtnfaiojmabolmaaDoor.F
set_option linter.unusedVariables false
set_option linter.unusedSimpArgs false
theorem rd_clr1 {c : Int} {xs : List Int} {x : Int} (h0 : 0 ≤ x) (h1 : x < xs.length) : rd (clr [c] xs) x = if rd xs x = c ∨ x = c then -1 else rd xs x := by
  rw [rd_clr h0 h1]; simp only [List.mem_singleton]
theorem mem_clr {cells xs : List Int} {x : Int} (h : x ∈ clr cells xs) : x = -1 ∨ (x ∈ xs ∧ x ∉ cells) := by
  obtain ⟨i, hi, rfl⟩ := mem_rd h
  rw [clr_len] at hi
  rw [rd_clr (by omega) (by omega)]
  split
  · exact .inl rfl
  · rename_i g
    exact .inr ⟨rd_mem (by omega) (by omega), fun k => g (.inl k)⟩
theorem HV.clr {L R Ro : List Int} (h : HV L R Ro) (cells : List Int) : HV (clr cells L) (clr cells R) Ro := by
  obtain ⟨h1, h2, h3, h4, h5, h6, h7, h8⟩ := h
  refine ⟨by rwa [clr_len], by rwa [clr_len], by rw [clr_len, clr_len]; exact h3, h4, h5, ?_, ?_, by rwa [clr_len]⟩
  · intro x hx
    rw [clr_len]
    rcases mem_clr hx with rfl | hx
    · omega
    · exact h6 x hx.1
  · intro x hx
    rw [clr_len]
    rcases mem_clr hx with rfl | hx
    · omega
    · exact h7 x hx.1
theorem live_clr {L R Ro : List Int} {c x : Int} (h : HV L R Ro) (hc : ¬Live L R Ro c) : Live (clr [c] L) (clr [c] R) Ro x ↔ Live L R Ro x := by
  have hR := h.2.2.1
  constructor
  · intro hx
    induction hx with
    | root m p => exact .root m p
    | left l p ih =>
      have := ih.rng h
      rw [rd_clr1 this.1 this.2] at p ⊢
      split at p
      · omega
      · rename_i g; rw [if_neg g]; exact .left ih p
    | right l p ih =>
      have := ih.rng h
      rw [rd_clr1 this.1 (by omega)] at p ⊢
      split at p
      · omega
      · rename_i g; rw [if_neg g]; exact .right ih p
  · intro hx
    induction hx with
    | root m p => exact .root m p
    | @left y l p ih =>
      have := l.rng h
      have hl : Live L R Ro (rd L y) := .left l p
      have e : rd (clr [c] L) y = rd L y := by
        rw [rd_clr1 this.1 this.2, if_neg]
        rintro (g | g)
        · rw [g] at hl; exact hc hl
        · rw [g] at l; exact hc l
      rw [← e]; exact .left ih (by rw [e]; exact p)
    | @right y l p ih =>
      have := l.rng h
      have hl : Live L R Ro (rd R y) := .right l p
      have e : rd (clr [c] R) y = rd R y := by
        rw [rd_clr1 this.1 (by omega), if_neg]
        rintro (g | g)
        · rw [g] at hl; exact hc hl
        · rw [g] at l; exact hc l
      rw [← e]; exact .right ih (by rw [e]; exact p)
theorem SV.clr {L R Ro F : List Int} {c : Int} (h : SV L R Ro F) (hc : c ∈ leak L R Ro F) : SV (clr [c] L) (clr [c] R) Ro (F ++ [c]) := by
  have hR := h.1.2.2.1
  obtain ⟨⟨hr, hl⟩, hF⟩ := mem_leak.1 hc
  refine ⟨h.1.clr _, ?_, fun x hx => ?_⟩
  · rw [List.nodup_append]
    exact ⟨h.2.1, by simp, fun a ha b hb => by simp at hb; subst hb; rintro rfl; exact hF ha⟩
  · rw [clr_len]
    have hn : ∀ ys : List Int, (x ∈ F → x ∉ ys) → 0 ≤ x → x ∉ T.clr [c] ys := by
      intro ys hy h0 hm
      rcases mem_clr hm with rfl | ⟨g1, g2⟩
      · omega
      · rcases List.mem_append.1 hx with hx | hx
        · exact hy hx g1
        · exact g2 hx
    rcases List.mem_append.1 hx with hx' | hx'
    · have hf := h.2.2 x hx'
      refine ⟨hf.1, hf.2.1, ?_, ?_, hn L (fun _ => hf.2.2.2.2.1) hf.1, hn R (fun _ => hf.2.2.2.2.2.1) hf.1, hf.2.2.2.2.2.2⟩
      · rw [rd_clr1 hf.1 hf.2.1]; split
        · rfl
        · exact hf.2.2.1
      · rw [rd_clr1 hf.1 (by omega)]; split
        · rfl
        · exact hf.2.2.2.1
    · obtain rfl : x = c := by simpa using hx'
      refine ⟨hr.1, hr.2, ?_, ?_, hn L (fun g => absurd g hF) hr.1, hn R (fun g => absurd g hF) hr.1, fun g => hl (.root g hr.1)⟩
      · rw [rd_clr1 hr.1 hr.2, if_pos (.inr rfl)]
      · rw [rd_clr1 hr.1 (by omega), if_pos (.inr rfl)]
theorem gar_clr {L R Ro : List Int} {c : Int} (h : HV L R Ro) (hc : ¬Live L R Ro c) : gar (clr [c] L) (clr [c] R) Ro = gar L R Ro := by
  unfold gar
  rw [clr_len]
  refine List.filter_congr fun x hx => ?_
  congr 1
  rw [Bool.eq_iff_iff, liveB_iff, liveB_iff]
  exact live_clr h hc
theorem leak_clr {L R Ro F : List Int} {c : Int} (h : SV L R Ro F) (hc : c ∈ leak L R Ro F) : leak (clr [c] L) (clr [c] R) Ro (F ++ [c]) = (leak L R Ro F).erase c := by
  obtain ⟨⟨hr, hl⟩, hF⟩ := mem_leak.1 hc
  rw [leak_nodup.erase_eq_filter]
  unfold leak
  rw [gar_clr h.1 hl, List.filter_filter]
  refine List.filter_congr fun x hx => ?_
  rw [Bool.eq_iff_iff]
  simp
  exact And.comm
/-! ### functions of the reference -/
def takeV (L R Ro F : List Int) (r : Int) : List Int × List Int × List Int × List Int × Int × Bool :=
  if SV L R Ro F ∧ 0 ≤ r ∧ r < Ro.length ∧ F ≠ [] then (L, R, Ro.set r.toNat (rd F 0), F.drop 1, rd F 0, true) else ([], [], [], [], 0, false)
theorem spec_AllocCell_eq {K : Nat} {L R Ro F : List Int} {r : Int} (hK : 8 < K) : spec_AllocCell.f K L R Ro F r = some (takeV L R Ro F r) := by
  unfold spec_AllocCell.f takeV
  rw [spec_StoreValid_eq hK, b1_some]
  by_cases h : SV L R Ro F
  · have h8 := h.1.2.1
    have h3 := h.1.2.2.1
    have hro := h.1.2.2.2.2.1
    have hf := h.len
    rw [if_pos (decide_eq_true h)]
    by_cases c1 : r < 0
    · rw [if_pos c1, if_neg (fun g => by omega)]
    rw [if_neg c1]
    by_cases c2 : r ≥ Ro.length
    · rw [if_pos c2, if_neg (fun g => by omega)]
    rw [if_neg c2]
    by_cases c3 : (F.length : Int) = 0
    · rw [if_pos c3, if_neg (fun g => g.2.2.2 (List.length_eq_zero_iff.1 (by omega)))]
    rw [if_neg c3, l4Copy_eq (by omega) (by omega) (by omega) (by omega), b4_some, if_pos (by omega), if_pos (by omega), if_pos (by simp; omega), if_pos (by omega), if_pos ⟨h, by omega, by omega, fun g => by subst g; simp at c3⟩]
    rfl
  · rw [if_neg (by simpa using h), if_neg (fun g => h g.1)]
def freeV (L R Ro F : List Int) (c : Int) : Bool := decide (SV L R Ro F ∧ c ∈ F)
theorem spec_IsFree_eq {K : Nat} {L R Ro F : List Int} {c : Int} (hK : 8 < K) : spec_IsFree.f K L R Ro F c = some (freeV L R Ro F c) := by
  unfold spec_IsFree.f freeV
  rw [spec_StoreValid_eq hK, b1_some]
  by_cases h : SV L R Ro F
  · have h8 := h.1.2.1
    have hf := h.len
    rw [if_pos (decide_eq_true h), l4At_eq (by omega) (by omega), b1_some]
    exact congrArg some (decide_eq_decide.2 (by rw [ge_iff_le, fi_nonneg]; exact ⟨fun g => ⟨h, g⟩, fun g => g.2⟩))
  · rw [if_neg (by simpa using h), decide_eq_false (fun g => h g.1)]
noncomputable def fcV (L R Ro F : List Int) (c : Int) : List Int × List Int × List Int × List Int × Bool :=
  if c ∈ leakV L R Ro F then (clr [c] L, clr [c] R, Ro, F ++ [c], true) else ([], [], [], [], false)
theorem spec_FreeCell_eq {K : Nat} {L R Ro F : List Int} {c : Int} (hK : 1000 < K) : spec_FreeCell.f K L R Ro F c = some (fcV L R Ro F c) := by
  have hll := @leakV_len L R Ro F
  unfold spec_FreeCell.f fcV
  rw [spec_LeakedOf_eq (by omega), b1_some, l4At_eq (by omega) (by omega), b1_some]
  by_cases h : c ∈ leakV L R Ro F
  · have hs : SV L R Ro F := by
      unfold leakV at h
      split at h
      · rename_i g; exact g
      · simp at h
    have hf := hs.len
    have := hs.1
    rw [if_neg (fun g => fi_neg.1 g h), if_pos h, l4Clear_eq hs.1.2.2.1 hs.1.2.1 (by have := hs.1.2.2.2.2.1; omega) (by have := hs.1.2.1; omega) (by simp) hK, b4_some]
  · rw [if_pos (fi_neg.2 h), if_neg h]
end Go.Proofs.YtnfaiojmabolmaaDoor.T
