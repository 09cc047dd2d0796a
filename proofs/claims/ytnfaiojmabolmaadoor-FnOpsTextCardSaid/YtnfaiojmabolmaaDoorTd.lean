/- Plain facts of colors and of marking. It says nothing of any program. -/
import Derived.Test.YtnfaiojmabolmaaDoorTc
namespace Go.Proofs.YtnfaiojmabolmaaDoor.T
open Go Go.RowKit Go.Proofs.YtnfaiojmabolmaaDoor.S
set_option linter.unusedVariables false
set_option linter.unusedSimpArgs false
def sh (C : List Int) (p : Int) : List Int := if p ≠ -1 ∧ rd C p = 0 then C.set p.toNat 1 else C
def bk (L R C : List Int) (c : Int) : List Int := (sh (sh C (rd L c)) (rd R c)).set c.toNat 2
def CV (L R Ro C : List Int) : Prop := HV L R Ro ∧ C.length = L.length ∧ ∀ k ∈ C, (0 : Int) ≤ k ∧ k ≤ 2
instance {L R Ro C : List Int} : Decidable (CV L R Ro C) := by unfold CV; infer_instance
def ma : Nat → List Int → List Int → List Int → List Int
  | 0, _, _, C => C
  | k + 1, L, R, C => if (1 : Int) ∈ C then ma k L R (bk L R C (fi C 1)) else C
def holds (L R C : List Int) : Prop := ∀ i : Nat, i < C.length → rd C i = 2 → (rd L i = -1 ∨ rd C (rd L i) ≠ 0) ∧ (rd R i = -1 ∨ rd C (rd R i) ≠ 0)
instance {L R C : List Int} : Decidable (holds L R C) := by unfold holds; infer_instance
theorem sh_len {C : List Int} {p : Int} : (sh C p).length = C.length := by unfold sh; split <;> simp
theorem bk_len {L R C : List Int} {c : Int} : (bk L R C c).length = C.length := by unfold bk; rw [List.length_set, sh_len, sh_len]
theorem rd_sh {C : List Int} {p x : Int} (hp : -1 ≤ p) (hl : p < C.length) (h0 : 0 ≤ x) : rd (sh C p) x = if p = x ∧ rd C p = 0 then 1 else rd C x := by
  unfold sh
  by_cases c : p ≠ -1 ∧ rd C p = 0
  · rw [if_pos c, rd_set (by omega) h0 hl]
    by_cases e : p = x
    · rw [if_pos e, if_pos ⟨e, c.2⟩]
    · rw [if_neg e, if_neg (fun g => e g.1)]
  · rw [if_neg c, if_neg (fun g => c ⟨by omega, g.2⟩)]
theorem sh_mem {C : List Int} {p k : Int} (h : k ∈ sh C p) : k = 1 ∨ k ∈ C := by
  unfold sh at h
  split at h
  · exact mem_set_of h
  · exact .inr h
theorem CV.sh {L R Ro C : List Int} (h : CV L R Ro C) (p : Int) : CV L R Ro (sh C p) := by
  refine ⟨h.1, by rw [sh_len, h.2.1], fun k hk => ?_⟩
  rcases sh_mem hk with rfl | hk
  · omega
  · exact h.2.2 k hk
theorem CV.bk {L R Ro C : List Int} (h : CV L R Ro C) (c : Int) : CV L R Ro (bk L R C c) := by
  have h2 := (h.sh (rd L c)).sh (rd R c)
  refine ⟨h.1, by rw [bk_len, h.2.1], fun k hk => ?_⟩
  unfold T.bk at hk
  rcases mem_set_of hk with rfl | hk
  · omega
  · exact h2.2.2 k hk
theorem CV.rd {L R Ro C : List Int} (h : CV L R Ro C) {x : Int} (h0 : 0 ≤ x) (h1 : x < L.length) : rd C x = 0 ∨ rd C x = 1 ∨ rd C x = 2 := by
  have := h.2.2 _ (rd_mem (xs := C) h0 (by rw [h.2.1]; exact h1))
  omega
theorem rd_bk {L R Ro C : List Int} (h : CV L R Ro C) {c x : Int} (hc : 0 ≤ c) (hl : c < L.length) (h0 : 0 ≤ x) (h1 : x < L.length) : rd (bk L R C c) x = if c = x then 2 else if rd C x = 0 ∧ (rd L c = x ∨ rd R c = x) then 1 else rd C x := by
  have a := h.1.rdL hc hl
  have b := h.1.rdR hc hl
  have e := h.2.1
  unfold bk
  rw [rd_set hc h0 (by rw [sh_len, sh_len]; omega)]
  by_cases k : c = x
  · rw [if_pos k, if_pos k]
  rw [if_neg k, if_neg k, rd_sh b.1 (by rw [sh_len]; omega) h0]
  rcases (show rd R c = -1 ∨ 0 ≤ rd R c by omega) with b0 | b0
  · rw [if_neg (by omega), rd_sh a.1 (by omega) h0]
    by_cases k2 : rd L c = x
    · by_cases k3 : rd C x = 0
      · rw [if_pos ⟨k2, by rw [k2]; exact k3⟩, if_pos ⟨k3, .inl k2⟩]
      · rw [if_neg (fun g => k3 (by rw [← k2]; exact g.2)), if_neg (fun g => k3 g.1)]
    · rw [if_neg (fun g => k2 g.1), if_neg (fun g => g.2.elim k2 (by omega))]
  · rw [rd_sh a.1 (by omega) b0, rd_sh a.1 (by omega) h0]
    by_cases k2 : rd L c = x <;> by_cases k3 : rd R c = x <;> by_cases k4 : rd C x = 0 <;> simp_all
/-- A gray cell turns black. -/
theorem count_sh {C : List Int} {p k : Int} (hp : -1 ≤ p) (hl : p < C.length) : ((sh C p).count k : Int) = C.count k - (if p ≠ -1 ∧ rd C p = 0 ∧ k = 0 then 1 else 0) + (if p ≠ -1 ∧ rd C p = 0 ∧ k = 1 then 1 else 0) := by
  unfold sh
  by_cases c : p ≠ -1 ∧ rd C p = 0
  · rw [if_pos c, count_set_rd (by omega) hl, c.2]
    by_cases e0 : k = 0
    · subst e0; simp [c.1]
    · by_cases e1 : k = 1
      · subst e1; simp [c.1]
      · rw [if_neg (fun g => e0 g.symm), if_neg (fun g => e1 g.symm), if_neg (fun g => e0 g.2.2), if_neg (fun g => e1 g.2.2)]
  · rw [if_neg c, if_neg (fun g => c ⟨g.1, g.2.1⟩), if_neg (fun g => c ⟨g.1, g.2.1⟩)]; omega
theorem bk_gray {L R Ro C : List Int} (h : CV L R Ro C) {c : Int} (hc : 0 ≤ c) (hl : c < L.length) (hg : rd C c = 1) : rd (sh (sh C (rd L c)) (rd R c)) c = 1 := by
  have a := h.1.rdL hc hl
  have b := h.1.rdR hc hl
  have e := h.2.1
  have h1 : rd (sh C (rd L c)) c = 1 := by
    rw [rd_sh a.1 (by omega) hc]
    split
    · rfl
    · exact hg
  rw [rd_sh b.1 (by rw [sh_len]; omega) hc, h1]
  split <;> rfl
theorem bk_count2 {L R Ro C : List Int} (h : CV L R Ro C) {c : Int} (hc : 0 ≤ c) (hl : c < L.length) (hg : rd C c = 1) : (bk L R C c).count 2 = C.count 2 + 1 := by
  have a := h.1.rdL hc hl
  have b := h.1.rdR hc hl
  have e := h.2.1
  have h1 := bk_gray h hc hl hg
  have h2 := count_set_rd (xs := sh (sh C (rd L c)) (rd R c)) (i := c) (v := 2) (x := 2) hc (by rw [sh_len, sh_len]; omega)
  rw [h1, if_neg (by omega), if_pos rfl, count_sh (k := 2) b.1 (by rw [sh_len]; omega), count_sh (k := 2) a.1 (by omega)] at h2
  simp only [show ¬((2 : Int) = 0) by omega, show ¬((2 : Int) = 1) by omega, and_false, if_false] at h2
  unfold bk
  omega
theorem bk_count0 {L R Ro C : List Int} (h : CV L R Ro C) {c : Int} (hc : 0 ≤ c) (hl : c < L.length) (hg : rd C c = 1) : (bk L R C c).count 0 ≤ C.count 0 := by
  have a := h.1.rdL hc hl
  have b := h.1.rdR hc hl
  have e := h.2.1
  have h1 := bk_gray h hc hl hg
  have h2 := count_set_rd (xs := sh (sh C (rd L c)) (rd R c)) (i := c) (v := 2) (x := 0) hc (by rw [sh_len, sh_len]; omega)
  rw [h1, if_neg (by omega), if_neg (by omega), count_sh (k := 0) b.1 (by rw [sh_len]; omega), count_sh (k := 0) a.1 (by omega)] at h2
  simp only [show ¬((0 : Int) = 1) by omega, and_false, if_false] at h2
  unfold bk
  split at h2 <;> split at h2 <;> omega
theorem bk_holds {L R Ro C : List Int} (h : CV L R Ro C) {c : Int} (hc : 0 ≤ c) (hl : c < L.length) (hh : holds L R C) : holds L R (bk L R C c) := by
  intro i hi h2
  rw [bk_len, h.2.1] at hi
  have hLi := h.1.rdL (i := i) (by omega) (by omega)
  have hRi := h.1.rdR (i := i) (by omega) (by omega)
  have nz : ∀ x : Int, 0 ≤ x → x < L.length → (rd C x ≠ 0 ∨ rd L c = x ∨ rd R c = x) → rd (bk L R C c) x ≠ 0 := by
    intro x h0 h1 hx
    rw [rd_bk h hc hl h0 h1]
    by_cases k : c = x
    · rw [if_pos k]; omega
    rw [if_neg k]
    by_cases k2 : rd C x = 0 ∧ (rd L c = x ∨ rd R c = x)
    · rw [if_pos k2]; omega
    · rw [if_neg k2]
      intro g
      rcases hx with hx | hx
      · exact hx g
      · exact k2 ⟨g, hx⟩
  rw [rd_bk h hc hl (by omega) (by omega)] at h2
  by_cases k : c = i
  · subst k
    refine ⟨?_, ?_⟩
    · rcases (show rd L i = -1 ∨ 0 ≤ rd L i by omega) with g | g
      · exact .inl g
      · exact .inr (nz _ g hLi.2 (.inr (.inl rfl)))
    · rcases (show rd R i = -1 ∨ 0 ≤ rd R i by omega) with g | g
      · exact .inl g
      · exact .inr (nz _ g hRi.2 (.inr (.inr rfl)))
  · rw [if_neg k] at h2
    split at h2
    · omega
    · have := hh i (by rw [h.2.1]; omega) h2
      refine ⟨?_, ?_⟩
      · rcases (show rd L i = -1 ∨ 0 ≤ rd L i by omega) with g | g
        · exact .inl g
        · exact .inr (nz _ g hLi.2 (.inl (this.1.resolve_left (by omega))))
      · rcases (show rd R i = -1 ∨ 0 ≤ rd R i by omega) with g | g
        · exact .inl g
        · exact .inr (nz _ g hRi.2 (.inl (this.2.resolve_left (by omega))))
theorem gray_at {L R Ro C : List Int} (h : CV L R Ro C) (hg : (1 : Int) ∈ C) : 0 ≤ fi C 1 ∧ fi C 1 < L.length ∧ rd C (fi C 1) = 1 := ⟨fi_nonneg.2 hg, by rw [← h.2.1]; exact fi_lt hg, fi_rd hg⟩
/-- What each step keeps, the end of marking has. -/
theorem ma_ind {L R Ro : List Int} {P : List Int → Prop} (hs : ∀ C, CV L R Ro C → (1 : Int) ∈ C → P C → P (bk L R C (fi C 1))) : ∀ (k : Nat) (C : List Int), CV L R Ro C → P C → CV L R Ro (ma k L R C) ∧ P (ma k L R C) := by
  intro k
  induction k with
  | zero => intro C h p; exact ⟨h, p⟩
  | succ k ih =>
    intro C h p
    unfold ma
    by_cases c : (1 : Int) ∈ C
    · rw [if_pos c]; exact ih _ (h.bk _) (hs C h c p)
    · rw [if_neg c]; exact ⟨h, p⟩
theorem ma_done {L R Ro : List Int} : ∀ (k : Nat) (C : List Int), CV L R Ro C → L.length ≤ k + C.count 2 → (1 : Int) ∉ ma k L R C := by
  intro k
  induction k with
  | zero =>
    intro C h hk hm
    have e := h.2.1
    have : C.count 2 = C.length := by have := List.count_le_length (a := (2:Int)) (l := C); omega
    have := List.count_eq_length.1 this 1 hm
    omega
  | succ k ih =>
    intro C h hk
    unfold ma
    by_cases c : (1 : Int) ∈ C
    · rw [if_pos c]
      have g := gray_at h c
      exact ih _ (h.bk _) (by rw [bk_count2 h g.1 g.2.1 g.2.2]; omega)
    · rw [if_neg c]; exact c
/-- Nothing more to mark. -/
theorem ma_none {L R C : List Int} {k : Nat} (h : (1 : Int) ∉ C) : ma k L R C = C := by
  cases k with
  | zero => rfl
  | succ k => unfold ma; rw [if_neg h]
end Go.Proofs.YtnfaiojmabolmaaDoor.T
