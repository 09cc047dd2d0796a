/- Plain facts of how many: counts that add up, sources, live and leaked cells. -/
import Derived.Test.YtnfaiojmabolmaaDoorPi
namespace Go.Proofs.YtnfaiojmabolmaaDoor.T
open Go Go.RowKit Go.Proofs.YtnfaiojmabolmaaDoor.S Go.Proofs.YtnfaiojmabolmaaDoor.F
set_option linter.unusedVariables false
set_option linter.unusedSimpArgs false
theorem map_rd_upto (xs : List Int) : (upto xs.length).map (rd xs) = xs := by
  refine ext_rd (by simp [upto_len]) fun i hi => ?_
  have hi' : i < xs.length := by simpa [upto_len] using hi
  rw [rd_map_upto (by omega) (by omega)]
theorem count_upto (xs : List Int) (x : Int) : ((upto xs.length).filter fun j => decide (rd xs j = x)).length = xs.count x := by
  rw [← List.countP_eq_length_filter]
  have h := List.countP_map (p := (· == x)) (f := rd xs) (l := upto xs.length)
  rw [map_rd_upto] at h
  show _ = List.countP (· == x) xs
  rw [h]
  rfl
theorem filter_or_le {α : Type} (p q : α → Bool) (l : List α) : (l.filter fun x => p x || q x).length ≤ (l.filter p).length + (l.filter q).length := by
  induction l with
  | nil => simp
  | cons a l ih =>
    simp only [List.filter_cons]
    cases p a <;> cases q a <;> simp <;> omega
/-- Where a cell is pointed to from. -/
def src (L R : List Int) (c : Int) : List Int := (upto L.length).filter fun j => decide (rd L j = c) || decide (rd R j = c)
theorem src_le {L R Ro : List Int} (hR : R.length = L.length) (c : Int) : (src L R c).length ≤ cnt L R Ro c := by
  have h := filter_or_le (fun j => decide (rd L j = c)) (fun j => decide (rd R j = c)) (upto L.length)
  have h1 := count_upto L c
  have h2 := count_upto R c
  rw [hR] at h2
  unfold src cnt
  omega
theorem mem_src {L R : List Int} {c j : Int} : j ∈ src L R c ↔ (0 ≤ j ∧ j < L.length) ∧ (rd L j = c ∨ rd R j = c) := by
  unfold src
  rw [List.mem_filter, mem_upto]; simp
theorem sum_zero (n : Nat) : ((List.range n).map fun _ => (0 : Int)).sum = 0 := by
  induction n with
  | zero => rfl
  | succ n ih => rw [List.range_succ, List.map_append, List.sum_append, ih]; rfl
theorem sum_one (n : Nat) (x : Int) (h0 : 0 ≤ x) (h1 : x < n) (f : Nat → Int) : ((List.range n).map fun i : Nat => f i + if x = (i : Int) then 1 else 0).sum = ((List.range n).map f).sum + 1 := by
  induction n with
  | zero => omega
  | succ n ih =>
    rw [List.range_succ, List.map_append, List.map_append, List.sum_append, List.sum_append]
    simp only [List.map_cons, List.map_nil, List.sum_cons, List.sum_nil]
    by_cases c : x = n
    · subst c
      have : ((List.range n).map fun i : Nat => f i + if (n : Int) = (i : Int) then 1 else 0) = (List.range n).map f := by
        refine List.map_congr_left fun i hi => ?_
        rw [List.mem_range] at hi
        rw [if_neg (by omega)]; omega
      rw [this, if_pos rfl]; omega
    · rw [ih (by omega), if_neg c]; omega
theorem count_sum {n : Nat} : ∀ {all : List Int}, (∀ x ∈ all, -1 ≤ x ∧ x < n) → ((List.range n).map fun i : Nat => (all.count (i : Int) : Int)).sum = ((all.filter fun x => !decide (x = -1)).length : Int) := by
  intro all
  induction all with
  | nil => intro _; simp [sum_zero]
  | cons a all ih =>
    intro h
    have ih := ih fun x hx => h x (by simp [hx])
    have ha := h a (by simp)
    rw [List.filter_cons]
    by_cases c : a = -1
    · subst c
      rw [if_neg (by simp), ← ih]
      congr 1
    · rw [if_pos (by simpa using c), List.length_cons]
      have e := sum_one n a (by omega) ha.2 (fun i : Nat => (all.count (i : Int) : Int))
      have : ((List.range n).map fun i : Nat => ((a :: all).count (i : Int) : Int)) = (List.range n).map fun i : Nat => (all.count (i : Int) : Int) + if a = (i : Int) then 1 else 0 := by
        refine List.map_congr_left fun i hi => ?_
        rw [List.count_cons]
        by_cases k : a = (i : Int)
        · rw [if_pos (by simpa using k), if_pos k]; omega
        · rw [if_neg (by simpa using k), if_neg k]; omega
      rw [this, e, ih]; omega
/-! ### live, garbage, leaked -/
theorem filter_not_len {α : Type} (p : α → Bool) (l : List α) : (l.filter p).length + (l.filter fun x => !p x).length = l.length := by
  induction l with
  | nil => simp
  | cons a l ih =>
    simp only [List.filter_cons]
    cases p a <;> simp <;> omega
theorem gar_count {L R Ro : List Int} : ((upto L.length).filter (liveB L R Ro)).length + (gar L R Ro).length = L.length := by
  have := filter_not_len (liveB L R Ro) (upto L.length)
  rw [upto_len] at this
  exact this
theorem leak_count {L R Ro F : List Int} (h : SV L R Ro F) : (leak L R Ro F).length + F.length = (gar L R Ro).length := by
  have h1 := filter_not_len (fun x => decide (x ∈ F)) (gar L R Ro)
  have h2 : ((gar L R Ro).filter fun x => decide (x ∈ F)).length = F.length := by
    refine Nat.le_antisymm ?_ ?_
    · refine List.Nodup.length_le_of_subset (List.Pairwise.filter _ gar_nodup) fun x hx => ?_
      have hx := List.mem_filter.1 hx
      simpa using hx.2
    · refine h.2.1.length_le_of_subset fun x hx => ?_
      have hf := h.2.2 x hx
      rw [List.mem_filter, mem_gar]
      exact ⟨⟨⟨hf.1, hf.2.1⟩, h.dead hx⟩, by simpa using hx⟩
  unfold leak
  omega
end Go.Proofs.YtnfaiojmabolmaaDoor.T
