/- Plain facts of heaps of cells: what is valid, what is live, and the search that finds it. It says nothing of any program. -/
import Derived.Test.YtnfaiojmabolmaaDoorTa
namespace Go.Proofs.YtnfaiojmabolmaaDoor.T
open Go Go.RowKit Go.Proofs.YtnfaiojmabolmaaDoor.S
set_option linter.unusedVariables false
set_option linter.unusedSimpArgs false
/-! ### reads and writes of lists -/
theorem rd_set {xs : List Int} {i j v : Int} (hi : 0 ≤ i) (hj : 0 ≤ j) (hl : i < xs.length) : rd (xs.set i.toNat v) j = if i = j then v else rd xs j := by
  unfold rd; grind
theorem rd_mem {xs : List Int} {i : Int} (hi : 0 ≤ i) (hl : i < xs.length) : rd xs i ∈ xs := by
  unfold rd; grind
theorem mem_rd {xs : List Int} {x : Int} (h : x ∈ xs) : ∃ i : Nat, i < xs.length ∧ rd xs i = x := by
  obtain ⟨i, hi, e⟩ := List.getElem_of_mem h
  exact ⟨i, hi, by unfold rd; grind⟩
theorem rd_app_l {xs ys : List Int} {i : Int} (hi : 0 ≤ i) (hl : i < xs.length) : rd (xs ++ ys) i = rd xs i := by
  unfold rd; grind
theorem rd_app_r {xs : List Int} {y : Int} : rd (xs ++ [y]) xs.length = y := by
  unfold rd; grind
theorem rd_ge {xs : List Int} {i : Int} (h : (xs.length : Int) ≤ i) : rd xs i = 0 := by
  unfold rd; grind
theorem ext_rd {xs ys : List Int} (hl : xs.length = ys.length) (h : ∀ i : Nat, i < xs.length → rd xs i = rd ys i) : xs = ys := by
  refine List.ext_getElem hl fun i h1 h2 => ?_
  have := h i h1
  unfold rd at this
  grind
theorem rd_replicate {n : Nat} {v i : Int} (h0 : 0 ≤ i) (h1 : i < n) : rd (List.replicate n v) i = v := by
  unfold rd; grind
theorem rd_drop1 {xs : List Int} {i : Int} (h0 : 0 ≤ i) : rd (xs.drop 1) i = rd xs (i + 1) := by
  unfold rd
  rw [show (i + 1).toNat = i.toNat + 1 by omega]
  grind
theorem mem_set_of {xs : List Int} {i v x : Int} (h : x ∈ xs.set i.toNat v) : x = v ∨ x ∈ xs := by
  rcases List.mem_or_eq_of_mem_set h with h | h
  · exact .inr h
  · exact .inl h
theorem pig (n : Nat) (l : List Int) (h1 : l.Nodup) (h2 : ∀ x ∈ l, 0 ≤ x ∧ x < n) : l.length ≤ n := by
  have h : l ⊆ (List.range n).map (fun i : Nat => (i : Int)) := by
    intro x hx
    have := h2 x hx
    rw [List.mem_map]
    exact ⟨x.toNat, by rw [List.mem_range]; omega, by omega⟩
  have := h1.length_le_of_subset h
  simpa using this
/-- Where a number is first in a list, or -1. -/
def fi (xs : List Int) (a : Int) : Int := if a ∈ xs then (xs.idxOf a : Int) else -1
theorem fi_nonneg {xs : List Int} {a : Int} : 0 ≤ fi xs a ↔ a ∈ xs := by
  unfold fi; split <;> grind
theorem fi_neg {xs : List Int} {a : Int} : fi xs a < 0 ↔ a ∉ xs := by
  unfold fi; split <;> grind
theorem fi_lt {xs : List Int} {a : Int} (h : a ∈ xs) : fi xs a < xs.length := by
  unfold fi; rw [if_pos h]; have := List.idxOf_lt_length_of_mem h; omega
theorem fi_rd {xs : List Int} {a : Int} (h : a ∈ xs) : rd xs (fi xs a) = a := by
  have := List.idxOf_lt_length_of_mem h
  unfold fi; rw [if_pos h]; unfold rd
  rw [Int.toNat_natCast, List.getD_eq_getElem?_getD, List.getElem?_eq_getElem this, Option.getD_some, List.getElem_idxOf]
theorem fi_none {xs : List Int} {a : Int} (h : a ∉ xs) : fi xs a = -1 := by
  unfold fi; rw [if_neg h]
/-! ### loops with a number that goes up -/
/-- The state is known at each round. -/
theorem loop_st {α β : Type} (L : Nat → Int → α → Option β) (st : Nat → α) (n : Nat) (r : Option β)
    (hstep : ∀ m i : Nat, i < n → L (m + 1) (i : Int) (st i) = L m ((i + 1 : Nat) : Int) (st (i + 1)))
    (hstop : ∀ m : Nat, L (m + 1) (n : Int) (st n) = r) {K : Nat} (hK : n < K) : L K (0 : Int) (st 0) = r := by
  suffices h : ∀ k m i : Nat, i + k = n → k < m → L m (i : Int) (st i) = r from h n K 0 (by omega) hK
  intro k
  induction k with
  | zero =>
    intro m i hi hm
    obtain ⟨m, rfl⟩ : ∃ m', m = m' + 1 := ⟨m - 1, by omega⟩
    obtain rfl : i = n := by omega
    exact hstop m
  | succ k ih =>
    intro m i hi hm
    obtain ⟨m, rfl⟩ : ∃ m', m = m' + 1 := ⟨m - 1, by omega⟩
    rw [hstep m i (by omega)]
    exact ih m (i + 1) (by omega) (by omega)
/-- A state exists at each round. -/
theorem loop_ex {α β : Type} (L : Nat → Int → α → Option β) (I : Nat → α → Prop) (n : Nat) (κ : α → Option β)
    (hstep : ∀ (m i : Nat) (a : α), i < n → I i a → ∃ a', I (i + 1) a' ∧ L (m + 1) (i : Int) a = L m ((i + 1 : Nat) : Int) a')
    (hstop : ∀ (m : Nat) (a : α), I n a → L (m + 1) (n : Int) a = κ a) {K : Nat} (hK : n < K) {a : α} (h0 : I 0 a) : ∃ a', I n a' ∧ L K (0 : Int) a = κ a' := by
  suffices h : ∀ (k m i : Nat) (a : α), i + k = n → k < m → I i a → ∃ a', I n a' ∧ L m (i : Int) a = κ a' from h n K 0 a (by omega) hK h0
  intro k
  induction k with
  | zero =>
    intro m i a hi hm h
    obtain ⟨m, rfl⟩ : ∃ m', m = m' + 1 := ⟨m - 1, by omega⟩
    obtain rfl : i = n := by omega
    exact ⟨a, h, hstop m a h⟩
  | succ k ih =>
    intro m i a hi hm h
    obtain ⟨m, rfl⟩ : ∃ m', m = m' + 1 := ⟨m - 1, by omega⟩
    obtain ⟨a', h', e⟩ := hstep m i a (by omega) h
    rw [e]
    exact ih m (i + 1) a' (by omega) (by omega) h'
/-- A state with a number that goes down. -/
theorem loop_mu {α β : Type} (L : Nat → α → Option β) (I : α → Prop) (μ : α → Nat) (D : α → Prop) (κ : α → Option β)
    (hstep : ∀ (m : Nat) (a : α), I a → (∃ a', I a' ∧ μ a' < μ a ∧ L (m + 1) a = L m a') ∨ (D a ∧ L (m + 1) a = κ a)) {K : Nat} {a : α} (h0 : I a) (hK : μ a < K) : ∃ a', I a' ∧ D a' ∧ L K a = κ a' := by
  suffices h : ∀ (k m : Nat) (a : α), I a → μ a ≤ k → k < m → ∃ a', I a' ∧ D a' ∧ L m a = κ a' from h (μ a) K a h0 (Nat.le_refl _) hK
  intro k
  induction k with
  | zero =>
    intro m a h h1 hm
    obtain ⟨m, rfl⟩ : ∃ m', m = m' + 1 := ⟨m - 1, by omega⟩
    rcases hstep m a h with ⟨a', _, hlt, _⟩ | ⟨hd, e⟩
    · omega
    · exact ⟨a, h, hd, e⟩
  | succ k ih =>
    intro m a h h1 hm
    obtain ⟨m, rfl⟩ : ∃ m', m = m' + 1 := ⟨m - 1, by omega⟩
    rcases hstep m a h with ⟨a', h', hlt, e⟩ | ⟨hd, e⟩
    · obtain ⟨b, hb⟩ := ih m a' h' (by omega) (by omega)
      rw [e]; exact ⟨b, hb⟩
    · exact ⟨a, h, hd, e⟩
/-- Each round asks, and the first no ends it. -/
theorem check_loop {β : Type} (L : Nat → Int → Option β) (n : Nat) (Q : Nat → Prop) [DecidablePred Q] (r q : Option β)
    (hstep : ∀ m i : Nat, i < n → (∀ j, j < i → Q j) → L (m + 1) (i : Int) = if Q i then L m ((i + 1 : Nat) : Int) else q)
    (hstop : ∀ m : Nat, (∀ j, j < n → Q j) → L (m + 1) (n : Int) = r) {K : Nat} (hK : n < K) : L K (0 : Int) = if ∀ j, j < n → Q j then r else q := by
  suffices h : ∀ k m i : Nat, i + k = n → k < m → (∀ j, j < i → Q j) → L m (i : Int) = if ∀ j, j < n → Q j then r else q from h n K 0 (by omega) hK (fun j hj => by omega)
  intro k
  induction k with
  | zero =>
    intro m i hi hm h
    obtain ⟨m, rfl⟩ : ∃ m', m = m' + 1 := ⟨m - 1, by omega⟩
    obtain rfl : i = n := by omega
    rw [hstop m h, if_pos h]
  | succ k ih =>
    intro m i hi hm h
    obtain ⟨m, rfl⟩ : ∃ m', m = m' + 1 := ⟨m - 1, by omega⟩
    rw [hstep m i (by omega) h]
    by_cases hq : Q i
    · rw [if_pos hq]
      refine ih m (i + 1) (by omega) (by omega) fun j hj => ?_
      rcases Nat.lt_or_ge j i with h1 | h1
      · exact h j h1
      · rwa [show j = i by omega]
    · rw [if_neg hq, if_neg (fun c => hq (c i (by omega)))]
theorem forall_rd {xs : List Int} {p : Int → Prop} : (∀ j : Nat, j < xs.length → p (rd xs j)) ↔ ∀ x ∈ xs, p x := by
  constructor
  · intro h x hx
    obtain ⟨i, hi, rfl⟩ := mem_rd hx
    exact h i hi
  · intro h j hj
    exact h _ (rd_mem (by omega) (by omega))
/-- Where a number is first. -/
theorem find_loop {β : Type} (L : Nat → Int → Option β) (xs : List Int) (a : Int) (κ : Int → Option β) (hmax : xs.length ≤ 9223372036854775807)
    (hs : ∀ m p, L (m + 1) p = if p < (xs.length : Int) then if 0 ≤ p ∧ p < (xs.length : Int) then if rd xs p = a then κ p else L m (wrap64 (p + (1:Int))) else none else κ (-1)) {K : Nat} (hK : xs.length < K) : L K (0 : Int) = κ (fi xs a) := by
  suffices h : ∀ k m i : Nat, i + k = xs.length → k < m → a ∉ xs.take i → L m (i : Int) = κ (fi xs a) from h xs.length K 0 (by omega) hK (by simp)
  intro k
  induction k with
  | zero =>
    intro m i hi hm h
    obtain ⟨m, rfl⟩ : ∃ m', m = m' + 1 := ⟨m - 1, by omega⟩
    obtain rfl : i = xs.length := by omega
    rw [List.take_length] at h
    rw [hs, if_neg (by omega), fi_none h]
  | succ k ih =>
    intro m i hi hm h
    obtain ⟨m, rfl⟩ : ∃ m', m = m' + 1 := ⟨m - 1, by omega⟩
    rw [hs, if_pos (by omega), if_pos (by omega)]
    have hr : rd xs (i : Int) = xs[i]'(by omega) := by unfold rd; grind
    by_cases c : rd xs (i : Int) = a
    · rw [if_pos c]
      have hi' : xs.idxOf a = i := by
        have e := List.take_append_drop i xs
        rw [List.drop_eq_getElem_cons (by omega), ← hr, c] at e
        rw [← e, List.idxOf_append, if_neg h]
        simp [List.length_take]; omega
      have hm' : a ∈ xs := by rw [← c]; exact rd_mem (by omega) (by omega)
      unfold fi; rw [if_pos hm', hi']
    · rw [if_neg c, w64 (by omega) (by omega), show ((i : Int) + 1) = ((i + 1 : Nat) : Int) by omega]
      refine ih m (i + 1) (by omega) (by omega) ?_
      rw [List.take_succ_eq_append_getElem (by omega), List.mem_append, ← hr]
      rintro (h1 | h1)
      · exact h h1
      · exact c ((List.mem_singleton.1 h1).symm)
/-! ### heaps -/
def HV (L R Ro : List Int) : Prop :=
  1 ≤ L.length ∧ L.length ≤ 8 ∧ R.length = L.length ∧ 1 ≤ Ro.length ∧ Ro.length ≤ 3 ∧ (∀ x ∈ L, -1 ≤ x ∧ x < L.length) ∧ (∀ x ∈ R, -1 ≤ x ∧ x < L.length) ∧ (∀ x ∈ Ro, -1 ≤ x ∧ x < L.length)
instance {L R Ro : List Int} : Decidable (HV L R Ro) := by unfold HV; infer_instance
theorem HV.setL {L R Ro : List Int} (h : HV L R Ro) {i v : Int} (hv : -1 ≤ v ∧ v < L.length) : HV (L.set i.toNat v) R Ro := by
  obtain ⟨h1, h2, h3, h4, h5, h6, h7, h8⟩ := h
  refine ⟨by simpa, by simpa, by simpa, h4, h5, ?_, by simpa, by simpa⟩
  intro x hx
  rw [List.length_set]
  rcases mem_set_of hx with rfl | hx
  · exact hv
  · exact h6 x hx
theorem HV.setR {L R Ro : List Int} (h : HV L R Ro) {i v : Int} (hv : -1 ≤ v ∧ v < L.length) : HV L (R.set i.toNat v) Ro := by
  obtain ⟨h1, h2, h3, h4, h5, h6, h7, h8⟩ := h
  refine ⟨h1, h2, by simpa, h4, h5, h6, ?_, h8⟩
  intro x hx
  rcases mem_set_of hx with rfl | hx
  · exact hv
  · exact h7 x hx
theorem HV.setRo {L R Ro : List Int} (h : HV L R Ro) {i v : Int} (hv : -1 ≤ v ∧ v < L.length) : HV L R (Ro.set i.toNat v) := by
  obtain ⟨h1, h2, h3, h4, h5, h6, h7, h8⟩ := h
  refine ⟨h1, h2, h3, by simpa, by simpa, h6, h7, ?_⟩
  intro x hx
  rcases mem_set_of hx with rfl | hx
  · exact hv
  · exact h8 x hx
theorem HV.rdL {L R Ro : List Int} (h : HV L R Ro) {i : Int} (h0 : 0 ≤ i) (h1 : i < L.length) : -1 ≤ rd L i ∧ rd L i < L.length := h.2.2.2.2.2.1 _ (rd_mem h0 h1)
theorem HV.rdR {L R Ro : List Int} (h : HV L R Ro) {i : Int} (h0 : 0 ≤ i) (h1 : i < L.length) : -1 ≤ rd R i ∧ rd R i < L.length := h.2.2.2.2.2.2.1 _ (rd_mem h0 (by have := h.2.2.1; omega))
theorem HV.rdRo {L R Ro : List Int} (h : HV L R Ro) {i : Int} (h0 : 0 ≤ i) (h1 : i < Ro.length) : -1 ≤ rd Ro i ∧ rd Ro i < L.length := h.2.2.2.2.2.2.2 _ (rd_mem h0 h1)
inductive Live (L R Ro : List Int) : Int → Prop
  | root {x : Int} : x ∈ Ro → 0 ≤ x → Live L R Ro x
  | left {c : Int} : Live L R Ro c → 0 ≤ rd L c → Live L R Ro (rd L c)
  | right {c : Int} : Live L R Ro c → 0 ≤ rd R c → Live L R Ro (rd R c)
theorem Live.rng {L R Ro : List Int} {x : Int} (h : HV L R Ro) (hl : Live L R Ro x) : (0 : Int) ≤ x ∧ x < L.length := by
  obtain ⟨h1, h2, h3, h4, h5, hL, hR, hRo⟩ := h
  induction hl with
  | root m p => exact ⟨p, (hRo _ m).2⟩
  | left l p ih => exact ⟨p, (hL _ (rd_mem ih.1 ih.2)).2⟩
  | right l p ih => exact ⟨p, (hR _ (rd_mem ih.1 (by omega))).2⟩
theorem Live.mem {L R Ro : List Int} {x : Int} (h : HV L R Ro) (hl : Live L R Ro x) : x ∈ L ∨ x ∈ R ∨ x ∈ Ro := by
  have hlen := h.2.2.1
  cases hl with
  | root m p => exact .inr (.inr m)
  | left l p => have := l.rng h; exact .inl (rd_mem this.1 this.2)
  | right l p => have := l.rng h; exact .inr (.inl (rd_mem this.1 (by omega)))
/-- A search under way: what was found, and the marks that tell it. -/
structure BI (L R Ro : List Int) (e : Int) (out q : List Int) : Prop where
  len : out.length = L.length
  rng : ∀ x : Int, x ∈ q → 0 ≤ x ∧ x < L.length
  live : ∀ x ∈ q, Live L R Ro x
  nd : q.Nodup
  vis : ∀ x ∈ q, 1 ≤ rd out x ∧ rd out x ≤ q.length
  non : ∀ x : Int, 0 ≤ x → x < L.length → x ∉ q → rd out x = e
theorem BI.visit {L R Ro : List Int} {e : Int} {out q : List Int} (h : BI L R Ro e out q) {p far : Int} (hp : 0 ≤ p) (hn : p < L.length) (hl : Live L R Ro p) (hq : p ∉ q) (h1 : 1 ≤ far) (h2 : far ≤ q.length + 1) : BI L R Ro e (out.set p.toNat far) (q ++ [p]) := by
  have hlen := h.len
  refine ⟨by rw [List.length_set, h.len], ?_, ?_, ?_, ?_, ?_⟩
  · have := h.rng; grind
  · have := h.live; grind
  · have := h.nd; grind
  · intro x hx
    have hr : 0 ≤ x ∧ x < L.length := by have := h.rng; grind
    rw [rd_set hp hr.1 (by omega)]
    have := h.vis x
    grind
  · intro x h0 hx hm
    rw [rd_set hp h0 (by omega)]
    have := h.non x h0 hx
    grind
theorem BI.start {L R Ro : List Int} {e : Int} : BI L R Ro e (List.replicate L.length e) [] := by
  refine ⟨by simp, by simp, by simp, by simp, by simp, ?_⟩
  intro x h0 h1 _
  exact rd_replicate h0 h1
theorem BI.qlen {L R Ro : List Int} {e : Int} {out q : List Int} (h : BI L R Ro e out q) : q.length ≤ L.length := pig _ _ h.nd h.rng
/-- At its end all that is live was found. -/
theorem BI.done {L R Ro : List Int} {e : Int} {out q : List Int} (h : BI L R Ro e out q) (he : e ≤ 0) (hr : ∀ x ∈ Ro, 0 ≤ x → x ∈ q) (hc : ∀ x ∈ q, (0 ≤ rd L x → rd L x ∈ q) ∧ (0 ≤ rd R x → rd R x ∈ q)) : ∀ x : Int, 0 ≤ x → x < L.length → (0 < rd out x ↔ Live L R Ro x) := by
  have hl : ∀ x, Live L R Ro x → x ∈ q := by
    intro x hx
    induction hx with
    | root m p => exact hr _ m p
    | left l p ih => exact (hc _ ih).1 p
    | right l p ih => exact (hc _ ih).2 p
  intro x h0 h1
  constructor
  · intro hp
    by_cases hq : x ∈ q
    · exact h.live x hq
    · rw [h.non x h0 h1 hq] at hp; omega
  · intro hx
    have := (h.vis x (hl x hx)).1
    omega
end Go.Proofs.YtnfaiojmabolmaaDoor.T
