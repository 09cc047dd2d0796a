/- Texts cut and joined: plain facts of lists of bytes. It says nothing of any program. -/
import Derived.Test.YtnfaiojmabolmaaDoorSq
import Derived.Lib.IndexMore
namespace Go.Proofs.YtnfaiojmabolmaaDoor.T
open Go Go.RowKit Go.Proofs.YtnfaiojmabolmaaDoor.S
set_option linter.unusedVariables false
set_option linter.unusedSimpArgs false
abbrev Bs := List UInt8
abbrev jL (xs : List Bs) (sep : Bs) : Bs := Go.Lib.join xs sep
theorem jL_one (x sep : Bs) : jL [x] sep = x := Go.Lib.join_one x sep
theorem jL_cons2 (x y : Bs) (r : List Bs) (sep : Bs) : jL (x :: y :: r) sep = x ++ (sep ++ jL (y :: r) sep) := by
  unfold jL
  rw [Go.Lib.join_cons, Go.Lib.join_cons]
  simp [Go.Lib.joinTail]
theorem jL_snoc {xs : List Bs} (h : xs ≠ []) (x sep : Bs) : jL (xs ++ [x]) sep = jL xs sep ++ sep ++ x := by
  cases xs with
  | nil => exact absurd rfl h
  | cons y r =>
    unfold jL
    rw [List.cons_append, Go.Lib.join_cons, Go.Lib.join_cons]
    simp [Go.Lib.joinTail]
/-- A text put ahead of the first piece. -/
def at1 (x : Bs) : List Bs → List Bs
  | [] => [x]
  | h :: t => (x ++ h) :: t
def cutL (c : UInt8) : Bs → List Bs
  | [] => [[]]
  | b :: l => if b = c then [] :: cutL c l else at1 [b] (cutL c l)
theorem at1_ne (x : Bs) (l : List Bs) : at1 x l ≠ [] := by cases l <;> simp [at1]
theorem cutL_ne (c : UInt8) (l : Bs) : cutL c l ≠ [] := by
  cases l with
  | nil => simp [cutL]
  | cons b l =>
    unfold cutL
    split
    · simp
    · exact at1_ne _ _
theorem at1_at1 (x y : Bs) (l : List Bs) : at1 x (at1 y l) = at1 (x ++ y) l := by cases l <;> simp [at1]
theorem at1_nil {l : List Bs} (h : l ≠ []) : at1 [] l = l := by
  cases l with
  | nil => exact absurd rfl h
  | cons a l => rfl
theorem cutL_free {c : UInt8} {x : Bs} (h : c ∉ x) (l : Bs) : cutL c (x ++ l) = at1 x (cutL c l) := by
  induction x with
  | nil => exact (at1_nil (cutL_ne c l)).symm
  | cons b x ih =>
    simp only [List.mem_cons, not_or] at h
    rw [List.cons_append, cutL, if_neg (fun e => h.1 e.symm), ih h.2, at1_at1]
    rfl
theorem cutL_hit (c : UInt8) (l : Bs) : cutL c (c :: l) = [] :: cutL c l := by rw [cutL, if_pos rfl]
theorem cutL_jL {c : UInt8} : ∀ {xs : List Bs}, xs ≠ [] → (∀ x ∈ xs, c ∉ x) → cutL c (jL xs [c]) = xs
  | [], h, _ => absurd rfl h
  | [x], _, h => by
    rw [jL_one]
    have := cutL_free (h x (by simp)) []
    rw [List.append_nil] at this
    rw [this]
    simp [cutL, at1]
  | x :: y :: r, _, h => by
    rw [jL_cons2, cutL_free (h x (by simp)), List.singleton_append, cutL_hit, cutL_jL (by simp) (fun z hz => h z (List.mem_cons_of_mem _ hz))]
    simp [at1]
theorem jL_cutL (c : UInt8) : ∀ l : Bs, jL (cutL c l) [c] = l
  | [] => by simp [cutL, jL_one]
  | b :: l => by
    have ih := jL_cutL c l
    have ne := cutL_ne c l
    unfold cutL
    cases hc : cutL c l with
    | nil => exact absurd hc ne
    | cons h t =>
      rw [hc] at ih
      split
      · rename_i e
        rw [jL_cons2, ih, e]
        rfl
      · show jL (([b] ++ h) :: t) [c] = b :: l
        rw [← ih]
        unfold jL
        rw [Go.Lib.join_cons, Go.Lib.join_cons]
        rfl
/-! ### pieces at a separator -/
theorem splitK_ne (sep : Bs) : ∀ (k : Nat) (s : Bs), Go.Lib.splitK sep 0 k s ≠ []
  | 0, s => by simp [Go.Lib.splitK]
  | k + 1, s => by
    unfold Go.Lib.splitK
    split <;> simp
theorem jL_splitK (sep : Bs) : ∀ (k : Nat) (s : Bs), jL (Go.Lib.splitK sep 0 k s) sep = s
  | 0, s => by simp [Go.Lib.splitK, jL_one]
  | k + 1, s => by
    unfold Go.Lib.splitK
    split
    · exact jL_one _ _
    · rename_i hne
      rcases Go.Lib.index_spec s sep with ⟨h, _⟩ | ⟨i, h, hi, ho, _⟩
      · exact absurd (beq_iff_eq.2 h) hne
      · rw [h, Int.toNat_natCast, Nat.add_zero]
        have ih := jL_splitK sep k (s.drop (i + sep.length))
        have ne := splitK_ne sep k (s.drop (i + sep.length))
        cases hq : Go.Lib.splitK sep 0 k (s.drop (i + sep.length)) with
        | nil => exact absurd hq ne
        | cons y r =>
          rw [hq] at ih
          rw [jL_cons2, ih]
          unfold Go.Lib.occAt at ho
          obtain ⟨t, ht⟩ := List.isPrefixOf_iff_prefix.1 ho
          have e : s.drop (i + sep.length) = t := by
            rw [← List.drop_drop, ← ht, List.drop_left]
          rw [e, ht, List.take_append_drop]
theorem no_occ {x l : Bs} {c d : UInt8} (h : c ∉ x) {j : Nat} (hj : j < x.length) : Go.Lib.occAt (x ++ l) [c, d] j = false := by
  cases ho : Go.Lib.occAt (x ++ l) [c, d] j with
  | false => rfl
  | true =>
    have := Go.Lib.occAt_head rfl ho
    rw [List.getElem?_append_left hj] at this
    exact absurd (List.mem_of_getElem? this) h
theorem index_at {x l : Bs} {c d : UInt8} (h : c ∉ x) : Go.Lib.index (x ++ (c :: d :: l)) [c, d] = (x.length : Nat) :=
  Go.Lib.index_first (by simp) (by unfold Go.Lib.occAt; rw [List.drop_left]; simp [List.isPrefixOf]) (fun j hj => no_occ h hj)
theorem index_no {x : Bs} {c d : UInt8} (h : c ∉ x) : Go.Lib.index x [c, d] = -1 :=
  Go.Lib.index_none fun j hj => by
    by_cases g : j < x.length
    · have := no_occ (l := []) (d := d) h g
      rwa [List.append_nil] at this
    · cases ho : Go.Lib.occAt x [c, d] j with
      | false => rfl
      | true =>
        rcases Go.Lib.occAt_room ho with e | e
        · simp at e; omega
        · simp at e
theorem splitK_jL {c d : UInt8} : ∀ {xs : List Bs}, xs ≠ [] → (∀ x ∈ xs, c ∉ x) → Go.Lib.splitK [c, d] 0 (Go.Lib.count (jL xs [c, d]) [c, d]) (jL xs [c, d]) = xs
  | [], h, _ => absurd rfl h
  | [x], _, h => by
    rw [jL_one, Go.Lib.count_miss (index_no (h x (by simp)))]
    rfl
  | x :: y :: r, _, h => by
    have hx := h x (by simp)
    have hi := index_at (l := jL (y :: r) [c, d]) (d := d) hx
    have ih := splitK_jL (c := c) (d := d) (xs := y :: r) (by simp) (fun z hz => h z (List.mem_cons_of_mem _ hz))
    rw [jL_cons2, show [c, d] ++ jL (y :: r) [c, d] = c :: d :: jL (y :: r) [c, d] from rfl, Go.Lib.count_hit (by simp) hi]
    have e1 : (x ++ (c :: d :: jL (y :: r) [c, d])).drop (x.length + [c, d].length) = jL (y :: r) [c, d] := by
      rw [← List.drop_drop, List.drop_left]; rfl
    rw [e1, Nat.add_comm 1, Go.Lib.splitK, if_neg (by rw [hi, beq_iff_eq]; omega), hi, Int.toNat_natCast, e1, Nat.add_zero, List.take_left, ih]
/-! ### texts -/
def oL (l : Bs) : ByteArray := ⟨l.toArray⟩
abbrev dL (s : ByteArray) : Bs := s.data.toList
theorem dL_oL (l : Bs) : dL (oL l) = l := rfl
theorem ba_ext {s t : ByteArray} (h : dL s = dL t) : s = t := ByteArray.ext (Array.ext' h)
theorem oL_dL (s : ByteArray) : oL (dL s) = s := ba_ext rfl
theorem map_dL_inj {xs ys : List ByteArray} (h : xs.map dL = ys.map dL) : xs = ys := by
  have := congrArg (List.map oL) h
  simpa [List.map_map, Function.comp_def, oL_dL] using this
theorem dL_jn (xs : List ByteArray) (sep : ByteArray) : dL (jn xs sep) = jL (xs.map dL) (dL sep) := rfl
theorem dL_app (s t : ByteArray) : dL (s ++ t) = dL s ++ dL t := by
  show (s ++ t).data.toList = _
  rw [ByteArray.data_append, Array.toList_append]
theorem dL_len (s : ByteArray) : s.size = (dL s).length := Go.Lib.size_eq s
/-- The separator of operations. -/
def cs : ByteArray := ⟨#[44, 32]⟩
theorem spl_data (s : ByteArray) : (spl s cs).map dL = Go.Lib.splitK [44, 32] 0 (Go.Lib.count (dL s) [44, 32]) (dL s) := Go.Lib.splitB_data cs 0 _ s
theorem jn_spl (s : ByteArray) : jn (spl s cs) cs = s := ba_ext (by rw [dL_jn, spl_data]; exact jL_splitK [44, 32] _ _)
theorem spl_ne (s : ByteArray) : spl s cs ≠ [] := fun h => by
  have := spl_data s
  rw [h] at this
  exact splitK_ne _ _ _ this.symm
theorem spl_jn {xs : List ByteArray} (h : xs ≠ []) (hc : ∀ x ∈ xs, (44 : UInt8) ∉ dL x) : spl (jn xs cs) cs = xs := by
  refine map_dL_inj ?_
  rw [spl_data, dL_jn]
  exact splitK_jL (by simpa using h) (fun x hx => by
    obtain ⟨y, hy, rfl⟩ := List.mem_map.1 hx
    exact hc y hy)
theorem jn_one (x : ByteArray) : jn [x] cs = x := ba_ext (jL_one (dL x) (dL cs))
theorem jn_nil : jn [] cs = ⟨#[]⟩ := rfl
theorem jn_snoc {xs : List ByteArray} (h : xs ≠ []) (x : ByteArray) : jn (xs ++ [x]) cs = (jn xs cs ++ cs) ++ x := ba_ext (by
  rw [dL_jn, List.map_append, dL_app, dL_app, dL_jn]
  exact jL_snoc (by simpa using h) _ _)
/-- Pieces at a comma, of which all but the first begin with a blank. -/
theorem jL_blank (x : Bs) (r : List Bs) : jL (x :: r.map (32 :: ·)) [44] = jL (x :: r) [44, 32] := by
  unfold jL
  rw [Go.Lib.join_cons, Go.Lib.join_cons]
  unfold Go.Lib.joinTail
  rw [List.map_map]
  rfl
theorem jL_len (sep : Bs) (n : Nat) : ∀ xs : List Bs, (∀ x ∈ xs, x.length ≤ n) → (jL xs sep).length ≤ xs.length * (n + sep.length)
  | [], _ => by simp [jL, Go.Lib.join_nil]
  | [x], h => by
    rw [jL_one]
    have := h x (by simp)
    simp
    omega
  | x :: y :: r, h => by
    have ih := jL_len sep n (y :: r) (fun z hz => h z (List.mem_cons_of_mem _ hz))
    have hx := h x (by simp)
    rw [jL_cons2, List.length_append, List.length_append, List.length_cons, Nat.add_mul]
    omega
theorem count_jL (c : UInt8) (sep : Bs) (hs : sep.count c = 1) : ∀ xs : List Bs, xs ≠ [] → (∀ x ∈ xs, c ∉ x) → (jL xs sep).count c + 1 = xs.length
  | [], h, _ => absurd rfl h
  | [x], _, h => by
    rw [jL_one, List.count_eq_zero.2 (h x (by simp))]
    rfl
  | x :: y :: r, _, h => by
    have ih := count_jL c sep hs (y :: r) (by simp) (fun z hz => h z (List.mem_cons_of_mem _ hz))
    rw [jL_cons2, List.count_append, List.count_append, hs, List.count_eq_zero.2 (h x (by simp)), List.length_cons]
    omega
end Go.Proofs.YtnfaiojmabolmaaDoor.T
