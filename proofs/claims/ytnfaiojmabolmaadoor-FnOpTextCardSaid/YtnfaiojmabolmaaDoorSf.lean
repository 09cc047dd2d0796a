/- One lemma for each operation that makes a row: a literal, make, append; cuts of rows and of strings; a struct's value. It says nothing of any program. -/
import Derived.Test.YtnfaiojmabolmaaDoorSe
namespace Go.Proofs.YtnfaiojmabolmaaDoor.S
open Go Go.RowKit
set_option linter.unusedVariables false
set_option linter.unusedSimpArgs false
section
variable {n : Nat} {E : List (Nat × Value)} {w0 : World} {rs : List Res} {P : Program} {o : Oper}

/-! ### lists of cells -/
theorem over_append (pre zs : List Value) (vs : List Value) (h : vs.length ≤ zs.length) : over (pre ++ zs) pre.length vs = pre ++ vs ++ zs.drop vs.length := by
  induction vs generalizing pre zs with
  | nil => simp [over]
  | cons v vs ih =>
    cases zs with
    | nil => simp at h
    | cons z zs =>
      simp only [over]
      have h1 : (pre ++ z :: zs).set pre.length v = (pre ++ [v]) ++ zs := by
        rw [List.set_append_right _ _ (Nat.le_refl _)]
        simp
      rw [h1]
      have := ih (pre ++ [v]) zs (by simpa using h)
      rw [show pre.length + 1 = (pre ++ [v]).length by simp, this]
      simp
theorem over_length (cs : List Value) (j : Nat) (vs : List Value) : (over cs j vs).length = cs.length := by
  induction vs generalizing cs j with
  | nil => rfl
  | cons v vs ih => simp [over, ih]
theorem put_cells (off : Nat) (l : List Value) : ∀ (k : Nat) (cells : Array Value), (l.zipIdx k).foldl (fun cs (p : Value × Nat) => cs.setIfInBounds (off + p.2) p.1) cells = (over cells.toList (off + k) l).toArray := by
  induction l with
  | nil => intro k cells; simp [over]
  | cons v l ih =>
    intro k cells
    simp only [List.zipIdx_cons, List.foldl_cons, over]
    rw [ih]
    simp [Nat.add_assoc]
def fillL (place : Nat → Option (Nat × Nat)) (cs : List Value) : List (Nat × Value) → Option (List Value)
  | [] => some cs
  | (i, v) :: l => match place i with
    | none => none
    | some (off, size) => if v.cells.size ≠ size || off + v.cells.size > cs.length then none else fillL place (over cs off v.cells.toList) l
theorem fill_list (place : Nat → Option (Nat × Nat)) (ps : List (Nat × Value)) : ∀ cells : Array Value, Instr.fill place cells ps = (fillL place cells.toList ps).map List.toArray := by
  induction ps with
  | nil => intro cells; simp [Instr.fill, fillL]
  | cons p ps ih =>
    intro cells
    obtain ⟨i, v⟩ := p
    simp only [Instr.fill, fillL]
    cases place i with
    | none => rfl
    | some q =>
      obtain ⟨off, size⟩ := q
      simp only [Array.length_toList]
      split
      · rfl
      · rw [ih]
        congr 2
        have := put_cells off v.cells.toList 0 cells
        rw [← Array.foldl_toList, Array.toList_zipIdx]
        rw [this]
        simp
def idx : Nat → List Value → List (Nat × Value)
  | _, [] => []
  | k, v :: vs => (k, v) :: idx (k + 1) vs
theorem fill_idx {sz : Nat} (vs : List Value) (hv : ∀ v ∈ vs, v.cells.size = sz) : ∀ (pre zs : List Value) (k : Nat), pre.length = k * sz → zs.length = vs.length * sz →
    fillL (fun i => some (i * sz, sz)) (pre ++ zs) (idx k vs) = some (pre ++ vs.flatMap fun v => v.cells.toList) := by
  induction vs with
  | nil =>
    intro pre zs k _ hz
    have : zs = [] := List.length_eq_zero_iff.1 (by simpa using hz)
    subst this
    simp [idx, fillL]
  | cons v vs ih =>
    intro pre zs k hp hz
    have h1 : v.cells.size = sz := hv v (by simp)
    have hzl : sz ≤ zs.length := by simp [Nat.add_mul] at hz; omega
    simp only [idx, fillL]
    rw [if_neg (by simp [h1]; omega)]
    rw [← hp, over_append pre zs v.cells.toList (by simpa [h1] using hzl)]
    have := ih (fun u hu => hv u (by simp [hu])) (pre ++ v.cells.toList) (zs.drop v.cells.toList.length) (k + 1) (by simp [h1, hp, Nat.add_mul]) (by simp [h1, hz, Nat.add_mul])
    rw [this]
    simp

/-! ### a literal -/
def evp (E : List (Nat × Value)) : List (Nat × Operand) → Option (List (Nat × Value))
  | [] => some []
  | (i, x) :: l => match ev E x, evp E l with
    | some v, some vs => some ((i, v) :: vs)
    | _, _ => none
theorem evp_map {ρ : Operand → Value} (hρ : ∀ x u, ev E x = some u → ρ x = u) {l : List (Nat × Operand)} : ∀ {vs : List (Nat × Value)}, evp E l = some vs → l.map (fun p => (p.1, ρ p.2)) = vs := by
  induction l with
  | nil => intro vs h; simp [evp] at h; simp [h]
  | cons p l ih =>
    obtain ⟨i, x⟩ := p
    intro vs h
    simp only [evp] at h
    cases hx : ev E x with
    | none => simp [hx] at h
    | some v =>
      cases hl : evp E l with
      | none => simp [hx, hl] at h
      | some us =>
        simp only [hx, hl, Option.some.injEq] at h
        subst h
        simp [hρ x v hx, ih hl]
theorem Mem.newRow {w : World} (hm : Mem w0 rs w) (e c sz : Nat) (cells : Array Value) (cs : List Value) (hl : cs.length ≤ c * sz) (hc : c * sz ≤ cells.size) (hcs : ∀ j : Nat, j < cs.length → cells[j]? = cs[j]?) : Mem w0 (.row (some ⟨w.heap.size, 0, none⟩) c e sz cs :: rs) { w with heap := w.heap.push (.cells cells e) } := by
  refine hm.push _ (r := .row (some ⟨w.heap.size, 0, none⟩) c e sz cs) ⟨hl, ?_⟩ ?_
  · cases c with
    | zero => exact .inl rfl
    | succ c => exact .inr ⟨w.heap.size, 0, cells, rfl, hm.low.size, by simp, by simpa using hc, fun j hj => by rw [Nat.zero_add]; exact hcs j hj⟩
  · intro g hg
    cases c with
    | zero => simp [Res.blk] at hg
    | succ c => simpa [Res.blk] using hg.symm
theorem a_lit {t e sz len : Nat} {parts : Array (Nat × Operand)} {l : List (Nat × Operand)} {vs : List Value} {z : Value} (hu : P.underlying t = some (.slice e)) (hs : SzIs P e sz) (hz : ZeroIs P e z) (hzs : z.cells.size = sz) (hpos : 0 < sz) (ho : o.op = .buildSlice t len parts) (hp : parts = l.toArray) (hv : evp E l = some (idx 0 vs)) (hl : vs.length = len) (hcs : vs.all (fun v => v.cells.size == sz) = true) (hb : len * sz ≤ 1024) {cs : List Value} (hres : (vs.flatMap fun v => v.cells.toList) = cs) :
    Acts P o n E w0 rs (fun A : Option Addr => .slice A len len) (fun A => .row A len e sz cs :: rs) := acts_of_run fun a w he hm => by
  have hcs' : ∀ v ∈ vs, v.cells.size = sz := fun v hv => by simpa using List.all_eq_true.1 hcs v hv
  refine ⟨some ⟨w.heap.size, 0, none⟩, _, ?_, hm.newRow e len sz cs.toArray cs ?_ ?_ (fun j _ => by simp)⟩
  · have hmap := evp_map (fun x u hx => he.eval hx) hv
    simp only [execOp, ho, hp]
    have : (Instr.buildSlice t len (List.toArray (l.map fun p => (p.1, a.eval p.2)))).run P w = .ok (.slice (some ⟨w.heap.size, 0, none⟩) len len) { w with heap := w.heap.push (.cells cs.toArray e) } := by
      refine (run_to (run_underlying hu w)).trans ?_
      refine (run_to (run_size hs w)).trans ?_
      rw [if_neg (by omega)]
      have key : ∀ zc : Array Value, Sem.run P (match Instr.fill (fun i => some (i * sz, sz)) ((Array.range (len * sz)).map (zc[· % zc.size]!)) (List.toArray (l.map fun p => (p.1, a.eval p.2))).toList with
          | some cells => (newRow e cells).bind fun b => (pure (Value.slice (some b) len len) : Sem Value)
          | _ => stuck "buildSlice: a part of the wrong size") w = .ok (.slice (some ⟨w.heap.size, 0, none⟩) len len) { w with heap := w.heap.push (.cells cs.toArray e) } := by
        intro zc
        rw [fill_list, hmap]
        have hfl := fill_idx (sz := sz) vs hcs' [] ((Array.range (len * sz)).map (zc[· % zc.size]!)).toList 0 (by simp) (by simp [hl])
        rw [List.nil_append] at hfl
        rw [hfl]
        simp only [Option.map_some, List.nil_append, hres]
        rfl
      show Sem.run P (if len * sz = 0 then _ else _) w = _
      by_cases h0 : len * sz = 0
      · rw [if_pos h0]
        exact key #[]
      · rw [if_neg h0]
        exact (run_to (run_zero hz w)).trans (key z.cells)
    show Sem.run P ((Instr.buildSlice t len (Array.map (fun p => (p.1, a.eval p.2)) (List.toArray l))).bind fun x => (pure (Next.value x) : Sem Next)) w = _
    rw [List.map_toArray, run_to this]; rfl
  · rw [← hres, ← hl]
    have : ∀ vs : List Value, (∀ v ∈ vs, v.cells.size = sz) → (vs.flatMap fun v => v.cells.toList).length = vs.length * sz := by
      intro vs
      induction vs with
      | nil => intro _; simp
      | cons v vs ih => intro h; simp [ih (fun u hu => h u (by simp [hu])), h v (by simp), Nat.add_mul]; omega
    rw [this vs hcs']; exact Nat.le_refl _
  · have : ∀ vs : List Value, (∀ v ∈ vs, v.cells.size = sz) → (vs.flatMap fun v => v.cells.toList).length = vs.length * sz := by
      intro vs
      induction vs with
      | nil => intro _; simp
      | cons v vs ih => intro h; simp [ih (fun u hu => h u (by simp [hu])), h v (by simp), Nat.add_mul]; omega
    simp [← hres, this vs hcs', hl]
end
end Go.Proofs.YtnfaiojmabolmaaDoor.S
