/- One lemma for each kind of operation that reads or turns memory, and for a call. It says nothing of any program. -/
import Derived.Test.YtnfaiojmabolmaaDoorSd
namespace Go.Proofs.YtnfaiojmabolmaaDoor.S
open Go Go.RowKit
set_option linter.unusedVariables false
set_option linter.unusedSimpArgs false

/-! ### addresses -/
theorem add_off (g off j : Nat) : (⟨g, off, none⟩ : Addr).add j = ⟨g, off + j, none⟩ := by unfold Addr.add; split <;> simp_all
theorem add_add (a : Addr) (i j : Nat) : (a.add i).add j = a.add (i + j) := by
  unfold Addr.add
  by_cases hi : i = 0
  · subst hi; simp
  · by_cases hj : j = 0
    · subst hj; simp [hi]
    · simp [hi, hj, Nat.add_assoc, show ¬ (i + j = 0) by omega]
theorem add_zero' (a : Addr) : a.add 0 = a := rfl
theorem add_block (a : Addr) (i : Nat) : (a.add i).block = a.block := by unfold Addr.add; split <;> rfl

/-- Where a cut begins. -/
def cutA (A : Option Addr) (c l sz : Nat) : Option Addr := if c = l then A else A.map (·.add (l * sz))

section
variable {n : Nat} {E : List (Nat × Value)} {w0 : World} {rs : List Res} {P : Program} {o : Oper}

theorem Mem.tail {w : World} {r : Res} (h : Mem w0 (r :: rs) w) : Mem w0 rs w := by simpa [picks] using h.pick 1 [] rfl
theorem Mem.drop {w : World} (m : Nat) (h : Mem w0 rs w) : Mem w0 (rs.drop m) w := by simpa [picks] using h.pick m [] rfl
theorem Mem.get {w : World} {k : Nat} {r : Res} (h : Mem w0 rs w) (hk : rs[k]? = some r) : r.Ok w0 w := h.ok _ (List.mem_of_getElem? hk)

/-- In whatever world holds rs the cells from A on read cs. -/
def Rd (w0 : World) (rs : List Res) (A : Option Addr) (cs : List Value) : Prop := ∀ w, Mem w0 rs w → ∀ (j : Nat) v, cs[j]? = some v → ∃ a, A = some a ∧ w.cell? (a.add j) = some v

theorem Rd.row (k : Nat) {A : Option Addr} {c e sz : Nat} {cs : List Value} (hk : rs[k]? = some (.row A c e sz cs)) : Rd w0 rs A cs := by
  intro w hm j v hj
  obtain ⟨hl, h | ⟨g, off, cur, rfl, hg, hc, h1, h2⟩⟩ := hm.get hk
  · subst h
    have : cs = [] := List.length_eq_zero_iff.1 (by omega)
    subst this
    simp at hj
  · have hlt : j < cs.length := (List.getElem?_eq_some_iff.1 hj).1
    refine ⟨_, rfl, ?_⟩
    rw [add_off]
    simp only [World.cell?, hc, Option.isSome_none, Bool.false_eq_true, if_false]
    rw [h2 j hlt, hj]
theorem Rd.ro (k : Nat) {A : Option Addr} {cs : List Value} (hk : rs[k]? = some (.ro A cs)) : Rd w0 rs A cs := by
  intro w hm j v hj
  obtain ⟨a, rfl, ha⟩ := (hm.get hk) j v hj
  exact ⟨a, rfl, (hm.low.cell (World.block_lt_of_cell? w0 _ ha)).trans ha⟩
theorem Rd.tail {r : Res} {A : Option Addr} {cs : List Value} (h : Rd w0 rs A cs) : Rd w0 (r :: rs) A cs := fun w hm => h w hm.tail
theorem Rd.drop (m : Nat) {A : Option Addr} {cs : List Value} (h : Rd w0 (rs.drop m) A cs) : Rd w0 rs A cs := fun w hm => h w (hm.drop m)
theorem Rd.nil (A : Option Addr) : Rd w0 rs A [] := fun _ _ j v hj => by simp at hj
theorem Rd.take {A : Option Addr} {cs : List Value} (h : Rd w0 rs A cs) (i : Nat) : Rd w0 rs A (cs.take i) := fun w hm j v hj => by
  rw [List.getElem?_take] at hj
  split at hj
  · exact h w hm j v hj
  · simp at hj
theorem Rd.off {A : Option Addr} {cs : List Value} {c sz : Nat} (h : Rd w0 rs A cs) (hc : cs.length ≤ c * sz) (l : Nat) : Rd w0 rs (cutA A c l sz) (cs.drop (l * sz)) := fun w hm j v hj => by
  rw [List.getElem?_drop] at hj
  unfold cutA
  split
  · rename_i he
    subst he
    have : cs.length ≤ c * sz + j := by omega
    rw [List.getElem?_eq_none this] at hj
    simp at hj
  · obtain ⟨a, rfl, ha⟩ := h w hm _ v hj
    exact ⟨_, rfl, by rw [add_add]; exact ha⟩
theorem Rd.addr {A : Option Addr} {cs : List Value} (h : Rd w0 rs A cs) (hl : 0 < cs.length) (w : World) (hm : Mem w0 rs w) : ∃ a, A = some a := by
  obtain ⟨a, ha, _⟩ := h w hm 0 cs[0] (List.getElem?_eq_getElem hl)
  exact ⟨a, ha⟩

/-! ### loads -/
section
variable {t : TypeId} {x y : Operand}
theorem run_load {a : Addr} {v : Value} {w : World} (h : w.cell? a = some v) : (load a).run P w = .ok v w := by
  simp only [load, Sem.run, h]
theorem run_loadCells {a : Addr} {w : World} (vs : List Value) : ∀ (i : Nat) (acc : Array Value), (∀ j v, vs[j]? = some v → w.cell? (a.add (i + j)) = some v) →
    (loadCellsFrom a i vs.length acc).run P w = .ok (acc ++ vs.toArray) w := by
  induction vs with
  | nil => intro i acc _; show Result.ok _ _ = _; simp
  | cons v vs ih =>
    intro i acc h
    have h0 := h 0 v rfl
    show Sem.run P ((load (a.add i)).bind fun v => loadCellsFrom a (i + 1) vs.length (acc.push v)) w = _
    rw [run_to (run_load (by simpa using h0))]
    rw [ih (i + 1) (acc.push v) (fun j u hj => by rw [show i + 1 + j = i + (j + 1) by omega]; exact h (j + 1) u (by simpa using hj))]
    congr 1
    apply Array.ext'
    simp
theorem run_loadVar {a : Addr} {v : Value} {w : World} (hg : AggIs P t false) (h : w.cell? a = some v) : (loadVar t a).run P w = .ok v w := by
  refine (run_to (run_isAgg hg w)).trans ?_
  exact run_load h
theorem run_loadVar_agg {a : Addr} {vs : List Value} {w : World} (hg : AggIs P t true) (hs : SzIs P t vs.length) (h : ∀ j v, vs[j]? = some v → w.cell? (a.add j) = some v) : (loadVar t a).run P w = .ok (.agg vs.toArray) w := by
  refine (run_to (run_isAgg hg w)).trans ?_
  refine (run_to (run_size hs w)).trans ?_
  have := run_loadCells (P := P) (w := w) (a := a) vs 0 #[] (fun j v hj => by simpa using h j v hj)
  show Sem.run P ((loadCells a vs.length).bind fun c => (pure (Value.agg c) : Sem Value)) w = _
  rw [run_to (show (loadCells a vs.length).run P w = _ from this)]
  show Result.ok (Value.agg (#[] ++ vs.toArray)) w = _
  simp

theorem Rd.cell {A : Option Addr} {cs : List Value} (h : Rd w0 rs A cs) {w : World} (hm : Mem w0 rs w) {m : Nat} {v : Value} (hv : cs[m]? = some v) : ∃ a, A = some a ∧ w.cell? (a.add m) = some v := h w hm m v hv

/-- A cell of a row. -/
theorem q_load {A : Option Addr} {cs : List Value} {m : Nat} {v : Value} (hR : Rd w0 rs A cs) (hg : AggIs P t false) (ho : o.op = .load t x) (hx : ev E x = some (.pointer (A.map (·.add m)))) (hv : cs[m]? = some v) : Quiet P o n E w0 rs v := .of (fun ρ => Instr.loadAt t (ρ x)) (fun ρ => by simp only [execOp, ho]; rfl) fun ρ w h hm => by
  simp only [h _ _ hx]
  obtain ⟨a, rfl, ha⟩ := hR.cell hm hv
  exact run_loadVar hg ha
theorem q_load_agg {A : Option Addr} {cs vs : List Value} {m : Nat} (hR : Rd w0 rs A cs) (hg : AggIs P t true) (hs : SzIs P t vs.length) (ho : o.op = .load t x) (hx : ev E x = some (.pointer (A.map (·.add m)))) (hl : 0 < vs.length) (hv : ∀ j : Nat, j < vs.length → cs[m + j]? = vs[j]?) : Quiet P o n E w0 rs (.agg vs.toArray) := .of (fun ρ => Instr.loadAt t (ρ x)) (fun ρ => by simp only [execOp, ho]; rfl) fun ρ w h hm => by
  simp only [h _ _ hx]
  have h0 := hv 0 hl
  rw [List.getElem?_eq_getElem hl] at h0
  obtain ⟨a, rfl, _⟩ := hR.cell hm h0
  refine run_loadVar_agg hg hs (fun j v hj => ?_)
  have hlt : j < vs.length := (List.getElem?_eq_some_iff.1 hj).1
  obtain ⟨a', ha', hc⟩ := hR.cell hm ((hv j hlt).trans hj)
  cases ha'
  rw [add_add]; exact hc
/-- A cell of a variable. -/
theorem Mem.cell {w : World} (hm : Mem w0 rs w) {k g t j : Nat} {cs : List Value} {v : Value} (hk : rs[k]? = some (.box g t cs)) (hv : cs[j]? = some v) : w.cell? ⟨g, j, none⟩ = some v := by
  have := (hm.get hk).2
  simp only [World.cell?, this, Option.isSome_none, Bool.false_eq_true, if_false]
  simpa using hv
theorem q_loadb (k : Nat) {g j t' : Nat} {cs : List Value} {v : Value} (hk : rs[k]? = some (.box g t' cs)) (hg : AggIs P t false) (ho : o.op = .load t x) (hx : ev E x = some (.pointer (some ⟨g, j, none⟩))) (hv : cs[j]? = some v) : Quiet P o n E w0 rs v := .of (fun ρ => Instr.loadAt t (ρ x)) (fun ρ => by simp only [execOp, ho]; rfl) fun ρ w h hm => by
  simp only [h _ _ hx]
  exact run_loadVar hg (hm.cell hk hv)
theorem q_loadb_agg (k : Nat) {g j t' s : Nat} {cs vs : List Value} (hk : rs[k]? = some (.box g t' cs)) (hg : AggIs P t true) (hs : SzIs P t s) (ho : o.op = .load t x) (hx : ev E x = some (.pointer (some ⟨g, j, none⟩))) (hv : (cs.drop j).take s = vs) (hl : vs.length = s) : Quiet P o n E w0 rs (.agg vs.toArray) := .of (fun ρ => Instr.loadAt t (ρ x)) (fun ρ => by simp only [execOp, ho]; rfl) fun ρ w h hm => by
  simp only [h _ _ hx]
  subst hl
  refine run_loadVar_agg hg hs (fun i v hi => ?_)
  rw [add_off]
  refine hm.cell hk ?_
  rw [← hv, List.getElem?_take] at hi
  split at hi
  · rw [List.getElem?_drop] at hi; exact hi
  · simp at hi
end

/-! ### stores -/
def one : Value → Bool
  | .agg _ | .tuple _ => false
  | _ => true
theorem run_store {a : Addr} {u v : Value} {w : World} (h : w.cell? a = some u) (hf : w.frozen? a = false) (hv : one v = true) : (store a v).run P w = .ok () (w.setCell a v) := by
  have : (store a v).run P w = (match w.cell? a with
    | some _ => if w.frozen? a then .halt (.unsupported (.unsafePointer "a write to bytes that a string shares")) w else Sem.run P (.pure ()) (w.setCell a v)
    | none => match w.farStore P a v (Mode.plain == .atomic) with
      | .ok (w, _) => Sem.run P (.pure ()) w
      | .error h => .halt h w) := by
    cases v <;> first | rfl | simp [one] at hv
  rw [this, h]
  simp only [hf, Bool.false_eq_true, if_false]
  rfl
theorem Mem.frozen {w : World} (hm : Mem w0 rs w) {k g t j : Nat} {cs : List Value} (hk : rs[k]? = some (.box g t cs)) : w.frozen? ⟨g, j, none⟩ = false := by
  have := (hm.get hk).2
  simp [World.frozen?, this]
theorem blkAt_set {rs : List Res} {k : Nat} {r r' : Res} (hk : rs[k]? = some r) (hb : r'.blk = r.blk) (i : Nat) : blkAt (rs.set k r') i = blkAt rs i := by
  unfold blkAt
  by_cases h : k = i
  · subst h
    have hlt : k < rs.length := (List.getElem?_eq_some_iff.1 hk).1
    rw [List.getElem?_set_self hlt, hk]
    exact hb
  · rw [List.getElem?_set_ne h]
/-- One of them has turned, and the world in its block alone. -/
theorem Mem.turn {w w' : World} (hm : Mem w0 rs w) {k g : Nat} {r r' : Res} (hk : rs[k]? = some r) (hb : r.blk = some g) (hb' : r'.blk = r.blk) (hr' : r'.Ok w0 w') (hl : Below w0.heap.size w0 w') (hfar : ∀ i, i ≠ g → w'.heap[i]? = w.heap[i]?) : Mem w0 (rs.set k r') w' := by
  refine ⟨hl, ?_, fun i j b hi hj => ?_⟩
  · intro q hq
    obtain ⟨i, hi⟩ := List.getElem?_of_mem hq
    by_cases h : k = i
    · subst h
      have hlt : k < rs.length := (List.getElem?_eq_some_iff.1 hk).1
      rw [List.getElem?_set_self hlt] at hi
      cases hi
      exact hr'
    · rw [List.getElem?_set_ne h] at hi
      refine (hm.get hi).keep (fun b hb2 => hfar b ?_)
      rintro rfl
      exact h (hm.apart k i b (by simp [blkAt, hk, hb]) (by simp [blkAt, hi, hb2]))
  · rw [blkAt_set hk hb'] at hi hj
    exact hm.apart i j b hi hj
theorem heap_set (w : World) (g j : Nat) (v : Value) (t : TypeId) (cs : Array Value) (h : w.heap[g]? = some (.cells cs t (0, 0))) : (w.setCell ⟨g, j, none⟩ v).heap[g]? = some (.cells (cs.setIfInBounds j v) t (0, 0)) := by
  simp [World.setCell, Array.getElem?_modify, h]
theorem Mem.setBox {w : World} (hm : Mem w0 rs w) {k g t : Nat} {cs : List Value} (hk : rs[k]? = some (.box g t cs)) (j : Nat) (v : Value) : Mem w0 (rs.set k (.box g t (cs.set j v))) (w.setCell ⟨g, j, none⟩ v) := by
  obtain ⟨hge, hc⟩ := hm.get hk
  refine hm.turn hk rfl rfl ⟨hge, ?_⟩ (hm.low.setCell (p := ⟨g, j, none⟩) hge v) (fun i hi => Below.heap_setCell w _ v i hi)
  rw [heap_set w g j v t _ hc]
  simp

def over (cs : List Value) (j : Nat) : List Value → List Value
  | [] => cs
  | v :: vs => over (cs.set j v) (j + 1) vs
theorem run_storeCells {k g t : Nat} (vs : List Value) : ∀ (j i : Nat) (cs : List Value) (rs : List Res) (w : World), Mem w0 rs w → rs[k]? = some (.box g t cs) → j + i + vs.length ≤ cs.length → (∀ v ∈ vs, one v = true) →
    ∃ w', (storeCells ⟨g, j, none⟩ vs i).run P w = .ok () w' ∧ Mem w0 (rs.set k (.box g t (over cs (j + i) vs))) w' := by
  induction vs with
  | nil =>
    intro j i cs rs w hm hk _ _
    refine ⟨w, rfl, ?_⟩
    have hlt : k < rs.length := (List.getElem?_eq_some_iff.1 hk).1
    have : rs.set k (.box g t (over cs (j + i) [])) = rs := by
      apply List.ext_getElem?
      intro m
      by_cases h : k = m
      · subst h; rw [List.getElem?_set_self hlt, hk]; rfl
      · rw [List.getElem?_set_ne h]
    rw [this]; exact hm
  | cons v vs ih =>
    intro j i cs rs w hm hk hlen hone
    have hlt : k < rs.length := (List.getElem?_eq_some_iff.1 hk).1
    have hj : j + i < cs.length := by simp at hlen; omega
    have hcell := hm.cell hk (List.getElem?_eq_getElem hj)
    have hst := run_store (P := P) hcell (hm.frozen hk) (hone v (by simp))
    have hm' := hm.setBox hk (j + i) v
    obtain ⟨w', hr, hmm⟩ := ih j (i + 1) (cs.set (j + i) v) _ _ hm' (List.getElem?_set_self hlt) (by simp at hlen ⊢; omega) (fun u hu => hone u (by simp [hu]))
    refine ⟨w', ?_, ?_⟩
    · show Sem.run P ((store ((⟨g, j, none⟩ : Addr).add i) v).bind fun _ => storeCells ⟨g, j, none⟩ vs (i + 1)) w = _
      rw [add_off, run_to hst]
      exact hr
    · rw [List.set_set] at hmm
      exact hmm
theorem a_storeb {t t' : TypeId} {x y : Operand} (k : Nat) {g j s : Nat} {cs : List Value} {v : Value} (hk : rs[k]? = some (.box g t' cs)) (hs : SzIs P t s) (ho : o.op = .store t x y) (hx : ev E x = some (.pointer (some ⟨g, j, none⟩))) (hy : ev E y = some v) (hz : v.cells.size = s) (hl : j + s ≤ cs.length) (hone : v.cells.toList.all one = true) :
    Acts P o n E w0 rs (fun _ : Unit => undef) (fun _ => rs.set k (.box g t' (over cs j v.cells.toList))) := acts_of_skip fun a w he hm => by
  obtain ⟨w', hr, hm'⟩ := run_storeCells (P := P) (t := t') v.cells.toList j 0 cs rs w hm hk (by simp [hz]; omega) (fun u hu => List.all_eq_true.1 hone u hu)
  refine ⟨w', ?_, hm'⟩
  simp only [execOp, ho, he.eval hx, he.eval hy]
  show Sem.run P ((Instr.storeAt t (.pointer (some ⟨g, j, none⟩)) v).bind fun _ => (pure Next.skip : Sem Next)) w = _
  have : (Instr.storeAt t (.pointer (some ⟨g, j, none⟩)) v).run P w = .ok () w' := by
    refine (run_to (run_size hs w)).trans ?_
    rw [if_neg (by simp [hz])]
    exact hr
  rw [run_to this]; rfl

/-- A cell of a row of one's own. -/
theorem Mem.setRow {w : World} (hm : Mem w0 rs w) {k c e sz m : Nat} {A : Option Addr} {cs : List Value} (hk : rs[k]? = some (.row A c e sz cs)) (hlt : m < cs.length) {v : Value} (hv : one v = true) :
    ∃ a, A = some a ∧ ∃ u, w.cell? (a.add m) = some u ∧ w.frozen? (a.add m) = false ∧ Mem w0 (rs.set k (.row A c e sz (cs.set m v))) (w.setCell (a.add m) v) := by
  obtain ⟨hl, h | ⟨g, off, cur, rfl, hg, hc, h1, h2⟩⟩ := hm.get hk
  · subst h; omega
  · refine ⟨_, rfl, ?_⟩
    rw [add_off]
    have hcur : off + m < cur.size := by omega
    cases c with
    | zero => omega
    | succ c =>
      refine ⟨cur[off + m], ?_, ?_, ?_⟩
      · simp only [World.cell?, hc, Option.isSome_none, Bool.false_eq_true, if_false]
        exact Array.getElem?_eq_getElem hcur
      · simp [World.frozen?, hc]
      · refine hm.turn hk rfl rfl ⟨by simpa using hl, .inr ⟨g, off, cur.setIfInBounds (off + m) v, rfl, hg, heap_set w g _ v e _ hc, by simpa using h1, ?_⟩⟩ (hm.low.setCell (p := ⟨g, off + m, none⟩) hg v) (fun i hi => Below.heap_setCell w _ v i hi)
        intro j hj
        rw [List.length_set] at hj
        by_cases hjm : m = j
        · subst hjm
          rw [List.getElem?_set_self hj, Array.getElem?_setIfInBounds_self_of_lt hcur]
        · rw [List.getElem?_set_ne hjm, Array.getElem?_setIfInBounds_ne (by omega), h2 j hj]
theorem a_store {t : TypeId} {x y : Operand} (k : Nat) {c e sz m : Nat} {A : Option Addr} {cs : List Value} {v : Value} (hk : rs[k]? = some (.row A c e sz cs)) (hs : SzIs P t 1) (ho : o.op = .store t x y) (hx : ev E x = some (.pointer (A.map (·.add m)))) (hy : ev E y = some v) (hone : one v = true) (hlt : m < cs.length) :
    Acts P o n E w0 rs (fun _ : Unit => undef) (fun _ => rs.set k (.row A c e sz (cs.set m v))) := acts_of_skip fun a w he hm => by
  obtain ⟨b, rfl, u, hcell, hfr, hm'⟩ := hm.setRow hk hlt hone
  refine ⟨_, ?_, hm'⟩
  simp only [execOp, ho, he.eval hx, he.eval hy]
  show Sem.run P ((Instr.storeAt t (.pointer (some (b.add m))) v).bind fun _ => (pure Next.skip : Sem Next)) w = _
  have hcl : v.cells = #[v] := by cases v <;> first | rfl | simp [one] at hone
  have : (Instr.storeAt t (.pointer (some (b.add m))) v).run P w = .ok () (w.setCell (b.add m) v) := by
    refine (run_to (run_size hs w)).trans ?_
    rw [hcl, if_neg (by simp)]
    show Sem.run P ((store ((b.add m).add 0) v).bind fun _ => storeCells (b.add m) [] 1) w = _
    rw [add_zero', run_to (run_store hcell hfr hone)]
    rfl
  rw [run_to this]; rfl

/-! ### new variables -/
theorem run_newRow (t : TypeId) (cs : Array Value) (w : World) : (newRow t cs).run P w = .ok ⟨w.heap.size, 0, none⟩ { w with heap := w.heap.push (.cells cs t) } := rfl
theorem Mem.newBox {w : World} (hm : Mem w0 rs w) (t : TypeId) (cs : Array Value) : Mem w0 (.box w.heap.size t cs.toList :: rs) { w with heap := w.heap.push (.cells cs t) } :=
  hm.push _ (r := .box w.heap.size t cs.toList) ⟨hm.low.size, by simp⟩ (fun g hg => by simpa [Res.blk] using hg.symm)
theorem a_box {t : TypeId} {x : Operand} {v : Value} (ho : o.op = .box t x) (hx : ev E x = some v) : Acts P o n E w0 rs (fun g : Nat => .pointer (some ⟨g, 0, none⟩)) (fun g => .box g t v.cells.toList :: rs) := acts_of_run fun a w he hm => by
  refine ⟨w.heap.size, _, ?_, hm.newBox t v.cells⟩
  simp only [execOp, ho, he.eval hx]
  rfl
theorem a_alloc {t : TypeId} {z : Value} (hz : ZeroIs P t z) (ho : o.op = .alloc t) : Acts P o n E w0 rs (fun g : Nat => .pointer (some ⟨g, 0, none⟩)) (fun g => .box g t z.cells.toList :: rs) := acts_of_run fun a w he hm => by
  refine ⟨w.heap.size, _, ?_, hm.newBox t z.cells⟩
  simp only [execOp, ho]
  have : (Instr.alloc t true (.tuple #[])).run P w = .ok (.pointer (some ⟨w.heap.size, 0, none⟩)) { w with heap := w.heap.push (.cells z.cells t) } := by
    refine (run_to (run_zero hz w)).trans ?_
    rfl
  show Sem.run P ((Instr.alloc t true (.tuple #[])).bind fun x => (pure (Next.value x) : Sem Next)) w = _
  rw [run_to this]; rfl

/-! ### calls -/
def CallOk (P : Program) (f : FuncId) : Prop := ∃ fn, P.funcs[f]? = some fn ∧ (fn.name == "runtime.NumGoroutine") = false ∧ fn.body.isNone = false
def evs (E : List (Nat × Value)) : List Operand → Option (List Value)
  | [] => some []
  | x :: l => match ev E x, evs E l with
    | some v, some vs => some (v :: vs)
    | _, _ => none
theorem evs_map {ρ : Operand → Value} (hρ : ∀ x u, ev E x = some u → ρ x = u) {l : List Operand} : ∀ {vs : List Value}, evs E l = some vs → l.map ρ = vs := by
  induction l with
  | nil => intro vs h; simp [evs] at h; simp [h]
  | cons x l ih =>
    intro vs h
    simp only [evs] at h
    cases hx : ev E x with
    | none => simp [hx] at h
    | some v =>
      cases hl : evs E l with
      | none => simp [hx, hl] at h
      | some us =>
        simp only [hx, hl, Option.some.injEq] at h
        subst h
        simp [hρ x v hx, ih hl]
theorem run_callFunc {f : FuncId} (hf : CallOk P f) (vs : Array Value) (w : World) : (callFunc f vs).run P w = .ok (.enter f vs) w := by
  obtain ⟨fn, h1, h2, h3⟩ := hf
  show Sem.run P (match P.funcs[f]? with | none => _ | some fn => _) w = _
  rw [h1]
  simp only [h2, h3, Bool.false_eq_true, if_false]
  rfl
theorem a_call {pr : Call} {f : FuncId} {l : List Operand} {vs : List Value} {α : Type} {v : α → Value} {rs' : α → List Res} (hf : CallOk P f) (ho : o.op = .call pr) (hc : pr.callee = .value (.func f)) (ha : pr.args = l.toArray) (hv : evs E l = some vs)
    (hcall : ∀ w, Mem w0 rs w → Calls P f vs.toArray w fun e w' => ∃ x, e = .returned (v x) ∧ Mem w0 (rs' x) w') : Acts P o n E w0 rs v rs' := acts_of_calls (fun a w he hm => by
  have hm := evs_map (fun x u hx => he.eval hx) hv
  have hfun : a.eval (.func f) = .func (.func f) #[] #[] := rfl
  simp only [execOp, ho, resolve, hc, ha, hfun, List.map_toArray, hm]
  show Sem.run P (callFunc f ((#[] ++ vs.toArray) ++ #[])) w = _
  rw [run_callFunc hf]
  simp) hcall
end
end Go.Proofs.YtnfaiojmabolmaaDoor.S
