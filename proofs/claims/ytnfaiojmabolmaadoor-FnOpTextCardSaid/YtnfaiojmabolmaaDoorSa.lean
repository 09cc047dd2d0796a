/- The ground of this session's own program logic: what is known of a frame's slots and of memory, and one step of an operation. It says nothing of any program. -/
import Derived.Control
import Derived.Calls
import Derived.Tactics
import Derived.OrdersHeld
import Derived.Deep.RegionHeld3
import Derived.Below
import Derived.KernelRfl
namespace Go.Proofs.YtnfaiojmabolmaaDoor.S
open Go Go.RowKit

/-! ### the slots of a frame -/
def look : List (Nat × Value) → Nat → Option Value
  | [], _ => none
  | p :: E, i => cond (Nat.beq p.1 i) (some p.2) (look E i)

def ev (E : List (Nat × Value)) : Operand → Option Value
  | .tmp t => look E t
  | .const v => some v
  | .global g => some (.pointer (some ⟨g, 0, none⟩))
  | .func f => some (.func (.func f) #[] #[])

structure EnvOk (a : Act) (n : Nat) (E : List (Nat × Value)) : Prop where
  size : a.tmps.size = n
  defers : a.defers = []
  get : ∀ i v, look E i = some v → a.tmps[i]? = some v

def putE (d : Option Nat) (v : Value) (E : List (Nat × Value)) : List (Nat × Value) :=
  match d with
  | some d => (d, v) :: E
  | none => E

def okD (d : Option Nat) (n : Nat) : Bool :=
  match d with
  | some d => Nat.blt d n
  | none => true

theorem EnvOk.put {a : Act} {n : Nat} {E : List (Nat × Value)} (h : EnvOk a n E) {d : Option Nat} (hd : okD d n = true) (v : Value) : EnvOk (a.put d v) n (putE d v E) := by
  cases d with
  | none => exact h
  | some d =>
    have hlt : d < n := by simpa [okD, Nat.blt_eq] using hd
    refine ⟨?_, ?_, ?_⟩
    · simp [Act.put, h.size]
    · simp [Act.put, h.defers]
    · intro i u hi
      simp only [putE, look] at hi
      by_cases e : d = i
      · subst e
        have hb : Nat.beq d d = true := Nat.beq_refl d
        simp only [hb, cond_true, Option.some.injEq] at hi
        subst hi
        simp [Act.put, h.size, hlt]
      · have hb : Nat.beq d i = false := by
          cases hc : Nat.beq d i with
          | false => rfl
          | true => exact absurd (Nat.eq_of_beq_eq_true hc) e
        simp only [hb, cond_false] at hi
        have := h.get i u hi
        simp only [Act.put]
        rw [Array.getElem?_setIfInBounds_ne e]
        exact this

theorem EnvOk.eval {a : Act} {n : Nat} {E : List (Nat × Value)} (h : EnvOk a n E) {x : Operand} {v : Value} (hx : ev E x = some v) : a.eval x = v := by
  cases x with
  | tmp t =>
    have := h.get t v hx
    simp only [Act.eval, Array.getD_eq_getD_getElem?, this, Option.getD_some]
  | const u => exact Option.some.inj hx
  | global g => exact Option.some.inj hx
  | func f => exact Option.some.inj hx

theorem EnvOk.weak {a : Act} {n : Nat} {E E' : List (Nat × Value)} (h : EnvOk a n E) (hs : ∀ i v, look E' i = some v → look E i = some v) : EnvOk a n E' :=
  ⟨h.size, h.defers, fun i v hi => h.get i v (hs i v hi)⟩

/-! ### memory -/
inductive Res where
  | row (A : Option Addr) (c : Nat) (e : TypeId) (sz : Nat) (cs : List Value)
  | box (g : Nat) (t : TypeId) (cs : List Value)
  | ro (A : Option Addr) (cs : List Value)

/-- The block that it owns (a row without room owns none). -/
def Res.blk : Res → Option Nat
  | .row (some a) (_ + 1) _ _ _ => some a.block
  | .row _ _ _ _ _ => none
  | .box g _ _ => some g
  | .ro _ _ => none

def Res.Ok (w0 w : World) : Res → Prop
  | .row A c e sz cs => cs.length ≤ c * sz ∧ (c = 0 ∨ ∃ g off cur, A = some ⟨g, off, none⟩ ∧ w0.heap.size ≤ g ∧ w.heap[g]? = some (.cells cur e (0, 0)) ∧ off + c * sz ≤ cur.size ∧ ∀ j : Nat, j < cs.length → cur[off + j]? = cs[j]?)
  | .box g t cs => w0.heap.size ≤ g ∧ w.heap[g]? = some (.cells cs.toArray t (0, 0))
  | .ro A cs => ∀ (j : Nat) v, cs[j]? = some v → ∃ a, A = some a ∧ w0.cell? (a.add j) = some v

def blkAt (rs : List Res) (i : Nat) : Option Nat := (rs[i]?).bind Res.blk

structure Mem (w0 : World) (rs : List Res) (w : World) : Prop where
  low : Below w0.heap.size w0 w
  ok : ∀ r ∈ rs, r.Ok w0 w
  apart : ∀ i j g, blkAt rs i = some g → blkAt rs j = some g → i = j

theorem Res.Ok.keep {w0 w w' : World} {r : Res} (h : r.Ok w0 w) (hk : ∀ g, r.blk = some g → w'.heap[g]? = w.heap[g]?) : r.Ok w0 w' := by
  cases r with
  | row A c e sz cs =>
    obtain ⟨hl, h⟩ := h
    refine ⟨hl, ?_⟩
    rcases h with h | ⟨g, off, cur, rfl, hg, hc, h1, h2⟩
    · exact .inl h
    · cases c with
      | zero => exact .inl rfl
      | succ c => exact .inr ⟨g, off, cur, rfl, hg, (hk g rfl).trans hc, h1, h2⟩
  | box g t cs => exact ⟨h.1, (hk g rfl).trans h.2⟩
  | ro A cs => exact h

theorem Res.Ok.lt {w0 w : World} {r : Res} (h : r.Ok w0 w) {g : Nat} (hg : r.blk = some g) : w0.heap.size ≤ g ∧ g < w.heap.size := by
  cases r with
  | row A c e sz cs =>
    obtain ⟨hl, h⟩ := h
    cases c with
    | zero => simp [Res.blk] at hg
    | succ c =>
      rcases h with h | ⟨g', off, cur, rfl, hge, hc, h1, h2⟩
      · simp at h
      · have : g' = g := by simpa [Res.blk] using hg
        subst this
        exact ⟨hge, (Array.getElem?_eq_some_iff.1 hc).1⟩
  | box g' t cs =>
    have : g' = g := by simpa [Res.blk] using hg
    subst this
    exact ⟨h.1, (Array.getElem?_eq_some_iff.1 h.2).1⟩
  | ro A cs => simp [Res.blk] at hg

theorem blkAt_mem {rs : List Res} {i g : Nat} (h : blkAt rs i = some g) : ∃ r, rs[i]? = some r ∧ r ∈ rs ∧ r.blk = some g := by
  unfold blkAt at h
  cases hr : rs[i]? with
  | none => simp [hr] at h
  | some r => exact ⟨r, rfl, List.mem_of_getElem? hr, by simpa [hr] using h⟩

/-- The world has turned in no block of these. -/
theorem Mem.keep {w0 w w' : World} {rs : List Res} (h : Mem w0 rs w) (hl : Below w0.heap.size w0 w') (hk : ∀ r ∈ rs, ∀ g, r.blk = some g → g < w.heap.size → w'.heap[g]? = w.heap[g]?) : Mem w0 rs w' :=
  ⟨hl, fun r hr => (h.ok r hr).keep (fun g hg => hk r hr g hg ((h.ok r hr).lt hg).2), h.apart⟩

theorem Mem.drew {w0 w : World} {rs : List Res} (h : Mem w0 rs w) : Mem w0 rs { w with drawn := w.drawn + 1 } :=
  h.keep ⟨h.low.os, h.low.tape, h.low.output, h.low.size, h.low.block⟩ (fun _ _ _ _ _ => rfl)

theorem Mem.push {w0 w : World} {rs : List Res} (h : Mem w0 rs w) (o : Obj) {r : Res} (hr : r.Ok w0 { w with heap := w.heap.push o }) (hb : ∀ g, r.blk = some g → g = w.heap.size) : Mem w0 (r :: rs) { w with heap := w.heap.push o } := by
  have hm : Mem w0 rs { w with heap := w.heap.push o } := by
    refine h.keep ?_ ?_
    · exact Below.alloc (w := w) h.low h.low.size o
    · intro _ _ g _ hg
      show (w.heap.push o)[g]? = _
      rw [Array.getElem?_push, if_neg (by omega)]
  have far : ∀ i g, blkAt rs i = some g → g < w.heap.size := fun i g hi => by
    obtain ⟨r', _, hr', hb'⟩ := blkAt_mem hi
    exact ((h.ok r' hr').lt hb').2
  refine ⟨hm.low, ?_, ?_⟩
  · intro r' hr'
    rcases List.mem_cons.1 hr' with rfl | hr'
    · exact hr
    · exact hm.ok r' hr'
  · intro i j g hi hj
    cases i with
    | zero =>
      cases j with
      | zero => rfl
      | succ j =>
        have h1 := hb g (by simpa [blkAt] using hi)
        have h2 := far j g (by simpa [blkAt] using hj)
        omega
    | succ i =>
      cases j with
      | zero =>
        have h1 := hb g (by simpa [blkAt] using hj)
        have h2 := far i g (by simpa [blkAt] using hi)
        omega
      | succ j => exact congrArg (· + 1) (h.apart i j g (by simpa [blkAt] using hi) (by simpa [blkAt] using hj))

theorem Mem.cons_none {w0 w : World} {rs : List Res} (h : Mem w0 rs w) {r : Res} (hr : r.Ok w0 w) (hb : r.blk = none) : Mem w0 (r :: rs) w := by
  refine ⟨h.low, fun r' hr' => by rcases List.mem_cons.1 hr' with rfl | hr'; exact hr; exact h.ok r' hr', ?_⟩
  intro i j g hi hj
  cases i with
  | zero => simp [blkAt, hb] at hi
  | succ i =>
    cases j with
    | zero => simp [blkAt, hb] at hj
    | succ j => exact congrArg (· + 1) (h.apart i j g (by simpa [blkAt] using hi) (by simpa [blkAt] using hj))

/-- Some of the first m, in another order, and what lies behind these. -/
def picks (rs : List Res) (m : Nat) (idx : List Nat) : List Res := idx.map (fun i => rs.getD i (.ro none [])) ++ rs.drop m

theorem blkAt_picks {rs : List Res} {m : Nat} {idx : List Nat} {k g : Nat} (h : blkAt (picks rs m idx) k = some g) :
    (∃ i, idx[k]? = some i ∧ blkAt rs i = some g) ∨ (idx.length ≤ k ∧ blkAt rs (m + (k - idx.length)) = some g) := by
  unfold blkAt picks at h
  by_cases hk : k < idx.length
  · rw [List.getElem?_append_left (by simpa using hk), List.getElem?_map] at h
    left
    refine ⟨idx[k], by simp [hk], ?_⟩
    simp only [List.getElem?_eq_getElem hk, Option.map_some, Option.bind_some] at h
    unfold blkAt
    rw [List.getD_eq_getElem?_getD] at h
    cases hr : rs[idx[k]]? with
    | none => simp [hr, Res.blk] at h
    | some r => simpa [hr] using h
  · right
    refine ⟨by omega, ?_⟩
    rw [List.getElem?_append_right (by simp; omega), List.getElem?_drop] at h
    simpa [blkAt] using h

def pickOk (m : Nat) : List Nat → Bool
  | [] => true
  | i :: l => Nat.blt i m && (!l.any (fun j => Nat.beq i j)) && pickOk m l

theorem pickOk_lt {m : Nat} {l : List Nat} (h : pickOk m l = true) : ∀ k i : Nat, l[k]? = some i → i < m := by
  induction l with
  | nil => intro k i hk; simp at hk
  | cons x l ih =>
    simp only [pickOk, Bool.and_eq_true] at h
    intro k i hk
    cases k with
    | zero => simp at hk; subst hk; simpa using h.1.1
    | succ k => exact ih h.2 k i (by simpa using hk)

theorem pickOk_inj {m : Nat} {l : List Nat} (h : pickOk m l = true) : ∀ k k' i : Nat, l[k]? = some i → l[k']? = some i → k = k' := by
  induction l with
  | nil => intro k k' i hk; simp at hk
  | cons x l ih =>
    simp only [pickOk, Bool.and_eq_true, Bool.not_eq_true', List.any_eq_false] at h
    have hx : ∀ k : Nat, l[k]? = some x → False := fun k hk => by
      have := h.1.2 x (List.mem_of_getElem? hk)
      simp at this
    intro k k' i hk hk'
    cases k with
    | zero =>
      cases k' with
      | zero => rfl
      | succ k' =>
        simp at hk; subst hk
        exact (hx k' (by simpa using hk')).elim
    | succ k =>
      cases k' with
      | zero =>
        simp at hk'; subst hk'
        exact (hx k (by simpa using hk)).elim
      | succ k' => exact congrArg (· + 1) (ih h.2 k k' i (by simpa using hk) (by simpa using hk'))

theorem Mem.pick {w0 w : World} {rs : List Res} (h : Mem w0 rs w) (m : Nat) (idx : List Nat) (hi : pickOk m idx = true) : Mem w0 (picks rs m idx) w := by
  refine ⟨h.low, ?_, ?_⟩
  · intro r hr
    unfold picks at hr
    rcases List.mem_append.1 hr with hr | hr
    · obtain ⟨i, _, rfl⟩ := List.mem_map.1 hr
      rw [List.getD_eq_getElem?_getD]
      cases hx : rs[i]? with
      | none => exact fun j v hj => by simp at hj
      | some r => exact h.ok r (List.mem_of_getElem? hx)
    · exact h.ok r (List.mem_of_mem_drop hr)
  · intro i j g hgi hgj
    rcases blkAt_picks hgi with ⟨a, ha, hga⟩ | ⟨hli, hga⟩ <;> rcases blkAt_picks hgj with ⟨b, hb, hgb⟩ | ⟨hlj, hgb⟩
    · have := h.apart a b g hga hgb
      subst this
      exact pickOk_inj hi _ _ _ ha hb
    · have := h.apart a _ g hga hgb
      have := pickOk_lt hi _ _ ha
      omega
    · have := h.apart _ b g hga hgb
      have := pickOk_lt hi _ _ hb
      omega
    · have := h.apart _ _ g hga hgb
      omega

end Go.Proofs.YtnfaiojmabolmaaDoor.S
