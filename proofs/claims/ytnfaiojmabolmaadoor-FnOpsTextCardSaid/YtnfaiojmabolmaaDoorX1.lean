/- Several texts in one: The ground of this session's own program logic: what is known of a frame's slots and of memory, and one step of an operation. It says nothing of any program. The judgement J of this session's program logic, and its rules for the forms of code. It says nothing of any program. The rules of this session's program logic for a region that draws its order. It says nothing of any program. One lemma for each kind of operation that only reckons: arithmetic, tests, strings, parts of values, addresses. It says nothing of any program. One lemma for each kind of operation that reads or turns memory, and for a call. It says nothing of any program. One lemma for each operation that makes a row: a literal, make, append; cuts of rows and of strings; a struct's value. It says nothing of any program. One lemma for make, for append, for cuts of rows and of strings, for a struct's value. It says nothing of any program. Where a function is entered and left; rows whose cells are numbers, bools, strings. It says nothing of any program. The words that the generator's texts use: decisions read off a pure function's value, and the operations at typed rows. It says nothing of any program. More rules of this session's program logic: a loop taken round by round; values of functions. It says nothing of any program. More operations: function values with what they hold, unsigned words, copies into rows, rows of operations. It says nothing of any program. Values of three numbers compared. It says nothing of any program. Operations of the text functions: a table that is a package's variable, numbers as bytes, bytes as text. It says nothing of any program. -/
import Derived.Control
import Derived.Calls
import Derived.Tactics
import Derived.OrdersHeld
import Derived.Deep.RegionHeld3
import Derived.Below
import Derived.KernelRfl
import Derived.RowKit
import Derived.IntWalk
namespace Go.Proofs.YtnfaiojmabolmaaDoor.S
open Go Go.RowKit

/-! ### the slots of a frame -/
def look : List (Nat × Value) → Nat → Option Value
  | [], _ => none
  | p :: E, i => cond (Nat.beq p.1 i) (some p.2) (look E i)

def ev (E : List (Nat × Value)) : Operand → Option Value
  | .tmp t => look E t
  | .const v => some v
  | .global g => some (.pointer (some ⟨g, 0, none⟩))
  | .func f => some (.func (.func f) #[] #[])

structure EnvOk (a : Act) (n : Nat) (E : List (Nat × Value)) : Prop where
  size : a.tmps.size = n
  defers : a.defers = []
  get : ∀ i v, look E i = some v → a.tmps[i]? = some v

def putE (d : Option Nat) (v : Value) (E : List (Nat × Value)) : List (Nat × Value) :=
  match d with
  | some d => (d, v) :: E
  | none => E

def okD (d : Option Nat) (n : Nat) : Bool :=
  match d with
  | some d => Nat.blt d n
  | none => true

theorem EnvOk.put {a : Act} {n : Nat} {E : List (Nat × Value)} (h : EnvOk a n E) {d : Option Nat} (hd : okD d n = true) (v : Value) : EnvOk (a.put d v) n (putE d v E) := by
  cases d with
  | none => exact h
  | some d =>
    have hlt : d < n := by simpa [okD, Nat.blt_eq] using hd
    refine ⟨?_, ?_, ?_⟩
    · simp [Act.put, h.size]
    · simp [Act.put, h.defers]
    · intro i u hi
      simp only [putE, look] at hi
      by_cases e : d = i
      · subst e
        have hb : Nat.beq d d = true := Nat.beq_refl d
        simp only [hb, cond_true, Option.some.injEq] at hi
        subst hi
        simp [Act.put, h.size, hlt]
      · have hb : Nat.beq d i = false := by
          cases hc : Nat.beq d i with
          | false => rfl
          | true => exact absurd (Nat.eq_of_beq_eq_true hc) e
        simp only [hb, cond_false] at hi
        have := h.get i u hi
        simp only [Act.put]
        rw [Array.getElem?_setIfInBounds_ne e]
        exact this

theorem EnvOk.eval {a : Act} {n : Nat} {E : List (Nat × Value)} (h : EnvOk a n E) {x : Operand} {v : Value} (hx : ev E x = some v) : a.eval x = v := by
  cases x with
  | tmp t =>
    have := h.get t v hx
    simp only [Act.eval, Array.getD_eq_getD_getElem?, this, Option.getD_some]
  | const u => exact Option.some.inj hx
  | global g => exact Option.some.inj hx
  | func f => exact Option.some.inj hx

theorem EnvOk.weak {a : Act} {n : Nat} {E E' : List (Nat × Value)} (h : EnvOk a n E) (hs : ∀ i v, look E' i = some v → look E i = some v) : EnvOk a n E' :=
  ⟨h.size, h.defers, fun i v hi => h.get i v (hs i v hi)⟩

/-! ### memory -/
inductive Res where
  | row (A : Option Addr) (c : Nat) (e : TypeId) (sz : Nat) (cs : List Value)
  | box (g : Nat) (t : TypeId) (cs : List Value)
  | ro (A : Option Addr) (cs : List Value)

/-- The block that it owns (a row without room owns none). -/
def Res.blk : Res → Option Nat
  | .row (some a) (_ + 1) _ _ _ => some a.block
  | .row _ _ _ _ _ => none
  | .box g _ _ => some g
  | .ro _ _ => none

def Res.Ok (w0 w : World) : Res → Prop
  | .row A c e sz cs => cs.length ≤ c * sz ∧ (c = 0 ∨ ∃ g off cur, A = some ⟨g, off, none⟩ ∧ w0.heap.size ≤ g ∧ w.heap[g]? = some (.cells cur e (0, 0)) ∧ off + c * sz ≤ cur.size ∧ ∀ j : Nat, j < cs.length → cur[off + j]? = cs[j]?)
  | .box g t cs => w0.heap.size ≤ g ∧ w.heap[g]? = some (.cells cs.toArray t (0, 0))
  | .ro A cs => ∀ (j : Nat) v, cs[j]? = some v → ∃ a, A = some a ∧ w0.cell? (a.add j) = some v

def blkAt (rs : List Res) (i : Nat) : Option Nat := (rs[i]?).bind Res.blk

structure Mem (w0 : World) (rs : List Res) (w : World) : Prop where
  low : Below w0.heap.size w0 w
  ok : ∀ r ∈ rs, r.Ok w0 w
  apart : ∀ i j g, blkAt rs i = some g → blkAt rs j = some g → i = j

theorem Res.Ok.keep {w0 w w' : World} {r : Res} (h : r.Ok w0 w) (hk : ∀ g, r.blk = some g → w'.heap[g]? = w.heap[g]?) : r.Ok w0 w' := by
  cases r with
  | row A c e sz cs =>
    obtain ⟨hl, h⟩ := h
    refine ⟨hl, ?_⟩
    rcases h with h | ⟨g, off, cur, rfl, hg, hc, h1, h2⟩
    · exact .inl h
    · cases c with
      | zero => exact .inl rfl
      | succ c => exact .inr ⟨g, off, cur, rfl, hg, (hk g rfl).trans hc, h1, h2⟩
  | box g t cs => exact ⟨h.1, (hk g rfl).trans h.2⟩
  | ro A cs => exact h

theorem Res.Ok.lt {w0 w : World} {r : Res} (h : r.Ok w0 w) {g : Nat} (hg : r.blk = some g) : w0.heap.size ≤ g ∧ g < w.heap.size := by
  cases r with
  | row A c e sz cs =>
    obtain ⟨hl, h⟩ := h
    cases c with
    | zero => simp [Res.blk] at hg
    | succ c =>
      rcases h with h | ⟨g', off, cur, rfl, hge, hc, h1, h2⟩
      · simp at h
      · have : g' = g := by simpa [Res.blk] using hg
        subst this
        exact ⟨hge, (Array.getElem?_eq_some_iff.1 hc).1⟩
  | box g' t cs =>
    have : g' = g := by simpa [Res.blk] using hg
    subst this
    exact ⟨h.1, (Array.getElem?_eq_some_iff.1 h.2).1⟩
  | ro A cs => simp [Res.blk] at hg

theorem blkAt_mem {rs : List Res} {i g : Nat} (h : blkAt rs i = some g) : ∃ r, rs[i]? = some r ∧ r ∈ rs ∧ r.blk = some g := by
  unfold blkAt at h
  cases hr : rs[i]? with
  | none => simp [hr] at h
  | some r => exact ⟨r, rfl, List.mem_of_getElem? hr, by simpa [hr] using h⟩

/-- The world has turned in no block of these. -/
theorem Mem.keep {w0 w w' : World} {rs : List Res} (h : Mem w0 rs w) (hl : Below w0.heap.size w0 w') (hk : ∀ r ∈ rs, ∀ g, r.blk = some g → g < w.heap.size → w'.heap[g]? = w.heap[g]?) : Mem w0 rs w' :=
  ⟨hl, fun r hr => (h.ok r hr).keep (fun g hg => hk r hr g hg ((h.ok r hr).lt hg).2), h.apart⟩

theorem Mem.drew {w0 w : World} {rs : List Res} (h : Mem w0 rs w) : Mem w0 rs { w with drawn := w.drawn + 1 } :=
  h.keep ⟨h.low.os, h.low.tape, h.low.output, h.low.size, h.low.block⟩ (fun _ _ _ _ _ => rfl)

theorem Mem.push {w0 w : World} {rs : List Res} (h : Mem w0 rs w) (o : Obj) {r : Res} (hr : r.Ok w0 { w with heap := w.heap.push o }) (hb : ∀ g, r.blk = some g → g = w.heap.size) : Mem w0 (r :: rs) { w with heap := w.heap.push o } := by
  have hm : Mem w0 rs { w with heap := w.heap.push o } := by
    refine h.keep ?_ ?_
    · exact Below.alloc (w := w) h.low h.low.size o
    · intro _ _ g _ hg
      show (w.heap.push o)[g]? = _
      rw [Array.getElem?_push, if_neg (by omega)]
  have far : ∀ i g, blkAt rs i = some g → g < w.heap.size := fun i g hi => by
    obtain ⟨r', _, hr', hb'⟩ := blkAt_mem hi
    exact ((h.ok r' hr').lt hb').2
  refine ⟨hm.low, ?_, ?_⟩
  · intro r' hr'
    rcases List.mem_cons.1 hr' with rfl | hr'
    · exact hr
    · exact hm.ok r' hr'
  · intro i j g hi hj
    cases i with
    | zero =>
      cases j with
      | zero => rfl
      | succ j =>
        have h1 := hb g (by simpa [blkAt] using hi)
        have h2 := far j g (by simpa [blkAt] using hj)
        omega
    | succ i =>
      cases j with
      | zero =>
        have h1 := hb g (by simpa [blkAt] using hj)
        have h2 := far i g (by simpa [blkAt] using hi)
        omega
      | succ j => exact congrArg (· + 1) (h.apart i j g (by simpa [blkAt] using hi) (by simpa [blkAt] using hj))

theorem Mem.cons_none {w0 w : World} {rs : List Res} (h : Mem w0 rs w) {r : Res} (hr : r.Ok w0 w) (hb : r.blk = none) : Mem w0 (r :: rs) w := by
  refine ⟨h.low, fun r' hr' => by rcases List.mem_cons.1 hr' with rfl | hr'; exact hr; exact h.ok r' hr', ?_⟩
  intro i j g hi hj
  cases i with
  | zero => simp [blkAt, hb] at hi
  | succ i =>
    cases j with
    | zero => simp [blkAt, hb] at hj
    | succ j => exact congrArg (· + 1) (h.apart i j g (by simpa [blkAt] using hi) (by simpa [blkAt] using hj))

/-- Some of the first m, in another order, and what lies behind these. -/
def picks (rs : List Res) (m : Nat) (idx : List Nat) : List Res := idx.map (fun i => rs.getD i (.ro none [])) ++ rs.drop m

theorem blkAt_picks {rs : List Res} {m : Nat} {idx : List Nat} {k g : Nat} (h : blkAt (picks rs m idx) k = some g) :
    (∃ i, idx[k]? = some i ∧ blkAt rs i = some g) ∨ (idx.length ≤ k ∧ blkAt rs (m + (k - idx.length)) = some g) := by
  unfold blkAt picks at h
  by_cases hk : k < idx.length
  · rw [List.getElem?_append_left (by simpa using hk), List.getElem?_map] at h
    left
    refine ⟨idx[k], by simp [hk], ?_⟩
    simp only [List.getElem?_eq_getElem hk, Option.map_some, Option.bind_some] at h
    unfold blkAt
    rw [List.getD_eq_getElem?_getD] at h
    cases hr : rs[idx[k]]? with
    | none => simp [hr, Res.blk] at h
    | some r => simpa [hr] using h
  · right
    refine ⟨by omega, ?_⟩
    rw [List.getElem?_append_right (by simp; omega), List.getElem?_drop] at h
    simpa [blkAt] using h

def pickOk (m : Nat) : List Nat → Bool
  | [] => true
  | i :: l => Nat.blt i m && (!l.any (fun j => Nat.beq i j)) && pickOk m l

theorem pickOk_lt {m : Nat} {l : List Nat} (h : pickOk m l = true) : ∀ k i : Nat, l[k]? = some i → i < m := by
  induction l with
  | nil => intro k i hk; simp at hk
  | cons x l ih =>
    simp only [pickOk, Bool.and_eq_true] at h
    intro k i hk
    cases k with
    | zero => simp at hk; subst hk; simpa using h.1.1
    | succ k => exact ih h.2 k i (by simpa using hk)

theorem pickOk_inj {m : Nat} {l : List Nat} (h : pickOk m l = true) : ∀ k k' i : Nat, l[k]? = some i → l[k']? = some i → k = k' := by
  induction l with
  | nil => intro k k' i hk; simp at hk
  | cons x l ih =>
    simp only [pickOk, Bool.and_eq_true, Bool.not_eq_true', List.any_eq_false] at h
    have hx : ∀ k : Nat, l[k]? = some x → False := fun k hk => by
      have := h.1.2 x (List.mem_of_getElem? hk)
      simp at this
    intro k k' i hk hk'
    cases k with
    | zero =>
      cases k' with
      | zero => rfl
      | succ k' =>
        simp at hk; subst hk
        exact (hx k' (by simpa using hk')).elim
    | succ k =>
      cases k' with
      | zero =>
        simp at hk'; subst hk'
        exact (hx k (by simpa using hk)).elim
      | succ k' => exact congrArg (· + 1) (ih h.2 k k' i (by simpa using hk) (by simpa using hk'))

theorem Mem.pick {w0 w : World} {rs : List Res} (h : Mem w0 rs w) (m : Nat) (idx : List Nat) (hi : pickOk m idx = true) : Mem w0 (picks rs m idx) w := by
  refine ⟨h.low, ?_, ?_⟩
  · intro r hr
    unfold picks at hr
    rcases List.mem_append.1 hr with hr | hr
    · obtain ⟨i, _, rfl⟩ := List.mem_map.1 hr
      rw [List.getD_eq_getElem?_getD]
      cases hx : rs[i]? with
      | none => exact fun j v hj => by simp at hj
      | some r => exact h.ok r (List.mem_of_getElem? hx)
    · exact h.ok r (List.mem_of_mem_drop hr)
  · intro i j g hgi hgj
    rcases blkAt_picks hgi with ⟨a, ha, hga⟩ | ⟨hli, hga⟩ <;> rcases blkAt_picks hgj with ⟨b, hb, hgb⟩ | ⟨hlj, hgb⟩
    · have := h.apart a b g hga hgb
      subst this
      exact pickOk_inj hi _ _ _ ha hb
    · have := h.apart a _ g hga hgb
      have := pickOk_lt hi _ _ ha
      omega
    · have := h.apart _ b g hga hgb
      have := pickOk_lt hi _ _ hb
      omega
    · have := h.apart _ _ g hga hgb
      omega

end Go.Proofs.YtnfaiojmabolmaaDoor.S
namespace Go.Proofs.YtnfaiojmabolmaaDoor.S
open Go Go.RowKit
set_option linter.unusedVariables false
set_option linter.unusedSimpArgs false

/-- Whoever holds these slots and this memory comes to K. -/
def J (K : Act → World → Prop) (n : Nat) (E : List (Nat × Value)) (w0 : World) (rs : List Res) : Prop :=
  ∀ a w, EnvOk a n E → Mem w0 rs w → K a w

section
variable {K : Act → World → Prop} {n : Nat} {E : List (Nat × Value)} {w0 : World} {rs : List Res} {P : Program} {Q : Exit → Act → World → Prop}

theorem J.imp {K' : Act → World → Prop} (h : J K n E w0 rs) (hk : ∀ a w, K a w → K' a w) : J K' n E w0 rs := fun a w he hm => hk a w (h a w he hm)

/-- A fact that memory tells. -/
theorem j_fact {p : Prop} (hp : ∀ w, Mem w0 rs w → p) (h : p → J K n E w0 rs) : J K n E w0 rs := fun a w he hm => h (hp w hm) a w he hm
theorem j_pick (m : Nat) (idx : List Nat) (hi : pickOk m idx = true) (h : J K n E w0 (picks rs m idx)) : J K n E w0 rs := fun a w he hm => h a w he (hm.pick m idx hi)
/-- Memory told otherwise. -/
theorem j_rs (rs' : List Res) (hp : ∀ w, Mem w0 rs w → Mem w0 rs' w) (h : J K n E w0 rs') : J K n E w0 rs := fun a w he hm => h a w he (hp w hm)
theorem j_nil (e sz : Nat) (h : J K n E w0 (.row none 0 e sz [] :: rs)) : J K n E w0 rs := fun a w he hm =>
  h a w he (hm.cons_none ⟨Nat.zero_le _, .inl rfl⟩ rfl)
/-- Slots are forgotten but for these. -/
def keepE (E : List (Nat × Value)) : List Nat → List (Nat × Value)
  | [] => []
  | i :: l => match look E i with
    | some v => (i, v) :: keepE E l
    | none => keepE E l
theorem look_keepE {E : List (Nat × Value)} {l : List Nat} {i : Nat} {v : Value} (h : look (keepE E l) i = some v) : look E i = some v := by
  induction l with
  | nil => simp [keepE, look] at h
  | cons x l ih =>
    unfold keepE at h
    cases hx : look E x with
    | none => rw [hx] at h; exact ih h
    | some u =>
      rw [hx] at h
      simp only [look] at h
      cases hb : Nat.beq x i with
      | true =>
        have := Nat.eq_of_beq_eq_true hb
        subst this
        simp only [hb, cond_true] at h
        rw [hx, h]
      | false => simp only [hb, cond_false] at h; exact ih h
theorem j_keep (l : List Nat) (h : J K n (keepE E l) w0 rs) : J K n E w0 rs := fun a w he hm => h a w (he.weak fun _ _ hi => look_keepE hi) hm

/-- Slots told otherwise. -/
def subE (E : List (Nat × Value)) : List (Nat × Value) → Prop
  | [] => True
  | p :: l => look E p.1 = some p.2 ∧ subE E l
theorem subE_look {E E' : List (Nat × Value)} (h : subE E E') : ∀ i v, look E' i = some v → look E i = some v := by
  induction E' with
  | nil => intro i v hi; simp [look] at hi
  | cons p l ih =>
    intro i v hi
    simp only [look] at hi
    cases hb : Nat.beq p.1 i with
    | true =>
      have := Nat.eq_of_beq_eq_true hb
      subst this
      simp only [hb, cond_true, Option.some.injEq] at hi
      subst hi
      exact h.1
    | false => simp only [hb, cond_false] at hi; exact ih h.2 i v hi
theorem EnvOk.sub {a : Act} {E E' : List (Nat × Value)} (he : EnvOk a n E) (h : subE E E') : EnvOk a n E' := he.weak (subE_look h)
theorem j_env (E' : List (Nat × Value)) (hs : subE E E') (h : J K n E' w0 rs) : J K n E w0 rs := fun a w he hm => h a w (he.sub hs) hm

/-! ### code -/
theorem j_seq {x y : Code} (h : J (x.wp P (Exit.then (y.wp P Q) Q)) n E w0 rs) : J ((Code.seq x y).wp P Q) n E w0 rs := h.imp fun _ _ => wp_seq
theorem j_skip (h : J (Q .normal) n E w0 rs) : J (Code.skip.wp P Q) n E w0 rs := h.imp fun _ _ => wp_skip
theorem j_exit {id : Nat} (h : J (Q (.exit id)) n E w0 rs) : J ((Code.exit id).wp P Q) n E w0 rs := h.imp fun _ _ => wp_exit
theorem j_ret (h : J (Q .ret) n E w0 rs) : J (Code.ret.wp P Q) n E w0 rs := h.imp fun _ _ => wp_ret
theorem j_block {id : Nat} {c : Code} (h : J (c.wp P (Exit.inBlock id Q)) n E w0 rs) : J ((Code.block id c).wp P Q) n E w0 rs := h.imp fun _ _ => wp_block
theorem j_true {c : Operand} {x y : Code} {b : Bool} (hc : ev E c = some (.bool b)) (hb : b = true) (h : J (x.wp P Q) n E w0 rs) : J ((Code.cond c x y).wp P Q) n E w0 rs :=
  fun a w he hm => wp_cond_true (by rw [he.eval hc, hb]) (h a w he hm)
theorem j_false {c : Operand} {x y : Code} {b : Bool} (hc : ev E c = some (.bool b)) (hb : b = false) (h : J (y.wp P Q) n E w0 rs) : J ((Code.cond c x y).wp P Q) n E w0 rs :=
  fun a w he hm => wp_cond_false (by rw [he.eval hc, hb]) (h a w he hm)
/-- What stands behind an exit. -/
theorem j_then {next : Act → World → Prop} (h : J next n E w0 rs) : J (Exit.then next Q .normal) n E w0 rs := h
theorem j_then_exit {next : Act → World → Prop} {id : Nat} (h : J (Q (.exit id)) n E w0 rs) : J (Exit.then next Q (.exit id)) n E w0 rs := h
theorem j_then_ret {next : Act → World → Prop} (h : J (Q .ret) n E w0 rs) : J (Exit.then next Q .ret) n E w0 rs := h
theorem j_in {id : Nat} (h : J (Q .normal) n E w0 rs) : J (Exit.inBlock id Q .normal) n E w0 rs := h
theorem j_in_ret {id : Nat} (h : J (Q .ret) n E w0 rs) : J (Exit.inBlock id Q .ret) n E w0 rs := h
theorem j_in_exit {id : Nat} (h : J (Q .normal) n E w0 rs) : J (Exit.inBlock id Q (.exit id)) n E w0 rs := fun a w he hm => by
  show (if id = id then _ else _)
  rw [if_pos rfl]; exact h a w he hm
theorem j_in_far {id i : Nat} (hne : i ≠ id) (h : J (Q (.exit i)) n E w0 rs) : J (Exit.inBlock id Q (.exit i)) n E w0 rs := fun a w he hm => by
  show (if i = id then _ else _)
  rw [if_neg hne]; exact h a w he hm

/-- A loop with a number of rounds that goes down. -/
theorem wp_loop_down {c : Code} (I : Nat → Act → World → Prop) (round : ∀ m a w, I m a w → c.wp P (Exit.then (fun a' w' => ∃ m', m' < m ∧ I m' a' w') Q) a w) {m : Nat} {a : Act} {w : World} (h0 : I m a w) : (Code.loop c).wp P Q a w := by
  classical
  have least : ∀ (p : Nat → Prop), (∃ m, p m) → ∃ m, p m ∧ ∀ k, p k → m ≤ k := by
    intro p ⟨m, hm⟩
    induction m using Nat.strongRecOn with
    | _ m ih =>
      by_cases h : ∃ k, k < m ∧ p k
      · obtain ⟨k, hk, hp⟩ := h
        exact ih k hk hp
      · exact ⟨m, hm, fun k hk => by
          rcases Nat.lt_or_ge k m with hlt | hge
          · exact absurd ⟨k, hlt, hk⟩ h
          · exact hge⟩
  let μ : Act → World → Nat := fun a w => if h : ∃ m, I m a w then (least _ h).choose else 0
  refine wp_loop (fun a w => ∃ m, I m a w) μ ⟨m, h0⟩ ?_
  intro a w hI
  have hs := (least _ hI).choose_spec
  have hmu : μ a w = (least _ hI).choose := by simp only [μ, dif_pos hI]
  refine wp_mono (round _ a w hs.1) ?_
  intro e a' w' he
  cases e with
  | normal =>
    obtain ⟨m', hlt, hI'⟩ := he
    have hex : ∃ m, I m a' w' := ⟨m', hI'⟩
    refine ⟨hex, ?_⟩
    have hs' := (least _ hex).choose_spec
    have hmu' : μ a' w' = (least _ hex).choose := by simp only [μ, dif_pos hex]
    rw [hmu, hmu']
    exact Nat.lt_of_le_of_lt (hs'.2 m' hI') hlt
  | exit id => exact he
  | goto l => exact he
  | ret => exact he
  | panic ch => exact he
  | outgrown => exact he

/-- The head of a loop: what is held there is a function of letters σ; H bears the pure side. -/
def Head {σ : Type} (n : Nat) (w0 : World) (Es : σ → List (Nat × Value)) (Rs : σ → List Res) (H : Nat → σ → Prop) (m : Nat) (a : Act) (w : World) : Prop :=
  ∃ s, H m s ∧ EnvOk a n (Es s) ∧ Mem w0 (Rs s) w

theorem j_loop {σ : Type} {c : Code} (Es : σ → List (Nat × Value)) (Rs : σ → List Res) (H : Nat → σ → Prop) (m : Nat) (s : σ) (h0 : H m s)
    (hE : ∀ a, EnvOk a n E → EnvOk a n (Es s)) (hR : ∀ w, Mem w0 rs w → Mem w0 (Rs s) w)
    (round : ∀ m s, H m s → J (c.wp P (Exit.then (fun a' w' => ∃ m', m' < m ∧ Head n w0 Es Rs H m' a' w') Q)) n (Es s) w0 (Rs s)) : J ((Code.loop c).wp P Q) n E w0 rs := fun a w he hm =>
  wp_loop_down (Head n w0 Es Rs H) (fun m a w ⟨s, hs, he, hm⟩ => round m s hs a w he hm) (m := m) ⟨s, h0, hE a he, hR w hm⟩

theorem j_again {σ : Type} {Es : σ → List (Nat × Value)} {Rs : σ → List Res} {H : Nat → σ → Prop} {m : Nat} (m' : Nat) (s : σ) (hlt : m' < m) (h0 : H m' s)
    (hE : ∀ a, EnvOk a n E → EnvOk a n (Es s)) (hR : ∀ w, Mem w0 rs w → Mem w0 (Rs s) w) : J (fun a' w' => ∃ m', m' < m ∧ Head n w0 Es Rs H m' a' w') n E w0 rs := fun a w he hm =>
  ⟨m', hlt, s, h0, hE a he, hR w hm⟩

/-- Where ways meet: what is held there. -/
theorem j_cut {σ : Type} {c : Code} (Es : σ → List (Nat × Value)) (Rs : σ → List Res) (H : σ → Prop)
    (h : J (c.wp P (Exit.then (fun a w => ∃ s, H s ∧ EnvOk a n (Es s) ∧ Mem w0 (Rs s) w) Q)) n E w0 rs)
    (next : ∀ s, H s → J (Q .normal) n (Es s) w0 (Rs s)) : J (c.wp P Q) n E w0 rs := h.imp fun a w hw => wp_mono hw (fun e a' w' he => by
  cases e with
  | normal => obtain ⟨s, hs, hE, hM⟩ := he; exact next s hs a' w' hE hM
  | exit id => exact he
  | goto l => exact he
  | ret => exact he
  | panic ch => exact he
  | outgrown => exact he)
theorem j_meet {σ : Type} {Es : σ → List (Nat × Value)} {Rs : σ → List Res} {H : σ → Prop} (s : σ) (hs : H s)
    (hE : ∀ a, EnvOk a n E → EnvOk a n (Es s)) (hR : ∀ w, Mem w0 rs w → Mem w0 (Rs s) w) : J (fun a w => ∃ s, H s ∧ EnvOk a n (Es s) ∧ Mem w0 (Rs s) w) n E w0 rs := fun a w he hm =>
  ⟨s, hs, hE a he, hR w hm⟩

/-! ### one operation -/
/-- It leaves v in its slot, and nothing else. -/
def Quiet (P : Program) (o : Oper) (n : Nat) (E : List (Nat × Value)) (w0 : World) (rs : List Res) (v : Value) : Prop :=
  ∀ a w, EnvOk a n E → Mem w0 rs w → (execOp a.eval o).run P w = .ok (.value v) w

/-- It comes to v x and memory rs' x, for some x. -/
def Acts (P : Program) (o : Oper) (n : Nat) (E : List (Nat × Value)) (w0 : World) (rs : List Res) {α : Type} (v : α → Value) (rs' : α → List Res) : Prop :=
  ∀ a w, EnvOk a n E → Mem w0 rs w → ∀ (next : Act → World → Prop) (Q : Exit → Act → World → Prop),
    (∀ x w', Mem w0 (rs' x) w' → next (a.put o.dst (v x)) w') → o.wp P a w next Q

theorem Quiet.acts {o : Oper} {v : Value} (h : Quiet P o n E w0 rs v) : Acts P o n E w0 rs (fun _ : Unit => v) (fun _ => rs) := fun a w he hm next Q hn => by
  unfold Oper.wp
  rw [h a w he hm]
  exact hn () w hm

theorem acts_of_run {o : Oper} {α : Type} {v : α → Value} {rs' : α → List Res} (h : ∀ a w, EnvOk a n E → Mem w0 rs w → ∃ x w', (execOp a.eval o).run P w = .ok (.value (v x)) w' ∧ Mem w0 (rs' x) w') : Acts P o n E w0 rs v rs' := fun a w he hm next Q hn => by
  obtain ⟨x, w', hr, hm'⟩ := h a w he hm
  unfold Oper.wp
  rw [hr]
  exact hn x w' hm'

theorem acts_of_skip {o : Oper} {rs' : List Res} (h : ∀ a w, EnvOk a n E → Mem w0 rs w → ∃ w', (execOp a.eval o).run P w = .ok .skip w' ∧ Mem w0 rs' w') : Acts P o n E w0 rs (fun _ : Unit => undef) (fun _ => rs') := fun a w he hm next Q hn => by
  obtain ⟨w', hr, hm'⟩ := h a w he hm
  unfold Oper.wp
  rw [hr]
  exact hn () w' hm'

theorem acts_of_calls {o : Oper} {α : Type} {v : α → Value} {rs' : α → List Res} {f : FuncId} {vs : Array Value} (hr : ∀ a w, EnvOk a n E → Mem w0 rs w → (execOp a.eval o).run P w = .ok (.enter f vs) w)
    (hc : ∀ w, Mem w0 rs w → Calls P f vs w fun e w' => ∃ x, e = .returned (v x) ∧ Mem w0 (rs' x) w') : Acts P o n E w0 rs v rs' := fun a w he hm next Q hn => by
  unfold Oper.wp
  rw [hr a w he hm]
  refine Calls.mono (hc w hm) ?_
  rintro e w' ⟨x, rfl, hm'⟩
  exact hn x w' hm'

/-! ### a region in the text's order -/
def Rg (P : Program) (ops : Array Oper) (Q : Exit → Act → World → Prop) (l : List Oper) (a : Act) (w : World) : Prop := wpList P ops Q l a w

theorem j_region {id : Nat} {l : List Oper} (h : J (Rg P l.toArray Q l) n E w0 rs) : J ((Code.region id l.toArray false).wp P Q) n E w0 rs := h.imp fun _ _ => wp_region_lit
theorem r_nil {ops : Array Oper} (h : J (Q .normal) n E w0 rs) : J (Rg P ops Q []) n E w0 rs := h

variable {ops : Array Oper} {l : List Oper} {o : Oper}
theorem r_do {α : Type} {v : α → Value} {rs' : α → List Res} (ha : Acts P o n E w0 rs v rs') (hg : o.guard = none) (hd : okD o.dst n = true)
    (h : ∀ x, J (Rg P ops Q l) n (putE o.dst (v x) E) w0 (rs' x)) : J (Rg P ops Q (o :: l)) n E w0 rs := fun a w he hm =>
  wpList_plain hg fun K hK => ha a w he hm K Q fun x w' hm' => hK _ _ (h x _ _ (he.put hd _) hm')
theorem r_q {v : Value} (ha : Quiet P o n E w0 rs v) (hg : o.guard = none) (hd : okD o.dst n = true)
    (h : J (Rg P ops Q l) n (putE o.dst v E) w0 rs) : J (Rg P ops Q (o :: l)) n E w0 rs := r_do ha.acts hg hd fun _ => h

/-- A guard: the slot of the operation that it asks. -/
theorem wanted_of {a : Act} {j : Nat} {want b : Bool} {d : Nat} {oj : Oper} (he : EnvOk a n E) (hg : o.guard = some (j, want)) (hj : ops[j]? = some oj) (hd : oj.dst = some d) (hb : look E d = some (.bool b)) : Region.wanted o (yielded ops a.tmps) = (b == want) := by
  have ht : a.tmps[d]? = some (.bool b) := he.get d _ hb
  simp only [Region.wanted, hg]
  simp [yielded, hj, hd, ht]
theorem r_on {α : Type} {v : α → Value} {rs' : α → List Res} (ha : Acts P o n E w0 rs v rs') {j : Nat} {want b : Bool} {d : Nat} {oj : Oper} (hg : o.guard = some (j, want)) (hj : ops[j]? = some oj) (hdj : oj.dst = some d) (hb : look E d = some (.bool b)) (hw : b = want) (hd : okD o.dst n = true)
    (h : ∀ x, J (Rg P ops Q l) n (putE o.dst (v x) E) w0 (rs' x)) : J (Rg P ops Q (o :: l)) n E w0 rs := fun a w he hm =>
  wpList_step fun K hK => by
    rw [wanted_of he hg hj hdj hb, hw]
    simp only [BEq.rfl, if_true]
    exact ha a w he hm K Q fun x w' hm' => hK _ _ (h x _ _ (he.put hd _) hm')
theorem r_qon {v : Value} (ha : Quiet P o n E w0 rs v) {j : Nat} {want b : Bool} {d : Nat} {oj : Oper} (hg : o.guard = some (j, want)) (hj : ops[j]? = some oj) (hdj : oj.dst = some d) (hb : look E d = some (.bool b)) (hw : b = want) (hd : okD o.dst n = true)
    (h : J (Rg P ops Q l) n (putE o.dst v E) w0 rs) : J (Rg P ops Q (o :: l)) n E w0 rs := r_on ha.acts hg hj hdj hb hw hd fun _ => h
theorem r_off {j : Nat} {want b : Bool} {d : Nat} {oj : Oper} (hg : o.guard = some (j, want)) (hj : ops[j]? = some oj) (hdj : oj.dst = some d) (hb : look E d = some (.bool b)) (hw : b = !want) (hd : okD o.dst n = true)
    (h : J (Rg P ops Q l) n (putE o.dst undef E) w0 rs) : J (Rg P ops Q (o :: l)) n E w0 rs := fun a w he hm =>
  wpList_step fun K hK => by
    rw [wanted_of he hg hj hdj hb, hw]
    have : ((!want) == want) = false := by cases want <;> rfl
    rw [this]
    exact hK _ _ (h _ _ (he.put hd _) hm)
end
end Go.Proofs.YtnfaiojmabolmaaDoor.S
namespace Go.Proofs.YtnfaiojmabolmaaDoor.S
open Go Go.RowKit
set_option linter.unusedVariables false
section
variable {n : Nat} {E : List (Nat × Value)} {w0 : World} {rs : List Res} {P : Program} {Q : Exit → Act → World → Prop} {ops : Array Oper} {S : List Res}

/-- Whatever of the region comes up next; what S tells stands all the while. -/
def Dr (P : Program) (ops : Array Oper) (Q : Exit → Act → World → Prop) (w0 : World) (S : List Res) (fuel : Nat) (listed : Array Bool) (a : Act) (w : World) : Prop :=
  wpAnyH P .any ops Q (Mem w0 S) fuel listed a w
/-- Number i comes up. -/
def One (P : Program) (ops : Array Oper) (Q : Exit → Act → World → Prop) (w0 : World) (S : List Res) (fuel : Nat) (listed : Array Bool) (i : Nat) (a : Act) (w : World) : Prop :=
  wpOp P ops Q i (fun a' w' => Mem w0 S w' ∧ wpAnyH P .any ops Q (Mem w0 S) fuel (listed.setIfInBounds i true) a' w') a w

theorem j_draw {id : Nat} (S : List Res) (m : Nat) (hm : P.follows .mixedOrders = true) (hs : ops.size = m) (h : J (Dr P ops (NoPanic Q) w0 S m (Array.replicate m false)) n E w0 rs) : J ((Code.region id ops true).wp P Q) n E w0 rs := fun a w he hmem =>
  wp_region_noPanic (wp_region_held (S := Mem w0 S) hm (by subst hs; exact h a _ he hmem.drew))

theorem d_done {fuel : Nat} {listed : Array Bool} (hr : Region.ready .any ops listed = []) (h : J (Q .normal) n E w0 rs) : J (Dr P ops (NoPanic Q) w0 S fuel listed) n E w0 rs := fun a w he hm =>
  wpAnyH_done (Q := NoPanic Q) hr (h a w he hm) fuel

theorem d_take {fuel : Nat} {listed : Array Bool} (i : Nat) {oi : Oper} {v : Value} (hi : ops[i]? = some oi) (hq : Quiet P oi n E w0 S v) (hg : oi.guard = none) (hd : okD oi.dst n = true) (hs : Region.noSelect ops = true)
    (hf : Region.free .any ops listed i = true) (hr : (Region.ready .any ops listed).contains i = true) (hsub : ∀ w, Mem w0 rs w → Mem w0 S w)
    (h : J (Dr P ops (NoPanic Q) w0 S fuel (listed.setIfInBounds i true)) n (putE oi.dst v E) w0 rs) : J (Dr P ops (NoPanic Q) w0 S (fuel + 1) listed) n E w0 rs := fun a w he hm =>
  wpAnyH_take hi hs hf hr (fun _ _ _ h => h) (.inl ⟨by simp [Region.wanted, hg], fun w' hw' => hq a w' he hw'⟩) (hsub w hm) (h _ w (he.put hd v) hm)

theorem d_take_on {fuel : Nat} {listed : Array Bool} (i : Nat) {oi : Oper} {v : Value} (hi : ops[i]? = some oi) (hq : Quiet P oi n E w0 S v) {j : Nat} {want b : Bool} {d : Nat} {oj : Oper} (hg : oi.guard = some (j, want)) (hj : ops[j]? = some oj) (hdj : oj.dst = some d) (hb : look E d = some (.bool b)) (hw : b = want)
    (hd : okD oi.dst n = true) (hs : Region.noSelect ops = true)
    (hf : Region.free .any ops listed i = true) (hr : (Region.ready .any ops listed).contains i = true) (hsub : ∀ w, Mem w0 rs w → Mem w0 S w)
    (h : J (Dr P ops (NoPanic Q) w0 S fuel (listed.setIfInBounds i true)) n (putE oi.dst v E) w0 rs) : J (Dr P ops (NoPanic Q) w0 S (fuel + 1) listed) n E w0 rs := fun a w he hm =>
  wpAnyH_take hi hs hf hr (fun _ _ _ h => h) (.inl ⟨by rw [wanted_of he hg hj hdj hb, hw]; simp, fun w' hw' => hq a w' he hw'⟩) (hsub w hm) (h _ w (he.put hd v) hm)

theorem d_take_off {fuel : Nat} {listed : Array Bool} (i : Nat) {oi : Oper} (hi : ops[i]? = some oi) {j : Nat} {want b : Bool} {d : Nat} {oj : Oper} (hg : oi.guard = some (j, want)) (hj : ops[j]? = some oj) (hdj : oj.dst = some d) (hb : look E d = some (.bool b)) (hw : b = !want)
    (hd : okD oi.dst n = true) (hs : Region.noSelect ops = true)
    (hf : Region.free .any ops listed i = true) (hr : (Region.ready .any ops listed).contains i = true) (hsub : ∀ w, Mem w0 rs w → Mem w0 S w)
    (h : J (Dr P ops (NoPanic Q) w0 S fuel (listed.setIfInBounds i true)) n (putE oi.dst undef E) w0 rs) : J (Dr P ops (NoPanic Q) w0 S (fuel + 1) listed) n E w0 rs := fun a w he hm =>
  wpAnyH_take hi hs hf hr (fun _ _ _ h => h) (.inr ⟨by rw [wanted_of he hg hj hdj hb, hw]; cases want <;> rfl, rfl⟩) (hsub w hm) (h _ w (he.put hd undef) hm)

theorem d_one {fuel : Nat} {listed : Array Bool} (i : Nat) (hr : Region.ready .any ops listed = [i]) (h : J (One P ops (NoPanic Q) w0 S fuel listed i) n E w0 rs) : J (Dr P ops (NoPanic Q) w0 S (fuel + 1) listed) n E w0 rs := fun a w he hm =>
  wpAnyH_all hr (by simp) (fun k hk => by
    have : k = i := by simpa using hk
    subst this
    exact h a w he hm)
theorem d_two {fuel : Nat} {listed : Array Bool} (i j : Nat) (hr : Region.ready .any ops listed = [i, j]) (h : J (One P ops (NoPanic Q) w0 S fuel listed i) n E w0 rs) (h' : J (One P ops (NoPanic Q) w0 S fuel listed j) n E w0 rs) : J (Dr P ops (NoPanic Q) w0 S (fuel + 1) listed) n E w0 rs := fun a w he hm =>
  wpAnyH_all hr (by simp) (fun k hk => by
    have : k = i ∨ k = j := by simpa using hk
    rcases this with rfl | rfl
    · exact h a w he hm
    · exact h' a w he hm)
theorem d_three {fuel : Nat} {listed : Array Bool} (i j m : Nat) (hr : Region.ready .any ops listed = [i, j, m]) (h : J (One P ops (NoPanic Q) w0 S fuel listed i) n E w0 rs) (h' : J (One P ops (NoPanic Q) w0 S fuel listed j) n E w0 rs) (h'' : J (One P ops (NoPanic Q) w0 S fuel listed m) n E w0 rs) : J (Dr P ops (NoPanic Q) w0 S (fuel + 1) listed) n E w0 rs := fun a w he hm =>
  wpAnyH_all hr (by simp) (fun k hk => by
    have : k = i ∨ k = j ∨ k = m := by simpa using hk
    rcases this with rfl | rfl | rfl
    · exact h a w he hm
    · exact h' a w he hm
    · exact h'' a w he hm)

theorem o_do {fuel : Nat} {listed : Array Bool} {i : Nat} {o : Oper} {α : Type} {v : α → Value} {rs' : α → List Res} (hi : ops[i]? = some o) (ha : Acts P o n E w0 rs v rs') (hg : o.guard = none) (hd : okD o.dst n = true)
    (hsub : ∀ x w, Mem w0 (rs' x) w → Mem w0 S w)
    (h : ∀ x, J (Dr P ops Q w0 S fuel (listed.setIfInBounds i true)) n (putE o.dst (v x) E) w0 (rs' x)) : J (One P ops Q w0 S fuel listed i) n E w0 rs := fun a w he hm => by
  unfold One wpOp
  simp only [hi]
  rw [if_pos (by simp [Region.wanted, hg])]
  exact .inl (ha a w he hm _ _ fun x w' hm' => ⟨hsub x w' hm', h x _ _ (he.put hd _) hm'⟩)
theorem o_on {fuel : Nat} {listed : Array Bool} {i : Nat} {o : Oper} {α : Type} {v : α → Value} {rs' : α → List Res} (hi : ops[i]? = some o) (ha : Acts P o n E w0 rs v rs') {j : Nat} {want b : Bool} {d : Nat} {oj : Oper} (hg : o.guard = some (j, want)) (hj : ops[j]? = some oj) (hdj : oj.dst = some d) (hb : look E d = some (.bool b)) (hw : b = want)
    (hd : okD o.dst n = true) (hsub : ∀ x w, Mem w0 (rs' x) w → Mem w0 S w)
    (h : ∀ x, J (Dr P ops Q w0 S fuel (listed.setIfInBounds i true)) n (putE o.dst (v x) E) w0 (rs' x)) : J (One P ops Q w0 S fuel listed i) n E w0 rs := fun a w he hm => by
  unfold One wpOp
  simp only [hi]
  rw [if_pos (by rw [wanted_of he hg hj hdj hb, hw]; simp)]
  exact .inl (ha a w he hm _ _ fun x w' hm' => ⟨hsub x w' hm', h x _ _ (he.put hd _) hm'⟩)
theorem o_off {fuel : Nat} {listed : Array Bool} {i : Nat} {o : Oper} (hi : ops[i]? = some o) {j : Nat} {want b : Bool} {d : Nat} {oj : Oper} (hg : o.guard = some (j, want)) (hj : ops[j]? = some oj) (hdj : oj.dst = some d) (hb : look E d = some (.bool b)) (hw : b = !want)
    (hd : okD o.dst n = true) (hsub : ∀ w, Mem w0 rs w → Mem w0 S w)
    (h : J (Dr P ops Q w0 S fuel (listed.setIfInBounds i true)) n (putE o.dst undef E) w0 rs) : J (One P ops Q w0 S fuel listed i) n E w0 rs := fun a w he hm => by
  unfold One wpOp
  simp only [hi]
  rw [if_neg (by rw [wanted_of he hg hj hdj hb, hw]; cases want <;> simp)]
  exact ⟨hsub w hm, h _ _ (he.put hd _) hm⟩
end
end Go.Proofs.YtnfaiojmabolmaaDoor.S
namespace Go.Proofs.YtnfaiojmabolmaaDoor.S
open Go Go.RowKit
set_option linter.unusedVariables false
set_option linter.unusedSimpArgs false
section
variable {n : Nat} {E : List (Nat × Value)} {w0 : World} {rs : List Res} {P : Program} {o : Oper}

theorem i64_wrap (n : Int) : IntKind.i64.wrap n = wrap64 n := IntWalk.i64_left n

theorem Quiet.mk {v : Value} (h : ∀ (ρ : Operand → Value) w, (∀ x u, ev E x = some u → ρ x = u) → Mem w0 rs w → (execOp ρ o).run P w = .ok (.value v) w) : Quiet P o n E w0 rs v :=
  fun a w he hm => h a.eval w (fun _ _ hx => he.eval hx) hm

theorem q_move {x : Operand} {v : Value} (ho : o.op = .move x) (hx : ev E x = some v) : Quiet P o n E w0 rs v := .mk fun ρ w h hm => by
  simp only [execOp, ho, h _ _ hx]; rfl
theorem q_assign {x : Operand} {v : Value} (ho : o.op = .assign x) (hx : ev E x = some v) : Quiet P o n E w0 rs v := .mk fun ρ w h hm => by
  simp only [execOp, ho, h _ _ hx]; rfl

theorem q_pick_t {c x y : Operand} {b : Bool} {v : Value} (ho : o.op = .pick c x y) (hc : ev E c = some (.bool b)) (hb : b = true) (hx : ev E x = some v) : Quiet P o n E w0 rs v := .mk fun ρ w h hm => by
  subst hb
  simp only [execOp, ho, h _ _ hc, h _ _ hx]; rfl
theorem q_pick_f {c x y : Operand} {b : Bool} {v : Value} (ho : o.op = .pick c x y) (hc : ev E c = some (.bool b)) (hb : b = false) (hy : ev E y = some v) : Quiet P o n E w0 rs v := .mk fun ρ w h hm => by
  subst hb
  simp only [execOp, ho, h _ _ hc, h _ _ hy]; rfl

section ints
variable {t t' : TypeId} {x y : Operand} {p q : Int}
theorem q_add (ho : o.op = .binOp .add t x y t') (hx : ev E x = some (.int .i64 p)) (hy : ev E y = some (.int .i64 q)) : Quiet P o n E w0 rs (.int .i64 (wrap64 (p + q))) := .mk fun ρ w h hm => by
  simp only [execOp, ho, h _ _ hx, h _ _ hy]; rw [← i64_wrap]; rfl
theorem q_sub (ho : o.op = .binOp .sub t x y t') (hx : ev E x = some (.int .i64 p)) (hy : ev E y = some (.int .i64 q)) : Quiet P o n E w0 rs (.int .i64 (wrap64 (p - q))) := .mk fun ρ w h hm => by
  simp only [execOp, ho, h _ _ hx, h _ _ hy]; rw [← i64_wrap]; rfl
theorem q_mul (ho : o.op = .binOp .mul t x y t') (hx : ev E x = some (.int .i64 p)) (hy : ev E y = some (.int .i64 q)) : Quiet P o n E w0 rs (.int .i64 (wrap64 (p * q))) := .mk fun ρ w h hm => by
  simp only [execOp, ho, h _ _ hx, h _ _ hy]; rw [← i64_wrap]; rfl
theorem intDiv_quo {k : IntKind} (hq : q ≠ 0) : Op.intDiv .quo k p q = pure (.int k (k.wrap (p.tdiv q))) := by simp [Op.intDiv, hq]
theorem intDiv_rem {k : IntKind} (hq : q ≠ 0) : Op.intDiv .rem k p q = pure (.int k (p.tmod q)) := by simp [Op.intDiv, hq]
theorem binOp_quo : binOp .quo t (.int .i64 p) (.int .i64 q) = Op.intDiv .quo .i64 p q := rfl
theorem binOp_rem : binOp .rem t (.int .i64 p) (.int .i64 q) = Op.intDiv .rem .i64 p q := rfl
theorem q_quo (ho : o.op = .binOp .quo t x y t') (hx : ev E x = some (.int .i64 p)) (hy : ev E y = some (.int .i64 q)) (hq : q ≠ 0) : Quiet P o n E w0 rs (.int .i64 (wrap64 (p.tdiv q))) := .mk fun ρ w h hm => by
  simp only [execOp, ho, h _ _ hx, h _ _ hy, binOp_quo, intDiv_quo hq]; rw [← i64_wrap]; rfl
theorem q_rem (ho : o.op = .binOp .rem t x y t') (hx : ev E x = some (.int .i64 p)) (hy : ev E y = some (.int .i64 q)) (hq : q ≠ 0) : Quiet P o n E w0 rs (.int .i64 (p.tmod q)) := .mk fun ρ w h hm => by
  simp only [execOp, ho, h _ _ hx, h _ _ hy, binOp_rem, intDiv_rem hq]; rfl
/-- Exclusive or of two words. -/
def xor64 (p q : Int) : Int := wrap64 ((BitVec.ofInt 64 p ^^^ BitVec.ofInt 64 q).toNat)
theorem q_xor (ho : o.op = .binOp .xor t x y t') (hx : ev E x = some (.int .i64 p)) (hy : ev E y = some (.int .i64 q)) : Quiet P o n E w0 rs (.int .i64 (xor64 p q)) := .mk fun ρ w h hm => by
  simp only [execOp, ho, h _ _ hx, h _ _ hy, xor64]; rw [← i64_wrap]; rfl
variable {k : IntKind}
theorem binOp_eql : binOp .eql t (.int k p) (.int k q) = pure (.bool (p == q)) := by simp [binOp, Op.intCmp]
theorem binOp_neq : binOp .neq t (.int k p) (.int k q) = pure (.bool (p != q)) := by simp [binOp, Op.intCmp]
theorem binOp_lss : binOp .lss t (.int k p) (.int k q) = pure (.bool (decide (p < q))) := by simp [binOp, Op.intCmp]
theorem binOp_leq : binOp .leq t (.int k p) (.int k q) = pure (.bool (decide (p ≤ q))) := by simp [binOp, Op.intCmp]
theorem binOp_gtr : binOp .gtr t (.int k p) (.int k q) = pure (.bool (decide (p > q))) := by simp [binOp, Op.intCmp]
theorem binOp_geq : binOp .geq t (.int k p) (.int k q) = pure (.bool (decide (p ≥ q))) := by simp [binOp, Op.intCmp]
theorem q_eql (ho : o.op = .binOp .eql t x y t') (hx : ev E x = some (.int k p)) (hy : ev E y = some (.int k q)) : Quiet P o n E w0 rs (.bool (p == q)) := .mk fun ρ w h hm => by
  simp only [execOp, ho, h _ _ hx, h _ _ hy, binOp_eql]; rfl
theorem q_neq (ho : o.op = .binOp .neq t x y t') (hx : ev E x = some (.int k p)) (hy : ev E y = some (.int k q)) : Quiet P o n E w0 rs (.bool (p != q)) := .mk fun ρ w h hm => by
  simp only [execOp, ho, h _ _ hx, h _ _ hy, binOp_neq]; rfl
theorem q_lss (ho : o.op = .binOp .lss t x y t') (hx : ev E x = some (.int k p)) (hy : ev E y = some (.int k q)) : Quiet P o n E w0 rs (.bool (decide (p < q))) := .mk fun ρ w h hm => by
  simp only [execOp, ho, h _ _ hx, h _ _ hy, binOp_lss]; rfl
theorem q_leq (ho : o.op = .binOp .leq t x y t') (hx : ev E x = some (.int k p)) (hy : ev E y = some (.int k q)) : Quiet P o n E w0 rs (.bool (decide (p ≤ q))) := .mk fun ρ w h hm => by
  simp only [execOp, ho, h _ _ hx, h _ _ hy, binOp_leq]; rfl
theorem q_gtr (ho : o.op = .binOp .gtr t x y t') (hx : ev E x = some (.int k p)) (hy : ev E y = some (.int k q)) : Quiet P o n E w0 rs (.bool (decide (p > q))) := .mk fun ρ w h hm => by
  simp only [execOp, ho, h _ _ hx, h _ _ hy, binOp_gtr]; rfl
theorem q_geq (ho : o.op = .binOp .geq t x y t') (hx : ev E x = some (.int k p)) (hy : ev E y = some (.int k q)) : Quiet P o n E w0 rs (.bool (decide (p ≥ q))) := .mk fun ρ w h hm => by
  simp only [execOp, ho, h _ _ hx, h _ _ hy, binOp_geq]; rfl
end ints

section bools
variable {t t' : TypeId} {x y : Operand} {b c : Bool}
theorem q_not (ho : o.op = .unOp .not t x) (hx : ev E x = some (.bool b)) : Quiet P o n E w0 rs (.bool (!b)) := .mk fun ρ w h hm => by
  simp only [execOp, ho, h _ _ hx]; rfl
theorem q_neg {p : Int} (ho : o.op = .unOp .neg t x) (hx : ev E x = some (.int .i64 p)) : Quiet P o n E w0 rs (.int .i64 (wrap64 (0 - p))) := .mk fun ρ w h hm => by
  simp only [execOp, ho, h _ _ hx]; rw [← i64_wrap]; rfl
end bools

/-! ### pieces of a run -/
theorem run_bind {α β : Type} (m : Sem α) (f : α → Sem β) (w : World) : (m.bind f).run P w = match m.run P w with
    | .ok v w' => (f v).run P w'
    | .halt h w' => .halt h w' := by
  induction m generalizing w with
  | pure a => rfl
  | load m a k ih =>
    simp only [Sem.bind, Sem.run]
    split
    · exact ih _ _
    · split
      · exact ih _ _
      · rfl
  | store m a v k ih =>
    cases v <;> simp only [Sem.bind, Sem.run] <;> first | rfl | (split <;> first | (split <;> first | rfl | exact ih _) | exact ih _)
  | new o k ih => simp only [Sem.bind, Sem.run]; exact ih _ _
  | shape r k ih => simp only [Sem.bind, Sem.run]; exact ih _ _
  | freeze a n k ih => simp only [Sem.bind, Sem.run]; exact ih _
  | frozen a k ih => simp only [Sem.bind, Sem.run]; exact ih _ _
  | getObj r k ih => simp only [Sem.bind, Sem.run]; split <;> first | rfl | exact ih _ _
  | setObj r o k ih => simp only [Sem.bind, Sem.run]; split <;> first | rfl | exact ih _
  | choose q k ih => simp only [Sem.bind, Sem.run]; split <;> exact ih _ _
  | sys c k ih => simp only [Sem.bind, Sem.run]; exact ih _ _
  | program k ih => simp only [Sem.bind, Sem.run]; exact ih _ _
  | mark m k ih => simp only [Sem.bind, Sem.run]; exact ih _
  | halt h => rfl
theorem run_to {α β : Type} {m : Sem α} {f : α → Sem β} {w w' : World} {v : α} (h : m.run P w = .ok v w') : (m.bind f).run P w = (f v).run P w' := by rw [run_bind, h]

def SzIs (P : Program) (t s : Nat) : Prop := (P.info? t).map (·.size) = some s
def aggDesc : TypeDesc → Bool
  | .struct _ | .array _ _ => true
  | _ => false
def AggIs (P : Program) (t : Nat) (b : Bool) : Prop := (P.underlying t).map aggDesc = some b
def ZeroIs (P : Program) (t : Nat) (v : Value) : Prop := (P.info? t).bind (·.zero) = some v
def BytesIs (P : Program) (t b : Nat) : Prop := (P.info? t).map (·.bytes) = some b
def fieldDesc (j : Nat) : TypeDesc → Option (Nat × Nat)
  | .struct fs => (fs[j]?).map fun f => (f.type, f.offset)
  | _ => none
def FieldIs (P : Program) (t j ft off : Nat) : Prop := (P.underlying t).bind (fieldDesc j) = some (ft, off)

theorem run_info {t : Nat} {i : TypeInfo} (h : P.info? t = some i) (w : World) : (typeInfo t).run P w = .ok i w := by
  show Sem.run P (match P.info? t with | some i => pure i | none => stuck _) w = _
  rw [h]; rfl
theorem run_size {t s : Nat} (h : SzIs P t s) (w : World) : (sizeOf t).run P w = .ok s w := by
  unfold SzIs at h
  cases hi : P.info? t with
  | none => simp [hi] at h
  | some i =>
    rw [hi] at h
    have hs : i.size = s := by simpa using h
    show Sem.run P ((typeInfo t).bind fun i => pure i.size) w = _
    rw [run_to (run_info hi w)]
    rw [hs]; rfl
theorem run_zero {t : Nat} {v : Value} (h : ZeroIs P t v) (w : World) : (zeroValue t).run P w = .ok v w := by
  unfold ZeroIs at h
  cases hi : P.info? t with
  | none => simp [hi] at h
  | some i =>
    rw [hi] at h
    have hs : i.zero = some v := by simpa using h
    show Sem.run P ((typeInfo t).bind fun i => match i.zero with | some v => pure v | none => unsupported _) w = _
    rw [run_to (run_info hi w)]
    rw [hs]; rfl
theorem run_underlying {t : TypeId} {u : TypeDesc} (hu : P.underlying t = some u) (w : World) : (underlying t).run P w = .ok u w := by
  show Sem.run P (match P.underlying t with | some d => pure d | none => stuck _) w = _
  rw [hu]; rfl
theorem run_isAgg {t : Nat} {b : Bool} (h : AggIs P t b) (w : World) : (isAgg t).run P w = .ok b w := by
  unfold AggIs at h
  cases hu : P.underlying t with
  | none => simp [hu] at h
  | some u =>
    rw [hu] at h
    have hb : aggDesc u = b := by simpa using h
    show Sem.run P ((underlying t).bind fun u => match u with | .struct _ | .array _ _ => pure true | _ => pure false) w = _
    rw [run_to (run_underlying hu w), ← hb]
    cases u <;> rfl

/-- An operation that hands on what s comes to. -/
theorem Quiet.of {v : Value} (s : (Operand → Value) → Sem Value) (hs : ∀ ρ, execOp ρ o = (s ρ).bind fun x => pure (.value x))
    (h : ∀ (ρ : Operand → Value) w, (∀ x u, ev E x = some u → ρ x = u) → Mem w0 rs w → (s ρ).run P w = .ok v w) : Quiet P o n E w0 rs v := .mk fun ρ w hρ hm => by
  rw [hs, run_to (h ρ w hρ hm)]; rfl

section bools
variable {t t' : TypeId} {x y : Operand} {b c : Bool}
theorem run_equal_bool (hu : P.underlying t = some .bool) (w : World) : (Op.equal t (.bool b) (.bool c)).run P w = .ok (b == c) w := by
  show Sem.run P (Op.equalIn (9999 + 1) t (.bool b) (.bool c)) w = _
  unfold Op.equalIn
  refine (run_to (run_underlying hu w)).trans ?_
  rfl
theorem q_beql (hu : P.underlying t = some .bool) (ho : o.op = .binOp .eql t x y t') (hx : ev E x = some (.bool b)) (hy : ev E y = some (.bool c)) : Quiet P o n E w0 rs (.bool (b == c)) := .of (fun ρ => do eqGuard .eql t x y (ρ x) (ρ y); binOp .eql t (ρ x) (ρ y)) (fun ρ => by simp only [execOp, ho]; rfl) fun ρ w h hm => by
  simp only [h _ _ hx, h _ _ hy]
  show Sem.run P ((Op.equal t (.bool b) (.bool c)).bind fun r => (pure (Value.bool r) : Sem Value)) w = _
  rw [run_to (run_equal_bool hu w)]; rfl
theorem q_bneq (hu : P.underlying t = some .bool) (ho : o.op = .binOp .neq t x y t') (hx : ev E x = some (.bool b)) (hy : ev E y = some (.bool c)) : Quiet P o n E w0 rs (.bool (b != c)) := .of (fun ρ => do eqGuard .neq t x y (ρ x) (ρ y); binOp .neq t (ρ x) (ρ y)) (fun ρ => by simp only [execOp, ho]; rfl) fun ρ w h hm => by
  simp only [h _ _ hx, h _ _ hy]
  show Sem.run P ((Op.equal t (.bool b) (.bool c)).bind fun r => (pure (Value.bool (!r)) : Sem Value)) w = _
  rw [run_to (run_equal_bool hu w)]; rfl
end bools

section conv
variable {x : Operand} {p : Int}
theorem q_int {s d : TypeId} {k : IntKind} {u : TypeDesc} (hs : P.underlying s = some u) (hd : P.underlying d = some (.int .i64)) (ho : o.op = .convert s d x) (hx : ev E x = some (.int k p)) : Quiet P o n E w0 rs (.int .i64 (wrap64 p)) := .of (fun ρ => convert s d (ρ x)) (fun ρ => by simp only [execOp, ho]; rfl) fun ρ w h hm => by
  simp only [h _ _ hx]
  refine (run_to (run_underlying hs w)).trans ?_
  refine (run_to (run_underlying hd w)).trans ?_
  rw [← i64_wrap]
  cases u <;> rfl
end conv

section strings
variable {t t' : TypeId} {x y : Operand} {a b : ByteArray}
theorem q_sadd (ho : o.op = .binOp .add t x y t') (hx : ev E x = some (.string a)) (hy : ev E y = some (.string b)) (hl : a.size + b.size ≤ 9223372036854775807) : Quiet P o n E w0 rs (.string (a ++ b)) := .of (fun ρ => do eqGuard .add t x y (ρ x) (ρ y); binOp .add t (ρ x) (ρ y)) (fun ρ => by simp only [execOp, ho]; rfl) fun ρ w h hm => by
  simp only [h _ _ hx, h _ _ hy]
  show Sem.run P (if ((a.size + b.size : Nat) : Int) > IntKind.i64.max then unsupported _ else (pure (Value.string (a ++ b)) : Sem Value)) w = _
  rw [if_neg (by show ¬ _ > (9223372036854775807 : Int); omega)]; rfl
theorem q_seql (ho : o.op = .binOp .eql t x y t') (hx : ev E x = some (.string a)) (hy : ev E y = some (.string b)) : Quiet P o n E w0 rs (.bool (a.toList == b.toList)) := .of (fun ρ => do eqGuard .eql t x y (ρ x) (ρ y); binOp .eql t (ρ x) (ρ y)) (fun ρ => by simp only [execOp, ho]; rfl) fun ρ w h hm => by
  simp only [h _ _ hx, h _ _ hy]; rfl
theorem q_sneq (ho : o.op = .binOp .neq t x y t') (hx : ev E x = some (.string a)) (hy : ev E y = some (.string b)) : Quiet P o n E w0 rs (.bool (!(a.toList == b.toList))) := .of (fun ρ => do eqGuard .neq t x y (ρ x) (ρ y); binOp .neq t (ρ x) (ρ y)) (fun ρ => by simp only [execOp, ho]; rfl) fun ρ w h hm => by
  simp only [h _ _ hx, h _ _ hy]; rfl
/-- A byte of a string. -/
def sbt (s : ByteArray) (i : Int) : Int := ((s[i.toNat]?).getD 0).toNat
theorem q_sindex {i : Int} {k : IntKind} (hu : P.underlying t = some .string) (ho : o.op = .index t x y) (hx : ev E x = some (.string a)) (hy : ev E y = some (.int k i)) (h0 : 0 ≤ i) (h1 : i < a.size) : Quiet P o n E w0 rs (.int .u8 (sbt a i)) := .of (fun ρ => Instr.index t (ρ x) (ρ y)) (fun ρ => by simp only [execOp, ho]; rfl) fun ρ w h hm => by
  simp only [h _ _ hx, h _ _ hy]
  show Sem.run P ((underlying t).bind _) w = _
  refine (run_to (run_underlying hu w)).trans ?_
  have hlt : i.toNat < a.size := by omega
  have hs : a[i.toNat]? = some a[i.toNat] := getElem?_pos a i.toNat hlt
  show Sem.run P (match (if 0 ≤ i then a[i.toNat]? else none) with | some b => (pure (Value.int .u8 b.toNat) : Sem Value) | none => _) w = _
  rw [if_pos h0, hs]
  simp only [sbt, hs, Option.getD_some]
  rfl
theorem q_len_str {pr : Call} (ho : o.op = .call pr) (hc : pr.callee = .builtin .len) (ha : pr.args = #[x]) (ht : pr.argTypes = #[t]) (hu : P.underlying t = some .string) (hx : ev E x = some (.string a)) : Quiet P o n E w0 rs (.int .i64 a.size) := .of (fun ρ => Builtin.len_ pr.argTypes o.type #[ρ x]) (fun ρ => by simp only [execOp, ho, resolve, hc, ha, List.map_toArray, List.map_cons, List.map_nil]; rfl) fun ρ w h hm => by
  simp only [h _ _ hx, ht]
  refine (run_to (run_underlying hu w)).trans ?_
  rfl
end strings

section parts
variable {t : TypeId} {x y : Operand}
theorem q_len_sl {pr : Call} {e : TypeId} {A : Option Addr} {m c : Nat} (ho : o.op = .call pr) (hc : pr.callee = .builtin .len) (ha : pr.args = #[x]) (ht : pr.argTypes = #[t]) (hu : P.underlying t = some (.slice e)) (hx : ev E x = some (.slice A m c)) : Quiet P o n E w0 rs (.int .i64 m) := .of (fun ρ => Builtin.len_ pr.argTypes o.type #[ρ x]) (fun ρ => by simp only [execOp, ho, resolve, hc, ha, List.map_toArray, List.map_cons, List.map_nil]; rfl) fun ρ w h hm => by
  simp only [h _ _ hx, ht]
  refine (run_to (run_underlying hu w)).trans ?_
  rfl
theorem q_extract {vs : Array Value} {i : Nat} {v : Value} (ho : o.op = .extract x i) (hx : ev E x = some (.tuple vs)) (hi : vs[i]? = some v) : Quiet P o n E w0 rs v := .of (fun ρ => Instr.extract (ρ x) i) (fun ρ => by simp only [execOp, ho]; rfl) fun ρ w h hm => by
  simp only [h _ _ hx, Instr.extract, hi]; rfl
theorem run_part {ft off : Nat} {cs : Array Value} {v : Value} (hg : AggIs P ft false) (hv : cs[off]? = some v) (w : World) : (part ft cs off).run P w = .ok v w := by
  refine (run_to (run_isAgg hg w)).trans ?_
  simp only [hv]; rfl
theorem run_part_agg {ft off s : Nat} {cs : Array Value} (hg : AggIs P ft true) (hs : SzIs P ft s) (w : World) : (part ft cs off).run P w = .ok (.agg (cs.extract off (off + s))) w := by
  refine (run_to (run_isAgg hg w)).trans ?_
  refine (run_to (run_size hs w)).trans ?_
  rfl
theorem run_field {j ft off : Nat} {cs : Array Value} (hf : FieldIs P t j ft off) (w : World) : (Instr.field t (.agg cs) j).run P w = (part ft cs off).run P w := by
  unfold FieldIs at hf
  cases hu : P.underlying t with
  | none => simp [hu] at hf
  | some u =>
    rw [hu] at hf
    refine (run_to (run_underlying hu w)).trans ?_
    cases u <;> simp only [Option.bind_some, fieldDesc, reduceCtorEq] at hf
    rename_i fs
    cases hj : fs[j]? with
    | none => simp [hj] at hf
    | some f =>
      simp only [hj, Option.map_some, Option.some.injEq, Prod.mk.injEq] at hf
      obtain ⟨rfl, rfl⟩ := hf
      simp only [hj]
      rfl
theorem q_field {j ft off : Nat} {cs : Array Value} {v : Value} (hf : FieldIs P t j ft off) (hg : AggIs P ft false) (ho : o.op = .field t x j) (hx : ev E x = some (.agg cs)) (hv : cs[off]? = some v) : Quiet P o n E w0 rs v := .of (fun ρ => Instr.field t (ρ x) j) (fun ρ => by simp only [execOp, ho]; rfl) fun ρ w h hm => by
  simp only [h _ _ hx]
  rw [run_field hf, run_part hg hv]
theorem q_field_agg {j ft off s : Nat} {cs : Array Value} {v : Value} (hf : FieldIs P t j ft off) (hg : AggIs P ft true) (hs : SzIs P ft s) (ho : o.op = .field t x j) (hx : ev E x = some (.agg cs)) (hv : .agg (cs.extract off (off + s)) = v) : Quiet P o n E w0 rs v := .of (fun ρ => Instr.field t (ρ x) j) (fun ρ => by simp only [execOp, ho]; rfl) fun ρ w h hm => by
  simp only [h _ _ hx]
  rw [run_field hf, run_part_agg hg hs, hv]
end parts

section addresses
variable {t : TypeId} {x y : Operand}
theorem q_fieldAddr {j ft off s : Nat} {a : Addr} {v : Value} (hf : FieldIs P t j ft off) (hs : SzIs P ft (s + 1)) (ho : o.op = .fieldAddr t x j) (hx : ev E x = some (.pointer (some a))) (hv : .pointer (some (a.add off)) = v) : Quiet P o n E w0 rs v := .of (fun ρ => Instr.fieldAt t (ρ x) j) (fun ρ => by simp only [execOp, ho]; rfl) fun ρ w h hm => by
  simp only [h _ _ hx]
  unfold FieldIs at hf
  cases hu : P.underlying t with
  | none => simp [hu] at hf
  | some u =>
    rw [hu] at hf
    refine (run_to (run_underlying hu w)).trans ?_
    cases u <;> simp only [Option.bind_some, fieldDesc, reduceCtorEq] at hf
    rename_i fs
    cases hj : fs[j]? with
    | none => simp [hj] at hf
    | some f =>
      simp only [hj, Option.map_some, Option.some.injEq, Prod.mk.injEq] at hf
      obtain ⟨rfl, rfl⟩ := hf
      simp only [hj]
      show Sem.run P ((fieldPlace a f).bind fun a => (pure (Value.pointer (some a)) : Sem Value)) w = _
      have hp : (fieldPlace a f).run P w = .ok (a.add f.offset) w := by
        refine (run_to (run_size hs w)).trans ?_
        rfl
      rw [run_to hp, hv]; rfl
theorem q_indexAddr {e s : Nat} {k : IntKind} {i : Int} {A : Option Addr} {m c : Nat} (hu : P.underlying t = some (.slice e)) (hs : SzIs P e s) (ho : o.op = .indexAddr t x y) (hx : ev E x = some (.slice A m c)) (hy : ev E y = some (.int k i)) (h0 : 0 ≤ i) (h1 : i < m) (hA : ∀ w, Mem w0 rs w → ∃ a, A = some a) : Quiet P o n E w0 rs (.pointer (A.map (·.add (i.toNat * s)))) := .of (fun ρ => Instr.indexAt t (ρ x) (ρ y)) (fun ρ => by simp only [execOp, ho]; rfl) fun ρ w h hm => by
  simp only [h _ _ hx, h _ _ hy]
  obtain ⟨a, rfl⟩ := hA w hm
  show Sem.run P ((underlying t).bind _) w = _
  refine (run_to (run_underlying hu w)).trans ?_
  refine (run_to (run_underlying hu w)).trans ?_
  show Sem.run P (if 0 ≤ i ∧ i < m then ((sizeOf e).bind fun s => (pure (Value.pointer (some (a.add (i.toNat * s)))) : Sem Value)) else _) w = _
  rw [if_pos ⟨h0, h1⟩, run_to (run_size hs w)]
  rfl
end addresses
end
end Go.Proofs.YtnfaiojmabolmaaDoor.S
namespace Go.Proofs.YtnfaiojmabolmaaDoor.S
open Go Go.RowKit
set_option linter.unusedVariables false
set_option linter.unusedSimpArgs false

/-! ### addresses -/
theorem add_off (g off j : Nat) : (⟨g, off, none⟩ : Addr).add j = ⟨g, off + j, none⟩ := by unfold Addr.add; split <;> simp_all
theorem add_add (a : Addr) (i j : Nat) : (a.add i).add j = a.add (i + j) := by
  unfold Addr.add
  by_cases hi : i = 0
  · subst hi; simp
  · by_cases hj : j = 0
    · subst hj; simp [hi]
    · simp [hi, hj, Nat.add_assoc, show ¬ (i + j = 0) by omega]
theorem add_zero' (a : Addr) : a.add 0 = a := rfl
theorem add_block (a : Addr) (i : Nat) : (a.add i).block = a.block := by unfold Addr.add; split <;> rfl

/-- Where a cut begins. -/
def cutA (A : Option Addr) (c l sz : Nat) : Option Addr := if c = l then A else A.map (·.add (l * sz))

section
variable {n : Nat} {E : List (Nat × Value)} {w0 : World} {rs : List Res} {P : Program} {o : Oper}

theorem Mem.tail {w : World} {r : Res} (h : Mem w0 (r :: rs) w) : Mem w0 rs w := by simpa [picks] using h.pick 1 [] rfl
theorem Mem.drop {w : World} (m : Nat) (h : Mem w0 rs w) : Mem w0 (rs.drop m) w := by simpa [picks] using h.pick m [] rfl
theorem Mem.get {w : World} {k : Nat} {r : Res} (h : Mem w0 rs w) (hk : rs[k]? = some r) : r.Ok w0 w := h.ok _ (List.mem_of_getElem? hk)

/-- In whatever world holds rs the cells from A on read cs. -/
def Rd (w0 : World) (rs : List Res) (A : Option Addr) (cs : List Value) : Prop := ∀ w, Mem w0 rs w → ∀ (j : Nat) v, cs[j]? = some v → ∃ a, A = some a ∧ w.cell? (a.add j) = some v

theorem Rd.row (k : Nat) {A : Option Addr} {c e sz : Nat} {cs : List Value} (hk : rs[k]? = some (.row A c e sz cs)) : Rd w0 rs A cs := by
  intro w hm j v hj
  obtain ⟨hl, h | ⟨g, off, cur, rfl, hg, hc, h1, h2⟩⟩ := hm.get hk
  · subst h
    have : cs = [] := List.length_eq_zero_iff.1 (by omega)
    subst this
    simp at hj
  · have hlt : j < cs.length := (List.getElem?_eq_some_iff.1 hj).1
    refine ⟨_, rfl, ?_⟩
    rw [add_off]
    simp only [World.cell?, hc, Option.isSome_none, Bool.false_eq_true, if_false]
    rw [h2 j hlt, hj]
theorem Rd.ro (k : Nat) {A : Option Addr} {cs : List Value} (hk : rs[k]? = some (.ro A cs)) : Rd w0 rs A cs := by
  intro w hm j v hj
  obtain ⟨a, rfl, ha⟩ := (hm.get hk) j v hj
  exact ⟨a, rfl, (hm.low.cell (World.block_lt_of_cell? w0 _ ha)).trans ha⟩
theorem Rd.tail {r : Res} {A : Option Addr} {cs : List Value} (h : Rd w0 rs A cs) : Rd w0 (r :: rs) A cs := fun w hm => h w hm.tail
theorem Rd.drop (m : Nat) {A : Option Addr} {cs : List Value} (h : Rd w0 (rs.drop m) A cs) : Rd w0 rs A cs := fun w hm => h w (hm.drop m)
theorem Rd.nil (A : Option Addr) : Rd w0 rs A [] := fun _ _ j v hj => by simp at hj
theorem Rd.take {A : Option Addr} {cs : List Value} (h : Rd w0 rs A cs) (i : Nat) : Rd w0 rs A (cs.take i) := fun w hm j v hj => by
  rw [List.getElem?_take] at hj
  split at hj
  · exact h w hm j v hj
  · simp at hj
theorem Rd.off {A : Option Addr} {cs : List Value} {c sz : Nat} (h : Rd w0 rs A cs) (hc : cs.length ≤ c * sz) (l : Nat) : Rd w0 rs (cutA A c l sz) (cs.drop (l * sz)) := fun w hm j v hj => by
  rw [List.getElem?_drop] at hj
  unfold cutA
  split
  · rename_i he
    subst he
    have : cs.length ≤ c * sz + j := by omega
    rw [List.getElem?_eq_none this] at hj
    simp at hj
  · obtain ⟨a, rfl, ha⟩ := h w hm _ v hj
    exact ⟨_, rfl, by rw [add_add]; exact ha⟩
theorem Rd.addr {A : Option Addr} {cs : List Value} (h : Rd w0 rs A cs) (hl : 0 < cs.length) (w : World) (hm : Mem w0 rs w) : ∃ a, A = some a := by
  obtain ⟨a, ha, _⟩ := h w hm 0 cs[0] (List.getElem?_eq_getElem hl)
  exact ⟨a, ha⟩

/-! ### loads -/
section
variable {t : TypeId} {x y : Operand}
theorem run_load {a : Addr} {v : Value} {w : World} (h : w.cell? a = some v) : (load a).run P w = .ok v w := by
  simp only [load, Sem.run, h]
theorem run_loadCells {a : Addr} {w : World} (vs : List Value) : ∀ (i : Nat) (acc : Array Value), (∀ j v, vs[j]? = some v → w.cell? (a.add (i + j)) = some v) →
    (loadCellsFrom a i vs.length acc).run P w = .ok (acc ++ vs.toArray) w := by
  induction vs with
  | nil => intro i acc _; show Result.ok _ _ = _; simp
  | cons v vs ih =>
    intro i acc h
    have h0 := h 0 v rfl
    show Sem.run P ((load (a.add i)).bind fun v => loadCellsFrom a (i + 1) vs.length (acc.push v)) w = _
    rw [run_to (run_load (by simpa using h0))]
    rw [ih (i + 1) (acc.push v) (fun j u hj => by rw [show i + 1 + j = i + (j + 1) by omega]; exact h (j + 1) u (by simpa using hj))]
    congr 1
    apply Array.ext'
    simp
theorem run_loadVar {a : Addr} {v : Value} {w : World} (hg : AggIs P t false) (h : w.cell? a = some v) : (loadVar t a).run P w = .ok v w := by
  refine (run_to (run_isAgg hg w)).trans ?_
  exact run_load h
theorem run_loadVar_agg {a : Addr} {vs : List Value} {w : World} (hg : AggIs P t true) (hs : SzIs P t vs.length) (h : ∀ j v, vs[j]? = some v → w.cell? (a.add j) = some v) : (loadVar t a).run P w = .ok (.agg vs.toArray) w := by
  refine (run_to (run_isAgg hg w)).trans ?_
  refine (run_to (run_size hs w)).trans ?_
  have := run_loadCells (P := P) (w := w) (a := a) vs 0 #[] (fun j v hj => by simpa using h j v hj)
  show Sem.run P ((loadCells a vs.length).bind fun c => (pure (Value.agg c) : Sem Value)) w = _
  rw [run_to (show (loadCells a vs.length).run P w = _ from this)]
  show Result.ok (Value.agg (#[] ++ vs.toArray)) w = _
  simp

theorem Rd.cell {A : Option Addr} {cs : List Value} (h : Rd w0 rs A cs) {w : World} (hm : Mem w0 rs w) {m : Nat} {v : Value} (hv : cs[m]? = some v) : ∃ a, A = some a ∧ w.cell? (a.add m) = some v := h w hm m v hv

/-- A cell of a row. -/
theorem q_load {A : Option Addr} {cs : List Value} {m : Nat} {v : Value} (hR : Rd w0 rs A cs) (hg : AggIs P t false) (ho : o.op = .load t x) (hx : ev E x = some (.pointer (A.map (·.add m)))) (hv : cs[m]? = some v) : Quiet P o n E w0 rs v := .of (fun ρ => Instr.loadAt t (ρ x)) (fun ρ => by simp only [execOp, ho]; rfl) fun ρ w h hm => by
  simp only [h _ _ hx]
  obtain ⟨a, rfl, ha⟩ := hR.cell hm hv
  exact run_loadVar hg ha
theorem q_load_agg {A : Option Addr} {cs vs : List Value} {m : Nat} (hR : Rd w0 rs A cs) (hg : AggIs P t true) (hs : SzIs P t vs.length) (ho : o.op = .load t x) (hx : ev E x = some (.pointer (A.map (·.add m)))) (hl : 0 < vs.length) (hv : ∀ j : Nat, j < vs.length → cs[m + j]? = vs[j]?) : Quiet P o n E w0 rs (.agg vs.toArray) := .of (fun ρ => Instr.loadAt t (ρ x)) (fun ρ => by simp only [execOp, ho]; rfl) fun ρ w h hm => by
  simp only [h _ _ hx]
  have h0 := hv 0 hl
  rw [List.getElem?_eq_getElem hl] at h0
  obtain ⟨a, rfl, _⟩ := hR.cell hm h0
  refine run_loadVar_agg hg hs (fun j v hj => ?_)
  have hlt : j < vs.length := (List.getElem?_eq_some_iff.1 hj).1
  obtain ⟨a', ha', hc⟩ := hR.cell hm ((hv j hlt).trans hj)
  cases ha'
  rw [add_add]; exact hc
/-- A cell of a variable. -/
theorem Mem.cell {w : World} (hm : Mem w0 rs w) {k g t j : Nat} {cs : List Value} {v : Value} (hk : rs[k]? = some (.box g t cs)) (hv : cs[j]? = some v) : w.cell? ⟨g, j, none⟩ = some v := by
  have := (hm.get hk).2
  simp only [World.cell?, this, Option.isSome_none, Bool.false_eq_true, if_false]
  simpa using hv
theorem q_loadb (k : Nat) {g j t' : Nat} {cs : List Value} {v : Value} (hk : rs[k]? = some (.box g t' cs)) (hg : AggIs P t false) (ho : o.op = .load t x) (hx : ev E x = some (.pointer (some ⟨g, j, none⟩))) (hv : cs[j]? = some v) : Quiet P o n E w0 rs v := .of (fun ρ => Instr.loadAt t (ρ x)) (fun ρ => by simp only [execOp, ho]; rfl) fun ρ w h hm => by
  simp only [h _ _ hx]
  exact run_loadVar hg (hm.cell hk hv)
theorem q_loadb_agg (k : Nat) {g j t' s : Nat} {cs vs : List Value} (hk : rs[k]? = some (.box g t' cs)) (hg : AggIs P t true) (hs : SzIs P t s) (ho : o.op = .load t x) (hx : ev E x = some (.pointer (some ⟨g, j, none⟩))) (hv : (cs.drop j).take s = vs) (hl : vs.length = s) : Quiet P o n E w0 rs (.agg vs.toArray) := .of (fun ρ => Instr.loadAt t (ρ x)) (fun ρ => by simp only [execOp, ho]; rfl) fun ρ w h hm => by
  simp only [h _ _ hx]
  subst hl
  refine run_loadVar_agg hg hs (fun i v hi => ?_)
  rw [add_off]
  refine hm.cell hk ?_
  rw [← hv, List.getElem?_take] at hi
  split at hi
  · rw [List.getElem?_drop] at hi; exact hi
  · simp at hi
end

/-! ### stores -/
def one : Value → Bool
  | .agg _ | .tuple _ => false
  | _ => true
theorem run_store {a : Addr} {u v : Value} {w : World} (h : w.cell? a = some u) (hf : w.frozen? a = false) (hv : one v = true) : (store a v).run P w = .ok () (w.setCell a v) := by
  have : (store a v).run P w = (match w.cell? a with
    | some _ => if w.frozen? a then .halt (.unsupported (.unsafePointer "a write to bytes that a string shares")) w else Sem.run P (.pure ()) (w.setCell a v)
    | none => match w.farStore P a v (Mode.plain == .atomic) with
      | .ok (w, _) => Sem.run P (.pure ()) w
      | .error h => .halt h w) := by
    cases v <;> first | rfl | simp [one] at hv
  rw [this, h]
  simp only [hf, Bool.false_eq_true, if_false]
  rfl
theorem Mem.frozen {w : World} (hm : Mem w0 rs w) {k g t j : Nat} {cs : List Value} (hk : rs[k]? = some (.box g t cs)) : w.frozen? ⟨g, j, none⟩ = false := by
  have := (hm.get hk).2
  simp [World.frozen?, this]
theorem blkAt_set {rs : List Res} {k : Nat} {r r' : Res} (hk : rs[k]? = some r) (hb : r'.blk = r.blk) (i : Nat) : blkAt (rs.set k r') i = blkAt rs i := by
  unfold blkAt
  by_cases h : k = i
  · subst h
    have hlt : k < rs.length := (List.getElem?_eq_some_iff.1 hk).1
    rw [List.getElem?_set_self hlt, hk]
    exact hb
  · rw [List.getElem?_set_ne h]
/-- One of them has turned, and the world in its block alone. -/
theorem Mem.turn {w w' : World} (hm : Mem w0 rs w) {k g : Nat} {r r' : Res} (hk : rs[k]? = some r) (hb : r.blk = some g) (hb' : r'.blk = r.blk) (hr' : r'.Ok w0 w') (hl : Below w0.heap.size w0 w') (hfar : ∀ i, i ≠ g → w'.heap[i]? = w.heap[i]?) : Mem w0 (rs.set k r') w' := by
  refine ⟨hl, ?_, fun i j b hi hj => ?_⟩
  · intro q hq
    obtain ⟨i, hi⟩ := List.getElem?_of_mem hq
    by_cases h : k = i
    · subst h
      have hlt : k < rs.length := (List.getElem?_eq_some_iff.1 hk).1
      rw [List.getElem?_set_self hlt] at hi
      cases hi
      exact hr'
    · rw [List.getElem?_set_ne h] at hi
      refine (hm.get hi).keep (fun b hb2 => hfar b ?_)
      rintro rfl
      exact h (hm.apart k i b (by simp [blkAt, hk, hb]) (by simp [blkAt, hi, hb2]))
  · rw [blkAt_set hk hb'] at hi hj
    exact hm.apart i j b hi hj
theorem heap_set (w : World) (g j : Nat) (v : Value) (t : TypeId) (cs : Array Value) (h : w.heap[g]? = some (.cells cs t (0, 0))) : (w.setCell ⟨g, j, none⟩ v).heap[g]? = some (.cells (cs.setIfInBounds j v) t (0, 0)) := by
  simp [World.setCell, Array.getElem?_modify, h]
theorem Mem.setBox {w : World} (hm : Mem w0 rs w) {k g t : Nat} {cs : List Value} (hk : rs[k]? = some (.box g t cs)) (j : Nat) (v : Value) : Mem w0 (rs.set k (.box g t (cs.set j v))) (w.setCell ⟨g, j, none⟩ v) := by
  obtain ⟨hge, hc⟩ := hm.get hk
  refine hm.turn hk rfl rfl ⟨hge, ?_⟩ (hm.low.setCell (p := ⟨g, j, none⟩) hge v) (fun i hi => Below.heap_setCell w _ v i hi)
  rw [heap_set w g j v t _ hc]
  simp

def over (cs : List Value) (j : Nat) : List Value → List Value
  | [] => cs
  | v :: vs => over (cs.set j v) (j + 1) vs
theorem run_storeCells {k g t : Nat} (vs : List Value) : ∀ (j i : Nat) (cs : List Value) (rs : List Res) (w : World), Mem w0 rs w → rs[k]? = some (.box g t cs) → j + i + vs.length ≤ cs.length → (∀ v ∈ vs, one v = true) →
    ∃ w', (storeCells ⟨g, j, none⟩ vs i).run P w = .ok () w' ∧ Mem w0 (rs.set k (.box g t (over cs (j + i) vs))) w' := by
  induction vs with
  | nil =>
    intro j i cs rs w hm hk _ _
    refine ⟨w, rfl, ?_⟩
    have hlt : k < rs.length := (List.getElem?_eq_some_iff.1 hk).1
    have : rs.set k (.box g t (over cs (j + i) [])) = rs := by
      apply List.ext_getElem?
      intro m
      by_cases h : k = m
      · subst h; rw [List.getElem?_set_self hlt, hk]; rfl
      · rw [List.getElem?_set_ne h]
    rw [this]; exact hm
  | cons v vs ih =>
    intro j i cs rs w hm hk hlen hone
    have hlt : k < rs.length := (List.getElem?_eq_some_iff.1 hk).1
    have hj : j + i < cs.length := by simp at hlen; omega
    have hcell := hm.cell hk (List.getElem?_eq_getElem hj)
    have hst := run_store (P := P) hcell (hm.frozen hk) (hone v (by simp))
    have hm' := hm.setBox hk (j + i) v
    obtain ⟨w', hr, hmm⟩ := ih j (i + 1) (cs.set (j + i) v) _ _ hm' (List.getElem?_set_self hlt) (by simp at hlen ⊢; omega) (fun u hu => hone u (by simp [hu]))
    refine ⟨w', ?_, ?_⟩
    · show Sem.run P ((store ((⟨g, j, none⟩ : Addr).add i) v).bind fun _ => storeCells ⟨g, j, none⟩ vs (i + 1)) w = _
      rw [add_off, run_to hst]
      exact hr
    · rw [List.set_set] at hmm
      exact hmm
theorem a_storeb {t t' : TypeId} {x y : Operand} (k : Nat) {g j s : Nat} {cs : List Value} {v : Value} (hk : rs[k]? = some (.box g t' cs)) (hs : SzIs P t s) (ho : o.op = .store t x y) (hx : ev E x = some (.pointer (some ⟨g, j, none⟩))) (hy : ev E y = some v) (hz : v.cells.size = s) (hl : j + s ≤ cs.length) (hone : v.cells.toList.all one = true) :
    Acts P o n E w0 rs (fun _ : Unit => undef) (fun _ => rs.set k (.box g t' (over cs j v.cells.toList))) := acts_of_skip fun a w he hm => by
  obtain ⟨w', hr, hm'⟩ := run_storeCells (P := P) (t := t') v.cells.toList j 0 cs rs w hm hk (by simp [hz]; omega) (fun u hu => List.all_eq_true.1 hone u hu)
  refine ⟨w', ?_, hm'⟩
  simp only [execOp, ho, he.eval hx, he.eval hy]
  show Sem.run P ((Instr.storeAt t (.pointer (some ⟨g, j, none⟩)) v).bind fun _ => (pure Next.skip : Sem Next)) w = _
  have : (Instr.storeAt t (.pointer (some ⟨g, j, none⟩)) v).run P w = .ok () w' := by
    refine (run_to (run_size hs w)).trans ?_
    rw [if_neg (by simp [hz])]
    exact hr
  rw [run_to this]; rfl

/-- A cell of a row of one's own. -/
theorem Mem.setRow {w : World} (hm : Mem w0 rs w) {k c e sz m : Nat} {A : Option Addr} {cs : List Value} (hk : rs[k]? = some (.row A c e sz cs)) (hlt : m < cs.length) {v : Value} (hv : one v = true) :
    ∃ a, A = some a ∧ ∃ u, w.cell? (a.add m) = some u ∧ w.frozen? (a.add m) = false ∧ Mem w0 (rs.set k (.row A c e sz (cs.set m v))) (w.setCell (a.add m) v) := by
  obtain ⟨hl, h | ⟨g, off, cur, rfl, hg, hc, h1, h2⟩⟩ := hm.get hk
  · subst h; omega
  · refine ⟨_, rfl, ?_⟩
    rw [add_off]
    have hcur : off + m < cur.size := by omega
    cases c with
    | zero => omega
    | succ c =>
      refine ⟨cur[off + m], ?_, ?_, ?_⟩
      · simp only [World.cell?, hc, Option.isSome_none, Bool.false_eq_true, if_false]
        exact Array.getElem?_eq_getElem hcur
      · simp [World.frozen?, hc]
      · refine hm.turn hk rfl rfl ⟨by simpa using hl, .inr ⟨g, off, cur.setIfInBounds (off + m) v, rfl, hg, heap_set w g _ v e _ hc, by simpa using h1, ?_⟩⟩ (hm.low.setCell (p := ⟨g, off + m, none⟩) hg v) (fun i hi => Below.heap_setCell w _ v i hi)
        intro j hj
        rw [List.length_set] at hj
        by_cases hjm : m = j
        · subst hjm
          rw [List.getElem?_set_self hj, Array.getElem?_setIfInBounds_self_of_lt hcur]
        · rw [List.getElem?_set_ne hjm, Array.getElem?_setIfInBounds_ne (by omega), h2 j hj]
theorem a_store {t : TypeId} {x y : Operand} (k : Nat) {c e sz m : Nat} {A : Option Addr} {cs : List Value} {v : Value} (hk : rs[k]? = some (.row A c e sz cs)) (hs : SzIs P t 1) (ho : o.op = .store t x y) (hx : ev E x = some (.pointer (A.map (·.add m)))) (hy : ev E y = some v) (hone : one v = true) (hlt : m < cs.length) :
    Acts P o n E w0 rs (fun _ : Unit => undef) (fun _ => rs.set k (.row A c e sz (cs.set m v))) := acts_of_skip fun a w he hm => by
  obtain ⟨b, rfl, u, hcell, hfr, hm'⟩ := hm.setRow hk hlt hone
  refine ⟨_, ?_, hm'⟩
  simp only [execOp, ho, he.eval hx, he.eval hy]
  show Sem.run P ((Instr.storeAt t (.pointer (some (b.add m))) v).bind fun _ => (pure Next.skip : Sem Next)) w = _
  have hcl : v.cells = #[v] := by cases v <;> first | rfl | simp [one] at hone
  have : (Instr.storeAt t (.pointer (some (b.add m))) v).run P w = .ok () (w.setCell (b.add m) v) := by
    refine (run_to (run_size hs w)).trans ?_
    rw [hcl, if_neg (by simp)]
    show Sem.run P ((store ((b.add m).add 0) v).bind fun _ => storeCells (b.add m) [] 1) w = _
    rw [add_zero', run_to (run_store hcell hfr hone)]
    rfl
  rw [run_to this]; rfl

/-! ### new variables -/
theorem run_newRow (t : TypeId) (cs : Array Value) (w : World) : (newRow t cs).run P w = .ok ⟨w.heap.size, 0, none⟩ { w with heap := w.heap.push (.cells cs t) } := rfl
theorem Mem.newBox {w : World} (hm : Mem w0 rs w) (t : TypeId) (cs : Array Value) : Mem w0 (.box w.heap.size t cs.toList :: rs) { w with heap := w.heap.push (.cells cs t) } :=
  hm.push _ (r := .box w.heap.size t cs.toList) ⟨hm.low.size, by simp⟩ (fun g hg => by simpa [Res.blk] using hg.symm)
theorem a_box {t : TypeId} {x : Operand} {v : Value} (ho : o.op = .box t x) (hx : ev E x = some v) : Acts P o n E w0 rs (fun g : Nat => .pointer (some ⟨g, 0, none⟩)) (fun g => .box g t v.cells.toList :: rs) := acts_of_run fun a w he hm => by
  refine ⟨w.heap.size, _, ?_, hm.newBox t v.cells⟩
  simp only [execOp, ho, he.eval hx]
  rfl
theorem a_alloc {t : TypeId} {z : Value} (hz : ZeroIs P t z) (ho : o.op = .alloc t) : Acts P o n E w0 rs (fun g : Nat => .pointer (some ⟨g, 0, none⟩)) (fun g => .box g t z.cells.toList :: rs) := acts_of_run fun a w he hm => by
  refine ⟨w.heap.size, _, ?_, hm.newBox t z.cells⟩
  simp only [execOp, ho]
  have : (Instr.alloc t true (.tuple #[])).run P w = .ok (.pointer (some ⟨w.heap.size, 0, none⟩)) { w with heap := w.heap.push (.cells z.cells t) } := by
    refine (run_to (run_zero hz w)).trans ?_
    rfl
  show Sem.run P ((Instr.alloc t true (.tuple #[])).bind fun x => (pure (Next.value x) : Sem Next)) w = _
  rw [run_to this]; rfl

/-! ### calls -/
def CallOk (P : Program) (f : FuncId) : Prop := ∃ fn, P.funcs[f]? = some fn ∧ (fn.name == "runtime.NumGoroutine") = false ∧ fn.body.isNone = false
def evs (E : List (Nat × Value)) : List Operand → Option (List Value)
  | [] => some []
  | x :: l => match ev E x, evs E l with
    | some v, some vs => some (v :: vs)
    | _, _ => none
theorem evs_map {ρ : Operand → Value} (hρ : ∀ x u, ev E x = some u → ρ x = u) {l : List Operand} : ∀ {vs : List Value}, evs E l = some vs → l.map ρ = vs := by
  induction l with
  | nil => intro vs h; simp [evs] at h; simp [h]
  | cons x l ih =>
    intro vs h
    simp only [evs] at h
    cases hx : ev E x with
    | none => simp [hx] at h
    | some v =>
      cases hl : evs E l with
      | none => simp [hx, hl] at h
      | some us =>
        simp only [hx, hl, Option.some.injEq] at h
        subst h
        simp [hρ x v hx, ih hl]
theorem run_callFunc {f : FuncId} (hf : CallOk P f) (vs : Array Value) (w : World) : (callFunc f vs).run P w = .ok (.enter f vs) w := by
  obtain ⟨fn, h1, h2, h3⟩ := hf
  show Sem.run P (match P.funcs[f]? with | none => _ | some fn => _) w = _
  rw [h1]
  simp only [h2, h3, Bool.false_eq_true, if_false]
  rfl
theorem a_call {pr : Call} {f : FuncId} {l : List Operand} {vs : List Value} {α : Type} {v : α → Value} {rs' : α → List Res} (hf : CallOk P f) (ho : o.op = .call pr) (hc : pr.callee = .value (.func f)) (ha : pr.args = l.toArray) (hv : evs E l = some vs)
    (hcall : ∀ w, Mem w0 rs w → Calls P f vs.toArray w fun e w' => ∃ x, e = .returned (v x) ∧ Mem w0 (rs' x) w') : Acts P o n E w0 rs v rs' := acts_of_calls (fun a w he hm => by
  have hm := evs_map (fun x u hx => he.eval hx) hv
  have hfun : a.eval (.func f) = .func (.func f) #[] #[] := rfl
  simp only [execOp, ho, resolve, hc, ha, hfun, List.map_toArray, hm]
  show Sem.run P (callFunc f ((#[] ++ vs.toArray) ++ #[])) w = _
  rw [run_callFunc hf]
  simp) hcall
end
end Go.Proofs.YtnfaiojmabolmaaDoor.S
namespace Go.Proofs.YtnfaiojmabolmaaDoor.S
open Go Go.RowKit
set_option linter.unusedVariables false
set_option linter.unusedSimpArgs false
section
variable {n : Nat} {E : List (Nat × Value)} {w0 : World} {rs : List Res} {P : Program} {o : Oper}

/-! ### lists of cells -/
theorem over_append (pre zs : List Value) (vs : List Value) (h : vs.length ≤ zs.length) : over (pre ++ zs) pre.length vs = pre ++ vs ++ zs.drop vs.length := by
  induction vs generalizing pre zs with
  | nil => simp [over]
  | cons v vs ih =>
    cases zs with
    | nil => simp at h
    | cons z zs =>
      simp only [over]
      have h1 : (pre ++ z :: zs).set pre.length v = (pre ++ [v]) ++ zs := by
        rw [List.set_append_right _ _ (Nat.le_refl _)]
        simp
      rw [h1]
      have := ih (pre ++ [v]) zs (by simpa using h)
      rw [show pre.length + 1 = (pre ++ [v]).length by simp, this]
      simp
theorem over_length (cs : List Value) (j : Nat) (vs : List Value) : (over cs j vs).length = cs.length := by
  induction vs generalizing cs j with
  | nil => rfl
  | cons v vs ih => simp [over, ih]
theorem put_cells (off : Nat) (l : List Value) : ∀ (k : Nat) (cells : Array Value), (l.zipIdx k).foldl (fun cs (p : Value × Nat) => cs.setIfInBounds (off + p.2) p.1) cells = (over cells.toList (off + k) l).toArray := by
  induction l with
  | nil => intro k cells; simp [over]
  | cons v l ih =>
    intro k cells
    simp only [List.zipIdx_cons, List.foldl_cons, over]
    rw [ih]
    simp [Nat.add_assoc]
def fillL (place : Nat → Option (Nat × Nat)) (cs : List Value) : List (Nat × Value) → Option (List Value)
  | [] => some cs
  | (i, v) :: l => match place i with
    | none => none
    | some (off, size) => if v.cells.size ≠ size || off + v.cells.size > cs.length then none else fillL place (over cs off v.cells.toList) l
theorem fill_list (place : Nat → Option (Nat × Nat)) (ps : List (Nat × Value)) : ∀ cells : Array Value, Instr.fill place cells ps = (fillL place cells.toList ps).map List.toArray := by
  induction ps with
  | nil => intro cells; simp [Instr.fill, fillL]
  | cons p ps ih =>
    intro cells
    obtain ⟨i, v⟩ := p
    simp only [Instr.fill, fillL]
    cases place i with
    | none => rfl
    | some q =>
      obtain ⟨off, size⟩ := q
      simp only [Array.length_toList]
      split
      · rfl
      · rw [ih]
        congr 2
        have := put_cells off v.cells.toList 0 cells
        rw [← Array.foldl_toList, Array.toList_zipIdx]
        rw [this]
        simp
def idx : Nat → List Value → List (Nat × Value)
  | _, [] => []
  | k, v :: vs => (k, v) :: idx (k + 1) vs
theorem fill_idx {sz : Nat} (vs : List Value) (hv : ∀ v ∈ vs, v.cells.size = sz) : ∀ (pre zs : List Value) (k : Nat), pre.length = k * sz → zs.length = vs.length * sz →
    fillL (fun i => some (i * sz, sz)) (pre ++ zs) (idx k vs) = some (pre ++ vs.flatMap fun v => v.cells.toList) := by
  induction vs with
  | nil =>
    intro pre zs k _ hz
    have : zs = [] := List.length_eq_zero_iff.1 (by simpa using hz)
    subst this
    simp [idx, fillL]
  | cons v vs ih =>
    intro pre zs k hp hz
    have h1 : v.cells.size = sz := hv v (by simp)
    have hzl : sz ≤ zs.length := by simp [Nat.add_mul] at hz; omega
    simp only [idx, fillL]
    rw [if_neg (by simp [h1]; omega)]
    rw [← hp, over_append pre zs v.cells.toList (by simpa [h1] using hzl)]
    have := ih (fun u hu => hv u (by simp [hu])) (pre ++ v.cells.toList) (zs.drop v.cells.toList.length) (k + 1) (by simp [h1, hp, Nat.add_mul]) (by simp [h1, hz, Nat.add_mul])
    rw [this]
    simp

/-! ### a literal -/
def evp (E : List (Nat × Value)) : List (Nat × Operand) → Option (List (Nat × Value))
  | [] => some []
  | (i, x) :: l => match ev E x, evp E l with
    | some v, some vs => some ((i, v) :: vs)
    | _, _ => none
theorem evp_map {ρ : Operand → Value} (hρ : ∀ x u, ev E x = some u → ρ x = u) {l : List (Nat × Operand)} : ∀ {vs : List (Nat × Value)}, evp E l = some vs → l.map (fun p => (p.1, ρ p.2)) = vs := by
  induction l with
  | nil => intro vs h; simp [evp] at h; simp [h]
  | cons p l ih =>
    obtain ⟨i, x⟩ := p
    intro vs h
    simp only [evp] at h
    cases hx : ev E x with
    | none => simp [hx] at h
    | some v =>
      cases hl : evp E l with
      | none => simp [hx, hl] at h
      | some us =>
        simp only [hx, hl, Option.some.injEq] at h
        subst h
        simp [hρ x v hx, ih hl]
theorem Mem.newRow {w : World} (hm : Mem w0 rs w) (e c sz : Nat) (cells : Array Value) (cs : List Value) (hl : cs.length ≤ c * sz) (hc : c * sz ≤ cells.size) (hcs : ∀ j : Nat, j < cs.length → cells[j]? = cs[j]?) : Mem w0 (.row (some ⟨w.heap.size, 0, none⟩) c e sz cs :: rs) { w with heap := w.heap.push (.cells cells e) } := by
  refine hm.push _ (r := .row (some ⟨w.heap.size, 0, none⟩) c e sz cs) ⟨hl, ?_⟩ ?_
  · cases c with
    | zero => exact .inl rfl
    | succ c => exact .inr ⟨w.heap.size, 0, cells, rfl, hm.low.size, by simp, by simpa using hc, fun j hj => by rw [Nat.zero_add]; exact hcs j hj⟩
  · intro g hg
    cases c with
    | zero => simp [Res.blk] at hg
    | succ c => simpa [Res.blk] using hg.symm
theorem a_lit {t e sz len : Nat} {parts : Array (Nat × Operand)} {l : List (Nat × Operand)} {vs : List Value} {z : Value} (hu : P.underlying t = some (.slice e)) (hs : SzIs P e sz) (hz : ZeroIs P e z) (hzs : z.cells.size = sz) (hpos : 0 < sz) (ho : o.op = .buildSlice t len parts) (hp : parts = l.toArray) (hv : evp E l = some (idx 0 vs)) (hl : vs.length = len) (hcs : vs.all (fun v => v.cells.size == sz) = true) (hb : len * sz ≤ 1024) {cs : List Value} (hres : (vs.flatMap fun v => v.cells.toList) = cs) :
    Acts P o n E w0 rs (fun A : Option Addr => .slice A len len) (fun A => .row A len e sz cs :: rs) := acts_of_run fun a w he hm => by
  have hcs' : ∀ v ∈ vs, v.cells.size = sz := fun v hv => by simpa using List.all_eq_true.1 hcs v hv
  refine ⟨some ⟨w.heap.size, 0, none⟩, _, ?_, hm.newRow e len sz cs.toArray cs ?_ ?_ (fun j _ => by simp)⟩
  · have hmap := evp_map (fun x u hx => he.eval hx) hv
    simp only [execOp, ho, hp]
    have : (Instr.buildSlice t len (List.toArray (l.map fun p => (p.1, a.eval p.2)))).run P w = .ok (.slice (some ⟨w.heap.size, 0, none⟩) len len) { w with heap := w.heap.push (.cells cs.toArray e) } := by
      refine (run_to (run_underlying hu w)).trans ?_
      refine (run_to (run_size hs w)).trans ?_
      rw [if_neg (by omega)]
      have key : ∀ zc : Array Value, Sem.run P (match Instr.fill (fun i => some (i * sz, sz)) ((Array.range (len * sz)).map (zc[· % zc.size]!)) (List.toArray (l.map fun p => (p.1, a.eval p.2))).toList with
          | some cells => (newRow e cells).bind fun b => (pure (Value.slice (some b) len len) : Sem Value)
          | _ => stuck "buildSlice: a part of the wrong size") w = .ok (.slice (some ⟨w.heap.size, 0, none⟩) len len) { w with heap := w.heap.push (.cells cs.toArray e) } := by
        intro zc
        rw [fill_list, hmap]
        have hfl := fill_idx (sz := sz) vs hcs' [] ((Array.range (len * sz)).map (zc[· % zc.size]!)).toList 0 (by simp) (by simp [hl])
        rw [List.nil_append] at hfl
        rw [hfl]
        simp only [Option.map_some, List.nil_append, hres]
        rfl
      show Sem.run P (if len * sz = 0 then _ else _) w = _
      by_cases h0 : len * sz = 0
      · rw [if_pos h0]
        exact key #[]
      · rw [if_neg h0]
        exact (run_to (run_zero hz w)).trans (key z.cells)
    show Sem.run P ((Instr.buildSlice t len (Array.map (fun p => (p.1, a.eval p.2)) (List.toArray l))).bind fun x => (pure (Next.value x) : Sem Next)) w = _
    rw [List.map_toArray, run_to this]; rfl
  · rw [← hres, ← hl]
    have : ∀ vs : List Value, (∀ v ∈ vs, v.cells.size = sz) → (vs.flatMap fun v => v.cells.toList).length = vs.length * sz := by
      intro vs
      induction vs with
      | nil => intro _; simp
      | cons v vs ih => intro h; simp [ih (fun u hu => h u (by simp [hu])), h v (by simp), Nat.add_mul]; omega
    rw [this vs hcs']; exact Nat.le_refl _
  · have : ∀ vs : List Value, (∀ v ∈ vs, v.cells.size = sz) → (vs.flatMap fun v => v.cells.toList).length = vs.length * sz := by
      intro vs
      induction vs with
      | nil => intro _; simp
      | cons v vs ih => intro h; simp [ih (fun u hu => h u (by simp [hu])), h v (by simp), Nat.add_mul]; omega
    simp [← hres, this vs hcs', hl]
end
end Go.Proofs.YtnfaiojmabolmaaDoor.S
namespace Go.Proofs.YtnfaiojmabolmaaDoor.S
open Go Go.RowKit
set_option linter.unusedVariables false
set_option linter.unusedSimpArgs false
section
variable {n : Nat} {E : List (Nat × Value)} {w0 : World} {rs : List Res} {P : Program} {o : Oper}

/-! ### make -/
theorem run_typeInfo_bytes {t b : Nat} (h : BytesIs P t b) (w : World) : ∃ i, (typeInfo t).run P w = .ok i w ∧ i.bytes = b := by
  unfold BytesIs at h
  cases hi : P.info? t with
  | none => simp [hi] at h
  | some i => exact ⟨i, run_info hi w, by simpa [hi] using h⟩
theorem run_askRoom (b : Nat) (w : World) : (askRoom b).run P w = .ok () w := by
  unfold askRoom
  split <;> rfl
theorem zeros_one (m : Nat) (z : Value) : (Array.range m).map (#[z][· % (#[z] : Array Value).size]!) = Array.replicate m z := by
  apply Array.ext
  · simp
  · intro i h1 h2
    simp [Nat.mod_one]
theorem a_make {t e b : Nat} {x x' : Operand} {m : Int} {z : Value} (hu : P.underlying t = some (.slice e)) (hs : SzIs P e 1) (hb : BytesIs P e b) (hz : ZeroIs P e z) (hone : one z = true) (ho : o.op = .makeSlice t x x') (hx : ev E x = some (.int .i64 m)) (hx' : ev E x' = some (.int .i64 m)) (h0 : 0 ≤ m) (hm1 : m ≤ 1099511627776) (hb1 : b ≤ 64) :
    Acts P o n E w0 rs (fun A : Option Addr => .slice A m.toNat m.toNat) (fun A => .row A m.toNat e 1 (List.replicate m.toNat z) :: rs) := acts_of_run fun a w he hm => by
  refine ⟨some ⟨w.heap.size, 0, none⟩, _, ?_, hm.newRow e m.toNat 1 (Array.replicate m.toNat z) _ (by simp) (by simp) (fun j hj => ?_)⟩
  · simp only [execOp, ho, he.eval hx, he.eval hx']
    have hzc : z.cells = #[z] := by cases z <;> first | rfl | simp [one] at hone
    have hbm : (b : Int) * m ≤ 281474976710656 := by
      have h1 : (b : Int) ≤ 64 := by omega
      have h2 : (b : Int) * m ≤ 64 * 1099511627776 := Int.mul_le_mul h1 hm1 h0 (by omega)
      omega
    have hw : IntKind.i64.wrap m = m := by rw [i64_wrap]; unfold wrap64; omega
    have : (Instr.makeSlice t (.int .i64 m) (.int .i64 m)).run P w = .ok (.slice (some ⟨w.heap.size, 0, none⟩) m.toNat m.toNat) { w with heap := w.heap.push (.cells (Array.replicate m.toNat z) e) } := by
      refine (run_to (run_underlying hu w)).trans ?_
      obtain ⟨i, hi, hib⟩ := run_typeInfo_bytes hb w
      refine (run_to (m := asInt (.int .i64 m)) (v := m) (w' := w) rfl).trans ?_
      refine (run_to (m := asInt (.int .i64 m)) (v := m) (w' := w) rfl).trans ?_
      refine (run_to hi).trans ?_
      simp only [hib, hw]
      rw [if_neg (by simp; omega)]
      refine (run_to (run_askRoom _ w)).trans ?_
      refine (run_to (run_size hs w)).trans ?_
      have key : ∀ zc : Array Value, (m.toNat * 1 = 0 ∨ zc = #[z]) → Sem.run P ((newRow e ((Array.range (m.toNat * 1)).map (zc[· % zc.size]!))).bind fun b => (pure (Value.slice (some b) m.toNat m.toNat) : Sem Value)) w = .ok (.slice (some ⟨w.heap.size, 0, none⟩) m.toNat m.toNat) { w with heap := w.heap.push (.cells (Array.replicate m.toNat z) e) } := by
        intro zc hzc'
        rw [run_to (run_newRow e _ w)]
        have : (Array.range (m.toNat * 1)).map (zc[· % zc.size]!) = Array.replicate m.toNat z := by
          rcases hzc' with h | h
          · rw [show m.toNat = 0 by omega]; simp
          · subst h; rw [Nat.mul_one]; exact zeros_one _ z
        rw [this]; rfl
      show Sem.run P (if m.toNat * 1 = 0 then _ else _) w = _
      by_cases hc : m.toNat * 1 = 0
      · rw [if_pos hc]
        exact key #[] (.inl hc)
      · rw [if_neg hc]
        exact (run_to (run_zero hz w)).trans (key z.cells (.inr hzc))
    show Sem.run P ((Instr.makeSlice t (.int .i64 m) (.int .i64 m)).bind fun x => (pure (Next.value x) : Sem Next)) w = _
    rw [run_to this]; rfl
  · simp at hj
    simp [hj]

/-! ### append -/
theorem num_bound {x y : Nat} (h1 : x ≤ 2 * y + 512) (h2 : y ≤ 1099511627776) : x * 64 ≤ 281474976710656 := by omega
theorem Mem.map {w : World} {rs rs' : List Res} (h : Mem w0 rs w) (f : Nat → Nat) (hok : ∀ r ∈ rs', r.Ok w0 w) (hf : ∀ i g, blkAt rs' i = some g → blkAt rs (f i) = some g) (hinj : ∀ i j g, blkAt rs' i = some g → blkAt rs' j = some g → f i = f j → i = j) : Mem w0 rs' w :=
  ⟨h.low, hok, fun i j g hi hj => hinj i j g hi hj (h.apart _ _ g (hf i g hi) (hf j g hj))⟩
/-- The first takes the place of number k. -/
theorem Mem.replace {w : World} {r : Res} {rs : List Res} (h : Mem w0 (r :: rs) w) (k : Nat) : Mem w0 (rs.set k r) w := by
  refine h.map (fun i => if i = k then 0 else i + 1) ?_ ?_ ?_
  · intro q hq
    rcases List.mem_or_eq_of_mem_set hq with hq | rfl
    · exact h.ok q (by simp [hq])
    · exact h.ok q (by simp)
  · intro i g hi
    unfold blkAt at hi ⊢
    by_cases hik : i = k
    · subst hik
      simp only [if_true]
      by_cases hlt : i < rs.length
      · rw [List.getElem?_set_self hlt] at hi; simpa using hi
      · rw [List.getElem?_eq_none (by simp; omega)] at hi; simp at hi
    · simp only [if_neg hik]
      rw [List.getElem?_set_ne (Ne.symm hik)] at hi
      simpa using hi
  · intro i j g _ _ hij
    by_cases hi : i = k <;> by_cases hj : j = k <;> simp [hi, hj] at hij ⊢ <;> omega
theorem Mem.snoc {w : World} (hm : Mem w0 rs w) {k c e sz : Nat} {A : Option Addr} {cs : List Value} (hk : rs[k]? = some (.row A c e sz cs)) (hlt : cs.length < c * sz) {v : Value} (hv : one v = true) :
    ∃ a, A = some a ∧ ∃ u, w.cell? (a.add cs.length) = some u ∧ w.frozen? (a.add cs.length) = false ∧ Mem w0 (rs.set k (.row A c e sz (cs ++ [v]))) (w.setCell (a.add cs.length) v) := by
  obtain ⟨hl, h | ⟨g, off, cur, rfl, hg, hc, h1, h2⟩⟩ := hm.get hk
  · subst h; omega
  · refine ⟨_, rfl, ?_⟩
    rw [add_off]
    have hcur : off + cs.length < cur.size := by omega
    cases c with
    | zero => omega
    | succ c =>
      refine ⟨cur[off + cs.length], ?_, ?_, ?_⟩
      · simp only [World.cell?, hc, Option.isSome_none, Bool.false_eq_true, if_false]
        exact Array.getElem?_eq_getElem hcur
      · simp [World.frozen?, hc]
      · refine hm.turn hk rfl rfl ⟨by simp; omega, .inr ⟨g, off, cur.setIfInBounds (off + cs.length) v, rfl, hg, heap_set w g _ v e _ hc, by simpa using h1, ?_⟩⟩ (hm.low.setCell (p := ⟨g, off + cs.length, none⟩) hg v) (fun i hi => Below.heap_setCell w _ v i hi)
        intro j hj
        by_cases hjm : j = cs.length
        · subst hjm
          rw [Array.getElem?_setIfInBounds_self_of_lt hcur]
          simp
        · have : j < cs.length := by simp at hj; omega
          rw [Array.getElem?_setIfInBounds_ne (by omega), h2 j this, List.getElem?_append_left this]
theorem set_same {rs : List Res} {k : Nat} {r : Res} (hk : rs[k]? = some r) : rs.set k r = rs := by
  have hlt : k < rs.length := (List.getElem?_eq_some_iff.1 hk).1
  apply List.ext_getElem?
  intro m
  by_cases h : k = m
  · subst h; rw [List.getElem?_set_self hlt, hk]
  · rw [List.getElem?_set_ne h]
theorem run_snocs {k c e sz : Nat} {a : Addr} (ys : List Value) : ∀ (base i : Nat) (cs : List Value) (rs : List Res) (w : World), Mem w0 rs w → rs[k]? = some (.row (some a) c e sz cs) → base + i = cs.length → cs.length + ys.length ≤ c * sz → (∀ v ∈ ys, one v = true) →
    ∃ w', (storeCells (a.add base) ys i).run P w = .ok () w' ∧ Mem w0 (rs.set k (.row (some a) c e sz (cs ++ ys))) w' := by
  induction ys with
  | nil =>
    intro base i cs rs w hm hk _ _ _
    exact ⟨w, rfl, by rw [List.append_nil, set_same hk]; exact hm⟩
  | cons v ys ih =>
    intro base i cs rs w hm hk hbi hlen hone
    have hlt : k < rs.length := (List.getElem?_eq_some_iff.1 hk).1
    obtain ⟨a', ha', u, hcell, hfr, hm'⟩ := hm.snoc hk (by simp at hlen; omega) (hone v (by simp))
    cases ha'
    obtain ⟨w', hr, hmm⟩ := ih base (i + 1) (cs ++ [v]) _ _ hm' (List.getElem?_set_self hlt) (by simp; omega) (by simp at hlen ⊢; omega) (fun u hu => hone u (by simp [hu]))
    refine ⟨w', ?_, ?_⟩
    · show Sem.run P ((store ((a.add base).add i) v).bind fun _ => storeCells (a.add base) ys (i + 1)) w = _
      rw [add_add, hbi, run_to (run_store hcell hfr (hone v (by simp)))]
      exact hr
    · rw [List.set_set, List.append_assoc] at hmm
      exact hmm
theorem pow48 : (2 ^ 48 : Nat) = 281474976710656 := by simp
theorem growBy_le (newLen : Nat) : ∀ (r c : Nat), c ≤ 2 * newLen + 512 → Builtin.growBy newLen r c ≤ 2 * newLen + 512
  | 0, c, h => h
  | r + 1, c, h => by
    unfold Builtin.growBy
    split
    · exact h
    · exact growBy_le newLen r _ (by omega)
theorem nextslicecap_le {need c : Nat} (h : c < need) : Builtin.nextslicecap need c ≤ 2 * need + 512 := by
  unfold Builtin.nextslicecap
  split
  · omega
  · split
    · omega
    · exact growBy_le _ _ _ (by omega)
theorem run_firstCells {size m c : Nat} {B : Option Addr} {ys : List Value} (hR : Rd w0 rs B ys) (hl : ys.length = m * size) {w : World} (hm : Mem w0 rs w) : (Builtin.firstCells size m (.slice B m c)).run P w = .ok ys.toArray w := by
  cases B with
  | none =>
    have : ys = [] := by
      cases ys with
      | nil => rfl
      | cons v ys =>
        obtain ⟨a, ha, _⟩ := hR w hm 0 v rfl
        cases ha
    subst this
    rfl
  | some b =>
    have := run_loadCells (P := P) (w := w) (a := b) ys 0 #[] (fun j v hj => by
      obtain ⟨a, ha, hc⟩ := hR w hm j v hj
      cases ha
      simpa using hc)
    show (loadCells b (m * size)).run P w = _
    rw [← hl]
    show (loadCellsFrom b 0 ys.length #[]).run P w = _
    rw [this]
    simp
theorem cap_bound {need c b : Nat} (h : c < need) (hn : need ≤ 1099511627776) (hb : b ≤ 64) : Builtin.nextslicecap need c * b ≤ 281474976710656 :=
  Nat.le_trans (Nat.mul_le_mul_left _ hb) (num_bound (nextslicecap_le h) hn)
theorem run_append {t t' ty e sz b : Nat} {k sl c m c2 : Nat} {A B : Option Addr} {cs ys : List Value} {z : Value} {e' : TypeId} (hu : P.underlying t = some (.slice e)) (hu' : P.underlying t' = some (.slice e')) (hs : SzIs P e sz) (hb : BytesIs P e b) (hz : ZeroIs P e z) (hzs : z.cells.size = sz) (hpos : 0 < sz)
    {w : World} (hm : Mem w0 rs w) (hk : rs[k]? = some (.row A c e sz cs)) (hl : cs.length = sl * sz) (hR : Rd w0 rs B ys) (hly : ys.length = m * sz) (hone : ∀ v ∈ ys, one v = true) (hneed : sl + m ≤ 1099511627776) (hb1 : b ≤ 64) :
    ∃ (x : Option Addr × Nat) (w' : World), (Builtin.append_ #[t, t'] ty #[.slice A sl c, .slice B m c2]).run P w = .ok (.slice x.1 (sl + m) x.2) w' ∧ Mem w0 (rs.set k (.row x.1 x.2 e sz (cs ++ ys))) w' := by
  have hlt : k < rs.length := (List.getElem?_eq_some_iff.1 hk).1
  by_cases hcap : sl + m ≤ c
  · -- room
    have hfc := run_firstCells (P := P) (size := sz) (c := c2) hR hly hm
    have hok := (hm.get hk).1
    have hroom : cs.length + ys.length ≤ c * sz := by
      rw [hl, hly, ← Nat.add_mul]; exact Nat.mul_le_mul_right _ hcap
    cases A with
    | none =>
      have hc0 : c = 0 := by
        obtain ⟨_, h | ⟨g, off, cur, h, _⟩⟩ := hm.get hk
        · exact h
        · cases h
      have hys : ys = [] := List.length_eq_zero_iff.1 (by have := hroom; rw [hc0] at this; omega)
      subst hys
      refine ⟨(none, c), w, ?_, by rw [List.append_nil, set_same hk]; exact hm⟩
      refine (run_to (run_underlying hu w)).trans ?_
      refine (run_to (run_size hs w)).trans ?_
      refine (run_to (run_underlying hu' w)).trans ?_
      refine (run_to (v := false) (w' := w) rfl).trans ?_
      show Sem.run P (if false = true then _ else _) w = _
      rw [if_neg (by decide)]
      refine (run_to (m := Builtin.lenOf (.slice B m c2)) (v := m) (w' := w) rfl).trans ?_
      show Sem.run P (if sl + m ≤ c then _ else _) w = _
      rw [if_pos hcap]
      refine (run_to hfc).trans ?_
      rfl
    | some a =>
      obtain ⟨w', hr, hmm⟩ := run_snocs (P := P) ys (sl * sz) 0 cs rs w hm hk (by omega) hroom hone
      refine ⟨(some a, c), w', ?_, hmm⟩
      refine (run_to (run_underlying hu w)).trans ?_
      refine (run_to (run_size hs w)).trans ?_
      refine (run_to (run_underlying hu' w)).trans ?_
      refine (run_to (v := false) (w' := w) rfl).trans ?_
      show Sem.run P (if false = true then _ else _) w = _
      rw [if_neg (by decide)]
      refine (run_to (m := Builtin.lenOf (.slice B m c2)) (v := m) (w' := w) rfl).trans ?_
      show Sem.run P (if sl + m ≤ c then _ else _) w = _
      rw [if_pos hcap]
      refine (run_to hfc).trans ?_
      show Sem.run P ((storeCells (a.add (sl * sz)) (List.toArray ys).toList 0).bind fun _ => (pure (Value.slice (some a) (sl + m) c) : Sem Value)) w = _
      rw [run_to hr]; rfl
  · -- a new row
    have hd := hm.drew
    have hRA : Rd w0 rs A cs := Rd.row k hk
    have hold := run_firstCells (P := P) (size := sz) (c := c) hRA hl hd
    have hnew := run_firstCells (P := P) (size := sz) (c := c2) hR hly hd
    obtain ⟨i, hi, hib⟩ := run_typeInfo_bytes hb w
    obtain ⟨i2, hi2, hib2⟩ := run_typeInfo_bytes hb { w with drawn := w.drawn + 1 }
    have hcapb : Builtin.nextslicecap (sl + m) c * b ≤ 281474976710656 := cap_bound (by omega) hneed hb1
    let q : Question := .appendCap (sl + m) c e
    let N := q.cut (w.tape w.drawn q)
    have hN : sl + m ≤ N := Nat.le_add_right _ _
    let rest := Builtin.zeroCells z.cells (N - (sl + m))
    have hrs : rest.size = (N - (sl + m)) * sz := by simp [rest, Builtin.zeroCells, hzs]
    have hm2 := (hd.newRow e N sz (cs.toArray ++ ys.toArray ++ rest) (cs ++ ys) (by
      rw [List.length_append, hl, hly, ← Nat.add_mul]; exact Nat.mul_le_mul_right _ hN) (by
      simp only [Array.size_append, List.size_toArray, hrs, hl, hly]
      rw [← Nat.add_mul, ← Nat.add_mul]
      exact Nat.mul_le_mul_right _ (by omega)) (fun j hj => by
      rw [Array.getElem?_append_left (by simpa using hj)]
      simp)).replace k
    refine ⟨(some ⟨w.heap.size, 0, none⟩, N), _, ?_, hm2⟩
    refine (run_to (run_underlying hu w)).trans ?_
    refine (run_to (run_size hs w)).trans ?_
    refine (run_to (run_underlying hu' w)).trans ?_
    refine (run_to (v := false) (w' := w) rfl).trans ?_
    show Sem.run P (if false = true then _ else _) w = _
    rw [if_neg (by decide)]
    refine (run_to (m := Builtin.lenOf (.slice B m c2)) (v := m) (w' := w) rfl).trans ?_
    show Sem.run P (if sl + m ≤ c then _ else _) w = _
    rw [if_neg hcap]
    refine (run_to hi).trans ?_
    show Sem.run P (if ((sl + m : Nat) : Int) > IntKind.i64.max ∧ (false = true ∨ i.bytes = 0) then _ else _) w = _
    rw [if_neg (by
      intro h
      have h1 : ((sl + m : Nat) : Int) > 9223372036854775807 := h.1
      omega)]
    refine (run_to hi).trans ?_
    show Sem.run P (if Builtin.nextslicecap (sl + m) c * i.bytes > 2 ^ 48 then _ else _) w = _
    rw [hib, if_neg (Nat.not_lt.2 (Nat.le_trans hcapb (Nat.le_of_eq pow48.symm)))]
    have hch : (choose q).run P w = .ok N { w with drawn := w.drawn + 1 } := rfl
    refine (run_to hch).trans ?_
    refine (run_to hi2).trans ?_
    refine (run_to (run_askRoom _ _)).trans ?_
    refine (run_to hold).trans ?_
    refine (run_to hnew).trans ?_
    refine (run_to (run_zero hz _)).trans ?_
    rfl
/-- 'append(s, x...)': the row k grows, in place or anew. -/
theorem a_append {pr : Call} {x y : Operand} {t t' e e' sz b : Nat} (k : Nat) {sl c m c2 : Nat} {A B : Option Addr} {cs ys : List Value} {z : Value} (hu : P.underlying t = some (.slice e)) (hu' : P.underlying t' = some (.slice e')) (hs : SzIs P e sz) (hb : BytesIs P e b) (hz : ZeroIs P e z) (hzs : z.cells.size = sz) (hpos : 0 < sz) (hb1 : b ≤ 64)
    (hk : rs[k]? = some (.row A c e sz cs)) (ho : o.op = .call pr) (hc : pr.callee = .builtin .append) (ha : pr.args = #[x, y]) (ht : pr.argTypes = #[t, t']) (hx : ev E x = some (.slice A sl c)) (hy : ev E y = some (.slice B m c2)) (hl : cs.length = sl * sz) (hR : Rd w0 rs B ys) (hly : ys.length = m * sz) (hone : ∀ v ∈ ys, one v = true) (hneed : sl + m ≤ 1099511627776) :
    Acts P o n E w0 rs (fun q : Option Addr × Nat => .slice q.1 (sl + m) q.2) (fun q => rs.set k (.row q.1 q.2 e sz (cs ++ ys))) := acts_of_run fun a w he hm => by
  obtain ⟨q, w', hr, hm'⟩ := run_append (ty := o.type) (c2 := c2) hu hu' hs hb hz hzs hpos hm hk hl hR hly hone hneed hb1
  refine ⟨q, w', ?_, hm'⟩
  simp only [execOp, ho, resolve, hc, ha, ht, List.map_toArray, List.map_cons, List.map_nil, he.eval hx, he.eval hy]
  show Sem.run P ((Builtin.append_ #[t, t'] o.type #[.slice A sl c, .slice B m c2]).bind fun x => (pure (Next.value x) : Sem Next)) w = _
  rw [run_to hr]; rfl

/-! ### cuts -/
section
variable {t e sz : Nat} {x : Operand} {A : Option Addr} {m c : Nat}
theorem run_bound {k : IntKind} {i : Int} {y : Nat} {code : BoundsCode} (h0 : 0 ≤ i) (h1 : i ≤ y) (w : World) : (Instr.sliceBound (.int k i) y code).run P w = .ok i.toNat w := by
  show Sem.run P (if 0 ≤ i ∧ i ≤ y then (pure i.toNat : Sem Nat) else _) w = _
  rw [if_pos ⟨h0, h1⟩]; rfl
/-- 'x[lo:]' -/
theorem q_cut_lo {k : IntKind} {lo : Operand} {i : Int} (hu : P.underlying t = some (.slice e)) (hs : SzIs P e sz) (ho : o.op = .slice t x (some lo) none none) (hx : ev E x = some (.slice A m c)) (hlo : ev E lo = some (.int k i)) (h0 : 0 ≤ i) (h1 : i ≤ m) : Quiet P o n E w0 rs (.slice (cutA A c i.toNat sz) (m - i.toNat) (c - i.toNat)) := .of (fun ρ => Instr.sliceAt t (ρ x) (some (ρ lo)) none none) (fun ρ => by simp only [execOp, ho]; rfl) fun ρ w h hm => by
  simp only [h _ _ hx, h _ _ hlo]
  refine (run_to (run_underlying hu w)).trans ?_
  refine (run_to (run_underlying hu w)).trans ?_
  have hb : (Instr.sliceBounds true m c (some (.int k i)) none none).run P w = .ok (i.toNat, m, c) w := by
    refine (run_to (v := c) (w' := w) rfl).trans ?_
    refine (run_to (v := m) (w' := w) rfl).trans ?_
    exact (run_to (run_bound h0 h1 w)).trans rfl
  refine (run_to hb).trans ?_
  exact (run_to (run_size hs w)).trans rfl
/-- 'x[:hi]' -/
theorem q_cut_hi {k : IntKind} {hi : Operand} {i : Int} (hu : P.underlying t = some (.slice e)) (hs : SzIs P e sz) (ho : o.op = .slice t x none (some hi) none) (hx : ev E x = some (.slice A m c)) (hhi : ev E hi = some (.int k i)) (h0 : 0 ≤ i) (h1 : i ≤ c) : Quiet P o n E w0 rs (.slice (cutA A c 0 sz) (i.toNat - 0) (c - 0)) := .of (fun ρ => Instr.sliceAt t (ρ x) none (some (ρ hi)) none) (fun ρ => by simp only [execOp, ho]; rfl) fun ρ w h hm => by
  simp only [h _ _ hx, h _ _ hhi]
  refine (run_to (run_underlying hu w)).trans ?_
  refine (run_to (run_underlying hu w)).trans ?_
  have hb : (Instr.sliceBounds true m c none (some (.int k i)) none).run P w = .ok (0, i.toNat, c) w := by
    refine (run_to (v := c) (w' := w) rfl).trans ?_
    refine (run_to (run_bound h0 h1 w)).trans ?_
    exact (run_to (v := 0) (w' := w) rfl).trans rfl
  refine (run_to hb).trans ?_
  exact (run_to (run_size hs w)).trans rfl
theorem cutA_zero (A : Option Addr) (c sz : Nat) : cutA A c 0 sz = A := by
  unfold cutA
  split
  · rfl
  · cases A with
    | none => rfl
    | some a => simp [Addr.add]
/-- The head of a row that is cut from the front: from now on the rest is the row. -/
theorem Mem.cutRow {w : World} (hm : Mem w0 rs w) {k : Nat} {cs : List Value} (hk : rs[k]? = some (.row A c e sz cs)) (i : Nat) (hi : i ≤ c) : Mem w0 (rs.set k (.row (cutA A c i sz) (c - i) e sz (cs.drop (i * sz)))) w := by
  have hlt : k < rs.length := (List.getElem?_eq_some_iff.1 hk).1
  have hblk : ∀ g, (Res.row (cutA A c i sz) (c - i) e sz (cs.drop (i * sz))).blk = some g → (Res.row A c e sz cs).blk = some g := by
    intro g hg
    unfold cutA at hg
    split at hg
    · rename_i h; subst h; simp [Res.blk] at hg
    · cases A with
      | none => simp [Res.blk] at hg
      | some a =>
        cases hc : c - i with
        | zero => rw [hc] at hg; simp [Res.blk] at hg
        | succ d =>
          cases c with
          | zero => omega
          | succ c => rw [hc] at hg; simpa [Res.blk, add_block] using hg
  have hat : ∀ j g, blkAt (rs.set k (.row (cutA A c i sz) (c - i) e sz (cs.drop (i * sz)))) j = some g → blkAt rs j = some g := by
    intro j g hj
    unfold blkAt at hj ⊢
    by_cases h : k = j
    · subst h
      rw [List.getElem?_set_self hlt] at hj
      rw [hk]
      exact hblk g (by simpa using hj)
    · rwa [List.getElem?_set_ne h] at hj
  refine hm.map id ?_ (fun j g h => hat j g h) (fun a b g ha hb hab => hab)
  intro r hr
  rcases List.mem_or_eq_of_mem_set hr with hr | rfl
  · exact hm.ok r hr
  · obtain ⟨hl, h⟩ := hm.get hk
    refine ⟨by rw [List.length_drop, Nat.sub_mul]; omega, ?_⟩
    by_cases hci : c = i
    · left; omega
    · right
      rcases h with h | ⟨g, off, cur, rfl, hg, hc, h1, h2⟩
      · omega
      · refine ⟨g, off + i * sz, cur, ?_, hg, hc, ?_, ?_⟩
        · unfold cutA
          rw [if_neg hci, Option.map_some, add_off]
        · have : c * sz = i * sz + (c - i) * sz := by rw [← Nat.add_mul]; congr 1; omega
          omega
        · intro j hj
          rw [List.getElem?_drop, Nat.add_assoc]
          exact h2 _ (by rw [List.length_drop] at hj; omega)
theorem j_cutRow {K : Act → World → Prop} {cs : List Value} (k i : Nat) (hk : rs[k]? = some (.row A c e sz cs)) (hi : i ≤ c) (h : J K n E w0 (rs.set k (.row (cutA A c i sz) (c - i) e sz (cs.drop (i * sz))))) : J K n E w0 rs := fun a w he hm => h a w he (hm.cutRow hk i hi)
end

/-! ### cuts of strings -/
section
variable {t : Nat} {x lo hi : Operand} {s : ByteArray} {k k' : IntKind} {i j : Int}
theorem q_str_cut (hu : P.underlying t = some .string) (ho : o.op = .slice t x (some lo) (some hi) none) (hx : ev E x = some (.string s)) (hlo : ev E lo = some (.int k i)) (hhi : ev E hi = some (.int k' j)) (h0 : 0 ≤ i) (h1 : i ≤ j) (h2 : j ≤ s.size) : Quiet P o n E w0 rs (.string (s.extract i.toNat j.toNat)) := .of (fun ρ => Instr.sliceAt t (ρ x) (some (ρ lo)) (some (ρ hi)) none) (fun ρ => by simp only [execOp, ho]; rfl) fun ρ w h hm => by
  simp only [h _ _ hx, h _ _ hlo, h _ _ hhi]
  refine (run_to (run_underlying hu w)).trans ?_
  refine (run_to (run_underlying hu w)).trans ?_
  have hb : (Instr.sliceBounds false s.size s.size (some (.int k i)) (some (.int k' j)) none).run P w = .ok (i.toNat, j.toNat, s.size) w := by
    refine (run_to (v := s.size) (w' := w) rfl).trans ?_
    refine (run_to (run_bound (by omega) h2 w)).trans ?_
    exact (run_to (run_bound h0 (by omega) w)).trans rfl
  exact (run_to hb).trans rfl
theorem q_str_lo (hu : P.underlying t = some .string) (ho : o.op = .slice t x (some lo) none none) (hx : ev E x = some (.string s)) (hlo : ev E lo = some (.int k i)) (h0 : 0 ≤ i) (h1 : i ≤ s.size) : Quiet P o n E w0 rs (.string (s.extract i.toNat s.size)) := .of (fun ρ => Instr.sliceAt t (ρ x) (some (ρ lo)) none none) (fun ρ => by simp only [execOp, ho]; rfl) fun ρ w h hm => by
  simp only [h _ _ hx, h _ _ hlo]
  refine (run_to (run_underlying hu w)).trans ?_
  refine (run_to (run_underlying hu w)).trans ?_
  have hb : (Instr.sliceBounds false s.size s.size (some (.int k i)) none none).run P w = .ok (i.toNat, s.size, s.size) w := by
    refine (run_to (v := s.size) (w' := w) rfl).trans ?_
    refine (run_to (v := s.size) (w' := w) rfl).trans ?_
    exact (run_to (run_bound h0 h1 w)).trans rfl
  exact (run_to hb).trans rfl
theorem q_str_hi (hu : P.underlying t = some .string) (ho : o.op = .slice t x none (some hi) none) (hx : ev E x = some (.string s)) (hhi : ev E hi = some (.int k' j)) (h0 : 0 ≤ j) (h2 : j ≤ s.size) : Quiet P o n E w0 rs (.string (s.extract 0 j.toNat)) := .of (fun ρ => Instr.sliceAt t (ρ x) none (some (ρ hi)) none) (fun ρ => by simp only [execOp, ho]; rfl) fun ρ w h hm => by
  simp only [h _ _ hx, h _ _ hhi]
  refine (run_to (run_underlying hu w)).trans ?_
  refine (run_to (run_underlying hu w)).trans ?_
  have hb : (Instr.sliceBounds false s.size s.size none (some (.int k' j)) none).run P w = .ok (0, j.toNat, s.size) w := by
    refine (run_to (v := s.size) (w' := w) rfl).trans ?_
    refine (run_to (run_bound h0 h2 w)).trans ?_
    exact (run_to (v := 0) (w' := w) rfl).trans rfl
  exact (run_to hb).trans rfl
end

/-! ### a struct's value -/
def placesOf (P : Program) : TypeDesc → Option (List (Nat × Nat))
  | .struct fs => fs.toList.mapM fun f => (P.info? f.type).map fun i => (f.offset, i.size)
  | _ => none
def PlacesIs (P : Program) (t : Nat) (ps : List (Nat × Nat)) : Prop := (P.underlying t).bind (placesOf P) = some ps
theorem run_places {fs : List Field} : ∀ {ps : List (Nat × Nat)} (w : World), fs.mapM (fun f => (P.info? f.type).map fun i => (f.offset, i.size)) = some ps → (fs.mapM (fun f => (do pure (f.offset, ← sizeOf f.type) : Sem (Nat × Nat)))).run P w = .ok ps w := by
  induction fs with
  | nil => intro ps w h; simp at h; subst h; rfl
  | cons f fs ih =>
    intro ps w h
    rw [List.mapM_cons] at h ⊢
    cases hi : P.info? f.type with
    | none => simp [hi] at h
    | some i =>
      simp only [hi, Option.map_some, Option.bind_eq_bind, Option.bind_some] at h
      cases hr : fs.mapM (fun f => (P.info? f.type).map fun i => (f.offset, i.size)) with
      | none => simp [hr] at h
      | some qs =>
        simp only [hr, Option.bind_some, Option.pure_def, Option.some.injEq] at h
        subst h
        have h1 : (do pure (f.offset, ← sizeOf f.type) : Sem (Nat × Nat)).run P w = .ok (f.offset, i.size) w := by
          refine (run_to (run_size (s := i.size) (by simp [SzIs, hi]) w)).trans ?_
          rfl
        refine (run_to h1).trans ?_
        refine (run_to (ih w hr)).trans ?_
        rfl
theorem q_build {t : Nat} {parts : Array (Nat × Operand)} {l : List (Nat × Operand)} {vs : List (Nat × Value)} {ps : List (Nat × Nat)} {z : Value} {cs : List Value} (hz : ZeroIs P t z) (hp : PlacesIs P t ps) (ho : o.op = .build t parts) (hpl : parts = l.toArray) (hv : evp E l = some vs) (hf : fillL (ps[·]?) z.cells.toList vs = some cs) : Quiet P o n E w0 rs (.agg cs.toArray) := .of (fun ρ => Instr.build t (parts.map fun p => (p.1, ρ p.2))) (fun ρ => by simp only [execOp, ho]; rfl) fun ρ w h hm => by
  rw [hpl, List.map_toArray, evp_map h hv]
  unfold PlacesIs at hp
  cases hu : P.underlying t with
  | none => simp [hu] at hp
  | some u =>
    rw [hu] at hp
    refine (run_to (run_zero hz w)).trans ?_
    refine (run_to (run_underlying hu w)).trans ?_
    cases u <;> simp only [Option.bind_some, placesOf, reduceCtorEq] at hp
    rename_i fs
    have hm : (fs.mapM (fun f => (do pure (f.offset, ← sizeOf f.type) : Sem (Nat × Nat)))).run P w = .ok ps.toArray w := by
      rw [Array.mapM_eq_mapM_toList]
      exact (run_to (f := fun l : List (Nat × Nat) => (pure l.toArray : Sem (Array (Nat × Nat)))) (run_places w hp)).trans rfl
    refine (run_to hm).trans ?_
    have : Instr.fill (ps.toArray[·]?) z.cells (List.toArray vs).toList = some cs.toArray := by
      rw [fill_list]
      have he : (fun x : Nat => ps.toArray[x]?) = (fun x : Nat => ps[x]?) := by funext x; simp
      rw [he, hf]; rfl
    rw [this]; rfl
end
end Go.Proofs.YtnfaiojmabolmaaDoor.S
namespace Go.Proofs.YtnfaiojmabolmaaDoor.S
open Go Go.RowKit
set_option linter.unusedVariables false
set_option linter.unusedSimpArgs false
section
variable {n : Nat} {E : List (Nat × Value)} {w0 : World} {rs : List Res} {P : Program} {o : Oper}

/-! ### entry -/
theorem look_idx (vs : List Value) : ∀ (k i : Nat) (v : Value), look (idx k vs) i = some v → ∃ j, i = k + j ∧ vs[j]? = some v := by
  induction vs with
  | nil => intro k i v h; simp [idx, look] at h
  | cons u vs ih =>
    intro k i v h
    simp only [idx, look] at h
    cases hb : Nat.beq k i with
    | true =>
      have := Nat.eq_of_beq_eq_true hb
      subst this
      simp only [hb, cond_true] at h
      exact ⟨0, rfl, by simpa using h⟩
    | false =>
      simp only [hb, cond_false] at h
      obtain ⟨j, rfl, hj⟩ := ih (k + 1) i v h
      exact ⟨j + 1, by omega, by simpa using hj⟩
theorem calls_of_J {f : FuncId} {fn : Func} {c : Code} {vs : List Value} {w : World} {R : Ending → World → Prop} (hf : P.funcs[f]? = some fn) (hb : fn.body = some c) (hn : fn.ntmps = n) (hl : Nat.ble vs.length n = true) (hm : Mem w0 rs w)
    (h : J (c.wp P (bodyPost P fn R)) n (idx 0 vs) w0 rs) : Calls P f vs.toArray w R := by
  refine calls_of_wp hf hb (h _ w ⟨?_, rfl, ?_⟩ hm)
  · have : vs.length ≤ n := by simpa [Nat.ble_eq] using hl
    simp [hn]; omega
  · intro i v hi
    obtain ⟨j, rfl, hj⟩ := look_idx vs 0 i v hi
    have hlt : j < vs.length := (List.getElem?_eq_some_iff.1 hj).1
    rw [Nat.zero_add, Array.getElem?_append_left (by simpa using hlt)]
    simpa using hj

/-! ### exit -/
inductive ResOf (P : Program) (E : List (Nat × Value)) (rs : List Res) : List ResultVar → List Value → Prop where
  | nil : ResOf P E rs [] []
  | tmp {t : Nat} {v : Value} {l : List ResultVar} {vs : List Value} (h : look E t = some v) (hl : ResOf P E rs l vs) : ResOf P E rs (.tmp t :: l) (v :: vs)
  | cell (k : Nat) {a ty g t' : Nat} {cs : List Value} {l : List ResultVar} {vs : List Value} (h : look E a = some (.pointer (some ⟨g, 0, none⟩))) (hk : rs[k]? = some (.box g t' cs)) (hg : AggIs P ty true) (hs : SzIs P ty cs.length) (hl : ResOf P E rs l vs) : ResOf P E rs (.cell a ty :: l) (.agg cs.toArray :: vs)
def pack : List Value → Value
  | [v] => v
  | vs => .tuple vs.toArray
def resOne (tmps : Array Value) : ResultVar → Sem Value
  | .tmp t => pure (tmps.getD t undef)
  | .cell a t => do loadVar t (← asAddr (tmps.getD a undef))
theorem run_res {a : Act} {w : World} (he : EnvOk a n E) (hm : Mem w0 rs w) {l : List ResultVar} {vs : List Value} (h : ResOf P E rs l vs) : (l.mapM (resOne a.tmps)).run P w = .ok vs w := by
  induction h with
  | nil => rfl
  | tmp ht _ ih =>
    rename_i x v l vs _
    rw [List.mapM_cons]
    have h1 := he.get _ _ ht
    have h2 : (resOne a.tmps (.tmp x)).run P w = .ok v w := by
      show Result.ok (a.tmps.getD x undef) w = _
      rw [Array.getD_eq_getD_getElem?, h1]; rfl
    refine (run_to h2).trans ?_
    exact (run_to ih).trans rfl
  | cell k ht hk hg hs _ ih =>
    rename_i x ty g t' cs l vs _
    rw [List.mapM_cons]
    have h1 := he.get _ _ ht
    have h2 : (resOne a.tmps (.cell x ty)).run P w = .ok (.agg cs.toArray) w := by
      show Sem.run P ((asAddr (a.tmps.getD x undef)).bind fun b => loadVar ty b) w = _
      rw [Array.getD_eq_getD_getElem?, h1]
      refine (run_to (v := (⟨g, 0, none⟩ : Addr)) (w' := w) rfl).trans ?_
      exact run_loadVar_agg hg hs (fun j v hj => by rw [add_off, Nat.zero_add]; exact hm.cell hk hj)
    refine (run_to h2).trans ?_
    exact (run_to ih).trans rfl
theorem run_results {fn : Func} {a : Act} {w : World} (he : EnvOk a n E) (hm : Mem w0 rs w) {l : List ResultVar} {vs : List Value} (hr : fn.results = l.toArray) (h : ResOf P E rs l vs) : (results fn a.tmps).run P w = .ok (pack vs) w := by
  have hmap : (fn.results.mapM (resOne a.tmps)).run P w = .ok vs.toArray w := by
    rw [hr, Array.mapM_eq_mapM_toList]
    exact (run_to (f := fun l : List Value => (pure l.toArray : Sem (Array Value))) (run_res he hm h)).trans rfl
  refine (run_to hmap).trans ?_
  show Result.ok (if h : vs.toArray.size = 1 then vs.toArray[0] else Value.tuple vs.toArray) w = _
  match vs with
  | [] => rfl
  | [v] => rfl
  | _ :: _ :: _ => rfl
theorem j_return {fn : Func} {l : List ResultVar} {vs : List Value} {v : Value} {R : Ending → World → Prop} (hr : fn.results = l.toArray) (h : ResOf P E rs l vs) (hv : pack vs = v) (hR : ∀ w, Mem w0 rs w → R (.returned v) w) : J (bodyPost P fn R .ret) n E w0 rs := fun a w he hm =>
  ⟨he.defers, v, hv ▸ run_results he hm hr h, hR w hm⟩
theorem j_return_end {fn : Func} {l : List ResultVar} {vs : List Value} {v : Value} {R : Ending → World → Prop} (hr : fn.results = l.toArray) (h : ResOf P E rs l vs) (hv : pack vs = v) (hR : ∀ w, Mem w0 rs w → R (.returned v) w) : J (bodyPost P fn R .normal) n E w0 rs := fun a w he hm =>
  ⟨he.defers, v, hv ▸ run_results he hm hr h, hR w hm⟩

/-! ### rows of numbers, bools, strings -/
def ints (k : IntKind) (xs : List Int) : List Value := xs.map (Value.int k)
def bls (xs : List Bool) : List Value := xs.map Value.bool
def strs (xs : List ByteArray) : List Value := xs.map Value.string
def rd (xs : List Int) (i : Int) : Int := xs.getD i.toNat 0
def rdb (xs : List Bool) (i : Int) : Bool := xs.getD i.toNat false
def rds (xs : List ByteArray) (i : Int) : ByteArray := xs.getD i.toNat ByteArray.empty
theorem ints_len (k : IntKind) (xs : List Int) : (ints k xs).length = xs.length := by simp [ints]
theorem bls_len (xs : List Bool) : (bls xs).length = xs.length := by simp [bls]
theorem strs_len (xs : List ByteArray) : (strs xs).length = xs.length := by simp [strs]
theorem ints_get {k : IntKind} {xs : List Int} {i : Int} (h0 : 0 ≤ i) (h1 : i < xs.length) : (ints k xs)[i.toNat * 1]? = some (.int k (rd xs i)) := by
  have : i.toNat < xs.length := by omega
  simp [ints, rd, this]
theorem bls_get {xs : List Bool} {i : Int} (h0 : 0 ≤ i) (h1 : i < xs.length) : (bls xs)[i.toNat * 1]? = some (.bool (rdb xs i)) := by
  have : i.toNat < xs.length := by omega
  simp [bls, rdb, this]
theorem strs_get {xs : List ByteArray} {i : Int} (h0 : 0 ≤ i) (h1 : i < xs.length) : (strs xs)[i.toNat * 1]? = some (.string (rds xs i)) := by
  have : i.toNat < xs.length := by omega
  simp [strs, rds, this]
theorem ints_set (k : IntKind) (xs : List Int) (m : Nat) (v : Int) : (ints k xs).set (m * 1) (.int k v) = ints k (xs.set m v) := by simp [ints, List.map_set]
theorem bls_set (xs : List Bool) (m : Nat) (v : Bool) : (bls xs).set (m * 1) (.bool v) = bls (xs.set m v) := by simp [bls, List.map_set]
theorem strs_set (xs : List ByteArray) (m : Nat) (v : ByteArray) : (strs xs).set (m * 1) (.string v) = strs (xs.set m v) := by simp [strs, List.map_set]
theorem ints_app (k : IntKind) (xs ys : List Int) : ints k xs ++ ints k ys = ints k (xs ++ ys) := by simp [ints]
theorem bls_app (xs ys : List Bool) : bls xs ++ bls ys = bls (xs ++ ys) := by simp [bls]
theorem strs_app (xs ys : List ByteArray) : strs xs ++ strs ys = strs (xs ++ ys) := by simp [strs]
theorem ints_one (k : IntKind) (xs : List Int) : ∀ v ∈ ints k xs, one v = true := fun v hv => by obtain ⟨x, _, rfl⟩ := List.mem_map.1 hv; rfl
theorem bls_one (xs : List Bool) : ∀ v ∈ bls xs, one v = true := fun v hv => by obtain ⟨x, _, rfl⟩ := List.mem_map.1 hv; rfl
theorem strs_one (xs : List ByteArray) : ∀ v ∈ strs xs, one v = true := fun v hv => by obtain ⟨x, _, rfl⟩ := List.mem_map.1 hv; rfl
theorem ints_rep (k : IntKind) (m : Nat) (v : Int) : List.replicate m (.int k v) = ints k (List.replicate m v) := by simp [ints]
theorem bls_rep (m : Nat) (v : Bool) : List.replicate m (.bool v) = bls (List.replicate m v) := by simp [bls]
theorem ints_drop (k : IntKind) (xs : List Int) (m : Nat) : (ints k xs).drop (m * 1) = ints k (xs.drop m) := by simp [ints]
theorem ints_take (k : IntKind) (xs : List Int) (m : Nat) : (ints k xs).take m = ints k (xs.take m) := by simp [ints]
/-- Operations, three numbers each. -/
def trips (xs : List (Int × Int × Int)) : List Value := xs.flatMap fun p => [.int .i64 p.1, .int .i64 p.2.1, .int .i64 p.2.2]
def rdt (xs : List (Int × Int × Int)) (i : Int) : Int × Int × Int := xs.getD i.toNat (0, 0, 0)
theorem trips_len (xs : List (Int × Int × Int)) : (trips xs).length = xs.length * 3 := by
  induction xs with
  | nil => rfl
  | cons x xs ih => simp only [trips, List.flatMap_cons, List.length_append, List.length_cons, List.length_nil] at *; omega
theorem trips_get {xs : List (Int × Int × Int)} {i : Int} (h0 : 0 ≤ i) (h1 : i < xs.length) : ∀ j : Nat, j < 3 → (trips xs)[i.toNat * 3 + j]? = [Value.int .i64 (rdt xs i).1, .int .i64 (rdt xs i).2.1, .int .i64 (rdt xs i).2.2][j]? := by
  have hk : i.toNat < xs.length := by omega
  unfold rdt
  generalize i.toNat = m at *
  intro j hj
  clear h0 h1
  induction xs generalizing m with
  | nil => simp at hk
  | cons x xs ih =>
    cases m with
    | zero =>
      match j, hj with
      | 0, _ => rfl
      | 1, _ => rfl
      | 2, _ => rfl
    | succ m =>
      have := ih m (by simpa using hk)
      simp only [trips, List.flatMap_cons] at *
      rw [List.getElem?_append_right (by simp; omega)]
      simp only [List.length_cons, List.length_nil]
      rw [show (m + 1) * 3 + j - (0 + 1 + 1 + 1) = m * 3 + j by omega]
      simpa using this
theorem trips_app (xs ys : List (Int × Int × Int)) : trips xs ++ trips ys = trips (xs ++ ys) := by simp [trips]
theorem trips_one (xs : List (Int × Int × Int)) : ∀ v ∈ trips xs, one v = true := fun v hv => by
  obtain ⟨x, _, hx⟩ := List.mem_flatMap.1 hv
  simp at hx
  rcases hx with rfl | rfl | rfl <;> rfl

/-! ### reads and stores at such rows -/
section
variable {t : TypeId} {x y : Operand} {A : Option Addr}
theorem q_loadI {k : IntKind} {xs : List Int} {i : Int} (hR : Rd w0 rs A (ints k xs)) (hg : AggIs P t false) (h0 : 0 ≤ i) (h1 : i < xs.length) (ho : o.op = .load t x) (hx : ev E x = some (.pointer (A.map (·.add (i.toNat * 1))))) : Quiet P o n E w0 rs (.int k (rd xs i)) := q_load hR hg ho hx (ints_get h0 h1)
theorem q_loadB {xs : List Bool} {i : Int} (hR : Rd w0 rs A (bls xs)) (hg : AggIs P t false) (h0 : 0 ≤ i) (h1 : i < xs.length) (ho : o.op = .load t x) (hx : ev E x = some (.pointer (A.map (·.add (i.toNat * 1))))) : Quiet P o n E w0 rs (.bool (rdb xs i)) := q_load hR hg ho hx (bls_get h0 h1)
theorem q_loadS {xs : List ByteArray} {i : Int} (hR : Rd w0 rs A (strs xs)) (hg : AggIs P t false) (h0 : 0 ≤ i) (h1 : i < xs.length) (ho : o.op = .load t x) (hx : ev E x = some (.pointer (A.map (·.add (i.toNat * 1))))) : Quiet P o n E w0 rs (.string (rds xs i)) := q_load hR hg ho hx (strs_get h0 h1)
theorem q_loadT {xs : List (Int × Int × Int)} {i : Int} (hR : Rd w0 rs A (trips xs)) (hg : AggIs P t true) (hs : SzIs P t 3) (h0 : 0 ≤ i) (h1 : i < xs.length) (ho : o.op = .load t x) (hx : ev E x = some (.pointer (A.map (·.add (i.toNat * 3))))) : Quiet P o n E w0 rs (.agg #[.int .i64 (rdt xs i).1, .int .i64 (rdt xs i).2.1, .int .i64 (rdt xs i).2.2]) :=
  q_load_agg (vs := [.int .i64 (rdt xs i).1, .int .i64 (rdt xs i).2.1, .int .i64 (rdt xs i).2.2]) hR hg hs ho hx (by simp) (fun j hj => trips_get h0 h1 j hj)
theorem a_storeI (k : Nat) {kd : IntKind} {c e : Nat} {xs : List Int} {i v : Int} (hk : rs[k]? = some (.row A c e 1 (ints kd xs))) (hs : SzIs P t 1) (h0 : 0 ≤ i) (h1 : i < xs.length) (ho : o.op = .store t x y) (hx : ev E x = some (.pointer (A.map (·.add (i.toNat * 1))))) (hy : ev E y = some (.int kd v)) :
    Acts P o n E w0 rs (fun _ : Unit => undef) (fun _ => rs.set k (.row A c e 1 (ints kd (xs.set i.toNat v)))) := by
  rw [← ints_set]
  exact a_store k hk hs ho hx hy rfl (by rw [ints_len]; omega)
theorem q_addrI {k : IntKind} {e s : Nat} {kd : IntKind} {i : Int} {m c : Nat} {cs : List Value} (hR : Rd w0 rs A cs) (hl : 0 < cs.length) (hu : P.underlying t = some (.slice e)) (hs : SzIs P e s) (ho : o.op = .indexAddr t x y) (hx : ev E x = some (.slice A m c)) (hy : ev E y = some (.int k i)) (h0 : 0 ≤ i) (h1 : i < m) : Quiet P o n E w0 rs (.pointer (A.map (·.add (i.toNat * s)))) :=
  q_indexAddr hu hs ho hx hy h0 h1 (hR.addr hl)
end
/-- A row's length fits its room. -/
theorem Mem.room {w : World} (hm : Mem w0 rs w) (k : Nat) {A : Option Addr} {c e : Nat} {cs : List Value} (hk : rs[k]? = some (.row A c e 1 cs)) : cs.length ≤ c := by
  have := (hm.get hk).1
  omega
theorem Mem.room3 {w : World} (hm : Mem w0 rs w) (k : Nat) {A : Option Addr} {c e : Nat} {cs : List Value} (hk : rs[k]? = some (.row A c e 3 cs)) : cs.length ≤ c * 3 := (hm.get hk).1
end
end Go.Proofs.YtnfaiojmabolmaaDoor.S
namespace Go.Proofs.YtnfaiojmabolmaaDoor.S
open Go Go.RowKit
set_option linter.unusedVariables false
set_option linter.unusedSimpArgs false

/-! ### decisions -/
theorem of_if {α : Type} {p : Prop} [Decidable p] {a b o : α} (h : (if p then a else b) = o) : (p ∧ a = o) ∨ (¬p ∧ b = o) := by
  by_cases c : p
  · rw [if_pos c] at h; exact .inl ⟨c, h⟩
  · rw [if_neg c] at h; exact .inr ⟨c, h⟩
theorem of_guard {α : Type} {p : Prop} [Decidable p] {a : Option α} {r : α} (h : (if p then a else none) = some r) : p ∧ a = some r := by
  rcases of_if h with h | h
  · exact h
  · exact absurd h.2 nofun
def b1 {α β : Type} (o : Option α) (f : α → Option β) : Option β := o.bind f
def b2 {α α' β : Type} (o : Option (α × α')) (f : α → α' → Option β) : Option β := o.bind fun x => f x.1 x.2
def b3 {α α' α'' β : Type} (o : Option (α × α' × α'')) (f : α → α' → α'' → Option β) : Option β := o.bind fun x => f x.1 x.2.1 x.2.2
def b4 {α1 α2 α3 α4 β : Type} (o : Option (α1 × α2 × α3 × α4)) (f : α1 → α2 → α3 → α4 → Option β) : Option β := o.bind fun x => f x.1 x.2.1 x.2.2.1 x.2.2.2
def b5 {α1 α2 α3 α4 α5 β : Type} (o : Option (α1 × α2 × α3 × α4 × α5)) (f : α1 → α2 → α3 → α4 → α5 → Option β) : Option β := o.bind fun x => f x.1 x.2.1 x.2.2.1 x.2.2.2.1 x.2.2.2.2
def b6 {α1 α2 α3 α4 α5 α6 β : Type} (o : Option (α1 × α2 × α3 × α4 × α5 × α6)) (f : α1 → α2 → α3 → α4 → α5 → α6 → Option β) : Option β := o.bind fun x => f x.1 x.2.1 x.2.2.1 x.2.2.2.1 x.2.2.2.2.1 x.2.2.2.2.2
def b7 {α1 α2 α3 α4 α5 α6 α7 β : Type} (o : Option (α1 × α2 × α3 × α4 × α5 × α6 × α7)) (f : α1 → α2 → α3 → α4 → α5 → α6 → α7 → Option β) : Option β := o.bind fun x => f x.1 x.2.1 x.2.2.1 x.2.2.2.1 x.2.2.2.2.1 x.2.2.2.2.2.1 x.2.2.2.2.2.2
def b8 {α1 α2 α3 α4 α5 α6 α7 α8 β : Type} (o : Option (α1 × α2 × α3 × α4 × α5 × α6 × α7 × α8)) (f : α1 → α2 → α3 → α4 → α5 → α6 → α7 → α8 → Option β) : Option β := o.bind fun x => f x.1 x.2.1 x.2.2.1 x.2.2.2.1 x.2.2.2.2.1 x.2.2.2.2.2.1 x.2.2.2.2.2.2.1 x.2.2.2.2.2.2.2
def b9 {α1 α2 α3 α4 α5 α6 α7 α8 α9 β : Type} (o : Option (α1 × α2 × α3 × α4 × α5 × α6 × α7 × α8 × α9)) (f : α1 → α2 → α3 → α4 → α5 → α6 → α7 → α8 → α9 → Option β) : Option β := o.bind fun x => f x.1 x.2.1 x.2.2.1 x.2.2.2.1 x.2.2.2.2.1 x.2.2.2.2.2.1 x.2.2.2.2.2.2.1 x.2.2.2.2.2.2.2.1 x.2.2.2.2.2.2.2.2
def b10 {α1 α2 α3 α4 α5 α6 α7 α8 α9 α10 β : Type} (o : Option (α1 × α2 × α3 × α4 × α5 × α6 × α7 × α8 × α9 × α10)) (f : α1 → α2 → α3 → α4 → α5 → α6 → α7 → α8 → α9 → α10 → Option β) : Option β := o.bind fun x => f x.1 x.2.1 x.2.2.1 x.2.2.2.1 x.2.2.2.2.1 x.2.2.2.2.2.1 x.2.2.2.2.2.2.1 x.2.2.2.2.2.2.2.1 x.2.2.2.2.2.2.2.2.1 x.2.2.2.2.2.2.2.2.2
theorem of_b1 {α β : Type} {o : Option α} {f : α → Option β} {r : β} (h : b1 o f = some r) : ∃ x, o = some x ∧ f x = some r := Option.bind_eq_some_iff.1 h
theorem of_b2 {α α' β : Type} {o : Option (α × α')} {f : α → α' → Option β} {r : β} (h : b2 o f = some r) : ∃ x y, o = some (x, y) ∧ f x y = some r := by
  obtain ⟨⟨x, y⟩, h1, h2⟩ := Option.bind_eq_some_iff.1 h; exact ⟨x, y, h1, h2⟩
theorem of_b3 {α α' α'' β : Type} {o : Option (α × α' × α'')} {f : α → α' → α'' → Option β} {r : β} (h : b3 o f = some r) : ∃ x y z, o = some (x, y, z) ∧ f x y z = some r := by
  obtain ⟨⟨x, y, z⟩, h1, h2⟩ := Option.bind_eq_some_iff.1 h; exact ⟨x, y, z, h1, h2⟩
theorem of_b4 {α1 α2 α3 α4 β : Type} {o : Option (α1 × α2 × α3 × α4)} {f : α1 → α2 → α3 → α4 → Option β} {r : β} (h : b4 o f = some r) : ∃ a b c d, o = some (a, b, c, d) ∧ f a b c d = some r := by
  obtain ⟨⟨a, b, c, d⟩, h1, h2⟩ := Option.bind_eq_some_iff.1 h; exact ⟨a, b, c, d, h1, h2⟩
theorem of_b5 {α1 α2 α3 α4 α5 β : Type} {o : Option (α1 × α2 × α3 × α4 × α5)} {f : α1 → α2 → α3 → α4 → α5 → Option β} {r : β} (h : b5 o f = some r) : ∃ a b c d e, o = some (a, b, c, d, e) ∧ f a b c d e = some r := by
  obtain ⟨⟨a, b, c, d, e⟩, h1, h2⟩ := Option.bind_eq_some_iff.1 h; exact ⟨a, b, c, d, e, h1, h2⟩
theorem of_b6 {α1 α2 α3 α4 α5 α6 β : Type} {o : Option (α1 × α2 × α3 × α4 × α5 × α6)} {f : α1 → α2 → α3 → α4 → α5 → α6 → Option β} {r : β} (h : b6 o f = some r) : ∃ a b c d e g, o = some (a, b, c, d, e, g) ∧ f a b c d e g = some r := by
  obtain ⟨⟨a, b, c, d, e, g⟩, h1, h2⟩ := Option.bind_eq_some_iff.1 h; exact ⟨a, b, c, d, e, g, h1, h2⟩
theorem of_b7 {α1 α2 α3 α4 α5 α6 α7 β : Type} {o : Option (α1 × α2 × α3 × α4 × α5 × α6 × α7)} {f : α1 → α2 → α3 → α4 → α5 → α6 → α7 → Option β} {r : β} (h : b7 o f = some r) : ∃ a b c d e g i, o = some (a, b, c, d, e, g, i) ∧ f a b c d e g i = some r := by
  obtain ⟨⟨a, b, c, d, e, g, i⟩, h1, h2⟩ := Option.bind_eq_some_iff.1 h; exact ⟨a, b, c, d, e, g, i, h1, h2⟩
theorem of_b8 {α1 α2 α3 α4 α5 α6 α7 α8 β : Type} {o : Option (α1 × α2 × α3 × α4 × α5 × α6 × α7 × α8)} {f : α1 → α2 → α3 → α4 → α5 → α6 → α7 → α8 → Option β} {r : β} (h : b8 o f = some r) : ∃ a b c d e g i j, o = some (a, b, c, d, e, g, i, j) ∧ f a b c d e g i j = some r := by
  obtain ⟨⟨a, b, c, d, e, g, i, j⟩, h1, h2⟩ := Option.bind_eq_some_iff.1 h; exact ⟨a, b, c, d, e, g, i, j, h1, h2⟩
theorem of_b9 {α1 α2 α3 α4 α5 α6 α7 α8 α9 β : Type} {o : Option (α1 × α2 × α3 × α4 × α5 × α6 × α7 × α8 × α9)} {f : α1 → α2 → α3 → α4 → α5 → α6 → α7 → α8 → α9 → Option β} {r : β} (h : b9 o f = some r) : ∃ a b c d e g i j k, o = some (a, b, c, d, e, g, i, j, k) ∧ f a b c d e g i j k = some r := by
  obtain ⟨⟨a, b, c, d, e, g, i, j, k⟩, h1, h2⟩ := Option.bind_eq_some_iff.1 h; exact ⟨a, b, c, d, e, g, i, j, k, h1, h2⟩
theorem of_b10 {α1 α2 α3 α4 α5 α6 α7 α8 α9 α10 β : Type} {o : Option (α1 × α2 × α3 × α4 × α5 × α6 × α7 × α8 × α9 × α10)} {f : α1 → α2 → α3 → α4 → α5 → α6 → α7 → α8 → α9 → α10 → Option β} {r : β} (h : b10 o f = some r) : ∃ a b c d e g i j k l, o = some (a, b, c, d, e, g, i, j, k, l) ∧ f a b c d e g i j k l = some r := by
  obtain ⟨⟨a, b, c, d, e, g, i, j, k, l⟩, h1, h2⟩ := Option.bind_eq_some_iff.1 h; exact ⟨a, b, c, d, e, g, i, j, k, l, h1, h2⟩
theorem bne_f {α : Type} [BEq α] [LawfulBEq α] {a b : α} (h : a = b) : (a != b) = false := by subst h; simp
theorem bne_t {α : Type} [BEq α] [LawfulBEq α] {a b : α} (h : ¬a = b) : (a != b) = true := by simpa using h
theorem beq_f {α : Type} [BEq α] [LawfulBEq α] {a b : α} (h : ¬a = b) : (a == b) = false := by simpa using h
theorem beq_t {α : Type} [BEq α] [LawfulBEq α] {a b : α} (h : a = b) : (a == b) = true := by simpa using h
theorem not_t {b : Bool} (h : b = false) : (!b) = true := by rw [h]; rfl
theorem not_f {b : Bool} (h : b = true) : (!b) = false := by rw [h]; rfl
theorem var_f {b : Bool} (h : ¬b = true) : b = false := by simpa using h

section
variable {n : Nat} {E : List (Nat × Value)} {w0 : World} {rs : List Res} {P : Program} {o : Oper}
/-! ### ghosts -/
/-- Where a new row lies, and that its length is k. -/
structure Sl (k : Nat) : Type where
  A : Option Addr
  n : Nat
  c : Nat
  h : k = n
/-- A row's length has not turned. -/
structure Ln (k n : Nat) : Type where
  h : k = n
theorem ex_k {α : Sort _} {g : α → Prop} {x : α} (h : g x) : ∃ κ, g κ ∧ x = κ := ⟨x, h, rfl⟩
theorem d_join {ops : Array Oper} {Q : Exit → Act → World → Prop} {S : List Res} {fuel : Nat} {listed : Array Bool} {σ : Type} (fuel' : Nat) (listed' : Array Bool) (Es : σ → List (Nat × Value)) (Rs : σ → List Res)
    (hnext : ∀ s, J (Dr P ops Q w0 S fuel' listed') n (Es s) w0 (Rs s)) (h : (∀ s, J (Dr P ops Q w0 S fuel' listed') n (Es s) w0 (Rs s)) → J (Dr P ops Q w0 S fuel listed) n E w0 rs) : J (Dr P ops Q w0 S fuel listed) n E w0 rs := h hnext
theorem d_four {ops : Array Oper} {Q : Exit → Act → World → Prop} {S : List Res} {fuel : Nat} {listed : Array Bool} (i j m l : Nat) (hr : Region.ready .any ops listed = [i, j, m, l]) (h : J (One P ops (NoPanic Q) w0 S fuel listed i) n E w0 rs) (h' : J (One P ops (NoPanic Q) w0 S fuel listed j) n E w0 rs) (h'' : J (One P ops (NoPanic Q) w0 S fuel listed m) n E w0 rs) (h3 : J (One P ops (NoPanic Q) w0 S fuel listed l) n E w0 rs) : J (Dr P ops (NoPanic Q) w0 S (fuel + 1) listed) n E w0 rs := fun a w he hm =>
  wpAnyH_all hr (by simp) (fun k hk => by
    have : k = i ∨ k = j ∨ k = m ∨ k = l := by simpa using hk
    rcases this with rfl | rfl | rfl | rfl
    · exact h a w he hm
    · exact h' a w he hm
    · exact h'' a w he hm
    · exact h3 a w he hm)
theorem d_five {ops : Array Oper} {Q : Exit → Act → World → Prop} {S : List Res} {fuel : Nat} {listed : Array Bool} (i j m l q : Nat) (hr : Region.ready .any ops listed = [i, j, m, l, q]) (h : J (One P ops (NoPanic Q) w0 S fuel listed i) n E w0 rs) (h' : J (One P ops (NoPanic Q) w0 S fuel listed j) n E w0 rs) (h'' : J (One P ops (NoPanic Q) w0 S fuel listed m) n E w0 rs) (h3 : J (One P ops (NoPanic Q) w0 S fuel listed l) n E w0 rs) (h4 : J (One P ops (NoPanic Q) w0 S fuel listed q) n E w0 rs) : J (Dr P ops (NoPanic Q) w0 S (fuel + 1) listed) n E w0 rs := fun a w he hm =>
  wpAnyH_all hr (by simp) (fun k hk => by
    have : k = i ∨ k = j ∨ k = m ∨ k = l ∨ k = q := by simpa using hk
    rcases this with rfl | rfl | rfl | rfl | rfl
    · exact h a w he hm
    · exact h' a w he hm
    · exact h'' a w he hm
    · exact h3 a w he hm
    · exact h4 a w he hm)
/-! ### a guard that was itself left out -/
theorem wanted_un {a : Act} {j : Nat} {want : Bool} {d : Nat} {o oj : Oper} {ops : Array Oper} (he : EnvOk a n E) (hg : o.guard = some (j, want)) (hj : ops[j]? = some oj) (hd : oj.dst = some d) (hb : look E d = some undef) : Region.wanted o (yielded ops a.tmps) = false := by
  have ht : a.tmps[d]? = some undef := he.get d _ hb
  simp only [Region.wanted, hg]
  simp [yielded, hj, hd, ht, undef]
theorem r_offu {ops : Array Oper} {l : List Oper} {Q : Exit → Act → World → Prop} {j : Nat} {want : Bool} {d : Nat} {oj : Oper} (hg : o.guard = some (j, want)) (hj : ops[j]? = some oj) (hdj : oj.dst = some d) (hb : look E d = some undef) (hd : okD o.dst n = true)
    (h : J (Rg P ops Q l) n (putE o.dst undef E) w0 rs) : J (Rg P ops Q (o :: l)) n E w0 rs := fun a w he hm =>
  wpList_step fun K hK => by
    rw [wanted_un he hg hj hdj hb]
    exact hK _ _ (h _ _ (he.put hd _) hm)
theorem d_take_offu {ops : Array Oper} {Q : Exit → Act → World → Prop} {S : List Res} {fuel : Nat} {listed : Array Bool} (i : Nat) {oi : Oper} (hi : ops[i]? = some oi) {j : Nat} {want : Bool} {d : Nat} {oj : Oper} (hg : oi.guard = some (j, want)) (hj : ops[j]? = some oj) (hdj : oj.dst = some d) (hb : look E d = some undef)
    (hd : okD oi.dst n = true) (hs : Region.noSelect ops = true)
    (hf : Region.free .any ops listed i = true) (hr : (Region.ready .any ops listed).contains i = true) (hsub : ∀ w, Mem w0 rs w → Mem w0 S w)
    (h : J (Dr P ops (NoPanic Q) w0 S fuel (listed.setIfInBounds i true)) n (putE oi.dst undef E) w0 rs) : J (Dr P ops (NoPanic Q) w0 S (fuel + 1) listed) n E w0 rs := fun a w he hm =>
  wpAnyH_take hi hs hf hr (fun _ _ _ h => h) (.inr ⟨wanted_un he hg hj hdj hb, rfl⟩) (hsub w hm) (h _ w (he.put hd undef) hm)
theorem o_offu {ops : Array Oper} {Q : Exit → Act → World → Prop} {S : List Res} {fuel : Nat} {listed : Array Bool} {i : Nat} (hi : ops[i]? = some o) {j : Nat} {want : Bool} {d : Nat} {oj : Oper} (hg : o.guard = some (j, want)) (hj : ops[j]? = some oj) (hdj : oj.dst = some d) (hb : look E d = some undef)
    (hd : okD o.dst n = true) (hsub : ∀ w, Mem w0 rs w → Mem w0 S w)
    (h : J (Dr P ops Q w0 S fuel (listed.setIfInBounds i true)) n (putE o.dst undef E) w0 rs) : J (One P ops Q w0 S fuel listed i) n E w0 rs := fun a w he hm => by
  unfold One wpOp
  simp only [hi]
  rw [if_neg (by rw [wanted_un he hg hj hdj hb]; simp)]
  exact ⟨hsub w hm, h _ _ (he.put hd _) hm⟩
/-! ### typed rows -/
theorem len1 {l m : Nat} (h : l = m) : l = m * 1 := by omega
theorem ints_len1 (k : IntKind) (xs : List Int) : (ints k xs).length = xs.length * 1 := len1 (ints_len k xs)
theorem bls_len1 (xs : List Bool) : (bls xs).length = xs.length * 1 := len1 (bls_len xs)
theorem strs_len1 (xs : List ByteArray) : (strs xs).length = xs.length * 1 := len1 (strs_len xs)
theorem Mem.roomI {w : World} (hm : Mem w0 rs w) (i : Nat) {A : Option Addr} {c e : Nat} {k : IntKind} {xs : List Int} (hk : rs[i]? = some (.row A c e 1 (ints k xs))) : xs.length ≤ c := by
  have := hm.room i hk; rwa [ints_len] at this
theorem Mem.roomB {w : World} (hm : Mem w0 rs w) (i : Nat) {A : Option Addr} {c e : Nat} {xs : List Bool} (hk : rs[i]? = some (.row A c e 1 (bls xs))) : xs.length ≤ c := by
  have := hm.room i hk; rwa [bls_len] at this
theorem Mem.roomS {w : World} (hm : Mem w0 rs w) (i : Nat) {A : Option Addr} {c e : Nat} {xs : List ByteArray} (hk : rs[i]? = some (.row A c e 1 (strs xs))) : xs.length ≤ c := by
  have := hm.room i hk; rwa [strs_len] at this
theorem Mem.roomT {w : World} (hm : Mem w0 rs w) (i : Nat) {A : Option Addr} {c e : Nat} {xs : List (Int × Int × Int)} (hk : rs[i]? = some (.row A c e 3 (trips xs))) : xs.length ≤ c := by
  have := hm.room3 i hk; rw [trips_len] at this; omega
section
variable {t : TypeId} {x y : Operand}
theorem q_nilCheck {a : Addr} (ho : o.op = .nilCheck x) (hx : ev E x = some (.pointer (some a))) : Quiet P o n E w0 rs (.pointer (some a)) := .mk fun ρ w h hm => by
  simp only [execOp, ho, h _ _ hx]; rfl
theorem q_lenX {α : Type} (xs : List α) {pr : Call} {e : TypeId} {A : Option Addr} {m c : Nat} (hn : xs.length = m) (hu : P.underlying t = some (.slice e)) (ho : o.op = .call pr) (hc : pr.callee = .builtin .len) (ha : pr.args = #[x]) (ht : pr.argTypes = #[t]) (hx : ev E x = some (.slice A m c)) : Quiet P o n E w0 rs (.int .i64 xs.length) := by
  rw [hn]; exact q_len_sl ho hc ha ht hu hx
theorem q_ix {k : IntKind} {e s L : Nat} {i : Int} {A : Option Addr} {m c : Nat} {cs : List Value} (hR : Rd w0 rs A cs) (hc : cs.length = L * s) (hs0 : 0 < s) (hn : L = m) (hb : 0 ≤ i ∧ i < (L : Int)) (hu : P.underlying t = some (.slice e)) (hs : SzIs P e s) (ho : o.op = .indexAddr t x y) (hx : ev E x = some (.slice A m c)) (hy : ev E y = some (.int k i)) : Quiet P o n E w0 rs (.pointer (A.map (·.add (i.toNat * s)))) := by
  have h0 : 0 < L := by omega
  refine q_addrI (kd := .i64) hR ?_ hu hs ho hx hy hb.1 (by omega)
  rw [hc]; exact Nat.mul_pos h0 hs0
theorem q_ldI {A : Option Addr} {k : IntKind} {xs : List Int} {i : Int} (hR : Rd w0 rs A (ints k xs)) (hb : 0 ≤ i ∧ i < (xs.length : Int)) (hg : AggIs P t false) (ho : o.op = .load t x) (hx : ev E x = some (.pointer (A.map (·.add (i.toNat * 1))))) : Quiet P o n E w0 rs (.int k (rd xs i)) := q_loadI hR hg hb.1 hb.2 ho hx
theorem q_ldB {A : Option Addr} {xs : List Bool} {i : Int} (hR : Rd w0 rs A (bls xs)) (hb : 0 ≤ i ∧ i < (xs.length : Int)) (hg : AggIs P t false) (ho : o.op = .load t x) (hx : ev E x = some (.pointer (A.map (·.add (i.toNat * 1))))) : Quiet P o n E w0 rs (.bool (rdb xs i)) := q_loadB hR hg hb.1 hb.2 ho hx
theorem q_ldS {A : Option Addr} {xs : List ByteArray} {i : Int} (hR : Rd w0 rs A (strs xs)) (hb : 0 ≤ i ∧ i < (xs.length : Int)) (hg : AggIs P t false) (ho : o.op = .load t x) (hx : ev E x = some (.pointer (A.map (·.add (i.toNat * 1))))) : Quiet P o n E w0 rs (.string (rds xs i)) := q_loadS hR hg hb.1 hb.2 ho hx
theorem q_ldT {A : Option Addr} {xs : List (Int × Int × Int)} {i : Int} (hR : Rd w0 rs A (trips xs)) (hb : 0 ≤ i ∧ i < (xs.length : Int)) (hg : AggIs P t true) (hs : SzIs P t 3) (ho : o.op = .load t x) (hx : ev E x = some (.pointer (A.map (·.add (i.toNat * 3))))) : Quiet P o n E w0 rs (.agg #[.int .i64 (rdt xs i).1, .int .i64 (rdt xs i).2.1, .int .i64 (rdt xs i).2.2]) := q_loadT hR hg hs hb.1 hb.2 ho hx
theorem q_ldTf (j : Nat) {A : Option Addr} {xs : List (Int × Int × Int)} {i : Int} {v : Value} (hR : Rd w0 rs A (trips xs)) (hb : 0 ≤ i ∧ i < (xs.length : Int)) (hg : AggIs P t false) (hj : j < 3) (hv : [Value.int .i64 (rdt xs i).1, .int .i64 (rdt xs i).2.1, .int .i64 (rdt xs i).2.2][j]? = some v) (ho : o.op = .load t x) (hx : ev E x = some (.pointer (A.map (·.add (i.toNat * 3 + j))))) : Quiet P o n E w0 rs v :=
  q_load hR hg ho hx ((trips_get hb.1 hb.2 j hj).trans hv)
theorem q_fieldAddrR {j ft off s q : Nat} {A : Option Addr} {cs : List Value} (hR : Rd w0 rs A cs) (hl : 0 < cs.length) (hf : FieldIs P t j ft off) (hs : SzIs P ft (s + 1)) (ho : o.op = .fieldAddr t x j) (hx : ev E x = some (.pointer (A.map (·.add q)))) : Quiet P o n E w0 rs (.pointer (A.map (·.add (q + off)))) := fun a w he hm => by
  obtain ⟨b, rfl⟩ := hR.addr hl w hm
  exact q_fieldAddr (v := .pointer (some (b.add (q + off)))) hf hs ho hx (by rw [add_add]) a w he hm
theorem a_stI (k : Nat) {kd : IntKind} {c e : Nat} {xs : List Int} {i v : Int} {A : Option Addr} (hk : rs[k]? = some (.row A c e 1 (ints kd xs))) (hb : 0 ≤ i ∧ i < (xs.length : Int)) (hs : SzIs P t 1) (ho : o.op = .store t x y) (hx : ev E x = some (.pointer (A.map (·.add (i.toNat * 1))))) (hy : ev E y = some (.int kd v)) :
    Acts P o n E w0 rs (fun _ : Unit => undef) (fun _ => rs.set k (.row A c e 1 (ints kd (xs.set i.toNat v)))) := a_storeI k hk hs hb.1 hb.2 ho hx hy
theorem a_stB (k : Nat) {c e : Nat} {xs : List Bool} {i : Int} {v : Bool} {A : Option Addr} (hk : rs[k]? = some (.row A c e 1 (bls xs))) (hb : 0 ≤ i ∧ i < (xs.length : Int)) (hs : SzIs P t 1) (ho : o.op = .store t x y) (hx : ev E x = some (.pointer (A.map (·.add (i.toNat * 1))))) (hy : ev E y = some (.bool v)) :
    Acts P o n E w0 rs (fun _ : Unit => undef) (fun _ => rs.set k (.row A c e 1 (bls (xs.set i.toNat v)))) := by
  rw [← bls_set]
  exact a_store k hk hs ho hx hy rfl (by rw [bls_len]; have := hb.1; have := hb.2; omega)
end
theorem a_litX {t e sz len : Nat} {parts : Array (Nat × Operand)} {l : List (Nat × Operand)} {vs : List Value} {z : Value} (cs : List Value) (hu : P.underlying t = some (.slice e)) (hs : SzIs P e sz) (hz : ZeroIs P e z) (hzs : Nat.beq z.cells.size sz = true) (hpos : Nat.blt 0 sz = true) (ho : o.op = .buildSlice t len parts) (hp : parts = l.toArray) (hv : evp E l = some (idx 0 vs)) (hl : Nat.beq vs.length len = true) (hcs : vs.all (fun v => Nat.beq v.cells.size sz) = true) (hb : Nat.ble (len * sz) 1024 = true) (hres : (vs.flatMap fun v => v.cells.toList) = cs) :
    Acts P o n E w0 rs (fun A : Option Addr => .slice A len len) (fun A => .row A len e sz cs :: rs) :=
  a_lit hu hs hz (Nat.eq_of_beq_eq_true hzs) (by simpa [Nat.blt_eq] using hpos) ho hp hv (Nat.eq_of_beq_eq_true hl) (by
    rw [List.all_eq_true] at hcs ⊢
    intro v hv
    simpa using Nat.eq_of_beq_eq_true (hcs v hv)) (Nat.le_of_ble_eq_true hb) hres
theorem a_appI {pr : Call} {x y : Operand} {t t' e e' b : Nat} (k : Nat) {kd : IntKind} {sl c m c2 : Nat} {A B : Option Addr} {xs ys : List Int} {z : Value} (hu : P.underlying t = some (.slice e)) (hu' : P.underlying t' = some (.slice e')) (hs : SzIs P e 1) (hb : BytesIs P e b) (hz : ZeroIs P e z) (hzs : z.cells.size = 1) (hb1 : Nat.ble b 64 = true)
    (hk : rs[k]? = some (.row A c e 1 (ints kd xs))) (ho : o.op = .call pr) (hc : pr.callee = .builtin .append) (ha : pr.args = #[x, y]) (ht : pr.argTypes = #[t, t']) (hx : ev E x = some (.slice A sl c)) (hy : ev E y = some (.slice B m c2)) (hn1 : xs.length = sl) (hn2 : ys.length = m) (hR : Rd w0 rs B (ints kd ys)) (hneed : xs.length + ys.length ≤ 1099511627776) :
    Acts P o n E w0 rs (fun q : Option Addr × Nat => .slice q.1 (sl + m) q.2) (fun q => rs.set k (.row q.1 q.2 e 1 (ints kd (xs ++ ys)))) := by
  subst hn1 hn2
  rw [← ints_app]
  exact a_append k hu hu' hs hb hz hzs (by omega) (Nat.le_of_ble_eq_true hb1) hk ho hc ha ht hx hy (ints_len1 kd xs) hR (ints_len1 kd ys) (ints_one kd ys) hneed
theorem a_appB {pr : Call} {x y : Operand} {t t' e e' b : Nat} (k : Nat) {sl c m c2 : Nat} {A B : Option Addr} {xs ys : List Bool} {z : Value} (hu : P.underlying t = some (.slice e)) (hu' : P.underlying t' = some (.slice e')) (hs : SzIs P e 1) (hb : BytesIs P e b) (hz : ZeroIs P e z) (hzs : z.cells.size = 1) (hb1 : Nat.ble b 64 = true)
    (hk : rs[k]? = some (.row A c e 1 (bls xs))) (ho : o.op = .call pr) (hc : pr.callee = .builtin .append) (ha : pr.args = #[x, y]) (ht : pr.argTypes = #[t, t']) (hx : ev E x = some (.slice A sl c)) (hy : ev E y = some (.slice B m c2)) (hn1 : xs.length = sl) (hn2 : ys.length = m) (hR : Rd w0 rs B (bls ys)) (hneed : xs.length + ys.length ≤ 1099511627776) :
    Acts P o n E w0 rs (fun q : Option Addr × Nat => .slice q.1 (sl + m) q.2) (fun q => rs.set k (.row q.1 q.2 e 1 (bls (xs ++ ys)))) := by
  subst hn1 hn2
  rw [← bls_app]
  exact a_append k hu hu' hs hb hz hzs (by omega) (Nat.le_of_ble_eq_true hb1) hk ho hc ha ht hx hy (bls_len1 xs) hR (bls_len1 ys) (bls_one ys) hneed
theorem a_appS {pr : Call} {x y : Operand} {t t' e e' b : Nat} (k : Nat) {sl c m c2 : Nat} {A B : Option Addr} {xs ys : List ByteArray} {z : Value} (hu : P.underlying t = some (.slice e)) (hu' : P.underlying t' = some (.slice e')) (hs : SzIs P e 1) (hb : BytesIs P e b) (hz : ZeroIs P e z) (hzs : z.cells.size = 1) (hb1 : Nat.ble b 64 = true)
    (hk : rs[k]? = some (.row A c e 1 (strs xs))) (ho : o.op = .call pr) (hc : pr.callee = .builtin .append) (ha : pr.args = #[x, y]) (ht : pr.argTypes = #[t, t']) (hx : ev E x = some (.slice A sl c)) (hy : ev E y = some (.slice B m c2)) (hn1 : xs.length = sl) (hn2 : ys.length = m) (hR : Rd w0 rs B (strs ys)) (hneed : xs.length + ys.length ≤ 1099511627776) :
    Acts P o n E w0 rs (fun q : Option Addr × Nat => .slice q.1 (sl + m) q.2) (fun q => rs.set k (.row q.1 q.2 e 1 (strs (xs ++ ys)))) := by
  subst hn1 hn2
  rw [← strs_app]
  exact a_append k hu hu' hs hb hz hzs (by omega) (Nat.le_of_ble_eq_true hb1) hk ho hc ha ht hx hy (strs_len1 xs) hR (strs_len1 ys) (strs_one ys) hneed
theorem a_appT {pr : Call} {x y : Operand} {t t' e e' b : Nat} (k : Nat) {sl c m c2 : Nat} {A B : Option Addr} {xs ys : List (Int × Int × Int)} {z : Value} (hu : P.underlying t = some (.slice e)) (hu' : P.underlying t' = some (.slice e')) (hs : SzIs P e 3) (hb : BytesIs P e b) (hz : ZeroIs P e z) (hzs : z.cells.size = 3) (hb1 : Nat.ble b 64 = true)
    (hk : rs[k]? = some (.row A c e 3 (trips xs))) (ho : o.op = .call pr) (hc : pr.callee = .builtin .append) (ha : pr.args = #[x, y]) (ht : pr.argTypes = #[t, t']) (hx : ev E x = some (.slice A sl c)) (hy : ev E y = some (.slice B m c2)) (hn1 : xs.length = sl) (hn2 : ys.length = m) (hR : Rd w0 rs B (trips ys)) (hneed : xs.length + ys.length ≤ 1099511627776) :
    Acts P o n E w0 rs (fun q : Option Addr × Nat => .slice q.1 (sl + m) q.2) (fun q => rs.set k (.row q.1 q.2 e 3 (trips (xs ++ ys)))) := by
  subst hn1 hn2
  rw [← trips_app]
  exact a_append k hu hu' hs hb hz hzs (by omega) (Nat.le_of_ble_eq_true hb1) hk ho hc ha ht hx hy (trips_len xs) hR (trips_len ys) (trips_one ys) hneed
theorem app_len {α : Type} {xs ys : List α} {a b : Nat} (h1 : xs.length = a) (h2 : ys.length = b) : (xs ++ ys).length = a + b := by rw [List.length_append, h1, h2]
theorem set_len {α : Type} {xs : List α} {a : Nat} (h1 : xs.length = a) (i : Nat) (v : α) : (xs.set i v).length = a := by rw [List.length_set, h1]
theorem a_mkI {t e b : Nat} {x x' : Operand} {m : Int} (hu : P.underlying t = some (.slice e)) (hs : SzIs P e 1) (hb : BytesIs P e b) (hz : ZeroIs P e (.int .i64 0)) (hb1 : Nat.ble b 64 = true) (hm1 : 0 ≤ m ∧ m ≤ 1099511627776) (ho : o.op = .makeSlice t x x') (hx : ev E x = some (.int .i64 m)) (hx' : ev E x' = some (.int .i64 m)) :
    Acts P o n E w0 rs (fun A : Option Addr => .slice A m.toNat m.toNat) (fun A => .row A m.toNat e 1 (ints .i64 (List.replicate m.toNat 0)) :: rs) := by
  rw [← ints_rep]
  exact a_make hu hs hb hz rfl ho hx hx' hm1.1 hm1.2 (Nat.le_of_ble_eq_true hb1)
theorem a_mkB {t e b : Nat} {x x' : Operand} {m : Int} (hu : P.underlying t = some (.slice e)) (hs : SzIs P e 1) (hb : BytesIs P e b) (hz : ZeroIs P e (.bool false)) (hb1 : Nat.ble b 64 = true) (hm1 : 0 ≤ m ∧ m ≤ 1099511627776) (ho : o.op = .makeSlice t x x') (hx : ev E x = some (.int .i64 m)) (hx' : ev E x' = some (.int .i64 m)) :
    Acts P o n E w0 rs (fun A : Option Addr => .slice A m.toNat m.toNat) (fun A => .row A m.toNat e 1 (bls (List.replicate m.toNat false)) :: rs) := by
  rw [← bls_rep]
  exact a_make hu hs hb hz rfl ho hx hx' hm1.1 hm1.2 (Nat.le_of_ble_eq_true hb1)
theorem pos_of {L s m : Nat} {i : Int} (hc : L = m * s) (hs : 0 < s) (hb : 0 ≤ i ∧ i < (m : Int)) : 0 < L := by
  have : 0 < m := by omega
  rw [hc]; exact Nat.mul_pos this hs
/-! ### cuts -/
theorem q_hi {t e : Nat} {x hi : Operand} {k : IntKind} {i : Int} {A : Option Addr} {m c sz : Nat} {α : Type} (xs : List α) (hn : xs.length = m) (hcap : xs.length ≤ c) (hb : 0 ≤ i ∧ i ≤ (xs.length : Int)) (hu : P.underlying t = some (.slice e)) (hs : SzIs P e sz) (ho : o.op = .slice t x none (some hi) none) (hx : ev E x = some (.slice A m c)) (hhi : ev E hi = some (.int k i)) : Quiet P o n E w0 rs (.slice A (xs.take i.toNat).length c) := by
  have h := q_cut_hi (n := n) (E := E) (w0 := w0) (rs := rs) (P := P) (o := o) (k := k) (i := i) hu hs ho hx hhi hb.1 (by omega)
  rw [cutA_zero] at h
  have h2 : (xs.take i.toNat).length = i.toNat - 0 := by rw [List.length_take]; omega
  rw [h2]; exact h
theorem q_lo {t e : Nat} {x lo : Operand} {k : IntKind} {i : Int} {A : Option Addr} {m c sz : Nat} {α : Type} (xs : List α) (hn : xs.length = m) (hb : 0 ≤ i ∧ i ≤ (xs.length : Int)) (hu : P.underlying t = some (.slice e)) (hs : SzIs P e sz) (ho : o.op = .slice t x (some lo) none none) (hx : ev E x = some (.slice A m c)) (hlo : ev E lo = some (.int k i)) : Quiet P o n E w0 rs (.slice (cutA A c i.toNat sz) (xs.drop i.toNat).length (c - i.toNat)) := by
  have h := q_cut_lo (n := n) (E := E) (w0 := w0) (rs := rs) (P := P) (o := o) (k := k) (i := i) hu hs ho hx hlo hb.1 (by omega)
  have h2 : (xs.drop i.toNat).length = m - i.toNat := by rw [List.length_drop]; omega
  rw [h2]; exact h
theorem rd_hiI {A : Option Addr} {k : IntKind} {xs : List Int} (h : Rd w0 rs A (ints k xs)) (i : Nat) : Rd w0 rs A (ints k (xs.take i)) := by
  rw [← ints_take]; exact h.take i
theorem rd_loI {A : Option Addr} {k : IntKind} {xs : List Int} {c : Nat} (h : Rd w0 rs A (ints k xs)) (hc : xs.length ≤ c) (i : Nat) : Rd w0 rs (cutA A c i 1) (ints k (xs.drop i)) := by
  rw [← ints_drop]; exact h.off (by rw [ints_len]; omega) i
theorem j_cutRowI {K : Act → World → Prop} {A : Option Addr} {c e : Nat} {kd : IntKind} {xs : List Int} (k i : Nat) (hk : rs[k]? = some (.row A c e 1 (ints kd xs))) (hi : i ≤ c) (h : J K n E w0 (rs.set k (.row (cutA A c i 1) (c - i) e 1 (ints kd (xs.drop i))))) : J K n E w0 rs := by
  rw [← ints_drop] at h
  exact j_cutRow k i hk hi h
theorem cut_le {i : Int} {m c : Nat} (hb : 0 ≤ i ∧ i ≤ (m : Int)) (hc : m ≤ c) : i.toNat ≤ c := by omega
theorem rd_loS {A : Option Addr} {xs : List ByteArray} {c : Nat} (h : Rd w0 rs A (strs xs)) (hc : xs.length ≤ c) (i : Nat) : Rd w0 rs (cutA A c i 1) (strs (xs.drop i)) := by
  have := h.off (sz := 1) (c := c) (by rw [strs_len]; omega) i
  rwa [show (strs xs).drop (i * 1) = strs (xs.drop i) by simp [strs]] at this
end
end Go.Proofs.YtnfaiojmabolmaaDoor.S
namespace Go.Proofs.YtnfaiojmabolmaaDoor.S
open Go Go.RowKit
set_option linter.unusedVariables false
set_option linter.unusedSimpArgs false
section
variable {K : Act → World → Prop} {n : Nat} {E : List (Nat × Value)} {w0 : World} {rs : List Res} {P : Program} {Q : Exit → Act → World → Prop} {o : Oper}
/-- One more round is about to begin. -/
def Lp (P : Program) (c : Code) (Q : Exit → Act → World → Prop) (a : Act) (w : World) : Prop :=
  ∀ (b : Frame) (k : List Item) (cs : List Frame), ∃ e a' w', Q e a' w' ∧ Arrives P (lone (b.at a (.code c :: .inLoop c :: k)) cs w) b k cs e a' w'
theorem lp_round {c : Code} {a : Act} {w : World} (h : c.wp P (Exit.then (Lp P c Q) Q) a w) : Lp P c Q a w := by
  intro b k cs
  obtain ⟨e, a₁, w₁, hq, harr⟩ := h b (.inLoop c :: k) cs
  cases e with
  | normal =>
    obtain ⟨e₂, a₂, w₂, hq₂, harr₂⟩ := hq b k cs
    exact ⟨e₂, a₂, w₂, hq₂, .of_steps (Steps.trans harr (.one step_inLoop)) harr₂⟩
  | exit id => exact ⟨_, a₁, w₁, hq, .pass (x := .inLoop c) rfl (fun _ _ => .inl (by simp)) harr⟩
  | goto l => exact ⟨_, a₁, w₁, hq, .pass (x := .inLoop c) rfl (fun _ _ => .inl (by simp)) harr⟩
  | ret => exact ⟨_, a₁, w₁, hq, .pass (x := .inLoop c) rfl (fun _ _ => .inl (by simp)) harr⟩
  | panic ch => exact ⟨_, a₁, w₁, hq, .pass (x := .inLoop c) rfl (fun _ _ => .inl (by simp)) harr⟩
  | outgrown => exact ⟨_, a₁, w₁, hq, .pass (x := .inLoop c) rfl (fun _ _ => .inl (by simp)) harr⟩
theorem wp_loop_lp {c : Code} {a : Act} {w : World} (h : Lp P c Q a w) : (Code.loop c).wp P Q a w := by
  intro b k cs
  obtain ⟨e, a', w', hq, harr⟩ := h b k cs
  exact ⟨e, a', w', hq, .of_steps (.one step_loop) harr⟩
theorem j_unroll {c : Code} (h : J (Lp P c Q) n E w0 rs) : J ((Code.loop c).wp P Q) n E w0 rs := fun a w he hm => wp_loop_lp (h a w he hm)
theorem j_round {c : Code} (h : J (c.wp P (Exit.then (Lp P c Q) Q)) n E w0 rs) : J (Lp P c Q) n E w0 rs := fun a w he hm => lp_round (h a w he hm)
/-- Room for m more behind nothing. -/
theorem a_growI {pr : Call} {x y : Operand} {t t' e b sl : Nat} {m : Int} {z : Value} (hu : P.underlying t = some (.slice e)) (hu' : P.underlying t' = some (.int .i64)) (hs : SzIs P e 1) (hb : BytesIs P e b) (hz : ZeroIs P e z) (hzs : Nat.beq z.cells.size 1 = true) (hb1 : Nat.ble b 64 = true) (hm1 : 0 < m ∧ m ≤ 1099511627776)
    (ho : o.op = .call pr) (hc : pr.callee = .builtin .append) (ha : pr.args = #[x, y]) (ht : pr.argTypes = #[t, t']) (hx : ev E x = some (.slice none sl 0)) (hsl : Nat.beq sl 0 = true) (hy : ev E y = some (.int .i64 m)) :
    Acts P o n E w0 rs (fun q : Option Addr × Nat => .slice q.1 m.toNat q.2) (fun q => .row q.1 q.2 e 1 [] :: rs) := acts_of_run fun a w he hm => by
  obtain rfl : sl = 0 := Nat.eq_of_beq_eq_true hsl
  have hb1 : b ≤ 64 := Nat.le_of_ble_eq_true hb1
  obtain ⟨i, hi, hib⟩ := run_typeInfo_bytes hb w
  obtain ⟨i2, hi2, hib2⟩ := run_typeInfo_bytes hb { w with drawn := w.drawn + 1 }
  have hw : IntKind.i64.wrap m = m := by rw [i64_wrap]; unfold wrap64; omega
  have hcapb : Builtin.nextslicecap (0 + m.toNat) 0 * b ≤ 281474976710656 := cap_bound (by omega) (by omega) hb1
  let q : Question := .appendCap (0 + m.toNat) 0 e
  let N := q.cut (w.tape w.drawn q)
  have hd := hm.drew
  have hbm : (b : Int) * m ≤ 281474976710656 := by
    have h1 : (b : Int) ≤ 64 := by omega
    have h2 : (b : Int) * m ≤ 64 * 1099511627776 := Int.mul_le_mul h1 hm1.2 (by omega) (by omega)
    omega
  have hmb : m * (b : Int) ≤ 281474976710656 := by rw [Int.mul_comm]; exact hbm
  let cells : Array Value := #[] ++ Builtin.zeroCells z.cells m.toNat ++ Builtin.zeroCells z.cells (N - (0 + m.toNat))
  have key : (Builtin.append_ #[t, t'] o.type #[.slice none 0 0, .int .i64 m]).run P w = .ok (.slice (some ⟨w.heap.size, 0, none⟩) (0 + m.toNat) N) { w with drawn := w.drawn + 1, heap := w.heap.push (.cells cells e) } := by
    refine (run_to (run_underlying hu w)).trans ?_
    refine (run_to (run_size hs w)).trans ?_
    refine (run_to (run_underlying hu' w)).trans ?_
    refine (run_to (v := true) (w' := w) rfl).trans ?_
    show Sem.run P (if true = true then _ else _) w = _
    rw [if_pos rfl]
    refine (run_to (m := asInt (.int .i64 m)) (v := m) (w' := w) rfl).trans ?_
    rw [hw]
    show Sem.run P (if m < 0 then _ else _) w = _
    rw [if_neg (by omega)]
    refine (run_to hi).trans ?_
    show Sem.run P (if m * (i.bytes : Int) > 2 ^ 48 then _ else _) w = _
    rw [hib, if_neg (by
      have : (2 : Int) ^ 48 = 281474976710656 := by decide
      omega)]
    refine (run_to (m := (pure m.toNat : Sem Nat)) (v := m.toNat) (w' := w) rfl).trans ?_
    show Sem.run P (if 0 + m.toNat ≤ 0 then _ else _) w = _
    rw [if_neg (by omega)]
    refine (run_to hi).trans ?_
    show Sem.run P (if ((0 + m.toNat : Nat) : Int) > IntKind.i64.max ∧ (true = true ∨ i.bytes = 0) then _ else _) w = _
    rw [if_neg (by
      intro h
      have h1 : ((0 + m.toNat : Nat) : Int) > 9223372036854775807 := h.1
      omega)]
    refine (run_to hi).trans ?_
    show Sem.run P (if Builtin.nextslicecap (0 + m.toNat) 0 * i.bytes > 2 ^ 48 then _ else _) w = _
    rw [hib, if_neg (Nat.not_lt.2 (Nat.le_trans hcapb (Nat.le_of_eq pow48.symm)))]
    have hch : (choose q).run P w = .ok N { w with drawn := w.drawn + 1 } := rfl
    refine (run_to hch).trans ?_
    refine (run_to hi2).trans ?_
    refine (run_to (run_askRoom _ _)).trans ?_
    refine (run_to (m := Builtin.firstCells 1 0 (.slice none 0 0)) (v := #[]) (w' := { w with drawn := w.drawn + 1 }) rfl).trans ?_
    have hnew : Sem.run P (if (!true) = true then Builtin.firstCells 1 m.toNat (.int .i64 m) else if m.toNat * 1 = 0 then (pure #[] : Sem (Array Value)) else (zeroValue e).bind fun z => pure (Builtin.zeroCells z.cells m.toNat)) { w with drawn := w.drawn + 1 } = .ok (Builtin.zeroCells z.cells m.toNat) { w with drawn := w.drawn + 1 } := by
      rw [if_neg (by decide), if_neg (by omega)]
      exact (run_to (run_zero hz _)).trans rfl
    refine (run_to hnew).trans ?_
    refine (run_to (run_zero hz _)).trans ?_
    rfl
  have hmm := hd.newRow e N 1 cells [] (Nat.zero_le _) (by
    have hz1 : z.cells.size = 1 := Nat.eq_of_beq_eq_true hzs
    have h1 : cells.size = m.toNat + (N - (0 + m.toNat)) := by simp [cells, Builtin.zeroCells, hz1]
    have hN : 0 + m.toNat ≤ N := Nat.le_add_right _ _
    omega) (fun j hj => by simp at hj)
  refine ⟨(some ⟨w.heap.size, 0, none⟩, N), _, ?_, hmm⟩
  simp only [execOp, ho, resolve, hc, ha, ht, List.map_toArray, List.map_cons, List.map_nil, he.eval hx, he.eval hy]
  show Sem.run P ((Builtin.append_ #[t, t'] o.type #[.slice none 0 0, .int .i64 m]).bind fun x => (pure (Next.value x) : Sem Next)) w = _
  rw [run_to key, Nat.zero_add]; rfl
/-- 'x[:0]' of a slice, whatever its length. -/
theorem q_hi0 {t e : Nat} {x hi : Operand} {k : IntKind} {A : Option Addr} {m c sz : Nat} (hu : P.underlying t = some (.slice e)) (hs : SzIs P e sz) (ho : o.op = .slice t x none (some hi) none) (hx : ev E x = some (.slice A m c)) (hhi : ev E hi = some (.int k 0)) : Quiet P o n E w0 rs (.slice A 0 c) := by
  have h := q_cut_hi (n := n) (E := E) (w0 := w0) (rs := rs) (P := P) (o := o) (k := k) (i := 0) hu hs ho hx hhi (by omega) (by omega)
  rw [cutA_zero] at h
  exact h
/-- The room of nothing. -/
theorem q_cap_sl {t : Nat} {x : Operand} {pr : Call} {e : TypeId} {A : Option Addr} {m c : Nat} (ho : o.op = .call pr) (hc : pr.callee = .builtin .cap) (ha : pr.args = #[x]) (ht : pr.argTypes = #[t]) (hu : P.underlying t = some (.slice e)) (hx : ev E x = some (.slice A m c)) : Quiet P o n E w0 rs (.int .i64 c) := .of (fun ρ => Builtin.cap_ pr.argTypes o.type #[ρ x]) (fun ρ => by simp only [execOp, ho, resolve, hc, ha, List.map_toArray, List.map_cons, List.map_nil]; rfl) fun ρ w h hm => by
  simp only [h _ _ hx, ht]
  refine (run_to (run_underlying hu w)).trans ?_
  rfl
theorem q_addc {t t' : TypeId} {x y : Operand} {p q v : Int} (ho : o.op = .binOp .add t x y t') (hx : ev E x = some (.int .i64 p)) (hy : ev E y = some (.int .i64 q)) (hv : p + q = v) (hb : -9223372036854775808 ≤ v ∧ v ≤ 9223372036854775807) : Quiet P o n E w0 rs (.int .i64 v) := by
  have h := q_add (n := n) (w0 := w0) (rs := rs) (P := P) ho hx hy
  rw [hv] at h
  have : wrap64 v = v := by unfold wrap64; omega
  rw [this] at h
  exact h
/-- Is a slice nil? -/
theorem q_isnil {t t' e : TypeId} {x y : Operand} {A : Option Addr} {m c m' c' : Nat} (hu : P.underlying t = some (.slice e)) (ho : o.op = .binOp .eql t x y t') (hx : ev E x = some (.slice A m c)) (hy : ev E y = some (.slice none m' c')) : Quiet P o n E w0 rs (.bool A.isNone) := .of (fun ρ => do eqGuard .eql t x y (ρ x) (ρ y); binOp .eql t (ρ x) (ρ y)) (fun ρ => by simp only [execOp, ho]; rfl) fun ρ w h hm => by
  simp only [h _ _ hx, h _ _ hy]
  have he : (Op.equal t (.slice A m c) (.slice none m' c')).run P w = .ok A.isNone w := by
    show Sem.run P (Op.equalIn (9999 + 1) t (.slice A m c) (.slice none m' c')) w = _
    unfold Op.equalIn
    refine (run_to (run_underlying hu w)).trans ?_
    cases A <;> rfl
  show Sem.run P ((Op.equal t (.slice A m c) (.slice none m' c')).bind fun r => (pure (Value.bool r) : Sem Value)) w = _
  rw [run_to he]; rfl
theorem ghost_nil {A : Option Addr} {k : IntKind} {xs : List Int} {w : World} (hm : Mem w0 rs w) (h : Rd w0 rs A (ints k xs)) : (A.isNone = true ∧ xs = []) ∨ A.isNone = false := by
  cases A with
  | some a => exact .inr rfl
  | none =>
    refine .inl ⟨rfl, ?_⟩
    cases xs with
    | nil => rfl
    | cons x xs =>
      obtain ⟨a, ha, _⟩ := h w hm 0 (.int k x) rfl
      cases ha
theorem take_all {α : Type} {xs : List α} {m : Nat} {k : Nat} (hn : xs.length = m) (h : ¬(xs.length : Int) > (k : Int)) : (xs.take k).length = m := by
  rw [List.length_take]; omega
end
end Go.Proofs.YtnfaiojmabolmaaDoor.S
namespace Go.Proofs.YtnfaiojmabolmaaDoor.S
open Go Go.RowKit
set_option linter.unusedVariables false
set_option linter.unusedSimpArgs false
section
variable {n : Nat} {E : List (Nat × Value)} {w0 : World} {rs : List Res} {P : Program} {o : Oper}
/-! ### short words of the generator's texts -/
abbrev pt (g : Nat) : Value := .pointer (some ⟨g, 0, none⟩)
abbrev i6 (x : Int) : Value := .int .i64 x
abbrev fv (f : Nat) (caps : List Value) : Value := .func (.func f) #[] caps.toArray
abbrev ii (xs : List Int) : List Value := ints .i64 xs
/-! ### memory told otherwise, at one place -/
section
variable {M : Act → World → Prop} {r q a0 a1 a2 a3 a4 a5 a6 a7 a8 a9 a10 a11 a12 a13 a14 a15 a16 a17 a18 a19 a20 a21 a22 : Res} {l : List Res} {g tt j : Nat} {cs us : List Value}
theorem j_s0 (h : J M n E w0 (r :: l)) : J M n E w0 ((q :: l).set 0 r) := h
theorem j_b0 (vs : List Value) (hv : over cs j us = vs) (h : J M n E w0 (.box g tt vs :: l)) : J M n E w0 ((q :: l).set 0 (.box g tt (over cs j us))) := by subst hv; exact h
theorem j_s1 (h : J M n E w0 (a0 :: r :: l)) : J M n E w0 ((a0 :: q :: l).set 1 r) := h
theorem j_b1 (vs : List Value) (hv : over cs j us = vs) (h : J M n E w0 (a0 :: .box g tt vs :: l)) : J M n E w0 ((a0 :: q :: l).set 1 (.box g tt (over cs j us))) := by subst hv; exact h
theorem j_s2 (h : J M n E w0 (a0 :: a1 :: r :: l)) : J M n E w0 ((a0 :: a1 :: q :: l).set 2 r) := h
theorem j_b2 (vs : List Value) (hv : over cs j us = vs) (h : J M n E w0 (a0 :: a1 :: .box g tt vs :: l)) : J M n E w0 ((a0 :: a1 :: q :: l).set 2 (.box g tt (over cs j us))) := by subst hv; exact h
theorem j_s3 (h : J M n E w0 (a0 :: a1 :: a2 :: r :: l)) : J M n E w0 ((a0 :: a1 :: a2 :: q :: l).set 3 r) := h
theorem j_b3 (vs : List Value) (hv : over cs j us = vs) (h : J M n E w0 (a0 :: a1 :: a2 :: .box g tt vs :: l)) : J M n E w0 ((a0 :: a1 :: a2 :: q :: l).set 3 (.box g tt (over cs j us))) := by subst hv; exact h
theorem j_s4 (h : J M n E w0 (a0 :: a1 :: a2 :: a3 :: r :: l)) : J M n E w0 ((a0 :: a1 :: a2 :: a3 :: q :: l).set 4 r) := h
theorem j_b4 (vs : List Value) (hv : over cs j us = vs) (h : J M n E w0 (a0 :: a1 :: a2 :: a3 :: .box g tt vs :: l)) : J M n E w0 ((a0 :: a1 :: a2 :: a3 :: q :: l).set 4 (.box g tt (over cs j us))) := by subst hv; exact h
theorem j_s5 (h : J M n E w0 (a0 :: a1 :: a2 :: a3 :: a4 :: r :: l)) : J M n E w0 ((a0 :: a1 :: a2 :: a3 :: a4 :: q :: l).set 5 r) := h
theorem j_b5 (vs : List Value) (hv : over cs j us = vs) (h : J M n E w0 (a0 :: a1 :: a2 :: a3 :: a4 :: .box g tt vs :: l)) : J M n E w0 ((a0 :: a1 :: a2 :: a3 :: a4 :: q :: l).set 5 (.box g tt (over cs j us))) := by subst hv; exact h
theorem j_s6 (h : J M n E w0 (a0 :: a1 :: a2 :: a3 :: a4 :: a5 :: r :: l)) : J M n E w0 ((a0 :: a1 :: a2 :: a3 :: a4 :: a5 :: q :: l).set 6 r) := h
theorem j_b6 (vs : List Value) (hv : over cs j us = vs) (h : J M n E w0 (a0 :: a1 :: a2 :: a3 :: a4 :: a5 :: .box g tt vs :: l)) : J M n E w0 ((a0 :: a1 :: a2 :: a3 :: a4 :: a5 :: q :: l).set 6 (.box g tt (over cs j us))) := by subst hv; exact h
theorem j_s7 (h : J M n E w0 (a0 :: a1 :: a2 :: a3 :: a4 :: a5 :: a6 :: r :: l)) : J M n E w0 ((a0 :: a1 :: a2 :: a3 :: a4 :: a5 :: a6 :: q :: l).set 7 r) := h
theorem j_b7 (vs : List Value) (hv : over cs j us = vs) (h : J M n E w0 (a0 :: a1 :: a2 :: a3 :: a4 :: a5 :: a6 :: .box g tt vs :: l)) : J M n E w0 ((a0 :: a1 :: a2 :: a3 :: a4 :: a5 :: a6 :: q :: l).set 7 (.box g tt (over cs j us))) := by subst hv; exact h
theorem j_s8 (h : J M n E w0 (a0 :: a1 :: a2 :: a3 :: a4 :: a5 :: a6 :: a7 :: r :: l)) : J M n E w0 ((a0 :: a1 :: a2 :: a3 :: a4 :: a5 :: a6 :: a7 :: q :: l).set 8 r) := h
theorem j_b8 (vs : List Value) (hv : over cs j us = vs) (h : J M n E w0 (a0 :: a1 :: a2 :: a3 :: a4 :: a5 :: a6 :: a7 :: .box g tt vs :: l)) : J M n E w0 ((a0 :: a1 :: a2 :: a3 :: a4 :: a5 :: a6 :: a7 :: q :: l).set 8 (.box g tt (over cs j us))) := by subst hv; exact h
theorem j_s9 (h : J M n E w0 (a0 :: a1 :: a2 :: a3 :: a4 :: a5 :: a6 :: a7 :: a8 :: r :: l)) : J M n E w0 ((a0 :: a1 :: a2 :: a3 :: a4 :: a5 :: a6 :: a7 :: a8 :: q :: l).set 9 r) := h
theorem j_b9 (vs : List Value) (hv : over cs j us = vs) (h : J M n E w0 (a0 :: a1 :: a2 :: a3 :: a4 :: a5 :: a6 :: a7 :: a8 :: .box g tt vs :: l)) : J M n E w0 ((a0 :: a1 :: a2 :: a3 :: a4 :: a5 :: a6 :: a7 :: a8 :: q :: l).set 9 (.box g tt (over cs j us))) := by subst hv; exact h
theorem j_s10 (h : J M n E w0 (a0 :: a1 :: a2 :: a3 :: a4 :: a5 :: a6 :: a7 :: a8 :: a9 :: r :: l)) : J M n E w0 ((a0 :: a1 :: a2 :: a3 :: a4 :: a5 :: a6 :: a7 :: a8 :: a9 :: q :: l).set 10 r) := h
theorem j_b10 (vs : List Value) (hv : over cs j us = vs) (h : J M n E w0 (a0 :: a1 :: a2 :: a3 :: a4 :: a5 :: a6 :: a7 :: a8 :: a9 :: .box g tt vs :: l)) : J M n E w0 ((a0 :: a1 :: a2 :: a3 :: a4 :: a5 :: a6 :: a7 :: a8 :: a9 :: q :: l).set 10 (.box g tt (over cs j us))) := by subst hv; exact h
theorem j_s11 (h : J M n E w0 (a0 :: a1 :: a2 :: a3 :: a4 :: a5 :: a6 :: a7 :: a8 :: a9 :: a10 :: r :: l)) : J M n E w0 ((a0 :: a1 :: a2 :: a3 :: a4 :: a5 :: a6 :: a7 :: a8 :: a9 :: a10 :: q :: l).set 11 r) := h
theorem j_b11 (vs : List Value) (hv : over cs j us = vs) (h : J M n E w0 (a0 :: a1 :: a2 :: a3 :: a4 :: a5 :: a6 :: a7 :: a8 :: a9 :: a10 :: .box g tt vs :: l)) : J M n E w0 ((a0 :: a1 :: a2 :: a3 :: a4 :: a5 :: a6 :: a7 :: a8 :: a9 :: a10 :: q :: l).set 11 (.box g tt (over cs j us))) := by subst hv; exact h
theorem j_s12 (h : J M n E w0 (a0 :: a1 :: a2 :: a3 :: a4 :: a5 :: a6 :: a7 :: a8 :: a9 :: a10 :: a11 :: r :: l)) : J M n E w0 ((a0 :: a1 :: a2 :: a3 :: a4 :: a5 :: a6 :: a7 :: a8 :: a9 :: a10 :: a11 :: q :: l).set 12 r) := h
theorem j_b12 (vs : List Value) (hv : over cs j us = vs) (h : J M n E w0 (a0 :: a1 :: a2 :: a3 :: a4 :: a5 :: a6 :: a7 :: a8 :: a9 :: a10 :: a11 :: .box g tt vs :: l)) : J M n E w0 ((a0 :: a1 :: a2 :: a3 :: a4 :: a5 :: a6 :: a7 :: a8 :: a9 :: a10 :: a11 :: q :: l).set 12 (.box g tt (over cs j us))) := by subst hv; exact h
theorem j_s13 (h : J M n E w0 (a0 :: a1 :: a2 :: a3 :: a4 :: a5 :: a6 :: a7 :: a8 :: a9 :: a10 :: a11 :: a12 :: r :: l)) : J M n E w0 ((a0 :: a1 :: a2 :: a3 :: a4 :: a5 :: a6 :: a7 :: a8 :: a9 :: a10 :: a11 :: a12 :: q :: l).set 13 r) := h
theorem j_b13 (vs : List Value) (hv : over cs j us = vs) (h : J M n E w0 (a0 :: a1 :: a2 :: a3 :: a4 :: a5 :: a6 :: a7 :: a8 :: a9 :: a10 :: a11 :: a12 :: .box g tt vs :: l)) : J M n E w0 ((a0 :: a1 :: a2 :: a3 :: a4 :: a5 :: a6 :: a7 :: a8 :: a9 :: a10 :: a11 :: a12 :: q :: l).set 13 (.box g tt (over cs j us))) := by subst hv; exact h
theorem j_s14 (h : J M n E w0 (a0 :: a1 :: a2 :: a3 :: a4 :: a5 :: a6 :: a7 :: a8 :: a9 :: a10 :: a11 :: a12 :: a13 :: r :: l)) : J M n E w0 ((a0 :: a1 :: a2 :: a3 :: a4 :: a5 :: a6 :: a7 :: a8 :: a9 :: a10 :: a11 :: a12 :: a13 :: q :: l).set 14 r) := h
theorem j_b14 (vs : List Value) (hv : over cs j us = vs) (h : J M n E w0 (a0 :: a1 :: a2 :: a3 :: a4 :: a5 :: a6 :: a7 :: a8 :: a9 :: a10 :: a11 :: a12 :: a13 :: .box g tt vs :: l)) : J M n E w0 ((a0 :: a1 :: a2 :: a3 :: a4 :: a5 :: a6 :: a7 :: a8 :: a9 :: a10 :: a11 :: a12 :: a13 :: q :: l).set 14 (.box g tt (over cs j us))) := by subst hv; exact h
theorem j_s15 (h : J M n E w0 (a0 :: a1 :: a2 :: a3 :: a4 :: a5 :: a6 :: a7 :: a8 :: a9 :: a10 :: a11 :: a12 :: a13 :: a14 :: r :: l)) : J M n E w0 ((a0 :: a1 :: a2 :: a3 :: a4 :: a5 :: a6 :: a7 :: a8 :: a9 :: a10 :: a11 :: a12 :: a13 :: a14 :: q :: l).set 15 r) := h
theorem j_b15 (vs : List Value) (hv : over cs j us = vs) (h : J M n E w0 (a0 :: a1 :: a2 :: a3 :: a4 :: a5 :: a6 :: a7 :: a8 :: a9 :: a10 :: a11 :: a12 :: a13 :: a14 :: .box g tt vs :: l)) : J M n E w0 ((a0 :: a1 :: a2 :: a3 :: a4 :: a5 :: a6 :: a7 :: a8 :: a9 :: a10 :: a11 :: a12 :: a13 :: a14 :: q :: l).set 15 (.box g tt (over cs j us))) := by subst hv; exact h
theorem j_s16 (h : J M n E w0 (a0 :: a1 :: a2 :: a3 :: a4 :: a5 :: a6 :: a7 :: a8 :: a9 :: a10 :: a11 :: a12 :: a13 :: a14 :: a15 :: r :: l)) : J M n E w0 ((a0 :: a1 :: a2 :: a3 :: a4 :: a5 :: a6 :: a7 :: a8 :: a9 :: a10 :: a11 :: a12 :: a13 :: a14 :: a15 :: q :: l).set 16 r) := h
theorem j_b16 (vs : List Value) (hv : over cs j us = vs) (h : J M n E w0 (a0 :: a1 :: a2 :: a3 :: a4 :: a5 :: a6 :: a7 :: a8 :: a9 :: a10 :: a11 :: a12 :: a13 :: a14 :: a15 :: .box g tt vs :: l)) : J M n E w0 ((a0 :: a1 :: a2 :: a3 :: a4 :: a5 :: a6 :: a7 :: a8 :: a9 :: a10 :: a11 :: a12 :: a13 :: a14 :: a15 :: q :: l).set 16 (.box g tt (over cs j us))) := by subst hv; exact h
theorem j_s17 (h : J M n E w0 (a0 :: a1 :: a2 :: a3 :: a4 :: a5 :: a6 :: a7 :: a8 :: a9 :: a10 :: a11 :: a12 :: a13 :: a14 :: a15 :: a16 :: r :: l)) : J M n E w0 ((a0 :: a1 :: a2 :: a3 :: a4 :: a5 :: a6 :: a7 :: a8 :: a9 :: a10 :: a11 :: a12 :: a13 :: a14 :: a15 :: a16 :: q :: l).set 17 r) := h
theorem j_b17 (vs : List Value) (hv : over cs j us = vs) (h : J M n E w0 (a0 :: a1 :: a2 :: a3 :: a4 :: a5 :: a6 :: a7 :: a8 :: a9 :: a10 :: a11 :: a12 :: a13 :: a14 :: a15 :: a16 :: .box g tt vs :: l)) : J M n E w0 ((a0 :: a1 :: a2 :: a3 :: a4 :: a5 :: a6 :: a7 :: a8 :: a9 :: a10 :: a11 :: a12 :: a13 :: a14 :: a15 :: a16 :: q :: l).set 17 (.box g tt (over cs j us))) := by subst hv; exact h
theorem j_s18 (h : J M n E w0 (a0 :: a1 :: a2 :: a3 :: a4 :: a5 :: a6 :: a7 :: a8 :: a9 :: a10 :: a11 :: a12 :: a13 :: a14 :: a15 :: a16 :: a17 :: r :: l)) : J M n E w0 ((a0 :: a1 :: a2 :: a3 :: a4 :: a5 :: a6 :: a7 :: a8 :: a9 :: a10 :: a11 :: a12 :: a13 :: a14 :: a15 :: a16 :: a17 :: q :: l).set 18 r) := h
theorem j_b18 (vs : List Value) (hv : over cs j us = vs) (h : J M n E w0 (a0 :: a1 :: a2 :: a3 :: a4 :: a5 :: a6 :: a7 :: a8 :: a9 :: a10 :: a11 :: a12 :: a13 :: a14 :: a15 :: a16 :: a17 :: .box g tt vs :: l)) : J M n E w0 ((a0 :: a1 :: a2 :: a3 :: a4 :: a5 :: a6 :: a7 :: a8 :: a9 :: a10 :: a11 :: a12 :: a13 :: a14 :: a15 :: a16 :: a17 :: q :: l).set 18 (.box g tt (over cs j us))) := by subst hv; exact h
theorem j_s19 (h : J M n E w0 (a0 :: a1 :: a2 :: a3 :: a4 :: a5 :: a6 :: a7 :: a8 :: a9 :: a10 :: a11 :: a12 :: a13 :: a14 :: a15 :: a16 :: a17 :: a18 :: r :: l)) : J M n E w0 ((a0 :: a1 :: a2 :: a3 :: a4 :: a5 :: a6 :: a7 :: a8 :: a9 :: a10 :: a11 :: a12 :: a13 :: a14 :: a15 :: a16 :: a17 :: a18 :: q :: l).set 19 r) := h
theorem j_b19 (vs : List Value) (hv : over cs j us = vs) (h : J M n E w0 (a0 :: a1 :: a2 :: a3 :: a4 :: a5 :: a6 :: a7 :: a8 :: a9 :: a10 :: a11 :: a12 :: a13 :: a14 :: a15 :: a16 :: a17 :: a18 :: .box g tt vs :: l)) : J M n E w0 ((a0 :: a1 :: a2 :: a3 :: a4 :: a5 :: a6 :: a7 :: a8 :: a9 :: a10 :: a11 :: a12 :: a13 :: a14 :: a15 :: a16 :: a17 :: a18 :: q :: l).set 19 (.box g tt (over cs j us))) := by subst hv; exact h
theorem j_s20 (h : J M n E w0 (a0 :: a1 :: a2 :: a3 :: a4 :: a5 :: a6 :: a7 :: a8 :: a9 :: a10 :: a11 :: a12 :: a13 :: a14 :: a15 :: a16 :: a17 :: a18 :: a19 :: r :: l)) : J M n E w0 ((a0 :: a1 :: a2 :: a3 :: a4 :: a5 :: a6 :: a7 :: a8 :: a9 :: a10 :: a11 :: a12 :: a13 :: a14 :: a15 :: a16 :: a17 :: a18 :: a19 :: q :: l).set 20 r) := h
theorem j_b20 (vs : List Value) (hv : over cs j us = vs) (h : J M n E w0 (a0 :: a1 :: a2 :: a3 :: a4 :: a5 :: a6 :: a7 :: a8 :: a9 :: a10 :: a11 :: a12 :: a13 :: a14 :: a15 :: a16 :: a17 :: a18 :: a19 :: .box g tt vs :: l)) : J M n E w0 ((a0 :: a1 :: a2 :: a3 :: a4 :: a5 :: a6 :: a7 :: a8 :: a9 :: a10 :: a11 :: a12 :: a13 :: a14 :: a15 :: a16 :: a17 :: a18 :: a19 :: q :: l).set 20 (.box g tt (over cs j us))) := by subst hv; exact h
theorem j_s21 (h : J M n E w0 (a0 :: a1 :: a2 :: a3 :: a4 :: a5 :: a6 :: a7 :: a8 :: a9 :: a10 :: a11 :: a12 :: a13 :: a14 :: a15 :: a16 :: a17 :: a18 :: a19 :: a20 :: r :: l)) : J M n E w0 ((a0 :: a1 :: a2 :: a3 :: a4 :: a5 :: a6 :: a7 :: a8 :: a9 :: a10 :: a11 :: a12 :: a13 :: a14 :: a15 :: a16 :: a17 :: a18 :: a19 :: a20 :: q :: l).set 21 r) := h
theorem j_b21 (vs : List Value) (hv : over cs j us = vs) (h : J M n E w0 (a0 :: a1 :: a2 :: a3 :: a4 :: a5 :: a6 :: a7 :: a8 :: a9 :: a10 :: a11 :: a12 :: a13 :: a14 :: a15 :: a16 :: a17 :: a18 :: a19 :: a20 :: .box g tt vs :: l)) : J M n E w0 ((a0 :: a1 :: a2 :: a3 :: a4 :: a5 :: a6 :: a7 :: a8 :: a9 :: a10 :: a11 :: a12 :: a13 :: a14 :: a15 :: a16 :: a17 :: a18 :: a19 :: a20 :: q :: l).set 21 (.box g tt (over cs j us))) := by subst hv; exact h
theorem j_s22 (h : J M n E w0 (a0 :: a1 :: a2 :: a3 :: a4 :: a5 :: a6 :: a7 :: a8 :: a9 :: a10 :: a11 :: a12 :: a13 :: a14 :: a15 :: a16 :: a17 :: a18 :: a19 :: a20 :: a21 :: r :: l)) : J M n E w0 ((a0 :: a1 :: a2 :: a3 :: a4 :: a5 :: a6 :: a7 :: a8 :: a9 :: a10 :: a11 :: a12 :: a13 :: a14 :: a15 :: a16 :: a17 :: a18 :: a19 :: a20 :: a21 :: q :: l).set 22 r) := h
theorem j_b22 (vs : List Value) (hv : over cs j us = vs) (h : J M n E w0 (a0 :: a1 :: a2 :: a3 :: a4 :: a5 :: a6 :: a7 :: a8 :: a9 :: a10 :: a11 :: a12 :: a13 :: a14 :: a15 :: a16 :: a17 :: a18 :: a19 :: a20 :: a21 :: .box g tt vs :: l)) : J M n E w0 ((a0 :: a1 :: a2 :: a3 :: a4 :: a5 :: a6 :: a7 :: a8 :: a9 :: a10 :: a11 :: a12 :: a13 :: a14 :: a15 :: a16 :: a17 :: a18 :: a19 :: a20 :: a21 :: q :: l).set 22 (.box g tt (over cs j us))) := by subst hv; exact h
theorem j_s23 (h : J M n E w0 (a0 :: a1 :: a2 :: a3 :: a4 :: a5 :: a6 :: a7 :: a8 :: a9 :: a10 :: a11 :: a12 :: a13 :: a14 :: a15 :: a16 :: a17 :: a18 :: a19 :: a20 :: a21 :: a22 :: r :: l)) : J M n E w0 ((a0 :: a1 :: a2 :: a3 :: a4 :: a5 :: a6 :: a7 :: a8 :: a9 :: a10 :: a11 :: a12 :: a13 :: a14 :: a15 :: a16 :: a17 :: a18 :: a19 :: a20 :: a21 :: a22 :: q :: l).set 23 r) := h
theorem j_b23 (vs : List Value) (hv : over cs j us = vs) (h : J M n E w0 (a0 :: a1 :: a2 :: a3 :: a4 :: a5 :: a6 :: a7 :: a8 :: a9 :: a10 :: a11 :: a12 :: a13 :: a14 :: a15 :: a16 :: a17 :: a18 :: a19 :: a20 :: a21 :: a22 :: .box g tt vs :: l)) : J M n E w0 ((a0 :: a1 :: a2 :: a3 :: a4 :: a5 :: a6 :: a7 :: a8 :: a9 :: a10 :: a11 :: a12 :: a13 :: a14 :: a15 :: a16 :: a17 :: a18 :: a19 :: a20 :: a21 :: a22 :: q :: l).set 23 (.box g tt (over cs j us))) := by subst hv; exact h
end
/-! ### a loop whose first round was taken by itself -/
theorem lp_down {Q : Exit → Act → World → Prop} {c : Code} (I : Nat → Act → World → Prop) (round : ∀ m a w, I m a w → c.wp P (Exit.then (fun a' w' => ∃ m', m' < m ∧ I m' a' w') Q) a w) : ∀ (m : Nat) (a : Act) (w : World), I m a w → Lp P c Q a w := by
  intro m
  induction m using Nat.strongRecOn with
  | _ m ih =>
    intro a w h
    refine lp_round (wp_mono (round m a w h) ?_)
    intro e a' w' he
    cases e with
    | normal => obtain ⟨m', hlt, hI⟩ := he; exact ih m' hlt a' w' hI
    | exit id => exact he
    | goto l => exact he
    | ret => exact he
    | panic ch => exact he
    | outgrown => exact he
theorem j_lp {Q : Exit → Act → World → Prop} {σ : Type} {c : Code} (Es : σ → List (Nat × Value)) (Rs : σ → List Res) (H : Nat → σ → Prop) (m : Nat) (s : σ) (h0 : H m s)
    (hE : ∀ a, EnvOk a n E → EnvOk a n (Es s)) (hR : ∀ w, Mem w0 rs w → Mem w0 (Rs s) w)
    (round : ∀ m s, H m s → J (c.wp P (Exit.then (fun a' w' => ∃ m', m' < m ∧ Head n w0 Es Rs H m' a' w') Q)) n (Es s) w0 (Rs s)) : J (Lp P c Q) n E w0 rs := fun a w he hm =>
  lp_down (Head n w0 Es Rs H) (fun m a w ⟨s, hs, he, hm⟩ => round m s hs a w he hm) m a w ⟨s, h0, hE a he, hR w hm⟩
/-! ### function values -/
theorem q_makeFunc {f : FuncId} {first captured : Array Operand} {l : List Operand} {vs : List Value} (ho : o.op = .makeFunc (.func f) first captured) (hf : first = #[]) (hc : captured = l.toArray) (hv : evs E l = some vs) : Quiet P o n E w0 rs (.func (.func f) #[] vs.toArray) := .mk fun ρ w h hm => by
  have hm' := evs_map h hv
  simp only [execOp, ho, hf, hc, List.map_toArray, hm']
  rfl
theorem a_callC {pr : Call} {f : FuncId} {x : Operand} {l : List Operand} {vs caps : List Value} {α : Type} {v : α → Value} {rs' : α → List Res} (hf : CallOk P f) (ho : o.op = .call pr) (hc : pr.callee = .value x) (hx : ev E x = some (.func (.func f) #[] caps.toArray)) (ha : pr.args = l.toArray) (hv : evs E l = some vs)
    (hcall : ∀ w, Mem w0 rs w → Calls P f (vs ++ caps).toArray w fun e w' => ∃ x, e = .returned (v x) ∧ Mem w0 (rs' x) w') : Acts P o n E w0 rs v rs' := acts_of_calls (fun a w he hm => by
  have hm := evs_map (fun x u hx => he.eval hx) hv
  have hfun : a.eval x = .func (.func f) #[] caps.toArray := he.eval hx
  simp only [execOp, ho, resolve, hc, ha, hfun, List.map_toArray, hm]
  show Sem.run P (callFunc f ((#[] ++ vs.toArray) ++ caps.toArray)) w = _
  rw [run_callFunc hf]
  simp) hcall
/-! ### unsigned words -/
def wu (n : Int) : Int := n % 18446744073709551616
theorem u64_wrap (n : Int) : IntKind.u64.wrap n = wu n := by
  unfold IntKind.wrap wu
  simp [IntKind.signed, IntKind.bits]
def andu (p q : Int) : Int := wu ((BitVec.ofInt 64 p &&& BitVec.ofInt 64 q).toNat)
def shru (p q : Int) : Int := p.fdiv (2 ^ (min q.toNat 64))
section
variable {t t' : TypeId} {x y : Operand} {p q : Int}
theorem q_addu (ho : o.op = .binOp .add t x y t') (hx : ev E x = some (.int .u64 p)) (hy : ev E y = some (.int .u64 q)) : Quiet P o n E w0 rs (.int .u64 (wu (p + q))) := .mk fun ρ w h hm => by
  simp only [execOp, ho, h _ _ hx, h _ _ hy]; rw [← u64_wrap]; rfl
theorem q_subu (ho : o.op = .binOp .sub t x y t') (hx : ev E x = some (.int .u64 p)) (hy : ev E y = some (.int .u64 q)) : Quiet P o n E w0 rs (.int .u64 (wu (p - q))) := .mk fun ρ w h hm => by
  simp only [execOp, ho, h _ _ hx, h _ _ hy]; rw [← u64_wrap]; rfl
theorem q_mulu (ho : o.op = .binOp .mul t x y t') (hx : ev E x = some (.int .u64 p)) (hy : ev E y = some (.int .u64 q)) : Quiet P o n E w0 rs (.int .u64 (wu (p * q))) := .mk fun ρ w h hm => by
  simp only [execOp, ho, h _ _ hx, h _ _ hy]; rw [← u64_wrap]; rfl
theorem q_andu (ho : o.op = .binOp .and t x y t') (hx : ev E x = some (.int .u64 p)) (hy : ev E y = some (.int .u64 q)) : Quiet P o n E w0 rs (.int .u64 (andu p q)) := .mk fun ρ w h hm => by
  simp only [execOp, ho, h _ _ hx, h _ _ hy]; unfold andu; rw [← u64_wrap]; rfl
theorem q_shru {k : IntKind} (ho : o.op = .binOp .shr t x y t') (hx : ev E x = some (.int .u64 p)) (hy : ev E y = some (.int k q)) (hq : ¬q < 0) : Quiet P o n E w0 rs (.int .u64 (shru p q)) := .mk fun ρ w h hm => by
  simp only [execOp, ho, h _ _ hx, h _ _ hy, binOp, Op.shift]
  rw [if_neg hq]
  rfl
end
/-! ### copies -/
/-- A list is written into another one, from i on. -/
def cpy (xs : List Int) (i : Nat) (ys : List Int) : List Int := xs.take i ++ ys ++ xs.drop (i + ys.length)
theorem cpy_cons {xs ys : List Int} {i : Nat} {y : Int} (h : i < xs.length) : cpy (xs.set i y) (i + 1) ys = cpy xs i (y :: ys) := by
  unfold cpy
  rw [List.take_succ_eq_append_getElem (by simpa), List.getElem_set_self, List.take_set_of_le (Nat.le_refl _), List.drop_set_of_lt (by omega)]
  simp only [List.length_cons, List.append_assoc, List.cons_append, List.nil_append, List.singleton_append]
  rw [show i + 1 + ys.length = i + (ys.length + 1) by omega]
theorem cpy_len {xs ys : List Int} {i : Nat} (h : i + ys.length ≤ xs.length) : (cpy xs i ys).length = xs.length := by
  unfold cpy
  rw [List.length_append, List.length_append, List.length_take, List.length_drop]
  omega
theorem over_nil (cs : List Value) (j : Nat) : over cs j [] = cs := rfl
theorem run_storesV {k c e sz : Nat} {A : Option Addr} {a : Addr} (vs : List Value) : ∀ (m i : Nat) (cs : List Value) (rs : List Res) (w : World), Mem w0 rs w → rs[k]? = some (.row A c e sz cs) → A.map (·.add m) = some a → m + i + vs.length ≤ cs.length → (∀ v ∈ vs, one v = true) →
    ∃ w', (storeCells a vs i).run P w = .ok () w' ∧ Mem w0 (rs.set k (.row A c e sz (over cs (m + i) vs))) w' := by
  induction vs with
  | nil =>
    intro m i cs rs w hm hk ha hl h1
    refine ⟨w, rfl, ?_⟩
    rw [over_nil, set_same hk]
    exact hm
  | cons v vs ih =>
    intro m i cs rs w hm hk ha hl h1
    rw [List.length_cons] at hl
    have hlt : k < rs.length := (List.getElem?_eq_some_iff.1 hk).1
    obtain ⟨b, rfl, u, hcell, hfr, hm'⟩ := hm.setRow (m := m + i) (v := v) hk (by omega) (h1 v (by simp))
    have ha' : a = b.add m := by simpa using ha.symm
    subst ha'
    obtain ⟨w', hr, hmm⟩ := ih m (i + 1) (cs.set (m + i) v) _ _ hm' (List.getElem?_set_self hlt) ha (by rw [List.length_set]; omega) (fun u hu => h1 u (by simp [hu]))
    refine ⟨w', ?_, ?_⟩
    · show Sem.run P ((store ((b.add m).add i) v).bind fun _ => storeCells (b.add m) vs (i + 1)) w = _
      rw [add_add, run_to (run_store hcell hfr (h1 v (by simp)))]
      exact hr
    · rw [List.set_set] at hmm
      exact hmm
theorem over_ints {kd : IntKind} (ys : List Int) : ∀ (xs : List Int) (i : Nat), i + ys.length ≤ xs.length → over (ints kd xs) i (ints kd ys) = ints kd (cpy xs i ys) := by
  induction ys with
  | nil => intro xs i _; show ints kd xs = _; unfold cpy; simp
  | cons y ys ih =>
    intro xs i h
    rw [List.length_cons] at h
    show over ((ints kd xs).set i (.int kd y)) (i + 1) (ints kd ys) = _
    have e : (ints kd xs).set i (.int kd y) = ints kd (xs.set i y) := by
      have := ints_set kd xs i y
      rwa [Nat.mul_one] at this
    rw [e, ih _ _ (by rw [List.length_set]; omega), cpy_cons (by omega)]
/-! ### rows of operations -/
theorem trips_cons (x : Int × Int × Int) (xs : List (Int × Int × Int)) : trips (x :: xs) = .int .i64 x.1 :: .int .i64 x.2.1 :: .int .i64 x.2.2 :: trips xs := rfl
/-- A part of an operation is turned. -/
def upT (j : Nat) (v : Int) (p : Int × Int × Int) : Int × Int × Int :=
  match j with
  | 0 => (v, p.2.1, p.2.2)
  | 1 => (p.1, v, p.2.2)
  | _ => (p.1, p.2.1, v)
theorem trips_set (i j : Nat) (v : Int) : ∀ xs : List (Int × Int × Int), i < xs.length → j < 3 → (trips xs).set (i * 3 + j) (.int .i64 v) = trips (xs.set i (upT j v (xs.getD i (0, 0, 0)))) := by
  induction i with
  | zero =>
    intro xs h hj
    cases xs with
    | nil => simp at h
    | cons x xs =>
      rw [Nat.zero_mul, Nat.zero_add, trips_cons]
      match j, hj with
      | 0, _ => rfl
      | 1, _ => rfl
      | 2, _ => rfl
  | succ i ih =>
    intro xs h hj
    cases xs with
    | nil => simp at h
    | cons x xs =>
      rw [trips_cons, show (i + 1) * 3 + j = (i * 3 + j) + 1 + 1 + 1 by omega]
      simp only [List.set_cons_succ]
      rw [ih xs (by simpa using h) hj]
      rfl
theorem over_trip (i : Nat) (p : Int × Int × Int) (xs : List (Int × Int × Int)) (h : i < xs.length) : over (trips xs) (i * 3) [.int .i64 p.1, .int .i64 p.2.1, .int .i64 p.2.2] = trips (xs.set i p) := by
  show (((trips xs).set (i * 3) (.int .i64 p.1)).set (i * 3 + 1) (.int .i64 p.2.1)).set (i * 3 + 1 + 1) (.int .i64 p.2.2) = _
  have e0 := trips_set i 0 p.1 xs h (by omega)
  rw [Nat.add_zero] at e0
  rw [e0, trips_set i 1 _ _ (by simpa using h) (by omega), show i * 3 + 1 + 1 = i * 3 + 2 by omega, trips_set i 2 _ _ (by simpa using h) (by omega)]
  simp [h, upT]
variable {t : TypeId} {x y : Operand}
/-- An operation is stored. -/
theorem a_stT (k : Nat) {c e : Nat} {A : Option Addr} {xs : List (Int × Int × Int)} {i : Int} {p : Int × Int × Int} (hk : rs[k]? = some (.row A c e 3 (trips xs))) (hb : 0 ≤ i ∧ i < (xs.length : Int)) (hs : SzIs P t 3) (ho : o.op = .store t x y) (hx : ev E x = some (.pointer (A.map (·.add (i.toNat * 3))))) (hy : ev E y = some (.agg (List.toArray [.int .i64 p.1, .int .i64 p.2.1, .int .i64 p.2.2]))) :
    Acts P o n E w0 rs (fun _ : Unit => undef) (fun _ => rs.set k (.row A c e 3 (trips (xs.set i.toNat p)))) := acts_of_skip fun a w he hm => by
  have hlt : i.toNat < xs.length := by omega
  obtain ⟨b, rfl, _⟩ := hm.setRow (m := i.toNat * 3) (v := .int .i64 0) hk (by rw [trips_len]; omega) rfl
  obtain ⟨w', hr, hm'⟩ := run_storesV (P := P) (a := b.add (i.toNat * 3)) [.int .i64 p.1, .int .i64 p.2.1, .int .i64 p.2.2] (i.toNat * 3) 0 (trips xs) rs w hm hk rfl (by rw [trips_len]; simp; omega) (fun v hv => by
    simp only [List.mem_cons, List.not_mem_nil, or_false] at hv
    rcases hv with rfl | rfl | rfl <;> rfl)
  rw [Nat.add_zero, over_trip _ _ _ hlt] at hm'
  refine ⟨w', ?_, hm'⟩
  simp only [execOp, ho, he.eval hx, he.eval hy]
  show Sem.run P ((Instr.storeAt t (.pointer (some (b.add (i.toNat * 3)))) _).bind fun _ => (pure Next.skip : Sem Next)) w = _
  have : (Instr.storeAt t (.pointer (some (b.add (i.toNat * 3)))) (.agg (List.toArray [.int .i64 p.1, .int .i64 p.2.1, .int .i64 p.2.2]))).run P w = .ok () w' := by
    refine (run_to (run_size hs w)).trans ?_
    exact hr
  rw [run_to this]; rfl
/-- A part of an operation is stored. -/
theorem a_stTf (k j : Nat) {c e : Nat} {A : Option Addr} {xs xs' : List (Int × Int × Int)} {i v : Int} (hk : rs[k]? = some (.row A c e 3 (trips xs))) (hb : 0 ≤ i ∧ i < (xs.length : Int)) (hj : j < 3) (hs : SzIs P t 1)
    (hxs : xs' = xs.set i.toNat (upT j v (rdt xs i))) (ho : o.op = .store t x y) (hx : ev E x = some (.pointer (A.map (·.add (i.toNat * 3 + j))))) (hy : ev E y = some (.int .i64 v)) :
    Acts P o n E w0 rs (fun _ : Unit => undef) (fun _ => rs.set k (.row A c e 3 (trips xs'))) := by
  have hlt : i.toNat < xs.length := by omega
  have h := a_store (P := P) (n := n) (E := E) (w0 := w0) (t := t) k hk hs ho hx hy rfl (by rw [trips_len]; omega)
  rw [trips_set i.toNat j v xs hlt hj] at h
  rw [hxs]
  exact h
/-! ### copies -/
theorem cap_drop {α : Type} {xs : List α} {c : Nat} (h : xs.length ≤ c) (i : Nat) : (xs.drop i).length ≤ c - i := by rw [List.length_drop]; omega
theorem cap_take {α : Type} {xs : List α} {c : Nat} (h : xs.length ≤ c) (i : Nat) : (xs.take i).length ≤ c := by rw [List.length_take]; omega
theorem drop_room {α : Type} {i : Int} {xs : List α} (h : 0 ≤ i ∧ i ≤ (xs.length : Int)) : i.toNat + (xs.drop i.toNat).length ≤ xs.length := by
  rw [List.length_drop]; omega
theorem a_copyI {pr : Call} {t' e e' : Nat} (k : Nat) {kd : IntKind} {c m c0 m2 c2 : Nat} (i : Nat) {A B D : Option Addr} (xs ys : List Int) (hu : P.underlying t = some (.slice e)) (hs : SzIs P e 1) (ho : o.op = .call pr) (hc : pr.callee = .builtin .copy) (ha : pr.args = #[x, y]) (ht : pr.argTypes = #[t, t']) (hx : ev E x = some (.slice D m c0)) (hy : ev E y = some (.slice B m2 c2)) (hk : rs[k]? = some (.row A c e' 1 (ints kd xs))) (hD : D = cutA A c i 1) (hm1 : i + m ≤ xs.length) (hy2 : ys.length = m2) (R : Rd w0 rs B (ints kd ys)) :
    Acts P o n E w0 rs (fun _ : Unit => .int .i64 ((min m2 m : Nat) : Int)) (fun _ => rs.set k (.row A c e' 1 (ints kd (cpy xs i (ys.take (min m2 m)))))) := acts_of_run fun a w he hm => by
  have hl : (ints kd (ys.take (min m2 m))).length = min m2 m * 1 := by rw [ints_len, List.length_take]; omega
  have hR : Rd w0 rs B (ints kd (ys.take (min m2 m))) := by
    have := R.take (min m2 m)
    rwa [ints_take] at this
  have hfc := run_firstCells (P := P) (c := c2) hR hl hm
  have hst : ∃ w', (match D with | some a => storeCells a (ints kd (ys.take (min m2 m))) | none => pure ()).run P w = .ok () w' ∧ Mem w0 (rs.set k (.row A c e' 1 (ints kd (cpy xs i (ys.take (min m2 m)))))) w' := by
    by_cases h0 : min m2 m = 0
    · have e0 : ys.take (min m2 m) = [] := by rw [h0]; rfl
      have e1 : cpy xs i [] = xs := by unfold cpy; simp
      rw [e0, e1, set_same hk]
      refine ⟨w, ?_, hm⟩
      cases D <;> rfl
    · have hcap : xs.length ≤ c := hm.roomI k hk
      have hne : ¬c = i := by omega
      obtain ⟨b, hb, _⟩ := hm.setRow (m := i) (v := .int kd 0) hk (by rw [ints_len]; omega) rfl
      have hD' : D = some (b.add i) := by
        rw [hD, cutA, if_neg hne, hb]; simp
      have hle : i + (ys.take (min m2 m)).length ≤ xs.length := by rw [List.length_take]; omega
      obtain ⟨w', hr, hmm⟩ := run_storesV (P := P) (a := b.add i) (ints kd (ys.take (min m2 m))) i 0 (ints kd xs) rs w hm hk (by rw [hb]; rfl) (by rw [ints_len, ints_len]; omega) (ints_one kd _)
      rw [Nat.add_zero, over_ints _ _ _ hle] at hmm
      refine ⟨w', ?_, hmm⟩
      rw [hD']
      exact hr
  obtain ⟨w', hst, hmm⟩ := hst
  refine ⟨(), w', ?_, hmm⟩
  simp only [execOp, ho, resolve, hc, ha, he.eval hx, he.eval hy, List.map_toArray, List.map_cons, List.map_nil]
  have hcopy : (Builtin.copy_ pr.argTypes o.type #[.slice D m c0, .slice B m2 c2]).run P w = .ok (.int .i64 ((min m2 m : Nat) : Int)) w' := by
    rw [ht]
    refine (run_to (run_underlying hu w)).trans ?_
    refine (run_to (show (Builtin.lenOf (.slice B m2 c2)).run P w = .ok m2 w from rfl)).trans ?_
    refine (run_to (run_size hs w)).trans ?_
    have efc : Builtin.firstCells 1 (Nat.min m2 m) (.slice B m2 c2) = Builtin.firstCells 1 (min m2 m) (.slice B (min m2 m) c2) := by cases B <;> rfl
    rw [← efc] at hfc
    refine (run_to hfc).trans ?_
    have e : (ints kd (ys.take (min m2 m))).toArray.toList = ints kd (ys.take (min m2 m)) := rfl
    cases D with
    | none => 
      have : w' = w := by
        have h2 : (pure () : Sem Unit).run P w = .ok () w' := hst
        injection h2 with _ h2
        exact h2.symm
      subst this
      rfl
    | some d =>
      refine (run_to (show (storeCells d (ints kd (ys.take (min m2 m))).toArray.toList).run P w = .ok () w' from hst)).trans ?_
      rfl
  show Sem.run P ((Builtin.copy_ pr.argTypes o.type #[.slice D m c0, .slice B m2 c2]).bind fun v => (pure (Next.value v) : Sem Next)) w = _
  rw [run_to hcopy]
  rfl
theorem a_cpyI {pr : Call} {t' e e' : Nat} (k : Nat) {kd : IntKind} {c m c0 m2 c2 : Nat} (i : Nat) {A B D : Option Addr} (xs ys : List Int) (ml : Nat) (hu : P.underlying t = some (.slice e)) (hs : SzIs P e 1) (ho : o.op = .call pr) (hc : pr.callee = .builtin .copy) (ha : pr.args = #[x, y]) (ht : pr.argTypes = #[t, t']) (hx : ev E x = some (.slice D m c0)) (hy : ev E y = some (.slice B m2 c2)) (hk : rs[k]? = some (.row A c e' 1 (ints kd xs))) (hD : D = cutA A c i 1) (hm1 : i + ml ≤ xs.length) (hml : ml = m) (hy2 : ys.length = m2) (R : Rd w0 rs B (ints kd ys)) :
    Acts P o n E w0 rs (fun _ : Unit => .int .i64 ((min ys.length ml : Nat) : Int)) (fun _ => rs.set k (.row A c e' 1 (ints kd (cpy xs i (ys.take (min ys.length ml)))))) := by
  subst hml hy2
  exact a_copyI k i xs ys hu hs ho hc ha ht hx hy hk hD hm1 rfl R
theorem cpy_n {xs ys : List Int} {i ml m : Nat} (h : xs.length = m) (hm : i + ml ≤ xs.length) : (cpy xs i (ys.take (min ys.length ml))).length = m := by
  rw [cpy_len (by rw [List.length_take]; omega), h]
theorem q_intu {s d : TypeId} {k : IntKind} {u : TypeDesc} {p : Int} (hs : P.underlying s = some u) (hd : P.underlying d = some (.int .u64)) (ho : o.op = .convert s d x) (hx : ev E x = some (.int k p)) : Quiet P o n E w0 rs (.int .u64 (wu p)) := .of (fun ρ => convert s d (ρ x)) (fun ρ => by simp only [execOp, ho]; rfl) fun ρ w h hm => by
  simp only [h _ _ hx]
  refine (run_to (run_underlying hs w)).trans ?_
  refine (run_to (run_underlying hd w)).trans ?_
  rw [← u64_wrap]
  cases u <;> rfl
/-- A row of operations that do nothing. -/
theorem trips_rep (m : Nat) : (List.replicate m [Value.int .i64 0, .int .i64 0, .int .i64 0]).flatten = trips (List.replicate m (0, 0, 0)) := by
  induction m with
  | zero => rfl
  | succ m ih => rw [List.replicate_succ, List.flatten_cons, ih, List.replicate_succ, trips_cons]; rfl
theorem zeros_three (m : Nat) : (Array.range (m * 3)).map ((#[Value.int .i64 0, .int .i64 0, .int .i64 0] : Array Value)[· % 3]!) = (trips (List.replicate m (0, 0, 0))).toArray := by
  apply Array.ext
  · simp [trips_len]
  · intro i h1 h2
    have hi : i < m * 3 := by simpa using h1
    have e : ∀ j : Nat, j < 3 → ((#[Value.int .i64 0, .int .i64 0, .int .i64 0] : Array Value)[j]!) = .int .i64 0 := by
      intro j hj
      match j, hj with
      | 0, _ => rfl
      | 1, _ => rfl
      | 2, _ => rfl
    have hg := trips_get (xs := List.replicate m ((0 : Int), (0 : Int), (0 : Int))) (i := ((i / 3 : Nat) : Int)) (by omega) (by rw [List.length_replicate]; omega) (i % 3) (by omega)
    rw [Int.toNat_natCast, show i / 3 * 3 + i % 3 = i by omega] at hg
    have hz : rdt (List.replicate m ((0 : Int), (0 : Int), (0 : Int))) ((i / 3 : Nat) : Int) = (0, 0, 0) := by
      unfold rdt
      have : i / 3 < m := by omega
      rw [Int.toNat_natCast, List.getD_eq_getElem?_getD, List.getElem?_replicate, if_pos this]
      rfl
    rw [hz] at hg
    simp only [List.getElem_toArray, Array.getElem_map, Array.getElem_range]
    rw [e _ (by omega)]
    have h3 : i % 3 < 3 := by omega
    have h4 : (trips (List.replicate m ((0 : Int), (0 : Int), (0 : Int))))[i]? = some (.int .i64 0) := by
      rw [hg]
      generalize i % 3 = j at h3
      match j, h3 with
      | 0, _ => rfl
      | 1, _ => rfl
      | 2, _ => rfl
    exact (List.getElem_eq_iff _).2 h4 |>.symm
theorem a_mkT {e b : Nat} {x' : Operand} {m : Int} (hu : P.underlying t = some (.slice e)) (hs : SzIs P e 3) (hb : BytesIs P e b) (hz : ZeroIs P e (.agg (List.toArray [.int .i64 0, .int .i64 0, .int .i64 0]))) (hb1 : Nat.ble b 64 = true) (hm1 : 0 ≤ m ∧ m ≤ 1099511627776) (ho : o.op = .makeSlice t x x') (hx : ev E x = some (.int .i64 m)) (hx' : ev E x' = some (.int .i64 m)) :
    Acts P o n E w0 rs (fun A : Option Addr => .slice A m.toNat m.toNat) (fun A => .row A m.toNat e 3 (trips (List.replicate m.toNat (0, 0, 0))) :: rs) := acts_of_run fun a w he hm => by
  have hb2 : b ≤ 64 := Nat.le_of_ble_eq_true hb1
  refine ⟨some ⟨w.heap.size, 0, none⟩, _, ?_, hm.newRow e m.toNat 3 (trips (List.replicate m.toNat (0, 0, 0))).toArray _ (by simp [trips_len]) (by simp [trips_len]) (fun j hj => ?_)⟩
  · simp only [execOp, ho, he.eval hx, he.eval hx']
    have hbm : (b : Int) * m ≤ 281474976710656 := by
      have h1 : (b : Int) ≤ 64 := by omega
      have h2 : (b : Int) * m ≤ 64 * 1099511627776 := Int.mul_le_mul h1 hm1.2 hm1.1 (by omega)
      omega
    have hw : IntKind.i64.wrap m = m := by rw [i64_wrap]; unfold wrap64; omega
    have : (Instr.makeSlice t (.int .i64 m) (.int .i64 m)).run P w = .ok (.slice (some ⟨w.heap.size, 0, none⟩) m.toNat m.toNat) { w with heap := w.heap.push (.cells (trips (List.replicate m.toNat (0, 0, 0))).toArray e) } := by
      refine (run_to (run_underlying hu w)).trans ?_
      obtain ⟨i, hi, hib⟩ := run_typeInfo_bytes hb w
      refine (run_to (m := asInt (.int .i64 m)) (v := m) (w' := w) rfl).trans ?_
      refine (run_to (m := asInt (.int .i64 m)) (v := m) (w' := w) rfl).trans ?_
      refine (run_to hi).trans ?_
      simp only [hib, hw]
      rw [if_neg (by simp; omega)]
      refine (run_to (run_askRoom _ w)).trans ?_
      refine (run_to (run_size hs w)).trans ?_
      have key : ∀ zc : Array Value, (m.toNat * 3 = 0 ∨ zc = #[Value.int .i64 0, .int .i64 0, .int .i64 0]) → Sem.run P ((newRow e ((Array.range (m.toNat * 3)).map (zc[· % zc.size]!))).bind fun b => (pure (Value.slice (some b) m.toNat m.toNat) : Sem Value)) w = .ok (.slice (some ⟨w.heap.size, 0, none⟩) m.toNat m.toNat) { w with heap := w.heap.push (.cells (trips (List.replicate m.toNat (0, 0, 0))).toArray e) } := by
        intro zc hzc'
        rw [run_to (run_newRow e _ w)]
        have : (Array.range (m.toNat * 3)).map (zc[· % zc.size]!) = (trips (List.replicate m.toNat (0, 0, 0))).toArray := by
          rcases hzc' with h | h
          · rw [show m.toNat = 0 by omega]; simp [trips]
          · subst h; exact zeros_three _
        rw [this]; rfl
      show Sem.run P (if m.toNat * 3 = 0 then _ else _) w = _
      by_cases hc : m.toNat * 3 = 0
      · rw [if_pos hc]
        exact key #[] (.inl hc)
      · rw [if_neg hc]
        exact (run_to (run_zero hz w)).trans (key _ (.inr rfl))
    show Sem.run P ((Instr.makeSlice t (.int .i64 m) (.int .i64 m)).bind fun x => (pure (Next.value x) : Sem Next)) w = _
    rw [run_to this]; rfl
  · simp
end
end Go.Proofs.YtnfaiojmabolmaaDoor.S
namespace Go.Proofs.YtnfaiojmabolmaaDoor.S
open Go Go.RowKit
set_option linter.unusedVariables false
set_option linter.unusedSimpArgs false
def b11 {α1 α2 α3 α4 α5 α6 α7 α8 α9 α10 α11 β : Type} (o : Option (α1 × α2 × α3 × α4 × α5 × α6 × α7 × α8 × α9 × α10 × α11)) (f : α1 → α2 → α3 → α4 → α5 → α6 → α7 → α8 → α9 → α10 → α11 → Option β) : Option β := o.bind fun x => f x.1 x.2.1 x.2.2.1 x.2.2.2.1 x.2.2.2.2.1 x.2.2.2.2.2.1 x.2.2.2.2.2.2.1 x.2.2.2.2.2.2.2.1 x.2.2.2.2.2.2.2.2.1 x.2.2.2.2.2.2.2.2.2.1 x.2.2.2.2.2.2.2.2.2.2
theorem of_b11 {α1 α2 α3 α4 α5 α6 α7 α8 α9 α10 α11 β : Type} {o : Option (α1 × α2 × α3 × α4 × α5 × α6 × α7 × α8 × α9 × α10 × α11)} {f : α1 → α2 → α3 → α4 → α5 → α6 → α7 → α8 → α9 → α10 → α11 → Option β} {r : β} (h : b11 o f = some r) : ∃ a b c d e g i j k l m, o = some (a, b, c, d, e, g, i, j, k, l, m) ∧ f a b c d e g i j k l m = some r := by
  obtain ⟨⟨a, b, c, d, e, g, i, j, k, l, m⟩, h1, h2⟩ := Option.bind_eq_some_iff.1 h; exact ⟨a, b, c, d, e, g, i, j, k, l, m, h1, h2⟩
section
variable {n : Nat} {E : List (Nat × Value)} {w0 : World} {rs : List Res} {P : Program} {o : Oper}
def isI (u : Option TypeDesc) : Bool := match u with | some (.int _) => true | _ => false
def numField (P : Program) (k : Nat) (f : Field) : Bool := decide (f.name ≠ "_") && f.offset == k && isI (P.underlying f.type)
def opDesc (P : Program) : TypeDesc → Bool
  | .struct fs => match fs.toList with
    | [f0, f1, f2] => numField P 0 f0 && numField P 1 f1 && numField P 2 f2
    | _ => false
  | _ => false
/-- A type of three numbers, with no guard of the model's. -/
def EqT (P : Program) (t : Nat) : Prop := ((P.underlying t).map (opDesc P), P.stoodInHeld t, P.eqGuardType P.depth t) = (some true, false, false)
theorem isI_some {u : Option TypeDesc} (h : isI u = true) : ∃ k, u = some (.int k) := by
  unfold isI at h
  split at h
  · exact ⟨_, rfl⟩
  · exact absurd h (by simp)
theorem num_field {k : Nat} {f : Field} (h : numField P k f = true) : f.name ≠ "_" ∧ f.offset = k ∧ ∃ d, P.underlying f.type = some (.int d) := by
  unfold numField at h
  simp only [Bool.and_eq_true, decide_eq_true_eq, beq_iff_eq] at h
  exact ⟨h.1.1, h.1.2, isI_some h.2⟩
theorem EqT.fields {t : Nat} (h : EqT P t) : ∃ f0 f1 f2, P.underlying t = some (.struct #[f0, f1, f2]) ∧ numField P 0 f0 = true ∧ numField P 1 f1 = true ∧ numField P 2 f2 = true := by
  unfold EqT at h
  have h1 : (P.underlying t).map (opDesc P) = some true := congrArg Prod.fst h
  cases hu : P.underlying t with
  | none => rw [hu] at h1; simp at h1
  | some u =>
    rw [hu] at h1
    have h2 : opDesc P u = true := by simpa using h1
    unfold opDesc at h2
    split at h2
    · rename_i fs
      split at h2
      · rename_i f0 f1 f2 e
        simp only [Bool.and_eq_true] at h2
        refine ⟨f0, f1, f2, ?_, h2.1.1, h2.1.2, h2.2⟩
        have : fs = #[f0, f1, f2] := by
          apply Array.ext'
          rw [e]
        rw [this]
      · exact absurd h2 (by simp)
    · exact absurd h2 (by simp)
theorem EqT.held {t : Nat} (h : EqT P t) : P.stoodInHeld t = false := congrArg (fun x => x.2.1) h
theorem EqT.guard {t : Nat} (h : EqT P t) : P.eqGuardType P.depth t = false := congrArg (fun x => x.2.2) h
theorem run_eqI {d : Nat} {t : Nat} {k : IntKind} {a b : Int} (hu : P.underlying t = some (.int k)) (w : World) : (Op.equalIn (d + 1) t (.int .i64 a) (.int .i64 b)).run P w = .ok (a == b) w := by
  unfold Op.equalIn
  refine (run_to (run_underlying hu w)).trans ?_
  rfl
theorem aggI {t : Nat} {k : IntKind} (hu : P.underlying t = some (.int k)) : AggIs P t false := by unfold AggIs; rw [hu]; rfl
theorem run_equal_T {t : Nat} {p q r p' q' r' : Int} (h : EqT P t) (w : World) : (Op.equal t (.agg #[.int .i64 p, .int .i64 q, .int .i64 r]) (.agg #[.int .i64 p', .int .i64 q', .int .i64 r'])).run P w = .ok (p == p' && (q == q' && r == r')) w := by
  obtain ⟨f0, f1, f2, hu, g0, g1, g2⟩ := h.fields
  obtain ⟨n0, o0, k0, u0⟩ := num_field g0
  obtain ⟨n1, o1, k1, u1⟩ := num_field g1
  obtain ⟨n2, o2, k2, u2⟩ := num_field g2
  show Sem.run P (Op.equalIn (9999 + 1) t _ _) w = _
  unfold Op.equalIn
  refine (run_to (run_underlying hu w)).trans ?_
  have hh := h.held
  have e0 : ∀ {a b : Int} (w : World), (Op.equalIn 9999 f0.type (.int .i64 a) (.int .i64 b)).run P w = .ok (a == b) w := fun w => run_eqI (d := 9998) u0 w
  have e1 : ∀ {a b : Int} (w : World), (Op.equalIn 9999 f1.type (.int .i64 a) (.int .i64 b)).run P w = .ok (a == b) w := fun w => run_eqI (d := 9998) u1 w
  have e2 : ∀ {a b : Int} (w : World), (Op.equalIn 9999 f2.type (.int .i64 a) (.int .i64 b)).run P w = .ok (a == b) w := fun w => run_eqI (d := 9998) u2 w
  have p0 : ∀ {a b c : Int} (w : World), (part f0.type #[.int .i64 a, .int .i64 b, .int .i64 c] f0.offset).run P w = .ok (.int .i64 a) w := fun w => run_part (aggI u0) (by rw [o0]; rfl) w
  have p1 : ∀ {a b c : Int} (w : World), (part f1.type #[.int .i64 a, .int .i64 b, .int .i64 c] f1.offset).run P w = .ok (.int .i64 b) w := fun w => run_part (aggI u1) (by rw [o1]; rfl) w
  have p2 : ∀ {a b c : Int} (w : World), (part f2.type #[.int .i64 a, .int .i64 b, .int .i64 c] f2.offset).run P w = .ok (.int .i64 c) w := fun w => run_part (aggI u2) (by rw [o2]; rfl) w
  refine (run_to (show Sem.run P (program) w = .ok P w from rfl)).trans ?_
  rw [if_neg (by rw [hh]; simp)]
  have hb : ∀ {α β : Type} (m : Sem α) (f : α → Sem β), (m >>= f) = Sem.bind m f := fun _ _ => rfl
  have hp : ∀ {α : Type} (a : α) (w : World), Sem.run P (pure a : Sem α) w = .ok a w := fun _ _ => rfl
  rw [← Array.forIn_toList]
  simp only [List.forIn_cons, List.forIn_nil, ne_eq, n0, n1, n2, not_false_eq_true, if_true, hb, run_bind, p0, p1, p2, e0, e1, e2, hp]
  by_cases c0 : p = p'
  · subst c0
    by_cases c1 : q = q'
    · subst c1
      by_cases c2 : r = r'
      · subst c2
        simp [hp, run_bind, hb, p0, p1, p2, e0, e1, e2]
      · simp [hp, run_bind, hb, p0, p1, p2, e0, e1, e2, c2]
    · simp [hp, run_bind, hb, p0, p1, p2, e0, e1, e2, c1]
  · simp [hp, run_bind, hb, p0, p1, p2, e0, e1, e2, c0]
variable {t t' : TypeId} {x y : Operand} {p q r p' q' r' : Int}
theorem q_neT (hE : EqT P t) (ho : o.op = .binOp .neq t x y t') (hx : ev E x = some (.agg (List.toArray [.int .i64 p, .int .i64 q, .int .i64 r]))) (hy : ev E y = some (.agg (List.toArray [.int .i64 p', .int .i64 q', .int .i64 r']))) : Quiet P o n E w0 rs (.bool (decide ¬(p = p' ∧ q = q' ∧ r = r'))) := .of (fun ρ => do eqGuard .neq t x y (ρ x) (ρ y); binOp .neq t (ρ x) (ρ y)) (fun ρ => by simp only [execOp, ho]; rfl) fun ρ w h hm => by
  simp only [h _ _ hx, h _ _ hy]
  have hg : (eqGuard .neq t x y (.agg (List.toArray [.int .i64 p, .int .i64 q, .int .i64 r])) (.agg (List.toArray [.int .i64 p', .int .i64 q', .int .i64 r']))).run P w = .ok () w := by
    show Sem.run P (if (!P.eqGuardType P.depth t) = true then (pure () : Sem Unit) else _) w = _
    rw [if_pos (by rw [hE.guard]; rfl)]; rfl
  refine (run_to hg).trans ?_
  show Sem.run P ((Op.equal t _ _).bind fun r => (pure (Value.bool (!r)) : Sem Value)) w = _
  rw [run_to (run_equal_T hE w)]
  show Result.ok (Value.bool (!(p == p' && (q == q' && r == r')))) w = _
  congr 2
  by_cases a : p = p' <;> by_cases b : q = q' <;> by_cases c : r = r' <;> simp [a, b, c]
theorem ghost_nilT {A : Option Addr} {xs : List (Int × Int × Int)} {w : World} (hm : Mem w0 rs w) (h : Rd w0 rs A (trips xs)) : (A.isNone = true ∧ xs = []) ∨ A.isNone = false := by
  cases A with
  | some a => exact .inr rfl
  | none =>
    refine .inl ⟨rfl, ?_⟩
    cases xs with
    | nil => rfl
    | cons x xs =>
      obtain ⟨a, ha, _⟩ := h w hm 0 (.int .i64 x.1) rfl
      cases ha
end
end Go.Proofs.YtnfaiojmabolmaaDoor.S
namespace Go.Proofs.YtnfaiojmabolmaaDoor.S
open Go Go.RowKit
set_option linter.unusedVariables false
set_option linter.unusedSimpArgs false
section
variable {n : Nat} {E : List (Nat × Value)} {w0 : World} {rs : List Res} {P : Program} {o : Oper}
/-- The address of a package's variable. -/
abbrev gA (g : Nat) : Option Addr := some ⟨g, 0, none⟩
/-- The words of operations. -/
def opTab : List ByteArray := [⟨#[]⟩, ⟨#[110, 101, 119]⟩, ⟨#[99, 111, 112, 121]⟩, ⟨#[108, 101, 102, 116]⟩, ⟨#[114, 105, 103, 104, 116]⟩, ⟨#[112, 117, 116, 108, 101, 102, 116]⟩, ⟨#[112, 117, 116, 114, 105, 103, 104, 116]⟩, ⟨#[99, 108, 101, 97, 114]⟩]
def w8 (n : Int) : Int := n % 256
/-- A byte as text. -/
def b1s (v : Int) : ByteArray := ByteArray.empty.push (UInt8.ofNat v.toNat)
theorem u8_wrap (n : Int) : IntKind.u8.wrap n = w8 n := by
  unfold IntKind.wrap w8
  simp [IntKind.signed, IntKind.bits]
variable {t t' e : TypeId} {x y : Operand}
theorem q_ixG {k : IntKind} {i : Int} {g : Nat} (hb : 0 ≤ i ∧ i < (opTab.length : Int)) (hu : P.underlying t = some (.array 8 e)) (hs : SzIs P e 1) (ho : o.op = .indexAddr t x y) (hx : ev E x = some (.pointer (gA g))) (hy : ev E y = some (.int k i)) : Quiet P o n E w0 rs (.pointer ((gA g).map (·.add (i.toNat * 1)))) := .of (fun ρ => Instr.indexAt t (ρ x) (ρ y)) (fun ρ => by simp only [execOp, ho]; rfl) fun ρ w h hm => by
  simp only [h _ _ hx, h _ _ hy]
  have hl : opTab.length = 8 := rfl
  rw [hl] at hb
  show Sem.run P ((underlying t).bind _) w = _
  refine (run_to (run_underlying hu w)).trans ?_
  refine (run_to (run_underlying hu w)).trans ?_
  show Sem.run P (if 0 ≤ i ∧ i < ((8 : Nat) : Int) then ((sizeOf e).bind fun s => (pure (Value.pointer (some ((⟨g, 0, none⟩ : Addr).add (i.toNat * s)))) : Sem Value)) else _) w = _
  rw [if_pos hb, run_to (run_size hs w)]
  rfl
theorem q_int8 {s d : TypeId} {k : IntKind} {u : TypeDesc} {p : Int} (hs : P.underlying s = some u) (hd : P.underlying d = some (.int .u8)) (ho : o.op = .convert s d x) (hx : ev E x = some (.int k p)) : Quiet P o n E w0 rs (.int .u8 (w8 p)) := .of (fun ρ => convert s d (ρ x)) (fun ρ => by simp only [execOp, ho]; rfl) fun ρ w h hm => by
  simp only [h _ _ hx]
  refine (run_to (run_underlying hs w)).trans ?_
  refine (run_to (run_underlying hd w)).trans ?_
  rw [← u8_wrap]
  cases u <;> rfl
theorem q_bstr {s d : TypeId} {A : Option Addr} {c : Nat} {v : Int} (hR : Rd w0 rs A (ints .u8 [v])) (hs : P.underlying s = some (.slice e)) (he : P.underlying e = some (.int .u8)) (hd : P.underlying d = some .string) (ho : o.op = .convert s d x) (hx : ev E x = some (.slice A 1 c)) : Quiet P o n E w0 rs (.string (b1s v)) := .of (fun ρ => convert s d (ρ x)) (fun ρ => by simp only [execOp, ho]; rfl) fun ρ w h hm => by
  simp only [h _ _ hx]
  obtain ⟨a, rfl, ha⟩ := hR.cell hm (m := 0) (v := .int .u8 v) rfl
  refine (run_to (run_underlying hs w)).trans ?_
  refine (run_to (run_underlying hd w)).trans ?_
  refine (run_to (run_underlying he w)).trans ?_
  have hl : (loadCells a 1).run P w = .ok #[.int .u8 v] w := run_loadCells (P := P) (w := w) (a := a) [.int .u8 v] 0 #[] (fun j u hj => by
    cases j with
    | zero => simp at hj; subst hj; simpa using ha
    | succ j => simp at hj)
  refine (run_to hl).trans ?_
  rfl
theorem q_eqT {p q r p' q' r' : Int} (hE : EqT P t) (ho : o.op = .binOp .eql t x y t') (hx : ev E x = some (.agg (List.toArray [.int .i64 p, .int .i64 q, .int .i64 r]))) (hy : ev E y = some (.agg (List.toArray [.int .i64 p', .int .i64 q', .int .i64 r']))) : Quiet P o n E w0 rs (.bool (decide (p = p' ∧ q = q' ∧ r = r'))) := .of (fun ρ => do eqGuard .eql t x y (ρ x) (ρ y); binOp .eql t (ρ x) (ρ y)) (fun ρ => by simp only [execOp, ho]; rfl) fun ρ w h hm => by
  simp only [h _ _ hx, h _ _ hy]
  have hg : (eqGuard .eql t x y (.agg (List.toArray [.int .i64 p, .int .i64 q, .int .i64 r])) (.agg (List.toArray [.int .i64 p', .int .i64 q', .int .i64 r']))).run P w = .ok () w := by
    show Sem.run P (if (!P.eqGuardType P.depth t) = true then (pure () : Sem Unit) else _) w = _
    rw [if_pos (by rw [hE.guard]; rfl)]; rfl
  refine (run_to hg).trans ?_
  show Sem.run P ((Op.equal t _ _).bind fun r => (pure (Value.bool r) : Sem Value)) w = _
  rw [run_to (run_equal_T hE w)]
  show Result.ok (Value.bool (p == p' && (q == q' && r == r'))) w = _
  congr 2
  by_cases a : p = p' <;> by_cases b : q = q' <;> by_cases c : r = r' <;> simp [a, b, c]
end
end Go.Proofs.YtnfaiojmabolmaaDoor.S
