/- One lemma for make, for append, for cuts of rows and of strings, for a struct's value. It says nothing of any program. -/
import Derived.Test.YtnfaiojmabolmaaDoorSf
namespace Go.Proofs.YtnfaiojmabolmaaDoor.S
open Go Go.RowKit
set_option linter.unusedVariables false
set_option linter.unusedSimpArgs false
section
variable {n : Nat} {E : List (Nat × Value)} {w0 : World} {rs : List Res} {P : Program} {o : Oper}

/-! ### make -/
theorem run_typeInfo_bytes {t b : Nat} (h : BytesIs P t b) (w : World) : ∃ i, (typeInfo t).run P w = .ok i w ∧ i.bytes = b := by
  unfold BytesIs at h
  cases hi : P.info? t with
  | none => simp [hi] at h
  | some i => exact ⟨i, run_info hi w, by simpa [hi] using h⟩
theorem run_askRoom (b : Nat) (w : World) : (askRoom b).run P w = .ok () w := by
  unfold askRoom
  split <;> rfl
theorem zeros_one (m : Nat) (z : Value) : (Array.range m).map (#[z][· % (#[z] : Array Value).size]!) = Array.replicate m z := by
  apply Array.ext
  · simp
  · intro i h1 h2
    simp [Nat.mod_one]
theorem a_make {t e b : Nat} {x x' : Operand} {m : Int} {z : Value} (hu : P.underlying t = some (.slice e)) (hs : SzIs P e 1) (hb : BytesIs P e b) (hz : ZeroIs P e z) (hone : one z = true) (ho : o.op = .makeSlice t x x') (hx : ev E x = some (.int .i64 m)) (hx' : ev E x' = some (.int .i64 m)) (h0 : 0 ≤ m) (hm1 : m ≤ 1099511627776) (hb1 : b ≤ 64) :
    Acts P o n E w0 rs (fun A : Option Addr => .slice A m.toNat m.toNat) (fun A => .row A m.toNat e 1 (List.replicate m.toNat z) :: rs) := acts_of_run fun a w he hm => by
  refine ⟨some ⟨w.heap.size, 0, none⟩, _, ?_, hm.newRow e m.toNat 1 (Array.replicate m.toNat z) _ (by simp) (by simp) (fun j hj => ?_)⟩
  · simp only [execOp, ho, he.eval hx, he.eval hx']
    have hzc : z.cells = #[z] := by cases z <;> first | rfl | simp [one] at hone
    have hbm : (b : Int) * m ≤ 281474976710656 := by
      have h1 : (b : Int) ≤ 64 := by omega
      have h2 : (b : Int) * m ≤ 64 * 1099511627776 := Int.mul_le_mul h1 hm1 h0 (by omega)
      omega
    have hw : IntKind.i64.wrap m = m := by rw [i64_wrap]; unfold wrap64; omega
    have : (Instr.makeSlice t (.int .i64 m) (.int .i64 m)).run P w = .ok (.slice (some ⟨w.heap.size, 0, none⟩) m.toNat m.toNat) { w with heap := w.heap.push (.cells (Array.replicate m.toNat z) e) } := by
      refine (run_to (run_underlying hu w)).trans ?_
      obtain ⟨i, hi, hib⟩ := run_typeInfo_bytes hb w
      refine (run_to (m := asInt (.int .i64 m)) (v := m) (w' := w) rfl).trans ?_
      refine (run_to (m := asInt (.int .i64 m)) (v := m) (w' := w) rfl).trans ?_
      refine (run_to hi).trans ?_
      simp only [hib, hw]
      rw [if_neg (by simp; omega)]
      refine (run_to (run_askRoom _ w)).trans ?_
      refine (run_to (run_size hs w)).trans ?_
      have key : ∀ zc : Array Value, (m.toNat * 1 = 0 ∨ zc = #[z]) → Sem.run P ((newRow e ((Array.range (m.toNat * 1)).map (zc[· % zc.size]!))).bind fun b => (pure (Value.slice (some b) m.toNat m.toNat) : Sem Value)) w = .ok (.slice (some ⟨w.heap.size, 0, none⟩) m.toNat m.toNat) { w with heap := w.heap.push (.cells (Array.replicate m.toNat z) e) } := by
        intro zc hzc'
        rw [run_to (run_newRow e _ w)]
        have : (Array.range (m.toNat * 1)).map (zc[· % zc.size]!) = Array.replicate m.toNat z := by
          rcases hzc' with h | h
          · rw [show m.toNat = 0 by omega]; simp
          · subst h; rw [Nat.mul_one]; exact zeros_one _ z
        rw [this]; rfl
      show Sem.run P (if m.toNat * 1 = 0 then _ else _) w = _
      by_cases hc : m.toNat * 1 = 0
      · rw [if_pos hc]
        exact key #[] (.inl hc)
      · rw [if_neg hc]
        exact (run_to (run_zero hz w)).trans (key z.cells (.inr hzc))
    show Sem.run P ((Instr.makeSlice t (.int .i64 m) (.int .i64 m)).bind fun x => (pure (Next.value x) : Sem Next)) w = _
    rw [run_to this]; rfl
  · simp at hj
    simp [hj]

/-! ### append -/
theorem num_bound {x y : Nat} (h1 : x ≤ 2 * y + 512) (h2 : y ≤ 1099511627776) : x * 64 ≤ 281474976710656 := by omega
theorem Mem.map {w : World} {rs rs' : List Res} (h : Mem w0 rs w) (f : Nat → Nat) (hok : ∀ r ∈ rs', r.Ok w0 w) (hf : ∀ i g, blkAt rs' i = some g → blkAt rs (f i) = some g) (hinj : ∀ i j g, blkAt rs' i = some g → blkAt rs' j = some g → f i = f j → i = j) : Mem w0 rs' w :=
  ⟨h.low, hok, fun i j g hi hj => hinj i j g hi hj (h.apart _ _ g (hf i g hi) (hf j g hj))⟩
/-- The first takes the place of number k. -/
theorem Mem.replace {w : World} {r : Res} {rs : List Res} (h : Mem w0 (r :: rs) w) (k : Nat) : Mem w0 (rs.set k r) w := by
  refine h.map (fun i => if i = k then 0 else i + 1) ?_ ?_ ?_
  · intro q hq
    rcases List.mem_or_eq_of_mem_set hq with hq | rfl
    · exact h.ok q (by simp [hq])
    · exact h.ok q (by simp)
  · intro i g hi
    unfold blkAt at hi ⊢
    by_cases hik : i = k
    · subst hik
      simp only [if_true]
      by_cases hlt : i < rs.length
      · rw [List.getElem?_set_self hlt] at hi; simpa using hi
      · rw [List.getElem?_eq_none (by simp; omega)] at hi; simp at hi
    · simp only [if_neg hik]
      rw [List.getElem?_set_ne (Ne.symm hik)] at hi
      simpa using hi
  · intro i j g _ _ hij
    by_cases hi : i = k <;> by_cases hj : j = k <;> simp [hi, hj] at hij ⊢ <;> omega
theorem Mem.snoc {w : World} (hm : Mem w0 rs w) {k c e sz : Nat} {A : Option Addr} {cs : List Value} (hk : rs[k]? = some (.row A c e sz cs)) (hlt : cs.length < c * sz) {v : Value} (hv : one v = true) :
    ∃ a, A = some a ∧ ∃ u, w.cell? (a.add cs.length) = some u ∧ w.frozen? (a.add cs.length) = false ∧ Mem w0 (rs.set k (.row A c e sz (cs ++ [v]))) (w.setCell (a.add cs.length) v) := by
  obtain ⟨hl, h | ⟨g, off, cur, rfl, hg, hc, h1, h2⟩⟩ := hm.get hk
  · subst h; omega
  · refine ⟨_, rfl, ?_⟩
    rw [add_off]
    have hcur : off + cs.length < cur.size := by omega
    cases c with
    | zero => omega
    | succ c =>
      refine ⟨cur[off + cs.length], ?_, ?_, ?_⟩
      · simp only [World.cell?, hc, Option.isSome_none, Bool.false_eq_true, if_false]
        exact Array.getElem?_eq_getElem hcur
      · simp [World.frozen?, hc]
      · refine hm.turn hk rfl rfl ⟨by simp; omega, .inr ⟨g, off, cur.setIfInBounds (off + cs.length) v, rfl, hg, heap_set w g _ v e _ hc, by simpa using h1, ?_⟩⟩ (hm.low.setCell (p := ⟨g, off + cs.length, none⟩) hg v) (fun i hi => Below.heap_setCell w _ v i hi)
        intro j hj
        by_cases hjm : j = cs.length
        · subst hjm
          rw [Array.getElem?_setIfInBounds_self_of_lt hcur]
          simp
        · have : j < cs.length := by simp at hj; omega
          rw [Array.getElem?_setIfInBounds_ne (by omega), h2 j this, List.getElem?_append_left this]
theorem set_same {rs : List Res} {k : Nat} {r : Res} (hk : rs[k]? = some r) : rs.set k r = rs := by
  have hlt : k < rs.length := (List.getElem?_eq_some_iff.1 hk).1
  apply List.ext_getElem?
  intro m
  by_cases h : k = m
  · subst h; rw [List.getElem?_set_self hlt, hk]
  · rw [List.getElem?_set_ne h]
theorem run_snocs {k c e sz : Nat} {a : Addr} (ys : List Value) : ∀ (base i : Nat) (cs : List Value) (rs : List Res) (w : World), Mem w0 rs w → rs[k]? = some (.row (some a) c e sz cs) → base + i = cs.length → cs.length + ys.length ≤ c * sz → (∀ v ∈ ys, one v = true) →
    ∃ w', (storeCells (a.add base) ys i).run P w = .ok () w' ∧ Mem w0 (rs.set k (.row (some a) c e sz (cs ++ ys))) w' := by
  induction ys with
  | nil =>
    intro base i cs rs w hm hk _ _ _
    exact ⟨w, rfl, by rw [List.append_nil, set_same hk]; exact hm⟩
  | cons v ys ih =>
    intro base i cs rs w hm hk hbi hlen hone
    have hlt : k < rs.length := (List.getElem?_eq_some_iff.1 hk).1
    obtain ⟨a', ha', u, hcell, hfr, hm'⟩ := hm.snoc hk (by simp at hlen; omega) (hone v (by simp))
    cases ha'
    obtain ⟨w', hr, hmm⟩ := ih base (i + 1) (cs ++ [v]) _ _ hm' (List.getElem?_set_self hlt) (by simp; omega) (by simp at hlen ⊢; omega) (fun u hu => hone u (by simp [hu]))
    refine ⟨w', ?_, ?_⟩
    · show Sem.run P ((store ((a.add base).add i) v).bind fun _ => storeCells (a.add base) ys (i + 1)) w = _
      rw [add_add, hbi, run_to (run_store hcell hfr (hone v (by simp)))]
      exact hr
    · rw [List.set_set, List.append_assoc] at hmm
      exact hmm
theorem pow48 : (2 ^ 48 : Nat) = 281474976710656 := by simp
theorem growBy_le (newLen : Nat) : ∀ (r c : Nat), c ≤ 2 * newLen + 512 → Builtin.growBy newLen r c ≤ 2 * newLen + 512
  | 0, c, h => h
  | r + 1, c, h => by
    unfold Builtin.growBy
    split
    · exact h
    · exact growBy_le newLen r _ (by omega)
theorem nextslicecap_le {need c : Nat} (h : c < need) : Builtin.nextslicecap need c ≤ 2 * need + 512 := by
  unfold Builtin.nextslicecap
  split
  · omega
  · split
    · omega
    · exact growBy_le _ _ _ (by omega)
theorem run_firstCells {size m c : Nat} {B : Option Addr} {ys : List Value} (hR : Rd w0 rs B ys) (hl : ys.length = m * size) {w : World} (hm : Mem w0 rs w) : (Builtin.firstCells size m (.slice B m c)).run P w = .ok ys.toArray w := by
  cases B with
  | none =>
    have : ys = [] := by
      cases ys with
      | nil => rfl
      | cons v ys =>
        obtain ⟨a, ha, _⟩ := hR w hm 0 v rfl
        cases ha
    subst this
    rfl
  | some b =>
    have := run_loadCells (P := P) (w := w) (a := b) ys 0 #[] (fun j v hj => by
      obtain ⟨a, ha, hc⟩ := hR w hm j v hj
      cases ha
      simpa using hc)
    show (loadCells b (m * size)).run P w = _
    rw [← hl]
    show (loadCellsFrom b 0 ys.length #[]).run P w = _
    rw [this]
    simp
theorem cap_bound {need c b : Nat} (h : c < need) (hn : need ≤ 1099511627776) (hb : b ≤ 64) : Builtin.nextslicecap need c * b ≤ 281474976710656 :=
  Nat.le_trans (Nat.mul_le_mul_left _ hb) (num_bound (nextslicecap_le h) hn)
theorem run_append {t t' ty e sz b : Nat} {k sl c m c2 : Nat} {A B : Option Addr} {cs ys : List Value} {z : Value} {e' : TypeId} (hu : P.underlying t = some (.slice e)) (hu' : P.underlying t' = some (.slice e')) (hs : SzIs P e sz) (hb : BytesIs P e b) (hz : ZeroIs P e z) (hzs : z.cells.size = sz) (hpos : 0 < sz)
    {w : World} (hm : Mem w0 rs w) (hk : rs[k]? = some (.row A c e sz cs)) (hl : cs.length = sl * sz) (hR : Rd w0 rs B ys) (hly : ys.length = m * sz) (hone : ∀ v ∈ ys, one v = true) (hneed : sl + m ≤ 1099511627776) (hb1 : b ≤ 64) :
    ∃ (x : Option Addr × Nat) (w' : World), (Builtin.append_ #[t, t'] ty #[.slice A sl c, .slice B m c2]).run P w = .ok (.slice x.1 (sl + m) x.2) w' ∧ Mem w0 (rs.set k (.row x.1 x.2 e sz (cs ++ ys))) w' := by
  have hlt : k < rs.length := (List.getElem?_eq_some_iff.1 hk).1
  by_cases hcap : sl + m ≤ c
  · -- room
    have hfc := run_firstCells (P := P) (size := sz) (c := c2) hR hly hm
    have hok := (hm.get hk).1
    have hroom : cs.length + ys.length ≤ c * sz := by
      rw [hl, hly, ← Nat.add_mul]; exact Nat.mul_le_mul_right _ hcap
    cases A with
    | none =>
      have hc0 : c = 0 := by
        obtain ⟨_, h | ⟨g, off, cur, h, _⟩⟩ := hm.get hk
        · exact h
        · cases h
      have hys : ys = [] := List.length_eq_zero_iff.1 (by have := hroom; rw [hc0] at this; omega)
      subst hys
      refine ⟨(none, c), w, ?_, by rw [List.append_nil, set_same hk]; exact hm⟩
      refine (run_to (run_underlying hu w)).trans ?_
      refine (run_to (run_size hs w)).trans ?_
      refine (run_to (run_underlying hu' w)).trans ?_
      refine (run_to (v := false) (w' := w) rfl).trans ?_
      show Sem.run P (if false = true then _ else _) w = _
      rw [if_neg (by decide)]
      refine (run_to (m := Builtin.lenOf (.slice B m c2)) (v := m) (w' := w) rfl).trans ?_
      show Sem.run P (if sl + m ≤ c then _ else _) w = _
      rw [if_pos hcap]
      refine (run_to hfc).trans ?_
      rfl
    | some a =>
      obtain ⟨w', hr, hmm⟩ := run_snocs (P := P) ys (sl * sz) 0 cs rs w hm hk (by omega) hroom hone
      refine ⟨(some a, c), w', ?_, hmm⟩
      refine (run_to (run_underlying hu w)).trans ?_
      refine (run_to (run_size hs w)).trans ?_
      refine (run_to (run_underlying hu' w)).trans ?_
      refine (run_to (v := false) (w' := w) rfl).trans ?_
      show Sem.run P (if false = true then _ else _) w = _
      rw [if_neg (by decide)]
      refine (run_to (m := Builtin.lenOf (.slice B m c2)) (v := m) (w' := w) rfl).trans ?_
      show Sem.run P (if sl + m ≤ c then _ else _) w = _
      rw [if_pos hcap]
      refine (run_to hfc).trans ?_
      show Sem.run P ((storeCells (a.add (sl * sz)) (List.toArray ys).toList 0).bind fun _ => (pure (Value.slice (some a) (sl + m) c) : Sem Value)) w = _
      rw [run_to hr]; rfl
  · -- a new row
    have hd := hm.drew
    have hRA : Rd w0 rs A cs := Rd.row k hk
    have hold := run_firstCells (P := P) (size := sz) (c := c) hRA hl hd
    have hnew := run_firstCells (P := P) (size := sz) (c := c2) hR hly hd
    obtain ⟨i, hi, hib⟩ := run_typeInfo_bytes hb w
    obtain ⟨i2, hi2, hib2⟩ := run_typeInfo_bytes hb { w with drawn := w.drawn + 1 }
    have hcapb : Builtin.nextslicecap (sl + m) c * b ≤ 281474976710656 := cap_bound (by omega) hneed hb1
    let q : Question := .appendCap (sl + m) c e
    let N := q.cut (w.tape w.drawn q)
    have hN : sl + m ≤ N := Nat.le_add_right _ _
    let rest := Builtin.zeroCells z.cells (N - (sl + m))
    have hrs : rest.size = (N - (sl + m)) * sz := by simp [rest, Builtin.zeroCells, hzs]
    have hm2 := (hd.newRow e N sz (cs.toArray ++ ys.toArray ++ rest) (cs ++ ys) (by
      rw [List.length_append, hl, hly, ← Nat.add_mul]; exact Nat.mul_le_mul_right _ hN) (by
      simp only [Array.size_append, List.size_toArray, hrs, hl, hly]
      rw [← Nat.add_mul, ← Nat.add_mul]
      exact Nat.mul_le_mul_right _ (by omega)) (fun j hj => by
      rw [Array.getElem?_append_left (by simpa using hj)]
      simp)).replace k
    refine ⟨(some ⟨w.heap.size, 0, none⟩, N), _, ?_, hm2⟩
    refine (run_to (run_underlying hu w)).trans ?_
    refine (run_to (run_size hs w)).trans ?_
    refine (run_to (run_underlying hu' w)).trans ?_
    refine (run_to (v := false) (w' := w) rfl).trans ?_
    show Sem.run P (if false = true then _ else _) w = _
    rw [if_neg (by decide)]
    refine (run_to (m := Builtin.lenOf (.slice B m c2)) (v := m) (w' := w) rfl).trans ?_
    show Sem.run P (if sl + m ≤ c then _ else _) w = _
    rw [if_neg hcap]
    refine (run_to hi).trans ?_
    show Sem.run P (if ((sl + m : Nat) : Int) > IntKind.i64.max ∧ (false = true ∨ i.bytes = 0) then _ else _) w = _
    rw [if_neg (by
      intro h
      have h1 : ((sl + m : Nat) : Int) > 9223372036854775807 := h.1
      omega)]
    refine (run_to hi).trans ?_
    show Sem.run P (if Builtin.nextslicecap (sl + m) c * i.bytes > 2 ^ 48 then _ else _) w = _
    rw [hib, if_neg (Nat.not_lt.2 (Nat.le_trans hcapb (Nat.le_of_eq pow48.symm)))]
    have hch : (choose q).run P w = .ok N { w with drawn := w.drawn + 1 } := rfl
    refine (run_to hch).trans ?_
    refine (run_to hi2).trans ?_
    refine (run_to (run_askRoom _ _)).trans ?_
    refine (run_to hold).trans ?_
    refine (run_to hnew).trans ?_
    refine (run_to (run_zero hz _)).trans ?_
    rfl
/-- 'append(s, x...)': the row k grows, in place or anew. -/
theorem a_append {pr : Call} {x y : Operand} {t t' e e' sz b : Nat} (k : Nat) {sl c m c2 : Nat} {A B : Option Addr} {cs ys : List Value} {z : Value} (hu : P.underlying t = some (.slice e)) (hu' : P.underlying t' = some (.slice e')) (hs : SzIs P e sz) (hb : BytesIs P e b) (hz : ZeroIs P e z) (hzs : z.cells.size = sz) (hpos : 0 < sz) (hb1 : b ≤ 64)
    (hk : rs[k]? = some (.row A c e sz cs)) (ho : o.op = .call pr) (hc : pr.callee = .builtin .append) (ha : pr.args = #[x, y]) (ht : pr.argTypes = #[t, t']) (hx : ev E x = some (.slice A sl c)) (hy : ev E y = some (.slice B m c2)) (hl : cs.length = sl * sz) (hR : Rd w0 rs B ys) (hly : ys.length = m * sz) (hone : ∀ v ∈ ys, one v = true) (hneed : sl + m ≤ 1099511627776) :
    Acts P o n E w0 rs (fun q : Option Addr × Nat => .slice q.1 (sl + m) q.2) (fun q => rs.set k (.row q.1 q.2 e sz (cs ++ ys))) := acts_of_run fun a w he hm => by
  obtain ⟨q, w', hr, hm'⟩ := run_append (ty := o.type) (c2 := c2) hu hu' hs hb hz hzs hpos hm hk hl hR hly hone hneed hb1
  refine ⟨q, w', ?_, hm'⟩
  simp only [execOp, ho, resolve, hc, ha, ht, List.map_toArray, List.map_cons, List.map_nil, he.eval hx, he.eval hy]
  show Sem.run P ((Builtin.append_ #[t, t'] o.type #[.slice A sl c, .slice B m c2]).bind fun x => (pure (Next.value x) : Sem Next)) w = _
  rw [run_to hr]; rfl

/-! ### cuts -/
section
variable {t e sz : Nat} {x : Operand} {A : Option Addr} {m c : Nat}
theorem run_bound {k : IntKind} {i : Int} {y : Nat} {code : BoundsCode} (h0 : 0 ≤ i) (h1 : i ≤ y) (w : World) : (Instr.sliceBound (.int k i) y code).run P w = .ok i.toNat w := by
  show Sem.run P (if 0 ≤ i ∧ i ≤ y then (pure i.toNat : Sem Nat) else _) w = _
  rw [if_pos ⟨h0, h1⟩]; rfl
/-- 'x[lo:]' -/
theorem q_cut_lo {k : IntKind} {lo : Operand} {i : Int} (hu : P.underlying t = some (.slice e)) (hs : SzIs P e sz) (ho : o.op = .slice t x (some lo) none none) (hx : ev E x = some (.slice A m c)) (hlo : ev E lo = some (.int k i)) (h0 : 0 ≤ i) (h1 : i ≤ m) : Quiet P o n E w0 rs (.slice (cutA A c i.toNat sz) (m - i.toNat) (c - i.toNat)) := .of (fun ρ => Instr.sliceAt t (ρ x) (some (ρ lo)) none none) (fun ρ => by simp only [execOp, ho]; rfl) fun ρ w h hm => by
  simp only [h _ _ hx, h _ _ hlo]
  refine (run_to (run_underlying hu w)).trans ?_
  refine (run_to (run_underlying hu w)).trans ?_
  have hb : (Instr.sliceBounds true m c (some (.int k i)) none none).run P w = .ok (i.toNat, m, c) w := by
    refine (run_to (v := c) (w' := w) rfl).trans ?_
    refine (run_to (v := m) (w' := w) rfl).trans ?_
    exact (run_to (run_bound h0 h1 w)).trans rfl
  refine (run_to hb).trans ?_
  exact (run_to (run_size hs w)).trans rfl
/-- 'x[:hi]' -/
theorem q_cut_hi {k : IntKind} {hi : Operand} {i : Int} (hu : P.underlying t = some (.slice e)) (hs : SzIs P e sz) (ho : o.op = .slice t x none (some hi) none) (hx : ev E x = some (.slice A m c)) (hhi : ev E hi = some (.int k i)) (h0 : 0 ≤ i) (h1 : i ≤ c) : Quiet P o n E w0 rs (.slice (cutA A c 0 sz) (i.toNat - 0) (c - 0)) := .of (fun ρ => Instr.sliceAt t (ρ x) none (some (ρ hi)) none) (fun ρ => by simp only [execOp, ho]; rfl) fun ρ w h hm => by
  simp only [h _ _ hx, h _ _ hhi]
  refine (run_to (run_underlying hu w)).trans ?_
  refine (run_to (run_underlying hu w)).trans ?_
  have hb : (Instr.sliceBounds true m c none (some (.int k i)) none).run P w = .ok (0, i.toNat, c) w := by
    refine (run_to (v := c) (w' := w) rfl).trans ?_
    refine (run_to (run_bound h0 h1 w)).trans ?_
    exact (run_to (v := 0) (w' := w) rfl).trans rfl
  refine (run_to hb).trans ?_
  exact (run_to (run_size hs w)).trans rfl
theorem cutA_zero (A : Option Addr) (c sz : Nat) : cutA A c 0 sz = A := by
  unfold cutA
  split
  · rfl
  · cases A with
    | none => rfl
    | some a => simp [Addr.add]
/-- The head of a row that is cut from the front: from now on the rest is the row. -/
theorem Mem.cutRow {w : World} (hm : Mem w0 rs w) {k : Nat} {cs : List Value} (hk : rs[k]? = some (.row A c e sz cs)) (i : Nat) (hi : i ≤ c) : Mem w0 (rs.set k (.row (cutA A c i sz) (c - i) e sz (cs.drop (i * sz)))) w := by
  have hlt : k < rs.length := (List.getElem?_eq_some_iff.1 hk).1
  have hblk : ∀ g, (Res.row (cutA A c i sz) (c - i) e sz (cs.drop (i * sz))).blk = some g → (Res.row A c e sz cs).blk = some g := by
    intro g hg
    unfold cutA at hg
    split at hg
    · rename_i h; subst h; simp [Res.blk] at hg
    · cases A with
      | none => simp [Res.blk] at hg
      | some a =>
        cases hc : c - i with
        | zero => rw [hc] at hg; simp [Res.blk] at hg
        | succ d =>
          cases c with
          | zero => omega
          | succ c => rw [hc] at hg; simpa [Res.blk, add_block] using hg
  have hat : ∀ j g, blkAt (rs.set k (.row (cutA A c i sz) (c - i) e sz (cs.drop (i * sz)))) j = some g → blkAt rs j = some g := by
    intro j g hj
    unfold blkAt at hj ⊢
    by_cases h : k = j
    · subst h
      rw [List.getElem?_set_self hlt] at hj
      rw [hk]
      exact hblk g (by simpa using hj)
    · rwa [List.getElem?_set_ne h] at hj
  refine hm.map id ?_ (fun j g h => hat j g h) (fun a b g ha hb hab => hab)
  intro r hr
  rcases List.mem_or_eq_of_mem_set hr with hr | rfl
  · exact hm.ok r hr
  · obtain ⟨hl, h⟩ := hm.get hk
    refine ⟨by rw [List.length_drop, Nat.sub_mul]; omega, ?_⟩
    by_cases hci : c = i
    · left; omega
    · right
      rcases h with h | ⟨g, off, cur, rfl, hg, hc, h1, h2⟩
      · omega
      · refine ⟨g, off + i * sz, cur, ?_, hg, hc, ?_, ?_⟩
        · unfold cutA
          rw [if_neg hci, Option.map_some, add_off]
        · have : c * sz = i * sz + (c - i) * sz := by rw [← Nat.add_mul]; congr 1; omega
          omega
        · intro j hj
          rw [List.getElem?_drop, Nat.add_assoc]
          exact h2 _ (by rw [List.length_drop] at hj; omega)
theorem j_cutRow {K : Act → World → Prop} {cs : List Value} (k i : Nat) (hk : rs[k]? = some (.row A c e sz cs)) (hi : i ≤ c) (h : J K n E w0 (rs.set k (.row (cutA A c i sz) (c - i) e sz (cs.drop (i * sz))))) : J K n E w0 rs := fun a w he hm => h a w he (hm.cutRow hk i hi)
end

/-! ### cuts of strings -/
section
variable {t : Nat} {x lo hi : Operand} {s : ByteArray} {k k' : IntKind} {i j : Int}
theorem q_str_cut (hu : P.underlying t = some .string) (ho : o.op = .slice t x (some lo) (some hi) none) (hx : ev E x = some (.string s)) (hlo : ev E lo = some (.int k i)) (hhi : ev E hi = some (.int k' j)) (h0 : 0 ≤ i) (h1 : i ≤ j) (h2 : j ≤ s.size) : Quiet P o n E w0 rs (.string (s.extract i.toNat j.toNat)) := .of (fun ρ => Instr.sliceAt t (ρ x) (some (ρ lo)) (some (ρ hi)) none) (fun ρ => by simp only [execOp, ho]; rfl) fun ρ w h hm => by
  simp only [h _ _ hx, h _ _ hlo, h _ _ hhi]
  refine (run_to (run_underlying hu w)).trans ?_
  refine (run_to (run_underlying hu w)).trans ?_
  have hb : (Instr.sliceBounds false s.size s.size (some (.int k i)) (some (.int k' j)) none).run P w = .ok (i.toNat, j.toNat, s.size) w := by
    refine (run_to (v := s.size) (w' := w) rfl).trans ?_
    refine (run_to (run_bound (by omega) h2 w)).trans ?_
    exact (run_to (run_bound h0 (by omega) w)).trans rfl
  exact (run_to hb).trans rfl
theorem q_str_lo (hu : P.underlying t = some .string) (ho : o.op = .slice t x (some lo) none none) (hx : ev E x = some (.string s)) (hlo : ev E lo = some (.int k i)) (h0 : 0 ≤ i) (h1 : i ≤ s.size) : Quiet P o n E w0 rs (.string (s.extract i.toNat s.size)) := .of (fun ρ => Instr.sliceAt t (ρ x) (some (ρ lo)) none none) (fun ρ => by simp only [execOp, ho]; rfl) fun ρ w h hm => by
  simp only [h _ _ hx, h _ _ hlo]
  refine (run_to (run_underlying hu w)).trans ?_
  refine (run_to (run_underlying hu w)).trans ?_
  have hb : (Instr.sliceBounds false s.size s.size (some (.int k i)) none none).run P w = .ok (i.toNat, s.size, s.size) w := by
    refine (run_to (v := s.size) (w' := w) rfl).trans ?_
    refine (run_to (v := s.size) (w' := w) rfl).trans ?_
    exact (run_to (run_bound h0 h1 w)).trans rfl
  exact (run_to hb).trans rfl
theorem q_str_hi (hu : P.underlying t = some .string) (ho : o.op = .slice t x none (some hi) none) (hx : ev E x = some (.string s)) (hhi : ev E hi = some (.int k' j)) (h0 : 0 ≤ j) (h2 : j ≤ s.size) : Quiet P o n E w0 rs (.string (s.extract 0 j.toNat)) := .of (fun ρ => Instr.sliceAt t (ρ x) none (some (ρ hi)) none) (fun ρ => by simp only [execOp, ho]; rfl) fun ρ w h hm => by
  simp only [h _ _ hx, h _ _ hhi]
  refine (run_to (run_underlying hu w)).trans ?_
  refine (run_to (run_underlying hu w)).trans ?_
  have hb : (Instr.sliceBounds false s.size s.size none (some (.int k' j)) none).run P w = .ok (0, j.toNat, s.size) w := by
    refine (run_to (v := s.size) (w' := w) rfl).trans ?_
    refine (run_to (run_bound h0 h2 w)).trans ?_
    exact (run_to (v := 0) (w' := w) rfl).trans rfl
  exact (run_to hb).trans rfl
end

/-! ### a struct's value -/
def placesOf (P : Program) : TypeDesc → Option (List (Nat × Nat))
  | .struct fs => fs.toList.mapM fun f => (P.info? f.type).map fun i => (f.offset, i.size)
  | _ => none
def PlacesIs (P : Program) (t : Nat) (ps : List (Nat × Nat)) : Prop := (P.underlying t).bind (placesOf P) = some ps
theorem run_places {fs : List Field} : ∀ {ps : List (Nat × Nat)} (w : World), fs.mapM (fun f => (P.info? f.type).map fun i => (f.offset, i.size)) = some ps → (fs.mapM (fun f => (do pure (f.offset, ← sizeOf f.type) : Sem (Nat × Nat)))).run P w = .ok ps w := by
  induction fs with
  | nil => intro ps w h; simp at h; subst h; rfl
  | cons f fs ih =>
    intro ps w h
    rw [List.mapM_cons] at h ⊢
    cases hi : P.info? f.type with
    | none => simp [hi] at h
    | some i =>
      simp only [hi, Option.map_some, Option.bind_eq_bind, Option.bind_some] at h
      cases hr : fs.mapM (fun f => (P.info? f.type).map fun i => (f.offset, i.size)) with
      | none => simp [hr] at h
      | some qs =>
        simp only [hr, Option.bind_some, Option.pure_def, Option.some.injEq] at h
        subst h
        have h1 : (do pure (f.offset, ← sizeOf f.type) : Sem (Nat × Nat)).run P w = .ok (f.offset, i.size) w := by
          refine (run_to (run_size (s := i.size) (by simp [SzIs, hi]) w)).trans ?_
          rfl
        refine (run_to h1).trans ?_
        refine (run_to (ih w hr)).trans ?_
        rfl
theorem q_build {t : Nat} {parts : Array (Nat × Operand)} {l : List (Nat × Operand)} {vs : List (Nat × Value)} {ps : List (Nat × Nat)} {z : Value} {cs : List Value} (hz : ZeroIs P t z) (hp : PlacesIs P t ps) (ho : o.op = .build t parts) (hpl : parts = l.toArray) (hv : evp E l = some vs) (hf : fillL (ps[·]?) z.cells.toList vs = some cs) : Quiet P o n E w0 rs (.agg cs.toArray) := .of (fun ρ => Instr.build t (parts.map fun p => (p.1, ρ p.2))) (fun ρ => by simp only [execOp, ho]; rfl) fun ρ w h hm => by
  rw [hpl, List.map_toArray, evp_map h hv]
  unfold PlacesIs at hp
  cases hu : P.underlying t with
  | none => simp [hu] at hp
  | some u =>
    rw [hu] at hp
    refine (run_to (run_zero hz w)).trans ?_
    refine (run_to (run_underlying hu w)).trans ?_
    cases u <;> simp only [Option.bind_some, placesOf, reduceCtorEq] at hp
    rename_i fs
    have hm : (fs.mapM (fun f => (do pure (f.offset, ← sizeOf f.type) : Sem (Nat × Nat)))).run P w = .ok ps.toArray w := by
      rw [Array.mapM_eq_mapM_toList]
      exact (run_to (f := fun l : List (Nat × Nat) => (pure l.toArray : Sem (Array (Nat × Nat)))) (run_places w hp)).trans rfl
    refine (run_to hm).trans ?_
    have : Instr.fill (ps.toArray[·]?) z.cells (List.toArray vs).toList = some cs.toArray := by
      rw [fill_list]
      have he : (fun x : Nat => ps.toArray[x]?) = (fun x : Nat => ps[x]?) := by funext x; simp
      rw [he, hf]; rfl
    rw [this]; rfl
end
end Go.Proofs.YtnfaiojmabolmaaDoor.S
