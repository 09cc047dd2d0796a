/- Where a function is entered and left; rows whose cells are numbers, bools, strings. It says nothing of any program. -/
import Derived.Test.YtnfaiojmabolmaaDoorSg
namespace Go.Proofs.YtnfaiojmabolmaaDoor.S
open Go Go.RowKit
set_option linter.unusedVariables false
set_option linter.unusedSimpArgs false
section
variable {n : Nat} {E : List (Nat × Value)} {w0 : World} {rs : List Res} {P : Program} {o : Oper}

/-! ### entry -/
theorem look_idx (vs : List Value) : ∀ (k i : Nat) (v : Value), look (idx k vs) i = some v → ∃ j, i = k + j ∧ vs[j]? = some v := by
  induction vs with
  | nil => intro k i v h; simp [idx, look] at h
  | cons u vs ih =>
    intro k i v h
    simp only [idx, look] at h
    cases hb : Nat.beq k i with
    | true =>
      have := Nat.eq_of_beq_eq_true hb
      subst this
      simp only [hb, cond_true] at h
      exact ⟨0, rfl, by simpa using h⟩
    | false =>
      simp only [hb, cond_false] at h
      obtain ⟨j, rfl, hj⟩ := ih (k + 1) i v h
      exact ⟨j + 1, by omega, by simpa using hj⟩
theorem calls_of_J {f : FuncId} {fn : Func} {c : Code} {vs : List Value} {w : World} {R : Ending → World → Prop} (hf : P.funcs[f]? = some fn) (hb : fn.body = some c) (hn : fn.ntmps = n) (hl : Nat.ble vs.length n = true) (hm : Mem w0 rs w)
    (h : J (c.wp P (bodyPost P fn R)) n (idx 0 vs) w0 rs) : Calls P f vs.toArray w R := by
  refine calls_of_wp hf hb (h _ w ⟨?_, rfl, ?_⟩ hm)
  · have : vs.length ≤ n := by simpa [Nat.ble_eq] using hl
    simp [hn]; omega
  · intro i v hi
    obtain ⟨j, rfl, hj⟩ := look_idx vs 0 i v hi
    have hlt : j < vs.length := (List.getElem?_eq_some_iff.1 hj).1
    rw [Nat.zero_add, Array.getElem?_append_left (by simpa using hlt)]
    simpa using hj

/-! ### exit -/
inductive ResOf (P : Program) (E : List (Nat × Value)) (rs : List Res) : List ResultVar → List Value → Prop where
  | nil : ResOf P E rs [] []
  | tmp {t : Nat} {v : Value} {l : List ResultVar} {vs : List Value} (h : look E t = some v) (hl : ResOf P E rs l vs) : ResOf P E rs (.tmp t :: l) (v :: vs)
  | cell (k : Nat) {a ty g t' : Nat} {cs : List Value} {l : List ResultVar} {vs : List Value} (h : look E a = some (.pointer (some ⟨g, 0, none⟩))) (hk : rs[k]? = some (.box g t' cs)) (hg : AggIs P ty true) (hs : SzIs P ty cs.length) (hl : ResOf P E rs l vs) : ResOf P E rs (.cell a ty :: l) (.agg cs.toArray :: vs)
def pack : List Value → Value
  | [v] => v
  | vs => .tuple vs.toArray
def resOne (tmps : Array Value) : ResultVar → Sem Value
  | .tmp t => pure (tmps.getD t undef)
  | .cell a t => do loadVar t (← asAddr (tmps.getD a undef))
theorem run_res {a : Act} {w : World} (he : EnvOk a n E) (hm : Mem w0 rs w) {l : List ResultVar} {vs : List Value} (h : ResOf P E rs l vs) : (l.mapM (resOne a.tmps)).run P w = .ok vs w := by
  induction h with
  | nil => rfl
  | tmp ht _ ih =>
    rename_i x v l vs _
    rw [List.mapM_cons]
    have h1 := he.get _ _ ht
    have h2 : (resOne a.tmps (.tmp x)).run P w = .ok v w := by
      show Result.ok (a.tmps.getD x undef) w = _
      rw [Array.getD_eq_getD_getElem?, h1]; rfl
    refine (run_to h2).trans ?_
    exact (run_to ih).trans rfl
  | cell k ht hk hg hs _ ih =>
    rename_i x ty g t' cs l vs _
    rw [List.mapM_cons]
    have h1 := he.get _ _ ht
    have h2 : (resOne a.tmps (.cell x ty)).run P w = .ok (.agg cs.toArray) w := by
      show Sem.run P ((asAddr (a.tmps.getD x undef)).bind fun b => loadVar ty b) w = _
      rw [Array.getD_eq_getD_getElem?, h1]
      refine (run_to (v := (⟨g, 0, none⟩ : Addr)) (w' := w) rfl).trans ?_
      exact run_loadVar_agg hg hs (fun j v hj => by rw [add_off, Nat.zero_add]; exact hm.cell hk hj)
    refine (run_to h2).trans ?_
    exact (run_to ih).trans rfl
theorem run_results {fn : Func} {a : Act} {w : World} (he : EnvOk a n E) (hm : Mem w0 rs w) {l : List ResultVar} {vs : List Value} (hr : fn.results = l.toArray) (h : ResOf P E rs l vs) : (results fn a.tmps).run P w = .ok (pack vs) w := by
  have hmap : (fn.results.mapM (resOne a.tmps)).run P w = .ok vs.toArray w := by
    rw [hr, Array.mapM_eq_mapM_toList]
    exact (run_to (f := fun l : List Value => (pure l.toArray : Sem (Array Value))) (run_res he hm h)).trans rfl
  refine (run_to hmap).trans ?_
  show Result.ok (if h : vs.toArray.size = 1 then vs.toArray[0] else Value.tuple vs.toArray) w = _
  match vs with
  | [] => rfl
  | [v] => rfl
  | _ :: _ :: _ => rfl
theorem j_return {fn : Func} {l : List ResultVar} {vs : List Value} {v : Value} {R : Ending → World → Prop} (hr : fn.results = l.toArray) (h : ResOf P E rs l vs) (hv : pack vs = v) (hR : ∀ w, Mem w0 rs w → R (.returned v) w) : J (bodyPost P fn R .ret) n E w0 rs := fun a w he hm =>
  ⟨he.defers, v, hv ▸ run_results he hm hr h, hR w hm⟩
theorem j_return_end {fn : Func} {l : List ResultVar} {vs : List Value} {v : Value} {R : Ending → World → Prop} (hr : fn.results = l.toArray) (h : ResOf P E rs l vs) (hv : pack vs = v) (hR : ∀ w, Mem w0 rs w → R (.returned v) w) : J (bodyPost P fn R .normal) n E w0 rs := fun a w he hm =>
  ⟨he.defers, v, hv ▸ run_results he hm hr h, hR w hm⟩

/-! ### rows of numbers, bools, strings -/
def ints (k : IntKind) (xs : List Int) : List Value := xs.map (Value.int k)
def bls (xs : List Bool) : List Value := xs.map Value.bool
def strs (xs : List ByteArray) : List Value := xs.map Value.string
def rd (xs : List Int) (i : Int) : Int := xs.getD i.toNat 0
def rdb (xs : List Bool) (i : Int) : Bool := xs.getD i.toNat false
def rds (xs : List ByteArray) (i : Int) : ByteArray := xs.getD i.toNat ByteArray.empty
theorem ints_len (k : IntKind) (xs : List Int) : (ints k xs).length = xs.length := by simp [ints]
theorem bls_len (xs : List Bool) : (bls xs).length = xs.length := by simp [bls]
theorem strs_len (xs : List ByteArray) : (strs xs).length = xs.length := by simp [strs]
theorem ints_get {k : IntKind} {xs : List Int} {i : Int} (h0 : 0 ≤ i) (h1 : i < xs.length) : (ints k xs)[i.toNat * 1]? = some (.int k (rd xs i)) := by
  have : i.toNat < xs.length := by omega
  simp [ints, rd, this]
theorem bls_get {xs : List Bool} {i : Int} (h0 : 0 ≤ i) (h1 : i < xs.length) : (bls xs)[i.toNat * 1]? = some (.bool (rdb xs i)) := by
  have : i.toNat < xs.length := by omega
  simp [bls, rdb, this]
theorem strs_get {xs : List ByteArray} {i : Int} (h0 : 0 ≤ i) (h1 : i < xs.length) : (strs xs)[i.toNat * 1]? = some (.string (rds xs i)) := by
  have : i.toNat < xs.length := by omega
  simp [strs, rds, this]
theorem ints_set (k : IntKind) (xs : List Int) (m : Nat) (v : Int) : (ints k xs).set (m * 1) (.int k v) = ints k (xs.set m v) := by simp [ints, List.map_set]
theorem bls_set (xs : List Bool) (m : Nat) (v : Bool) : (bls xs).set (m * 1) (.bool v) = bls (xs.set m v) := by simp [bls, List.map_set]
theorem strs_set (xs : List ByteArray) (m : Nat) (v : ByteArray) : (strs xs).set (m * 1) (.string v) = strs (xs.set m v) := by simp [strs, List.map_set]
theorem ints_app (k : IntKind) (xs ys : List Int) : ints k xs ++ ints k ys = ints k (xs ++ ys) := by simp [ints]
theorem bls_app (xs ys : List Bool) : bls xs ++ bls ys = bls (xs ++ ys) := by simp [bls]
theorem strs_app (xs ys : List ByteArray) : strs xs ++ strs ys = strs (xs ++ ys) := by simp [strs]
theorem ints_one (k : IntKind) (xs : List Int) : ∀ v ∈ ints k xs, one v = true := fun v hv => by obtain ⟨x, _, rfl⟩ := List.mem_map.1 hv; rfl
theorem bls_one (xs : List Bool) : ∀ v ∈ bls xs, one v = true := fun v hv => by obtain ⟨x, _, rfl⟩ := List.mem_map.1 hv; rfl
theorem strs_one (xs : List ByteArray) : ∀ v ∈ strs xs, one v = true := fun v hv => by obtain ⟨x, _, rfl⟩ := List.mem_map.1 hv; rfl
theorem ints_rep (k : IntKind) (m : Nat) (v : Int) : List.replicate m (.int k v) = ints k (List.replicate m v) := by simp [ints]
theorem bls_rep (m : Nat) (v : Bool) : List.replicate m (.bool v) = bls (List.replicate m v) := by simp [bls]
theorem ints_drop (k : IntKind) (xs : List Int) (m : Nat) : (ints k xs).drop (m * 1) = ints k (xs.drop m) := by simp [ints]
theorem ints_take (k : IntKind) (xs : List Int) (m : Nat) : (ints k xs).take m = ints k (xs.take m) := by simp [ints]
/-- Operations, three numbers each. -/
def trips (xs : List (Int × Int × Int)) : List Value := xs.flatMap fun p => [.int .i64 p.1, .int .i64 p.2.1, .int .i64 p.2.2]
def rdt (xs : List (Int × Int × Int)) (i : Int) : Int × Int × Int := xs.getD i.toNat (0, 0, 0)
theorem trips_len (xs : List (Int × Int × Int)) : (trips xs).length = xs.length * 3 := by
  induction xs with
  | nil => rfl
  | cons x xs ih => simp only [trips, List.flatMap_cons, List.length_append, List.length_cons, List.length_nil] at *; omega
theorem trips_get {xs : List (Int × Int × Int)} {i : Int} (h0 : 0 ≤ i) (h1 : i < xs.length) : ∀ j : Nat, j < 3 → (trips xs)[i.toNat * 3 + j]? = [Value.int .i64 (rdt xs i).1, .int .i64 (rdt xs i).2.1, .int .i64 (rdt xs i).2.2][j]? := by
  have hk : i.toNat < xs.length := by omega
  unfold rdt
  generalize i.toNat = m at *
  intro j hj
  clear h0 h1
  induction xs generalizing m with
  | nil => simp at hk
  | cons x xs ih =>
    cases m with
    | zero =>
      match j, hj with
      | 0, _ => rfl
      | 1, _ => rfl
      | 2, _ => rfl
    | succ m =>
      have := ih m (by simpa using hk)
      simp only [trips, List.flatMap_cons] at *
      rw [List.getElem?_append_right (by simp; omega)]
      simp only [List.length_cons, List.length_nil]
      rw [show (m + 1) * 3 + j - (0 + 1 + 1 + 1) = m * 3 + j by omega]
      simpa using this
theorem trips_app (xs ys : List (Int × Int × Int)) : trips xs ++ trips ys = trips (xs ++ ys) := by simp [trips]
theorem trips_one (xs : List (Int × Int × Int)) : ∀ v ∈ trips xs, one v = true := fun v hv => by
  obtain ⟨x, _, hx⟩ := List.mem_flatMap.1 hv
  simp at hx
  rcases hx with rfl | rfl | rfl <;> rfl

/-! ### reads and stores at such rows -/
section
variable {t : TypeId} {x y : Operand} {A : Option Addr}
theorem q_loadI {k : IntKind} {xs : List Int} {i : Int} (hR : Rd w0 rs A (ints k xs)) (hg : AggIs P t false) (h0 : 0 ≤ i) (h1 : i < xs.length) (ho : o.op = .load t x) (hx : ev E x = some (.pointer (A.map (·.add (i.toNat * 1))))) : Quiet P o n E w0 rs (.int k (rd xs i)) := q_load hR hg ho hx (ints_get h0 h1)
theorem q_loadB {xs : List Bool} {i : Int} (hR : Rd w0 rs A (bls xs)) (hg : AggIs P t false) (h0 : 0 ≤ i) (h1 : i < xs.length) (ho : o.op = .load t x) (hx : ev E x = some (.pointer (A.map (·.add (i.toNat * 1))))) : Quiet P o n E w0 rs (.bool (rdb xs i)) := q_load hR hg ho hx (bls_get h0 h1)
theorem q_loadS {xs : List ByteArray} {i : Int} (hR : Rd w0 rs A (strs xs)) (hg : AggIs P t false) (h0 : 0 ≤ i) (h1 : i < xs.length) (ho : o.op = .load t x) (hx : ev E x = some (.pointer (A.map (·.add (i.toNat * 1))))) : Quiet P o n E w0 rs (.string (rds xs i)) := q_load hR hg ho hx (strs_get h0 h1)
theorem q_loadT {xs : List (Int × Int × Int)} {i : Int} (hR : Rd w0 rs A (trips xs)) (hg : AggIs P t true) (hs : SzIs P t 3) (h0 : 0 ≤ i) (h1 : i < xs.length) (ho : o.op = .load t x) (hx : ev E x = some (.pointer (A.map (·.add (i.toNat * 3))))) : Quiet P o n E w0 rs (.agg #[.int .i64 (rdt xs i).1, .int .i64 (rdt xs i).2.1, .int .i64 (rdt xs i).2.2]) :=
  q_load_agg (vs := [.int .i64 (rdt xs i).1, .int .i64 (rdt xs i).2.1, .int .i64 (rdt xs i).2.2]) hR hg hs ho hx (by simp) (fun j hj => trips_get h0 h1 j hj)
theorem a_storeI (k : Nat) {kd : IntKind} {c e : Nat} {xs : List Int} {i v : Int} (hk : rs[k]? = some (.row A c e 1 (ints kd xs))) (hs : SzIs P t 1) (h0 : 0 ≤ i) (h1 : i < xs.length) (ho : o.op = .store t x y) (hx : ev E x = some (.pointer (A.map (·.add (i.toNat * 1))))) (hy : ev E y = some (.int kd v)) :
    Acts P o n E w0 rs (fun _ : Unit => undef) (fun _ => rs.set k (.row A c e 1 (ints kd (xs.set i.toNat v)))) := by
  rw [← ints_set]
  exact a_store k hk hs ho hx hy rfl (by rw [ints_len]; omega)
theorem q_addrI {k : IntKind} {e s : Nat} {kd : IntKind} {i : Int} {m c : Nat} {cs : List Value} (hR : Rd w0 rs A cs) (hl : 0 < cs.length) (hu : P.underlying t = some (.slice e)) (hs : SzIs P e s) (ho : o.op = .indexAddr t x y) (hx : ev E x = some (.slice A m c)) (hy : ev E y = some (.int k i)) (h0 : 0 ≤ i) (h1 : i < m) : Quiet P o n E w0 rs (.pointer (A.map (·.add (i.toNat * s)))) :=
  q_indexAddr hu hs ho hx hy h0 h1 (hR.addr hl)
end
/-- A row's length fits its room. -/
theorem Mem.room {w : World} (hm : Mem w0 rs w) (k : Nat) {A : Option Addr} {c e : Nat} {cs : List Value} (hk : rs[k]? = some (.row A c e 1 cs)) : cs.length ≤ c := by
  have := (hm.get hk).1
  omega
theorem Mem.room3 {w : World} (hm : Mem w0 rs w) (k : Nat) {A : Option Addr} {c e : Nat} {cs : List Value} (hk : rs[k]? = some (.row A c e 3 cs)) : cs.length ≤ c * 3 := (hm.get hk).1
end
end Go.Proofs.YtnfaiojmabolmaaDoor.S
