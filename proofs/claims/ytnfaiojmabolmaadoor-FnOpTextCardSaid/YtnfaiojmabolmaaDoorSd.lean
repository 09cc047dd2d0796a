/- One lemma for each kind of operation that only reckons: arithmetic, tests, strings, parts of values, addresses. It says nothing of any program. -/
import Derived.Test.YtnfaiojmabolmaaDoorSc
import Derived.RowKit
import Derived.IntWalk
namespace Go.Proofs.YtnfaiojmabolmaaDoor.S
open Go Go.RowKit
set_option linter.unusedVariables false
set_option linter.unusedSimpArgs false
section
variable {n : Nat} {E : List (Nat × Value)} {w0 : World} {rs : List Res} {P : Program} {o : Oper}

theorem i64_wrap (n : Int) : IntKind.i64.wrap n = wrap64 n := IntWalk.i64_left n

theorem Quiet.mk {v : Value} (h : ∀ (ρ : Operand → Value) w, (∀ x u, ev E x = some u → ρ x = u) → Mem w0 rs w → (execOp ρ o).run P w = .ok (.value v) w) : Quiet P o n E w0 rs v :=
  fun a w he hm => h a.eval w (fun _ _ hx => he.eval hx) hm

theorem q_move {x : Operand} {v : Value} (ho : o.op = .move x) (hx : ev E x = some v) : Quiet P o n E w0 rs v := .mk fun ρ w h hm => by
  simp only [execOp, ho, h _ _ hx]; rfl
theorem q_assign {x : Operand} {v : Value} (ho : o.op = .assign x) (hx : ev E x = some v) : Quiet P o n E w0 rs v := .mk fun ρ w h hm => by
  simp only [execOp, ho, h _ _ hx]; rfl

theorem q_pick_t {c x y : Operand} {b : Bool} {v : Value} (ho : o.op = .pick c x y) (hc : ev E c = some (.bool b)) (hb : b = true) (hx : ev E x = some v) : Quiet P o n E w0 rs v := .mk fun ρ w h hm => by
  subst hb
  simp only [execOp, ho, h _ _ hc, h _ _ hx]; rfl
theorem q_pick_f {c x y : Operand} {b : Bool} {v : Value} (ho : o.op = .pick c x y) (hc : ev E c = some (.bool b)) (hb : b = false) (hy : ev E y = some v) : Quiet P o n E w0 rs v := .mk fun ρ w h hm => by
  subst hb
  simp only [execOp, ho, h _ _ hc, h _ _ hy]; rfl

section ints
variable {t t' : TypeId} {x y : Operand} {p q : Int}
theorem q_add (ho : o.op = .binOp .add t x y t') (hx : ev E x = some (.int .i64 p)) (hy : ev E y = some (.int .i64 q)) : Quiet P o n E w0 rs (.int .i64 (wrap64 (p + q))) := .mk fun ρ w h hm => by
  simp only [execOp, ho, h _ _ hx, h _ _ hy]; rw [← i64_wrap]; rfl
theorem q_sub (ho : o.op = .binOp .sub t x y t') (hx : ev E x = some (.int .i64 p)) (hy : ev E y = some (.int .i64 q)) : Quiet P o n E w0 rs (.int .i64 (wrap64 (p - q))) := .mk fun ρ w h hm => by
  simp only [execOp, ho, h _ _ hx, h _ _ hy]; rw [← i64_wrap]; rfl
theorem q_mul (ho : o.op = .binOp .mul t x y t') (hx : ev E x = some (.int .i64 p)) (hy : ev E y = some (.int .i64 q)) : Quiet P o n E w0 rs (.int .i64 (wrap64 (p * q))) := .mk fun ρ w h hm => by
  simp only [execOp, ho, h _ _ hx, h _ _ hy]; rw [← i64_wrap]; rfl
theorem intDiv_quo {k : IntKind} (hq : q ≠ 0) : Op.intDiv .quo k p q = pure (.int k (k.wrap (p.tdiv q))) := by simp [Op.intDiv, hq]
theorem intDiv_rem {k : IntKind} (hq : q ≠ 0) : Op.intDiv .rem k p q = pure (.int k (p.tmod q)) := by simp [Op.intDiv, hq]
theorem binOp_quo : binOp .quo t (.int .i64 p) (.int .i64 q) = Op.intDiv .quo .i64 p q := rfl
theorem binOp_rem : binOp .rem t (.int .i64 p) (.int .i64 q) = Op.intDiv .rem .i64 p q := rfl
theorem q_quo (ho : o.op = .binOp .quo t x y t') (hx : ev E x = some (.int .i64 p)) (hy : ev E y = some (.int .i64 q)) (hq : q ≠ 0) : Quiet P o n E w0 rs (.int .i64 (wrap64 (p.tdiv q))) := .mk fun ρ w h hm => by
  simp only [execOp, ho, h _ _ hx, h _ _ hy, binOp_quo, intDiv_quo hq]; rw [← i64_wrap]; rfl
theorem q_rem (ho : o.op = .binOp .rem t x y t') (hx : ev E x = some (.int .i64 p)) (hy : ev E y = some (.int .i64 q)) (hq : q ≠ 0) : Quiet P o n E w0 rs (.int .i64 (p.tmod q)) := .mk fun ρ w h hm => by
  simp only [execOp, ho, h _ _ hx, h _ _ hy, binOp_rem, intDiv_rem hq]; rfl
/-- Exclusive or of two words. -/
def xor64 (p q : Int) : Int := wrap64 ((BitVec.ofInt 64 p ^^^ BitVec.ofInt 64 q).toNat)
theorem q_xor (ho : o.op = .binOp .xor t x y t') (hx : ev E x = some (.int .i64 p)) (hy : ev E y = some (.int .i64 q)) : Quiet P o n E w0 rs (.int .i64 (xor64 p q)) := .mk fun ρ w h hm => by
  simp only [execOp, ho, h _ _ hx, h _ _ hy, xor64]; rw [← i64_wrap]; rfl
variable {k : IntKind}
theorem binOp_eql : binOp .eql t (.int k p) (.int k q) = pure (.bool (p == q)) := by simp [binOp, Op.intCmp]
theorem binOp_neq : binOp .neq t (.int k p) (.int k q) = pure (.bool (p != q)) := by simp [binOp, Op.intCmp]
theorem binOp_lss : binOp .lss t (.int k p) (.int k q) = pure (.bool (decide (p < q))) := by simp [binOp, Op.intCmp]
theorem binOp_leq : binOp .leq t (.int k p) (.int k q) = pure (.bool (decide (p ≤ q))) := by simp [binOp, Op.intCmp]
theorem binOp_gtr : binOp .gtr t (.int k p) (.int k q) = pure (.bool (decide (p > q))) := by simp [binOp, Op.intCmp]
theorem binOp_geq : binOp .geq t (.int k p) (.int k q) = pure (.bool (decide (p ≥ q))) := by simp [binOp, Op.intCmp]
theorem q_eql (ho : o.op = .binOp .eql t x y t') (hx : ev E x = some (.int k p)) (hy : ev E y = some (.int k q)) : Quiet P o n E w0 rs (.bool (p == q)) := .mk fun ρ w h hm => by
  simp only [execOp, ho, h _ _ hx, h _ _ hy, binOp_eql]; rfl
theorem q_neq (ho : o.op = .binOp .neq t x y t') (hx : ev E x = some (.int k p)) (hy : ev E y = some (.int k q)) : Quiet P o n E w0 rs (.bool (p != q)) := .mk fun ρ w h hm => by
  simp only [execOp, ho, h _ _ hx, h _ _ hy, binOp_neq]; rfl
theorem q_lss (ho : o.op = .binOp .lss t x y t') (hx : ev E x = some (.int k p)) (hy : ev E y = some (.int k q)) : Quiet P o n E w0 rs (.bool (decide (p < q))) := .mk fun ρ w h hm => by
  simp only [execOp, ho, h _ _ hx, h _ _ hy, binOp_lss]; rfl
theorem q_leq (ho : o.op = .binOp .leq t x y t') (hx : ev E x = some (.int k p)) (hy : ev E y = some (.int k q)) : Quiet P o n E w0 rs (.bool (decide (p ≤ q))) := .mk fun ρ w h hm => by
  simp only [execOp, ho, h _ _ hx, h _ _ hy, binOp_leq]; rfl
theorem q_gtr (ho : o.op = .binOp .gtr t x y t') (hx : ev E x = some (.int k p)) (hy : ev E y = some (.int k q)) : Quiet P o n E w0 rs (.bool (decide (p > q))) := .mk fun ρ w h hm => by
  simp only [execOp, ho, h _ _ hx, h _ _ hy, binOp_gtr]; rfl
theorem q_geq (ho : o.op = .binOp .geq t x y t') (hx : ev E x = some (.int k p)) (hy : ev E y = some (.int k q)) : Quiet P o n E w0 rs (.bool (decide (p ≥ q))) := .mk fun ρ w h hm => by
  simp only [execOp, ho, h _ _ hx, h _ _ hy, binOp_geq]; rfl
end ints

section bools
variable {t t' : TypeId} {x y : Operand} {b c : Bool}
theorem q_not (ho : o.op = .unOp .not t x) (hx : ev E x = some (.bool b)) : Quiet P o n E w0 rs (.bool (!b)) := .mk fun ρ w h hm => by
  simp only [execOp, ho, h _ _ hx]; rfl
theorem q_neg {p : Int} (ho : o.op = .unOp .neg t x) (hx : ev E x = some (.int .i64 p)) : Quiet P o n E w0 rs (.int .i64 (wrap64 (0 - p))) := .mk fun ρ w h hm => by
  simp only [execOp, ho, h _ _ hx]; rw [← i64_wrap]; rfl
end bools

/-! ### pieces of a run -/
theorem run_bind {α β : Type} (m : Sem α) (f : α → Sem β) (w : World) : (m.bind f).run P w = match m.run P w with
    | .ok v w' => (f v).run P w'
    | .halt h w' => .halt h w' := by
  induction m generalizing w with
  | pure a => rfl
  | load m a k ih =>
    simp only [Sem.bind, Sem.run]
    split
    · exact ih _ _
    · split
      · exact ih _ _
      · rfl
  | store m a v k ih =>
    cases v <;> simp only [Sem.bind, Sem.run] <;> first | rfl | (split <;> first | (split <;> first | rfl | exact ih _) | exact ih _)
  | new o k ih => simp only [Sem.bind, Sem.run]; exact ih _ _
  | shape r k ih => simp only [Sem.bind, Sem.run]; exact ih _ _
  | freeze a n k ih => simp only [Sem.bind, Sem.run]; exact ih _
  | frozen a k ih => simp only [Sem.bind, Sem.run]; exact ih _ _
  | getObj r k ih => simp only [Sem.bind, Sem.run]; split <;> first | rfl | exact ih _ _
  | setObj r o k ih => simp only [Sem.bind, Sem.run]; split <;> first | rfl | exact ih _
  | choose q k ih => simp only [Sem.bind, Sem.run]; split <;> exact ih _ _
  | sys c k ih => simp only [Sem.bind, Sem.run]; exact ih _ _
  | program k ih => simp only [Sem.bind, Sem.run]; exact ih _ _
  | mark m k ih => simp only [Sem.bind, Sem.run]; exact ih _
  | halt h => rfl
theorem run_to {α β : Type} {m : Sem α} {f : α → Sem β} {w w' : World} {v : α} (h : m.run P w = .ok v w') : (m.bind f).run P w = (f v).run P w' := by rw [run_bind, h]

def SzIs (P : Program) (t s : Nat) : Prop := (P.info? t).map (·.size) = some s
def aggDesc : TypeDesc → Bool
  | .struct _ | .array _ _ => true
  | _ => false
def AggIs (P : Program) (t : Nat) (b : Bool) : Prop := (P.underlying t).map aggDesc = some b
def ZeroIs (P : Program) (t : Nat) (v : Value) : Prop := (P.info? t).bind (·.zero) = some v
def BytesIs (P : Program) (t b : Nat) : Prop := (P.info? t).map (·.bytes) = some b
def fieldDesc (j : Nat) : TypeDesc → Option (Nat × Nat)
  | .struct fs => (fs[j]?).map fun f => (f.type, f.offset)
  | _ => none
def FieldIs (P : Program) (t j ft off : Nat) : Prop := (P.underlying t).bind (fieldDesc j) = some (ft, off)

theorem run_info {t : Nat} {i : TypeInfo} (h : P.info? t = some i) (w : World) : (typeInfo t).run P w = .ok i w := by
  show Sem.run P (match P.info? t with | some i => pure i | none => stuck _) w = _
  rw [h]; rfl
theorem run_size {t s : Nat} (h : SzIs P t s) (w : World) : (sizeOf t).run P w = .ok s w := by
  unfold SzIs at h
  cases hi : P.info? t with
  | none => simp [hi] at h
  | some i =>
    rw [hi] at h
    have hs : i.size = s := by simpa using h
    show Sem.run P ((typeInfo t).bind fun i => pure i.size) w = _
    rw [run_to (run_info hi w)]
    rw [hs]; rfl
theorem run_zero {t : Nat} {v : Value} (h : ZeroIs P t v) (w : World) : (zeroValue t).run P w = .ok v w := by
  unfold ZeroIs at h
  cases hi : P.info? t with
  | none => simp [hi] at h
  | some i =>
    rw [hi] at h
    have hs : i.zero = some v := by simpa using h
    show Sem.run P ((typeInfo t).bind fun i => match i.zero with | some v => pure v | none => unsupported _) w = _
    rw [run_to (run_info hi w)]
    rw [hs]; rfl
theorem run_underlying {t : TypeId} {u : TypeDesc} (hu : P.underlying t = some u) (w : World) : (underlying t).run P w = .ok u w := by
  show Sem.run P (match P.underlying t with | some d => pure d | none => stuck _) w = _
  rw [hu]; rfl
theorem run_isAgg {t : Nat} {b : Bool} (h : AggIs P t b) (w : World) : (isAgg t).run P w = .ok b w := by
  unfold AggIs at h
  cases hu : P.underlying t with
  | none => simp [hu] at h
  | some u =>
    rw [hu] at h
    have hb : aggDesc u = b := by simpa using h
    show Sem.run P ((underlying t).bind fun u => match u with | .struct _ | .array _ _ => pure true | _ => pure false) w = _
    rw [run_to (run_underlying hu w), ← hb]
    cases u <;> rfl

/-- An operation that hands on what s comes to. -/
theorem Quiet.of {v : Value} (s : (Operand → Value) → Sem Value) (hs : ∀ ρ, execOp ρ o = (s ρ).bind fun x => pure (.value x))
    (h : ∀ (ρ : Operand → Value) w, (∀ x u, ev E x = some u → ρ x = u) → Mem w0 rs w → (s ρ).run P w = .ok v w) : Quiet P o n E w0 rs v := .mk fun ρ w hρ hm => by
  rw [hs, run_to (h ρ w hρ hm)]; rfl

section bools
variable {t t' : TypeId} {x y : Operand} {b c : Bool}
theorem run_equal_bool (hu : P.underlying t = some .bool) (w : World) : (Op.equal t (.bool b) (.bool c)).run P w = .ok (b == c) w := by
  show Sem.run P (Op.equalIn (9999 + 1) t (.bool b) (.bool c)) w = _
  unfold Op.equalIn
  refine (run_to (run_underlying hu w)).trans ?_
  rfl
theorem q_beql (hu : P.underlying t = some .bool) (ho : o.op = .binOp .eql t x y t') (hx : ev E x = some (.bool b)) (hy : ev E y = some (.bool c)) : Quiet P o n E w0 rs (.bool (b == c)) := .of (fun ρ => do eqGuard .eql t x y (ρ x) (ρ y); binOp .eql t (ρ x) (ρ y)) (fun ρ => by simp only [execOp, ho]; rfl) fun ρ w h hm => by
  simp only [h _ _ hx, h _ _ hy]
  show Sem.run P ((Op.equal t (.bool b) (.bool c)).bind fun r => (pure (Value.bool r) : Sem Value)) w = _
  rw [run_to (run_equal_bool hu w)]; rfl
theorem q_bneq (hu : P.underlying t = some .bool) (ho : o.op = .binOp .neq t x y t') (hx : ev E x = some (.bool b)) (hy : ev E y = some (.bool c)) : Quiet P o n E w0 rs (.bool (b != c)) := .of (fun ρ => do eqGuard .neq t x y (ρ x) (ρ y); binOp .neq t (ρ x) (ρ y)) (fun ρ => by simp only [execOp, ho]; rfl) fun ρ w h hm => by
  simp only [h _ _ hx, h _ _ hy]
  show Sem.run P ((Op.equal t (.bool b) (.bool c)).bind fun r => (pure (Value.bool (!r)) : Sem Value)) w = _
  rw [run_to (run_equal_bool hu w)]; rfl
end bools

section conv
variable {x : Operand} {p : Int}
theorem q_int {s d : TypeId} {k : IntKind} {u : TypeDesc} (hs : P.underlying s = some u) (hd : P.underlying d = some (.int .i64)) (ho : o.op = .convert s d x) (hx : ev E x = some (.int k p)) : Quiet P o n E w0 rs (.int .i64 (wrap64 p)) := .of (fun ρ => convert s d (ρ x)) (fun ρ => by simp only [execOp, ho]; rfl) fun ρ w h hm => by
  simp only [h _ _ hx]
  refine (run_to (run_underlying hs w)).trans ?_
  refine (run_to (run_underlying hd w)).trans ?_
  rw [← i64_wrap]
  cases u <;> rfl
end conv

section strings
variable {t t' : TypeId} {x y : Operand} {a b : ByteArray}
theorem q_sadd (ho : o.op = .binOp .add t x y t') (hx : ev E x = some (.string a)) (hy : ev E y = some (.string b)) (hl : a.size + b.size ≤ 9223372036854775807) : Quiet P o n E w0 rs (.string (a ++ b)) := .of (fun ρ => do eqGuard .add t x y (ρ x) (ρ y); binOp .add t (ρ x) (ρ y)) (fun ρ => by simp only [execOp, ho]; rfl) fun ρ w h hm => by
  simp only [h _ _ hx, h _ _ hy]
  show Sem.run P (if ((a.size + b.size : Nat) : Int) > IntKind.i64.max then unsupported _ else (pure (Value.string (a ++ b)) : Sem Value)) w = _
  rw [if_neg (by show ¬ _ > (9223372036854775807 : Int); omega)]; rfl
theorem q_seql (ho : o.op = .binOp .eql t x y t') (hx : ev E x = some (.string a)) (hy : ev E y = some (.string b)) : Quiet P o n E w0 rs (.bool (a.toList == b.toList)) := .of (fun ρ => do eqGuard .eql t x y (ρ x) (ρ y); binOp .eql t (ρ x) (ρ y)) (fun ρ => by simp only [execOp, ho]; rfl) fun ρ w h hm => by
  simp only [h _ _ hx, h _ _ hy]; rfl
theorem q_sneq (ho : o.op = .binOp .neq t x y t') (hx : ev E x = some (.string a)) (hy : ev E y = some (.string b)) : Quiet P o n E w0 rs (.bool (!(a.toList == b.toList))) := .of (fun ρ => do eqGuard .neq t x y (ρ x) (ρ y); binOp .neq t (ρ x) (ρ y)) (fun ρ => by simp only [execOp, ho]; rfl) fun ρ w h hm => by
  simp only [h _ _ hx, h _ _ hy]; rfl
/-- A byte of a string. -/
def sbt (s : ByteArray) (i : Int) : Int := ((s[i.toNat]?).getD 0).toNat
theorem q_sindex {i : Int} {k : IntKind} (hu : P.underlying t = some .string) (ho : o.op = .index t x y) (hx : ev E x = some (.string a)) (hy : ev E y = some (.int k i)) (h0 : 0 ≤ i) (h1 : i < a.size) : Quiet P o n E w0 rs (.int .u8 (sbt a i)) := .of (fun ρ => Instr.index t (ρ x) (ρ y)) (fun ρ => by simp only [execOp, ho]; rfl) fun ρ w h hm => by
  simp only [h _ _ hx, h _ _ hy]
  show Sem.run P ((underlying t).bind _) w = _
  refine (run_to (run_underlying hu w)).trans ?_
  have hlt : i.toNat < a.size := by omega
  have hs : a[i.toNat]? = some a[i.toNat] := getElem?_pos a i.toNat hlt
  show Sem.run P (match (if 0 ≤ i then a[i.toNat]? else none) with | some b => (pure (Value.int .u8 b.toNat) : Sem Value) | none => _) w = _
  rw [if_pos h0, hs]
  simp only [sbt, hs, Option.getD_some]
  rfl
theorem q_len_str {pr : Call} (ho : o.op = .call pr) (hc : pr.callee = .builtin .len) (ha : pr.args = #[x]) (ht : pr.argTypes = #[t]) (hu : P.underlying t = some .string) (hx : ev E x = some (.string a)) : Quiet P o n E w0 rs (.int .i64 a.size) := .of (fun ρ => Builtin.len_ pr.argTypes o.type #[ρ x]) (fun ρ => by simp only [execOp, ho, resolve, hc, ha, List.map_toArray, List.map_cons, List.map_nil]; rfl) fun ρ w h hm => by
  simp only [h _ _ hx, ht]
  refine (run_to (run_underlying hu w)).trans ?_
  rfl
end strings

section parts
variable {t : TypeId} {x y : Operand}
theorem q_len_sl {pr : Call} {e : TypeId} {A : Option Addr} {m c : Nat} (ho : o.op = .call pr) (hc : pr.callee = .builtin .len) (ha : pr.args = #[x]) (ht : pr.argTypes = #[t]) (hu : P.underlying t = some (.slice e)) (hx : ev E x = some (.slice A m c)) : Quiet P o n E w0 rs (.int .i64 m) := .of (fun ρ => Builtin.len_ pr.argTypes o.type #[ρ x]) (fun ρ => by simp only [execOp, ho, resolve, hc, ha, List.map_toArray, List.map_cons, List.map_nil]; rfl) fun ρ w h hm => by
  simp only [h _ _ hx, ht]
  refine (run_to (run_underlying hu w)).trans ?_
  rfl
theorem q_extract {vs : Array Value} {i : Nat} {v : Value} (ho : o.op = .extract x i) (hx : ev E x = some (.tuple vs)) (hi : vs[i]? = some v) : Quiet P o n E w0 rs v := .of (fun ρ => Instr.extract (ρ x) i) (fun ρ => by simp only [execOp, ho]; rfl) fun ρ w h hm => by
  simp only [h _ _ hx, Instr.extract, hi]; rfl
theorem run_part {ft off : Nat} {cs : Array Value} {v : Value} (hg : AggIs P ft false) (hv : cs[off]? = some v) (w : World) : (part ft cs off).run P w = .ok v w := by
  refine (run_to (run_isAgg hg w)).trans ?_
  simp only [hv]; rfl
theorem run_part_agg {ft off s : Nat} {cs : Array Value} (hg : AggIs P ft true) (hs : SzIs P ft s) (w : World) : (part ft cs off).run P w = .ok (.agg (cs.extract off (off + s))) w := by
  refine (run_to (run_isAgg hg w)).trans ?_
  refine (run_to (run_size hs w)).trans ?_
  rfl
theorem run_field {j ft off : Nat} {cs : Array Value} (hf : FieldIs P t j ft off) (w : World) : (Instr.field t (.agg cs) j).run P w = (part ft cs off).run P w := by
  unfold FieldIs at hf
  cases hu : P.underlying t with
  | none => simp [hu] at hf
  | some u =>
    rw [hu] at hf
    refine (run_to (run_underlying hu w)).trans ?_
    cases u <;> simp only [Option.bind_some, fieldDesc, reduceCtorEq] at hf
    rename_i fs
    cases hj : fs[j]? with
    | none => simp [hj] at hf
    | some f =>
      simp only [hj, Option.map_some, Option.some.injEq, Prod.mk.injEq] at hf
      obtain ⟨rfl, rfl⟩ := hf
      simp only [hj]
      rfl
theorem q_field {j ft off : Nat} {cs : Array Value} {v : Value} (hf : FieldIs P t j ft off) (hg : AggIs P ft false) (ho : o.op = .field t x j) (hx : ev E x = some (.agg cs)) (hv : cs[off]? = some v) : Quiet P o n E w0 rs v := .of (fun ρ => Instr.field t (ρ x) j) (fun ρ => by simp only [execOp, ho]; rfl) fun ρ w h hm => by
  simp only [h _ _ hx]
  rw [run_field hf, run_part hg hv]
theorem q_field_agg {j ft off s : Nat} {cs : Array Value} {v : Value} (hf : FieldIs P t j ft off) (hg : AggIs P ft true) (hs : SzIs P ft s) (ho : o.op = .field t x j) (hx : ev E x = some (.agg cs)) (hv : .agg (cs.extract off (off + s)) = v) : Quiet P o n E w0 rs v := .of (fun ρ => Instr.field t (ρ x) j) (fun ρ => by simp only [execOp, ho]; rfl) fun ρ w h hm => by
  simp only [h _ _ hx]
  rw [run_field hf, run_part_agg hg hs, hv]
end parts

section addresses
variable {t : TypeId} {x y : Operand}
theorem q_fieldAddr {j ft off s : Nat} {a : Addr} {v : Value} (hf : FieldIs P t j ft off) (hs : SzIs P ft (s + 1)) (ho : o.op = .fieldAddr t x j) (hx : ev E x = some (.pointer (some a))) (hv : .pointer (some (a.add off)) = v) : Quiet P o n E w0 rs v := .of (fun ρ => Instr.fieldAt t (ρ x) j) (fun ρ => by simp only [execOp, ho]; rfl) fun ρ w h hm => by
  simp only [h _ _ hx]
  unfold FieldIs at hf
  cases hu : P.underlying t with
  | none => simp [hu] at hf
  | some u =>
    rw [hu] at hf
    refine (run_to (run_underlying hu w)).trans ?_
    cases u <;> simp only [Option.bind_some, fieldDesc, reduceCtorEq] at hf
    rename_i fs
    cases hj : fs[j]? with
    | none => simp [hj] at hf
    | some f =>
      simp only [hj, Option.map_some, Option.some.injEq, Prod.mk.injEq] at hf
      obtain ⟨rfl, rfl⟩ := hf
      simp only [hj]
      show Sem.run P ((fieldPlace a f).bind fun a => (pure (Value.pointer (some a)) : Sem Value)) w = _
      have hp : (fieldPlace a f).run P w = .ok (a.add f.offset) w := by
        refine (run_to (run_size hs w)).trans ?_
        rfl
      rw [run_to hp, hv]; rfl
theorem q_indexAddr {e s : Nat} {k : IntKind} {i : Int} {A : Option Addr} {m c : Nat} (hu : P.underlying t = some (.slice e)) (hs : SzIs P e s) (ho : o.op = .indexAddr t x y) (hx : ev E x = some (.slice A m c)) (hy : ev E y = some (.int k i)) (h0 : 0 ≤ i) (h1 : i < m) (hA : ∀ w, Mem w0 rs w → ∃ a, A = some a) : Quiet P o n E w0 rs (.pointer (A.map (·.add (i.toNat * s)))) := .of (fun ρ => Instr.indexAt t (ρ x) (ρ y)) (fun ρ => by simp only [execOp, ho]; rfl) fun ρ w h hm => by
  simp only [h _ _ hx, h _ _ hy]
  obtain ⟨a, rfl⟩ := hA w hm
  show Sem.run P ((underlying t).bind _) w = _
  refine (run_to (run_underlying hu w)).trans ?_
  refine (run_to (run_underlying hu w)).trans ?_
  show Sem.run P (if 0 ≤ i ∧ i < m then ((sizeOf e).bind fun s => (pure (Value.pointer (some (a.add (i.toNat * s)))) : Sem Value)) else _) w = _
  rw [if_pos ⟨h0, h1⟩, run_to (run_size hs w)]
  rfl
end addresses
end
end Go.Proofs.YtnfaiojmabolmaaDoor.S
