/- More rules of this session's program logic: a loop taken round by round; values of functions. It says nothing of any program. -/
import Derived.Test.YtnfaiojmabolmaaDoorSi
namespace Go.Proofs.YtnfaiojmabolmaaDoor.S
open Go Go.RowKit
set_option linter.unusedVariables false
set_option linter.unusedSimpArgs false
section
variable {K : Act → World → Prop} {n : Nat} {E : List (Nat × Value)} {w0 : World} {rs : List Res} {P : Program} {Q : Exit → Act → World → Prop} {o : Oper}
/-- One more round is about to begin. -/
def Lp (P : Program) (c : Code) (Q : Exit → Act → World → Prop) (a : Act) (w : World) : Prop :=
  ∀ (b : Frame) (k : List Item) (cs : List Frame), ∃ e a' w', Q e a' w' ∧ Arrives P (lone (b.at a (.code c :: .inLoop c :: k)) cs w) b k cs e a' w'
theorem lp_round {c : Code} {a : Act} {w : World} (h : c.wp P (Exit.then (Lp P c Q) Q) a w) : Lp P c Q a w := by
  intro b k cs
  obtain ⟨e, a₁, w₁, hq, harr⟩ := h b (.inLoop c :: k) cs
  cases e with
  | normal =>
    obtain ⟨e₂, a₂, w₂, hq₂, harr₂⟩ := hq b k cs
    exact ⟨e₂, a₂, w₂, hq₂, .of_steps (Steps.trans harr (.one step_inLoop)) harr₂⟩
  | exit id => exact ⟨_, a₁, w₁, hq, .pass (x := .inLoop c) rfl (fun _ _ => .inl (by simp)) harr⟩
  | goto l => exact ⟨_, a₁, w₁, hq, .pass (x := .inLoop c) rfl (fun _ _ => .inl (by simp)) harr⟩
  | ret => exact ⟨_, a₁, w₁, hq, .pass (x := .inLoop c) rfl (fun _ _ => .inl (by simp)) harr⟩
  | panic ch => exact ⟨_, a₁, w₁, hq, .pass (x := .inLoop c) rfl (fun _ _ => .inl (by simp)) harr⟩
  | outgrown => exact ⟨_, a₁, w₁, hq, .pass (x := .inLoop c) rfl (fun _ _ => .inl (by simp)) harr⟩
theorem wp_loop_lp {c : Code} {a : Act} {w : World} (h : Lp P c Q a w) : (Code.loop c).wp P Q a w := by
  intro b k cs
  obtain ⟨e, a', w', hq, harr⟩ := h b k cs
  exact ⟨e, a', w', hq, .of_steps (.one step_loop) harr⟩
theorem j_unroll {c : Code} (h : J (Lp P c Q) n E w0 rs) : J ((Code.loop c).wp P Q) n E w0 rs := fun a w he hm => wp_loop_lp (h a w he hm)
theorem j_round {c : Code} (h : J (c.wp P (Exit.then (Lp P c Q) Q)) n E w0 rs) : J (Lp P c Q) n E w0 rs := fun a w he hm => lp_round (h a w he hm)
/-- Room for m more behind nothing. -/
theorem a_growI {pr : Call} {x y : Operand} {t t' e b sl : Nat} {m : Int} {z : Value} (hu : P.underlying t = some (.slice e)) (hu' : P.underlying t' = some (.int .i64)) (hs : SzIs P e 1) (hb : BytesIs P e b) (hz : ZeroIs P e z) (hzs : Nat.beq z.cells.size 1 = true) (hb1 : Nat.ble b 64 = true) (hm1 : 0 < m ∧ m ≤ 1099511627776)
    (ho : o.op = .call pr) (hc : pr.callee = .builtin .append) (ha : pr.args = #[x, y]) (ht : pr.argTypes = #[t, t']) (hx : ev E x = some (.slice none sl 0)) (hsl : Nat.beq sl 0 = true) (hy : ev E y = some (.int .i64 m)) :
    Acts P o n E w0 rs (fun q : Option Addr × Nat => .slice q.1 m.toNat q.2) (fun q => .row q.1 q.2 e 1 [] :: rs) := acts_of_run fun a w he hm => by
  obtain rfl : sl = 0 := Nat.eq_of_beq_eq_true hsl
  have hb1 : b ≤ 64 := Nat.le_of_ble_eq_true hb1
  obtain ⟨i, hi, hib⟩ := run_typeInfo_bytes hb w
  obtain ⟨i2, hi2, hib2⟩ := run_typeInfo_bytes hb { w with drawn := w.drawn + 1 }
  have hw : IntKind.i64.wrap m = m := by rw [i64_wrap]; unfold wrap64; omega
  have hcapb : Builtin.nextslicecap (0 + m.toNat) 0 * b ≤ 281474976710656 := cap_bound (by omega) (by omega) hb1
  let q : Question := .appendCap (0 + m.toNat) 0 e
  let N := q.cut (w.tape w.drawn q)
  have hd := hm.drew
  have hbm : (b : Int) * m ≤ 281474976710656 := by
    have h1 : (b : Int) ≤ 64 := by omega
    have h2 : (b : Int) * m ≤ 64 * 1099511627776 := Int.mul_le_mul h1 hm1.2 (by omega) (by omega)
    omega
  have hmb : m * (b : Int) ≤ 281474976710656 := by rw [Int.mul_comm]; exact hbm
  let cells : Array Value := #[] ++ Builtin.zeroCells z.cells m.toNat ++ Builtin.zeroCells z.cells (N - (0 + m.toNat))
  have key : (Builtin.append_ #[t, t'] o.type #[.slice none 0 0, .int .i64 m]).run P w = .ok (.slice (some ⟨w.heap.size, 0, none⟩) (0 + m.toNat) N) { w with drawn := w.drawn + 1, heap := w.heap.push (.cells cells e) } := by
    refine (run_to (run_underlying hu w)).trans ?_
    refine (run_to (run_size hs w)).trans ?_
    refine (run_to (run_underlying hu' w)).trans ?_
    refine (run_to (v := true) (w' := w) rfl).trans ?_
    show Sem.run P (if true = true then _ else _) w = _
    rw [if_pos rfl]
    refine (run_to (m := asInt (.int .i64 m)) (v := m) (w' := w) rfl).trans ?_
    rw [hw]
    show Sem.run P (if m < 0 then _ else _) w = _
    rw [if_neg (by omega)]
    refine (run_to hi).trans ?_
    show Sem.run P (if m * (i.bytes : Int) > 2 ^ 48 then _ else _) w = _
    rw [hib, if_neg (by
      have : (2 : Int) ^ 48 = 281474976710656 := by decide
      omega)]
    refine (run_to (m := (pure m.toNat : Sem Nat)) (v := m.toNat) (w' := w) rfl).trans ?_
    show Sem.run P (if 0 + m.toNat ≤ 0 then _ else _) w = _
    rw [if_neg (by omega)]
    refine (run_to hi).trans ?_
    show Sem.run P (if ((0 + m.toNat : Nat) : Int) > IntKind.i64.max ∧ (true = true ∨ i.bytes = 0) then _ else _) w = _
    rw [if_neg (by
      intro h
      have h1 : ((0 + m.toNat : Nat) : Int) > 9223372036854775807 := h.1
      omega)]
    refine (run_to hi).trans ?_
    show Sem.run P (if Builtin.nextslicecap (0 + m.toNat) 0 * i.bytes > 2 ^ 48 then _ else _) w = _
    rw [hib, if_neg (Nat.not_lt.2 (Nat.le_trans hcapb (Nat.le_of_eq pow48.symm)))]
    have hch : (choose q).run P w = .ok N { w with drawn := w.drawn + 1 } := rfl
    refine (run_to hch).trans ?_
    refine (run_to hi2).trans ?_
    refine (run_to (run_askRoom _ _)).trans ?_
    refine (run_to (m := Builtin.firstCells 1 0 (.slice none 0 0)) (v := #[]) (w' := { w with drawn := w.drawn + 1 }) rfl).trans ?_
    have hnew : Sem.run P (if (!true) = true then Builtin.firstCells 1 m.toNat (.int .i64 m) else if m.toNat * 1 = 0 then (pure #[] : Sem (Array Value)) else (zeroValue e).bind fun z => pure (Builtin.zeroCells z.cells m.toNat)) { w with drawn := w.drawn + 1 } = .ok (Builtin.zeroCells z.cells m.toNat) { w with drawn := w.drawn + 1 } := by
      rw [if_neg (by decide), if_neg (by omega)]
      exact (run_to (run_zero hz _)).trans rfl
    refine (run_to hnew).trans ?_
    refine (run_to (run_zero hz _)).trans ?_
    rfl
  have hmm := hd.newRow e N 1 cells [] (Nat.zero_le _) (by
    have hz1 : z.cells.size = 1 := Nat.eq_of_beq_eq_true hzs
    have h1 : cells.size = m.toNat + (N - (0 + m.toNat)) := by simp [cells, Builtin.zeroCells, hz1]
    have hN : 0 + m.toNat ≤ N := Nat.le_add_right _ _
    omega) (fun j hj => by simp at hj)
  refine ⟨(some ⟨w.heap.size, 0, none⟩, N), _, ?_, hmm⟩
  simp only [execOp, ho, resolve, hc, ha, ht, List.map_toArray, List.map_cons, List.map_nil, he.eval hx, he.eval hy]
  show Sem.run P ((Builtin.append_ #[t, t'] o.type #[.slice none 0 0, .int .i64 m]).bind fun x => (pure (Next.value x) : Sem Next)) w = _
  rw [run_to key, Nat.zero_add]; rfl
/-- 'x[:0]' of a slice, whatever its length. -/
theorem q_hi0 {t e : Nat} {x hi : Operand} {k : IntKind} {A : Option Addr} {m c sz : Nat} (hu : P.underlying t = some (.slice e)) (hs : SzIs P e sz) (ho : o.op = .slice t x none (some hi) none) (hx : ev E x = some (.slice A m c)) (hhi : ev E hi = some (.int k 0)) : Quiet P o n E w0 rs (.slice A 0 c) := by
  have h := q_cut_hi (n := n) (E := E) (w0 := w0) (rs := rs) (P := P) (o := o) (k := k) (i := 0) hu hs ho hx hhi (by omega) (by omega)
  rw [cutA_zero] at h
  exact h
/-- The room of nothing. -/
theorem q_cap_sl {t : Nat} {x : Operand} {pr : Call} {e : TypeId} {A : Option Addr} {m c : Nat} (ho : o.op = .call pr) (hc : pr.callee = .builtin .cap) (ha : pr.args = #[x]) (ht : pr.argTypes = #[t]) (hu : P.underlying t = some (.slice e)) (hx : ev E x = some (.slice A m c)) : Quiet P o n E w0 rs (.int .i64 c) := .of (fun ρ => Builtin.cap_ pr.argTypes o.type #[ρ x]) (fun ρ => by simp only [execOp, ho, resolve, hc, ha, List.map_toArray, List.map_cons, List.map_nil]; rfl) fun ρ w h hm => by
  simp only [h _ _ hx, ht]
  refine (run_to (run_underlying hu w)).trans ?_
  rfl
theorem q_addc {t t' : TypeId} {x y : Operand} {p q v : Int} (ho : o.op = .binOp .add t x y t') (hx : ev E x = some (.int .i64 p)) (hy : ev E y = some (.int .i64 q)) (hv : p + q = v) (hb : -9223372036854775808 ≤ v ∧ v ≤ 9223372036854775807) : Quiet P o n E w0 rs (.int .i64 v) := by
  have h := q_add (n := n) (w0 := w0) (rs := rs) (P := P) ho hx hy
  rw [hv] at h
  have : wrap64 v = v := by unfold wrap64; omega
  rw [this] at h
  exact h
/-- Is a slice nil? -/
theorem q_isnil {t t' e : TypeId} {x y : Operand} {A : Option Addr} {m c m' c' : Nat} (hu : P.underlying t = some (.slice e)) (ho : o.op = .binOp .eql t x y t') (hx : ev E x = some (.slice A m c)) (hy : ev E y = some (.slice none m' c')) : Quiet P o n E w0 rs (.bool A.isNone) := .of (fun ρ => do eqGuard .eql t x y (ρ x) (ρ y); binOp .eql t (ρ x) (ρ y)) (fun ρ => by simp only [execOp, ho]; rfl) fun ρ w h hm => by
  simp only [h _ _ hx, h _ _ hy]
  have he : (Op.equal t (.slice A m c) (.slice none m' c')).run P w = .ok A.isNone w := by
    show Sem.run P (Op.equalIn (9999 + 1) t (.slice A m c) (.slice none m' c')) w = _
    unfold Op.equalIn
    refine (run_to (run_underlying hu w)).trans ?_
    cases A <;> rfl
  show Sem.run P ((Op.equal t (.slice A m c) (.slice none m' c')).bind fun r => (pure (Value.bool r) : Sem Value)) w = _
  rw [run_to he]; rfl
theorem ghost_nil {A : Option Addr} {k : IntKind} {xs : List Int} {w : World} (hm : Mem w0 rs w) (h : Rd w0 rs A (ints k xs)) : (A.isNone = true ∧ xs = []) ∨ A.isNone = false := by
  cases A with
  | some a => exact .inr rfl
  | none =>
    refine .inl ⟨rfl, ?_⟩
    cases xs with
    | nil => rfl
    | cons x xs =>
      obtain ⟨a, ha, _⟩ := h w hm 0 (.int k x) rfl
      cases ha
theorem take_all {α : Type} {xs : List α} {m : Nat} {k : Nat} (hn : xs.length = m) (h : ¬(xs.length : Int) > (k : Int)) : (xs.take k).length = m := by
  rw [List.length_take]; omega
end
end Go.Proofs.YtnfaiojmabolmaaDoor.S
