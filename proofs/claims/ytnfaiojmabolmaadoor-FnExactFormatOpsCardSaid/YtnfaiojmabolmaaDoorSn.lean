/- A row of values of three numbers, where a law is entered. It says nothing of any program. -/
import Derived.Test.YtnfaiojmabolmaaDoorSj
import Derived.Deep.Slices
namespace Go.Proofs.YtnfaiojmabolmaaDoor.S
open Go Go.RowKit Go.ChangeShapes Go.WideShapes Go.ChangeAt Go.Deep
set_option linter.unusedVariables false
set_option linter.unusedSimpArgs false
structure InT (W : World) (A : Option Addr) (n c : Nat) (xs : List (Int × Int × Int)) : Prop where
  len : xs.length = n
  cap : xs.length ≤ c
  max : xs.length ≤ 9223372036854775807
  rd : Rd W [] A (trips xs)
section
variable {H : Type} {enc : TypeId × Value → H} {P : Program} {W : World} {sp : Nat → Bool} {held : Bool} {fuel : Nat} {cs : List Value} {x : DataW H × List MemPlace} {t e : TypeId} {k : IntKind}
theorem in_bool (ht : P.underlying t = some .bool) (h : DataW.trod enc P W 0 sp held fuel t cs = some x) : ∃ b : Bool, cs = [.bool b] ∧ True := by
  obtain ⟨n, h1, _⟩ := DataW.trod_bool ht h
  exact ⟨n, h1, trivial⟩
theorem in_ops {f0 f1 f2 : Field} (ht : P.underlying t = some (.slice e)) (he : P.underlying e = some (.struct #[f0, f1, f2])) (u0 : P.underlying f0.type = some (.int .i64)) (u1 : P.underlying f1.type = some (.int .i64)) (u2 : P.underlying f2.type = some (.int .i64))
    (o0 : f0.offset = 0) (o1 : f1.offset = 1) (o2 : f2.offset = 2) (ce : P.cellsOf e = 3) (c0 : P.cellsOf f0.type = 1) (c1 : P.cellsOf f1.type = 1) (c2 : P.cellsOf f2.type = 1)
    (h : DataW.trod enc P W 0 sp held fuel t cs = some x) : ∃ A n c xs, cs = [.slice A n c] ∧ InT W A n c xs := by
  rcases open_slice ht h with ⟨h0, _⟩ | ⟨a, len, cap, m, n, D, Pl, rfl, hb, hl, hm, hmm, _, hx⟩
  · exact ⟨none, 0, 0, [], h0, rfl, Nat.zero_le _, Nat.zero_le _, Rd.nil _⟩
  have hlm : len ≤ m := by rw [hmm]; split <;> omega
  have each : ∀ i, i < len → ∃ q : Int × Int × Int, W.cell? (a.add (i * 3)) = some (.int .i64 q.1) ∧ W.cell? (a.add (i * 3 + 1)) = some (.int .i64 q.2.1) ∧ W.cell? (a.add (i * 3 + 2)) = some (.int .i64 q.2.2) := by
    intro i hi
    obtain ⟨cs', h1, h2⟩ := hx i (by omega)
    rw [ce] at h1
    obtain ⟨_, hlen, hcell⟩ := World.cells?_some h1
    obtain ⟨xs, k, hk, hxy, _, hxl, hf⟩ := DataW.trod_struct he h2
    match xs, hxl, cs', hlen with
    | [y0, y1, y2], _, [v0, v1, v2], _ =>
      have g0 := hf 0 f0 rfl
      have g1 := hf 1 f1 rfl
      have g2 := hf 2 f2 rfl
      simp [o0, o1, o2, c0, c1, c2] at g0 g1 g2
      have e0 := hcell 0 (by omega)
      have e1 := hcell 1 (by omega)
      have e2 := hcell 2 (by omega)
      rw [add_add] at e0 e1 e2
      obtain ⟨z0, w0, _⟩ := DataW.trod_int u0 g0
      obtain ⟨z1, w1, _⟩ := DataW.trod_int u1 g1
      obtain ⟨z2, w2, _⟩ := DataW.trod_int u2 g2
      simp only [List.cons.injEq, and_true] at w0 w1 w2
      subst w0 w1 w2
      exact ⟨(z0, z1, z2), by simpa using e0, by simpa using e1, by simpa using e2⟩
  obtain ⟨q, hq⟩ := choose_lt each
  have hlen : ((List.range len).map q).length = len := by simp
  refine ⟨some a, len, cap, (List.range len).map q, rfl, hlen, by omega, ?_, ?_⟩
  · have : maxLen = 9223372036854775807 := by simp [maxLen]
    omega
  · intro w hmem j v hj
    have hjl : j < len * 3 := by
      have := (List.getElem?_eq_some_iff.1 hj).1
      rw [trips_len, hlen] at this
      exact this
    refine ⟨a, rfl, ?_⟩
    have hi : j / 3 < len := by omega
    have hd : j % 3 < 3 := by omega
    have tg := trips_get (xs := (List.range len).map q) (i := ((j / 3 : Nat) : Int)) (by omega) (by rw [hlen]; omega) (j % 3) hd
    rw [Int.toNat_natCast, show j / 3 * 3 + j % 3 = j by omega, hj] at tg
    have hr : rdt ((List.range len).map q) ((j / 3 : Nat) : Int) = q (j / 3) := by
      unfold rdt
      rw [Int.toNat_natCast, List.getD_eq_getElem?_getD, List.getElem?_map, List.getElem?_range hi]
      rfl
    rw [hr] at tg
    obtain ⟨q0, q1, q2⟩ := hq (j / 3) hi
    have key : W.cell? (a.add j) = some v := by
      rcases (show j % 3 = 0 ∨ j % 3 = 1 ∨ j % 3 = 2 by omega) with d | d | d
      · rw [d] at tg
        have ev : v = .int .i64 (q (j / 3)).1 := by simpa using tg
        rw [ev, ← q0]; congr 2; omega
      · rw [d] at tg
        have ev : v = .int .i64 (q (j / 3)).2.1 := by simpa using tg
        rw [ev, ← q1]; congr 2; omega
      · rw [d] at tg
        have ev : v = .int .i64 (q (j / 3)).2.2 := by simpa using tg
        rw [ev, ← q2]; congr 2; omega
    exact (hmem.low.cell (World.block_lt_of_cell? W _ key)).trans key
end
end Go.Proofs.YtnfaiojmabolmaaDoor.S
