/- Where a law is entered: what its arguments are, read off the given statement's form. It says nothing of any program. -/
import Derived.Test.YtnfaiojmabolmaaDoorX1
import Derived.WalkKit
import Derived.ProofKit
import Derived.OpenShut
import Derived.ShutString
import Derived.ChangeOld
import Derived.SizedLaws
namespace Go.Proofs.YtnfaiojmabolmaaDoor.S
open Go Go.RowKit Go.ChangeShapes Go.WideShapes Go.ChangeAt
set_option linter.unusedVariables false
set_option linter.unusedSimpArgs false
theorem Mem.start (w : World) : Mem w [] w := ⟨Below.refl _ _, fun r hr => by simp at hr, fun i j g hi => by simp [blkAt] at hi⟩
/-- A 64-bit number. -/
def I64 (n : Int) : Prop := -9223372036854775808 ≤ n ∧ n ≤ 9223372036854775807
def U8 (n : Int) : Prop := 0 ≤ n ∧ n ≤ 255
theorem min_i64 : IntKind.i64.min = -9223372036854775808 := by decide
theorem max_i64 : IntKind.i64.max = 9223372036854775807 := by decide
theorem min_u8 : IntKind.u8.min = 0 := by decide
theorem max_u8 : IntKind.u8.max = 255 := by decide
theorem i64_of {n : Int} (h : (Lit.int .i64 n).wf = true) : I64 n := by
  simp only [Lit.wf, Bool.and_eq_true, decide_eq_true_eq, min_i64, max_i64] at h
  exact h
theorem u8_of {n : Int} (h : (Lit.int .u8 n).wf = true) : U8 n := by
  simp only [Lit.wf, Bool.and_eq_true, decide_eq_true_eq, min_u8, max_u8] at h
  exact h
/-- A slice of numbers that was handed in. -/
structure InI (W : World) (k : IntKind) (A : Option Addr) (n c : Nat) (xs : List Int) : Prop where
  len : xs.length = n
  cap : xs.length ≤ c
  max : xs.length ≤ 9223372036854775807
  rd : Rd W [] A (ints k xs)
  wf : ∀ x ∈ xs, (Lit.int k x).wf = true
section
variable {H : Type} {enc : TypeId × Value → H} {P : Program} {W : World} {sp : Nat → Bool} {held : Bool} {fuel : Nat} {cs : List Value} {x : DataW H × List MemPlace} {t e : TypeId} {k : IntKind}
theorem in_int (ht : P.underlying t = some (.int k)) (h : DataW.trod enc P W 0 sp held fuel t cs = some x) : ∃ n, cs = [.int k n] ∧ (Lit.int k n).wf = true := by
  obtain ⟨n, h1, _, h2⟩ := DataW.trod_int ht h
  exact ⟨n, h1, h2⟩
theorem in_string (ht : P.underlying t = some .string) (h : DataW.trod enc P W 0 sp held fuel t cs = some x) : ∃ s : ByteArray, cs = [.string s] ∧ s.size ≤ maxLen := by
  obtain ⟨n, h1, _, h2⟩ := DataW.trod_string ht h
  exact ⟨n, h1, h2⟩
theorem in_ints (ht : P.underlying t = some (.slice e)) (he : P.underlying e = some (.int k)) (hc : P.cellsOf e = 1) (h : DataW.trod enc P W 0 sp held fuel t cs = some x) :
    ∃ A n c xs, cs = [.slice A n c] ∧ InI W k A n c xs := by
  rcases open_ints ht he hc h with ⟨h1, _⟩ | ⟨a, l, c, zs, h1, _, hl, hm, hz, _, hcell, hwf⟩
  · exact ⟨none, 0, 0, [], h1, rfl, Nat.zero_le _, Nat.zero_le _, Rd.nil _, fun x hx => by simp at hx⟩
  · have hzl : l ≤ zs.length := by
      split at hz <;> omega
    have hlen : (zs.take l).length = l := by rw [List.length_take]; omega
    refine ⟨some a, l, c, zs.take l, h1, hlen, by omega, ?_, ?_, ?_⟩
    · have : maxLen = 9223372036854775807 := by simp [maxLen]
      omega
    · intro w hm j v hj
      rw [ints, List.getElem?_map] at hj
      cases hq : (zs.take l)[j]? with
      | none => simp [hq] at hj
      | some y =>
        rw [hq] at hj
        simp at hj
        subst hj
        rw [List.getElem?_take] at hq
        split at hq
        · have hlt : j < zs.length := (List.getElem?_eq_some_iff.1 hq).1
          refine ⟨a, rfl, ?_⟩
          have := hcell j hlt
          rw [List.getD_eq_getElem?_getD, hq] at this
          simp only [Option.getD_some] at this
          exact (hm.low.cell (World.block_lt_of_cell? W _ this)).trans this
        · simp at hq
    · intro y hy
      exact hwf y (List.mem_of_mem_take hy)
theorem piece {cs l r : List Value} {o s p : Nat} (h1 : (cs.drop o).take s = l) (h2 : cs.drop p = r) (hp : p = o + s) : cs.drop o = l ++ r := by
  subst hp
  rw [← h1, ← h2, ← List.drop_drop, List.take_append_drop]
theorem piece_end {cs : List Value} {n : Nat} (h : cs.length = n) : cs.drop n = [] := by rw [← h]; exact List.drop_length
end
end Go.Proofs.YtnfaiojmabolmaaDoor.S
