/- strings.Join, as the logic says it. -/
import Derived.Test.YtnfaiojmabolmaaDoorDe
import Derived.Test.YtnfaiojmabolmaaDoorSp
import Derived.Test.YtnfaiojmabolmaaDoorSq
import Derived.Shelf.Strings.OnBuilder
namespace Go.Proofs.YtnfaiojmabolmaaDoor.D
open Go Go.Shelf Go.RowKit Go.Proofs Go.Proofs.YtnfaiojmabolmaaDoor.S
set_option linter.unusedVariables false
theorem join_calls {w0 w : World} {F : List Res} {xs : List ByteArray} {sep : ByteArray} {A : Option Addr} {n c : Nat} (hm : Mem w0 F w) (hn : xs.length = n) (hR : Rd w0 F A (Go.Proofs.YtnfaiojmabolmaaDoor.S.strs xs)) (hN : xs.length ≤ 140737488355328) (hc : xs.length ≤ c) (hl : (jn xs sep).size ≤ 140737488355328) :
    Calls Tryd.prog (ren156.f 156) (List.toArray [.slice A n c, .string sep]) w fun e w' => ∃ x : Unit, e = .returned (.string (jn xs sep)) ∧ Mem w0 F w' := by
  subst hn
  cases xs with
  | nil => exact (Any.strings_Join_none lays156 extra156 A c sep w).mono fun e w' ⟨he, hw⟩ => ⟨(), he, by subst hw; exact hm⟩
  | cons x xs =>
    obtain ⟨a, rfl, h0⟩ := hR w hm 0 (.string x) rfl
    obtain ⟨bk, o, sp⟩ := a
    have hsp : sp = none := by simpa [Addr.add] using World.cell?_spot h0
    subst hsp
    have hl' : (Go.Lib.join ((x :: xs).map (·.data.toList)) sep.data.toList).length ≤ 140737488355328 := by
      have e : (jn (x :: xs) sep).size = (Go.Lib.join ((x :: xs).map (·.data.toList)) sep.data.toList).length := by
        show (List.toArray _).size = _
        rw [List.size_toArray]
      omega
    refine calls_text hm (Any.strings_Join lays156 extra156 bk o c (x :: xs) sep w (fun j y hj => ?_) (by simpa [Addr.add] using World.block_lt_of_cell? w _ h0) hN hc hl')
    obtain ⟨a, ha, h⟩ := hR w hm j (.string y) (by rw [Go.Proofs.YtnfaiojmabolmaaDoor.S.strs, List.getElem?_map, hj]; rfl)
    cases ha
    cases j <;> simpa [Addr.add] using h
end Go.Proofs.YtnfaiojmabolmaaDoor.D
