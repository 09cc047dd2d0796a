/- From the kit's contracts of Go's library to the logic: what a call leaves as it was below the old heap's end, it leaves in every resource. It says nothing of any program. -/
import Derived.Test.YtnfaiojmabolmaaDoorX1
namespace Go.Proofs.YtnfaiojmabolmaaDoor.S
open Go Go.RowKit
set_option linter.unusedVariables false
theorem Mem.later {w0 w w' : World} {rs : List Res} (hm : Mem w0 rs w) (hb : Below w.heap.size w w') : Mem w0 rs w' :=
  hm.keep (hm.low.trans (hb.mono hm.low.size)) fun r hr g hg hlt => hb.block g hlt
/-- A contract of the library's, as the logic says it, of a function that answers a text. -/
theorem calls_text {P : Program} {f : FuncId} {args : Array Value} {w0 w : World} {F : List Res} {t : ByteArray} (hm : Mem w0 F w)
    (h : Calls P f args w fun e w' => e = .returned (.string t) ∧ Below w.heap.size w w') : Calls P f args w fun e w' => ∃ x : Unit, e = .returned (.string t) ∧ Mem w0 F w' :=
  h.mono fun e w' ⟨he, hb⟩ => ⟨(), he, hm.later hb⟩
end Go.Proofs.YtnfaiojmabolmaaDoor.S
