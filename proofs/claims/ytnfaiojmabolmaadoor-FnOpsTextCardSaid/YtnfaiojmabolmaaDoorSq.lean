/- Texts cut and joined, as plain functions. It says nothing of any program. -/
import Derived.Test.YtnfaiojmabolmaaDoorX1
import Derived.Lib.SplitLaws
import Derived.Lib.Join
namespace Go.Proofs.YtnfaiojmabolmaaDoor.S
open Go Go.RowKit
set_option linter.unusedVariables false
/-- The pieces of a text. -/
def spl (s sep : ByteArray) : List ByteArray := Go.Lib.splitB sep 0 (Go.Lib.countB s sep) s
theorem spl_len {s sep : ByteArray} (h1 : 1 ≤ sep.size) : (spl s sep).length = Go.Lib.countB s sep + 1 := Go.Lib.splitB_all sep h1 0 _ s rfl
/-- Texts joined. -/
def jn (xs : List ByteArray) (sep : ByteArray) : ByteArray := ⟨(Go.Lib.join (xs.map (·.data.toList)) sep.data.toList).toArray⟩
/-- A number that is there, dropped into more memory. -/
theorem rd_ex {w0 : World} {rs : List Res} (k : Nat) {A : Option Addr} (h : ∃ m : Int, Rd w0 (rs.drop k) A [.int .i64 m]) : ∃ m : Int, Rd w0 rs A [.int .i64 m] := let ⟨m, h⟩ := h; ⟨m, Rd.drop k h⟩
end Go.Proofs.YtnfaiojmabolmaaDoor.S
