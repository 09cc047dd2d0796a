/-
  No cell of these rows narrows 'for every input' (looked for: loops, veiled, ifaces, maps, wideKeys, modest, calm, conditions, laid).
  DERIVED. THE GIVEN ROWS OF THIS SEAT. 5 by the template 'for every input the law returns true; each argument reads behind the call as it read before'; 0 by the template 'total and deterministic' (their statements: YtpfkcjddilpbkaaTotals.lean).
  GIVEN WITH THE SEED: the statements are not yours to turn. If you find one false, say at which input.
  Laid BY PROGRAM, IN A SANDBOX (cutbox-rows.mjs): the forced cells as the released guide's own fill.sh prints them over the translation 92a20773dbcb92fd… (all of the seat's roots in one cut). By AI agents, Wed Nov 11 2026. No macro, syntax, notation, axiom, sorry.
-/
import Derived.Test.YtpfkcjddilpbkaaChecked
import GoSem.Claim
import GoSem.ClaimJoined
import GoSem.ClaimMapViews
import Derived.JoinedTies
import Derived.KernelRfl
namespace Go.Proofs.Ytpfkcjddilpbkaa
/- THE CELL 'sum', in the pinned program and in every row, IS THE sha256 OF THE DUMP (.gsa) THAT YtpfkcjddilpbkaaProg.lean LOADS. Nothing in Lean hashes anything: it is a label: what it is worth is what the hold of that sum in a sandbox is worth. -/
noncomputable def Try.pinned : Pinned := { name := "ytpfkcjddilpbkaa", sum := "92a20773dbcb92fddee9164cb11d5d1940fe916b0c2571c72c31fa060fc9409c", checked := Try.checked }
namespace Rows
def none {H : Type} : Left H := { results := [], args := [] }

/-- 'laws.FnExactBothSame': WHATEVER THE INPUT: true; the input reads as it did. -/
def fnExactBothSameSpec : ChangeSpec := { name := "fnExactBothSame", fn := fun _ => fun
  | [d1, d2] => { results := [.lit (.bool true)], args := [d1, d2] }
  | _ => none }
def fnExactBothSameRow : OpenClaim := { program := "ytpfkcjddilpbkaa", sum := "92a20773dbcb92fddee9164cb11d5d1940fe916b0c2571c72c31fa060fc9409c", func := "loop.example/cellcollector/laws.FnExactBothSame", spec := "fnExactBothSame", apart := false }
def FnExactBothSameSaid : Prop := fnExactBothSameRow.holds Try.pinned (OpenSpec.ofChange fnExactBothSameSpec)

/-- ITS FALSE NEIGHBOUR: 'it returns false'. Refute it at one input. -/
def fnExactBothSameWrong : ChangeSpec := { name := "fnExactBothSame", fn := fun _ => fun
  | [d1, d2] => { results := [.lit (.bool false)], args := [d1, d2] }
  | _ => none }
def FnExactBothSameWrongFalsely : Prop := fnExactBothSameRow.holds Try.pinned (OpenSpec.ofChange fnExactBothSameWrong)

/-- 'laws.FnGcSame': WHATEVER THE INPUT: true; the input reads as it did. -/
def fnGcSameSpec : ChangeSpec := { name := "fnGcSame", fn := fun _ => fun
  | [d] => { results := [.lit (.bool true)], args := [d] }
  | _ => none }
def fnGcSameRow : OpenClaim := { program := "ytpfkcjddilpbkaa", sum := "92a20773dbcb92fddee9164cb11d5d1940fe916b0c2571c72c31fa060fc9409c", func := "loop.example/cellcollector/laws.FnGcSame", spec := "fnGcSame", apart := false }
def FnGcSameSaid : Prop := fnGcSameRow.holds Try.pinned (OpenSpec.ofChange fnGcSameSpec)

/-- ITS FALSE NEIGHBOUR: 'it returns false'. Refute it at one input. -/
def fnGcSameWrong : ChangeSpec := { name := "fnGcSame", fn := fun _ => fun
  | [d] => { results := [.lit (.bool false)], args := [d] }
  | _ => none }
def FnGcSameWrongFalsely : Prop := fnGcSameRow.holds Try.pinned (OpenSpec.ofChange fnGcSameWrong)

/-- 'laws.FnNewBoth': WHATEVER THE INPUT: true; the input reads as it did. -/
def fnNewBothSpec : ChangeSpec := { name := "fnNewBoth", fn := fun _ => fun
  | [d] => { results := [.lit (.bool true)], args := [d] }
  | _ => none }
def fnNewBothRow : OpenClaim := { program := "ytpfkcjddilpbkaa", sum := "92a20773dbcb92fddee9164cb11d5d1940fe916b0c2571c72c31fa060fc9409c", func := "loop.example/cellcollector/laws.FnNewBoth", spec := "fnNewBoth", apart := false }
def FnNewBothSaid : Prop := fnNewBothRow.holds Try.pinned (OpenSpec.ofChange fnNewBothSpec)

/-- ITS FALSE NEIGHBOUR: 'it returns false'. Refute it at one input. -/
def fnNewBothWrong : ChangeSpec := { name := "fnNewBoth", fn := fun _ => fun
  | [d] => { results := [.lit (.bool false)], args := [d] }
  | _ => none }
def FnNewBothWrongFalsely : Prop := fnNewBothRow.holds Try.pinned (OpenSpec.ofChange fnNewBothWrong)

/-- 'laws.FnSweptCell': WHATEVER THE INPUT: true; the input reads as it did. -/
def fnSweptCellSpec : ChangeSpec := { name := "fnSweptCell", fn := fun _ => fun
  | [d] => { results := [.lit (.bool true)], args := [d] }
  | _ => none }
def fnSweptCellRow : OpenClaim := { program := "ytpfkcjddilpbkaa", sum := "92a20773dbcb92fddee9164cb11d5d1940fe916b0c2571c72c31fa060fc9409c", func := "loop.example/cellcollector/laws.FnSweptCell", spec := "fnSweptCell", apart := false }
def FnSweptCellSaid : Prop := fnSweptCellRow.holds Try.pinned (OpenSpec.ofChange fnSweptCellSpec)

/-- ITS FALSE NEIGHBOUR: 'it returns false'. Refute it at one input. -/
def fnSweptCellWrong : ChangeSpec := { name := "fnSweptCell", fn := fun _ => fun
  | [d] => { results := [.lit (.bool false)], args := [d] }
  | _ => none }
def FnSweptCellWrongFalsely : Prop := fnSweptCellRow.holds Try.pinned (OpenSpec.ofChange fnSweptCellWrong)

/-- 'laws.FnExactBothValid': WHATEVER THE INPUT: true; the input reads as it did. -/
def fnExactBothValidSpec : ChangeSpec := { name := "fnExactBothValid", fn := fun _ => fun
  | [d] => { results := [.lit (.bool true)], args := [d] }
  | _ => none }
def fnExactBothValidRow : OpenClaim := { program := "ytpfkcjddilpbkaa", sum := "92a20773dbcb92fddee9164cb11d5d1940fe916b0c2571c72c31fa060fc9409c", func := "loop.example/cellcollector/laws.FnExactBothValid", spec := "fnExactBothValid", apart := false }
def FnExactBothValidSaid : Prop := fnExactBothValidRow.holds Try.pinned (OpenSpec.ofChange fnExactBothValidSpec)

/-- ITS FALSE NEIGHBOUR: 'it returns false'. Refute it at one input. -/
def fnExactBothValidWrong : ChangeSpec := { name := "fnExactBothValid", fn := fun _ => fun
  | [d] => { results := [.lit (.bool false)], args := [d] }
  | _ => none }
def FnExactBothValidWrongFalsely : Prop := fnExactBothValidRow.holds Try.pinned (OpenSpec.ofChange fnExactBothValidWrong)

/- THE SECOND FORM. 'bulk': how many values and letters a reading holds, each counted each time it is reached (what is shared counts as often as it is met; a slice's spare places count too). A statement '..UptoSaid' is the law's where the arguments, and the package variables that the reading takes, are together of bulk at most 1048576: NARROWER than '..Said'. Prove '..Said' where nothing that the law and all that it calls make is longer than what came in: it says more and counts as full. Else prove '..UptoSaid'. A law counts once. -/
mutual
def uptoBulk {H : Type} : DataW H → Nat
  | .lit (.string bytes) => bytes.length + 1
  | .lit _ => 1
  | .nil => 1
  | .ptr d => uptoBulk d + 1
  | .slice elems spare => uptoBulkAll elems + uptoBulkAll spare + 1
  | .agg parts => uptoBulkAll parts + 1
  | .iface _ d => uptoBulk d + 1
  | .map entries => uptoBulkEntries entries + 1
  | .held _ => 1
def uptoBulkAll {H : Type} : List (DataW H) → Nat
  | [] => 0
  | d :: r => uptoBulk d + uptoBulkAll r
def uptoBulkEntries {H : Type} : List (Lit × DataW H) → Nat
  | [] => 0
  | x :: r => uptoBulkEntry x + uptoBulkEntries r
def uptoBulkEntry {H : Type} : Lit × DataW H → Nat
  | (.string bytes, d) => bytes.length + uptoBulk d + 1
  | (_, d) => uptoBulk d + 1
 end
def uptoSmall : (H : Type) → List (DataW H) → Bool := fun _ ds => decide (uptoBulkAll ds ≤ 1048576)
def OpenSpec.upto (s : _root_.Go.ChangeSpec) : _root_.Go.OpenSpec := { _root_.Go.OpenSpec.ofChange s with cond := some uptoSmall }

/-- 'laws.FnExactBothSame', WHERE WHAT IT READS IS OF BULK AT MOST 1048576: true; the input reads as it did. -/
def fnExactBothSameUptoRow : OpenClaim := { program := "ytpfkcjddilpbkaa", sum := "92a20773dbcb92fddee9164cb11d5d1940fe916b0c2571c72c31fa060fc9409c", func := "loop.example/cellcollector/laws.FnExactBothSame", spec := "fnExactBothSame", apart := false, narrowed := true }
def FnExactBothSameUptoSaid : Prop := fnExactBothSameUptoRow.holds Try.pinned (OpenSpec.upto fnExactBothSameSpec)

/-- 'laws.FnGcSame', WHERE WHAT IT READS IS OF BULK AT MOST 1048576: true; the input reads as it did. -/
def fnGcSameUptoRow : OpenClaim := { program := "ytpfkcjddilpbkaa", sum := "92a20773dbcb92fddee9164cb11d5d1940fe916b0c2571c72c31fa060fc9409c", func := "loop.example/cellcollector/laws.FnGcSame", spec := "fnGcSame", apart := false, narrowed := true }
def FnGcSameUptoSaid : Prop := fnGcSameUptoRow.holds Try.pinned (OpenSpec.upto fnGcSameSpec)

/-- 'laws.FnNewBoth', WHERE WHAT IT READS IS OF BULK AT MOST 1048576: true; the input reads as it did. -/
def fnNewBothUptoRow : OpenClaim := { program := "ytpfkcjddilpbkaa", sum := "92a20773dbcb92fddee9164cb11d5d1940fe916b0c2571c72c31fa060fc9409c", func := "loop.example/cellcollector/laws.FnNewBoth", spec := "fnNewBoth", apart := false, narrowed := true }
def FnNewBothUptoSaid : Prop := fnNewBothUptoRow.holds Try.pinned (OpenSpec.upto fnNewBothSpec)

/-- 'laws.FnSweptCell', WHERE WHAT IT READS IS OF BULK AT MOST 1048576: true; the input reads as it did. -/
def fnSweptCellUptoRow : OpenClaim := { program := "ytpfkcjddilpbkaa", sum := "92a20773dbcb92fddee9164cb11d5d1940fe916b0c2571c72c31fa060fc9409c", func := "loop.example/cellcollector/laws.FnSweptCell", spec := "fnSweptCell", apart := false, narrowed := true }
def FnSweptCellUptoSaid : Prop := fnSweptCellUptoRow.holds Try.pinned (OpenSpec.upto fnSweptCellSpec)

/-- 'laws.FnExactBothValid', WHERE WHAT IT READS IS OF BULK AT MOST 1048576: true; the input reads as it did. -/
def fnExactBothValidUptoRow : OpenClaim := { program := "ytpfkcjddilpbkaa", sum := "92a20773dbcb92fddee9164cb11d5d1940fe916b0c2571c72c31fa060fc9409c", func := "loop.example/cellcollector/laws.FnExactBothValid", spec := "fnExactBothValid", apart := false, narrowed := true }
def FnExactBothValidUptoSaid : Prop := fnExactBothValidUptoRow.holds Try.pinned (OpenSpec.upto fnExactBothValidSpec)

end Rows
end Go.Proofs.Ytpfkcjddilpbkaa
