/-
  No cell of these rows narrows 'for every input' (looked for: loops, veiled, ifaces, maps, wideKeys, modest, calm, conditions, laid).
  DERIVED. THE GIVEN ROWS OF THIS SEAT. 12 by the template 'for every input the law returns true; each argument reads behind the call as it read before'; 0 by the template 'total and deterministic' (their statements: YtcdcikmphonkfaaTotals.lean).
  GIVEN WITH THE SEED: the statements are not yours to turn. If you find one false, say at which input.
  Laid BY PROGRAM, IN A SANDBOX (cutbox-rows.mjs): the forced cells as the released guide's own fill.sh prints them over the translation cfae3b6769a92297… (all of the seat's roots in one cut). By AI agents, Wed Nov 11 2026. No macro, syntax, notation, axiom, sorry.
-/
import Derived.Test.YtcdcikmphonkfaaChecked
import GoSem.Claim
import GoSem.ClaimJoined
import GoSem.ClaimMapViews
import Derived.JoinedTies
import Derived.KernelRfl
namespace Go.Proofs.Ytcdcikmphonkfaa
/- THE CELL 'sum', in the pinned program and in every row, IS THE sha256 OF THE DUMP (.gsa) THAT YtcdcikmphonkfaaProg.lean LOADS. Nothing in Lean hashes anything: it is a label: what it is worth is what the hold of that sum in a sandbox is worth. -/
noncomputable def Try.pinned : Pinned := { name := "ytcdcikmphonkfaa", sum := "cfae3b6769a922975b9e9468473b6dad301452bd53a8015831fed08b3b9a0490", checked := Try.checked }
namespace Rows
def none {H : Type} : Left H := { results := [], args := [] }

/-- 'laws.FnShadeCell': WHATEVER THE INPUT: true; the input reads as it did. -/
def fnShadeCellSpec : ChangeSpec := { name := "fnShadeCell", fn := fun _ => fun
  | [d] => { results := [.lit (.bool true)], args := [d] }
  | _ => none }
def fnShadeCellRow : OpenClaim := { program := "ytcdcikmphonkfaa", sum := "cfae3b6769a922975b9e9468473b6dad301452bd53a8015831fed08b3b9a0490", func := "loop.example/cellcollector/laws.FnShadeCell", spec := "fnShadeCell", apart := false }
def FnShadeCellSaid : Prop := fnShadeCellRow.holds Try.pinned (OpenSpec.ofChange fnShadeCellSpec)

/-- ITS FALSE NEIGHBOUR: 'it returns false'. Refute it at one input. -/
def fnShadeCellWrong : ChangeSpec := { name := "fnShadeCell", fn := fun _ => fun
  | [d] => { results := [.lit (.bool false)], args := [d] }
  | _ => none }
def FnShadeCellWrongFalsely : Prop := fnShadeCellRow.holds Try.pinned (OpenSpec.ofChange fnShadeCellWrong)

/-- 'laws.FnExactMarkStep': WHATEVER THE INPUT: true; the input reads as it did. -/
def fnExactMarkStepSpec : ChangeSpec := { name := "fnExactMarkStep", fn := fun _ => fun
  | [d] => { results := [.lit (.bool true)], args := [d] }
  | _ => none }
def fnExactMarkStepRow : OpenClaim := { program := "ytcdcikmphonkfaa", sum := "cfae3b6769a922975b9e9468473b6dad301452bd53a8015831fed08b3b9a0490", func := "loop.example/cellcollector/laws.FnExactMarkStep", spec := "fnExactMarkStep", apart := false }
def FnExactMarkStepSaid : Prop := fnExactMarkStepRow.holds Try.pinned (OpenSpec.ofChange fnExactMarkStepSpec)

/-- ITS FALSE NEIGHBOUR: 'it returns false'. Refute it at one input. -/
def fnExactMarkStepWrong : ChangeSpec := { name := "fnExactMarkStep", fn := fun _ => fun
  | [d] => { results := [.lit (.bool false)], args := [d] }
  | _ => none }
def FnExactMarkStepWrongFalsely : Prop := fnExactMarkStepRow.holds Try.pinned (OpenSpec.ofChange fnExactMarkStepWrong)

/-- 'laws.FnExactMarkAll': WHATEVER THE INPUT: true; the input reads as it did. -/
def fnExactMarkAllSpec : ChangeSpec := { name := "fnExactMarkAll", fn := fun _ => fun
  | [d] => { results := [.lit (.bool true)], args := [d] }
  | _ => none }
def fnExactMarkAllRow : OpenClaim := { program := "ytcdcikmphonkfaa", sum := "cfae3b6769a922975b9e9468473b6dad301452bd53a8015831fed08b3b9a0490", func := "loop.example/cellcollector/laws.FnExactMarkAll", spec := "fnExactMarkAll", apart := false }
def FnExactMarkAllSaid : Prop := fnExactMarkAllRow.holds Try.pinned (OpenSpec.ofChange fnExactMarkAllSpec)

/-- ITS FALSE NEIGHBOUR: 'it returns false'. Refute it at one input. -/
def fnExactMarkAllWrong : ChangeSpec := { name := "fnExactMarkAll", fn := fun _ => fun
  | [d] => { results := [.lit (.bool false)], args := [d] }
  | _ => none }
def FnExactMarkAllWrongFalsely : Prop := fnExactMarkAllRow.holds Try.pinned (OpenSpec.ofChange fnExactMarkAllWrong)

/-- 'laws.FnMarkStep': WHATEVER THE INPUT: true; the input reads as it did. -/
def fnMarkStepSpec : ChangeSpec := { name := "fnMarkStep", fn := fun _ => fun
  | [d] => { results := [.lit (.bool true)], args := [d] }
  | _ => none }
def fnMarkStepRow : OpenClaim := { program := "ytcdcikmphonkfaa", sum := "cfae3b6769a922975b9e9468473b6dad301452bd53a8015831fed08b3b9a0490", func := "loop.example/cellcollector/laws.FnMarkStep", spec := "fnMarkStep", unfollowed := true, recurses := true, apart := false }
def FnMarkStepSaid : Prop := fnMarkStepRow.holds Try.pinned (OpenSpec.ofChange fnMarkStepSpec)

/-- ITS FALSE NEIGHBOUR: 'it returns false'. Refute it at one input. -/
def fnMarkStepWrong : ChangeSpec := { name := "fnMarkStep", fn := fun _ => fun
  | [d] => { results := [.lit (.bool false)], args := [d] }
  | _ => none }
def FnMarkStepWrongFalsely : Prop := fnMarkStepRow.holds Try.pinned (OpenSpec.ofChange fnMarkStepWrong)

/-- 'laws.FnMarkCount': WHATEVER THE INPUT: true; the input reads as it did. -/
def fnMarkCountSpec : ChangeSpec := { name := "fnMarkCount", fn := fun _ => fun
  | [d] => { results := [.lit (.bool true)], args := [d] }
  | _ => none }
def fnMarkCountRow : OpenClaim := { program := "ytcdcikmphonkfaa", sum := "cfae3b6769a922975b9e9468473b6dad301452bd53a8015831fed08b3b9a0490", func := "loop.example/cellcollector/laws.FnMarkCount", spec := "fnMarkCount", apart := false }
def FnMarkCountSaid : Prop := fnMarkCountRow.holds Try.pinned (OpenSpec.ofChange fnMarkCountSpec)

/-- ITS FALSE NEIGHBOUR: 'it returns false'. Refute it at one input. -/
def fnMarkCountWrong : ChangeSpec := { name := "fnMarkCount", fn := fun _ => fun
  | [d] => { results := [.lit (.bool false)], args := [d] }
  | _ => none }
def FnMarkCountWrongFalsely : Prop := fnMarkCountRow.holds Try.pinned (OpenSpec.ofChange fnMarkCountWrong)

/-- 'laws.FnMarkAll': WHATEVER THE INPUT: true; the input reads as it did. -/
def fnMarkAllSpec : ChangeSpec := { name := "fnMarkAll", fn := fun _ => fun
  | [d] => { results := [.lit (.bool true)], args := [d] }
  | _ => none }
def fnMarkAllRow : OpenClaim := { program := "ytcdcikmphonkfaa", sum := "cfae3b6769a922975b9e9468473b6dad301452bd53a8015831fed08b3b9a0490", func := "loop.example/cellcollector/laws.FnMarkAll", spec := "fnMarkAll", unfollowed := true, recurses := true, apart := false }
def FnMarkAllSaid : Prop := fnMarkAllRow.holds Try.pinned (OpenSpec.ofChange fnMarkAllSpec)

/-- ITS FALSE NEIGHBOUR: 'it returns false'. Refute it at one input. -/
def fnMarkAllWrong : ChangeSpec := { name := "fnMarkAll", fn := fun _ => fun
  | [d] => { results := [.lit (.bool false)], args := [d] }
  | _ => none }
def FnMarkAllWrongFalsely : Prop := fnMarkAllRow.holds Try.pinned (OpenSpec.ofChange fnMarkAllWrong)

/-- 'laws.FnWhiteEnd': WHATEVER THE INPUT: true; the input reads as it did. -/
def fnWhiteEndSpec : ChangeSpec := { name := "fnWhiteEnd", fn := fun _ => fun
  | [d] => { results := [.lit (.bool true)], args := [d] }
  | _ => none }
def fnWhiteEndRow : OpenClaim := { program := "ytcdcikmphonkfaa", sum := "cfae3b6769a922975b9e9468473b6dad301452bd53a8015831fed08b3b9a0490", func := "loop.example/cellcollector/laws.FnWhiteEnd", spec := "fnWhiteEnd", unfollowed := true, recurses := true, apart := false }
def FnWhiteEndSaid : Prop := fnWhiteEndRow.holds Try.pinned (OpenSpec.ofChange fnWhiteEndSpec)

/-- ITS FALSE NEIGHBOUR: 'it returns false'. Refute it at one input. -/
def fnWhiteEndWrong : ChangeSpec := { name := "fnWhiteEnd", fn := fun _ => fun
  | [d] => { results := [.lit (.bool false)], args := [d] }
  | _ => none }
def FnWhiteEndWrongFalsely : Prop := fnWhiteEndRow.holds Try.pinned (OpenSpec.ofChange fnWhiteEndWrong)

/-- 'laws.FnExactColorNew': WHATEVER THE INPUT: true; the input reads as it did. -/
def fnExactColorNewSpec : ChangeSpec := { name := "fnExactColorNew", fn := fun _ => fun
  | [d1, d2, d3] => { results := [.lit (.bool true)], args := [d1, d2, d3] }
  | _ => none }
def fnExactColorNewRow : OpenClaim := { program := "ytcdcikmphonkfaa", sum := "cfae3b6769a922975b9e9468473b6dad301452bd53a8015831fed08b3b9a0490", func := "loop.example/cellcollector/laws.FnExactColorNew", spec := "fnExactColorNew", apart := false }
def FnExactColorNewSaid : Prop := fnExactColorNewRow.holds Try.pinned (OpenSpec.ofChange fnExactColorNewSpec)

/-- ITS FALSE NEIGHBOUR: 'it returns false'. Refute it at one input. -/
def fnExactColorNewWrong : ChangeSpec := { name := "fnExactColorNew", fn := fun _ => fun
  | [d1, d2, d3] => { results := [.lit (.bool false)], args := [d1, d2, d3] }
  | _ => none }
def FnExactColorNewWrongFalsely : Prop := fnExactColorNewRow.holds Try.pinned (OpenSpec.ofChange fnExactColorNewWrong)

/-- 'laws.FnExactShadeGc': WHATEVER THE INPUT: true; the input reads as it did. -/
def fnExactShadeGcSpec : ChangeSpec := { name := "fnExactShadeGc", fn := fun _ => fun
  | [d1, d2, d3] => { results := [.lit (.bool true)], args := [d1, d2, d3] }
  | _ => none }
def fnExactShadeGcRow : OpenClaim := { program := "ytcdcikmphonkfaa", sum := "cfae3b6769a922975b9e9468473b6dad301452bd53a8015831fed08b3b9a0490", func := "loop.example/cellcollector/laws.FnExactShadeGc", spec := "fnExactShadeGc", apart := false }
def FnExactShadeGcSaid : Prop := fnExactShadeGcRow.holds Try.pinned (OpenSpec.ofChange fnExactShadeGcSpec)

/-- ITS FALSE NEIGHBOUR: 'it returns false'. Refute it at one input. -/
def fnExactShadeGcWrong : ChangeSpec := { name := "fnExactShadeGc", fn := fun _ => fun
  | [d1, d2, d3] => { results := [.lit (.bool false)], args := [d1, d2, d3] }
  | _ => none }
def FnExactShadeGcWrongFalsely : Prop := fnExactShadeGcRow.holds Try.pinned (OpenSpec.ofChange fnExactShadeGcWrong)

/-- 'laws.FnExactNewGc': WHATEVER THE INPUT: true; the input reads as it did. -/
def fnExactNewGcSpec : ChangeSpec := { name := "fnExactNewGc", fn := fun _ => fun
  | [d] => { results := [.lit (.bool true)], args := [d] }
  | _ => none }
def fnExactNewGcRow : OpenClaim := { program := "ytcdcikmphonkfaa", sum := "cfae3b6769a922975b9e9468473b6dad301452bd53a8015831fed08b3b9a0490", func := "loop.example/cellcollector/laws.FnExactNewGc", spec := "fnExactNewGc", apart := false }
def FnExactNewGcSaid : Prop := fnExactNewGcRow.holds Try.pinned (OpenSpec.ofChange fnExactNewGcSpec)

/-- ITS FALSE NEIGHBOUR: 'it returns false'. Refute it at one input. -/
def fnExactNewGcWrong : ChangeSpec := { name := "fnExactNewGc", fn := fun _ => fun
  | [d] => { results := [.lit (.bool false)], args := [d] }
  | _ => none }
def FnExactNewGcWrongFalsely : Prop := fnExactNewGcRow.holds Try.pinned (OpenSpec.ofChange fnExactNewGcWrong)

/-- 'laws.FnExactGcValid': WHATEVER THE INPUT: true; the input reads as it did. -/
def fnExactGcValidSpec : ChangeSpec := { name := "fnExactGcValid", fn := fun _ => fun
  | [d1, d2] => { results := [.lit (.bool true)], args := [d1, d2] }
  | _ => none }
def fnExactGcValidRow : OpenClaim := { program := "ytcdcikmphonkfaa", sum := "cfae3b6769a922975b9e9468473b6dad301452bd53a8015831fed08b3b9a0490", func := "loop.example/cellcollector/laws.FnExactGcValid", spec := "fnExactGcValid", apart := false }
def FnExactGcValidSaid : Prop := fnExactGcValidRow.holds Try.pinned (OpenSpec.ofChange fnExactGcValidSpec)

/-- ITS FALSE NEIGHBOUR: 'it returns false'. Refute it at one input. -/
def fnExactGcValidWrong : ChangeSpec := { name := "fnExactGcValid", fn := fun _ => fun
  | [d1, d2] => { results := [.lit (.bool false)], args := [d1, d2] }
  | _ => none }
def FnExactGcValidWrongFalsely : Prop := fnExactGcValidRow.holds Try.pinned (OpenSpec.ofChange fnExactGcValidWrong)

/-- 'laws.FnExactSweptCell': WHATEVER THE INPUT: true; the input reads as it did. -/
def fnExactSweptCellSpec : ChangeSpec := { name := "fnExactSweptCell", fn := fun _ => fun
  | [d1, d2] => { results := [.lit (.bool true)], args := [d1, d2] }
  | _ => none }
def fnExactSweptCellRow : OpenClaim := { program := "ytcdcikmphonkfaa", sum := "cfae3b6769a922975b9e9468473b6dad301452bd53a8015831fed08b3b9a0490", func := "loop.example/cellcollector/laws.FnExactSweptCell", spec := "fnExactSweptCell", apart := false }
def FnExactSweptCellSaid : Prop := fnExactSweptCellRow.holds Try.pinned (OpenSpec.ofChange fnExactSweptCellSpec)

/-- ITS FALSE NEIGHBOUR: 'it returns false'. Refute it at one input. -/
def fnExactSweptCellWrong : ChangeSpec := { name := "fnExactSweptCell", fn := fun _ => fun
  | [d1, d2] => { results := [.lit (.bool false)], args := [d1, d2] }
  | _ => none }
def FnExactSweptCellWrongFalsely : Prop := fnExactSweptCellRow.holds Try.pinned (OpenSpec.ofChange fnExactSweptCellWrong)

/- THE SECOND FORM. 'bulk': how many values and letters a reading holds, each counted each time it is reached (what is shared counts as often as it is met; a slice's spare places count too). A statement '..UptoSaid' is the law's where the arguments, and the package variables that the reading takes, are together of bulk at most 1048576: NARROWER than '..Said'. Prove '..Said' where nothing that the law and all that it calls make is longer than what came in: it says more and counts as full. Else prove '..UptoSaid'. A law counts once. -/
mutual
def uptoBulk {H : Type} : DataW H → Nat
  | .lit (.string bytes) => bytes.length + 1
  | .lit _ => 1
  | .nil => 1
  | .ptr d => uptoBulk d + 1
  | .slice elems spare => uptoBulkAll elems + uptoBulkAll spare + 1
  | .agg parts => uptoBulkAll parts + 1
  | .iface _ d => uptoBulk d + 1
  | .map entries => uptoBulkEntries entries + 1
  | .held _ => 1
def uptoBulkAll {H : Type} : List (DataW H) → Nat
  | [] => 0
  | d :: r => uptoBulk d + uptoBulkAll r
def uptoBulkEntries {H : Type} : List (Lit × DataW H) → Nat
  | [] => 0
  | x :: r => uptoBulkEntry x + uptoBulkEntries r
def uptoBulkEntry {H : Type} : Lit × DataW H → Nat
  | (.string bytes, d) => bytes.length + uptoBulk d + 1
  | (_, d) => uptoBulk d + 1
 end
def uptoSmall : (H : Type) → List (DataW H) → Bool := fun _ ds => decide (uptoBulkAll ds ≤ 1048576)
def OpenSpec.upto (s : _root_.Go.ChangeSpec) : _root_.Go.OpenSpec := { _root_.Go.OpenSpec.ofChange s with cond := some uptoSmall }

/-- 'laws.FnShadeCell', WHERE WHAT IT READS IS OF BULK AT MOST 1048576: true; the input reads as it did. -/
def fnShadeCellUptoRow : OpenClaim := { program := "ytcdcikmphonkfaa", sum := "cfae3b6769a922975b9e9468473b6dad301452bd53a8015831fed08b3b9a0490", func := "loop.example/cellcollector/laws.FnShadeCell", spec := "fnShadeCell", apart := false, narrowed := true }
def FnShadeCellUptoSaid : Prop := fnShadeCellUptoRow.holds Try.pinned (OpenSpec.upto fnShadeCellSpec)

/-- 'laws.FnExactMarkStep', WHERE WHAT IT READS IS OF BULK AT MOST 1048576: true; the input reads as it did. -/
def fnExactMarkStepUptoRow : OpenClaim := { program := "ytcdcikmphonkfaa", sum := "cfae3b6769a922975b9e9468473b6dad301452bd53a8015831fed08b3b9a0490", func := "loop.example/cellcollector/laws.FnExactMarkStep", spec := "fnExactMarkStep", apart := false, narrowed := true }
def FnExactMarkStepUptoSaid : Prop := fnExactMarkStepUptoRow.holds Try.pinned (OpenSpec.upto fnExactMarkStepSpec)

/-- 'laws.FnExactMarkAll', WHERE WHAT IT READS IS OF BULK AT MOST 1048576: true; the input reads as it did. -/
def fnExactMarkAllUptoRow : OpenClaim := { program := "ytcdcikmphonkfaa", sum := "cfae3b6769a922975b9e9468473b6dad301452bd53a8015831fed08b3b9a0490", func := "loop.example/cellcollector/laws.FnExactMarkAll", spec := "fnExactMarkAll", apart := false, narrowed := true }
def FnExactMarkAllUptoSaid : Prop := fnExactMarkAllUptoRow.holds Try.pinned (OpenSpec.upto fnExactMarkAllSpec)

/-- 'laws.FnMarkStep', WHERE WHAT IT READS IS OF BULK AT MOST 1048576: true; the input reads as it did. -/
def fnMarkStepUptoRow : OpenClaim := { program := "ytcdcikmphonkfaa", sum := "cfae3b6769a922975b9e9468473b6dad301452bd53a8015831fed08b3b9a0490", func := "loop.example/cellcollector/laws.FnMarkStep", spec := "fnMarkStep", unfollowed := true, recurses := true, apart := false, narrowed := true }
def FnMarkStepUptoSaid : Prop := fnMarkStepUptoRow.holds Try.pinned (OpenSpec.upto fnMarkStepSpec)

/-- 'laws.FnMarkCount', WHERE WHAT IT READS IS OF BULK AT MOST 1048576: true; the input reads as it did. -/
def fnMarkCountUptoRow : OpenClaim := { program := "ytcdcikmphonkfaa", sum := "cfae3b6769a922975b9e9468473b6dad301452bd53a8015831fed08b3b9a0490", func := "loop.example/cellcollector/laws.FnMarkCount", spec := "fnMarkCount", apart := false, narrowed := true }
def FnMarkCountUptoSaid : Prop := fnMarkCountUptoRow.holds Try.pinned (OpenSpec.upto fnMarkCountSpec)

/-- 'laws.FnMarkAll', WHERE WHAT IT READS IS OF BULK AT MOST 1048576: true; the input reads as it did. -/
def fnMarkAllUptoRow : OpenClaim := { program := "ytcdcikmphonkfaa", sum := "cfae3b6769a922975b9e9468473b6dad301452bd53a8015831fed08b3b9a0490", func := "loop.example/cellcollector/laws.FnMarkAll", spec := "fnMarkAll", unfollowed := true, recurses := true, apart := false, narrowed := true }
def FnMarkAllUptoSaid : Prop := fnMarkAllUptoRow.holds Try.pinned (OpenSpec.upto fnMarkAllSpec)

/-- 'laws.FnWhiteEnd', WHERE WHAT IT READS IS OF BULK AT MOST 1048576: true; the input reads as it did. -/
def fnWhiteEndUptoRow : OpenClaim := { program := "ytcdcikmphonkfaa", sum := "cfae3b6769a922975b9e9468473b6dad301452bd53a8015831fed08b3b9a0490", func := "loop.example/cellcollector/laws.FnWhiteEnd", spec := "fnWhiteEnd", unfollowed := true, recurses := true, apart := false, narrowed := true }
def FnWhiteEndUptoSaid : Prop := fnWhiteEndUptoRow.holds Try.pinned (OpenSpec.upto fnWhiteEndSpec)

/-- 'laws.FnExactColorNew', WHERE WHAT IT READS IS OF BULK AT MOST 1048576: true; the input reads as it did. -/
def fnExactColorNewUptoRow : OpenClaim := { program := "ytcdcikmphonkfaa", sum := "cfae3b6769a922975b9e9468473b6dad301452bd53a8015831fed08b3b9a0490", func := "loop.example/cellcollector/laws.FnExactColorNew", spec := "fnExactColorNew", apart := false, narrowed := true }
def FnExactColorNewUptoSaid : Prop := fnExactColorNewUptoRow.holds Try.pinned (OpenSpec.upto fnExactColorNewSpec)

/-- 'laws.FnExactShadeGc', WHERE WHAT IT READS IS OF BULK AT MOST 1048576: true; the input reads as it did. -/
def fnExactShadeGcUptoRow : OpenClaim := { program := "ytcdcikmphonkfaa", sum := "cfae3b6769a922975b9e9468473b6dad301452bd53a8015831fed08b3b9a0490", func := "loop.example/cellcollector/laws.FnExactShadeGc", spec := "fnExactShadeGc", apart := false, narrowed := true }
def FnExactShadeGcUptoSaid : Prop := fnExactShadeGcUptoRow.holds Try.pinned (OpenSpec.upto fnExactShadeGcSpec)

/-- 'laws.FnExactNewGc', WHERE WHAT IT READS IS OF BULK AT MOST 1048576: true; the input reads as it did. -/
def fnExactNewGcUptoRow : OpenClaim := { program := "ytcdcikmphonkfaa", sum := "cfae3b6769a922975b9e9468473b6dad301452bd53a8015831fed08b3b9a0490", func := "loop.example/cellcollector/laws.FnExactNewGc", spec := "fnExactNewGc", apart := false, narrowed := true }
def FnExactNewGcUptoSaid : Prop := fnExactNewGcUptoRow.holds Try.pinned (OpenSpec.upto fnExactNewGcSpec)

/-- 'laws.FnExactGcValid', WHERE WHAT IT READS IS OF BULK AT MOST 1048576: true; the input reads as it did. -/
def fnExactGcValidUptoRow : OpenClaim := { program := "ytcdcikmphonkfaa", sum := "cfae3b6769a922975b9e9468473b6dad301452bd53a8015831fed08b3b9a0490", func := "loop.example/cellcollector/laws.FnExactGcValid", spec := "fnExactGcValid", apart := false, narrowed := true }
def FnExactGcValidUptoSaid : Prop := fnExactGcValidUptoRow.holds Try.pinned (OpenSpec.upto fnExactGcValidSpec)

/-- 'laws.FnExactSweptCell', WHERE WHAT IT READS IS OF BULK AT MOST 1048576: true; the input reads as it did. -/
def fnExactSweptCellUptoRow : OpenClaim := { program := "ytcdcikmphonkfaa", sum := "cfae3b6769a922975b9e9468473b6dad301452bd53a8015831fed08b3b9a0490", func := "loop.example/cellcollector/laws.FnExactSweptCell", spec := "fnExactSweptCell", apart := false, narrowed := true }
def FnExactSweptCellUptoSaid : Prop := fnExactSweptCellUptoRow.holds Try.pinned (OpenSpec.upto fnExactSweptCellSpec)

end Rows
end Go.Proofs.Ytcdcikmphonkfaa
