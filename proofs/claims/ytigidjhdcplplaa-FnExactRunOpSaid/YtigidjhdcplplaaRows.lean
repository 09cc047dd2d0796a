/-
  No cell of these rows narrows 'for every input' (looked for: loops, veiled, ifaces, maps, wideKeys, modest, calm, conditions, laid).
  DERIVED. THE GIVEN ROWS OF THIS SEAT. 12 by the template 'for every input the law returns true; each argument reads behind the call as it read before'; 0 by the template 'total and deterministic' (their statements: YtigidjhdcplplaaTotals.lean).
  GIVEN WITH THE SEED: the statements are not yours to turn. If you find one false, say at which input.
  Laid BY PROGRAM, IN A SANDBOX (cutbox-rows.mjs): the forced cells as the released guide's own fill.sh prints them over the translation 498265a27e5020ac… (all of the seat's roots in one cut). By AI agents, Wed Nov 11 2026. No macro, syntax, notation, axiom, sorry.
-/
import Derived.Test.YtigidjhdcplplaaChecked
import GoSem.Claim
import GoSem.ClaimJoined
import GoSem.ClaimMapViews
import Derived.JoinedTies
import Derived.KernelRfl
namespace Go.Proofs.Ytigidjhdcplplaa
/- THE CELL 'sum', in the pinned program and in every row, IS THE sha256 OF THE DUMP (.gsa) THAT YtigidjhdcplplaaProg.lean LOADS. Nothing in Lean hashes anything: it is a label: what it is worth is what the hold of that sum in a sandbox is worth. -/
noncomputable def Try.pinned : Pinned := { name := "ytigidjhdcplplaa", sum := "498265a27e5020acf3504fb2917cadf1f49713fa80e27201676b8177d81aacc7", checked := Try.checked }
namespace Rows
def none {H : Type} : Left H := { results := [], args := [] }

/-- 'laws.FnNewStore': WHATEVER THE INPUT: true; the input reads as it did. -/
def fnNewStoreSpec : ChangeSpec := { name := "fnNewStore", fn := fun _ => fun
  | [d] => { results := [.lit (.bool true)], args := [d] }
  | _ => none }
def fnNewStoreRow : OpenClaim := { program := "ytigidjhdcplplaa", sum := "498265a27e5020acf3504fb2917cadf1f49713fa80e27201676b8177d81aacc7", func := "loop.example/cellcollector/laws.FnNewStore", spec := "fnNewStore", unfollowed := true, recurses := true, apart := false }
def FnNewStoreSaid : Prop := fnNewStoreRow.holds Try.pinned (OpenSpec.ofChange fnNewStoreSpec)

/-- ITS FALSE NEIGHBOUR: 'it returns false'. Refute it at one input. -/
def fnNewStoreWrong : ChangeSpec := { name := "fnNewStore", fn := fun _ => fun
  | [d] => { results := [.lit (.bool false)], args := [d] }
  | _ => none }
def FnNewStoreWrongFalsely : Prop := fnNewStoreRow.holds Try.pinned (OpenSpec.ofChange fnNewStoreWrong)

/-- 'laws.FnStoreValid': WHATEVER THE INPUT: true; the input reads as it did. -/
def fnStoreValidSpec : ChangeSpec := { name := "fnStoreValid", fn := fun _ => fun
  | [d] => { results := [.lit (.bool true)], args := [d] }
  | _ => none }
def fnStoreValidRow : OpenClaim := { program := "ytigidjhdcplplaa", sum := "498265a27e5020acf3504fb2917cadf1f49713fa80e27201676b8177d81aacc7", func := "loop.example/cellcollector/laws.FnStoreValid", spec := "fnStoreValid", unfollowed := true, recurses := true, apart := false }
def FnStoreValidSaid : Prop := fnStoreValidRow.holds Try.pinned (OpenSpec.ofChange fnStoreValidSpec)

/-- ITS FALSE NEIGHBOUR: 'it returns false'. Refute it at one input. -/
def fnStoreValidWrong : ChangeSpec := { name := "fnStoreValid", fn := fun _ => fun
  | [d] => { results := [.lit (.bool false)], args := [d] }
  | _ => none }
def FnStoreValidWrongFalsely : Prop := fnStoreValidRow.holds Try.pinned (OpenSpec.ofChange fnStoreValidWrong)

/-- 'laws.FnExactAllocCell': WHATEVER THE INPUT: true; the input reads as it did. -/
def fnExactAllocCellSpec : ChangeSpec := { name := "fnExactAllocCell", fn := fun _ => fun
  | [d1, d2] => { results := [.lit (.bool true)], args := [d1, d2] }
  | _ => none }
def fnExactAllocCellRow : OpenClaim := { program := "ytigidjhdcplplaa", sum := "498265a27e5020acf3504fb2917cadf1f49713fa80e27201676b8177d81aacc7", func := "loop.example/cellcollector/laws.FnExactAllocCell", spec := "fnExactAllocCell", apart := false }
def FnExactAllocCellSaid : Prop := fnExactAllocCellRow.holds Try.pinned (OpenSpec.ofChange fnExactAllocCellSpec)

/-- ITS FALSE NEIGHBOUR: 'it returns false'. Refute it at one input. -/
def fnExactAllocCellWrong : ChangeSpec := { name := "fnExactAllocCell", fn := fun _ => fun
  | [d1, d2] => { results := [.lit (.bool false)], args := [d1, d2] }
  | _ => none }
def FnExactAllocCellWrongFalsely : Prop := fnExactAllocCellRow.holds Try.pinned (OpenSpec.ofChange fnExactAllocCellWrong)

/-- 'laws.FnExactLeakedOf': WHATEVER THE INPUT: true; the input reads as it did. -/
def fnExactLeakedOfSpec : ChangeSpec := { name := "fnExactLeakedOf", fn := fun _ => fun
  | [d] => { results := [.lit (.bool true)], args := [d] }
  | _ => none }
def fnExactLeakedOfRow : OpenClaim := { program := "ytigidjhdcplplaa", sum := "498265a27e5020acf3504fb2917cadf1f49713fa80e27201676b8177d81aacc7", func := "loop.example/cellcollector/laws.FnExactLeakedOf", spec := "fnExactLeakedOf", unfollowed := true, recurses := true, apart := false }
def FnExactLeakedOfSaid : Prop := fnExactLeakedOfRow.holds Try.pinned (OpenSpec.ofChange fnExactLeakedOfSpec)

/-- ITS FALSE NEIGHBOUR: 'it returns false'. Refute it at one input. -/
def fnExactLeakedOfWrong : ChangeSpec := { name := "fnExactLeakedOf", fn := fun _ => fun
  | [d] => { results := [.lit (.bool false)], args := [d] }
  | _ => none }
def FnExactLeakedOfWrongFalsely : Prop := fnExactLeakedOfRow.holds Try.pinned (OpenSpec.ofChange fnExactLeakedOfWrong)

/-- 'laws.FnIsFree': WHATEVER THE INPUT: true; the input reads as it did. -/
def fnIsFreeSpec : ChangeSpec := { name := "fnIsFree", fn := fun _ => fun
  | [d] => { results := [.lit (.bool true)], args := [d] }
  | _ => none }
def fnIsFreeRow : OpenClaim := { program := "ytigidjhdcplplaa", sum := "498265a27e5020acf3504fb2917cadf1f49713fa80e27201676b8177d81aacc7", func := "loop.example/cellcollector/laws.FnIsFree", spec := "fnIsFree", unfollowed := true, recurses := true, apart := false }
def FnIsFreeSaid : Prop := fnIsFreeRow.holds Try.pinned (OpenSpec.ofChange fnIsFreeSpec)

/-- ITS FALSE NEIGHBOUR: 'it returns false'. Refute it at one input. -/
def fnIsFreeWrong : ChangeSpec := { name := "fnIsFree", fn := fun _ => fun
  | [d] => { results := [.lit (.bool false)], args := [d] }
  | _ => none }
def FnIsFreeWrongFalsely : Prop := fnIsFreeRow.holds Try.pinned (OpenSpec.ofChange fnIsFreeWrong)

/-- 'laws.FnAllocOrder': WHATEVER THE INPUT: true; the input reads as it did. -/
def fnAllocOrderSpec : ChangeSpec := { name := "fnAllocOrder", fn := fun _ => fun
  | [d] => { results := [.lit (.bool true)], args := [d] }
  | _ => none }
def fnAllocOrderRow : OpenClaim := { program := "ytigidjhdcplplaa", sum := "498265a27e5020acf3504fb2917cadf1f49713fa80e27201676b8177d81aacc7", func := "loop.example/cellcollector/laws.FnAllocOrder", spec := "fnAllocOrder", apart := false }
def FnAllocOrderSaid : Prop := fnAllocOrderRow.holds Try.pinned (OpenSpec.ofChange fnAllocOrderSpec)

/-- ITS FALSE NEIGHBOUR: 'it returns false'. Refute it at one input. -/
def fnAllocOrderWrong : ChangeSpec := { name := "fnAllocOrder", fn := fun _ => fun
  | [d] => { results := [.lit (.bool false)], args := [d] }
  | _ => none }
def FnAllocOrderWrongFalsely : Prop := fnAllocOrderRow.holds Try.pinned (OpenSpec.ofChange fnAllocOrderWrong)

/-- 'laws.FnLeakedOf': WHATEVER THE INPUT: true; the input reads as it did. -/
def fnLeakedOfSpec : ChangeSpec := { name := "fnLeakedOf", fn := fun _ => fun
  | [d] => { results := [.lit (.bool true)], args := [d] }
  | _ => none }
def fnLeakedOfRow : OpenClaim := { program := "ytigidjhdcplplaa", sum := "498265a27e5020acf3504fb2917cadf1f49713fa80e27201676b8177d81aacc7", func := "loop.example/cellcollector/laws.FnLeakedOf", spec := "fnLeakedOf", unfollowed := true, recurses := true, apart := false }
def FnLeakedOfSaid : Prop := fnLeakedOfRow.holds Try.pinned (OpenSpec.ofChange fnLeakedOfSpec)

/-- ITS FALSE NEIGHBOUR: 'it returns false'. Refute it at one input. -/
def fnLeakedOfWrong : ChangeSpec := { name := "fnLeakedOf", fn := fun _ => fun
  | [d] => { results := [.lit (.bool false)], args := [d] }
  | _ => none }
def FnLeakedOfWrongFalsely : Prop := fnLeakedOfRow.holds Try.pinned (OpenSpec.ofChange fnLeakedOfWrong)

/-- 'laws.FnAllocCell': WHATEVER THE INPUT: true; the input reads as it did. -/
def fnAllocCellSpec : ChangeSpec := { name := "fnAllocCell", fn := fun _ => fun
  | [d] => { results := [.lit (.bool true)], args := [d] }
  | _ => none }
def fnAllocCellRow : OpenClaim := { program := "ytigidjhdcplplaa", sum := "498265a27e5020acf3504fb2917cadf1f49713fa80e27201676b8177d81aacc7", func := "loop.example/cellcollector/laws.FnAllocCell", spec := "fnAllocCell", unfollowed := true, recurses := true, apart := false }
def FnAllocCellSaid : Prop := fnAllocCellRow.holds Try.pinned (OpenSpec.ofChange fnAllocCellSpec)

/-- ITS FALSE NEIGHBOUR: 'it returns false'. Refute it at one input. -/
def fnAllocCellWrong : ChangeSpec := { name := "fnAllocCell", fn := fun _ => fun
  | [d] => { results := [.lit (.bool false)], args := [d] }
  | _ => none }
def FnAllocCellWrongFalsely : Prop := fnAllocCellRow.holds Try.pinned (OpenSpec.ofChange fnAllocCellWrong)

/-- 'laws.FnTargetOf': WHATEVER THE INPUT: true; the input reads as it did. -/
def fnTargetOfSpec : ChangeSpec := { name := "fnTargetOf", fn := fun _ => fun
  | [d] => { results := [.lit (.bool true)], args := [d] }
  | _ => none }
def fnTargetOfRow : OpenClaim := { program := "ytigidjhdcplplaa", sum := "498265a27e5020acf3504fb2917cadf1f49713fa80e27201676b8177d81aacc7", func := "loop.example/cellcollector/laws.FnTargetOf", spec := "fnTargetOf", unfollowed := true, recurses := true, apart := false }
def FnTargetOfSaid : Prop := fnTargetOfRow.holds Try.pinned (OpenSpec.ofChange fnTargetOfSpec)

/-- ITS FALSE NEIGHBOUR: 'it returns false'. Refute it at one input. -/
def fnTargetOfWrong : ChangeSpec := { name := "fnTargetOf", fn := fun _ => fun
  | [d] => { results := [.lit (.bool false)], args := [d] }
  | _ => none }
def FnTargetOfWrongFalsely : Prop := fnTargetOfRow.holds Try.pinned (OpenSpec.ofChange fnTargetOfWrong)

/-- 'laws.FnExactTargetOf': WHATEVER THE INPUT: true; the input reads as it did. -/
def fnExactTargetOfSpec : ChangeSpec := { name := "fnExactTargetOf", fn := fun _ => fun
  | [d1, d2] => { results := [.lit (.bool true)], args := [d1, d2] }
  | _ => none }
def fnExactTargetOfRow : OpenClaim := { program := "ytigidjhdcplplaa", sum := "498265a27e5020acf3504fb2917cadf1f49713fa80e27201676b8177d81aacc7", func := "loop.example/cellcollector/laws.FnExactTargetOf", spec := "fnExactTargetOf", apart := false }
def FnExactTargetOfSaid : Prop := fnExactTargetOfRow.holds Try.pinned (OpenSpec.ofChange fnExactTargetOfSpec)

/-- ITS FALSE NEIGHBOUR: 'it returns false'. Refute it at one input. -/
def fnExactTargetOfWrong : ChangeSpec := { name := "fnExactTargetOf", fn := fun _ => fun
  | [d1, d2] => { results := [.lit (.bool false)], args := [d1, d2] }
  | _ => none }
def FnExactTargetOfWrongFalsely : Prop := fnExactTargetOfRow.holds Try.pinned (OpenSpec.ofChange fnExactTargetOfWrong)

/-- 'laws.FnRunOp': WHATEVER THE INPUT: true; the input reads as it did. -/
def fnRunOpSpec : ChangeSpec := { name := "fnRunOp", fn := fun _ => fun
  | [d] => { results := [.lit (.bool true)], args := [d] }
  | _ => none }
def fnRunOpRow : OpenClaim := { program := "ytigidjhdcplplaa", sum := "498265a27e5020acf3504fb2917cadf1f49713fa80e27201676b8177d81aacc7", func := "loop.example/cellcollector/laws.FnRunOp", spec := "fnRunOp", apart := false }
def FnRunOpSaid : Prop := fnRunOpRow.holds Try.pinned (OpenSpec.ofChange fnRunOpSpec)

/-- ITS FALSE NEIGHBOUR: 'it returns false'. Refute it at one input. -/
def fnRunOpWrong : ChangeSpec := { name := "fnRunOp", fn := fun _ => fun
  | [d] => { results := [.lit (.bool false)], args := [d] }
  | _ => none }
def FnRunOpWrongFalsely : Prop := fnRunOpRow.holds Try.pinned (OpenSpec.ofChange fnRunOpWrong)

/-- 'laws.FnExactRunOp': WHATEVER THE INPUT: true; the input reads as it did. -/
def fnExactRunOpSpec : ChangeSpec := { name := "fnExactRunOp", fn := fun _ => fun
  | [d1, d2] => { results := [.lit (.bool true)], args := [d1, d2] }
  | _ => none }
def fnExactRunOpRow : OpenClaim := { program := "ytigidjhdcplplaa", sum := "498265a27e5020acf3504fb2917cadf1f49713fa80e27201676b8177d81aacc7", func := "loop.example/cellcollector/laws.FnExactRunOp", spec := "fnExactRunOp", apart := false }
def FnExactRunOpSaid : Prop := fnExactRunOpRow.holds Try.pinned (OpenSpec.ofChange fnExactRunOpSpec)

/-- ITS FALSE NEIGHBOUR: 'it returns false'. Refute it at one input. -/
def fnExactRunOpWrong : ChangeSpec := { name := "fnExactRunOp", fn := fun _ => fun
  | [d1, d2] => { results := [.lit (.bool false)], args := [d1, d2] }
  | _ => none }
def FnExactRunOpWrongFalsely : Prop := fnExactRunOpRow.holds Try.pinned (OpenSpec.ofChange fnExactRunOpWrong)

/- THE SECOND FORM. 'bulk': how many values and letters a reading holds, each counted each time it is reached (what is shared counts as often as it is met; a slice's spare places count too). A statement '..UptoSaid' is the law's where the arguments, and the package variables that the reading takes, are together of bulk at most 1048576: NARROWER than '..Said'. Prove '..Said' where nothing that the law and all that it calls make is longer than what came in: it says more and counts as full. Else prove '..UptoSaid'. A law counts once. -/
mutual
def uptoBulk {H : Type} : DataW H → Nat
  | .lit (.string bytes) => bytes.length + 1
  | .lit _ => 1
  | .nil => 1
  | .ptr d => uptoBulk d + 1
  | .slice elems spare => uptoBulkAll elems + uptoBulkAll spare + 1
  | .agg parts => uptoBulkAll parts + 1
  | .iface _ d => uptoBulk d + 1
  | .map entries => uptoBulkEntries entries + 1
  | .held _ => 1
def uptoBulkAll {H : Type} : List (DataW H) → Nat
  | [] => 0
  | d :: r => uptoBulk d + uptoBulkAll r
def uptoBulkEntries {H : Type} : List (Lit × DataW H) → Nat
  | [] => 0
  | x :: r => uptoBulkEntry x + uptoBulkEntries r
def uptoBulkEntry {H : Type} : Lit × DataW H → Nat
  | (.string bytes, d) => bytes.length + uptoBulk d + 1
  | (_, d) => uptoBulk d + 1
 end
def uptoSmall : (H : Type) → List (DataW H) → Bool := fun _ ds => decide (uptoBulkAll ds ≤ 1048576)
def OpenSpec.upto (s : _root_.Go.ChangeSpec) : _root_.Go.OpenSpec := { _root_.Go.OpenSpec.ofChange s with cond := some uptoSmall }

/-- 'laws.FnNewStore', WHERE WHAT IT READS IS OF BULK AT MOST 1048576: true; the input reads as it did. -/
def fnNewStoreUptoRow : OpenClaim := { program := "ytigidjhdcplplaa", sum := "498265a27e5020acf3504fb2917cadf1f49713fa80e27201676b8177d81aacc7", func := "loop.example/cellcollector/laws.FnNewStore", spec := "fnNewStore", unfollowed := true, recurses := true, apart := false, narrowed := true }
def FnNewStoreUptoSaid : Prop := fnNewStoreUptoRow.holds Try.pinned (OpenSpec.upto fnNewStoreSpec)

/-- 'laws.FnStoreValid', WHERE WHAT IT READS IS OF BULK AT MOST 1048576: true; the input reads as it did. -/
def fnStoreValidUptoRow : OpenClaim := { program := "ytigidjhdcplplaa", sum := "498265a27e5020acf3504fb2917cadf1f49713fa80e27201676b8177d81aacc7", func := "loop.example/cellcollector/laws.FnStoreValid", spec := "fnStoreValid", unfollowed := true, recurses := true, apart := false, narrowed := true }
def FnStoreValidUptoSaid : Prop := fnStoreValidUptoRow.holds Try.pinned (OpenSpec.upto fnStoreValidSpec)

/-- 'laws.FnExactAllocCell', WHERE WHAT IT READS IS OF BULK AT MOST 1048576: true; the input reads as it did. -/
def fnExactAllocCellUptoRow : OpenClaim := { program := "ytigidjhdcplplaa", sum := "498265a27e5020acf3504fb2917cadf1f49713fa80e27201676b8177d81aacc7", func := "loop.example/cellcollector/laws.FnExactAllocCell", spec := "fnExactAllocCell", apart := false, narrowed := true }
def FnExactAllocCellUptoSaid : Prop := fnExactAllocCellUptoRow.holds Try.pinned (OpenSpec.upto fnExactAllocCellSpec)

/-- 'laws.FnExactLeakedOf', WHERE WHAT IT READS IS OF BULK AT MOST 1048576: true; the input reads as it did. -/
def fnExactLeakedOfUptoRow : OpenClaim := { program := "ytigidjhdcplplaa", sum := "498265a27e5020acf3504fb2917cadf1f49713fa80e27201676b8177d81aacc7", func := "loop.example/cellcollector/laws.FnExactLeakedOf", spec := "fnExactLeakedOf", unfollowed := true, recurses := true, apart := false, narrowed := true }
def FnExactLeakedOfUptoSaid : Prop := fnExactLeakedOfUptoRow.holds Try.pinned (OpenSpec.upto fnExactLeakedOfSpec)

/-- 'laws.FnIsFree', WHERE WHAT IT READS IS OF BULK AT MOST 1048576: true; the input reads as it did. -/
def fnIsFreeUptoRow : OpenClaim := { program := "ytigidjhdcplplaa", sum := "498265a27e5020acf3504fb2917cadf1f49713fa80e27201676b8177d81aacc7", func := "loop.example/cellcollector/laws.FnIsFree", spec := "fnIsFree", unfollowed := true, recurses := true, apart := false, narrowed := true }
def FnIsFreeUptoSaid : Prop := fnIsFreeUptoRow.holds Try.pinned (OpenSpec.upto fnIsFreeSpec)

/-- 'laws.FnAllocOrder', WHERE WHAT IT READS IS OF BULK AT MOST 1048576: true; the input reads as it did. -/
def fnAllocOrderUptoRow : OpenClaim := { program := "ytigidjhdcplplaa", sum := "498265a27e5020acf3504fb2917cadf1f49713fa80e27201676b8177d81aacc7", func := "loop.example/cellcollector/laws.FnAllocOrder", spec := "fnAllocOrder", apart := false, narrowed := true }
def FnAllocOrderUptoSaid : Prop := fnAllocOrderUptoRow.holds Try.pinned (OpenSpec.upto fnAllocOrderSpec)

/-- 'laws.FnLeakedOf', WHERE WHAT IT READS IS OF BULK AT MOST 1048576: true; the input reads as it did. -/
def fnLeakedOfUptoRow : OpenClaim := { program := "ytigidjhdcplplaa", sum := "498265a27e5020acf3504fb2917cadf1f49713fa80e27201676b8177d81aacc7", func := "loop.example/cellcollector/laws.FnLeakedOf", spec := "fnLeakedOf", unfollowed := true, recurses := true, apart := false, narrowed := true }
def FnLeakedOfUptoSaid : Prop := fnLeakedOfUptoRow.holds Try.pinned (OpenSpec.upto fnLeakedOfSpec)

/-- 'laws.FnAllocCell', WHERE WHAT IT READS IS OF BULK AT MOST 1048576: true; the input reads as it did. -/
def fnAllocCellUptoRow : OpenClaim := { program := "ytigidjhdcplplaa", sum := "498265a27e5020acf3504fb2917cadf1f49713fa80e27201676b8177d81aacc7", func := "loop.example/cellcollector/laws.FnAllocCell", spec := "fnAllocCell", unfollowed := true, recurses := true, apart := false, narrowed := true }
def FnAllocCellUptoSaid : Prop := fnAllocCellUptoRow.holds Try.pinned (OpenSpec.upto fnAllocCellSpec)

/-- 'laws.FnTargetOf', WHERE WHAT IT READS IS OF BULK AT MOST 1048576: true; the input reads as it did. -/
def fnTargetOfUptoRow : OpenClaim := { program := "ytigidjhdcplplaa", sum := "498265a27e5020acf3504fb2917cadf1f49713fa80e27201676b8177d81aacc7", func := "loop.example/cellcollector/laws.FnTargetOf", spec := "fnTargetOf", unfollowed := true, recurses := true, apart := false, narrowed := true }
def FnTargetOfUptoSaid : Prop := fnTargetOfUptoRow.holds Try.pinned (OpenSpec.upto fnTargetOfSpec)

/-- 'laws.FnExactTargetOf', WHERE WHAT IT READS IS OF BULK AT MOST 1048576: true; the input reads as it did. -/
def fnExactTargetOfUptoRow : OpenClaim := { program := "ytigidjhdcplplaa", sum := "498265a27e5020acf3504fb2917cadf1f49713fa80e27201676b8177d81aacc7", func := "loop.example/cellcollector/laws.FnExactTargetOf", spec := "fnExactTargetOf", apart := false, narrowed := true }
def FnExactTargetOfUptoSaid : Prop := fnExactTargetOfUptoRow.holds Try.pinned (OpenSpec.upto fnExactTargetOfSpec)

/-- 'laws.FnRunOp', WHERE WHAT IT READS IS OF BULK AT MOST 1048576: true; the input reads as it did. -/
def fnRunOpUptoRow : OpenClaim := { program := "ytigidjhdcplplaa", sum := "498265a27e5020acf3504fb2917cadf1f49713fa80e27201676b8177d81aacc7", func := "loop.example/cellcollector/laws.FnRunOp", spec := "fnRunOp", apart := false, narrowed := true }
def FnRunOpUptoSaid : Prop := fnRunOpUptoRow.holds Try.pinned (OpenSpec.upto fnRunOpSpec)

/-- 'laws.FnExactRunOp', WHERE WHAT IT READS IS OF BULK AT MOST 1048576: true; the input reads as it did. -/
def fnExactRunOpUptoRow : OpenClaim := { program := "ytigidjhdcplplaa", sum := "498265a27e5020acf3504fb2917cadf1f49713fa80e27201676b8177d81aacc7", func := "loop.example/cellcollector/laws.FnExactRunOp", spec := "fnExactRunOp", apart := false, narrowed := true }
def FnExactRunOpUptoSaid : Prop := fnExactRunOpUptoRow.holds Try.pinned (OpenSpec.upto fnExactRunOpSpec)

end Rows
end Go.Proofs.Ytigidjhdcplplaa
