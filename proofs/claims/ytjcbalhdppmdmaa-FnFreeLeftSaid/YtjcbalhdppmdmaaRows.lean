/-
  No cell of these rows narrows 'for every input' (looked for: loops, veiled, ifaces, maps, wideKeys, modest, calm, conditions, laid).
  DERIVED. THE GIVEN ROWS OF THIS SEAT. 12 by the template 'for every input the law returns true; each argument reads behind the call as it read before'; 0 by the template 'total and deterministic' (their statements: YtjcbalhdppmdmaaTotals.lean).
  GIVEN WITH THE SEED: the statements are not yours to turn. If you find one false, say at which input.
  Laid BY PROGRAM, IN A SANDBOX (cutbox-rows.mjs): the forced cells as the released guide's own fill.sh prints them over the translation 42a5a36a4480c3ff… (all of the seat's roots in one cut). By AI agents, Wed Nov 11 2026. No macro, syntax, notation, axiom, sorry.
-/
import Derived.Test.YtjcbalhdppmdmaaChecked
import GoSem.Claim
import GoSem.ClaimJoined
import GoSem.ClaimMapViews
import Derived.JoinedTies
import Derived.KernelRfl
namespace Go.Proofs.Ytjcbalhdppmdmaa
/- THE CELL 'sum', in the pinned program and in every row, IS THE sha256 OF THE DUMP (.gsa) THAT YtjcbalhdppmdmaaProg.lean LOADS. Nothing in Lean hashes anything: it is a label: what it is worth is what the hold of that sum in a sandbox is worth. -/
noncomputable def Try.pinned : Pinned := { name := "ytjcbalhdppmdmaa", sum := "42a5a36a4480c3ff3b0c58fad12d6ca9ce698a2153b7b412c28e2f96759d4037", checked := Try.checked }
namespace Rows
def none {H : Type} : Left H := { results := [], args := [] }

/-- 'laws.FnExactOpValid': WHATEVER THE INPUT: true; the input reads as it did. -/
def fnExactOpValidSpec : ChangeSpec := { name := "fnExactOpValid", fn := fun _ => fun
  | [d1, d2] => { results := [.lit (.bool true)], args := [d1, d2] }
  | _ => none }
def fnExactOpValidRow : OpenClaim := { program := "ytjcbalhdppmdmaa", sum := "42a5a36a4480c3ff3b0c58fad12d6ca9ce698a2153b7b412c28e2f96759d4037", func := "loop.example/cellcollector/laws.FnExactOpValid", spec := "fnExactOpValid", apart := false }
def FnExactOpValidSaid : Prop := fnExactOpValidRow.holds Try.pinned (OpenSpec.ofChange fnExactOpValidSpec)

/-- ITS FALSE NEIGHBOUR: 'it returns false'. Refute it at one input. -/
def fnExactOpValidWrong : ChangeSpec := { name := "fnExactOpValid", fn := fun _ => fun
  | [d1, d2] => { results := [.lit (.bool false)], args := [d1, d2] }
  | _ => none }
def FnExactOpValidWrongFalsely : Prop := fnExactOpValidRow.holds Try.pinned (OpenSpec.ofChange fnExactOpValidWrong)

/-- 'laws.FnOpValid': WHATEVER THE INPUT: true; the input reads as it did. -/
def fnOpValidSpec : ChangeSpec := { name := "fnOpValid", fn := fun _ => fun
  | [d] => { results := [.lit (.bool true)], args := [d] }
  | _ => none }
def fnOpValidRow : OpenClaim := { program := "ytjcbalhdppmdmaa", sum := "42a5a36a4480c3ff3b0c58fad12d6ca9ce698a2153b7b412c28e2f96759d4037", func := "loop.example/cellcollector/laws.FnOpValid", spec := "fnOpValid", apart := false }
def FnOpValidSaid : Prop := fnOpValidRow.holds Try.pinned (OpenSpec.ofChange fnOpValidSpec)

/-- ITS FALSE NEIGHBOUR: 'it returns false'. Refute it at one input. -/
def fnOpValidWrong : ChangeSpec := { name := "fnOpValid", fn := fun _ => fun
  | [d] => { results := [.lit (.bool false)], args := [d] }
  | _ => none }
def FnOpValidWrongFalsely : Prop := fnOpValidRow.holds Try.pinned (OpenSpec.ofChange fnOpValidWrong)

/-- 'laws.FnExactGcSame': WHATEVER THE INPUT: true; the input reads as it did. -/
def fnExactGcSameSpec : ChangeSpec := { name := "fnExactGcSame", fn := fun _ => fun
  | [d1, d2] => { results := [.lit (.bool true)], args := [d1, d2] }
  | _ => none }
def fnExactGcSameRow : OpenClaim := { program := "ytjcbalhdppmdmaa", sum := "42a5a36a4480c3ff3b0c58fad12d6ca9ce698a2153b7b412c28e2f96759d4037", func := "loop.example/cellcollector/laws.FnExactGcSame", spec := "fnExactGcSame", apart := false }
def FnExactGcSameSaid : Prop := fnExactGcSameRow.holds Try.pinned (OpenSpec.ofChange fnExactGcSameSpec)

/-- ITS FALSE NEIGHBOUR: 'it returns false'. Refute it at one input. -/
def fnExactGcSameWrong : ChangeSpec := { name := "fnExactGcSame", fn := fun _ => fun
  | [d1, d2] => { results := [.lit (.bool false)], args := [d1, d2] }
  | _ => none }
def FnExactGcSameWrongFalsely : Prop := fnExactGcSameRow.holds Try.pinned (OpenSpec.ofChange fnExactGcSameWrong)

/-- 'laws.FnExactStoreSame': WHATEVER THE INPUT: true; the input reads as it did. -/
def fnExactStoreSameSpec : ChangeSpec := { name := "fnExactStoreSame", fn := fun _ => fun
  | [d1, d2] => { results := [.lit (.bool true)], args := [d1, d2] }
  | _ => none }
def fnExactStoreSameRow : OpenClaim := { program := "ytjcbalhdppmdmaa", sum := "42a5a36a4480c3ff3b0c58fad12d6ca9ce698a2153b7b412c28e2f96759d4037", func := "loop.example/cellcollector/laws.FnExactStoreSame", spec := "fnExactStoreSame", apart := false }
def FnExactStoreSameSaid : Prop := fnExactStoreSameRow.holds Try.pinned (OpenSpec.ofChange fnExactStoreSameSpec)

/-- ITS FALSE NEIGHBOUR: 'it returns false'. Refute it at one input. -/
def fnExactStoreSameWrong : ChangeSpec := { name := "fnExactStoreSame", fn := fun _ => fun
  | [d1, d2] => { results := [.lit (.bool false)], args := [d1, d2] }
  | _ => none }
def FnExactStoreSameWrongFalsely : Prop := fnExactStoreSameRow.holds Try.pinned (OpenSpec.ofChange fnExactStoreSameWrong)

/-- 'laws.FnExactCountedSame': WHATEVER THE INPUT: true; the input reads as it did. -/
def fnExactCountedSameSpec : ChangeSpec := { name := "fnExactCountedSame", fn := fun _ => fun
  | [d1, d2] => { results := [.lit (.bool true)], args := [d1, d2] }
  | _ => none }
def fnExactCountedSameRow : OpenClaim := { program := "ytjcbalhdppmdmaa", sum := "42a5a36a4480c3ff3b0c58fad12d6ca9ce698a2153b7b412c28e2f96759d4037", func := "loop.example/cellcollector/laws.FnExactCountedSame", spec := "fnExactCountedSame", apart := false }
def FnExactCountedSameSaid : Prop := fnExactCountedSameRow.holds Try.pinned (OpenSpec.ofChange fnExactCountedSameSpec)

/-- ITS FALSE NEIGHBOUR: 'it returns false'. Refute it at one input. -/
def fnExactCountedSameWrong : ChangeSpec := { name := "fnExactCountedSame", fn := fun _ => fun
  | [d1, d2] => { results := [.lit (.bool false)], args := [d1, d2] }
  | _ => none }
def FnExactCountedSameWrongFalsely : Prop := fnExactCountedSameRow.holds Try.pinned (OpenSpec.ofChange fnExactCountedSameWrong)

/-- 'laws.FnExactCountsOf': WHATEVER THE INPUT: true; the input reads as it did. -/
def fnExactCountsOfSpec : ChangeSpec := { name := "fnExactCountsOf", fn := fun _ => fun
  | [d] => { results := [.lit (.bool true)], args := [d] }
  | _ => none }
def fnExactCountsOfRow : OpenClaim := { program := "ytjcbalhdppmdmaa", sum := "42a5a36a4480c3ff3b0c58fad12d6ca9ce698a2153b7b412c28e2f96759d4037", func := "loop.example/cellcollector/laws.FnExactCountsOf", spec := "fnExactCountsOf", apart := false }
def FnExactCountsOfSaid : Prop := fnExactCountsOfRow.holds Try.pinned (OpenSpec.ofChange fnExactCountsOfSpec)

/-- ITS FALSE NEIGHBOUR: 'it returns false'. Refute it at one input. -/
def fnExactCountsOfWrong : ChangeSpec := { name := "fnExactCountsOf", fn := fun _ => fun
  | [d] => { results := [.lit (.bool false)], args := [d] }
  | _ => none }
def FnExactCountsOfWrongFalsely : Prop := fnExactCountsOfRow.holds Try.pinned (OpenSpec.ofChange fnExactCountsOfWrong)

/-- 'laws.FnExactNewStore': WHATEVER THE INPUT: true; the input reads as it did. -/
def fnExactNewStoreSpec : ChangeSpec := { name := "fnExactNewStore", fn := fun _ => fun
  | [d1, d2] => { results := [.lit (.bool true)], args := [d1, d2] }
  | _ => none }
def fnExactNewStoreRow : OpenClaim := { program := "ytjcbalhdppmdmaa", sum := "42a5a36a4480c3ff3b0c58fad12d6ca9ce698a2153b7b412c28e2f96759d4037", func := "loop.example/cellcollector/laws.FnExactNewStore", spec := "fnExactNewStore", apart := false }
def FnExactNewStoreSaid : Prop := fnExactNewStoreRow.holds Try.pinned (OpenSpec.ofChange fnExactNewStoreSpec)

/-- ITS FALSE NEIGHBOUR: 'it returns false'. Refute it at one input. -/
def fnExactNewStoreWrong : ChangeSpec := { name := "fnExactNewStore", fn := fun _ => fun
  | [d1, d2] => { results := [.lit (.bool false)], args := [d1, d2] }
  | _ => none }
def FnExactNewStoreWrongFalsely : Prop := fnExactNewStoreRow.holds Try.pinned (OpenSpec.ofChange fnExactNewStoreWrong)

/-- 'laws.FnFreeLeft': WHATEVER THE INPUT: true; the input reads as it did. -/
def fnFreeLeftSpec : ChangeSpec := { name := "fnFreeLeft", fn := fun _ => fun
  | [d] => { results := [.lit (.bool true)], args := [d] }
  | _ => none }
def fnFreeLeftRow : OpenClaim := { program := "ytjcbalhdppmdmaa", sum := "42a5a36a4480c3ff3b0c58fad12d6ca9ce698a2153b7b412c28e2f96759d4037", func := "loop.example/cellcollector/laws.FnFreeLeft", spec := "fnFreeLeft", unfollowed := true, recurses := true, apart := false }
def FnFreeLeftSaid : Prop := fnFreeLeftRow.holds Try.pinned (OpenSpec.ofChange fnFreeLeftSpec)

/-- ITS FALSE NEIGHBOUR: 'it returns false'. Refute it at one input. -/
def fnFreeLeftWrong : ChangeSpec := { name := "fnFreeLeft", fn := fun _ => fun
  | [d] => { results := [.lit (.bool false)], args := [d] }
  | _ => none }
def FnFreeLeftWrongFalsely : Prop := fnFreeLeftRow.holds Try.pinned (OpenSpec.ofChange fnFreeLeftWrong)

/-- 'laws.FnCountsPut': WHATEVER THE INPUT: true; the input reads as it did. -/
def fnCountsPutSpec : ChangeSpec := { name := "fnCountsPut", fn := fun _ => fun
  | [d] => { results := [.lit (.bool true)], args := [d] }
  | _ => none }
def fnCountsPutRow : OpenClaim := { program := "ytjcbalhdppmdmaa", sum := "42a5a36a4480c3ff3b0c58fad12d6ca9ce698a2153b7b412c28e2f96759d4037", func := "loop.example/cellcollector/laws.FnCountsPut", spec := "fnCountsPut", apart := false }
def FnCountsPutSaid : Prop := fnCountsPutRow.holds Try.pinned (OpenSpec.ofChange fnCountsPutSpec)

/-- ITS FALSE NEIGHBOUR: 'it returns false'. Refute it at one input. -/
def fnCountsPutWrong : ChangeSpec := { name := "fnCountsPut", fn := fun _ => fun
  | [d] => { results := [.lit (.bool false)], args := [d] }
  | _ => none }
def FnCountsPutWrongFalsely : Prop := fnCountsPutRow.holds Try.pinned (OpenSpec.ofChange fnCountsPutWrong)

/-- 'laws.FnCountsOf': WHATEVER THE INPUT: true; the input reads as it did. -/
def fnCountsOfSpec : ChangeSpec := { name := "fnCountsOf", fn := fun _ => fun
  | [d] => { results := [.lit (.bool true)], args := [d] }
  | _ => none }
def fnCountsOfRow : OpenClaim := { program := "ytjcbalhdppmdmaa", sum := "42a5a36a4480c3ff3b0c58fad12d6ca9ce698a2153b7b412c28e2f96759d4037", func := "loop.example/cellcollector/laws.FnCountsOf", spec := "fnCountsOf", apart := false }
def FnCountsOfSaid : Prop := fnCountsOfRow.holds Try.pinned (OpenSpec.ofChange fnCountsOfSpec)

/-- ITS FALSE NEIGHBOUR: 'it returns false'. Refute it at one input. -/
def fnCountsOfWrong : ChangeSpec := { name := "fnCountsOf", fn := fun _ => fun
  | [d] => { results := [.lit (.bool false)], args := [d] }
  | _ => none }
def FnCountsOfWrongFalsely : Prop := fnCountsOfRow.holds Try.pinned (OpenSpec.ofChange fnCountsOfWrong)

/-- 'laws.FnExactStoreValid': WHATEVER THE INPUT: true; the input reads as it did. -/
def fnExactStoreValidSpec : ChangeSpec := { name := "fnExactStoreValid", fn := fun _ => fun
  | [d] => { results := [.lit (.bool true)], args := [d] }
  | _ => none }
def fnExactStoreValidRow : OpenClaim := { program := "ytjcbalhdppmdmaa", sum := "42a5a36a4480c3ff3b0c58fad12d6ca9ce698a2153b7b412c28e2f96759d4037", func := "loop.example/cellcollector/laws.FnExactStoreValid", spec := "fnExactStoreValid", apart := false }
def FnExactStoreValidSaid : Prop := fnExactStoreValidRow.holds Try.pinned (OpenSpec.ofChange fnExactStoreValidSpec)

/-- ITS FALSE NEIGHBOUR: 'it returns false'. Refute it at one input. -/
def fnExactStoreValidWrong : ChangeSpec := { name := "fnExactStoreValid", fn := fun _ => fun
  | [d] => { results := [.lit (.bool false)], args := [d] }
  | _ => none }
def FnExactStoreValidWrongFalsely : Prop := fnExactStoreValidRow.holds Try.pinned (OpenSpec.ofChange fnExactStoreValidWrong)

/-- 'laws.FnExactIsFree': WHATEVER THE INPUT: true; the input reads as it did. -/
def fnExactIsFreeSpec : ChangeSpec := { name := "fnExactIsFree", fn := fun _ => fun
  | [d1, d2] => { results := [.lit (.bool true)], args := [d1, d2] }
  | _ => none }
def fnExactIsFreeRow : OpenClaim := { program := "ytjcbalhdppmdmaa", sum := "42a5a36a4480c3ff3b0c58fad12d6ca9ce698a2153b7b412c28e2f96759d4037", func := "loop.example/cellcollector/laws.FnExactIsFree", spec := "fnExactIsFree", apart := false }
def FnExactIsFreeSaid : Prop := fnExactIsFreeRow.holds Try.pinned (OpenSpec.ofChange fnExactIsFreeSpec)

/-- ITS FALSE NEIGHBOUR: 'it returns false'. Refute it at one input. -/
def fnExactIsFreeWrong : ChangeSpec := { name := "fnExactIsFree", fn := fun _ => fun
  | [d1, d2] => { results := [.lit (.bool false)], args := [d1, d2] }
  | _ => none }
def FnExactIsFreeWrongFalsely : Prop := fnExactIsFreeRow.holds Try.pinned (OpenSpec.ofChange fnExactIsFreeWrong)

/- THE SECOND FORM. 'bulk': how many values and letters a reading holds, each counted each time it is reached (what is shared counts as often as it is met; a slice's spare places count too). A statement '..UptoSaid' is the law's where the arguments, and the package variables that the reading takes, are together of bulk at most 1048576: NARROWER than '..Said'. Prove '..Said' where nothing that the law and all that it calls make is longer than what came in: it says more and counts as full. Else prove '..UptoSaid'. A law counts once. -/
mutual
def uptoBulk {H : Type} : DataW H → Nat
  | .lit (.string bytes) => bytes.length + 1
  | .lit _ => 1
  | .nil => 1
  | .ptr d => uptoBulk d + 1
  | .slice elems spare => uptoBulkAll elems + uptoBulkAll spare + 1
  | .agg parts => uptoBulkAll parts + 1
  | .iface _ d => uptoBulk d + 1
  | .map entries => uptoBulkEntries entries + 1
  | .held _ => 1
def uptoBulkAll {H : Type} : List (DataW H) → Nat
  | [] => 0
  | d :: r => uptoBulk d + uptoBulkAll r
def uptoBulkEntries {H : Type} : List (Lit × DataW H) → Nat
  | [] => 0
  | x :: r => uptoBulkEntry x + uptoBulkEntries r
def uptoBulkEntry {H : Type} : Lit × DataW H → Nat
  | (.string bytes, d) => bytes.length + uptoBulk d + 1
  | (_, d) => uptoBulk d + 1
 end
def uptoSmall : (H : Type) → List (DataW H) → Bool := fun _ ds => decide (uptoBulkAll ds ≤ 1048576)
def OpenSpec.upto (s : _root_.Go.ChangeSpec) : _root_.Go.OpenSpec := { _root_.Go.OpenSpec.ofChange s with cond := some uptoSmall }

/-- 'laws.FnExactOpValid', WHERE WHAT IT READS IS OF BULK AT MOST 1048576: true; the input reads as it did. -/
def fnExactOpValidUptoRow : OpenClaim := { program := "ytjcbalhdppmdmaa", sum := "42a5a36a4480c3ff3b0c58fad12d6ca9ce698a2153b7b412c28e2f96759d4037", func := "loop.example/cellcollector/laws.FnExactOpValid", spec := "fnExactOpValid", apart := false, narrowed := true }
def FnExactOpValidUptoSaid : Prop := fnExactOpValidUptoRow.holds Try.pinned (OpenSpec.upto fnExactOpValidSpec)

/-- 'laws.FnOpValid', WHERE WHAT IT READS IS OF BULK AT MOST 1048576: true; the input reads as it did. -/
def fnOpValidUptoRow : OpenClaim := { program := "ytjcbalhdppmdmaa", sum := "42a5a36a4480c3ff3b0c58fad12d6ca9ce698a2153b7b412c28e2f96759d4037", func := "loop.example/cellcollector/laws.FnOpValid", spec := "fnOpValid", apart := false, narrowed := true }
def FnOpValidUptoSaid : Prop := fnOpValidUptoRow.holds Try.pinned (OpenSpec.upto fnOpValidSpec)

/-- 'laws.FnExactGcSame', WHERE WHAT IT READS IS OF BULK AT MOST 1048576: true; the input reads as it did. -/
def fnExactGcSameUptoRow : OpenClaim := { program := "ytjcbalhdppmdmaa", sum := "42a5a36a4480c3ff3b0c58fad12d6ca9ce698a2153b7b412c28e2f96759d4037", func := "loop.example/cellcollector/laws.FnExactGcSame", spec := "fnExactGcSame", apart := false, narrowed := true }
def FnExactGcSameUptoSaid : Prop := fnExactGcSameUptoRow.holds Try.pinned (OpenSpec.upto fnExactGcSameSpec)

/-- 'laws.FnExactStoreSame', WHERE WHAT IT READS IS OF BULK AT MOST 1048576: true; the input reads as it did. -/
def fnExactStoreSameUptoRow : OpenClaim := { program := "ytjcbalhdppmdmaa", sum := "42a5a36a4480c3ff3b0c58fad12d6ca9ce698a2153b7b412c28e2f96759d4037", func := "loop.example/cellcollector/laws.FnExactStoreSame", spec := "fnExactStoreSame", apart := false, narrowed := true }
def FnExactStoreSameUptoSaid : Prop := fnExactStoreSameUptoRow.holds Try.pinned (OpenSpec.upto fnExactStoreSameSpec)

/-- 'laws.FnExactCountedSame', WHERE WHAT IT READS IS OF BULK AT MOST 1048576: true; the input reads as it did. -/
def fnExactCountedSameUptoRow : OpenClaim := { program := "ytjcbalhdppmdmaa", sum := "42a5a36a4480c3ff3b0c58fad12d6ca9ce698a2153b7b412c28e2f96759d4037", func := "loop.example/cellcollector/laws.FnExactCountedSame", spec := "fnExactCountedSame", apart := false, narrowed := true }
def FnExactCountedSameUptoSaid : Prop := fnExactCountedSameUptoRow.holds Try.pinned (OpenSpec.upto fnExactCountedSameSpec)

/-- 'laws.FnExactCountsOf', WHERE WHAT IT READS IS OF BULK AT MOST 1048576: true; the input reads as it did. -/
def fnExactCountsOfUptoRow : OpenClaim := { program := "ytjcbalhdppmdmaa", sum := "42a5a36a4480c3ff3b0c58fad12d6ca9ce698a2153b7b412c28e2f96759d4037", func := "loop.example/cellcollector/laws.FnExactCountsOf", spec := "fnExactCountsOf", apart := false, narrowed := true }
def FnExactCountsOfUptoSaid : Prop := fnExactCountsOfUptoRow.holds Try.pinned (OpenSpec.upto fnExactCountsOfSpec)

/-- 'laws.FnExactNewStore', WHERE WHAT IT READS IS OF BULK AT MOST 1048576: true; the input reads as it did. -/
def fnExactNewStoreUptoRow : OpenClaim := { program := "ytjcbalhdppmdmaa", sum := "42a5a36a4480c3ff3b0c58fad12d6ca9ce698a2153b7b412c28e2f96759d4037", func := "loop.example/cellcollector/laws.FnExactNewStore", spec := "fnExactNewStore", apart := false, narrowed := true }
def FnExactNewStoreUptoSaid : Prop := fnExactNewStoreUptoRow.holds Try.pinned (OpenSpec.upto fnExactNewStoreSpec)

/-- 'laws.FnFreeLeft', WHERE WHAT IT READS IS OF BULK AT MOST 1048576: true; the input reads as it did. -/
def fnFreeLeftUptoRow : OpenClaim := { program := "ytjcbalhdppmdmaa", sum := "42a5a36a4480c3ff3b0c58fad12d6ca9ce698a2153b7b412c28e2f96759d4037", func := "loop.example/cellcollector/laws.FnFreeLeft", spec := "fnFreeLeft", unfollowed := true, recurses := true, apart := false, narrowed := true }
def FnFreeLeftUptoSaid : Prop := fnFreeLeftUptoRow.holds Try.pinned (OpenSpec.upto fnFreeLeftSpec)

/-- 'laws.FnCountsPut', WHERE WHAT IT READS IS OF BULK AT MOST 1048576: true; the input reads as it did. -/
def fnCountsPutUptoRow : OpenClaim := { program := "ytjcbalhdppmdmaa", sum := "42a5a36a4480c3ff3b0c58fad12d6ca9ce698a2153b7b412c28e2f96759d4037", func := "loop.example/cellcollector/laws.FnCountsPut", spec := "fnCountsPut", apart := false, narrowed := true }
def FnCountsPutUptoSaid : Prop := fnCountsPutUptoRow.holds Try.pinned (OpenSpec.upto fnCountsPutSpec)

/-- 'laws.FnCountsOf', WHERE WHAT IT READS IS OF BULK AT MOST 1048576: true; the input reads as it did. -/
def fnCountsOfUptoRow : OpenClaim := { program := "ytjcbalhdppmdmaa", sum := "42a5a36a4480c3ff3b0c58fad12d6ca9ce698a2153b7b412c28e2f96759d4037", func := "loop.example/cellcollector/laws.FnCountsOf", spec := "fnCountsOf", apart := false, narrowed := true }
def FnCountsOfUptoSaid : Prop := fnCountsOfUptoRow.holds Try.pinned (OpenSpec.upto fnCountsOfSpec)

/-- 'laws.FnExactStoreValid', WHERE WHAT IT READS IS OF BULK AT MOST 1048576: true; the input reads as it did. -/
def fnExactStoreValidUptoRow : OpenClaim := { program := "ytjcbalhdppmdmaa", sum := "42a5a36a4480c3ff3b0c58fad12d6ca9ce698a2153b7b412c28e2f96759d4037", func := "loop.example/cellcollector/laws.FnExactStoreValid", spec := "fnExactStoreValid", apart := false, narrowed := true }
def FnExactStoreValidUptoSaid : Prop := fnExactStoreValidUptoRow.holds Try.pinned (OpenSpec.upto fnExactStoreValidSpec)

/-- 'laws.FnExactIsFree', WHERE WHAT IT READS IS OF BULK AT MOST 1048576: true; the input reads as it did. -/
def fnExactIsFreeUptoRow : OpenClaim := { program := "ytjcbalhdppmdmaa", sum := "42a5a36a4480c3ff3b0c58fad12d6ca9ce698a2153b7b412c28e2f96759d4037", func := "loop.example/cellcollector/laws.FnExactIsFree", spec := "fnExactIsFree", apart := false, narrowed := true }
def FnExactIsFreeUptoSaid : Prop := fnExactIsFreeUptoRow.holds Try.pinned (OpenSpec.upto fnExactIsFreeSpec)

end Rows
end Go.Proofs.Ytjcbalhdppmdmaa
