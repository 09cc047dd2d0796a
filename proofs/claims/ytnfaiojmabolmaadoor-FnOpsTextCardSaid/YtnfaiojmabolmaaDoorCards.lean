/-
  DERIVED. GIVEN WITH THE SEED: THE CARDS: each row of YtnfaiojmabolmaaDoorRows.lean that lists a variable, with what it lists TIED to the program's text (the seventh form; the later family's looks); each row that meets fmt, with fmt's text TOLD by the authors' own Lean function (tested against real Go, not proved from fmt's source: count such statements apart). THE CARD IS WHAT COUNTS. Prove the row's statement (the work); the ties are given (YtnfaiojmabolmaaDoorTie.lean); close each card by the builder's one call (the guide's Derived/Test/ToyasCard.lean, 'card_holds'). Laid BY PROGRAM, IN A SANDBOX (cutbox-door.mjs). By AI agents, Wed Nov 11 2026. No macro, syntax, notation, axiom, sorry.
-/
import Derived.Test.YtnfaiojmabolmaaDoorRows
import GoSem.ClaimSeven
namespace Go.Proofs.YtnfaiojmabolmaaDoor
namespace Rows

/-- THE TIED CARD OF 'laws.FnExactFormatOp'. -/
def fnExactFormatOpCard : Claim7 := { stood := { row := fnExactFormatOpRow, standIns := [], harness := (true, "d995cf16065d5b73683aa33dc5b79ab5af3905a5c6a43a763186b42b566a35f9"), looks := false }, kinds := [], alts := [], laidByText := true, laidKinds := [.data, .data, .data, .data], laidTests := true, laidLooks := .later }
def FnExactFormatOpCardSaid : Prop := Claim7.holds Tryd.pinned (.plain (OpenSpec.ofChange fnExactFormatOpSpec)) fnExactFormatOpCard

/-- THE TIED CARD OF 'laws.FnExactParseOps'. -/
def fnExactParseOpsCard : Claim7 := { stood := { row := fnExactParseOpsRow, standIns := [], harness := (true, "d995cf16065d5b73683aa33dc5b79ab5af3905a5c6a43a763186b42b566a35f9"), looks := false }, kinds := [], alts := [], laidByText := true, laidKinds := [.data, .data, .data, .data, .data, .pinned], laidTests := true, laidLooks := .later }
def FnExactParseOpsCardSaid : Prop := Claim7.holds Tryd.pinned (.plain (OpenSpec.ofChange fnExactParseOpsSpec)) fnExactParseOpsCard

/-- THE TIED CARD OF 'laws.FnOpsText'. -/
def fnOpsTextCard : Claim7 := { stood := { row := fnOpsTextRow, standIns := [], harness := (true, "d995cf16065d5b73683aa33dc5b79ab5af3905a5c6a43a763186b42b566a35f9"), looks := false }, kinds := [], alts := [], laidByText := true, laidKinds := [.data, .data, .data, .data, .data, .pinned], laidTests := true, laidLooks := .later }
def FnOpsTextCardSaid : Prop := Claim7.holds Tryd.pinned (.plain (OpenSpec.ofChange fnOpsTextSpec)) fnOpsTextCard

/-- THE TIED CARD OF 'laws.FnExactParseOp'. -/
def fnExactParseOpCard : Claim7 := { stood := { row := fnExactParseOpRow, standIns := [], harness := (true, "d995cf16065d5b73683aa33dc5b79ab5af3905a5c6a43a763186b42b566a35f9"), looks := false }, kinds := [], alts := [], laidByText := true, laidKinds := [.data, .data, .data, .data], laidTests := true, laidLooks := .later }
def FnExactParseOpCardSaid : Prop := Claim7.holds Tryd.pinned (.plain (OpenSpec.ofChange fnExactParseOpSpec)) fnExactParseOpCard

/-- THE TIED CARD OF 'laws.FnOpText'. -/
def fnOpTextCard : Claim7 := { stood := { row := fnOpTextRow, standIns := [], harness := (true, "d995cf16065d5b73683aa33dc5b79ab5af3905a5c6a43a763186b42b566a35f9"), looks := false }, kinds := [], alts := [], laidByText := true, laidKinds := [.data, .data, .data, .data], laidTests := true, laidLooks := .later }
def FnOpTextCardSaid : Prop := Claim7.holds Tryd.pinned (.plain (OpenSpec.ofChange fnOpTextSpec)) fnOpTextCard

/-- THE TIED CARD OF 'laws.FnExactFormatOps'. -/
def fnExactFormatOpsCard : Claim7 := { stood := { row := fnExactFormatOpsRow, standIns := [], harness := (true, "d995cf16065d5b73683aa33dc5b79ab5af3905a5c6a43a763186b42b566a35f9"), looks := false }, kinds := [], alts := [], laidByText := true, laidKinds := [.data, .data, .data, .data], laidTests := true, laidLooks := .later }
def FnExactFormatOpsCardSaid : Prop := Claim7.holds Tryd.pinned (.plain (OpenSpec.ofChange fnExactFormatOpsSpec)) fnExactFormatOpsCard

/-- THE TIED CARD OF 'laws.FnOpsSize'. -/
def fnOpsSizeCard : Claim7 := { stood := { row := fnOpsSizeRow, standIns := [], harness := (true, "d995cf16065d5b73683aa33dc5b79ab5af3905a5c6a43a763186b42b566a35f9"), looks := false }, kinds := [], alts := [], laidByText := true, laidKinds := [.data, .data, .data, .data], laidTests := true, laidLooks := .later }
def FnOpsSizeCardSaid : Prop := Claim7.holds Tryd.pinned (.plain (OpenSpec.ofChange fnOpsSizeSpec)) fnOpsSizeCard

/-- THE SECOND FORM's CARD OF 'laws.FnExactFormatOp'. -/
def fnExactFormatOpUptoCard : Claim7 := { stood := { row := fnExactFormatOpUptoRow, standIns := [], harness := (true, "d995cf16065d5b73683aa33dc5b79ab5af3905a5c6a43a763186b42b566a35f9"), looks := false }, kinds := [], alts := [], laidByText := true, laidKinds := [.data, .data, .data, .data], laidTests := true, laidLooks := .later }
def FnExactFormatOpUptoCardSaid : Prop := Claim7.holds Tryd.pinned (.plain (OpenSpec.upto fnExactFormatOpSpec)) fnExactFormatOpUptoCard

/-- THE SECOND FORM's CARD OF 'laws.FnExactParseOps'. -/
def fnExactParseOpsUptoCard : Claim7 := { stood := { row := fnExactParseOpsUptoRow, standIns := [], harness := (true, "d995cf16065d5b73683aa33dc5b79ab5af3905a5c6a43a763186b42b566a35f9"), looks := false }, kinds := [], alts := [], laidByText := true, laidKinds := [.data, .data, .data, .data, .data, .pinned], laidTests := true, laidLooks := .later }
def FnExactParseOpsUptoCardSaid : Prop := Claim7.holds Tryd.pinned (.plain (OpenSpec.upto fnExactParseOpsSpec)) fnExactParseOpsUptoCard

/-- THE SECOND FORM's CARD OF 'laws.FnOpsText'. -/
def fnOpsTextUptoCard : Claim7 := { stood := { row := fnOpsTextUptoRow, standIns := [], harness := (true, "d995cf16065d5b73683aa33dc5b79ab5af3905a5c6a43a763186b42b566a35f9"), looks := false }, kinds := [], alts := [], laidByText := true, laidKinds := [.data, .data, .data, .data, .data, .pinned], laidTests := true, laidLooks := .later }
def FnOpsTextUptoCardSaid : Prop := Claim7.holds Tryd.pinned (.plain (OpenSpec.upto fnOpsTextSpec)) fnOpsTextUptoCard

/-- THE SECOND FORM's CARD OF 'laws.FnExactParseOp'. -/
def fnExactParseOpUptoCard : Claim7 := { stood := { row := fnExactParseOpUptoRow, standIns := [], harness := (true, "d995cf16065d5b73683aa33dc5b79ab5af3905a5c6a43a763186b42b566a35f9"), looks := false }, kinds := [], alts := [], laidByText := true, laidKinds := [.data, .data, .data, .data], laidTests := true, laidLooks := .later }
def FnExactParseOpUptoCardSaid : Prop := Claim7.holds Tryd.pinned (.plain (OpenSpec.upto fnExactParseOpSpec)) fnExactParseOpUptoCard

/-- THE SECOND FORM's CARD OF 'laws.FnOpText'. -/
def fnOpTextUptoCard : Claim7 := { stood := { row := fnOpTextUptoRow, standIns := [], harness := (true, "d995cf16065d5b73683aa33dc5b79ab5af3905a5c6a43a763186b42b566a35f9"), looks := false }, kinds := [], alts := [], laidByText := true, laidKinds := [.data, .data, .data, .data], laidTests := true, laidLooks := .later }
def FnOpTextUptoCardSaid : Prop := Claim7.holds Tryd.pinned (.plain (OpenSpec.upto fnOpTextSpec)) fnOpTextUptoCard

/-- THE SECOND FORM's CARD OF 'laws.FnExactFormatOps'. -/
def fnExactFormatOpsUptoCard : Claim7 := { stood := { row := fnExactFormatOpsUptoRow, standIns := [], harness := (true, "d995cf16065d5b73683aa33dc5b79ab5af3905a5c6a43a763186b42b566a35f9"), looks := false }, kinds := [], alts := [], laidByText := true, laidKinds := [.data, .data, .data, .data], laidTests := true, laidLooks := .later }
def FnExactFormatOpsUptoCardSaid : Prop := Claim7.holds Tryd.pinned (.plain (OpenSpec.upto fnExactFormatOpsSpec)) fnExactFormatOpsUptoCard

/-- THE SECOND FORM's CARD OF 'laws.FnOpsSize'. -/
def fnOpsSizeUptoCard : Claim7 := { stood := { row := fnOpsSizeUptoRow, standIns := [], harness := (true, "d995cf16065d5b73683aa33dc5b79ab5af3905a5c6a43a763186b42b566a35f9"), looks := false }, kinds := [], alts := [], laidByText := true, laidKinds := [.data, .data, .data, .data], laidTests := true, laidLooks := .later }
def FnOpsSizeUptoCardSaid : Prop := Claim7.holds Tryd.pinned (.plain (OpenSpec.upto fnOpsSizeSpec)) fnOpsSizeUptoCard
end Rows
end Go.Proofs.YtnfaiojmabolmaaDoor
