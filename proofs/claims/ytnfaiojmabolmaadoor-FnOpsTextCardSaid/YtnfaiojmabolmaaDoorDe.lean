/- What the kit's contracts of a Builder ask of this seat's types. -/
import Derived.Test.YtnfaiojmabolmaaDoorDc
import Derived.Shelf.Strings.BuilderX
namespace Go.Proofs.YtnfaiojmabolmaaDoor.D
open Go Go.Shelf Go.Proofs
theorem extra156 : Builder.Extra Tryd.prog ren156 where
  sizeBuilder := by kernel_rfl
  liesBuilder := by kernel_rfl
  t5 := Tryd.underlying5
  a5 := Tryd.isAgg5
  z5 := Tryd.sizeOf5
  v5 := Tryd.zeroValue5
  infoByte := by kernel_rfl
  cellsByte := by kernel_rfl
  sizeByte := by kernel_rfl
  neB5 := by decide
end Go.Proofs.YtnfaiojmabolmaaDoor.D
