/- Facts of the program that the generator asks for: its types and which functions have a body. -/
import Derived.Test.YtjcbalhdppmdmaaSi
import Derived.Test.YtjcbalhdppmdmaaProg
namespace Go.Proofs.Ytjcbalhdppmdmaa.F
open Go Go.RowKit Go.Proofs.Ytjcbalhdppmdmaa.S
theorem follows_any : Try.prog.follows .mixedOrders = true := by kernel_rfl
theorem ag23 : AggIs Try.prog 23 true := by unfold AggIs; kernel_rfl
theorem ag25 : AggIs Try.prog 25 true := by unfold AggIs; kernel_rfl
theorem ag28 : AggIs Try.prog 28 false := by unfold AggIs; kernel_rfl
theorem ag3 : AggIs Try.prog 3 false := by unfold AggIs; kernel_rfl
theorem ag32 : AggIs Try.prog 32 false := by unfold AggIs; kernel_rfl
theorem ag34 : AggIs Try.prog 34 true := by unfold AggIs; kernel_rfl
theorem ag37 : AggIs Try.prog 37 true := by unfold AggIs; kernel_rfl
theorem ag4 : AggIs Try.prog 4 false := by unfold AggIs; kernel_rfl
theorem ag41 : AggIs Try.prog 41 true := by unfold AggIs; kernel_rfl
theorem ag43 : AggIs Try.prog 43 true := by unfold AggIs; kernel_rfl
theorem ag46 : AggIs Try.prog 46 true := by unfold AggIs; kernel_rfl
theorem ag48 : AggIs Try.prog 48 true := by unfold AggIs; kernel_rfl
theorem ag5 : AggIs Try.prog 5 false := by unfold AggIs; kernel_rfl
theorem ag52 : AggIs Try.prog 52 true := by unfold AggIs; kernel_rfl
theorem ag56 : AggIs Try.prog 56 true := by unfold AggIs; kernel_rfl
theorem ag9 : AggIs Try.prog 9 false := by unfold AggIs; kernel_rfl
theorem by3 : BytesIs Try.prog 3 8 := by unfold BytesIs; kernel_rfl
theorem by4 : BytesIs Try.prog 4 1 := by unfold BytesIs; kernel_rfl
theorem fi106_0 : FieldIs Try.prog 106 0 28 0 := by unfold FieldIs; kernel_rfl
theorem fi106_1 : FieldIs Try.prog 106 1 3 1 := by unfold FieldIs; kernel_rfl
theorem fi23_0 : FieldIs Try.prog 23 0 3 0 := by unfold FieldIs; kernel_rfl
theorem fi23_1 : FieldIs Try.prog 23 1 3 1 := by unfold FieldIs; kernel_rfl
theorem fi23_2 : FieldIs Try.prog 23 2 3 2 := by unfold FieldIs; kernel_rfl
theorem fi25_0 : FieldIs Try.prog 25 0 3 0 := by unfold FieldIs; kernel_rfl
theorem fi25_1 : FieldIs Try.prog 25 1 3 1 := by unfold FieldIs; kernel_rfl
theorem fi25_2 : FieldIs Try.prog 25 2 3 2 := by unfold FieldIs; kernel_rfl
theorem fi34_0 : FieldIs Try.prog 34 0 3 0 := by unfold FieldIs; kernel_rfl
theorem fi34_1 : FieldIs Try.prog 34 1 32 1 := by unfold FieldIs; kernel_rfl
theorem fi34_2 : FieldIs Try.prog 34 2 3 2 := by unfold FieldIs; kernel_rfl
theorem fi37_0 : FieldIs Try.prog 37 0 3 0 := by unfold FieldIs; kernel_rfl
theorem fi37_1 : FieldIs Try.prog 37 1 32 1 := by unfold FieldIs; kernel_rfl
theorem fi37_2 : FieldIs Try.prog 37 2 3 2 := by unfold FieldIs; kernel_rfl
theorem fi41_0 : FieldIs Try.prog 41 0 32 0 := by unfold FieldIs; kernel_rfl
theorem fi41_1 : FieldIs Try.prog 41 1 32 1 := by unfold FieldIs; kernel_rfl
theorem fi41_2 : FieldIs Try.prog 41 2 32 2 := by unfold FieldIs; kernel_rfl
theorem fi43_0 : FieldIs Try.prog 43 0 41 0 := by unfold FieldIs; kernel_rfl
theorem fi43_1 : FieldIs Try.prog 43 1 32 3 := by unfold FieldIs; kernel_rfl
theorem fi46_0 : FieldIs Try.prog 46 0 32 0 := by unfold FieldIs; kernel_rfl
theorem fi46_1 : FieldIs Try.prog 46 1 32 1 := by unfold FieldIs; kernel_rfl
theorem fi46_2 : FieldIs Try.prog 46 2 32 2 := by unfold FieldIs; kernel_rfl
theorem fi48_0 : FieldIs Try.prog 48 0 46 0 := by unfold FieldIs; kernel_rfl
theorem fi48_1 : FieldIs Try.prog 48 1 32 3 := by unfold FieldIs; kernel_rfl
theorem fi52_0 : FieldIs Try.prog 52 0 43 0 := by unfold FieldIs; kernel_rfl
theorem fi52_1 : FieldIs Try.prog 52 1 32 4 := by unfold FieldIs; kernel_rfl
theorem fi56_0 : FieldIs Try.prog 56 0 48 0 := by unfold FieldIs; kernel_rfl
theorem fi56_1 : FieldIs Try.prog 56 1 32 4 := by unfold FieldIs; kernel_rfl
theorem ok102 : CallOk Try.prog 102 := ⟨Try.f102, Try.func102, by kernel_rfl, by kernel_rfl⟩
theorem ok104 : CallOk Try.prog 104 := ⟨Try.f104, Try.func104, by kernel_rfl, by kernel_rfl⟩
theorem ok105 : CallOk Try.prog 105 := ⟨Try.f105, Try.func105, by kernel_rfl, by kernel_rfl⟩
theorem ok107 : CallOk Try.prog 107 := ⟨Try.f107, Try.func107, by kernel_rfl, by kernel_rfl⟩
theorem ok110 : CallOk Try.prog 110 := ⟨Try.f110, Try.func110, by kernel_rfl, by kernel_rfl⟩
theorem ok111 : CallOk Try.prog 111 := ⟨Try.f111, Try.func111, by kernel_rfl, by kernel_rfl⟩
theorem ok115 : CallOk Try.prog 115 := ⟨Try.f115, Try.func115, by kernel_rfl, by kernel_rfl⟩
theorem ok15 : CallOk Try.prog 15 := ⟨Try.f15, Try.func15, by kernel_rfl, by kernel_rfl⟩
theorem ok16 : CallOk Try.prog 16 := ⟨Try.f16, Try.func16, by kernel_rfl, by kernel_rfl⟩
theorem ok17 : CallOk Try.prog 17 := ⟨Try.f17, Try.func17, by kernel_rfl, by kernel_rfl⟩
theorem ok19 : CallOk Try.prog 19 := ⟨Try.f19, Try.func19, by kernel_rfl, by kernel_rfl⟩
theorem ok20 : CallOk Try.prog 20 := ⟨Try.f20, Try.func20, by kernel_rfl, by kernel_rfl⟩
theorem ok21 : CallOk Try.prog 21 := ⟨Try.f21, Try.func21, by kernel_rfl, by kernel_rfl⟩
theorem ok22 : CallOk Try.prog 22 := ⟨Try.f22, Try.func22, by kernel_rfl, by kernel_rfl⟩
theorem ok23 : CallOk Try.prog 23 := ⟨Try.f23, Try.func23, by kernel_rfl, by kernel_rfl⟩
theorem ok24 : CallOk Try.prog 24 := ⟨Try.f24, Try.func24, by kernel_rfl, by kernel_rfl⟩
theorem ok25 : CallOk Try.prog 25 := ⟨Try.f25, Try.func25, by kernel_rfl, by kernel_rfl⟩
theorem ok26 : CallOk Try.prog 26 := ⟨Try.f26, Try.func26, by kernel_rfl, by kernel_rfl⟩
theorem ok27 : CallOk Try.prog 27 := ⟨Try.f27, Try.func27, by kernel_rfl, by kernel_rfl⟩
theorem ok28 : CallOk Try.prog 28 := ⟨Try.f28, Try.func28, by kernel_rfl, by kernel_rfl⟩
theorem ok29 : CallOk Try.prog 29 := ⟨Try.f29, Try.func29, by kernel_rfl, by kernel_rfl⟩
theorem ok30 : CallOk Try.prog 30 := ⟨Try.f30, Try.func30, by kernel_rfl, by kernel_rfl⟩
theorem ok31 : CallOk Try.prog 31 := ⟨Try.f31, Try.func31, by kernel_rfl, by kernel_rfl⟩
theorem ok32 : CallOk Try.prog 32 := ⟨Try.f32, Try.func32, by kernel_rfl, by kernel_rfl⟩
theorem ok33 : CallOk Try.prog 33 := ⟨Try.f33, Try.func33, by kernel_rfl, by kernel_rfl⟩
theorem ok34 : CallOk Try.prog 34 := ⟨Try.f34, Try.func34, by kernel_rfl, by kernel_rfl⟩
theorem ok35 : CallOk Try.prog 35 := ⟨Try.f35, Try.func35, by kernel_rfl, by kernel_rfl⟩
theorem ok36 : CallOk Try.prog 36 := ⟨Try.f36, Try.func36, by kernel_rfl, by kernel_rfl⟩
theorem ok38 : CallOk Try.prog 38 := ⟨Try.f38, Try.func38, by kernel_rfl, by kernel_rfl⟩
theorem ok39 : CallOk Try.prog 39 := ⟨Try.f39, Try.func39, by kernel_rfl, by kernel_rfl⟩
theorem ok40 : CallOk Try.prog 40 := ⟨Try.f40, Try.func40, by kernel_rfl, by kernel_rfl⟩
theorem ok41 : CallOk Try.prog 41 := ⟨Try.f41, Try.func41, by kernel_rfl, by kernel_rfl⟩
theorem ok42 : CallOk Try.prog 42 := ⟨Try.f42, Try.func42, by kernel_rfl, by kernel_rfl⟩
theorem ok43 : CallOk Try.prog 43 := ⟨Try.f43, Try.func43, by kernel_rfl, by kernel_rfl⟩
theorem ok54 : CallOk Try.prog 54 := ⟨Try.f54, Try.func54, by kernel_rfl, by kernel_rfl⟩
theorem ok60 : CallOk Try.prog 60 := ⟨Try.f60, Try.func60, by kernel_rfl, by kernel_rfl⟩
theorem ok62 : CallOk Try.prog 62 := ⟨Try.f62, Try.func62, by kernel_rfl, by kernel_rfl⟩
theorem ok64 : CallOk Try.prog 64 := ⟨Try.f64, Try.func64, by kernel_rfl, by kernel_rfl⟩
theorem ok65 : CallOk Try.prog 65 := ⟨Try.f65, Try.func65, by kernel_rfl, by kernel_rfl⟩
theorem ok68 : CallOk Try.prog 68 := ⟨Try.f68, Try.func68, by kernel_rfl, by kernel_rfl⟩
theorem ok69 : CallOk Try.prog 69 := ⟨Try.f69, Try.func69, by kernel_rfl, by kernel_rfl⟩
theorem ok70 : CallOk Try.prog 70 := ⟨Try.f70, Try.func70, by kernel_rfl, by kernel_rfl⟩
theorem ok71 : CallOk Try.prog 71 := ⟨Try.f71, Try.func71, by kernel_rfl, by kernel_rfl⟩
theorem ok72 : CallOk Try.prog 72 := ⟨Try.f72, Try.func72, by kernel_rfl, by kernel_rfl⟩
theorem ok73 : CallOk Try.prog 73 := ⟨Try.f73, Try.func73, by kernel_rfl, by kernel_rfl⟩
theorem ok74 : CallOk Try.prog 74 := ⟨Try.f74, Try.func74, by kernel_rfl, by kernel_rfl⟩
theorem ok75 : CallOk Try.prog 75 := ⟨Try.f75, Try.func75, by kernel_rfl, by kernel_rfl⟩
theorem ok77 : CallOk Try.prog 77 := ⟨Try.f77, Try.func77, by kernel_rfl, by kernel_rfl⟩
theorem ok79 : CallOk Try.prog 79 := ⟨Try.f79, Try.func79, by kernel_rfl, by kernel_rfl⟩
theorem ok84 : CallOk Try.prog 84 := ⟨Try.f84, Try.func84, by kernel_rfl, by kernel_rfl⟩
theorem ok85 : CallOk Try.prog 85 := ⟨Try.f85, Try.func85, by kernel_rfl, by kernel_rfl⟩
theorem ok86 : CallOk Try.prog 86 := ⟨Try.f86, Try.func86, by kernel_rfl, by kernel_rfl⟩
theorem ok92 : CallOk Try.prog 92 := ⟨Try.f92, Try.func92, by kernel_rfl, by kernel_rfl⟩
theorem ok93 : CallOk Try.prog 93 := ⟨Try.f93, Try.func93, by kernel_rfl, by kernel_rfl⟩
theorem ok94 : CallOk Try.prog 94 := ⟨Try.f94, Try.func94, by kernel_rfl, by kernel_rfl⟩
theorem ok96 : CallOk Try.prog 96 := ⟨Try.f96, Try.func96, by kernel_rfl, by kernel_rfl⟩
theorem ok98 : CallOk Try.prog 98 := ⟨Try.f98, Try.func98, by kernel_rfl, by kernel_rfl⟩
theorem pl106 : PlacesIs Try.prog 106 [(0, 1), (1, 1)] := by unfold PlacesIs; kernel_rfl
theorem pl25 : PlacesIs Try.prog 25 [(0, 1), (1, 1), (2, 1)] := by unfold PlacesIs; kernel_rfl
theorem pl46 : PlacesIs Try.prog 46 [(0, 1), (1, 1), (2, 1)] := by unfold PlacesIs; kernel_rfl
theorem pl48 : PlacesIs Try.prog 48 [(0, 3), (3, 1)] := by unfold PlacesIs; kernel_rfl
theorem sz23 : SzIs Try.prog 23 3 := by unfold SzIs; kernel_rfl
theorem sz25 : SzIs Try.prog 25 3 := by unfold SzIs; kernel_rfl
theorem sz28 : SzIs Try.prog 28 1 := by unfold SzIs; kernel_rfl
theorem sz3 : SzIs Try.prog 3 1 := by unfold SzIs; kernel_rfl
theorem sz32 : SzIs Try.prog 32 1 := by unfold SzIs; kernel_rfl
theorem sz34 : SzIs Try.prog 34 3 := by unfold SzIs; kernel_rfl
theorem sz37 : SzIs Try.prog 37 3 := by unfold SzIs; kernel_rfl
theorem sz4 : SzIs Try.prog 4 1 := by unfold SzIs; kernel_rfl
theorem sz41 : SzIs Try.prog 41 3 := by unfold SzIs; kernel_rfl
theorem sz43 : SzIs Try.prog 43 4 := by unfold SzIs; kernel_rfl
theorem sz46 : SzIs Try.prog 46 3 := by unfold SzIs; kernel_rfl
theorem sz48 : SzIs Try.prog 48 4 := by unfold SzIs; kernel_rfl
theorem sz5 : SzIs Try.prog 5 1 := by unfold SzIs; kernel_rfl
theorem sz52 : SzIs Try.prog 52 5 := by unfold SzIs; kernel_rfl
theorem sz56 : SzIs Try.prog 56 5 := by unfold SzIs; kernel_rfl
theorem sz9 : SzIs Try.prog 9 1 := by unfold SzIs; kernel_rfl
theorem un104 : Try.prog.underlying 104 = some (.slice 9) := by kernel_rfl
theorem un112 : Try.prog.underlying 112 = some (.slice 4) := by kernel_rfl
theorem un28 : Try.prog.underlying 28 = some (.slice 5) := by kernel_rfl
theorem un3 : Try.prog.underlying 3 = some (.int .i64) := by kernel_rfl
theorem un32 : Try.prog.underlying 32 = some (.slice 3) := by kernel_rfl
theorem un4 : Try.prog.underlying 4 = some .bool := by kernel_rfl
theorem un5 : Try.prog.underlying 5 = some (.int .u8) := by kernel_rfl
theorem zr106 : ZeroIs Try.prog 106 (.agg (List.toArray [(.slice none 0 0), (.int .i64 (0:Int))])) := by unfold ZeroIs; kernel_rfl
theorem zr25 : ZeroIs Try.prog 25 (.agg (List.toArray [(.int .i64 (0:Int)), (.int .i64 (0:Int)), (.int .i64 (0:Int))])) := by unfold ZeroIs; kernel_rfl
theorem zr3 : ZeroIs Try.prog 3 (.int .i64 (0:Int)) := by unfold ZeroIs; kernel_rfl
theorem zr32 : ZeroIs Try.prog 32 (.slice none 0 0) := by unfold ZeroIs; kernel_rfl
theorem zr37 : ZeroIs Try.prog 37 (.agg (List.toArray [(.int .i64 (0:Int)), (.slice none 0 0), (.int .i64 (0:Int))])) := by unfold ZeroIs; kernel_rfl
theorem zr4 : ZeroIs Try.prog 4 (.bool false) := by unfold ZeroIs; kernel_rfl
theorem zr46 : ZeroIs Try.prog 46 (.agg (List.toArray [(.slice none 0 0), (.slice none 0 0), (.slice none 0 0)])) := by unfold ZeroIs; kernel_rfl
theorem zr48 : ZeroIs Try.prog 48 (.agg (List.toArray [(.slice none 0 0), (.slice none 0 0), (.slice none 0 0), (.slice none 0 0)])) := by unfold ZeroIs; kernel_rfl
theorem zr56 : ZeroIs Try.prog 56 (.agg (List.toArray [(.slice none 0 0), (.slice none 0 0), (.slice none 0 0), (.slice none 0 0), (.slice none 0 0)])) := by unfold ZeroIs; kernel_rfl
theorem zr9 : ZeroIs Try.prog 9 (.string (⟨#[]⟩ : ByteArray)) := by unfold ZeroIs; kernel_rfl
end Go.Proofs.Ytjcbalhdppmdmaa.F
