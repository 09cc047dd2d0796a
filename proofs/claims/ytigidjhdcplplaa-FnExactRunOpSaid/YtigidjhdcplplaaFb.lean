/- Facts of the program that the generator asks for: its types and which functions have a body. -/
import Derived.Test.YtigidjhdcplplaaSl
import Derived.Test.YtigidjhdcplplaaProg
namespace Go.Proofs.Ytigidjhdcplplaa.F
open Go Go.RowKit Go.Proofs.Ytigidjhdcplplaa.S
theorem follows_any : Try.prog.follows .mixedOrders = true := by kernel_rfl
theorem ag22 : AggIs Try.prog 22 false := by unfold AggIs; kernel_rfl
theorem ag25 : AggIs Try.prog 25 false := by unfold AggIs; kernel_rfl
theorem ag27 : AggIs Try.prog 27 true := by unfold AggIs; kernel_rfl
theorem ag29 : AggIs Try.prog 29 true := by unfold AggIs; kernel_rfl
theorem ag3 : AggIs Try.prog 3 false := by unfold AggIs; kernel_rfl
theorem ag39 : AggIs Try.prog 39 true := by unfold AggIs; kernel_rfl
theorem ag4 : AggIs Try.prog 4 false := by unfold AggIs; kernel_rfl
theorem ag41 : AggIs Try.prog 41 true := by unfold AggIs; kernel_rfl
theorem ag5 : AggIs Try.prog 5 false := by unfold AggIs; kernel_rfl
theorem ag57 : AggIs Try.prog 57 true := by unfold AggIs; kernel_rfl
theorem ag62 : AggIs Try.prog 62 true := by unfold AggIs; kernel_rfl
theorem ag9 : AggIs Try.prog 9 false := by unfold AggIs; kernel_rfl
theorem by3 : BytesIs Try.prog 3 8 := by unfold BytesIs; kernel_rfl
theorem by4 : BytesIs Try.prog 4 1 := by unfold BytesIs; kernel_rfl
theorem fi27_0 : FieldIs Try.prog 27 0 25 0 := by unfold FieldIs; kernel_rfl
theorem fi27_1 : FieldIs Try.prog 27 1 25 1 := by unfold FieldIs; kernel_rfl
theorem fi27_2 : FieldIs Try.prog 27 2 25 2 := by unfold FieldIs; kernel_rfl
theorem fi29_0 : FieldIs Try.prog 29 0 27 0 := by unfold FieldIs; kernel_rfl
theorem fi29_1 : FieldIs Try.prog 29 1 25 3 := by unfold FieldIs; kernel_rfl
theorem fi39_0 : FieldIs Try.prog 39 0 25 0 := by unfold FieldIs; kernel_rfl
theorem fi39_1 : FieldIs Try.prog 39 1 25 1 := by unfold FieldIs; kernel_rfl
theorem fi39_2 : FieldIs Try.prog 39 2 25 2 := by unfold FieldIs; kernel_rfl
theorem fi41_0 : FieldIs Try.prog 41 0 39 0 := by unfold FieldIs; kernel_rfl
theorem fi41_1 : FieldIs Try.prog 41 1 25 3 := by unfold FieldIs; kernel_rfl
theorem fi57_0 : FieldIs Try.prog 57 0 3 0 := by unfold FieldIs; kernel_rfl
theorem fi57_1 : FieldIs Try.prog 57 1 3 1 := by unfold FieldIs; kernel_rfl
theorem fi57_2 : FieldIs Try.prog 57 2 3 2 := by unfold FieldIs; kernel_rfl
theorem fi62_0 : FieldIs Try.prog 62 0 3 0 := by unfold FieldIs; kernel_rfl
theorem fi62_1 : FieldIs Try.prog 62 1 3 1 := by unfold FieldIs; kernel_rfl
theorem fi62_2 : FieldIs Try.prog 62 2 3 2 := by unfold FieldIs; kernel_rfl
theorem fi89_0 : FieldIs Try.prog 89 0 22 0 := by unfold FieldIs; kernel_rfl
theorem fi89_1 : FieldIs Try.prog 89 1 3 1 := by unfold FieldIs; kernel_rfl
theorem ok101 : CallOk Try.prog 101 := ⟨Try.f101, Try.func101, by kernel_rfl, by kernel_rfl⟩
theorem ok15 : CallOk Try.prog 15 := ⟨Try.f15, Try.func15, by kernel_rfl, by kernel_rfl⟩
theorem ok16 : CallOk Try.prog 16 := ⟨Try.f16, Try.func16, by kernel_rfl, by kernel_rfl⟩
theorem ok17 : CallOk Try.prog 17 := ⟨Try.f17, Try.func17, by kernel_rfl, by kernel_rfl⟩
theorem ok18 : CallOk Try.prog 18 := ⟨Try.f18, Try.func18, by kernel_rfl, by kernel_rfl⟩
theorem ok19 : CallOk Try.prog 19 := ⟨Try.f19, Try.func19, by kernel_rfl, by kernel_rfl⟩
theorem ok20 : CallOk Try.prog 20 := ⟨Try.f20, Try.func20, by kernel_rfl, by kernel_rfl⟩
theorem ok21 : CallOk Try.prog 21 := ⟨Try.f21, Try.func21, by kernel_rfl, by kernel_rfl⟩
theorem ok22 : CallOk Try.prog 22 := ⟨Try.f22, Try.func22, by kernel_rfl, by kernel_rfl⟩
theorem ok23 : CallOk Try.prog 23 := ⟨Try.f23, Try.func23, by kernel_rfl, by kernel_rfl⟩
theorem ok24 : CallOk Try.prog 24 := ⟨Try.f24, Try.func24, by kernel_rfl, by kernel_rfl⟩
theorem ok25 : CallOk Try.prog 25 := ⟨Try.f25, Try.func25, by kernel_rfl, by kernel_rfl⟩
theorem ok26 : CallOk Try.prog 26 := ⟨Try.f26, Try.func26, by kernel_rfl, by kernel_rfl⟩
theorem ok27 : CallOk Try.prog 27 := ⟨Try.f27, Try.func27, by kernel_rfl, by kernel_rfl⟩
theorem ok28 : CallOk Try.prog 28 := ⟨Try.f28, Try.func28, by kernel_rfl, by kernel_rfl⟩
theorem ok29 : CallOk Try.prog 29 := ⟨Try.f29, Try.func29, by kernel_rfl, by kernel_rfl⟩
theorem ok30 : CallOk Try.prog 30 := ⟨Try.f30, Try.func30, by kernel_rfl, by kernel_rfl⟩
theorem ok31 : CallOk Try.prog 31 := ⟨Try.f31, Try.func31, by kernel_rfl, by kernel_rfl⟩
theorem ok32 : CallOk Try.prog 32 := ⟨Try.f32, Try.func32, by kernel_rfl, by kernel_rfl⟩
theorem ok33 : CallOk Try.prog 33 := ⟨Try.f33, Try.func33, by kernel_rfl, by kernel_rfl⟩
theorem ok34 : CallOk Try.prog 34 := ⟨Try.f34, Try.func34, by kernel_rfl, by kernel_rfl⟩
theorem ok35 : CallOk Try.prog 35 := ⟨Try.f35, Try.func35, by kernel_rfl, by kernel_rfl⟩
theorem ok36 : CallOk Try.prog 36 := ⟨Try.f36, Try.func36, by kernel_rfl, by kernel_rfl⟩
theorem ok37 : CallOk Try.prog 37 := ⟨Try.f37, Try.func37, by kernel_rfl, by kernel_rfl⟩
theorem ok38 : CallOk Try.prog 38 := ⟨Try.f38, Try.func38, by kernel_rfl, by kernel_rfl⟩
theorem ok39 : CallOk Try.prog 39 := ⟨Try.f39, Try.func39, by kernel_rfl, by kernel_rfl⟩
theorem ok40 : CallOk Try.prog 40 := ⟨Try.f40, Try.func40, by kernel_rfl, by kernel_rfl⟩
theorem ok41 : CallOk Try.prog 41 := ⟨Try.f41, Try.func41, by kernel_rfl, by kernel_rfl⟩
theorem ok42 : CallOk Try.prog 42 := ⟨Try.f42, Try.func42, by kernel_rfl, by kernel_rfl⟩
theorem ok43 : CallOk Try.prog 43 := ⟨Try.f43, Try.func43, by kernel_rfl, by kernel_rfl⟩
theorem ok44 : CallOk Try.prog 44 := ⟨Try.f44, Try.func44, by kernel_rfl, by kernel_rfl⟩
theorem ok45 : CallOk Try.prog 45 := ⟨Try.f45, Try.func45, by kernel_rfl, by kernel_rfl⟩
theorem ok46 : CallOk Try.prog 46 := ⟨Try.f46, Try.func46, by kernel_rfl, by kernel_rfl⟩
theorem ok47 : CallOk Try.prog 47 := ⟨Try.f47, Try.func47, by kernel_rfl, by kernel_rfl⟩
theorem ok48 : CallOk Try.prog 48 := ⟨Try.f48, Try.func48, by kernel_rfl, by kernel_rfl⟩
theorem ok49 : CallOk Try.prog 49 := ⟨Try.f49, Try.func49, by kernel_rfl, by kernel_rfl⟩
theorem ok50 : CallOk Try.prog 50 := ⟨Try.f50, Try.func50, by kernel_rfl, by kernel_rfl⟩
theorem ok51 : CallOk Try.prog 51 := ⟨Try.f51, Try.func51, by kernel_rfl, by kernel_rfl⟩
theorem ok52 : CallOk Try.prog 52 := ⟨Try.f52, Try.func52, by kernel_rfl, by kernel_rfl⟩
theorem ok53 : CallOk Try.prog 53 := ⟨Try.f53, Try.func53, by kernel_rfl, by kernel_rfl⟩
theorem ok54 : CallOk Try.prog 54 := ⟨Try.f54, Try.func54, by kernel_rfl, by kernel_rfl⟩
theorem ok55 : CallOk Try.prog 55 := ⟨Try.f55, Try.func55, by kernel_rfl, by kernel_rfl⟩
theorem ok56 : CallOk Try.prog 56 := ⟨Try.f56, Try.func56, by kernel_rfl, by kernel_rfl⟩
theorem ok57 : CallOk Try.prog 57 := ⟨Try.f57, Try.func57, by kernel_rfl, by kernel_rfl⟩
theorem ok58 : CallOk Try.prog 58 := ⟨Try.f58, Try.func58, by kernel_rfl, by kernel_rfl⟩
theorem ok59 : CallOk Try.prog 59 := ⟨Try.f59, Try.func59, by kernel_rfl, by kernel_rfl⟩
theorem ok60 : CallOk Try.prog 60 := ⟨Try.f60, Try.func60, by kernel_rfl, by kernel_rfl⟩
theorem ok61 : CallOk Try.prog 61 := ⟨Try.f61, Try.func61, by kernel_rfl, by kernel_rfl⟩
theorem ok62 : CallOk Try.prog 62 := ⟨Try.f62, Try.func62, by kernel_rfl, by kernel_rfl⟩
theorem ok63 : CallOk Try.prog 63 := ⟨Try.f63, Try.func63, by kernel_rfl, by kernel_rfl⟩
theorem ok64 : CallOk Try.prog 64 := ⟨Try.f64, Try.func64, by kernel_rfl, by kernel_rfl⟩
theorem ok65 : CallOk Try.prog 65 := ⟨Try.f65, Try.func65, by kernel_rfl, by kernel_rfl⟩
theorem ok66 : CallOk Try.prog 66 := ⟨Try.f66, Try.func66, by kernel_rfl, by kernel_rfl⟩
theorem ok67 : CallOk Try.prog 67 := ⟨Try.f67, Try.func67, by kernel_rfl, by kernel_rfl⟩
theorem ok68 : CallOk Try.prog 68 := ⟨Try.f68, Try.func68, by kernel_rfl, by kernel_rfl⟩
theorem ok69 : CallOk Try.prog 69 := ⟨Try.f69, Try.func69, by kernel_rfl, by kernel_rfl⟩
theorem ok70 : CallOk Try.prog 70 := ⟨Try.f70, Try.func70, by kernel_rfl, by kernel_rfl⟩
theorem ok71 : CallOk Try.prog 71 := ⟨Try.f71, Try.func71, by kernel_rfl, by kernel_rfl⟩
theorem ok72 : CallOk Try.prog 72 := ⟨Try.f72, Try.func72, by kernel_rfl, by kernel_rfl⟩
theorem ok73 : CallOk Try.prog 73 := ⟨Try.f73, Try.func73, by kernel_rfl, by kernel_rfl⟩
theorem ok74 : CallOk Try.prog 74 := ⟨Try.f74, Try.func74, by kernel_rfl, by kernel_rfl⟩
theorem ok75 : CallOk Try.prog 75 := ⟨Try.f75, Try.func75, by kernel_rfl, by kernel_rfl⟩
theorem ok76 : CallOk Try.prog 76 := ⟨Try.f76, Try.func76, by kernel_rfl, by kernel_rfl⟩
theorem ok77 : CallOk Try.prog 77 := ⟨Try.f77, Try.func77, by kernel_rfl, by kernel_rfl⟩
theorem ok78 : CallOk Try.prog 78 := ⟨Try.f78, Try.func78, by kernel_rfl, by kernel_rfl⟩
theorem ok79 : CallOk Try.prog 79 := ⟨Try.f79, Try.func79, by kernel_rfl, by kernel_rfl⟩
theorem ok80 : CallOk Try.prog 80 := ⟨Try.f80, Try.func80, by kernel_rfl, by kernel_rfl⟩
theorem ok81 : CallOk Try.prog 81 := ⟨Try.f81, Try.func81, by kernel_rfl, by kernel_rfl⟩
theorem ok82 : CallOk Try.prog 82 := ⟨Try.f82, Try.func82, by kernel_rfl, by kernel_rfl⟩
theorem ok83 : CallOk Try.prog 83 := ⟨Try.f83, Try.func83, by kernel_rfl, by kernel_rfl⟩
theorem ok84 : CallOk Try.prog 84 := ⟨Try.f84, Try.func84, by kernel_rfl, by kernel_rfl⟩
theorem ok85 : CallOk Try.prog 85 := ⟨Try.f85, Try.func85, by kernel_rfl, by kernel_rfl⟩
theorem ok86 : CallOk Try.prog 86 := ⟨Try.f86, Try.func86, by kernel_rfl, by kernel_rfl⟩
theorem ok87 : CallOk Try.prog 87 := ⟨Try.f87, Try.func87, by kernel_rfl, by kernel_rfl⟩
theorem ok88 : CallOk Try.prog 88 := ⟨Try.f88, Try.func88, by kernel_rfl, by kernel_rfl⟩
theorem ok89 : CallOk Try.prog 89 := ⟨Try.f89, Try.func89, by kernel_rfl, by kernel_rfl⟩
theorem ok90 : CallOk Try.prog 90 := ⟨Try.f90, Try.func90, by kernel_rfl, by kernel_rfl⟩
theorem ok91 : CallOk Try.prog 91 := ⟨Try.f91, Try.func91, by kernel_rfl, by kernel_rfl⟩
theorem ok92 : CallOk Try.prog 92 := ⟨Try.f92, Try.func92, by kernel_rfl, by kernel_rfl⟩
theorem ok93 : CallOk Try.prog 93 := ⟨Try.f93, Try.func93, by kernel_rfl, by kernel_rfl⟩
theorem ok94 : CallOk Try.prog 94 := ⟨Try.f94, Try.func94, by kernel_rfl, by kernel_rfl⟩
theorem ok95 : CallOk Try.prog 95 := ⟨Try.f95, Try.func95, by kernel_rfl, by kernel_rfl⟩
theorem ok96 : CallOk Try.prog 96 := ⟨Try.f96, Try.func96, by kernel_rfl, by kernel_rfl⟩
theorem ok97 : CallOk Try.prog 97 := ⟨Try.f97, Try.func97, by kernel_rfl, by kernel_rfl⟩
theorem ok98 : CallOk Try.prog 98 := ⟨Try.f98, Try.func98, by kernel_rfl, by kernel_rfl⟩
theorem ok99 : CallOk Try.prog 99 := ⟨Try.f99, Try.func99, by kernel_rfl, by kernel_rfl⟩
theorem pl27 : PlacesIs Try.prog 27 [(0, 1), (1, 1), (2, 1)] := by unfold PlacesIs; kernel_rfl
theorem pl29 : PlacesIs Try.prog 29 [(0, 3), (3, 1)] := by unfold PlacesIs; kernel_rfl
theorem pl57 : PlacesIs Try.prog 57 [(0, 1), (1, 1), (2, 1)] := by unfold PlacesIs; kernel_rfl
theorem pl89 : PlacesIs Try.prog 89 [(0, 1), (1, 1)] := by unfold PlacesIs; kernel_rfl
theorem sz22 : SzIs Try.prog 22 1 := by unfold SzIs; kernel_rfl
theorem sz25 : SzIs Try.prog 25 1 := by unfold SzIs; kernel_rfl
theorem sz27 : SzIs Try.prog 27 3 := by unfold SzIs; kernel_rfl
theorem sz29 : SzIs Try.prog 29 4 := by unfold SzIs; kernel_rfl
theorem sz3 : SzIs Try.prog 3 1 := by unfold SzIs; kernel_rfl
theorem sz39 : SzIs Try.prog 39 3 := by unfold SzIs; kernel_rfl
theorem sz4 : SzIs Try.prog 4 1 := by unfold SzIs; kernel_rfl
theorem sz41 : SzIs Try.prog 41 4 := by unfold SzIs; kernel_rfl
theorem sz5 : SzIs Try.prog 5 1 := by unfold SzIs; kernel_rfl
theorem sz57 : SzIs Try.prog 57 3 := by unfold SzIs; kernel_rfl
theorem sz62 : SzIs Try.prog 62 3 := by unfold SzIs; kernel_rfl
theorem sz9 : SzIs Try.prog 9 1 := by unfold SzIs; kernel_rfl
theorem un102 : Try.prog.underlying 102 = some (.slice 9) := by kernel_rfl
theorem un103 : Try.prog.underlying 103 = some (.int .u32) := by kernel_rfl
theorem un106 : Try.prog.underlying 106 = some (.int .u64) := by kernel_rfl
theorem un22 : Try.prog.underlying 22 = some (.slice 5) := by kernel_rfl
theorem un25 : Try.prog.underlying 25 = some (.slice 3) := by kernel_rfl
theorem un3 : Try.prog.underlying 3 = some (.int .i64) := by kernel_rfl
theorem un4 : Try.prog.underlying 4 = some .bool := by kernel_rfl
theorem un5 : Try.prog.underlying 5 = some (.int .u8) := by kernel_rfl
theorem un52 : Try.prog.underlying 52 = some (.slice 4) := by kernel_rfl
theorem un92 : Try.prog.underlying 92 = some (.slice 25) := by kernel_rfl
theorem un98 : Try.prog.underlying 98 = some (.int .u64) := by kernel_rfl
theorem zr25 : ZeroIs Try.prog 25 (.slice none 0 0) := by unfold ZeroIs; kernel_rfl
theorem zr27 : ZeroIs Try.prog 27 (.agg (List.toArray [(.slice none 0 0), (.slice none 0 0), (.slice none 0 0)])) := by unfold ZeroIs; kernel_rfl
theorem zr29 : ZeroIs Try.prog 29 (.agg (List.toArray [(.slice none 0 0), (.slice none 0 0), (.slice none 0 0), (.slice none 0 0)])) := by unfold ZeroIs; kernel_rfl
theorem zr3 : ZeroIs Try.prog 3 (.int .i64 (0:Int)) := by unfold ZeroIs; kernel_rfl
theorem zr4 : ZeroIs Try.prog 4 (.bool false) := by unfold ZeroIs; kernel_rfl
theorem zr57 : ZeroIs Try.prog 57 (.agg (List.toArray [(.int .i64 (0:Int)), (.int .i64 (0:Int)), (.int .i64 (0:Int))])) := by unfold ZeroIs; kernel_rfl
theorem zr89 : ZeroIs Try.prog 89 (.agg (List.toArray [(.slice none 0 0), (.int .i64 (0:Int))])) := by unfold ZeroIs; kernel_rfl
theorem zr9 : ZeroIs Try.prog 9 (.string (⟨#[]⟩ : ByteArray)) := by unfold ZeroIs; kernel_rfl
end Go.Proofs.Ytigidjhdcplplaa.F
