/- Facts of the program that the generator asks for: its types and which functions have a body. -/
import Derived.Test.YtnfaiojmabolmaaDoorSq
import Derived.Test.YtnfaiojmabolmaaDoorProg
namespace Go.Proofs.YtnfaiojmabolmaaDoor.F
open Go Go.RowKit Go.Proofs.YtnfaiojmabolmaaDoor.S
theorem follows_any : Tryd.prog.follows .mixedOrders = true := by kernel_rfl
theorem ag23 : AggIs Tryd.prog 23 true := by unfold AggIs; kernel_rfl
theorem ag25 : AggIs Tryd.prog 25 true := by unfold AggIs; kernel_rfl
theorem ag3 : AggIs Tryd.prog 3 false := by unfold AggIs; kernel_rfl
theorem ag34 : AggIs Tryd.prog 34 false := by unfold AggIs; kernel_rfl
theorem ag5 : AggIs Tryd.prog 5 false := by unfold AggIs; kernel_rfl
theorem ag9 : AggIs Tryd.prog 9 false := by unfold AggIs; kernel_rfl
theorem by25 : BytesIs Tryd.prog 25 24 := by unfold BytesIs; kernel_rfl
theorem by9 : BytesIs Tryd.prog 9 16 := by unfold BytesIs; kernel_rfl
theorem eqt25 : EqT Tryd.prog 25 := by unfold EqT; kernel_rfl
theorem fi23_0 : FieldIs Tryd.prog 23 0 3 0 := by unfold FieldIs; kernel_rfl
theorem fi23_1 : FieldIs Tryd.prog 23 1 3 1 := by unfold FieldIs; kernel_rfl
theorem fi23_2 : FieldIs Tryd.prog 23 2 3 2 := by unfold FieldIs; kernel_rfl
theorem fi25_0 : FieldIs Tryd.prog 25 0 3 0 := by unfold FieldIs; kernel_rfl
theorem fi25_1 : FieldIs Tryd.prog 25 1 3 1 := by unfold FieldIs; kernel_rfl
theorem fi25_2 : FieldIs Tryd.prog 25 2 3 2 := by unfold FieldIs; kernel_rfl
theorem fi69_0 : FieldIs Tryd.prog 69 0 34 0 := by unfold FieldIs; kernel_rfl
theorem fi69_1 : FieldIs Tryd.prog 69 1 3 1 := by unfold FieldIs; kernel_rfl
theorem ok10 : CallOk Tryd.prog 10 := ⟨Tryd.f10, Tryd.func10, by kernel_rfl, by kernel_rfl⟩
theorem ok11 : CallOk Tryd.prog 11 := ⟨Tryd.f11, Tryd.func11, by kernel_rfl, by kernel_rfl⟩
theorem ok12 : CallOk Tryd.prog 12 := ⟨Tryd.f12, Tryd.func12, by kernel_rfl, by kernel_rfl⟩
theorem ok13 : CallOk Tryd.prog 13 := ⟨Tryd.f13, Tryd.func13, by kernel_rfl, by kernel_rfl⟩
theorem ok14 : CallOk Tryd.prog 14 := ⟨Tryd.f14, Tryd.func14, by kernel_rfl, by kernel_rfl⟩
theorem ok15 : CallOk Tryd.prog 15 := ⟨Tryd.f15, Tryd.func15, by kernel_rfl, by kernel_rfl⟩
theorem ok16 : CallOk Tryd.prog 16 := ⟨Tryd.f16, Tryd.func16, by kernel_rfl, by kernel_rfl⟩
theorem ok17 : CallOk Tryd.prog 17 := ⟨Tryd.f17, Tryd.func17, by kernel_rfl, by kernel_rfl⟩
theorem ok18 : CallOk Tryd.prog 18 := ⟨Tryd.f18, Tryd.func18, by kernel_rfl, by kernel_rfl⟩
theorem ok19 : CallOk Tryd.prog 19 := ⟨Tryd.f19, Tryd.func19, by kernel_rfl, by kernel_rfl⟩
theorem ok20 : CallOk Tryd.prog 20 := ⟨Tryd.f20, Tryd.func20, by kernel_rfl, by kernel_rfl⟩
theorem ok21 : CallOk Tryd.prog 21 := ⟨Tryd.f21, Tryd.func21, by kernel_rfl, by kernel_rfl⟩
theorem ok22 : CallOk Tryd.prog 22 := ⟨Tryd.f22, Tryd.func22, by kernel_rfl, by kernel_rfl⟩
theorem ok23 : CallOk Tryd.prog 23 := ⟨Tryd.f23, Tryd.func23, by kernel_rfl, by kernel_rfl⟩
theorem ok24 : CallOk Tryd.prog 24 := ⟨Tryd.f24, Tryd.func24, by kernel_rfl, by kernel_rfl⟩
theorem ok25 : CallOk Tryd.prog 25 := ⟨Tryd.f25, Tryd.func25, by kernel_rfl, by kernel_rfl⟩
theorem ok27 : CallOk Tryd.prog 27 := ⟨Tryd.f27, Tryd.func27, by kernel_rfl, by kernel_rfl⟩
theorem ok29 : CallOk Tryd.prog 29 := ⟨Tryd.f29, Tryd.func29, by kernel_rfl, by kernel_rfl⟩
theorem ok30 : CallOk Tryd.prog 30 := ⟨Tryd.f30, Tryd.func30, by kernel_rfl, by kernel_rfl⟩
theorem ok31 : CallOk Tryd.prog 31 := ⟨Tryd.f31, Tryd.func31, by kernel_rfl, by kernel_rfl⟩
theorem ok32 : CallOk Tryd.prog 32 := ⟨Tryd.f32, Tryd.func32, by kernel_rfl, by kernel_rfl⟩
theorem ok33 : CallOk Tryd.prog 33 := ⟨Tryd.f33, Tryd.func33, by kernel_rfl, by kernel_rfl⟩
theorem ok34 : CallOk Tryd.prog 34 := ⟨Tryd.f34, Tryd.func34, by kernel_rfl, by kernel_rfl⟩
theorem ok35 : CallOk Tryd.prog 35 := ⟨Tryd.f35, Tryd.func35, by kernel_rfl, by kernel_rfl⟩
theorem ok36 : CallOk Tryd.prog 36 := ⟨Tryd.f36, Tryd.func36, by kernel_rfl, by kernel_rfl⟩
theorem ok37 : CallOk Tryd.prog 37 := ⟨Tryd.f37, Tryd.func37, by kernel_rfl, by kernel_rfl⟩
theorem ok38 : CallOk Tryd.prog 38 := ⟨Tryd.f38, Tryd.func38, by kernel_rfl, by kernel_rfl⟩
theorem ok39 : CallOk Tryd.prog 39 := ⟨Tryd.f39, Tryd.func39, by kernel_rfl, by kernel_rfl⟩
theorem ok40 : CallOk Tryd.prog 40 := ⟨Tryd.f40, Tryd.func40, by kernel_rfl, by kernel_rfl⟩
theorem ok41 : CallOk Tryd.prog 41 := ⟨Tryd.f41, Tryd.func41, by kernel_rfl, by kernel_rfl⟩
theorem ok42 : CallOk Tryd.prog 42 := ⟨Tryd.f42, Tryd.func42, by kernel_rfl, by kernel_rfl⟩
theorem ok43 : CallOk Tryd.prog 43 := ⟨Tryd.f43, Tryd.func43, by kernel_rfl, by kernel_rfl⟩
theorem ok44 : CallOk Tryd.prog 44 := ⟨Tryd.f44, Tryd.func44, by kernel_rfl, by kernel_rfl⟩
theorem ok46 : CallOk Tryd.prog 46 := ⟨Tryd.f46, Tryd.func46, by kernel_rfl, by kernel_rfl⟩
theorem ok47 : CallOk Tryd.prog 47 := ⟨Tryd.f47, Tryd.func47, by kernel_rfl, by kernel_rfl⟩
theorem ok52 : CallOk Tryd.prog 52 := ⟨Tryd.f52, Tryd.func52, by kernel_rfl, by kernel_rfl⟩
theorem ok58 : CallOk Tryd.prog 58 := ⟨Tryd.f58, Tryd.func58, by kernel_rfl, by kernel_rfl⟩
theorem pl25 : PlacesIs Tryd.prog 25 [(0, 1), (1, 1), (2, 1)] := by unfold PlacesIs; kernel_rfl
theorem pl69 : PlacesIs Tryd.prog 69 [(0, 1), (1, 1)] := by unfold PlacesIs; kernel_rfl
theorem sz23 : SzIs Tryd.prog 23 3 := by unfold SzIs; kernel_rfl
theorem sz25 : SzIs Tryd.prog 25 3 := by unfold SzIs; kernel_rfl
theorem sz3 : SzIs Tryd.prog 3 1 := by unfold SzIs; kernel_rfl
theorem sz34 : SzIs Tryd.prog 34 1 := by unfold SzIs; kernel_rfl
theorem sz5 : SzIs Tryd.prog 5 1 := by unfold SzIs; kernel_rfl
theorem sz9 : SzIs Tryd.prog 9 1 := by unfold SzIs; kernel_rfl
theorem un2 : Tryd.prog.underlying 2 = some (.int .i64) := by kernel_rfl
theorem un28 : Tryd.prog.underlying 28 = some (.slice 25) := by kernel_rfl
theorem un3 : Tryd.prog.underlying 3 = some (.int .i64) := by kernel_rfl
theorem un34 : Tryd.prog.underlying 34 = some (.slice 5) := by kernel_rfl
theorem un4 : Tryd.prog.underlying 4 = some .bool := by kernel_rfl
theorem un44 : Tryd.prog.underlying 44 = some (.slice 23) := by kernel_rfl
theorem un5 : Tryd.prog.underlying 5 = some (.int .u8) := by kernel_rfl
theorem un51 : Tryd.prog.underlying 51 = some (.array 8 9) := by kernel_rfl
theorem un52 : Tryd.prog.underlying 52 = some (.slice 9) := by kernel_rfl
theorem un60 : Tryd.prog.underlying 60 = some (.slice 3) := by kernel_rfl
theorem un84 : Tryd.prog.underlying 84 = some (.int .u64) := by kernel_rfl
theorem un9 : Tryd.prog.underlying 9 = some .string := by kernel_rfl
theorem zr25 : ZeroIs Tryd.prog 25 (.agg (List.toArray [(.int .i64 (0:Int)), (.int .i64 (0:Int)), (.int .i64 (0:Int))])) := by unfold ZeroIs; kernel_rfl
theorem zr3 : ZeroIs Tryd.prog 3 (.int .i64 (0:Int)) := by unfold ZeroIs; kernel_rfl
theorem zr5 : ZeroIs Tryd.prog 5 (.int .u8 (0:Int)) := by unfold ZeroIs; kernel_rfl
theorem zr69 : ZeroIs Tryd.prog 69 (.agg (List.toArray [(.slice none 0 0), (.int .i64 (0:Int))])) := by unfold ZeroIs; kernel_rfl
theorem zr9 : ZeroIs Tryd.prog 9 (.string (⟨#[]⟩ : ByteArray)) := by unfold ZeroIs; kernel_rfl
end Go.Proofs.YtnfaiojmabolmaaDoor.F
