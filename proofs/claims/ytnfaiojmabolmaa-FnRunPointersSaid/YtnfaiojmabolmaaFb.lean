/- Facts of the program that the generator asks for: its types and which functions have a body. -/
import Derived.Test.YtnfaiojmabolmaaSl
import Derived.Test.YtnfaiojmabolmaaProg
namespace Go.Proofs.Ytnfaiojmabolmaa.F
open Go Go.RowKit Go.Proofs.Ytnfaiojmabolmaa.S
theorem follows_any : Try.prog.follows .mixedOrders = true := by kernel_rfl
theorem ag22 : AggIs Try.prog 22 false := by unfold AggIs; kernel_rfl
theorem ag23 : AggIs Try.prog 23 false := by unfold AggIs; kernel_rfl
theorem ag25 : AggIs Try.prog 25 true := by unfold AggIs; kernel_rfl
theorem ag27 : AggIs Try.prog 27 true := by unfold AggIs; kernel_rfl
theorem ag29 : AggIs Try.prog 29 true := by unfold AggIs; kernel_rfl
theorem ag3 : AggIs Try.prog 3 false := by unfold AggIs; kernel_rfl
theorem ag5 : AggIs Try.prog 5 false := by unfold AggIs; kernel_rfl
theorem ag9 : AggIs Try.prog 9 false := by unfold AggIs; kernel_rfl
theorem by3 : BytesIs Try.prog 3 8 := by unfold BytesIs; kernel_rfl
theorem fi25_0 : FieldIs Try.prog 25 0 23 0 := by unfold FieldIs; kernel_rfl
theorem fi25_1 : FieldIs Try.prog 25 1 23 1 := by unfold FieldIs; kernel_rfl
theorem fi25_2 : FieldIs Try.prog 25 2 23 2 := by unfold FieldIs; kernel_rfl
theorem fi27_0 : FieldIs Try.prog 27 0 25 0 := by unfold FieldIs; kernel_rfl
theorem fi27_1 : FieldIs Try.prog 27 1 23 3 := by unfold FieldIs; kernel_rfl
theorem fi29_0 : FieldIs Try.prog 29 0 3 0 := by unfold FieldIs; kernel_rfl
theorem fi29_1 : FieldIs Try.prog 29 1 3 1 := by unfold FieldIs; kernel_rfl
theorem fi29_2 : FieldIs Try.prog 29 2 3 2 := by unfold FieldIs; kernel_rfl
theorem fi50_0 : FieldIs Try.prog 50 0 22 0 := by unfold FieldIs; kernel_rfl
theorem fi50_1 : FieldIs Try.prog 50 1 3 1 := by unfold FieldIs; kernel_rfl
theorem ok10 : CallOk Try.prog 10 := ⟨Try.f10, Try.func10, by kernel_rfl, by kernel_rfl⟩
theorem ok11 : CallOk Try.prog 11 := ⟨Try.f11, Try.func11, by kernel_rfl, by kernel_rfl⟩
theorem ok12 : CallOk Try.prog 12 := ⟨Try.f12, Try.func12, by kernel_rfl, by kernel_rfl⟩
theorem ok13 : CallOk Try.prog 13 := ⟨Try.f13, Try.func13, by kernel_rfl, by kernel_rfl⟩
theorem ok14 : CallOk Try.prog 14 := ⟨Try.f14, Try.func14, by kernel_rfl, by kernel_rfl⟩
theorem ok15 : CallOk Try.prog 15 := ⟨Try.f15, Try.func15, by kernel_rfl, by kernel_rfl⟩
theorem ok16 : CallOk Try.prog 16 := ⟨Try.f16, Try.func16, by kernel_rfl, by kernel_rfl⟩
theorem ok17 : CallOk Try.prog 17 := ⟨Try.f17, Try.func17, by kernel_rfl, by kernel_rfl⟩
theorem ok18 : CallOk Try.prog 18 := ⟨Try.f18, Try.func18, by kernel_rfl, by kernel_rfl⟩
theorem ok19 : CallOk Try.prog 19 := ⟨Try.f19, Try.func19, by kernel_rfl, by kernel_rfl⟩
theorem ok20 : CallOk Try.prog 20 := ⟨Try.f20, Try.func20, by kernel_rfl, by kernel_rfl⟩
theorem ok21 : CallOk Try.prog 21 := ⟨Try.f21, Try.func21, by kernel_rfl, by kernel_rfl⟩
theorem ok22 : CallOk Try.prog 22 := ⟨Try.f22, Try.func22, by kernel_rfl, by kernel_rfl⟩
theorem ok23 : CallOk Try.prog 23 := ⟨Try.f23, Try.func23, by kernel_rfl, by kernel_rfl⟩
theorem ok24 : CallOk Try.prog 24 := ⟨Try.f24, Try.func24, by kernel_rfl, by kernel_rfl⟩
theorem ok25 : CallOk Try.prog 25 := ⟨Try.f25, Try.func25, by kernel_rfl, by kernel_rfl⟩
theorem ok26 : CallOk Try.prog 26 := ⟨Try.f26, Try.func26, by kernel_rfl, by kernel_rfl⟩
theorem ok27 : CallOk Try.prog 27 := ⟨Try.f27, Try.func27, by kernel_rfl, by kernel_rfl⟩
theorem ok28 : CallOk Try.prog 28 := ⟨Try.f28, Try.func28, by kernel_rfl, by kernel_rfl⟩
theorem ok29 : CallOk Try.prog 29 := ⟨Try.f29, Try.func29, by kernel_rfl, by kernel_rfl⟩
theorem ok30 : CallOk Try.prog 30 := ⟨Try.f30, Try.func30, by kernel_rfl, by kernel_rfl⟩
theorem ok31 : CallOk Try.prog 31 := ⟨Try.f31, Try.func31, by kernel_rfl, by kernel_rfl⟩
theorem ok32 : CallOk Try.prog 32 := ⟨Try.f32, Try.func32, by kernel_rfl, by kernel_rfl⟩
theorem ok33 : CallOk Try.prog 33 := ⟨Try.f33, Try.func33, by kernel_rfl, by kernel_rfl⟩
theorem ok34 : CallOk Try.prog 34 := ⟨Try.f34, Try.func34, by kernel_rfl, by kernel_rfl⟩
theorem ok35 : CallOk Try.prog 35 := ⟨Try.f35, Try.func35, by kernel_rfl, by kernel_rfl⟩
theorem ok36 : CallOk Try.prog 36 := ⟨Try.f36, Try.func36, by kernel_rfl, by kernel_rfl⟩
theorem ok37 : CallOk Try.prog 37 := ⟨Try.f37, Try.func37, by kernel_rfl, by kernel_rfl⟩
theorem ok38 : CallOk Try.prog 38 := ⟨Try.f38, Try.func38, by kernel_rfl, by kernel_rfl⟩
theorem ok39 : CallOk Try.prog 39 := ⟨Try.f39, Try.func39, by kernel_rfl, by kernel_rfl⟩
theorem ok40 : CallOk Try.prog 40 := ⟨Try.f40, Try.func40, by kernel_rfl, by kernel_rfl⟩
theorem ok41 : CallOk Try.prog 41 := ⟨Try.f41, Try.func41, by kernel_rfl, by kernel_rfl⟩
theorem ok42 : CallOk Try.prog 42 := ⟨Try.f42, Try.func42, by kernel_rfl, by kernel_rfl⟩
theorem ok43 : CallOk Try.prog 43 := ⟨Try.f43, Try.func43, by kernel_rfl, by kernel_rfl⟩
theorem ok44 : CallOk Try.prog 44 := ⟨Try.f44, Try.func44, by kernel_rfl, by kernel_rfl⟩
theorem ok45 : CallOk Try.prog 45 := ⟨Try.f45, Try.func45, by kernel_rfl, by kernel_rfl⟩
theorem ok6 : CallOk Try.prog 6 := ⟨Try.f6, Try.func6, by kernel_rfl, by kernel_rfl⟩
theorem ok7 : CallOk Try.prog 7 := ⟨Try.f7, Try.func7, by kernel_rfl, by kernel_rfl⟩
theorem ok8 : CallOk Try.prog 8 := ⟨Try.f8, Try.func8, by kernel_rfl, by kernel_rfl⟩
theorem ok9 : CallOk Try.prog 9 := ⟨Try.f9, Try.func9, by kernel_rfl, by kernel_rfl⟩
theorem pl25 : PlacesIs Try.prog 25 [(0, 1), (1, 1), (2, 1)] := by unfold PlacesIs; kernel_rfl
theorem pl27 : PlacesIs Try.prog 27 [(0, 3), (3, 1)] := by unfold PlacesIs; kernel_rfl
theorem pl29 : PlacesIs Try.prog 29 [(0, 1), (1, 1), (2, 1)] := by unfold PlacesIs; kernel_rfl
theorem pl50 : PlacesIs Try.prog 50 [(0, 1), (1, 1)] := by unfold PlacesIs; kernel_rfl
theorem sz22 : SzIs Try.prog 22 1 := by unfold SzIs; kernel_rfl
theorem sz23 : SzIs Try.prog 23 1 := by unfold SzIs; kernel_rfl
theorem sz25 : SzIs Try.prog 25 3 := by unfold SzIs; kernel_rfl
theorem sz27 : SzIs Try.prog 27 4 := by unfold SzIs; kernel_rfl
theorem sz29 : SzIs Try.prog 29 3 := by unfold SzIs; kernel_rfl
theorem sz3 : SzIs Try.prog 3 1 := by unfold SzIs; kernel_rfl
theorem sz5 : SzIs Try.prog 5 1 := by unfold SzIs; kernel_rfl
theorem sz9 : SzIs Try.prog 9 1 := by unfold SzIs; kernel_rfl
theorem un22 : Try.prog.underlying 22 = some (.slice 5) := by kernel_rfl
theorem un23 : Try.prog.underlying 23 = some (.slice 3) := by kernel_rfl
theorem un3 : Try.prog.underlying 3 = some (.int .i64) := by kernel_rfl
theorem un4 : Try.prog.underlying 4 = some .bool := by kernel_rfl
theorem un5 : Try.prog.underlying 5 = some (.int .u8) := by kernel_rfl
theorem un67 : Try.prog.underlying 67 = some (.slice 23) := by kernel_rfl
theorem un70 : Try.prog.underlying 70 = some (.slice 9) := by kernel_rfl
theorem zr23 : ZeroIs Try.prog 23 (.slice none 0 0) := by unfold ZeroIs; kernel_rfl
theorem zr25 : ZeroIs Try.prog 25 (.agg (List.toArray [(.slice none 0 0), (.slice none 0 0), (.slice none 0 0)])) := by unfold ZeroIs; kernel_rfl
theorem zr27 : ZeroIs Try.prog 27 (.agg (List.toArray [(.slice none 0 0), (.slice none 0 0), (.slice none 0 0), (.slice none 0 0)])) := by unfold ZeroIs; kernel_rfl
theorem zr29 : ZeroIs Try.prog 29 (.agg (List.toArray [(.int .i64 (0:Int)), (.int .i64 (0:Int)), (.int .i64 (0:Int))])) := by unfold ZeroIs; kernel_rfl
theorem zr3 : ZeroIs Try.prog 3 (.int .i64 (0:Int)) := by unfold ZeroIs; kernel_rfl
theorem zr50 : ZeroIs Try.prog 50 (.agg (List.toArray [(.slice none 0 0), (.int .i64 (0:Int))])) := by unfold ZeroIs; kernel_rfl
theorem zr9 : ZeroIs Try.prog 9 (.string (⟨#[]⟩ : ByteArray)) := by unfold ZeroIs; kernel_rfl
end Go.Proofs.Ytnfaiojmabolmaa.F
