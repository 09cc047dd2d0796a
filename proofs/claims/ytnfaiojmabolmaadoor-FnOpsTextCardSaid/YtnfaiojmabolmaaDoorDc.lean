/- The kit's shelf laid over this seat's translation: which numbers its functions and types have here. -/
import Derived.Test.YtnfaiojmabolmaaDoorProg
import Derived.Shelf.Lays
import Derived.Shelf.Lays2
import Derived.KernelRfl
namespace Go.Proofs.YtnfaiojmabolmaaDoor.D
open Go Go.Shelf Go.Proofs
def ren146 : Ren :=
  {
    f := fun x =>
      match x with
      | 146 => 37
      | 221 => 48
      | 268 => 53
      | 138 => 54
      | 143 => 55
      | 195 => 62
      | 197 => 63
      | 218 => 64
      | 219 => 65
      | 260 => 73
      | 217 => 74
      | 225 => 75
      | 224 => 76
      | 267 => 77
      | 266 => 80
      | 314 => 81
      | n => n,
    t := fun x =>
      match x with
      | 9 => 9
      | 31 => 52
      | 3 => 3
      | 4 => 4
      | 0 => 0
      | 105 => 90
      | 21 => 21
      | 5 => 5
      | 46 => 100
      | 119 => 103
      | 139 => 106
      | 138 => 105
      | 146 => 107
      | 51 => 98
      | n => n,
    g := fun x =>
      match x with
      | 1 => 2
      | 3 => 3
      | 4 => 4
      | n => n }
theorem lays146 : Lays.n146 Tryd.prog ren146 :=
  { mixed := by kernel_rfl, f138 := Tryd.func54.trans (congrArg some (by kernel_rfl)),
    f143 := Tryd.func55.trans (congrArg some (by kernel_rfl)),
    f146 := Tryd.func37.trans (congrArg some (by kernel_rfl)),
    f195 := Tryd.func62.trans (congrArg some (by kernel_rfl)),
    f197 := Tryd.func63.trans (congrArg some (by kernel_rfl)),
    f217 := Tryd.func74.trans (congrArg some (by kernel_rfl)),
    f218 := Tryd.func64.trans (congrArg some (by kernel_rfl)),
    f219 := Tryd.func65.trans (congrArg some (by kernel_rfl)),
    f221 := Tryd.func48.trans (congrArg some (by kernel_rfl)),
    f224 := Tryd.func76.trans (congrArg some (by kernel_rfl)),
    f225 := Tryd.func75.trans (congrArg some (by kernel_rfl)),
    f260 := Tryd.func73.trans (congrArg some (by kernel_rfl)),
    f266 := Tryd.func80.trans (congrArg some (by kernel_rfl)),
    f267 := Tryd.func77.trans (congrArg some (by kernel_rfl)),
    f268 := Tryd.func53.trans (congrArg some (by kernel_rfl)),
    f314 := Tryd.func81.trans (congrArg some (by kernel_rfl)), t0 := Tryd.underlying0,
    a0 := Tryd.isAgg0, z0 := Tryd.sizeOf0, v0 := Tryd.zeroValue0, t3 := Tryd.underlying3, a3 := Tryd.isAgg3,
    z3 := Tryd.sizeOf3, v3 := Tryd.zeroValue3, t4 := Tryd.underlying4, a4 := Tryd.isAgg4, z4 := Tryd.sizeOf4,
    v4 := Tryd.zeroValue4, t5 := Tryd.underlying5, a5 := Tryd.isAgg5, z5 := Tryd.sizeOf5, v5 := Tryd.zeroValue5,
    t9 := Tryd.underlying9, a9 := Tryd.isAgg9, z9 := Tryd.sizeOf9, v9 := Tryd.zeroValue9, t21 := Tryd.underlying21,
    a21 := Tryd.isAgg21, z21 := Tryd.sizeOf21, v21 := Tryd.zeroValue21, t31 := Tryd.underlying52, a31 := Tryd.isAgg52,
    z31 := Tryd.sizeOf52, v31 := Tryd.zeroValue52, t46 := Tryd.underlying100, a46 := Tryd.isAgg100, z46 := Tryd.sizeOf100,
    v46 := Tryd.zeroValue100, t51 := Tryd.underlying98, a51 := Tryd.isAgg98, z51 := Tryd.sizeOf98,
    v51 := Tryd.zeroValue98, t105 := Tryd.underlying90, a105 := Tryd.isAgg90, z105 := Tryd.sizeOf90,
    v105 := Tryd.zeroValue90, t119 := Tryd.underlying103, a119 := Tryd.isAgg103, z119 := Tryd.sizeOf103,
    t138 := Tryd.underlying105, a138 := Tryd.isAgg105, z138 := Tryd.sizeOf105, v138 := Tryd.zeroValue105,
    t139 := Tryd.underlying106, a139 := Tryd.isAgg106, z139 := Tryd.sizeOf106, v139 := Tryd.zeroValue106,
    t146 := Tryd.underlying107, a146 := Tryd.isAgg107, z146 := Tryd.sizeOf107, v146 := Tryd.zeroValue107,
    g1 := by kernel_rfl, g3 := by kernel_rfl,
    g4 := by kernel_rfl }
def ren156 : Ren :=
  {
    f := fun x =>
      match x with
      | 156 => 43
      | 165 => 49
      | 166 => 50
      | 169 => 51
      | 240 => 56
      | 241 => 57
      | 276 => 66
      | 277 => 67
      | n => n,
    t := fun x =>
      match x with
      | 31 => 52
      | 9 => 9
      | 3 => 3
      | 4 => 4
      | 0 => 0
      | 20 => 20
      | 72 => 72
      | 76 => 76
      | 70 => 70
      | 37 => 34
      | 75 => 75
      | 127 => 82
      | 164 => 93
      | 5 => 5
      | 80 => 78
      | n => n,
    g := fun x =>
      have n := x;
      n }
theorem lays156 : Lays.n156 Tryd.prog ren156 :=
  { mixed := by kernel_rfl, f156 := Tryd.func43.trans (congrArg some (by kernel_rfl)),
    f165 := Tryd.func49.trans (congrArg some (by kernel_rfl)),
    f166 := Tryd.func50.trans (congrArg some (by kernel_rfl)),
    f169 := Tryd.func51.trans (congrArg some (by kernel_rfl)),
    f240 := Tryd.func56.trans (congrArg some (by kernel_rfl)),
    f241 := Tryd.func57.trans (congrArg some (by kernel_rfl)),
    f276 := Tryd.func66.trans (congrArg some (by kernel_rfl)),
    f277 := Tryd.func67.trans (congrArg some (by kernel_rfl)), t0 := Tryd.underlying0,
    a0 := Tryd.isAgg0, z0 := Tryd.sizeOf0, v0 := Tryd.zeroValue0, t3 := Tryd.underlying3, a3 := Tryd.isAgg3,
    z3 := Tryd.sizeOf3, v3 := Tryd.zeroValue3, t4 := Tryd.underlying4, a4 := Tryd.isAgg4, z4 := Tryd.sizeOf4,
    v4 := Tryd.zeroValue4, t9 := Tryd.underlying9, a9 := Tryd.isAgg9, z9 := Tryd.sizeOf9, v9 := Tryd.zeroValue9,
    t20 := Tryd.underlying20, a20 := Tryd.isAgg20, z20 := Tryd.sizeOf20, v20 := Tryd.zeroValue20,
    t31 := Tryd.underlying52, a31 := Tryd.isAgg52, z31 := Tryd.sizeOf52, v31 := Tryd.zeroValue52,
    t37 := Tryd.underlying34, a37 := Tryd.isAgg34, z37 := Tryd.sizeOf34, v37 := Tryd.zeroValue34,
    t70 := Tryd.underlying70, a70 := Tryd.isAgg70, z70 := Tryd.sizeOf70, v70 := Tryd.zeroValue70,
    t72 := Tryd.underlying72, a72 := Tryd.isAgg72, z72 := Tryd.sizeOf72, v72 := Tryd.zeroValue72,
    t75 := Tryd.underlying75, a75 := Tryd.isAgg75, z75 := Tryd.sizeOf75, v75 := Tryd.zeroValue75,
    t76 := Tryd.underlying76, a76 := Tryd.isAgg76, z76 := Tryd.sizeOf76, v76 := Tryd.zeroValue76,
    t127 := Tryd.underlying82, a127 := Tryd.isAgg82, z127 := Tryd.sizeOf82, v127 := Tryd.zeroValue82,
    t164 := Tryd.underlying93, a164 := Tryd.isAgg93, z164 := Tryd.sizeOf93, v164 := Tryd.zeroValue93 }
end Go.Proofs.YtnfaiojmabolmaaDoor.D
