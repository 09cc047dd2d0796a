/- Pure functions, one for each of some functions of the program, printed by the generator of wip/gen. -/
import Derived.Test.YtnfaiojmabolmaaDoorX1
import Derived.Test.YtnfaiojmabolmaaDoorFa
namespace Go.Proofs.YtnfaiojmabolmaaDoor.F
open Go Go.RowKit Go.Proofs.YtnfaiojmabolmaaDoor.S
set_option linter.unusedVariables false
/-- spec.ColoredValid -/
def spec_ColoredValid.loop0 (K : Nat) (κ : Unit → Option Bool) (a0_3 : List Int) : Nat → Int → Option Bool
  | 0, _ => none
  | m + 1, p2 =>
    if p2 < (a0_3.length : Int) then
      if 0 ≤ p2 ∧ p2 < (a0_3.length : Int) then
      if (rd a0_3 p2) < (0:Int) then
        some false
      else
        if (rd a0_3 p2) > (2:Int) then
          some false
        else
          spec_ColoredValid.loop0 K κ a0_3 m (wrap64 (p2 + (1:Int)))
      else none
    else
      κ ()
def spec_ColoredValid.f (K : Nat) (a0_0 : List Int) (a0_1 : List Int) (a0_2 : List Int) (a0_3 : List Int) : Option Bool :=
  b1 (spec_HeapValid.f K a0_0 a0_1 a0_2) fun v1 =>
  if v1 = true then
    if (a0_3.length : Int) = (a0_0.length : Int) then
      spec_ColoredValid.loop0 K (fun _ =>
        some true) a0_3 K (0:Int)
    else
      some false
  else
    some false

/-- impl.colorsOk -/
def impl_colorsOk.loop0 (K : Nat) (κ : Unit → Option Bool) (a0 : List Int) : Nat → Int → Option Bool
  | 0, _ => none
  | m + 1, p2 =>
    if p2 < (a0.length : Int) then
      if 0 ≤ p2 ∧ p2 < (a0.length : Int) then
      if (rd a0 p2) < (0:Int) then
        some false
      else
        if (rd a0 p2) > (2:Int) then
          some false
        else
          impl_colorsOk.loop0 K κ a0 m (wrap64 (p2 + (1:Int)))
      else none
    else
      κ ()
def impl_colorsOk.f (K : Nat) (a0 : List Int) (a1 : Int) : Option Bool :=
  impl_colorsOk.loop0 K (fun _ =>
    some ((a0.length : Int) == a1)) a0 K (0:Int)

/-- spec.l3Shade -/
def spec_l3Shade.f (K : Nat) (a0 : List Int) (a1 : Int) : Option ((List Int)) :=
  if a1 = (-1:Int) then
    some a0
  else
    if 0 ≤ a1 ∧ a1 < (a0.length : Int) then
    if (rd a0 a1) = (0:Int) then
      some (a0.set a1.toNat (1:Int))
    else
      some a0
    else none

/-- impl.shade -/
def impl_shade.f (K : Nat) (a0 : List Int) (a1 : Int) : Option ((List Int)) :=
  if a1 = (-1:Int) then
    some a0
  else
    if 0 ≤ a1 ∧ a1 < (a0.length : Int) then
    if (rd a0 a1) = (0:Int) then
      some (a0.set a1.toNat (1:Int))
    else
      some a0
    else none

/-- spec.l3Copy -/
def spec_l3Copy.f (K : Nat) (a0_0 : List Int) (a0_1 : List Int) (a0_2 : List Int) (a0_3 : List Int) : Option ((List Int) × (List Int) × (List Int) × (List Int)) :=
  b3 (spec_l1Copy.f K a0_0 a0_1 a0_2) fun v1 v2 v3 =>
  if ([] : List Int).length + a0_3.length ≤ 1099511627776 then
  some (v1, v2, v3, (([] : List Int) ++ a0_3))
  else none

/-- spec.l3First -/
def spec_l3First.loop0 (K : Nat) (κ : Unit → Option Int) (a0_3 : List Int) (a1 : Int) : Nat → Int → Option Int
  | 0, _ => none
  | m + 1, p2 =>
    if p2 < (a0_3.length : Int) then
      if 0 ≤ p2 ∧ p2 < (a0_3.length : Int) then
      if (rd a0_3 p2) = a1 then
        some p2
      else
        spec_l3First.loop0 K κ a0_3 a1 m (wrap64 (p2 + (1:Int)))
      else none
    else
      κ ()
def spec_l3First.f (K : Nat) (a0_3 : List Int) (a1 : Int) : Option Int :=
  spec_l3First.loop0 K (fun _ =>
    some (-1:Int)) a0_3 a1 K (0:Int)

/-- spec.l3Black -/
def spec_l3Black.f (K : Nat) (a0_0 : List Int) (a0_1 : List Int) (a0_3 : List Int) (a1 : Int) : Option ((List Int)) :=
  if 0 ≤ a1 ∧ a1 < (a0_0.length : Int) then
  b1 (spec_l3Shade.f K a0_3 (rd a0_0 a1)) fun v1 =>
  if 0 ≤ a1 ∧ a1 < (a0_1.length : Int) then
  b1 (spec_l3Shade.f K v1 (rd a0_1 a1)) fun v2 =>
  if 0 ≤ a1 ∧ a1 < (v2.length : Int) then
  some (v2.set a1.toNat (2:Int))
  else none
  else none
  else none

/-- impl.ColoredValid -/
def impl_ColoredValid.f (K : Nat) (a0_0 : List Int) (a0_1 : List Int) (a0_2 : List Int) (a0_3 : List Int) : Option Bool :=
  b1 (impl_HeapValid.f K a0_0 a0_1 a0_2) fun v1 =>
  if v1 = true then
    b1 (impl_colorsOk.f K a0_3 (a0_0.length : Int)) fun v2 =>
    some v2
  else
    some false

/-- impl.fresh -/
def impl_fresh.f (K : Nat) (a0_0 : List Int) (a0_1 : List Int) (a0_2 : List Int) (a0_3 : List Int) : Option ((List Int) × (List Int) × (List Int) × (List Int)) :=
  b3 (impl_copied.f K a0_0 a0_1 a0_2) fun v1 v2 v3 =>
  b1 (slices_Clone_int.f K a0_3) fun v4 =>
  some (v1, v2, v3, v4)

/-- impl.look -/
def impl_look.f (K : Nat) (a0_0 : List Int) (a0_1 : List Int) (a1 : List Int) : Option (Bool × (List Int)) :=
  b1 (slices_Index_int.f K a1 (1:Int)) fun v1 =>
  if v1 < (0:Int) then
    some (false, a1)
  else
    if 0 ≤ v1 ∧ v1 < (a0_0.length : Int) then
    b1 (impl_shade.f K a1 (rd a0_0 v1)) fun v2 =>
    if 0 ≤ v1 ∧ v1 < (a0_1.length : Int) then
    b1 (impl_shade.f K v2 (rd a0_1 v1)) fun v3 =>
    if 0 ≤ v1 ∧ v1 < (v3.length : Int) then
    some (true, (v3.set v1.toNat (2:Int)))
    else none
    else none
    else none

/-- spec.MarkStep -/
def spec_MarkStep.f (K : Nat) (a0_0 : List Int) (a0_1 : List Int) (a0_2 : List Int) (a0_3 : List Int) : Option ((List Int) × (List Int) × (List Int) × (List Int) × Bool × Bool) :=
  b1 (spec_ColoredValid.f K a0_0 a0_1 a0_2 a0_3) fun v1 =>
  if v1 = true then
    b1 (spec_l3First.f K a0_3 (1:Int)) fun v2 =>
    if v2 < (0:Int) then
      b4 (spec_l3Copy.f K a0_0 a0_1 a0_2 a0_3) fun v3 v4 v5 v6 =>
      some (v3, v4, v5, v6, false, true)
    else
      b4 (spec_l3Copy.f K a0_0 a0_1 a0_2 a0_3) fun v7 v8 v9 v10 =>
      b1 (spec_l3Black.f K v7 v8 v10 v2) fun v11 =>
      some (v7, v8, v9, v11, true, true)
  else
    some (([] : List Int), ([] : List Int), ([] : List Int), ([] : List Int), false, false)

/-- spec.NewColored -/
def spec_NewColored.f (K : Nat) (a0_0 : List Int) (a0_1 : List Int) (a0_2 : List Int) : Option ((List Int) × (List Int) × (List Int) × (List Int) × Bool) :=
  b1 (spec_HeapValid.f K a0_0 a0_1 a0_2) fun v1 =>
  if v1 = true then
    b3 (spec_l1Copy.f K a0_0 a0_1 a0_2) fun v2 v3 v4 =>
    if 0 ≤ (a0_0.length : Int) ∧ (a0_0.length : Int) ≤ 1099511627776 then
    some (v2, v3, v4, (List.replicate (a0_0.length : Int).toNat (0:Int)), true)
    else none
  else
    some (([] : List Int), ([] : List Int), ([] : List Int), ([] : List Int), false)

/-- spec.ShadeRoots -/
def spec_ShadeRoots.loop0 (K : Nat) (κ : (List Int) → Option ((List Int) × (List Int) × (List Int) × (List Int) × Bool)) (a0_2 : List Int) : Nat → Int → (List Int) → Option ((List Int) × (List Int) × (List Int) × (List Int) × Bool)
  | 0, _, _ => none
  | m + 1, p2, l2 =>
    if p2 < (a0_2.length : Int) then
      if 0 ≤ p2 ∧ p2 < (a0_2.length : Int) then
      b1 (spec_l3Shade.f K l2 (rd a0_2 p2)) fun v9 =>
      spec_ShadeRoots.loop0 K κ a0_2 m (wrap64 (p2 + (1:Int))) v9
      else none
    else
      κ l2
def spec_ShadeRoots.f (K : Nat) (a0_0 : List Int) (a0_1 : List Int) (a0_2 : List Int) (a0_3 : List Int) : Option ((List Int) × (List Int) × (List Int) × (List Int) × Bool) :=
  b1 (spec_ColoredValid.f K a0_0 a0_1 a0_2 a0_3) fun v1 =>
  if v1 = true then
    b4 (spec_l3Copy.f K a0_0 a0_1 a0_2 a0_3) fun v2 v3 v4 v5 =>
    spec_ShadeRoots.loop0 K (fun l3 =>
      some (v2, v3, v4, l3, true)) a0_2 K (0:Int) v5
  else
    some (([] : List Int), ([] : List Int), ([] : List Int), ([] : List Int), false)

/-- spec.l3Draw -/
def spec_l3Draw.loop0 (K : Nat) (κ : Int → (List Int) → Option ((List Int) × (List Int) × (List Int) × (List Int) × Int)) (a0_0 : List Int) : Nat → Int → Int → (List Int) → Option ((List Int) × (List Int) × (List Int) × (List Int) × Int)
  | 0, _, _, _ => none
  | m + 1, p3, p4, l2 =>
    if p3 < (l2.length : Int) then
      b2 (spec_l13Rd_pick.f K a0_0 p4 (3:Int)) fun v18 v19 =>
      if 0 ≤ p3 ∧ p3 < (l2.length : Int) then
      spec_l3Draw.loop0 K κ a0_0 m (wrap64 (p3 + (1:Int))) v19 (l2.set p3.toNat v18)
      else none
    else
      κ p4 l2
def spec_l3Draw.loop1 (K : Nat) (κ : (List Int) → (List Int) → (List Int) → (List Int) → Option ((List Int) × (List Int) × (List Int) × (List Int) × Int)) : Nat → Int → (List Int) → (List Int) → (List Int) → (List Int) → Option ((List Int) × (List Int) × (List Int) × (List Int) × Int)
  | 0, _, _, _, _, _ => none
  | m + 1, p7, l8, l9, l10, l11 =>
    if p7 > (0:Int) then
      b6 (spec_MarkStep.f K l8 l9 l10 l11) fun v45 v46 v47 v48 v49 v50 =>
      spec_l3Draw.loop1 K κ  m (wrap64 (p7 - (1:Int))) v45 v46 v47 v48
    else
      κ l8 l9 l10 l11
def spec_l3Draw.f (K : Nat) (a0_0 : List Int) (a0_1 : Int) : Option ((List Int) × (List Int) × (List Int) × (List Int) × Int) :=
  b4 (spec_l1Draw.f K a0_0 a0_1) fun v1 v2 v3 v4 =>
  b5 (spec_NewColored.f K v1 v2 v3) fun v5 v6 v7 v8 v9 =>
  b2 (spec_l13Rd_pick.f K a0_0 v4 (3:Int)) fun v10 v11 =>
  if v10 = (0:Int) then
    spec_l3Draw.loop0 K (fun p5 l3 =>
      some (v5, v6, v7, l3, p5)) a0_0 K (0:Int) v11 v8
  else
    b5 (spec_ShadeRoots.f K v5 v6 v7 v8) fun v20 v21 v22 v23 v24 =>
    b2 (spec_l13Rd_pick.f K a0_0 v11 (4:Int)) fun v25 v26 =>
    spec_l3Draw.loop1 K (fun l12 l13 l14 l15 =>
      some (l12, l13, l14, l15, v26)) K v25 v20 v21 v22 v23

/-- spec.l3Wrong -/
def spec_l3Wrong.f (K : Nat) (a0_0 : List Int) (a0_1 : Int) (a1_0 : List Int) (a1_1 : List Int) (a1_2 : List Int) (a1_3 : List Int) : Option ((List Int) × (List Int) × (List Int) × (List Int) × Int) :=
  b4 (spec_l3Copy.f K a1_0 a1_1 a1_2 a1_3) fun v1 v2 v3 v4 =>
  b2 (spec_l13Rd_pick.f K a0_0 a0_1 (20:Int)) fun v5 v6 =>
  if v5 = (0:Int) then
    b2 (spec_l13Rd_pick.f K a0_0 v6 (v4.length : Int)) fun v7 v8 =>
    b2 (spec_l13Rd_num.f K a0_0 v8 ([(3:Int), (-1:Int), (0:Int)] : List Int)) fun v9 v10 =>
    if 0 ≤ v7 ∧ v7 < (v4.length : Int) then
    some (v1, v2, v3, (v4.set v7.toNat v9), v10)
    else none
  else
    if v5 = (1:Int) then
      if v4.length + ([(0:Int)] : List Int).length ≤ 1099511627776 then
      some (v1, v2, v3, (v4 ++ ([(0:Int)] : List Int)), v6)
      else none
    else
      if v5 = (2:Int) then
        b4 (spec_l1Wrong.f K a0_0 v6 v1 v2 v3) fun v11 v12 v13 v14 =>
        some (v11, v12, v13, v4, v14)
      else
        some (v1, v2, v3, v4, v6)

/-- spec.l3Case -/
def spec_l3Case.f (K : Nat) (a0 : List Int) : Option ((List Int) × (List Int) × (List Int) × (List Int)) :=
  b1 (spec_l13Open.f K a0) fun _ =>
  b5 (spec_l3Draw.f K (a0.take 2000) (0:Int)) fun v1 v2 v3 v4 v5 =>
  b5 (spec_l3Wrong.f K (a0.take 2000) v5 v1 v2 v3 v4) fun v6 v7 v8 v9 v10 =>
  some (v6, v7, v8, v9)

/-- impl.ColoredSame -/
def impl_ColoredSame.f (K : Nat) (a0_0 : List Int) (a0_1 : List Int) (a0_2 : List Int) (a0_3 : List Int) (a1_0 : List Int) (a1_1 : List Int) (a1_2 : List Int) (a1_3 : List Int) : Option Bool :=
  b1 (impl_HeapSame.f K a0_0 a0_1 a0_2 a1_0 a1_1 a1_2) fun v1 =>
  if v1 = true then
    b1 (slices_Equal_int.f K a0_3 a1_3) fun v2 =>
    some v2
  else
    some false

/-- spec.GcValid -/
def spec_GcValid.f (K : Nat) (a0_0 : List Int) (a0_1 : List Int) (a0_2 : List Int) (a0_3 : List Int) (a1_0 : Int) (a1_1 : List Int) (a1_2 : Int) : Option Bool :=
  b1 (spec_StoreValid.f K a0_0 a0_1 a0_2 a0_3) fun v1 =>
  if v1 = true then
    b1 (spec_ColoredValid.f K a0_0 a0_1 a0_2 a1_1) fun v2 =>
    if v2 = true then
      if a1_2 < (0:Int) then
        some false
      else
        if a1_0 = (0:Int) then
          some (a1_2 == (0:Int))
        else
          if a1_0 = (2:Int) then
            some (a1_2 == (0:Int))
          else
            if a1_0 = (1:Int) then
              some (decide (a1_2 < (a0_2.length : Int)))
            else
              if a1_0 = (3:Int) then
                some (decide (a1_2 < (a0_0.length : Int)))
              else
                some false
    else
      some false
  else
    some false

/-- impl.GcValid -/
def impl_GcValid.f (K : Nat) (a0_0 : List Int) (a0_1 : List Int) (a0_2 : List Int) (a0_3 : List Int) (a1_0 : Int) (a1_1 : List Int) (a1_2 : Int) : Option Bool :=
  b1 (impl_StoreValid.f K a0_0 a0_1 a0_2 a0_3) fun v1 =>
  if v1 = true then
    b1 (impl_colorsOk.f K a1_1 (a0_0.length : Int)) fun v2 =>
    if v2 = true then
      if a1_2 < (0:Int) then
        some false
      else
        if a1_0 = (0:Int) then
          some (a1_2 == (0:Int))
        else
          if a1_0 = (2:Int) then
            some (a1_2 == (0:Int))
          else
            if a1_0 = (1:Int) then
              some (decide (a1_2 < (a0_2.length : Int)))
            else
              if a1_0 = (3:Int) then
                some (decide (a1_2 < (a0_0.length : Int)))
              else
                some false
    else
      some false
  else
    some false

/-- spec.MarkAll -/
def spec_MarkAll.loop0 (K : Nat) (κ : (List Int) → Option ((List Int) × (List Int) × (List Int) × (List Int) × Bool)) (v2 : List Int) (v3 : List Int) : Nat → (List Int) → Option ((List Int) × (List Int) × (List Int) × (List Int) × Bool)
  | 0, _ => none
  | m + 1, l2 =>
    b1 (spec_l3First.f K l2 (1:Int)) fun v15 =>
    if v15 ≥ (0:Int) then
      b1 (spec_l3First.f K l2 (1:Int)) fun v16 =>
      b1 (spec_l3Black.f K v2 v3 l2 v16) fun v17 =>
      spec_MarkAll.loop0 K κ v2 v3 m v17
    else
      κ l2
def spec_MarkAll.f (K : Nat) (a0_0 : List Int) (a0_1 : List Int) (a0_2 : List Int) (a0_3 : List Int) : Option ((List Int) × (List Int) × (List Int) × (List Int) × Bool) :=
  b1 (spec_ColoredValid.f K a0_0 a0_1 a0_2 a0_3) fun v1 =>
  if v1 = true then
    b4 (spec_l3Copy.f K a0_0 a0_1 a0_2 a0_3) fun v2 v3 v4 v5 =>
    spec_MarkAll.loop0 K (fun l3 =>
      some (v2, v3, v4, l3, true)) v2 v3 K v5
  else
    some (([] : List Int), ([] : List Int), ([] : List Int), ([] : List Int), false)

/-- impl.MarkAll -/
def impl_MarkAll.loop0 (K : Nat) (κ : (List Int) → Option ((List Int) × (List Int) × (List Int) × (List Int) × Bool)) (v2 : List Int) (v3 : List Int) : Nat → (List Int) → Option ((List Int) × (List Int) × (List Int) × (List Int) × Bool)
  | 0, _ => none
  | m + 1, l2 =>
    b2 (impl_look.f K v2 v3 l2) fun v12 v13 =>
    if v12 = true then
      impl_MarkAll.loop0 K κ v2 v3 m v13
    else
      κ v13
def impl_MarkAll.f (K : Nat) (a0_0 : List Int) (a0_1 : List Int) (a0_2 : List Int) (a0_3 : List Int) : Option ((List Int) × (List Int) × (List Int) × (List Int) × Bool) :=
  b1 (impl_ColoredValid.f K a0_0 a0_1 a0_2 a0_3) fun v1 =>
  if v1 = true then
    b4 (impl_fresh.f K a0_0 a0_1 a0_2 a0_3) fun v2 v3 v4 v5 =>
    impl_MarkAll.loop0 K (fun l3 =>
      some (v2, v3, v4, l3, true)) v2 v3 K v5
  else
    some (([] : List Int), ([] : List Int), ([] : List Int), ([] : List Int), false)

/-- impl.CountColor -/
def impl_CountColor.loop0 (K : Nat) (κ : Int → Option Int) (a0_3 : List Int) (a1 : Int) : Nat → Int → Int → Option Int
  | 0, _, _ => none
  | m + 1, p3, p4 =>
    if p4 < (a0_3.length : Int) then
      if 0 ≤ p4 ∧ p4 < (a0_3.length : Int) then
      if (rd a0_3 p4) = a1 then
        impl_CountColor.loop0 K κ a0_3 a1 m (wrap64 (p3 + (1:Int))) (wrap64 (p4 + (1:Int)))
      else
        impl_CountColor.loop0 K κ a0_3 a1 m p3 (wrap64 (p4 + (1:Int)))
      else none
    else
      κ p3
def impl_CountColor.f (K : Nat) (a0_0 : List Int) (a0_1 : List Int) (a0_2 : List Int) (a0_3 : List Int) (a1 : Int) : Option Int :=
  b1 (impl_ColoredValid.f K a0_0 a0_1 a0_2 a0_3) fun v1 =>
  if v1 = true then
    impl_CountColor.loop0 K (fun p5 =>
      some p5) a0_3 a1 K (0:Int) (0:Int)
  else
    some (0:Int)

/-- laws.markGc -/
def laws_markGc.f (K : Nat) (a0_0 : Int) (a0_1 : List Int) (a0_2 : Int) (a1 : Int) : Option (Int × (List Int)) :=
  b2 (laws_markIntS.f K a0_1 a1) fun v1 v2 =>
  some (v1, v2)

/-- laws.heldGc -/
def laws_heldGc.f (K : Nat) (a0_0 : Int) (a0_1 : List Int) (a0_2 : Int) (a1 : Int) : Option Int :=
  b1 (laws_heldIntS.f K a0_1 a1) fun v1 =>
  if v1 < (0:Int) then
    some (-1:Int)
  else
    some v1

/-- impl.MarkStep -/
def impl_MarkStep.f (K : Nat) (a0_0 : List Int) (a0_1 : List Int) (a0_2 : List Int) (a0_3 : List Int) : Option ((List Int) × (List Int) × (List Int) × (List Int) × Bool × Bool) :=
  b1 (impl_ColoredValid.f K a0_0 a0_1 a0_2 a0_3) fun v1 =>
  if v1 = true then
    b4 (impl_fresh.f K a0_0 a0_1 a0_2 a0_3) fun v2 v3 v4 v5 =>
    b2 (impl_look.f K v2 v3 v5) fun v6 v7 =>
    some (v2, v3, v4, v7, v6, true)
  else
    some (([] : List Int), ([] : List Int), ([] : List Int), ([] : List Int), false, false)

/-- spec.DrawMarkAll -/
def spec_DrawMarkAll.f (K : Nat) (a0 : List Int) : Option ((List Int) × (List Int) × (List Int) × (List Int)) :=
  b4 (spec_l3Case.f K a0) fun v1 v2 v3 v4 =>
  some (v1, v2, v3, v4)

/-- impl.ColorHolds$1 -/
def impl_ColorHolds_1.f (K : Nat) (a0 : Int) (a1_3 : List Int) : Option Bool :=
  if a0 = (-1:Int) then
    some false
  else
    if 0 ≤ a0 ∧ a0 < (a1_3.length : Int) then
    some ((rd a1_3 a0) == (0:Int))
    else none

/-- impl.ColorHolds -/
def impl_ColorHolds.loop0 (K : Nat) (κ : Unit → Option Bool) (a0_0 : List Int) (a0_1 : List Int) (a0_3 : List Int) : Nat → Int → Option Bool
  | 0, _ => none
  | m + 1, p2 =>
    if p2 < (a0_3.length : Int) then
      if 0 ≤ p2 ∧ p2 < (a0_3.length : Int) then
      if (rd a0_3 p2) = (2:Int) then
        if 0 ≤ p2 ∧ p2 < (a0_0.length : Int) then
        b1 (impl_ColorHolds_1.f K (rd a0_0 p2) a0_3) fun v8 =>
        if v8 = true then
          some false
        else
          if 0 ≤ p2 ∧ p2 < (a0_1.length : Int) then
          b1 (impl_ColorHolds_1.f K (rd a0_1 p2) a0_3) fun v9 =>
          if v9 = true then
            some false
          else
            impl_ColorHolds.loop0 K κ a0_0 a0_1 a0_3 m (wrap64 (p2 + (1:Int)))
          else none
        else none
      else
        impl_ColorHolds.loop0 K κ a0_0 a0_1 a0_3 m (wrap64 (p2 + (1:Int)))
      else none
    else
      κ ()
def impl_ColorHolds.f (K : Nat) (a0_0 : List Int) (a0_1 : List Int) (a0_2 : List Int) (a0_3 : List Int) : Option Bool :=
  b1 (impl_ColoredValid.f K a0_0 a0_1 a0_2 a0_3) fun v1 =>
  if v1 = true then
    impl_ColorHolds.loop0 K (fun _ =>
      some true) a0_0 a0_1 a0_3 K (0:Int)
  else
    some false

/-- spec.l6Copy -/
def spec_l6Copy.f (K : Nat) (a0_0 : Int) (a0_1 : List Int) (a0_2 : Int) : Option (Int × (List Int) × Int) :=
  if ([] : List Int).length + a0_1.length ≤ 1099511627776 then
  some (a0_0, (([] : List Int) ++ a0_1), a0_2)
  else none

/-- laws.szColored -/
def laws_szColored.f (K : Nat) (a0_0 : List Int) (a0_1 : List Int) (a0_2 : List Int) (a0_3 : List Int) (a1 : Int) : Option Int :=
  b1 (laws_szHeap.f K a0_0 a0_1 a0_2 a1) fun v1 =>
  if v1 < (0:Int) then
    some (-1:Int)
  else
    b1 (laws_szIntS.f K a0_3 v1) fun v2 =>
    if v2 < (0:Int) then
      some (-1:Int)
    else
      some v2

/-- laws.toColored -/
def laws_toColored.f (K : Nat) (a0_0 : List Int) (a0_1 : List Int) (a0_2 : List Int) (a0_3 : List Int) : Option ((List Int) × (List Int) × (List Int) × (List Int)) :=
  b3 (laws_toHeap.f K a0_0 a0_1 a0_2) fun v1 v2 v3 =>
  b1 (laws_toIntS.f K a0_3) fun v4 =>
  some (v1, v2, v3, v4)

/-- laws.eqColored -/
def laws_eqColored.f (K : Nat) (a0_0 : List Int) (a0_1 : List Int) (a0_2 : List Int) (a0_3 : List Int) (a1_0 : List Int) (a1_1 : List Int) (a1_2 : List Int) (a1_3 : List Int) : Option Bool :=
  b1 (laws_eqHeap.f K a0_0 a0_1 a0_2 a1_0 a1_1 a1_2) fun v1 =>
  if v1 = true then
    b1 (laws_eqIntS.f K a0_3 a1_3) fun v2 =>
    if v2 = true then
      some true
    else
      some false
  else
    some false

/-- laws.markColored -/
def laws_markColored.f (K : Nat) (a0_0 : List Int) (a0_1 : List Int) (a0_2 : List Int) (a0_3 : List Int) (a1 : Int) : Option (Int × (List Int) × (List Int) × (List Int) × (List Int)) :=
  b4 (laws_markHeap.f K a0_0 a0_1 a0_2 a1) fun v1 v2 v3 v4 =>
  b2 (laws_markIntS.f K a0_3 v1) fun v5 v6 =>
  some (v5, v2, v3, v4, v6)

/-- laws.heldColored -/
def laws_heldColored.f (K : Nat) (a0_0 : List Int) (a0_1 : List Int) (a0_2 : List Int) (a0_3 : List Int) (a1 : Int) : Option Int :=
  b1 (laws_heldHeap.f K a0_0 a0_1 a0_2 a1) fun v1 =>
  if v1 < (0:Int) then
    some (-1:Int)
  else
    b1 (laws_heldIntS.f K a0_3 v1) fun v2 =>
    if v2 < (0:Int) then
      some (-1:Int)
    else
      some v2

/-- spec.ColorNew -/
def spec_ColorNew.f (K : Nat) (a0_0 : List Int) (a0_1 : List Int) (a0_2 : List Int) (a0_3 : List Int) (a1_0 : Int) (a1_1 : List Int) (a1_2 : Int) (a2 : Int) : Option (Int × (List Int) × Int × Bool) :=
  b1 (spec_GcValid.f K a0_0 a0_1 a0_2 a0_3 a1_0 a1_1 a1_2) fun v1 =>
  if v1 = true then
    b1 (spec_l1Cell.f K a0_0 a0_1 a0_2 a2) fun v2 =>
    if v2 = true then
      b3 (spec_l6Copy.f K a1_0 a1_1 a1_2) fun v3 v4 v5 =>
      if 0 ≤ a2 ∧ a2 < (v4.length : Int) then
      if a1_0 = (1:Int) then
        if 0 ≤ a2 ∧ a2 < ((v4.set a2.toNat (0:Int)).length : Int) then
        some (v3, ((v4.set a2.toNat (0:Int)).set a2.toNat (2:Int)), v5, true)
        else none
      else
        if a1_0 = (2:Int) then
          if 0 ≤ a2 ∧ a2 < ((v4.set a2.toNat (0:Int)).length : Int) then
          some (v3, ((v4.set a2.toNat (0:Int)).set a2.toNat (2:Int)), v5, true)
          else none
        else
          if a1_0 = (3:Int) then
            if a2 ≥ a1_2 then
              if 0 ≤ a2 ∧ a2 < ((v4.set a2.toNat (0:Int)).length : Int) then
              some (v3, ((v4.set a2.toNat (0:Int)).set a2.toNat (2:Int)), v5, true)
              else none
            else
              some (v3, (v4.set a2.toNat (0:Int)), v5, true)
          else
            some (v3, (v4.set a2.toNat (0:Int)), v5, true)
      else none
    else
      some ((0:Int), ([] : List Int), (0:Int), false)
  else
    some ((0:Int), ([] : List Int), (0:Int), false)

/-- impl.ColorNew -/
def impl_ColorNew.f (K : Nat) (a0_0 : List Int) (a0_1 : List Int) (a0_2 : List Int) (a0_3 : List Int) (a1_0 : Int) (a1_1 : List Int) (a1_2 : Int) (a2 : Int) : Option (Int × (List Int) × Int × Bool) :=
  b1 (impl_GcValid.f K a0_0 a0_1 a0_2 a0_3 a1_0 a1_1 a1_2) fun v1 =>
  if v1 = true then
    b1 (impl_has.f K a0_0 a0_1 a0_2 a2) fun v2 =>
    if v2 = true then
      b1 (slices_Clone_int.f K a1_1) fun v3 =>
      if 0 ≤ a2 ∧ a2 < (v3.length : Int) then
      if a1_0 = (1:Int) then
        if 0 ≤ a2 ∧ a2 < ((v3.set a2.toNat (0:Int)).length : Int) then
        some (a1_0, ((v3.set a2.toNat (0:Int)).set a2.toNat (2:Int)), a1_2, true)
        else none
      else
        if a1_0 = (2:Int) then
          if 0 ≤ a2 ∧ a2 < ((v3.set a2.toNat (0:Int)).length : Int) then
          some (a1_0, ((v3.set a2.toNat (0:Int)).set a2.toNat (2:Int)), a1_2, true)
          else none
        else
          if a1_0 = (3:Int) then
            if a2 ≥ a1_2 then
              if 0 ≤ a2 ∧ a2 < ((v3.set a2.toNat (0:Int)).length : Int) then
              some (a1_0, ((v3.set a2.toNat (0:Int)).set a2.toNat (2:Int)), a1_2, true)
              else none
            else
              some (a1_0, (v3.set a2.toNat (0:Int)), a1_2, true)
          else
            some (a1_0, (v3.set a2.toNat (0:Int)), a1_2, true)
      else none
    else
      some ((0:Int), ([] : List Int), (0:Int), false)
  else
    some ((0:Int), ([] : List Int), (0:Int), false)

/-- laws.FnExactColorNew -/
def laws_FnExactColorNew.f (K : Nat) (a0_0 : List Int) (a0_1 : List Int) (a0_2 : List Int) (a0_3 : List Int) (a1_0 : Int) (a1_1 : List Int) (a1_2 : Int) (a2 : Int) : Option Bool :=
  b1 (laws_szStore.f K a0_0 a0_1 a0_2 a0_3 (1048576:Int)) fun v1 =>
  if v1 < (0:Int) then
    some true
  else
    b1 (laws_szGc.f K a1_0 a1_1 a1_2 v1) fun v2 =>
    if v2 < (0:Int) then
      some true
    else
      b4 (laws_toStore.f K a0_0 a0_1 a0_2 a0_3) fun v3 v4 v5 v6 =>
      b3 (laws_toGc.f K a1_0 a1_1 a1_2) fun v7 v8 v9 =>
      b4 (spec_ColorNew.f K v3 v4 v5 v6 v7 v8 v9 a2) fun v10 v11 v12 v13 =>
      b4 (laws_toStore.f K a0_0 a0_1 a0_2 a0_3) fun v14 v15 v16 v17 =>
      b3 (laws_toGc.f K a1_0 a1_1 a1_2) fun v18 v19 v20 =>
      b4 (impl_ColorNew.f K v14 v15 v16 v17 v18 v19 v20 a2) fun v21 v22 v23 v24 =>
      b1 (laws_eqGc.f K v21 v22 v23 v10 v11 v12) fun v25 =>
      if v25 = true then
        if v24 = v13 then
          b4 (laws_toStore.f K a0_0 a0_1 a0_2 a0_3) fun v26 v27 v28 v29 =>
          b1 (laws_eqStore.f K v14 v15 v16 v17 v26 v27 v28 v29) fun v30 =>
          if v30 = true then
            b3 (laws_toGc.f K a1_0 a1_1 a1_2) fun v31 v32 v33 =>
            b1 (laws_eqGc.f K v18 v19 v20 v31 v32 v33) fun v34 =>
            if v34 = true then
              b5 (laws_markStore.f K v14 v15 v16 v17 (1:Int)) fun v35 v36 v37 v38 v39 =>
              b2 (laws_markGc.f K v18 v19 v20 v35) fun v40 v41 =>
              if v40 < (0:Int) then
                some false
              else
                b1 (laws_eqGc.f K v21 v22 v23 v10 v11 v12) fun v42 =>
                if v42 = true then
                  b2 (laws_markGc.f K v21 v22 v23 (1:Int)) fun v43 v44 =>
                  b1 (laws_heldGc.f K v21 v44 v23 (1:Int)) fun v45 =>
                  if v45 < (0:Int) then
                    some false
                  else
                    if v45 = v43 then
                      b4 (laws_toStore.f K a0_0 a0_1 a0_2 a0_3) fun v46 v47 v48 v49 =>
                      b3 (laws_toGc.f K a1_0 a1_1 a1_2) fun v50 v51 v52 =>
                      b4 (impl_ColorNew.f K v46 v47 v48 v49 v50 v51 v52 a2) fun v53 v54 v55 v56 =>
                      b1 (laws_eqGc.f K v53 v54 v55 v10 v11 v12) fun v57 =>
                      if v57 = true then
                        if v56 = v13 then
                          b1 (laws_heldGc.f K v21 v44 v23 (1:Int)) fun v58 =>
                          if v58 < (0:Int) then
                            some false
                          else
                            if v58 = v43 then
                              some true
                            else
                              some false
                        else
                          some false
                      else
                        some false
                    else
                      some false
                else
                  some false
            else
              some false
          else
            some false
        else
          some false
      else
        some false

/-- laws.FnExactGcValid -/
def laws_FnExactGcValid.f (K : Nat) (a0_0 : List Int) (a0_1 : List Int) (a0_2 : List Int) (a0_3 : List Int) (a1_0 : Int) (a1_1 : List Int) (a1_2 : Int) : Option Bool :=
  b1 (laws_szStore.f K a0_0 a0_1 a0_2 a0_3 (1048576:Int)) fun v1 =>
  if v1 < (0:Int) then
    some true
  else
    b1 (laws_szGc.f K a1_0 a1_1 a1_2 v1) fun v2 =>
    if v2 < (0:Int) then
      some true
    else
      b4 (laws_toStore.f K a0_0 a0_1 a0_2 a0_3) fun v3 v4 v5 v6 =>
      b3 (laws_toGc.f K a1_0 a1_1 a1_2) fun v7 v8 v9 =>
      b1 (spec_GcValid.f K v3 v4 v5 v6 v7 v8 v9) fun v10 =>
      b4 (laws_toStore.f K a0_0 a0_1 a0_2 a0_3) fun v11 v12 v13 v14 =>
      b3 (laws_toGc.f K a1_0 a1_1 a1_2) fun v15 v16 v17 =>
      b1 (impl_GcValid.f K v11 v12 v13 v14 v15 v16 v17) fun v18 =>
      if v18 = v10 then
        b4 (laws_toStore.f K a0_0 a0_1 a0_2 a0_3) fun v19 v20 v21 v22 =>
        b1 (laws_eqStore.f K v11 v12 v13 v14 v19 v20 v21 v22) fun v23 =>
        if v23 = true then
          b3 (laws_toGc.f K a1_0 a1_1 a1_2) fun v24 v25 v26 =>
          b1 (laws_eqGc.f K v15 v16 v17 v24 v25 v26) fun v27 =>
          if v27 = true then
            some true
          else
            some false
        else
          some false
      else
        some false

/-- laws.FnExactMarkAll -/
def laws_FnExactMarkAll.f (K : Nat) (a0_0 : List Int) (a0_1 : List Int) (a0_2 : List Int) (a0_3 : List Int) : Option Bool :=
  b1 (laws_szColored.f K a0_0 a0_1 a0_2 a0_3 (1048576:Int)) fun v1 =>
  if v1 < (0:Int) then
    some true
  else
    b4 (laws_toColored.f K a0_0 a0_1 a0_2 a0_3) fun v2 v3 v4 v5 =>
    b5 (spec_MarkAll.f K v2 v3 v4 v5) fun v6 v7 v8 v9 v10 =>
    b4 (laws_toColored.f K a0_0 a0_1 a0_2 a0_3) fun v11 v12 v13 v14 =>
    b5 (impl_MarkAll.f K v11 v12 v13 v14) fun v15 v16 v17 v18 v19 =>
    b1 (laws_eqColored.f K v15 v16 v17 v18 v6 v7 v8 v9) fun v20 =>
    if v20 = true then
      if v19 = v10 then
        b4 (laws_toColored.f K a0_0 a0_1 a0_2 a0_3) fun v21 v22 v23 v24 =>
        b1 (laws_eqColored.f K v11 v12 v13 v14 v21 v22 v23 v24) fun v25 =>
        if v25 = true then
          b5 (laws_markColored.f K v11 v12 v13 v14 (1:Int)) fun v26 v27 v28 v29 v30 =>
          if v26 < (0:Int) then
            some false
          else
            b1 (laws_eqColored.f K v15 v16 v17 v18 v6 v7 v8 v9) fun v31 =>
            if v31 = true then
              b5 (laws_markColored.f K v15 v16 v17 v18 (1:Int)) fun v32 v33 v34 v35 v36 =>
              b1 (laws_heldColored.f K v33 v34 v35 v36 (1:Int)) fun v37 =>
              if v37 < (0:Int) then
                some false
              else
                if v37 = v32 then
                  b4 (laws_toColored.f K a0_0 a0_1 a0_2 a0_3) fun v38 v39 v40 v41 =>
                  b5 (impl_MarkAll.f K v38 v39 v40 v41) fun v42 v43 v44 v45 v46 =>
                  b1 (laws_eqColored.f K v42 v43 v44 v45 v6 v7 v8 v9) fun v47 =>
                  if v47 = true then
                    if v46 = v10 then
                      b1 (laws_heldColored.f K v33 v34 v35 v36 (1:Int)) fun v48 =>
                      if v48 < (0:Int) then
                        some false
                      else
                        if v48 = v32 then
                          some true
                        else
                          some false
                    else
                      some false
                  else
                    some false
                else
                  some false
            else
              some false
        else
          some false
      else
        some false
    else
      some false

/-- laws.FnExactMarkStep -/
def laws_FnExactMarkStep.f (K : Nat) (a0_0 : List Int) (a0_1 : List Int) (a0_2 : List Int) (a0_3 : List Int) : Option Bool :=
  b1 (laws_szColored.f K a0_0 a0_1 a0_2 a0_3 (1048576:Int)) fun v1 =>
  if v1 < (0:Int) then
    some true
  else
    b4 (laws_toColored.f K a0_0 a0_1 a0_2 a0_3) fun v2 v3 v4 v5 =>
    b6 (spec_MarkStep.f K v2 v3 v4 v5) fun v6 v7 v8 v9 v10 v11 =>
    b4 (laws_toColored.f K a0_0 a0_1 a0_2 a0_3) fun v12 v13 v14 v15 =>
    b6 (impl_MarkStep.f K v12 v13 v14 v15) fun v16 v17 v18 v19 v20 v21 =>
    b1 (laws_eqColored.f K v16 v17 v18 v19 v6 v7 v8 v9) fun v22 =>
    if v22 = true then
      if v20 = v10 then
        if v21 = v11 then
          b4 (laws_toColored.f K a0_0 a0_1 a0_2 a0_3) fun v23 v24 v25 v26 =>
          b1 (laws_eqColored.f K v12 v13 v14 v15 v23 v24 v25 v26) fun v27 =>
          if v27 = true then
            b5 (laws_markColored.f K v12 v13 v14 v15 (1:Int)) fun v28 v29 v30 v31 v32 =>
            if v28 < (0:Int) then
              some false
            else
              b1 (laws_eqColored.f K v16 v17 v18 v19 v6 v7 v8 v9) fun v33 =>
              if v33 = true then
                b5 (laws_markColored.f K v16 v17 v18 v19 (1:Int)) fun v34 v35 v36 v37 v38 =>
                b1 (laws_heldColored.f K v35 v36 v37 v38 (1:Int)) fun v39 =>
                if v39 < (0:Int) then
                  some false
                else
                  if v39 = v34 then
                    b4 (laws_toColored.f K a0_0 a0_1 a0_2 a0_3) fun v40 v41 v42 v43 =>
                    b6 (impl_MarkStep.f K v40 v41 v42 v43) fun v44 v45 v46 v47 v48 v49 =>
                    b1 (laws_eqColored.f K v44 v45 v46 v47 v6 v7 v8 v9) fun v50 =>
                    if v50 = true then
                      if v48 = v10 then
                        if v49 = v11 then
                          b1 (laws_heldColored.f K v35 v36 v37 v38 (1:Int)) fun v51 =>
                          if v51 < (0:Int) then
                            some false
                          else
                            if v51 = v34 then
                              some true
                            else
                              some false
                        else
                          some false
                      else
                        some false
                    else
                      some false
                  else
                    some false
              else
                some false
          else
            some false
        else
          some false
      else
        some false
    else
      some false

/-- spec.NewGc -/
def spec_NewGc.f (K : Nat) (a0_0 : List Int) (a0_1 : List Int) (a0_2 : List Int) (a0_3 : List Int) : Option (Int × (List Int) × Int × Bool) :=
  b1 (spec_StoreValid.f K a0_0 a0_1 a0_2 a0_3) fun v1 =>
  if v1 = true then
    if 0 ≤ (a0_0.length : Int) ∧ (a0_0.length : Int) ≤ 1099511627776 then
    some ((0:Int), (List.replicate (a0_0.length : Int).toNat (0:Int)), (0:Int), true)
    else none
  else
    some ((0:Int), ([] : List Int), (0:Int), false)

/-- impl.NewGc -/
def impl_NewGc.f (K : Nat) (a0_0 : List Int) (a0_1 : List Int) (a0_2 : List Int) (a0_3 : List Int) : Option (Int × (List Int) × Int × Bool) :=
  b1 (impl_StoreValid.f K a0_0 a0_1 a0_2 a0_3) fun v1 =>
  if v1 = true then
    if 0 ≤ (a0_0.length : Int) ∧ (a0_0.length : Int) ≤ 1099511627776 then
    some ((0:Int), (List.replicate (a0_0.length : Int).toNat (0:Int)), (0:Int), true)
    else none
  else
    some ((0:Int), ([] : List Int), (0:Int), false)

/-- laws.FnExactNewGc -/
def laws_FnExactNewGc.f (K : Nat) (a0_0 : List Int) (a0_1 : List Int) (a0_2 : List Int) (a0_3 : List Int) : Option Bool :=
  b1 (laws_szStore.f K a0_0 a0_1 a0_2 a0_3 (1048576:Int)) fun v1 =>
  if v1 < (0:Int) then
    some true
  else
    b4 (laws_toStore.f K a0_0 a0_1 a0_2 a0_3) fun v2 v3 v4 v5 =>
    b4 (spec_NewGc.f K v2 v3 v4 v5) fun v6 v7 v8 v9 =>
    b4 (laws_toStore.f K a0_0 a0_1 a0_2 a0_3) fun v10 v11 v12 v13 =>
    b4 (impl_NewGc.f K v10 v11 v12 v13) fun v14 v15 v16 v17 =>
    b1 (laws_eqGc.f K v14 v15 v16 v6 v7 v8) fun v18 =>
    if v18 = true then
      if v17 = v9 then
        b4 (laws_toStore.f K a0_0 a0_1 a0_2 a0_3) fun v19 v20 v21 v22 =>
        b1 (laws_eqStore.f K v10 v11 v12 v13 v19 v20 v21 v22) fun v23 =>
        if v23 = true then
          b5 (laws_markStore.f K v10 v11 v12 v13 (1:Int)) fun v24 v25 v26 v27 v28 =>
          if v24 < (0:Int) then
            some false
          else
            b1 (laws_eqGc.f K v14 v15 v16 v6 v7 v8) fun v29 =>
            if v29 = true then
              b2 (laws_markGc.f K v14 v15 v16 (1:Int)) fun v30 v31 =>
              b1 (laws_heldGc.f K v14 v31 v16 (1:Int)) fun v32 =>
              if v32 < (0:Int) then
                some false
              else
                if v32 = v30 then
                  b4 (laws_toStore.f K a0_0 a0_1 a0_2 a0_3) fun v33 v34 v35 v36 =>
                  b4 (impl_NewGc.f K v33 v34 v35 v36) fun v37 v38 v39 v40 =>
                  b1 (laws_eqGc.f K v37 v38 v39 v6 v7 v8) fun v41 =>
                  if v41 = true then
                    if v40 = v9 then
                      b1 (laws_heldGc.f K v14 v31 v16 (1:Int)) fun v42 =>
                      if v42 < (0:Int) then
                        some false
                      else
                        if v42 = v30 then
                          some true
                        else
                          some false
                    else
                      some false
                  else
                    some false
                else
                  some false
            else
              some false
        else
          some false
      else
        some false
    else
      some false

/-- spec.ShadeGc -/
def spec_ShadeGc.f (K : Nat) (a0_0 : List Int) (a0_1 : List Int) (a0_2 : List Int) (a0_3 : List Int) (a1_0 : Int) (a1_1 : List Int) (a1_2 : Int) (a2 : Int) : Option (Int × (List Int) × Int × Bool) :=
  b1 (spec_GcValid.f K a0_0 a0_1 a0_2 a0_3 a1_0 a1_1 a1_2) fun v1 =>
  if v1 = true then
    b1 (spec_l1Cell.f K a0_0 a0_1 a0_2 a2) fun v2 =>
    if v2 = true then
      b3 (spec_l6Copy.f K a1_0 a1_1 a1_2) fun v3 v4 v5 =>
      if a1_0 = (1:Int) then
        b1 (spec_l3Shade.f K v4 a2) fun v6 =>
        some (v3, v6, v5, true)
      else
        if a1_0 = (2:Int) then
          b1 (spec_l3Shade.f K v4 a2) fun v7 =>
          some (v3, v7, v5, true)
        else
          some (v3, v4, v5, true)
    else
      some ((0:Int), ([] : List Int), (0:Int), false)
  else
    some ((0:Int), ([] : List Int), (0:Int), false)

/-- impl.ShadeGc -/
def impl_ShadeGc.f (K : Nat) (a0_0 : List Int) (a0_1 : List Int) (a0_2 : List Int) (a0_3 : List Int) (a1_0 : Int) (a1_1 : List Int) (a1_2 : Int) (a2 : Int) : Option (Int × (List Int) × Int × Bool) :=
  b1 (impl_GcValid.f K a0_0 a0_1 a0_2 a0_3 a1_0 a1_1 a1_2) fun v1 =>
  if v1 = true then
    b1 (impl_has.f K a0_0 a0_1 a0_2 a2) fun v2 =>
    if v2 = true then
      b1 (slices_Clone_int.f K a1_1) fun v3 =>
      if a1_0 = (1:Int) then
        b1 (impl_shade.f K v3 a2) fun v4 =>
        some (a1_0, v4, a1_2, true)
      else
        if a1_0 = (2:Int) then
          b1 (impl_shade.f K v3 a2) fun v5 =>
          some (a1_0, v5, a1_2, true)
        else
          some (a1_0, v3, a1_2, true)
    else
      some ((0:Int), ([] : List Int), (0:Int), false)
  else
    some ((0:Int), ([] : List Int), (0:Int), false)

/-- laws.FnExactShadeGc -/
def laws_FnExactShadeGc.f (K : Nat) (a0_0 : List Int) (a0_1 : List Int) (a0_2 : List Int) (a0_3 : List Int) (a1_0 : Int) (a1_1 : List Int) (a1_2 : Int) (a2 : Int) : Option Bool :=
  b1 (laws_szStore.f K a0_0 a0_1 a0_2 a0_3 (1048576:Int)) fun v1 =>
  if v1 < (0:Int) then
    some true
  else
    b1 (laws_szGc.f K a1_0 a1_1 a1_2 v1) fun v2 =>
    if v2 < (0:Int) then
      some true
    else
      b4 (laws_toStore.f K a0_0 a0_1 a0_2 a0_3) fun v3 v4 v5 v6 =>
      b3 (laws_toGc.f K a1_0 a1_1 a1_2) fun v7 v8 v9 =>
      b4 (spec_ShadeGc.f K v3 v4 v5 v6 v7 v8 v9 a2) fun v10 v11 v12 v13 =>
      b4 (laws_toStore.f K a0_0 a0_1 a0_2 a0_3) fun v14 v15 v16 v17 =>
      b3 (laws_toGc.f K a1_0 a1_1 a1_2) fun v18 v19 v20 =>
      b4 (impl_ShadeGc.f K v14 v15 v16 v17 v18 v19 v20 a2) fun v21 v22 v23 v24 =>
      b1 (laws_eqGc.f K v21 v22 v23 v10 v11 v12) fun v25 =>
      if v25 = true then
        if v24 = v13 then
          b4 (laws_toStore.f K a0_0 a0_1 a0_2 a0_3) fun v26 v27 v28 v29 =>
          b1 (laws_eqStore.f K v14 v15 v16 v17 v26 v27 v28 v29) fun v30 =>
          if v30 = true then
            b3 (laws_toGc.f K a1_0 a1_1 a1_2) fun v31 v32 v33 =>
            b1 (laws_eqGc.f K v18 v19 v20 v31 v32 v33) fun v34 =>
            if v34 = true then
              b5 (laws_markStore.f K v14 v15 v16 v17 (1:Int)) fun v35 v36 v37 v38 v39 =>
              b2 (laws_markGc.f K v18 v19 v20 v35) fun v40 v41 =>
              if v40 < (0:Int) then
                some false
              else
                b1 (laws_eqGc.f K v21 v22 v23 v10 v11 v12) fun v42 =>
                if v42 = true then
                  b2 (laws_markGc.f K v21 v22 v23 (1:Int)) fun v43 v44 =>
                  b1 (laws_heldGc.f K v21 v44 v23 (1:Int)) fun v45 =>
                  if v45 < (0:Int) then
                    some false
                  else
                    if v45 = v43 then
                      b4 (laws_toStore.f K a0_0 a0_1 a0_2 a0_3) fun v46 v47 v48 v49 =>
                      b3 (laws_toGc.f K a1_0 a1_1 a1_2) fun v50 v51 v52 =>
                      b4 (impl_ShadeGc.f K v46 v47 v48 v49 v50 v51 v52 a2) fun v53 v54 v55 v56 =>
                      b1 (laws_eqGc.f K v53 v54 v55 v10 v11 v12) fun v57 =>
                      if v57 = true then
                        if v56 = v13 then
                          b1 (laws_heldGc.f K v21 v44 v23 (1:Int)) fun v58 =>
                          if v58 < (0:Int) then
                            some false
                          else
                            if v58 = v43 then
                              some true
                            else
                              some false
                        else
                          some false
                      else
                        some false
                    else
                      some false
                else
                  some false
            else
              some false
          else
            some false
        else
          some false
      else
        some false

/-- spec.l6Swept -/
def spec_l6Swept.f (K : Nat) (a0_3 : List Int) (a1_0 : Int) (a1_1 : List Int) (a1_2 : Int) : Option Int :=
  if a1_0 = (3:Int) then
    if 0 ≤ a1_2 ∧ a1_2 < (a1_1.length : Int) then
    if (rd a1_1 a1_2) = (0:Int) then
      b1 (spec_l4At.f K a0_3 a1_2) fun v1 =>
      if v1 < (0:Int) then
        some a1_2
      else
        some (-1:Int)
    else
      some (-1:Int)
    else none
  else
    some (-1:Int)

/-- spec.SweptCell -/
def spec_SweptCell.f (K : Nat) (a0_0 : List Int) (a0_1 : List Int) (a0_2 : List Int) (a0_3 : List Int) (a1_0 : Int) (a1_1 : List Int) (a1_2 : Int) : Option Int :=
  b1 (spec_GcValid.f K a0_0 a0_1 a0_2 a0_3 a1_0 a1_1 a1_2) fun v1 =>
  if v1 = true then
    b1 (spec_l6Swept.f K a0_3 a1_0 a1_1 a1_2) fun v2 =>
    some v2
  else
    some (-1:Int)

/-- impl.SweptCell -/
def impl_SweptCell.f (K : Nat) (a0_0 : List Int) (a0_1 : List Int) (a0_2 : List Int) (a0_3 : List Int) (a1_0 : Int) (a1_1 : List Int) (a1_2 : Int) : Option Int :=
  b1 (impl_GcValid.f K a0_0 a0_1 a0_2 a0_3 a1_0 a1_1 a1_2) fun v1 =>
  if v1 = true then
    if a1_0 = (3:Int) then
      if 0 ≤ a1_2 ∧ a1_2 < (a1_1.length : Int) then
      if (rd a1_1 a1_2) = (0:Int) then
        b1 (slices_Contains_int.f K a0_3 a1_2) fun v2 =>
        if v2 = true then
          some (-1:Int)
        else
          some a1_2
      else
        some (-1:Int)
      else none
    else
      some (-1:Int)
  else
    some (-1:Int)

/-- laws.FnExactSweptCell -/
def laws_FnExactSweptCell.f (K : Nat) (a0_0 : List Int) (a0_1 : List Int) (a0_2 : List Int) (a0_3 : List Int) (a1_0 : Int) (a1_1 : List Int) (a1_2 : Int) : Option Bool :=
  b1 (laws_szStore.f K a0_0 a0_1 a0_2 a0_3 (1048576:Int)) fun v1 =>
  if v1 < (0:Int) then
    some true
  else
    b1 (laws_szGc.f K a1_0 a1_1 a1_2 v1) fun v2 =>
    if v2 < (0:Int) then
      some true
    else
      b4 (laws_toStore.f K a0_0 a0_1 a0_2 a0_3) fun v3 v4 v5 v6 =>
      b3 (laws_toGc.f K a1_0 a1_1 a1_2) fun v7 v8 v9 =>
      b1 (spec_SweptCell.f K v3 v4 v5 v6 v7 v8 v9) fun v10 =>
      b4 (laws_toStore.f K a0_0 a0_1 a0_2 a0_3) fun v11 v12 v13 v14 =>
      b3 (laws_toGc.f K a1_0 a1_1 a1_2) fun v15 v16 v17 =>
      b1 (impl_SweptCell.f K v11 v12 v13 v14 v15 v16 v17) fun v18 =>
      if v18 = v10 then
        b4 (laws_toStore.f K a0_0 a0_1 a0_2 a0_3) fun v19 v20 v21 v22 =>
        b1 (laws_eqStore.f K v11 v12 v13 v14 v19 v20 v21 v22) fun v23 =>
        if v23 = true then
          b3 (laws_toGc.f K a1_0 a1_1 a1_2) fun v24 v25 v26 =>
          b1 (laws_eqGc.f K v15 v16 v17 v24 v25 v26) fun v27 =>
          if v27 = true then
            some true
          else
            some false
        else
          some false
      else
        some false

/-- laws.FnMarkAll -/
def laws_FnMarkAll.loop0 (K : Nat) (κ : Unit → Option Bool) (v4 : List Int) (v8 : List Int) : Nat → Int → Option Bool
  | 0, _ => none
  | m + 1, p2 =>
    if p2 < (v4.length : Int) then
      if 0 ≤ p2 ∧ p2 < (v4.length : Int) then
      if (rd v4 p2) = (0:Int) then
        laws_FnMarkAll.loop0 K κ v4 v8 m (wrap64 (p2 + (1:Int)))
      else
        if 0 ≤ p2 ∧ p2 < (v8.length : Int) then
        if (rd v8 p2) = (2:Int) then
          laws_FnMarkAll.loop0 K κ v4 v8 m (wrap64 (p2 + (1:Int)))
        else
          some false
        else none
      else none
    else
      κ ()
def laws_FnMarkAll.f (K : Nat) (a0 : List Int) : Option Bool :=
  if (a0.length : Int) > (1048576:Int) then
    some true
  else
    b4 (spec_DrawMarkAll.f K a0) fun v1 v2 v3 v4 =>
    b5 (impl_MarkAll.f K v1 v2 v3 v4) fun v5 v6 v7 v8 v9 =>
    b5 (spec_MarkAll.f K v1 v2 v3 v4) fun v10 v11 v12 v13 v14 =>
    b1 (impl_ColoredSame.f K v5 v6 v7 v8 v10 v11 v12 v13) fun v15 =>
    if v15 = true then
      if v9 = v14 then
        if v9 = true then
          laws_FnMarkAll.loop0 K (fun _ =>
            b5 (impl_MarkAll.f K v5 v6 v7 v8) fun v16 v17 v18 v19 v20 =>
            b1 (impl_CountColor.f K v5 v6 v7 v8 (1:Int)) fun v21 =>
            if v21 = (0:Int) then
              if v20 = true then
                b1 (impl_ColoredSame.f K v16 v17 v18 v19 v5 v6 v7 v8) fun v22 =>
                if v22 = true then
                  b1 (impl_ColorHolds.f K v1 v2 v3 v4) fun v23 =>
                  if v23 = true then
                    b1 (impl_ColorHolds.f K v5 v6 v7 v8) fun v24 =>
                    some v24
                  else
                    some true
                else
                  some false
              else
                some false
            else
              some false) v4 v8 K (0:Int)
        else
          b1 (impl_ColoredSame.f K v5 v6 v7 v8 v10 v11 v12 v13) fun v25 =>
          if v25 = true then
            some (v9 == v14)
          else
            some false
      else
        b1 (impl_ColoredSame.f K v5 v6 v7 v8 v10 v11 v12 v13) fun v26 =>
        if v26 = true then
          some (v9 == v14)
        else
          some false
    else
      b1 (impl_ColoredSame.f K v5 v6 v7 v8 v10 v11 v12 v13) fun v27 =>
      if v27 = true then
        some (v9 == v14)
      else
        some false

/-- laws.FnMarkCount -/
def laws_FnMarkCount.loop0 (K : Nat) (κ : Unit) (v1 : List Int) (v2 : List Int) (v3 : List Int) (v4 : List Int) (v5 : List Int) (v6 : List Int) (v7 : List Int) (v8 : List Int) : Nat → Int → (List Int) → (List Int) → (List Int) → (List Int) → Option Bool
  | 0, _, _, _, _, _ => none
  | m + 1, p2, l5, l6, l7, l8 =>
    b6 (impl_MarkStep.f K l5 l6 l7 l8) fun v34 v35 v36 v37 v38 v39 =>
    if v39 = true then
      if v38 = true then
        laws_FnMarkCount.loop0 K κ v1 v2 v3 v4 v5 v6 v7 v8 m (wrap64 (p2 + (1:Int))) v34 v35 v36 v37
      else
        b1 (impl_ColoredSame.f K l5 l6 l7 l8 v5 v6 v7 v8) fun v40 =>
        if v40 = true then
          b1 (impl_CountColor.f K v5 v6 v7 v8 (2:Int)) fun v41 =>
          b1 (impl_CountColor.f K v1 v2 v3 v4 (2:Int)) fun v42 =>
          some (p2 == (wrap64 (v41 - v42)))
        else
          some false
    else
      some false
def laws_FnMarkCount.f (K : Nat) (a0 : List Int) : Option Bool :=
  if (a0.length : Int) > (1048576:Int) then
    some true
  else
    b4 (spec_DrawMarkAll.f K a0) fun v1 v2 v3 v4 =>
    b5 (impl_MarkAll.f K v1 v2 v3 v4) fun v5 v6 v7 v8 v9 =>
    b5 (spec_MarkAll.f K v1 v2 v3 v4) fun v10 v11 v12 v13 v14 =>
    b1 (impl_ColoredSame.f K v5 v6 v7 v8 v10 v11 v12 v13) fun v15 =>
    if v15 = true then
      if v9 = v14 then
        if v9 = true then
          b6 (impl_MarkStep.f K v1 v2 v3 v4) fun v16 v17 v18 v19 v20 v21 =>
          if v21 = true then
            if v20 = true then
              laws_FnMarkCount.loop0 K () v1 v2 v3 v4 v5 v6 v7 v8 K (1:Int) v16 v17 v18 v19
            else
              b1 (impl_ColoredSame.f K v1 v2 v3 v4 v5 v6 v7 v8) fun v43 =>
              if v43 = true then
                b1 (impl_CountColor.f K v5 v6 v7 v8 (2:Int)) fun v44 =>
                b1 (impl_CountColor.f K v1 v2 v3 v4 (2:Int)) fun v45 =>
                some ((0:Int) == (wrap64 (v44 - v45)))
              else
                some false
          else
            some false
        else
          b1 (impl_ColoredSame.f K v5 v6 v7 v8 v10 v11 v12 v13) fun v46 =>
          if v46 = true then
            some (v9 == v14)
          else
            some false
      else
        b1 (impl_ColoredSame.f K v5 v6 v7 v8 v10 v11 v12 v13) fun v47 =>
        if v47 = true then
          some (v9 == v14)
        else
          some false
    else
      b1 (impl_ColoredSame.f K v5 v6 v7 v8 v10 v11 v12 v13) fun v48 =>
      if v48 = true then
        some (v9 == v14)
      else
        some false

/-- spec.DrawMarkStep -/
def spec_DrawMarkStep.f (K : Nat) (a0 : List Int) : Option ((List Int) × (List Int) × (List Int) × (List Int)) :=
  b4 (spec_l3Case.f K a0) fun v1 v2 v3 v4 =>
  some (v1, v2, v3, v4)

/-- laws.FnMarkStep -/
def laws_FnMarkStep.f (K : Nat) (a0 : List Int) : Option Bool :=
  if (a0.length : Int) > (1048576:Int) then
    some true
  else
    b4 (spec_DrawMarkStep.f K a0) fun v1 v2 v3 v4 =>
    b6 (impl_MarkStep.f K v1 v2 v3 v4) fun v5 v6 v7 v8 v9 v10 =>
    b6 (spec_MarkStep.f K v1 v2 v3 v4) fun v11 v12 v13 v14 v15 v16 =>
    b1 (impl_ColoredSame.f K v5 v6 v7 v8 v11 v12 v13 v14) fun v17 =>
    if v17 = true then
      if v9 = v15 then
        if v10 = v16 then
          if v10 = true then
            if v9 = true then
              b1 (impl_ColoredValid.f K v5 v6 v7 v8) fun v18 =>
              if v18 = true then
                b1 (impl_CountColor.f K v5 v6 v7 v8 (2:Int)) fun v19 =>
                b1 (impl_CountColor.f K v1 v2 v3 v4 (2:Int)) fun v20 =>
                if v19 = (wrap64 (v20 + (1:Int))) then
                  b1 (impl_CountColor.f K v5 v6 v7 v8 (0:Int)) fun v21 =>
                  b1 (impl_CountColor.f K v1 v2 v3 v4 (0:Int)) fun v22 =>
                  if v21 ≤ v22 then
                    b1 (impl_ColorHolds.f K v1 v2 v3 v4) fun v23 =>
                    if v23 = true then
                      b1 (impl_ColorHolds.f K v5 v6 v7 v8) fun v24 =>
                      some v24
                    else
                      some true
                  else
                    some false
                else
                  some false
              else
                some false
            else
              b1 (impl_ColoredSame.f K v5 v6 v7 v8 v1 v2 v3 v4) fun v25 =>
              if v25 = true then
                b1 (impl_CountColor.f K v1 v2 v3 v4 (1:Int)) fun v26 =>
                some (v26 == (0:Int))
              else
                some false
          else
            b1 (impl_ColoredSame.f K v5 v6 v7 v8 v11 v12 v13 v14) fun v27 =>
            if v27 = true then
              some (v10 == v16)
            else
              some false
        else
          b1 (impl_ColoredSame.f K v5 v6 v7 v8 v11 v12 v13 v14) fun v28 =>
          if v28 = true then
            some (v10 == v16)
          else
            some false
      else
        b1 (impl_ColoredSame.f K v5 v6 v7 v8 v11 v12 v13 v14) fun v29 =>
        if v29 = true then
          some false
        else
          some false
    else
      b1 (impl_ColoredSame.f K v5 v6 v7 v8 v11 v12 v13 v14) fun v30 =>
      if v30 = true then
        if v9 = v15 then
          some (v10 == v16)
        else
          some false
      else
        some false

/-- spec.DrawShadeCell -/
def spec_DrawShadeCell.f (K : Nat) (a0 : List Int) : Option ((List Int) × (List Int) × (List Int) × (List Int) × Int) :=
  b4 (spec_l3Case.f K a0) fun v1 v2 v3 v4 =>
  b1 (spec_l13Open.f K a0) fun _ =>
  b2 (spec_l13Rd_num.f K (a0.take 2000) (0:Int) ([(0:Int), (1:Int), (2:Int), (3:Int), (8:Int), (-1:Int)] : List Int)) fun v5 v6 =>
  some (v1, v2, v3, v4, v5)

/-- impl.ShadeCell -/
def impl_ShadeCell.f (K : Nat) (a0_0 : List Int) (a0_1 : List Int) (a0_2 : List Int) (a0_3 : List Int) (a1 : Int) : Option ((List Int) × (List Int) × (List Int) × (List Int) × Bool) :=
  b1 (impl_ColoredValid.f K a0_0 a0_1 a0_2 a0_3) fun v1 =>
  if v1 = true then
    b1 (impl_has.f K a0_0 a0_1 a0_2 a1) fun v2 =>
    if v2 = true then
      b4 (impl_fresh.f K a0_0 a0_1 a0_2 a0_3) fun v3 v4 v5 v6 =>
      b1 (impl_shade.f K v6 a1) fun v7 =>
      some (v3, v4, v5, v7, true)
    else
      some (([] : List Int), ([] : List Int), ([] : List Int), ([] : List Int), false)
  else
    some (([] : List Int), ([] : List Int), ([] : List Int), ([] : List Int), false)

/-- spec.ShadeCell -/
def spec_ShadeCell.f (K : Nat) (a0_0 : List Int) (a0_1 : List Int) (a0_2 : List Int) (a0_3 : List Int) (a1 : Int) : Option ((List Int) × (List Int) × (List Int) × (List Int) × Bool) :=
  b1 (spec_ColoredValid.f K a0_0 a0_1 a0_2 a0_3) fun v1 =>
  if v1 = true then
    b1 (spec_l1Cell.f K a0_0 a0_1 a0_2 a1) fun v2 =>
    if v2 = true then
      b4 (spec_l3Copy.f K a0_0 a0_1 a0_2 a0_3) fun v3 v4 v5 v6 =>
      b1 (spec_l3Shade.f K v6 a1) fun v7 =>
      some (v3, v4, v5, v7, true)
    else
      some (([] : List Int), ([] : List Int), ([] : List Int), ([] : List Int), false)
  else
    some (([] : List Int), ([] : List Int), ([] : List Int), ([] : List Int), false)

/-- laws.FnShadeCell -/
def laws_FnShadeCell.f (K : Nat) (a0 : List Int) : Option Bool :=
  if (a0.length : Int) > (1048576:Int) then
    some true
  else
    b5 (spec_DrawShadeCell.f K a0) fun v1 v2 v3 v4 v5 =>
    b5 (impl_ShadeCell.f K v1 v2 v3 v4 v5) fun v6 v7 v8 v9 v10 =>
    b5 (spec_ShadeCell.f K v1 v2 v3 v4 v5) fun v11 v12 v13 v14 v15 =>
    b1 (impl_ColoredSame.f K v6 v7 v8 v9 v11 v12 v13 v14) fun v16 =>
    if v16 = true then
      if v10 = v15 then
        if v10 = true then
          b1 (impl_CountColor.f K v6 v7 v8 v9 (1:Int)) fun v17 =>
          b1 (impl_CountColor.f K v1 v2 v3 v4 (1:Int)) fun v18 =>
          if 0 ≤ v5 ∧ v5 < (v9.length : Int) then
          if (rd v9 v5) = (0:Int) then
            some false
          else
            if 0 ≤ v5 ∧ v5 < (v4.length : Int) then
            if ((wrap64 (v17 - v18)) == (1:Int)) = ((rd v4 v5) == (0:Int)) then
              if (wrap64 (v17 - v18)) = (0:Int) then
                some true
              else
                some ((wrap64 (v17 - v18)) == (1:Int))
            else
              some false
            else none
          else none
        else
          b1 (impl_ColoredSame.f K v6 v7 v8 v9 v11 v12 v13 v14) fun v19 =>
          if v19 = true then
            some (v10 == v15)
          else
            some false
      else
        b1 (impl_ColoredSame.f K v6 v7 v8 v9 v11 v12 v13 v14) fun v20 =>
        if v20 = true then
          some (v10 == v15)
        else
          some false
    else
      b1 (impl_ColoredSame.f K v6 v7 v8 v9 v11 v12 v13 v14) fun v21 =>
      if v21 = true then
        some (v10 == v15)
      else
        some false

/-- laws.FnWhiteEnd -/
def laws_FnWhiteEnd.loop1 (K : Nat) (κ : Unit → Option Bool) (v8 : List Int) (p6 : Int) (v20 : List Int) : Nat → Int → Option Bool
  | 0, _ => none
  | m + 1, p10 =>
    if p10 < (v20.length : Int) then
      if 0 ≤ p6 ∧ p6 < (v8.length : Int) then
      if (rd v8 p6) = (0:Int) then
        if 0 ≤ p10 ∧ p10 < (v20.length : Int) then
        if 0 ≤ (rd v20 p10) ∧ (rd v20 p10) < (v8.length : Int) then
        if (rd v8 (rd v20 p10)) = (0:Int) then
          laws_FnWhiteEnd.loop1 K κ v8 p6 v20 m (wrap64 (p10 + (1:Int)))
        else
          some false
        else none
        else none
      else
        laws_FnWhiteEnd.loop1 K κ v8 p6 v20 m (wrap64 (p10 + (1:Int)))
      else none
    else
      κ ()
def laws_FnWhiteEnd.loop0 (K : Nat) (κ : Unit → Option Bool) (v5 : List Int) (v6 : List Int) (v7 : List Int) (v8 : List Int) : Nat → Int → Option Bool
  | 0, _ => none
  | m + 1, p6 =>
    if p6 < (v8.length : Int) then
      b1 (impl_SourcesOf.f K v5 v6 v7 p6) fun v20 =>
      laws_FnWhiteEnd.loop1 K (fun _ =>
        laws_FnWhiteEnd.loop0 K κ v5 v6 v7 v8 m (wrap64 (p6 + (1:Int)))) v8 p6 v20 K (0:Int)
    else
      κ ()
def laws_FnWhiteEnd.f (K : Nat) (a0 : List Int) : Option Bool :=
  if (a0.length : Int) > (1048576:Int) then
    some true
  else
    b4 (spec_DrawMarkAll.f K a0) fun v1 v2 v3 v4 =>
    b5 (impl_MarkAll.f K v1 v2 v3 v4) fun v5 v6 v7 v8 v9 =>
    b5 (spec_MarkAll.f K v1 v2 v3 v4) fun v10 v11 v12 v13 v14 =>
    b1 (impl_ColoredSame.f K v5 v6 v7 v8 v10 v11 v12 v13) fun v15 =>
    if v15 = true then
      if v9 = v14 then
        if v9 = true then
          b1 (impl_ColorHolds.f K v1 v2 v3 v4) fun v16 =>
          if v16 = true then
            laws_FnWhiteEnd.loop0 K (fun _ =>
              some true) v5 v6 v7 v8 K (0:Int)
          else
            b1 (impl_ColoredSame.f K v5 v6 v7 v8 v10 v11 v12 v13) fun v21 =>
            if v21 = true then
              some (v9 == v14)
            else
              some false
        else
          b1 (impl_ColoredSame.f K v5 v6 v7 v8 v10 v11 v12 v13) fun v22 =>
          if v22 = true then
            some (v9 == v14)
          else
            some false
      else
        b1 (impl_ColoredSame.f K v5 v6 v7 v8 v10 v11 v12 v13) fun v23 =>
        if v23 = true then
          some (v9 == v14)
        else
          some false
    else
      b1 (impl_ColoredSame.f K v5 v6 v7 v8 v10 v11 v12 v13) fun v24 =>
      if v24 = true then
        some (v9 == v14)
      else
        some false

end Go.Proofs.YtnfaiojmabolmaaDoor.F
