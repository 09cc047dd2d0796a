/- Pure functions, one for each of some functions of the program, printed by the generator of wip/gen. -/
import Derived.Test.YtnfaiojmabolmaaDoorX1
import Derived.Test.YtnfaiojmabolmaaDoorFa
import Derived.Test.YtnfaiojmabolmaaDoorFi
namespace Go.Proofs.YtnfaiojmabolmaaDoor.F
open Go Go.RowKit Go.Proofs.YtnfaiojmabolmaaDoor.S
set_option linter.unusedVariables false
/-- laws.szOpS -/
def laws_szOpS.f (K : Nat) (a0 : List (Int × Int × Int)) (a1 : Int) : Option Int :=
  if (wrap64 (a1 - (a0.length : Int))) < (0:Int) then
    some (-1:Int)
  else
    some (wrap64 (a1 - (a0.length : Int)))

/-- laws.szBoth -/
def laws_szBoth.f (K : Nat) (a0_0 : List Int) (a0_1 : List Int) (a0_2 : List Int) (a0_3 : List Int) (a0_4 : Int) (a0_5 : List Int) (a0_6 : Int) (a0_7 : List (Int × Int × Int)) (a0_8 : Int) (a0_9 : Bool) (a1 : Int) : Option Int :=
  b1 (laws_szStore.f K a0_0 a0_1 a0_2 a0_3 a1) fun v1 =>
  if v1 < (0:Int) then
    some (-1:Int)
  else
    b1 (laws_szGc.f K a0_4 a0_5 a0_6 v1) fun v2 =>
    if v2 < (0:Int) then
      some (-1:Int)
    else
      b1 (laws_szOpS.f K a0_7 v2) fun v3 =>
      if v3 < (0:Int) then
        some (-1:Int)
      else
        some v3

/-- laws.toOpS -/
def laws_toOpS.loop0 (K : Nat) (κ : (List (Int × Int × Int)) → Option ((List (Int × Int × Int)))) (a0 : List (Int × Int × Int)) : Nat → Int → (List (Int × Int × Int)) → Option ((List (Int × Int × Int)))
  | 0, _, _ => none
  | m + 1, p2, l2 =>
    if p2 < (a0.length : Int) then
      if 0 ≤ p2 ∧ p2 < (a0.length : Int) then
      b3 (laws_toOp.f K (rdt a0 p2).1 (rdt a0 p2).2.1 (rdt a0 p2).2.2) fun v10 v11 v12 =>
      if 0 ≤ p2 ∧ p2 < (l2.length : Int) then
      laws_toOpS.loop0 K κ a0 m (wrap64 (p2 + (1:Int))) (l2.set p2.toNat (v10, v11, v12))
      else none
      else none
    else
      κ l2
def laws_toOpS.f (K : Nat) (a0 : List (Int × Int × Int)) : Option ((List (Int × Int × Int))) :=
  if 0 ≤ (a0.length : Int) ∧ (a0.length : Int) ≤ 1099511627776 then
  laws_toOpS.loop0 K (fun l3 =>
    some l3) a0 K (0:Int) (List.replicate (a0.length : Int).toNat ((0:Int), (0:Int), (0:Int)))
  else none

/-- laws.toBoth -/
def laws_toBoth.f (K : Nat) (a0_0 : List Int) (a0_1 : List Int) (a0_2 : List Int) (a0_3 : List Int) (a0_4 : Int) (a0_5 : List Int) (a0_6 : Int) (a0_7 : List (Int × Int × Int)) (a0_8 : Int) (a0_9 : Bool) : Option ((List Int) × (List Int) × (List Int) × (List Int) × Int × (List Int) × Int × (List (Int × Int × Int)) × Int × Bool) :=
  b4 (laws_toStore.f K a0_0 a0_1 a0_2 a0_3) fun v1 v2 v3 v4 =>
  b3 (laws_toGc.f K a0_4 a0_5 a0_6) fun v5 v6 v7 =>
  b1 (laws_toOpS.f K a0_7) fun v8 =>
  some (v1, v2, v3, v4, v5, v6, v7, v8, a0_8, a0_9)

/-- laws.eqOp -/
def laws_eqOp.f (K : Nat) (a0_0 : Int) (a0_1 : Int) (a0_2 : Int) (a1_0 : Int) (a1_1 : Int) (a1_2 : Int) : Option Bool :=
  if a0_0 = a1_0 then
    if a0_1 = a1_1 then
      if a0_2 = a1_2 then
        some true
      else
        some false
    else
      some false
  else
    some false

/-- laws.eqOpS -/
def laws_eqOpS.loop0 (K : Nat) (κ : Unit → Option Bool) (a0 : List (Int × Int × Int)) (a1 : List (Int × Int × Int)) : Nat → Int → Option Bool
  | 0, _ => none
  | m + 1, p2 =>
    if p2 < (a0.length : Int) then
      if 0 ≤ p2 ∧ p2 < (a0.length : Int) then
      if 0 ≤ p2 ∧ p2 < (a1.length : Int) then
      b1 (laws_eqOp.f K (rdt a0 p2).1 (rdt a0 p2).2.1 (rdt a0 p2).2.2 (rdt a1 p2).1 (rdt a1 p2).2.1 (rdt a1 p2).2.2) fun v4 =>
      if v4 = true then
        laws_eqOpS.loop0 K κ a0 a1 m (wrap64 (p2 + (1:Int)))
      else
        some false
      else none
      else none
    else
      κ ()
def laws_eqOpS.f (K : Nat) (a0 : List (Int × Int × Int)) (a1 : List (Int × Int × Int)) : Option Bool :=
  if (a0.length : Int) = (a1.length : Int) then
    laws_eqOpS.loop0 K (fun _ =>
      some true) a0 a1 K (0:Int)
  else
    some false

/-- laws.eqBoth -/
def laws_eqBoth.f (K : Nat) (a0_0 : List Int) (a0_1 : List Int) (a0_2 : List Int) (a0_3 : List Int) (a0_4 : Int) (a0_5 : List Int) (a0_6 : Int) (a0_7 : List (Int × Int × Int)) (a0_8 : Int) (a0_9 : Bool) (a1_0 : List Int) (a1_1 : List Int) (a1_2 : List Int) (a1_3 : List Int) (a1_4 : Int) (a1_5 : List Int) (a1_6 : Int) (a1_7 : List (Int × Int × Int)) (a1_8 : Int) (a1_9 : Bool) : Option Bool :=
  b1 (laws_eqStore.f K a0_0 a0_1 a0_2 a0_3 a1_0 a1_1 a1_2 a1_3) fun v1 =>
  if v1 = true then
    b1 (laws_eqGc.f K a0_4 a0_5 a0_6 a1_4 a1_5 a1_6) fun v2 =>
    if v2 = true then
      b1 (laws_eqOpS.f K a0_7 a1_7) fun v3 =>
      if v3 = true then
        if a0_8 = a1_8 then
          if a0_9 = a1_9 then
            some true
          else
            some false
        else
          some false
      else
        some false
    else
      some false
  else
    some false

/-- slices.Equal[[]impl.Op,impl.Op] -/
def slices_Equal_impl_Op.loop0 (K : Nat) (κ : Unit → Option Bool) (a0 : List (Int × Int × Int)) (a1 : List (Int × Int × Int)) : Nat → Int → Option Bool
  | 0, _ => none
  | m + 1, p2 =>
    if p2 < (a0.length : Int) then
      if 0 ≤ p2 ∧ p2 < (a0.length : Int) then
      if 0 ≤ p2 ∧ p2 < (a1.length : Int) then
      if ¬((rdt a0 p2).1 = (rdt a1 p2).1 ∧ (rdt a0 p2).2.1 = (rdt a1 p2).2.1 ∧ (rdt a0 p2).2.2 = (rdt a1 p2).2.2) then
        some false
      else
        slices_Equal_impl_Op.loop0 K κ a0 a1 m (wrap64 (p2 + (1:Int)))
      else none
      else none
    else
      κ ()
def slices_Equal_impl_Op.f (K : Nat) (a0 : List (Int × Int × Int)) (a1 : List (Int × Int × Int)) : Option Bool :=
  if (a0.length : Int) = (a1.length : Int) then
    slices_Equal_impl_Op.loop0 K (fun _ =>
      some true) a0 a1 K (0:Int)
  else
    some false

/-- impl.BothSame -/
def impl_BothSame.f (K : Nat) (a0_0 : List Int) (a0_1 : List Int) (a0_2 : List Int) (a0_3 : List Int) (a0_4 : Int) (a0_5 : List Int) (a0_6 : Int) (a0_7 : List (Int × Int × Int)) (a0_8 : Int) (a0_9 : Bool) (a1_0 : List Int) (a1_1 : List Int) (a1_2 : List Int) (a1_3 : List Int) (a1_4 : Int) (a1_5 : List Int) (a1_6 : Int) (a1_7 : List (Int × Int × Int)) (a1_8 : Int) (a1_9 : Bool) : Option Bool :=
  b1 (impl_StoreSame.f K a0_0 a0_1 a0_2 a0_3 a1_0 a1_1 a1_2 a1_3) fun v1 =>
  if v1 = true then
    b1 (impl_GcSame.f K a0_4 a0_5 a0_6 a1_4 a1_5 a1_6) fun v2 =>
    if v2 = true then
      b1 (slices_Equal_impl_Op.f K a0_7 a1_7) fun v3 =>
      if v3 = true then
        if a0_8 = a1_8 then
          some (a0_9 == a1_9)
        else
          some false
      else
        some false
    else
      some false
  else
    some false

/-- impl.opsOk -/
def impl_opsOk.loop0 (K : Nat) (κ : Unit → Option Bool) (a0 : List (Int × Int × Int)) (a1 : Int) : Nat → Int → Option Bool
  | 0, _ => none
  | m + 1, p2 =>
    if p2 < (a0.length : Int) then
      if 0 ≤ p2 ∧ p2 < (a0.length : Int) then
      b1 (impl_OpValid.f K (rdt a0 p2).1 (rdt a0 p2).2.1 (rdt a0 p2).2.2 a1) fun v4 =>
      if v4 = true then
        impl_opsOk.loop0 K κ a0 a1 m (wrap64 (p2 + (1:Int)))
      else
        some false
      else none
    else
      κ ()
def impl_opsOk.f (K : Nat) (a0 : List (Int × Int × Int)) (a1 : Int) : Option Bool :=
  impl_opsOk.loop0 K (fun _ =>
    some (decide ((a0.length : Int) ≤ (12:Int)))) a0 a1 K (0:Int)

/-- spec.l7Ops -/
def spec_l7Ops.loop0 (K : Nat) (κ : Unit → Option Bool) (a0 : List (Int × Int × Int)) (a1 : Int) : Nat → Int → Option Bool
  | 0, _ => none
  | m + 1, p2 =>
    if p2 < (a0.length : Int) then
      if p2 ≤ (12:Int) then
        if 0 ≤ p2 ∧ p2 < (a0.length : Int) then
        b1 (spec_OpValid.f K (rdt a0 p2).1 (rdt a0 p2).2.1 (rdt a0 p2).2.2 a1) fun v4 =>
        if v4 = true then
          spec_l7Ops.loop0 K κ a0 a1 m (wrap64 (p2 + (1:Int)))
        else
          some false
        else none
      else
        κ ()
    else
      κ ()
def spec_l7Ops.f (K : Nat) (a0 : List (Int × Int × Int)) (a1 : Int) : Option Bool :=
  spec_l7Ops.loop0 K (fun _ =>
    some (decide ((a0.length : Int) ≤ (12:Int)))) a0 a1 K (0:Int)

/-- impl.BothValid -/
def impl_BothValid.f (K : Nat) (a0_0 : List Int) (a0_1 : List Int) (a0_2 : List Int) (a0_3 : List Int) (a0_4 : Int) (a0_5 : List Int) (a0_6 : Int) (a0_7 : List (Int × Int × Int)) (a0_8 : Int) (a0_9 : Bool) : Option Bool :=
  b1 (impl_GcValid.f K a0_0 a0_1 a0_2 a0_3 a0_4 a0_5 a0_6) fun v1 =>
  if v1 = true then
    b1 (impl_opsOk.f K a0_7 (a0_2.length : Int)) fun v2 =>
    if v2 = true then
      if a0_8 ≥ (0:Int) then
        some (decide (a0_8 ≤ (a0_7.length : Int)))
      else
        some false
    else
      some false
  else
    some false

/-- spec.l6Next -/
def spec_l6Next.f (K : Nat) (a0_0 : Int) (a0_2 : Int) (a1 : Int) (a2 : Int) : Option (Int × Int) :=
  if (wrap64 (a0_2 + (1:Int))) = a1 then
    some (a2, (0:Int))
  else
    some (a0_0, (wrap64 (a0_2 + (1:Int))))

/-- spec.l6Root -/
def spec_l6Root.loop0 (K : Nat) (κ : Unit → Option Int) (a0_2 : List Int) (a1_1 : List Int) : Nat → Int → Option Int
  | 0, _ => none
  | m + 1, p2 =>
    if p2 < (a0_2.length : Int) then
      if 0 ≤ p2 ∧ p2 < (a0_2.length : Int) then
      if (rd a0_2 p2) = (-1:Int) then
        spec_l6Root.loop0 K κ a0_2 a1_1 m (wrap64 (p2 + (1:Int)))
      else
        if 0 ≤ (rd a0_2 p2) ∧ (rd a0_2 p2) < (a1_1.length : Int) then
        if (rd a1_1 (rd a0_2 p2)) = (0:Int) then
          some p2
        else
          spec_l6Root.loop0 K κ a0_2 a1_1 m (wrap64 (p2 + (1:Int)))
        else none
      else none
    else
      κ ()
def spec_l6Root.f (K : Nat) (a0_2 : List Int) (a1_0 : Int) (a1_1 : List Int) (a1_2 : Int) : Option Int :=
  spec_l6Root.loop0 K (fun _ =>
    some (-1:Int)) a0_2 a1_1 K (0:Int)

/-- spec.l6Mark -/
def spec_l6Mark.f (K : Nat) (a0_0 : List Int) (a0_1 : List Int) (a0_2 : List Int) (a1_0 : Int) (a1_1 : List Int) (a1_2 : Int) : Option (Int × Int × (List Int)) :=
  b1 (spec_l3First.f K a1_1 (1:Int)) fun v1 =>
  if v1 ≥ (0:Int) then
    b1 (spec_l3Black.f K a0_0 a0_1 a1_1 v1) fun v2 =>
    some (a1_0, a1_2, v2)
  else
    b1 (spec_l6Root.f K a0_2 a1_0 a1_1 a1_2) fun v3 =>
    if v3 ≥ (0:Int) then
      if 0 ≤ v3 ∧ v3 < (a0_2.length : Int) then
      b1 (spec_l3Shade.f K a1_1 (rd a0_2 v3)) fun v4 =>
      some (a1_0, a1_2, v4)
      else none
    else
      some ((3:Int), a1_2, a1_1)

/-- spec.l6Step -/
def spec_l6Step.f (K : Nat) (a0_0 : List Int) (a0_1 : List Int) (a0_2 : List Int) (a0_3 : List Int) (a1_0 : Int) (a1_1 : List Int) (a1_2 : Int) : Option ((List Int) × (List Int) × (List Int) × (List Int) × Int × (List Int) × Int) :=
  b3 (spec_l6Copy.f K a1_0 a1_1 a1_2) fun v1 v2 v3 =>
  if a1_0 = (0:Int) then
    b4 (spec_l4Copy.f K a0_0 a0_1 a0_2 a0_3) fun v4 v5 v6 v7 =>
    if 0 ≤ (a1_1.length : Int) ∧ (a1_1.length : Int) ≤ 1099511627776 then
    some (v4, v5, v6, v7, (1:Int), (List.replicate (a1_1.length : Int).toNat (0:Int)), (0:Int))
    else none
  else
    if a1_0 = (1:Int) then
      if 0 ≤ a1_2 ∧ a1_2 < (a0_2.length : Int) then
      b1 (spec_l3Shade.f K v2 (rd a0_2 a1_2)) fun v8 =>
      b4 (spec_l4Copy.f K a0_0 a0_1 a0_2 a0_3) fun v9 v10 v11 v12 =>
      b2 (spec_l6Next.f K v1 v3 (a0_2.length : Int) (2:Int)) fun v13 v14 =>
      some (v9, v10, v11, v12, v13, v8, v14)
      else none
    else
      if a1_0 = (2:Int) then
        b4 (spec_l4Copy.f K a0_0 a0_1 a0_2 a0_3) fun v15 v16 v17 v18 =>
        b3 (spec_l6Mark.f K a0_0 a0_1 a0_2 v1 v2 v3) fun v19 v20 v21 =>
        some (v15, v16, v17, v18, v19, v21, v20)
      else
        b1 (spec_l6Swept.f K a0_3 a1_0 a1_1 a1_2) fun v22 =>
        b4 (spec_l4Copy.f K a0_0 a0_1 a0_2 a0_3) fun v23 v24 v25 v26 =>
        if v22 = (-1:Int) then
          if 0 ≤ a1_2 ∧ a1_2 < (v2.length : Int) then
          b2 (spec_l6Next.f K v1 v3 (a1_1.length : Int) (0:Int)) fun v27 v28 =>
          some (v23, v24, v25, v26, v27, (v2.set a1_2.toNat (0:Int)), v28)
          else none
        else
          b4 (spec_l4Clear.f K a0_0 a0_1 a0_2 a0_3 ([v22] : List Int)) fun v29 v30 v31 v32 =>
          if 0 ≤ a1_2 ∧ a1_2 < (v2.length : Int) then
          b2 (spec_l6Next.f K v1 v3 (a1_1.length : Int) (0:Int)) fun v33 v34 =>
          some (v29, v30, v31, v32, v33, (v2.set a1_2.toNat (0:Int)), v34)
          else none

/-- spec.l6Draw -/
def spec_l6Draw.loop0 (K : Nat) (κ : (List Int) → (List Int) → (List Int) → (List Int) → Int → (List Int) → Int → Option ((List Int) × (List Int) × (List Int) × (List Int) × Int × (List Int) × Int × Int)) : Nat → Int → (List Int) → (List Int) → (List Int) → (List Int) → Int → (List Int) → Int → Option ((List Int) × (List Int) × (List Int) × (List Int) × Int × (List Int) × Int × Int)
  | 0, _, _, _, _, _, _, _, _ => none
  | m + 1, p4, l6, l7, l8, l9, p5, l10, p6 =>
    if p4 > (0:Int) then
      b7 (spec_l6Step.f K l6 l7 l8 l9 p5 l10 p6) fun v33 v34 v35 v36 v37 v38 v39 =>
      spec_l6Draw.loop0 K κ  m (wrap64 (p4 - (1:Int))) v33 v34 v35 v36 v37 v38 v39
    else
      κ l6 l7 l8 l9 p5 l10 p6
def spec_l6Draw.f (K : Nat) (a0_0 : List Int) (a0_1 : Int) : Option ((List Int) × (List Int) × (List Int) × (List Int) × Int × (List Int) × Int × Int) :=
  b5 (spec_l4Draw.f K a0_0 a0_1) fun v1 v2 v3 v4 v5 =>
  b4 (spec_NewGc.f K v1 v2 v3 v4) fun v6 v7 v8 v9 =>
  b2 (spec_l13Rd_num.f K a0_0 v5 ([(3:Int), (1:Int), (5:Int), (8:Int), (0:Int), (14:Int), (20:Int)] : List Int)) fun v10 v11 =>
  spec_l6Draw.loop0 K (fun l11 l12 l13 l14 p7 l15 p8 =>
    some (l11, l12, l13, l14, p7, l15, p8, v11)) K v10 v1 v2 v3 v4 v6 v7 v8

/-- spec.l6Wrong -/
def spec_l6Wrong.f (K : Nat) (a0_0 : List Int) (a0_1 : Int) (a1_0 : Int) (a1_1 : List Int) (a1_2 : Int) : Option (Int × (List Int) × Int × Int) :=
  b3 (spec_l6Copy.f K a1_0 a1_1 a1_2) fun v1 v2 v3 =>
  b2 (spec_l13Rd_pick.f K a0_0 a0_1 (20:Int)) fun v4 v5 =>
  if v4 = (0:Int) then
    b2 (spec_l13Rd_num.f K a0_0 v5 ([(4:Int), (-1:Int), (0:Int), (1:Int), (2:Int), (3:Int)] : List Int)) fun v6 v7 =>
    some (v6, v2, v3, v7)
  else
    if v4 = (1:Int) then
      b2 (spec_l13Rd_num.f K a0_0 v5 ([(-1:Int), (8:Int), (1:Int)] : List Int)) fun v8 v9 =>
      some (v1, v2, v8, v9)
    else
      if v4 = (2:Int) then
        b2 (spec_l13Rd_pick.f K a0_0 v5 (v2.length : Int)) fun v10 v11 =>
        b2 (spec_l13Rd_num.f K a0_0 v11 ([(3:Int), (0:Int), (1:Int), (2:Int)] : List Int)) fun v12 v13 =>
        if 0 ≤ v10 ∧ v10 < (v2.length : Int) then
        some (v1, (v2.set v10.toNat v12), v3, v13)
        else none
      else
        some (v1, v2, v3, v5)

/-- spec.l7SameOps -/
def spec_l7SameOps.loop0 (K : Nat) (κ : Unit → Option Bool) (a0 : List (Int × Int × Int)) (a1 : List (Int × Int × Int)) : Nat → Int → Option Bool
  | 0, _ => none
  | m + 1, p2 =>
    if p2 < (a0.length : Int) then
      if 0 ≤ p2 ∧ p2 < (a0.length : Int) then
      if 0 ≤ p2 ∧ p2 < (a1.length : Int) then
      if ¬((rdt a0 p2).1 = (rdt a1 p2).1 ∧ (rdt a0 p2).2.1 = (rdt a1 p2).2.1 ∧ (rdt a0 p2).2.2 = (rdt a1 p2).2.2) then
        some false
      else
        spec_l7SameOps.loop0 K κ a0 a1 m (wrap64 (p2 + (1:Int)))
      else none
      else none
    else
      κ ()
def spec_l7SameOps.f (K : Nat) (a0 : List (Int × Int × Int)) (a1 : List (Int × Int × Int)) : Option Bool :=
  if (a0.length : Int) = (a1.length : Int) then
    spec_l7SameOps.loop0 K (fun _ =>
      some true) a0 a1 K (0:Int)
  else
    some false

/-- spec.BothSame -/
def spec_BothSame.f (K : Nat) (a0_0 : List Int) (a0_1 : List Int) (a0_2 : List Int) (a0_3 : List Int) (a0_4 : Int) (a0_5 : List Int) (a0_6 : Int) (a0_7 : List (Int × Int × Int)) (a0_8 : Int) (a0_9 : Bool) (a1_0 : List Int) (a1_1 : List Int) (a1_2 : List Int) (a1_3 : List Int) (a1_4 : Int) (a1_5 : List Int) (a1_6 : Int) (a1_7 : List (Int × Int × Int)) (a1_8 : Int) (a1_9 : Bool) : Option Bool :=
  if a0_8 = a1_8 then
    if a0_9 = a1_9 then
      b1 (spec_StoreSame.f K a0_0 a0_1 a0_2 a0_3 a1_0 a1_1 a1_2 a1_3) fun v1 =>
      if v1 = true then
        b1 (spec_GcSame.f K a0_4 a0_5 a0_6 a1_4 a1_5 a1_6) fun v2 =>
        if v2 = true then
          b1 (spec_l7SameOps.f K a0_7 a1_7) fun v3 =>
          some v3
        else
          some false
      else
        some false
    else
      some false
  else
    some false

/-- laws.FnExactBothSame -/
def laws_FnExactBothSame.f (K : Nat) (a0_0 : List Int) (a0_1 : List Int) (a0_2 : List Int) (a0_3 : List Int) (a0_4 : Int) (a0_5 : List Int) (a0_6 : Int) (a0_7 : List (Int × Int × Int)) (a0_8 : Int) (a0_9 : Bool) (a1_0 : List Int) (a1_1 : List Int) (a1_2 : List Int) (a1_3 : List Int) (a1_4 : Int) (a1_5 : List Int) (a1_6 : Int) (a1_7 : List (Int × Int × Int)) (a1_8 : Int) (a1_9 : Bool) : Option Bool :=
  b1 (laws_szBoth.f K a0_0 a0_1 a0_2 a0_3 a0_4 a0_5 a0_6 a0_7 a0_8 a0_9 (1048576:Int)) fun v1 =>
  if v1 < (0:Int) then
    some true
  else
    b1 (laws_szBoth.f K a1_0 a1_1 a1_2 a1_3 a1_4 a1_5 a1_6 a1_7 a1_8 a1_9 v1) fun v2 =>
    if v2 < (0:Int) then
      some true
    else
      b10 (laws_toBoth.f K a0_0 a0_1 a0_2 a0_3 a0_4 a0_5 a0_6 a0_7 a0_8 a0_9) fun v3 v4 v5 v6 v7 v8 v9 v10 v11 v12 =>
      b10 (laws_toBoth.f K a1_0 a1_1 a1_2 a1_3 a1_4 a1_5 a1_6 a1_7 a1_8 a1_9) fun v13 v14 v15 v16 v17 v18 v19 v20 v21 v22 =>
      b1 (spec_BothSame.f K v3 v4 v5 v6 v7 v8 v9 v10 v11 v12 v13 v14 v15 v16 v17 v18 v19 v20 v21 v22) fun v23 =>
      b10 (laws_toBoth.f K a0_0 a0_1 a0_2 a0_3 a0_4 a0_5 a0_6 a0_7 a0_8 a0_9) fun v24 v25 v26 v27 v28 v29 v30 v31 v32 v33 =>
      b10 (laws_toBoth.f K a1_0 a1_1 a1_2 a1_3 a1_4 a1_5 a1_6 a1_7 a1_8 a1_9) fun v34 v35 v36 v37 v38 v39 v40 v41 v42 v43 =>
      b1 (impl_BothSame.f K v24 v25 v26 v27 v28 v29 v30 v31 v32 v33 v34 v35 v36 v37 v38 v39 v40 v41 v42 v43) fun v44 =>
      if v44 = v23 then
        b10 (laws_toBoth.f K a0_0 a0_1 a0_2 a0_3 a0_4 a0_5 a0_6 a0_7 a0_8 a0_9) fun v45 v46 v47 v48 v49 v50 v51 v52 v53 v54 =>
        b1 (laws_eqBoth.f K v24 v25 v26 v27 v28 v29 v30 v31 v32 v33 v45 v46 v47 v48 v49 v50 v51 v52 v53 v54) fun v55 =>
        if v55 = true then
          b10 (laws_toBoth.f K a1_0 a1_1 a1_2 a1_3 a1_4 a1_5 a1_6 a1_7 a1_8 a1_9) fun v56 v57 v58 v59 v60 v61 v62 v63 v64 v65 =>
          b1 (laws_eqBoth.f K v34 v35 v36 v37 v38 v39 v40 v41 v42 v43 v56 v57 v58 v59 v60 v61 v62 v63 v64 v65) fun v66 =>
          if v66 = true then
            some true
          else
            some false
        else
          some false
      else
        some false

/-- spec.BothValid -/
def spec_BothValid.f (K : Nat) (a0_0 : List Int) (a0_1 : List Int) (a0_2 : List Int) (a0_3 : List Int) (a0_4 : Int) (a0_5 : List Int) (a0_6 : Int) (a0_7 : List (Int × Int × Int)) (a0_8 : Int) (a0_9 : Bool) : Option Bool :=
  b1 (spec_GcValid.f K a0_0 a0_1 a0_2 a0_3 a0_4 a0_5 a0_6) fun v1 =>
  if v1 = true then
    b1 (spec_l7Ops.f K a0_7 (a0_2.length : Int)) fun v2 =>
    if v2 = true then
      if a0_8 ≥ (0:Int) then
        some (decide (a0_8 ≤ (a0_7.length : Int)))
      else
        some false
    else
      some false
  else
    some false

/-- laws.FnExactBothValid -/
def laws_FnExactBothValid.f (K : Nat) (a0_0 : List Int) (a0_1 : List Int) (a0_2 : List Int) (a0_3 : List Int) (a0_4 : Int) (a0_5 : List Int) (a0_6 : Int) (a0_7 : List (Int × Int × Int)) (a0_8 : Int) (a0_9 : Bool) : Option Bool :=
  b1 (laws_szBoth.f K a0_0 a0_1 a0_2 a0_3 a0_4 a0_5 a0_6 a0_7 a0_8 a0_9 (1048576:Int)) fun v1 =>
  if v1 < (0:Int) then
    some true
  else
    b10 (laws_toBoth.f K a0_0 a0_1 a0_2 a0_3 a0_4 a0_5 a0_6 a0_7 a0_8 a0_9) fun v2 v3 v4 v5 v6 v7 v8 v9 v10 v11 =>
    b1 (spec_BothValid.f K v2 v3 v4 v5 v6 v7 v8 v9 v10 v11) fun v12 =>
    b10 (laws_toBoth.f K a0_0 a0_1 a0_2 a0_3 a0_4 a0_5 a0_6 a0_7 a0_8 a0_9) fun v13 v14 v15 v16 v17 v18 v19 v20 v21 v22 =>
    b1 (impl_BothValid.f K v13 v14 v15 v16 v17 v18 v19 v20 v21 v22) fun v23 =>
    if v23 = v12 then
      b10 (laws_toBoth.f K a0_0 a0_1 a0_2 a0_3 a0_4 a0_5 a0_6 a0_7 a0_8 a0_9) fun v24 v25 v26 v27 v28 v29 v30 v31 v32 v33 =>
      b1 (laws_eqBoth.f K v13 v14 v15 v16 v17 v18 v19 v20 v21 v22 v24 v25 v26 v27 v28 v29 v30 v31 v32 v33) fun v34 =>
      if v34 = true then
        some true
      else
        some false
    else
      some false

/-- spec.DrawGcSame -/
def spec_DrawGcSame.f (K : Nat) (a0 : List Int) : Option (Int × (List Int) × Int × Int × (List Int) × Int) :=
  b1 (spec_l13Open.f K a0) fun _ =>
  b8 (spec_l6Draw.f K (a0.take 2000) (0:Int)) fun v1 v2 v3 v4 v5 v6 v7 v8 =>
  b4 (spec_l6Wrong.f K (a0.take 2000) v8 v5 v6 v7) fun v9 v10 v11 v12 =>
  b4 (spec_l6Wrong.f K (a0.take 2000) v12 v9 v10 v11) fun v13 v14 v15 v16 =>
  b4 (spec_l6Wrong.f K (a0.take 2000) v16 v13 v14 v15) fun v17 v18 v19 v20 =>
  some (v5, v6, v7, v17, v18, v19)

/-- laws.FnGcSame -/
def laws_FnGcSame.f (K : Nat) (a0 : List Int) : Option Bool :=
  if (a0.length : Int) > (1048576:Int) then
    some true
  else
    b6 (spec_DrawGcSame.f K a0) fun v1 v2 v3 v4 v5 v6 =>
    b1 (impl_GcSame.f K v1 v2 v3 v4 v5 v6) fun v7 =>
    b1 (spec_GcSame.f K v1 v2 v3 v4 v5 v6) fun v8 =>
    if v7 = v8 then
      b1 (impl_GcSame.f K v4 v5 v6 v1 v2 v3) fun v9 =>
      if v7 = v9 then
        b1 (impl_GcSame.f K v1 v2 v3 v1 v2 v3) fun v10 =>
        if v10 = true then
          if v7 = true then
            some (v1 == v4)
          else
            some true
        else
          some false
      else
        some false
    else
      some false

/-- spec.l5Ops -/
def spec_l5Ops.loop0 (K : Nat) (κ : (List (Int × Int × Int)) → Int → Option ((List (Int × Int × Int)) × Int)) (a0_0 : List Int) : Nat → (List (Int × Int × Int)) → Int → Int → Option ((List (Int × Int × Int)) × Int)
  | 0, _, _, _ => none
  | m + 1, l2, p3, p4 =>
    if p3 > (0:Int) then
      b4 (spec_l5Op.f K a0_0 p4) fun v15 v16 v17 v18 =>
      if l2.length + ([(v15, v16, v17)] : List (Int × Int × Int)).length ≤ 1099511627776 then
      spec_l5Ops.loop0 K κ a0_0 m (l2 ++ ([(v15, v16, v17)] : List (Int × Int × Int))) (wrap64 (p3 - (1:Int))) v18
      else none
    else
      κ l2 p4
def spec_l5Ops.f (K : Nat) (a0_0 : List Int) (a0_1 : Int) : Option ((List (Int × Int × Int)) × Int) :=
  b2 (spec_l13Rd_num.f K a0_0 a0_1 ([(4:Int), (3:Int), (6:Int), (2:Int), (1:Int), (0:Int), (9:Int)] : List Int)) fun v1 v2 =>
  spec_l5Ops.loop0 K (fun l3 p5 =>
    some (l3, p5)) a0_0 K ([] : List (Int × Int × Int)) v1 v2

/-- spec.DrawRunOps -/
def spec_DrawRunOps.f (K : Nat) (a0 : List Int) : Option ((List Int) × (List Int) × (List Int) × (List Int) × (List (Int × Int × Int))) :=
  b1 (spec_l13Open.f K a0) fun _ =>
  b5 (spec_l4Draw.f K (a0.take 2000) (0:Int)) fun v1 v2 v3 v4 v5 =>
  b5 (spec_l4Wrong.f K (a0.take 2000) v5 v1 v2 v3 v4) fun v6 v7 v8 v9 v10 =>
  b2 (spec_l5Ops.f K (a0.take 2000) v10) fun v11 v12 =>
  some (v6, v7, v8, v9, v11)

/-- spec.DrawNewBoth -/
def spec_DrawNewBoth.f (K : Nat) (a0 : List Int) : Option ((List Int) × (List Int) × (List Int) × (List Int) × (List (Int × Int × Int))) :=
  b5 (spec_DrawRunOps.f K a0) fun v1 v2 v3 v4 v5 =>
  some (v1, v2, v3, v4, v5)

/-- slices.Clone[[]impl.Op,impl.Op] -/
def slices_Clone_impl_Op.f (K : Nat) (a0 : List (Int × Int × Int)) : Option ((List (Int × Int × Int))) :=
  if ([] : List (Int × Int × Int)).length + a0.length ≤ 1099511627776 then
  some (([] : List (Int × Int × Int)) ++ a0)
  else none

/-- impl.NewBoth -/
def impl_NewBoth.f (K : Nat) (a0_0 : List Int) (a0_1 : List Int) (a0_2 : List Int) (a0_3 : List Int) (a1 : List (Int × Int × Int)) : Option ((List Int) × (List Int) × (List Int) × (List Int) × Int × (List Int) × Int × (List (Int × Int × Int)) × Int × Bool × Bool) :=
  b4 (impl_NewGc.f K a0_0 a0_1 a0_2 a0_3) fun v1 v2 v3 v4 =>
  if v4 = true then
    b1 (impl_opsOk.f K a1 (a0_2.length : Int)) fun v5 =>
    if v5 = true then
      b4 (impl_again.f K a0_0 a0_1 a0_2 a0_3) fun v6 v7 v8 v9 =>
      b1 (slices_Clone_impl_Op.f K a1) fun v10 =>
      some (v6, v7, v8, v9, v1, v2, v3, v10, (0:Int), false, true)
    else
      some (([] : List Int), ([] : List Int), ([] : List Int), ([] : List Int), (0:Int), ([] : List Int), (0:Int), ([] : List (Int × Int × Int)), (0:Int), false, false)
  else
    some (([] : List Int), ([] : List Int), ([] : List Int), ([] : List Int), (0:Int), ([] : List Int), (0:Int), ([] : List (Int × Int × Int)), (0:Int), false, false)

/-- spec.NewBoth -/
def spec_NewBoth.f (K : Nat) (a0_0 : List Int) (a0_1 : List Int) (a0_2 : List Int) (a0_3 : List Int) (a1 : List (Int × Int × Int)) : Option ((List Int) × (List Int) × (List Int) × (List Int) × Int × (List Int) × Int × (List (Int × Int × Int)) × Int × Bool × Bool) :=
  b4 (spec_NewGc.f K a0_0 a0_1 a0_2 a0_3) fun v1 v2 v3 v4 =>
  if v4 = true then
    b1 (spec_l7Ops.f K a1 (a0_2.length : Int)) fun v5 =>
    if v5 = true then
      b4 (spec_l4Copy.f K a0_0 a0_1 a0_2 a0_3) fun v6 v7 v8 v9 =>
      if ([] : List (Int × Int × Int)).length + a1.length ≤ 1099511627776 then
      some (v6, v7, v8, v9, v1, v2, v3, (([] : List (Int × Int × Int)) ++ a1), (0:Int), false, true)
      else none
    else
      some (([] : List Int), ([] : List Int), ([] : List Int), ([] : List Int), (0:Int), ([] : List Int), (0:Int), ([] : List (Int × Int × Int)), (0:Int), false, false)
  else
    some (([] : List Int), ([] : List Int), ([] : List Int), ([] : List Int), (0:Int), ([] : List Int), (0:Int), ([] : List (Int × Int × Int)), (0:Int), false, false)

/-- laws.ccOps -/
def laws_ccOps.loop0 (K : Nat) (κ : Unit → Option Bool) (a0 : List (Int × Int × Int)) (a1 : List (Int × Int × Int)) : Nat → Int → Option Bool
  | 0, _ => none
  | m + 1, p2 =>
    if p2 < (a0.length : Int) then
      if 0 ≤ p2 ∧ p2 < (a0.length : Int) then
      if 0 ≤ p2 ∧ p2 < (a1.length : Int) then
      if ¬((rdt a0 p2).1 = (rdt a1 p2).1 ∧ (rdt a0 p2).2.1 = (rdt a1 p2).2.1 ∧ (rdt a0 p2).2.2 = (rdt a1 p2).2.2) then
        some false
      else
        laws_ccOps.loop0 K κ a0 a1 m (wrap64 (p2 + (1:Int)))
      else none
      else none
    else
      κ ()
def laws_ccOps.f (K : Nat) (a0 : List (Int × Int × Int)) (a1 : List (Int × Int × Int)) : Option Bool :=
  if (a0.length : Int) = (a1.length : Int) then
    laws_ccOps.loop0 K (fun _ =>
      some true) a0 a1 K (0:Int)
  else
    some false

/-- laws.FnNewBoth -/
def laws_FnNewBoth.f (K : Nat) (a0 : List Int) : Option Bool :=
  if (a0.length : Int) > (1048576:Int) then
    some true
  else
    b5 (spec_DrawNewBoth.f K a0) fun v1 v2 v3 v4 v5 =>
    b11 (impl_NewBoth.f K v1 v2 v3 v4 v5) fun v6 v7 v8 v9 v10 v11 v12 v13 v14 v15 v16 =>
    b11 (spec_NewBoth.f K v1 v2 v3 v4 v5) fun v17 v18 v19 v20 v21 v22 v23 v24 v25 v26 v27 =>
    b1 (impl_BothSame.f K v6 v7 v8 v9 v10 v11 v12 v13 v14 v15 v17 v18 v19 v20 v21 v22 v23 v24 v25 v26) fun v28 =>
    if v28 = true then
      if v16 = v27 then
        if v16 = true then
          b1 (impl_BothValid.f K v6 v7 v8 v9 v10 v11 v12 v13 v14 v15) fun v29 =>
          if v29 = true then
            if v14 = (0:Int) then
              if v15 = true then
                some false
              else
                if v10 = (0:Int) then
                  b1 (impl_StoreSame.f K v6 v7 v8 v9 v1 v2 v3 v4) fun v30 =>
                  if v30 = true then
                    b1 (laws_ccOps.f K v13 v5) fun v31 =>
                    some v31
                  else
                    some false
                else
                  some false
            else
              some false
          else
            some false
        else
          b1 (impl_BothSame.f K v6 v7 v8 v9 v10 v11 v12 v13 v14 v15 v17 v18 v19 v20 v21 v22 v23 v24 v25 v26) fun v32 =>
          if v32 = true then
            some (v16 == v27)
          else
            some false
      else
        b1 (impl_BothSame.f K v6 v7 v8 v9 v10 v11 v12 v13 v14 v15 v17 v18 v19 v20 v21 v22 v23 v24 v25 v26) fun v33 =>
        if v33 = true then
          some (v16 == v27)
        else
          some false
    else
      b1 (impl_BothSame.f K v6 v7 v8 v9 v10 v11 v12 v13 v14 v15 v17 v18 v19 v20 v21 v22 v23 v24 v25 v26) fun v34 =>
      if v34 = true then
        some (v16 == v27)
      else
        some false

/-- spec.l6Case -/
def spec_l6Case.f (K : Nat) (a0 : List Int) : Option ((List Int) × (List Int) × (List Int) × (List Int) × Int × (List Int) × Int × Int) :=
  b1 (spec_l13Open.f K a0) fun _ =>
  b8 (spec_l6Draw.f K (a0.take 2000) (0:Int)) fun v1 v2 v3 v4 v5 v6 v7 v8 =>
  b4 (spec_l6Wrong.f K (a0.take 2000) v8 v5 v6 v7) fun v9 v10 v11 v12 =>
  b2 (spec_l13Rd_num.f K (a0.take 2000) v12 ([(0:Int), (1:Int), (2:Int), (3:Int), (8:Int), (-1:Int)] : List Int)) fun v13 v14 =>
  some (v1, v2, v3, v4, v9, v10, v11, v13)

/-- spec.DrawSweptCell -/
def spec_DrawSweptCell.f (K : Nat) (a0 : List Int) : Option ((List Int) × (List Int) × (List Int) × (List Int) × Int × (List Int) × Int) :=
  b8 (spec_l6Case.f K a0) fun v1 v2 v3 v4 v5 v6 v7 v8 =>
  some (v1, v2, v3, v4, v5, v6, v7)

/-- laws.FnSweptCell -/
def laws_FnSweptCell.f (K : Nat) (a0 : List Int) : Option Bool :=
  if (a0.length : Int) > (1048576:Int) then
    some true
  else
    b7 (spec_DrawSweptCell.f K a0) fun v1 v2 v3 v4 v5 v6 v7 =>
    b1 (impl_SweptCell.f K v1 v2 v3 v4 v5 v6 v7) fun v8 =>
    b1 (spec_SweptCell.f K v1 v2 v3 v4 v5 v6 v7) fun v9 =>
    if v8 = v9 then
      if v8 = (-1:Int) then
        b1 (spec_SweptCell.f K v1 v2 v3 v4 v5 v6 v7) fun v10 =>
        some (v8 == v10)
      else
        b1 (impl_GcValid.f K v1 v2 v3 v4 v5 v6 v7) fun v11 =>
        if v11 = true then
          if v5 = (3:Int) then
            if v8 = v7 then
              if 0 ≤ v8 ∧ v8 < (v6.length : Int) then
              if (rd v6 v8) = (0:Int) then
                b1 (impl_IsFree.f K v1 v2 v3 v4 v8) fun v12 =>
                some (!v12)
              else
                some false
              else none
            else
              some false
          else
            some false
        else
          some false
    else
      b1 (spec_SweptCell.f K v1 v2 v3 v4 v5 v6 v7) fun v13 =>
      some (v8 == v13)

end Go.Proofs.YtnfaiojmabolmaaDoor.F
