/- Pure functions, one for each of some functions of the program, printed by the generator of wip/gen. -/
import Derived.Test.YtgganabcfloioaaSl
import Derived.Test.YtgganabcfloioaaFa
namespace Go.Proofs.Ytgganabcfloioaa.F
open Go Go.RowKit Go.Proofs.Ytgganabcfloioaa.S
set_option linter.unusedVariables false
/-- impl.CountedValid -/
def impl_CountedValid.f (K : Nat) (a0_0 : List Int) (a0_1 : List Int) (a0_2 : List Int) (a0_3 : List Int) (a0_4 : List Int) : Option Bool :=
  b1 (impl_StoreValid.f K a0_0 a0_1 a0_2 a0_3) fun v1 =>
  if v1 = true then
    b1 (impl_CountsOf.f K a0_0 a0_1 a0_2) fun v2 =>
    b1 (slices_Equal_int.f K a0_4 v2) fun v3 =>
    some v3
  else
    some false

/-- spec.NewCounted -/
def spec_NewCounted.f (K : Nat) (a0_0 : List Int) (a0_1 : List Int) (a0_2 : List Int) (a0_3 : List Int) : Option ((List Int) × (List Int) × (List Int) × (List Int) × (List Int) × Bool) :=
  b1 (spec_StoreValid.f K a0_0 a0_1 a0_2 a0_3) fun v1 =>
  if v1 = true then
    b4 (spec_l4Copy.f K a0_0 a0_1 a0_2 a0_3) fun v2 v3 v4 v5 =>
    b1 (spec_CountsOf.f K a0_0 a0_1 a0_2) fun v6 =>
    some (v2, v3, v4, v5, v6, true)
  else
    some (([] : List Int), ([] : List Int), ([] : List Int), ([] : List Int), ([] : List Int), false)

/-- spec.CountedValid -/
def spec_CountedValid.f (K : Nat) (a0_0 : List Int) (a0_1 : List Int) (a0_2 : List Int) (a0_3 : List Int) (a0_4 : List Int) : Option Bool :=
  b1 (spec_StoreValid.f K a0_0 a0_1 a0_2 a0_3) fun v1 =>
  if v1 = true then
    b1 (spec_CountsOf.f K a0_0 a0_1 a0_2) fun v2 =>
    b1 (spec_l1Ints.f K a0_4 v2) fun v3 =>
    some v3
  else
    some false

/-- spec.l9Root -/
def spec_l9Root.f (K : Nat) (a0_0 : List Int) (a0_1 : List Int) (a0_2 : List Int) (a0_3 : List Int) (a0_4 : List Int) (a1 : Int) : Option Bool :=
  b1 (spec_CountedValid.f K a0_0 a0_1 a0_2 a0_3 a0_4) fun v1 =>
  if v1 = true then
    if a1 ≥ (0:Int) then
      some (decide (a1 < (a0_2.length : Int)))
    else
      some false
  else
    some false

/-- spec.l9Copy -/
def spec_l9Copy.f (K : Nat) (a0_0 : List Int) (a0_1 : List Int) (a0_2 : List Int) (a0_3 : List Int) (a0_4 : List Int) : Option ((List Int) × (List Int) × (List Int) × (List Int) × (List Int)) :=
  b4 (spec_l4Copy.f K a0_0 a0_1 a0_2 a0_3) fun v1 v2 v3 v4 =>
  if ([] : List Int).length + a0_4.length ≤ 1099511627776 then
  some (v1, v2, v3, v4, (([] : List Int) ++ a0_4))
  else none

/-- spec.l9Down -/
def spec_l9Down.loop0 (K : Nat) (κ : (List Int) → (List Int) → (List Int) → (List Int) → (List Int) → Option ((List Int) × (List Int) × (List Int) × (List Int) × (List Int))) : Nat → (List Int) → Int → (List Int) → (List Int) → (List Int) → (List Int) → Option ((List Int) × (List Int) × (List Int) × (List Int) × (List Int))
  | 0, _, _, _, _, _, _ => none
  | m + 1, l6, p2, l7, l8, l9, l10 =>
    if p2 < (l6.length : Int) then
      if 0 ≤ p2 ∧ p2 < (l6.length : Int) then
      if (rd l6 p2) = (-1:Int) then
        spec_l9Down.loop0 K κ  m l6 (wrap64 (p2 + (1:Int))) l7 l8 l9 l10
      else
        if 0 ≤ (rd l6 p2) ∧ (rd l6 p2) < (l10.length : Int) then
        if 0 ≤ (rd l6 p2) ∧ (rd l6 p2) < ((l10.set (rd l6 p2).toNat (wrap64 ((rd l10 (rd l6 p2)) - (1:Int)))).length : Int) then
        if (rd (l10.set (rd l6 p2).toNat (wrap64 ((rd l10 (rd l6 p2)) - (1:Int)))) (rd l6 p2)) > (0:Int) then
          spec_l9Down.loop0 K κ  m l6 (wrap64 (p2 + (1:Int))) l7 l8 l9 (l10.set (rd l6 p2).toNat (wrap64 ((rd l10 (rd l6 p2)) - (1:Int))))
        else
          if 0 ≤ (rd l6 p2) ∧ (rd l6 p2) < (l8.length : Int) then
          if 0 ≤ (rd l6 p2) ∧ (rd l6 p2) < (l9.length : Int) then
          if l6.length + ([(rd l8 (rd l6 p2)), (rd l9 (rd l6 p2))] : List Int).length ≤ 1099511627776 then
          if l7.length + ([(rd l6 p2)] : List Int).length ≤ 1099511627776 then
          spec_l9Down.loop0 K κ  m (l6 ++ ([(rd l8 (rd l6 p2)), (rd l9 (rd l6 p2))] : List Int)) (wrap64 (p2 + (1:Int))) (l7 ++ ([(rd l6 p2)] : List Int)) (l8.set (rd l6 p2).toNat (-1:Int)) (l9.set (rd l6 p2).toNat (-1:Int)) (l10.set (rd l6 p2).toNat (wrap64 ((rd l10 (rd l6 p2)) - (1:Int))))
          else none
          else none
          else none
          else none
        else none
        else none
      else none
    else
      κ l7 l6 l8 l9 l10
def spec_l9Down.f (K : Nat) (a0_0 : List Int) (a0_1 : List Int) (a0_3 : List Int) (a0_4 : List Int) (a1 : List Int) : Option ((List Int) × (List Int) × (List Int) × (List Int) × (List Int)) :=
  spec_l9Down.loop0 K (fun l11 l12 l13 l14 l15 =>
    some (l13, l14, l11, l15, l12)) K a1 (0:Int) a0_3 a0_0 a0_1 a0_4

/-- spec.TakeCounted -/
def spec_TakeCounted.f (K : Nat) (a0_0 : List Int) (a0_1 : List Int) (a0_2 : List Int) (a0_3 : List Int) (a0_4 : List Int) (a1 : Int) : Option ((List Int) × (List Int) × (List Int) × (List Int) × (List Int) × Bool) :=
  b1 (spec_l9Root.f K a0_0 a0_1 a0_2 a0_3 a0_4 a1) fun v1 =>
  if v1 = true then
    if (a0_3.length : Int) = (0:Int) then
      some (([] : List Int), ([] : List Int), ([] : List Int), ([] : List Int), ([] : List Int), false)
    else
      b5 (spec_l9Copy.f K a0_0 a0_1 a0_2 a0_3 a0_4) fun v2 v3 v4 v5 v6 =>
      if 0 ≤ (0:Int) ∧ (0:Int) < (a0_3.length : Int) then
      if 0 ≤ a1 ∧ a1 < (a0_2.length : Int) then
      if 0 ≤ (1:Int) ∧ (1:Int) ≤ (a0_3.length : Int) then
      if ([] : List Int).length + (a0_3.drop (1:Int).toNat).length ≤ 1099511627776 then
      if 0 ≤ a1 ∧ a1 < (v4.length : Int) then
      if 0 ≤ (rd a0_3 (0:Int)) ∧ (rd a0_3 (0:Int)) < (v6.length : Int) then
      b5 (spec_l9Down.f K v2 v3 (([] : List Int) ++ (a0_3.drop (1:Int).toNat)) (v6.set (rd a0_3 (0:Int)).toNat (1:Int)) ([(rd a0_2 a1)] : List Int)) fun v7 v8 v9 v10 v11 =>
      some (v7, v8, (v4.set a1.toNat (rd a0_3 (0:Int))), v9, v10, true)
      else none
      else none
      else none
      else none
      else none
      else none
  else
    some (([] : List Int), ([] : List Int), ([] : List Int), ([] : List Int), ([] : List Int), false)

/-- spec.DropRoot -/
def spec_DropRoot.f (K : Nat) (a0_0 : List Int) (a0_1 : List Int) (a0_2 : List Int) (a0_3 : List Int) (a0_4 : List Int) (a1 : Int) : Option ((List Int) × (List Int) × (List Int) × (List Int) × (List Int) × Bool) :=
  b1 (spec_l9Root.f K a0_0 a0_1 a0_2 a0_3 a0_4 a1) fun v1 =>
  if v1 = true then
    b5 (spec_l9Copy.f K a0_0 a0_1 a0_2 a0_3 a0_4) fun v2 v3 v4 v5 v6 =>
    if 0 ≤ a1 ∧ a1 < (a0_2.length : Int) then
    if 0 ≤ a1 ∧ a1 < (v4.length : Int) then
    b5 (spec_l9Down.f K v2 v3 v5 v6 ([(rd a0_2 a1)] : List Int)) fun v7 v8 v9 v10 v11 =>
    some (v7, v8, (v4.set a1.toNat (-1:Int)), v9, v10, true)
    else none
    else none
  else
    some (([] : List Int), ([] : List Int), ([] : List Int), ([] : List Int), ([] : List Int), false)

/-- spec.LinkCounted -/
def spec_LinkCounted.f (K : Nat) (a0_0 : List Int) (a0_1 : List Int) (a0_2 : List Int) (a0_3 : List Int) (a0_4 : List Int) (a1 : Int) (a2 : Int) : Option ((List Int) × (List Int) × (List Int) × (List Int) × (List Int) × Bool) :=
  b1 (spec_l9Root.f K a0_0 a0_1 a0_2 a0_3 a0_4 a1) fun v1 =>
  if v1 = true then
    b1 (spec_l9Root.f K a0_0 a0_1 a0_2 a0_3 a0_4 a2) fun v2 =>
    if v2 = true then
      if 0 ≤ a1 ∧ a1 < (a0_2.length : Int) then
      if (rd a0_2 a1) = (-1:Int) then
        some (([] : List Int), ([] : List Int), ([] : List Int), ([] : List Int), ([] : List Int), false)
      else
        b5 (spec_l9Copy.f K a0_0 a0_1 a0_2 a0_3 a0_4) fun v3 v4 v5 v6 v7 =>
        if 0 ≤ a2 ∧ a2 < (a0_2.length : Int) then
        if 0 ≤ (rd a0_2 a1) ∧ (rd a0_2 a1) < (a0_0.length : Int) then
        if (rd a0_2 a2) = (-1:Int) then
          if 0 ≤ (rd a0_2 a1) ∧ (rd a0_2 a1) < (v3.length : Int) then
          b5 (spec_l9Down.f K (v3.set (rd a0_2 a1).toNat (rd a0_2 a2)) v4 v6 v7 ([(rd a0_0 (rd a0_2 a1))] : List Int)) fun v8 v9 v10 v11 v12 =>
          some (v8, v9, v5, v10, v11, true)
          else none
        else
          if 0 ≤ (rd a0_2 a2) ∧ (rd a0_2 a2) < (v7.length : Int) then
          if 0 ≤ (rd a0_2 a1) ∧ (rd a0_2 a1) < (v3.length : Int) then
          b5 (spec_l9Down.f K (v3.set (rd a0_2 a1).toNat (rd a0_2 a2)) v4 v6 (v7.set (rd a0_2 a2).toNat (wrap64 ((rd v7 (rd a0_2 a2)) + (1:Int)))) ([(rd a0_0 (rd a0_2 a1))] : List Int)) fun v13 v14 v15 v16 v17 =>
          some (v13, v14, v5, v15, v16, true)
          else none
          else none
        else none
        else none
      else none
    else
      some (([] : List Int), ([] : List Int), ([] : List Int), ([] : List Int), ([] : List Int), false)
  else
    some (([] : List Int), ([] : List Int), ([] : List Int), ([] : List Int), ([] : List Int), false)

/-- spec.l9Draw -/
def spec_l9Draw.loop0 (K : Nat) (κ : (List Int) → (List Int) → (List Int) → (List Int) → (List Int) → Int → Option ((List Int) × (List Int) × (List Int) × (List Int) × (List Int) × Int)) (a0_0 : List Int) (v7 : List Int) : Nat → Int → Int → (List Int) → (List Int) → (List Int) → (List Int) → (List Int) → Option ((List Int) × (List Int) × (List Int) × (List Int) × (List Int) × Int)
  | 0, _, _, _, _, _, _, _ => none
  | m + 1, p3, p4, l6, l7, l8, l9, l10 =>
    if p3 > (0:Int) then
      b2 (spec_l13Rd_pick.f K a0_0 p4 (v7.length : Int)) fun v90 v91 =>
      b2 (spec_l13Rd_pick.f K a0_0 v91 (v7.length : Int)) fun v92 v93 =>
      b6 (spec_TakeCounted.f K l6 l7 l8 l9 l10 v90) fun v94 v95 v96 v97 v98 v99 =>
      b2 (spec_l13Rd_pick.f K a0_0 v93 (4:Int)) fun v100 v101 =>
      if v100 = (0:Int) then
        b6 (spec_DropRoot.f K l6 l7 l8 l9 l10 v90) fun v102 v103 v104 v105 v106 v107 =>
        if v107 = true then
          spec_l9Draw.loop0 K κ a0_0 v7 m (wrap64 (p3 - (1:Int))) v101 v102 v103 v104 v105 v106
        else
          spec_l9Draw.loop0 K κ a0_0 v7 m (wrap64 (p3 - (1:Int))) v101 l6 l7 l8 l9 l10
      else
        if v100 = (1:Int) then
          b6 (spec_LinkCounted.f K l6 l7 l8 l9 l10 v90 v92) fun v108 v109 v110 v111 v112 v113 =>
          if v113 = true then
            spec_l9Draw.loop0 K κ a0_0 v7 m (wrap64 (p3 - (1:Int))) v101 v108 v109 v110 v111 v112
          else
            spec_l9Draw.loop0 K κ a0_0 v7 m (wrap64 (p3 - (1:Int))) v101 l6 l7 l8 l9 l10
        else
          if v99 = true then
            spec_l9Draw.loop0 K κ a0_0 v7 m (wrap64 (p3 - (1:Int))) v101 v94 v95 v96 v97 v98
          else
            spec_l9Draw.loop0 K κ a0_0 v7 m (wrap64 (p3 - (1:Int))) v101 l6 l7 l8 l9 l10
    else
      κ l6 l7 l8 l9 l10 p4
def spec_l9Draw.f (K : Nat) (a0_0 : List Int) (a0_1 : Int) : Option ((List Int) × (List Int) × (List Int) × (List Int) × (List Int) × Int) :=
  b2 (spec_l13Rd_num.f K a0_0 a0_1 ([(4:Int), (3:Int), (5:Int), (2:Int), (6:Int)] : List Int)) fun v1 v2 =>
  b2 (spec_l13Rd_num.f K a0_0 v2 ([(2:Int), (3:Int), (1:Int)] : List Int)) fun v3 v4 =>
  b5 (spec_NewStore.f K v1 v3) fun v5 v6 v7 v8 v9 =>
  b6 (spec_NewCounted.f K v5 v6 v7 v8) fun v10 v11 v12 v13 v14 v15 =>
  b2 (spec_l13Rd_num.f K a0_0 v4 ([(5:Int), (3:Int), (8:Int), (2:Int), (0:Int), (12:Int)] : List Int)) fun v16 v17 =>
  spec_l9Draw.loop0 K (fun l11 l12 l13 l14 l15 p5 =>
    some (l11, l12, l13, l14, l15, p5)) a0_0 v7 K v16 v17 v10 v11 v12 v13 v14

/-- spec.l9Wrong -/
def spec_l9Wrong.f (K : Nat) (a0_0 : List Int) (a0_1 : Int) (a1_0 : List Int) (a1_1 : List Int) (a1_2 : List Int) (a1_3 : List Int) (a1_4 : List Int) : Option ((List Int) × (List Int) × (List Int) × (List Int) × (List Int) × Int) :=
  b5 (spec_l9Copy.f K a1_0 a1_1 a1_2 a1_3 a1_4) fun v1 v2 v3 v4 v5 =>
  b2 (spec_l13Rd_pick.f K a0_0 a0_1 (20:Int)) fun v6 v7 =>
  if v6 = (0:Int) then
    b2 (spec_l13Rd_pick.f K a0_0 v7 (v5.length : Int)) fun v8 v9 =>
    b2 (spec_l13Rd_num.f K a0_0 v9 ([(-1:Int), (0:Int), (1:Int), (2:Int)] : List Int)) fun v10 v11 =>
    if 0 ≤ v8 ∧ v8 < (v5.length : Int) then
    some (v1, v2, v3, v4, (v5.set v8.toNat v10), v11)
    else none
  else
    if v6 = (1:Int) then
      b5 (spec_l4Wrong.f K a0_0 v7 v1 v2 v3 v4) fun v12 v13 v14 v15 v16 =>
      b5 (spec_l4Wrong.f K a0_0 v16 v12 v13 v14 v15) fun v17 v18 v19 v20 v21 =>
      some (v17, v18, v19, v20, v5, v21)
    else
      some (v1, v2, v3, v4, v5, v7)

/-- spec.l9Case -/
def spec_l9Case.f (K : Nat) (a0 : List Int) : Option ((List Int) × (List Int) × (List Int) × (List Int) × (List Int) × Int × Int) :=
  b1 (spec_l13Open.f K a0) fun _ =>
  b6 (spec_l9Draw.f K (a0.take 2000) (0:Int)) fun v1 v2 v3 v4 v5 v6 =>
  b6 (spec_l9Wrong.f K (a0.take 2000) v6 v1 v2 v3 v4 v5) fun v7 v8 v9 v10 v11 v12 =>
  b2 (spec_l13Rd_num.f K (a0.take 2000) v12 ([(0:Int), (1:Int), (0:Int), (2:Int), (3:Int), (-1:Int)] : List Int)) fun v13 v14 =>
  b2 (spec_l13Rd_num.f K (a0.take 2000) v14 ([(1:Int), (0:Int), (2:Int), (3:Int)] : List Int)) fun v15 v16 =>
  some (v7, v8, v9, v10, v11, v13, v15)

/-- impl.rooted -/
def impl_rooted.f (K : Nat) (a0_0 : List Int) (a0_1 : List Int) (a0_2 : List Int) (a0_3 : List Int) (a0_4 : List Int) (a1 : Int) : Option Bool :=
  b1 (impl_CountedValid.f K a0_0 a0_1 a0_2 a0_3 a0_4) fun v1 =>
  if v1 = true then
    if a1 ≥ (0:Int) then
      some (decide (a1 < (a0_2.length : Int)))
    else
      some false
  else
    some false

/-- impl.counted -/
def impl_counted.f (K : Nat) (a0_0 : List Int) (a0_1 : List Int) (a0_2 : List Int) (a0_3 : List Int) (a0_4 : List Int) : Option ((List Int) × (List Int) × (List Int) × (List Int) × (List Int)) :=
  b4 (impl_again.f K a0_0 a0_1 a0_2 a0_3) fun v1 v2 v3 v4 =>
  b1 (slices_Clone_int.f K a0_4) fun v5 =>
  some (v1, v2, v3, v4, v5)

/-- (*impl.Counted).giveUp -/
def impl_Counted_giveUp.loop0 (K : Nat) (κ : (List Int) → (List Int) → (List Int) → (List Int) → Option ((List Int) × (List Int) × (List Int) × (List Int))) : Nat → (List Int) → Int → (List Int) → (List Int) → (List Int) → (List Int) → Option ((List Int) × (List Int) × (List Int) × (List Int))
  | 0, _, _, _, _, _, _ => none
  | m + 1, l6, p2, l7, l8, l9, l10 =>
    if p2 < (l6.length : Int) then
      if 0 ≤ p2 ∧ p2 < (l6.length : Int) then
      if (rd l6 p2) = (-1:Int) then
        impl_Counted_giveUp.loop0 K κ  m l6 (wrap64 (p2 + (1:Int))) l7 l8 l9 l10
      else
        if 0 ≤ (rd l6 p2) ∧ (rd l6 p2) < (l10.length : Int) then
        if 0 ≤ (rd l6 p2) ∧ (rd l6 p2) < ((l10.set (rd l6 p2).toNat (wrap64 ((rd l10 (rd l6 p2)) - (1:Int)))).length : Int) then
        if (rd (l10.set (rd l6 p2).toNat (wrap64 ((rd l10 (rd l6 p2)) - (1:Int)))) (rd l6 p2)) > (0:Int) then
          impl_Counted_giveUp.loop0 K κ  m l6 (wrap64 (p2 + (1:Int))) l7 l8 l9 (l10.set (rd l6 p2).toNat (wrap64 ((rd l10 (rd l6 p2)) - (1:Int))))
        else
          if 0 ≤ (rd l6 p2) ∧ (rd l6 p2) < (l8.length : Int) then
          if 0 ≤ (rd l6 p2) ∧ (rd l6 p2) < (l9.length : Int) then
          if l6.length + ([(rd l8 (rd l6 p2)), (rd l9 (rd l6 p2))] : List Int).length ≤ 1099511627776 then
          if l7.length + ([(rd l6 p2)] : List Int).length ≤ 1099511627776 then
          impl_Counted_giveUp.loop0 K κ  m (l6 ++ ([(rd l8 (rd l6 p2)), (rd l9 (rd l6 p2))] : List Int)) (wrap64 (p2 + (1:Int))) (l7 ++ ([(rd l6 p2)] : List Int)) (l8.set (rd l6 p2).toNat (-1:Int)) (l9.set (rd l6 p2).toNat (-1:Int)) (l10.set (rd l6 p2).toNat (wrap64 ((rd l10 (rd l6 p2)) - (1:Int))))
          else none
          else none
          else none
          else none
        else none
        else none
      else none
    else
      κ l7 l8 l9 l10
def impl_Counted_giveUp.f (K : Nat) (a0_0 : List Int) (a0_1 : List Int) (a0_3 : List Int) (a0_4 : List Int) (a1 : Int) : Option ((List Int) × (List Int) × (List Int) × (List Int)) :=
  impl_Counted_giveUp.loop0 K (fun l11 l12 l13 l14 =>
    some (l12, l13, l11, l14)) K ([a1] : List Int) (0:Int) a0_3 a0_0 a0_1 a0_4

/-- impl.DropRoot -/
def impl_DropRoot.f (K : Nat) (a0_0 : List Int) (a0_1 : List Int) (a0_2 : List Int) (a0_3 : List Int) (a0_4 : List Int) (a1 : Int) : Option ((List Int) × (List Int) × (List Int) × (List Int) × (List Int) × Bool) :=
  b1 (impl_rooted.f K a0_0 a0_1 a0_2 a0_3 a0_4 a1) fun v1 =>
  if v1 = true then
    b5 (impl_counted.f K a0_0 a0_1 a0_2 a0_3 a0_4) fun v2 v3 v4 v5 v6 =>
    if 0 ≤ a1 ∧ a1 < (v4.length : Int) then
    b4 (impl_Counted_giveUp.f K v2 v3 v5 v6 (rd v4 a1)) fun v7 v8 v9 v10 =>
    some (v7, v8, (v4.set a1.toNat (-1:Int)), v9, v10, true)
    else none
  else
    some (([] : List Int), ([] : List Int), ([] : List Int), ([] : List Int), ([] : List Int), false)

/-- spec.DrawTakeCounted -/
def spec_DrawTakeCounted.f (K : Nat) (a0 : List Int) : Option ((List Int) × (List Int) × (List Int) × (List Int) × (List Int) × Int) :=
  b7 (spec_l9Case.f K a0) fun v1 v2 v3 v4 v5 v6 v7 =>
  some (v1, v2, v3, v4, v5, v6)

/-- impl.NewCounted -/
def impl_NewCounted.f (K : Nat) (a0_0 : List Int) (a0_1 : List Int) (a0_2 : List Int) (a0_3 : List Int) : Option ((List Int) × (List Int) × (List Int) × (List Int) × (List Int) × Bool) :=
  b1 (impl_StoreValid.f K a0_0 a0_1 a0_2 a0_3) fun v1 =>
  if v1 = true then
    b4 (impl_again.f K a0_0 a0_1 a0_2 a0_3) fun v2 v3 v4 v5 =>
    b1 (impl_CountsOf.f K a0_0 a0_1 a0_2) fun v6 =>
    some (v2, v3, v4, v5, v6, true)
  else
    some (([] : List Int), ([] : List Int), ([] : List Int), ([] : List Int), ([] : List Int), false)

/-- spec.DrawCountedValid -/
def spec_DrawCountedValid.f (K : Nat) (a0 : List Int) : Option ((List Int) × (List Int) × (List Int) × (List Int) × (List Int)) :=
  b1 (spec_l13Open.f K a0) fun _ =>
  b6 (spec_l9Draw.f K (a0.take 2000) (0:Int)) fun v1 v2 v3 v4 v5 v6 =>
  b6 (spec_l9Wrong.f K (a0.take 2000) v6 v1 v2 v3 v4 v5) fun v7 v8 v9 v10 v11 v12 =>
  b6 (spec_l9Wrong.f K (a0.take 2000) v12 v7 v8 v9 v10 v11) fun v13 v14 v15 v16 v17 v18 =>
  some (v13, v14, v15, v16, v17)

/-- spec.DrawDropRoot -/
def spec_DrawDropRoot.f (K : Nat) (a0 : List Int) : Option ((List Int) × (List Int) × (List Int) × (List Int) × (List Int) × Int) :=
  b6 (spec_DrawTakeCounted.f K a0) fun v1 v2 v3 v4 v5 v6 =>
  some (v1, v2, v3, v4, v5, v6)

/-- spec.DrawLinkCounted -/
def spec_DrawLinkCounted.f (K : Nat) (a0 : List Int) : Option ((List Int) × (List Int) × (List Int) × (List Int) × (List Int) × Int × Int) :=
  b7 (spec_l9Case.f K a0) fun v1 v2 v3 v4 v5 v6 v7 =>
  some (v1, v2, v3, v4, v5, v6, v7)

/-- impl.LinkCounted -/
def impl_LinkCounted.f (K : Nat) (a0_0 : List Int) (a0_1 : List Int) (a0_2 : List Int) (a0_3 : List Int) (a0_4 : List Int) (a1 : Int) (a2 : Int) : Option ((List Int) × (List Int) × (List Int) × (List Int) × (List Int) × Bool) :=
  b1 (impl_rooted.f K a0_0 a0_1 a0_2 a0_3 a0_4 a1) fun v1 =>
  if v1 = true then
    b1 (impl_rooted.f K a0_0 a0_1 a0_2 a0_3 a0_4 a2) fun v2 =>
    if v2 = true then
      if 0 ≤ a1 ∧ a1 < (a0_2.length : Int) then
      if (rd a0_2 a1) = (-1:Int) then
        some (([] : List Int), ([] : List Int), ([] : List Int), ([] : List Int), ([] : List Int), false)
      else
        b5 (impl_counted.f K a0_0 a0_1 a0_2 a0_3 a0_4) fun v3 v4 v5 v6 v7 =>
        if 0 ≤ a1 ∧ a1 < (v5.length : Int) then
        if 0 ≤ a2 ∧ a2 < (v5.length : Int) then
        if 0 ≤ (rd v5 a1) ∧ (rd v5 a1) < (v3.length : Int) then
        if (rd v5 a2) = (-1:Int) then
          b4 (impl_Counted_giveUp.f K (v3.set (rd v5 a1).toNat (rd v5 a2)) v4 v6 v7 (rd v3 (rd v5 a1))) fun v8 v9 v10 v11 =>
          some (v8, v9, v5, v10, v11, true)
        else
          if 0 ≤ (rd v5 a2) ∧ (rd v5 a2) < (v7.length : Int) then
          b4 (impl_Counted_giveUp.f K (v3.set (rd v5 a1).toNat (rd v5 a2)) v4 v6 (v7.set (rd v5 a2).toNat (wrap64 ((rd v7 (rd v5 a2)) + (1:Int)))) (rd v3 (rd v5 a1))) fun v12 v13 v14 v15 =>
          some (v12, v13, v5, v14, v15, true)
          else none
        else none
        else none
        else none
      else none
    else
      some (([] : List Int), ([] : List Int), ([] : List Int), ([] : List Int), ([] : List Int), false)
  else
    some (([] : List Int), ([] : List Int), ([] : List Int), ([] : List Int), ([] : List Int), false)

/-- impl.TakeCounted -/
def impl_TakeCounted.f (K : Nat) (a0_0 : List Int) (a0_1 : List Int) (a0_2 : List Int) (a0_3 : List Int) (a0_4 : List Int) (a1 : Int) : Option ((List Int) × (List Int) × (List Int) × (List Int) × (List Int) × Bool) :=
  b1 (impl_rooted.f K a0_0 a0_1 a0_2 a0_3 a0_4 a1) fun v1 =>
  if v1 = true then
    if (a0_3.length : Int) = (0:Int) then
      some (([] : List Int), ([] : List Int), ([] : List Int), ([] : List Int), ([] : List Int), false)
    else
      b5 (impl_counted.f K a0_0 a0_1 a0_2 a0_3 a0_4) fun v2 v3 v4 v5 v6 =>
      if 0 ≤ (0:Int) ∧ (0:Int) < (v5.length : Int) then
      if 0 ≤ (1:Int) ∧ (1:Int) ≤ (v5.length : Int) then
      if 0 ≤ a1 ∧ a1 < (v4.length : Int) then
      if 0 ≤ (rd v5 (0:Int)) ∧ (rd v5 (0:Int)) < (v6.length : Int) then
      b4 (impl_Counted_giveUp.f K v2 v3 (v5.drop (1:Int).toNat) (v6.set (rd v5 (0:Int)).toNat (1:Int)) (rd v4 a1)) fun v7 v8 v9 v10 =>
      some (v7, v8, (v4.set a1.toNat (rd v5 (0:Int))), v9, v10, true)
      else none
      else none
      else none
      else none
  else
    some (([] : List Int), ([] : List Int), ([] : List Int), ([] : List Int), ([] : List Int), false)

/-- spec.DrawCountedSame -/
def spec_DrawCountedSame.f (K : Nat) (a0 : List Int) : Option ((List Int) × (List Int) × (List Int) × (List Int) × (List Int) × (List Int) × (List Int) × (List Int) × (List Int) × (List Int)) :=
  b1 (spec_l13Open.f K a0) fun _ =>
  b6 (spec_l9Draw.f K (a0.take 2000) (0:Int)) fun v1 v2 v3 v4 v5 v6 =>
  b6 (spec_l9Wrong.f K (a0.take 2000) v6 v1 v2 v3 v4 v5) fun v7 v8 v9 v10 v11 v12 =>
  b6 (spec_l9Wrong.f K (a0.take 2000) v12 v7 v8 v9 v10 v11) fun v13 v14 v15 v16 v17 v18 =>
  b6 (spec_l9Wrong.f K (a0.take 2000) v18 v13 v14 v15 v16 v17) fun v19 v20 v21 v22 v23 v24 =>
  some (v1, v2, v3, v4, v5, v19, v20, v21, v22, v23)

/-- laws.FnCountedSame -/
def laws_FnCountedSame.f (K : Nat) (a0 : List Int) : Option Bool :=
  if (a0.length : Int) > (1048576:Int) then
    some true
  else
    b10 (spec_DrawCountedSame.f K a0) fun v1 v2 v3 v4 v5 v6 v7 v8 v9 v10 =>
    b1 (impl_CountedSame.f K v1 v2 v3 v4 v5 v6 v7 v8 v9 v10) fun v11 =>
    b1 (spec_CountedSame.f K v1 v2 v3 v4 v5 v6 v7 v8 v9 v10) fun v12 =>
    if v11 = v12 then
      b1 (impl_CountedSame.f K v6 v7 v8 v9 v10 v1 v2 v3 v4 v5) fun v13 =>
      if v11 = v13 then
        b1 (impl_CountedSame.f K v1 v2 v3 v4 v5 v1 v2 v3 v4 v5) fun v14 =>
        if v14 = true then
          if v11 = true then
            b1 (impl_CountedValid.f K v1 v2 v3 v4 v5) fun v15 =>
            b1 (impl_CountedValid.f K v6 v7 v8 v9 v10) fun v16 =>
            some (v15 == v16)
          else
            some true
        else
          some false
      else
        some false
    else
      some false

/-- laws.FnCountedValid -/
def laws_FnCountedValid.f (K : Nat) (a0 : List Int) : Option Bool :=
  if (a0.length : Int) > (1048576:Int) then
    some true
  else
    b5 (spec_DrawCountedValid.f K a0) fun v1 v2 v3 v4 v5 =>
    b1 (impl_CountedValid.f K v1 v2 v3 v4 v5) fun v6 =>
    b1 (spec_CountedValid.f K v1 v2 v3 v4 v5) fun v7 =>
    if v6 = v7 then
      if v6 = true then
        if ([] : List Int).length + v5.length ≤ 1099511627776 then
        if 0 ≤ (0:Int) ∧ (0:Int) < ((([] : List Int) ++ v5).length : Int) then
        b1 (impl_CountedValid.f K v1 v2 v3 v4 ((([] : List Int) ++ v5).set (0:Int).toNat (wrap64 ((rd (([] : List Int) ++ v5) (0:Int)) + (1:Int))))) fun v8 =>
        if v8 = true then
          some false
        else
          b1 (impl_StoreValid.f K v1 v2 v3 v4) fun v9 =>
          some v9
        else none
        else none
      else
        b1 (spec_CountedValid.f K v1 v2 v3 v4 v5) fun v10 =>
        some (v6 == v10)
    else
      b1 (spec_CountedValid.f K v1 v2 v3 v4 v5) fun v11 =>
      some (v6 == v11)

/-- laws.FnCountsSame -/
def laws_FnCountsSame.f (K : Nat) (a0 : List Int) : Option Bool :=
  if (a0.length : Int) > (1048576:Int) then
    some true
  else
    b5 (spec_DrawCountedValid.f K a0) fun v1 v2 v3 v4 v5 =>
    b1 (impl_CountedValid.f K v1 v2 v3 v4 v5) fun v6 =>
    b6 (impl_NewCounted.f K v1 v2 v3 v4) fun v7 v8 v9 v10 v11 v12 =>
    b1 (spec_CountedValid.f K v1 v2 v3 v4 v5) fun v13 =>
    if v6 = v13 then
      if v12 = true then
        b1 (impl_CountedSame.f K v7 v8 v9 v10 v11 v1 v2 v3 v4 v5) fun v14 =>
        some (v6 == v14)
      else
        some (v6 == false)
    else
      some false

/-- laws.FnDropRoot -/
def laws_FnDropRoot.loop0 (K : Nat) (κ : Unit → Option Bool) (v1 : List Int) (v2 : List Int) (v3 : List Int) (v4 : List Int) (v5 : List Int) (v7 : List Int) (v8 : List Int) (v9 : List Int) (v10 : List Int) (v11 : List Int) : Nat → Int → Option Bool
  | 0, _ => none
  | m + 1, p2 =>
    if p2 < (v11.length : Int) then
      if 0 ≤ p2 ∧ p2 < (v11.length : Int) then
      b1 (impl_IsFree.f K v7 v8 v9 v10 p2) fun v26 =>
      if ((rd v11 p2) == (0:Int)) = v26 then
        laws_FnDropRoot.loop0 K κ v1 v2 v3 v4 v5 v7 v8 v9 v10 v11 m (wrap64 (p2 + (1:Int)))
      else
        b1 (impl_IsFree.f K v1 v2 v3 v4 p2) fun v27 =>
        if 0 ≤ p2 ∧ p2 < (v5.length : Int) then
        if v27 = ((rd v5 p2) == (0:Int)) then
          some false
        else
          laws_FnDropRoot.loop0 K κ v1 v2 v3 v4 v5 v7 v8 v9 v10 v11 m (wrap64 (p2 + (1:Int)))
        else none
      else none
    else
      κ ()
def laws_FnDropRoot.f (K : Nat) (a0 : List Int) : Option Bool :=
  if (a0.length : Int) > (1048576:Int) then
    some true
  else
    b6 (spec_DrawDropRoot.f K a0) fun v1 v2 v3 v4 v5 v6 =>
    b6 (impl_DropRoot.f K v1 v2 v3 v4 v5 v6) fun v7 v8 v9 v10 v11 v12 =>
    b6 (spec_DropRoot.f K v1 v2 v3 v4 v5 v6) fun v13 v14 v15 v16 v17 v18 =>
    b1 (impl_CountedSame.f K v7 v8 v9 v10 v11 v13 v14 v15 v16 v17) fun v19 =>
    if v19 = true then
      if v12 = v18 then
        if v12 = true then
          laws_FnDropRoot.loop0 K (fun _ =>
            b1 (impl_CountedValid.f K v7 v8 v9 v10 v11) fun v28 =>
            if v28 = true then
              if 0 ≤ v6 ∧ v6 < (v9.length : Int) then
              if (rd v9 v6) = (-1:Int) then
                some (decide ((v10.length : Int) ≥ (v4.length : Int)))
              else
                some false
              else none
            else
              some false) v1 v2 v3 v4 v5 v7 v8 v9 v10 v11 K (0:Int)
        else
          b1 (impl_CountedSame.f K v7 v8 v9 v10 v11 v13 v14 v15 v16 v17) fun v29 =>
          if v29 = true then
            some (v12 == v18)
          else
            some false
      else
        b1 (impl_CountedSame.f K v7 v8 v9 v10 v11 v13 v14 v15 v16 v17) fun v30 =>
        if v30 = true then
          some (v12 == v18)
        else
          some false
    else
      b1 (impl_CountedSame.f K v7 v8 v9 v10 v11 v13 v14 v15 v16 v17) fun v31 =>
      if v31 = true then
        some (v12 == v18)
      else
        some false

/-- laws.FnDropTwice -/
def laws_FnDropTwice.f (K : Nat) (a0 : List Int) : Option Bool :=
  if (a0.length : Int) > (1048576:Int) then
    some true
  else
    b6 (spec_DrawDropRoot.f K a0) fun v1 v2 v3 v4 v5 v6 =>
    b6 (impl_DropRoot.f K v1 v2 v3 v4 v5 v6) fun v7 v8 v9 v10 v11 v12 =>
    b6 (spec_DropRoot.f K v1 v2 v3 v4 v5 v6) fun v13 v14 v15 v16 v17 v18 =>
    b1 (impl_CountedSame.f K v7 v8 v9 v10 v11 v13 v14 v15 v16 v17) fun v19 =>
    if v19 = true then
      if v12 = v18 then
        if v12 = true then
          b6 (impl_DropRoot.f K v7 v8 v9 v10 v11 v6) fun v20 v21 v22 v23 v24 v25 =>
          if v25 = true then
            b1 (impl_CountedSame.f K v20 v21 v22 v23 v24 v7 v8 v9 v10 v11) fun v26 =>
            some v26
          else
            some false
        else
          b1 (impl_CountedSame.f K v7 v8 v9 v10 v11 v13 v14 v15 v16 v17) fun v27 =>
          if v27 = true then
            some (v12 == v18)
          else
            some false
      else
        b1 (impl_CountedSame.f K v7 v8 v9 v10 v11 v13 v14 v15 v16 v17) fun v28 =>
        if v28 = true then
          some (v12 == v18)
        else
          some false
    else
      b1 (impl_CountedSame.f K v7 v8 v9 v10 v11 v13 v14 v15 v16 v17) fun v29 =>
      if v29 = true then
        some (v12 == v18)
      else
        some false

/-- laws.FnExactCountedValid -/
def laws_FnExactCountedValid.f (K : Nat) (a0_0 : List Int) (a0_1 : List Int) (a0_2 : List Int) (a0_3 : List Int) (a0_4 : List Int) : Option Bool :=
  b1 (laws_szCounted.f K a0_0 a0_1 a0_2 a0_3 a0_4 (1048576:Int)) fun v1 =>
  if v1 < (0:Int) then
    some true
  else
    b5 (laws_toCounted.f K a0_0 a0_1 a0_2 a0_3 a0_4) fun v2 v3 v4 v5 v6 =>
    b1 (spec_CountedValid.f K v2 v3 v4 v5 v6) fun v7 =>
    b5 (laws_toCounted.f K a0_0 a0_1 a0_2 a0_3 a0_4) fun v8 v9 v10 v11 v12 =>
    b1 (impl_CountedValid.f K v8 v9 v10 v11 v12) fun v13 =>
    if v13 = v7 then
      b5 (laws_toCounted.f K a0_0 a0_1 a0_2 a0_3 a0_4) fun v14 v15 v16 v17 v18 =>
      b1 (laws_eqCounted.f K v8 v9 v10 v11 v12 v14 v15 v16 v17 v18) fun v19 =>
      if v19 = true then
        some true
      else
        some false
    else
      some false

/-- laws.markCounted -/
def laws_markCounted.f (K : Nat) (a0_0 : List Int) (a0_1 : List Int) (a0_2 : List Int) (a0_3 : List Int) (a0_4 : List Int) (a1 : Int) : Option (Int × (List Int) × (List Int) × (List Int) × (List Int) × (List Int)) :=
  b5 (laws_markStore.f K a0_0 a0_1 a0_2 a0_3 a1) fun v1 v2 v3 v4 v5 =>
  b2 (laws_markIntS.f K a0_4 v1) fun v6 v7 =>
  some (v6, v2, v3, v4, v5, v7)

/-- laws.heldCounted -/
def laws_heldCounted.f (K : Nat) (a0_0 : List Int) (a0_1 : List Int) (a0_2 : List Int) (a0_3 : List Int) (a0_4 : List Int) (a1 : Int) : Option Int :=
  b1 (laws_heldStore.f K a0_0 a0_1 a0_2 a0_3 a1) fun v1 =>
  if v1 < (0:Int) then
    some (-1:Int)
  else
    b1 (laws_heldIntS.f K a0_4 v1) fun v2 =>
    if v2 < (0:Int) then
      some (-1:Int)
    else
      some v2

/-- laws.FnExactNewCounted -/
def laws_FnExactNewCounted.f (K : Nat) (a0_0 : List Int) (a0_1 : List Int) (a0_2 : List Int) (a0_3 : List Int) : Option Bool :=
  b1 (laws_szStore.f K a0_0 a0_1 a0_2 a0_3 (1048576:Int)) fun v1 =>
  if v1 < (0:Int) then
    some true
  else
    b4 (laws_toStore.f K a0_0 a0_1 a0_2 a0_3) fun v2 v3 v4 v5 =>
    b6 (spec_NewCounted.f K v2 v3 v4 v5) fun v6 v7 v8 v9 v10 v11 =>
    b4 (laws_toStore.f K a0_0 a0_1 a0_2 a0_3) fun v12 v13 v14 v15 =>
    b6 (impl_NewCounted.f K v12 v13 v14 v15) fun v16 v17 v18 v19 v20 v21 =>
    b1 (laws_eqCounted.f K v16 v17 v18 v19 v20 v6 v7 v8 v9 v10) fun v22 =>
    if v22 = true then
      if v21 = v11 then
        b4 (laws_toStore.f K a0_0 a0_1 a0_2 a0_3) fun v23 v24 v25 v26 =>
        b1 (laws_eqStore.f K v12 v13 v14 v15 v23 v24 v25 v26) fun v27 =>
        if v27 = true then
          b5 (laws_markStore.f K v12 v13 v14 v15 (1:Int)) fun v28 v29 v30 v31 v32 =>
          if v28 < (0:Int) then
            some false
          else
            b1 (laws_eqCounted.f K v16 v17 v18 v19 v20 v6 v7 v8 v9 v10) fun v33 =>
            if v33 = true then
              b6 (laws_markCounted.f K v16 v17 v18 v19 v20 (1:Int)) fun v34 v35 v36 v37 v38 v39 =>
              b1 (laws_heldCounted.f K v35 v36 v37 v38 v39 (1:Int)) fun v40 =>
              if v40 < (0:Int) then
                some false
              else
                if v40 = v34 then
                  b4 (laws_toStore.f K a0_0 a0_1 a0_2 a0_3) fun v41 v42 v43 v44 =>
                  b6 (impl_NewCounted.f K v41 v42 v43 v44) fun v45 v46 v47 v48 v49 v50 =>
                  b1 (laws_eqCounted.f K v45 v46 v47 v48 v49 v6 v7 v8 v9 v10) fun v51 =>
                  if v51 = true then
                    if v50 = v11 then
                      b1 (laws_heldCounted.f K v35 v36 v37 v38 v39 (1:Int)) fun v52 =>
                      if v52 < (0:Int) then
                        some false
                      else
                        if v52 = v34 then
                          some true
                        else
                          some false
                    else
                      some false
                  else
                    some false
                else
                  some false
            else
              some false
        else
          some false
      else
        some false
    else
      some false

/-- laws.FnLinkCounted -/
def laws_FnLinkCounted.f (K : Nat) (a0 : List Int) : Option Bool :=
  if (a0.length : Int) > (1048576:Int) then
    some true
  else
    b7 (spec_DrawLinkCounted.f K a0) fun v1 v2 v3 v4 v5 v6 v7 =>
    b6 (impl_LinkCounted.f K v1 v2 v3 v4 v5 v6 v7) fun v8 v9 v10 v11 v12 v13 =>
    b6 (spec_LinkCounted.f K v1 v2 v3 v4 v5 v6 v7) fun v14 v15 v16 v17 v18 v19 =>
    b1 (impl_CountedSame.f K v8 v9 v10 v11 v12 v14 v15 v16 v17 v18) fun v20 =>
    if v20 = true then
      if v13 = v19 then
        if v13 = true then
          b6 (impl_LinkCounted.f K v8 v9 v10 v11 v12 v6 v7) fun v21 v22 v23 v24 v25 v26 =>
          b1 (impl_CountedValid.f K v8 v9 v10 v11 v12) fun v27 =>
          if v27 = true then
            if 0 ≤ v6 ∧ v6 < (v10.length : Int) then
            if 0 ≤ (rd v10 v6) ∧ (rd v10 v6) < (v8.length : Int) then
            if 0 ≤ v7 ∧ v7 < (v3.length : Int) then
            if (rd v8 (rd v10 v6)) = (rd v3 v7) then
              if v26 = true then
                b1 (impl_CountedSame.f K v21 v22 v23 v24 v25 v8 v9 v10 v11 v12) fun v28 =>
                some v28
              else
                some false
            else
              some false
            else none
            else none
            else none
          else
            some false
        else
          b1 (impl_CountedSame.f K v8 v9 v10 v11 v12 v14 v15 v16 v17 v18) fun v29 =>
          if v29 = true then
            some (v13 == v19)
          else
            some false
      else
        b1 (impl_CountedSame.f K v8 v9 v10 v11 v12 v14 v15 v16 v17 v18) fun v30 =>
        if v30 = true then
          some (v13 == v19)
        else
          some false
    else
      b1 (impl_CountedSame.f K v8 v9 v10 v11 v12 v14 v15 v16 v17 v18) fun v31 =>
      if v31 = true then
        some (v13 == v19)
      else
        some false

/-- laws.FnLinkSelf -/
def laws_FnLinkSelf.loop0 (K : Nat) (κ : (List Int) → (List Int) → (List Int) → (List Int) → (List Int) → Option Bool) : Nat → Int → (List Int) → (List Int) → (List Int) → (List Int) → (List Int) → Option Bool
  | 0, _, _, _, _, _, _ => none
  | m + 1, p2, l6, l7, l8, l9, l10 =>
    if p2 < (l8.length : Int) then
      b6 (impl_DropRoot.f K l6 l7 l8 l9 l10 p2) fun v45 v46 v47 v48 v49 v50 =>
      if v50 = true then
        laws_FnLinkSelf.loop0 K κ  m (wrap64 (p2 + (1:Int))) v45 v46 v47 v48 v49
      else
        some false
    else
      κ l6 l7 l8 l9 l10
def laws_FnLinkSelf.f (K : Nat) (a0 : List Int) : Option Bool :=
  if (a0.length : Int) > (1048576:Int) then
    some true
  else
    b7 (spec_DrawLinkCounted.f K a0) fun v1 v2 v3 v4 v5 v6 v7 =>
    b6 (impl_LinkCounted.f K v1 v2 v3 v4 v5 v6 v7) fun v8 v9 v10 v11 v12 v13 =>
    b6 (spec_LinkCounted.f K v1 v2 v3 v4 v5 v6 v7) fun v14 v15 v16 v17 v18 v19 =>
    b1 (impl_CountedSame.f K v8 v9 v10 v11 v12 v14 v15 v16 v17 v18) fun v20 =>
    if v20 = true then
      if v13 = v19 then
        if v13 = true then
          if 0 ≤ v6 ∧ v6 < (v3.length : Int) then
          b6 (impl_LinkCounted.f K v1 v2 v3 v4 v5 v6 v6) fun v21 v22 v23 v24 v25 v26 =>
          laws_FnLinkSelf.loop0 K (fun l11 l12 l13 l14 l15 =>
            if v26 = true then
              b1 (impl_IsFree.f K l11 l12 l13 l14 (rd v3 v6)) fun v51 =>
              if v51 = true then
                some false
              else
                if 0 ≤ (rd v3 v6) ∧ (rd v3 v6) < (l15.length : Int) then
                some (decide ((rd l15 (rd v3 v6)) ≥ (1:Int)))
                else none
            else
              some false) K (0:Int) v21 v22 v23 v24 v25
          else none
        else
          b1 (impl_CountedSame.f K v8 v9 v10 v11 v12 v14 v15 v16 v17 v18) fun v52 =>
          if v52 = true then
            some (v13 == v19)
          else
            some false
      else
        b1 (impl_CountedSame.f K v8 v9 v10 v11 v12 v14 v15 v16 v17 v18) fun v53 =>
        if v53 = true then
          some (v13 == v19)
        else
          some false
    else
      b1 (impl_CountedSame.f K v8 v9 v10 v11 v12 v14 v15 v16 v17 v18) fun v54 =>
      if v54 = true then
        some (v13 == v19)
      else
        some false

/-- spec.DrawCollectStore -/
def spec_DrawCollectStore.f (K : Nat) (a0 : List Int) : Option ((List Int) × (List Int) × (List Int) × (List Int)) :=
  b5 (spec_l4Case.f K a0) fun v1 v2 v3 v4 v5 =>
  some (v1, v2, v3, v4)

/-- spec.DrawNewCounted -/
def spec_DrawNewCounted.f (K : Nat) (a0 : List Int) : Option ((List Int) × (List Int) × (List Int) × (List Int)) :=
  b4 (spec_DrawCollectStore.f K a0) fun v1 v2 v3 v4 =>
  some (v1, v2, v3, v4)

/-- laws.FnNewCounted -/
def laws_FnNewCounted.loop0 (K : Nat) (κ : Unit → Option Bool) (v1 : List Int) (v2 : List Int) (v3 : List Int) (v4 : List Int) (v9 : List Int) : Nat → Int → Option Bool
  | 0, _ => none
  | m + 1, p2 =>
    if p2 < (v9.length : Int) then
      b1 (impl_IsFree.f K v1 v2 v3 v4 p2) fun v21 =>
      if v21 = true then
        if 0 ≤ p2 ∧ p2 < (v9.length : Int) then
        if (rd v9 p2) = (0:Int) then
          laws_FnNewCounted.loop0 K κ v1 v2 v3 v4 v9 m (wrap64 (p2 + (1:Int)))
        else
          some false
        else none
      else
        laws_FnNewCounted.loop0 K κ v1 v2 v3 v4 v9 m (wrap64 (p2 + (1:Int)))
    else
      κ ()
def laws_FnNewCounted.f (K : Nat) (a0 : List Int) : Option Bool :=
  if (a0.length : Int) > (1048576:Int) then
    some true
  else
    b4 (spec_DrawNewCounted.f K a0) fun v1 v2 v3 v4 =>
    b6 (impl_NewCounted.f K v1 v2 v3 v4) fun v5 v6 v7 v8 v9 v10 =>
    b6 (spec_NewCounted.f K v1 v2 v3 v4) fun v11 v12 v13 v14 v15 v16 =>
    b1 (impl_CountedSame.f K v5 v6 v7 v8 v9 v11 v12 v13 v14 v15) fun v17 =>
    if v17 = true then
      if v10 = v16 then
        if v10 = true then
          laws_FnNewCounted.loop0 K (fun _ =>
            b1 (impl_CountedValid.f K v5 v6 v7 v8 v9) fun v22 =>
            if v22 = true then
              b1 (impl_StoreSame.f K v5 v6 v7 v8 v1 v2 v3 v4) fun v23 =>
              if v23 = true then
                b1 (impl_CountsOf.f K v1 v2 v3) fun v24 =>
                b1 (laws_ccInts.f K v9 v24) fun v25 =>
                some v25
              else
                some false
            else
              some false) v1 v2 v3 v4 v9 K (0:Int)
        else
          b1 (impl_CountedSame.f K v5 v6 v7 v8 v9 v11 v12 v13 v14 v15) fun v26 =>
          if v26 = true then
            some (v10 == v16)
          else
            some false
      else
        b1 (impl_CountedSame.f K v5 v6 v7 v8 v9 v11 v12 v13 v14 v15) fun v27 =>
        if v27 = true then
          some (v10 == v16)
        else
          some false
    else
      b1 (impl_CountedSame.f K v5 v6 v7 v8 v9 v11 v12 v13 v14 v15) fun v28 =>
      if v28 = true then
        some (v10 == v16)
      else
        some false

/-- laws.FnTakeCounted -/
def laws_FnTakeCounted.f (K : Nat) (a0 : List Int) : Option Bool :=
  if (a0.length : Int) > (1048576:Int) then
    some true
  else
    b6 (spec_DrawTakeCounted.f K a0) fun v1 v2 v3 v4 v5 v6 =>
    b6 (impl_TakeCounted.f K v1 v2 v3 v4 v5 v6) fun v7 v8 v9 v10 v11 v12 =>
    b6 (spec_TakeCounted.f K v1 v2 v3 v4 v5 v6) fun v13 v14 v15 v16 v17 v18 =>
    b1 (impl_CountedSame.f K v7 v8 v9 v10 v11 v13 v14 v15 v16 v17) fun v19 =>
    if v19 = true then
      if v12 = v18 then
        if v12 = true then
          if 0 ≤ (0:Int) ∧ (0:Int) < (v4.length : Int) then
          b6 (impl_DropRoot.f K v1 v2 v3 v4 v5 v6) fun v20 v21 v22 v23 v24 v25 =>
          b6 (impl_TakeCounted.f K v20 v21 v22 v23 v24 v6) fun v26 v27 v28 v29 v30 v31 =>
          b1 (impl_CountedValid.f K v7 v8 v9 v10 v11) fun v32 =>
          if v32 = true then
            if 0 ≤ (rd v4 (0:Int)) ∧ (rd v4 (0:Int)) < (v11.length : Int) then
            if (rd v11 (rd v4 (0:Int))) = (1:Int) then
              if 0 ≤ v6 ∧ v6 < (v9.length : Int) then
              if (rd v9 v6) = (rd v4 (0:Int)) then
                if v25 = true then
                  if v31 = true then
                    b1 (impl_HeapSame.f K v26 v27 v28 v7 v8 v9) fun v33 =>
                    some v33
                  else
                    some false
                else
                  some false
              else
                some false
              else none
            else
              some false
            else none
          else
            some false
          else none
        else
          b1 (impl_CountedSame.f K v7 v8 v9 v10 v11 v13 v14 v15 v16 v17) fun v34 =>
          if v34 = true then
            some (v12 == v18)
          else
            some false
      else
        b1 (impl_CountedSame.f K v7 v8 v9 v10 v11 v13 v14 v15 v16 v17) fun v35 =>
        if v35 = true then
          some (v12 == v18)
        else
          some false
    else
      b1 (impl_CountedSame.f K v7 v8 v9 v10 v11 v13 v14 v15 v16 v17) fun v36 =>
      if v36 = true then
        some (v12 == v18)
      else
        some false

/-- laws.FnTakeFree -/
def laws_FnTakeFree.f (K : Nat) (a0 : List Int) : Option Bool :=
  if (a0.length : Int) > (1048576:Int) then
    some true
  else
    b6 (spec_DrawTakeCounted.f K a0) fun v1 v2 v3 v4 v5 v6 =>
    b6 (impl_TakeCounted.f K v1 v2 v3 v4 v5 v6) fun v7 v8 v9 v10 v11 v12 =>
    b6 (spec_TakeCounted.f K v1 v2 v3 v4 v5 v6) fun v13 v14 v15 v16 v17 v18 =>
    b1 (impl_CountedSame.f K v7 v8 v9 v10 v11 v13 v14 v15 v16 v17) fun v19 =>
    if v19 = true then
      if v12 = v18 then
        if v12 = true then
          if 0 ≤ v6 ∧ v6 < (v9.length : Int) then
          b6 (impl_DropRoot.f K v7 v8 v9 v10 v11 v6) fun v20 v21 v22 v23 v24 v25 =>
          b1 (impl_IsFree.f K v1 v2 v3 v4 (rd v9 v6)) fun v26 =>
          if v26 = true then
            b1 (impl_IsFree.f K v7 v8 v9 v10 (rd v9 v6)) fun v27 =>
            if v27 = true then
              some false
            else
              if v25 = true then
                b1 (impl_IsFree.f K v20 v21 v22 v23 (rd v9 v6)) fun v28 =>
                if v28 = true then
                  if 0 ≤ (rd v9 v6) ∧ (rd v9 v6) < (v24.length : Int) then
                  some ((rd v24 (rd v9 v6)) == (0:Int))
                  else none
                else
                  some false
              else
                some false
          else
            some false
          else none
        else
          b1 (impl_CountedSame.f K v7 v8 v9 v10 v11 v13 v14 v15 v16 v17) fun v29 =>
          if v29 = true then
            some (v12 == v18)
          else
            some false
      else
        b1 (impl_CountedSame.f K v7 v8 v9 v10 v11 v13 v14 v15 v16 v17) fun v30 =>
        if v30 = true then
          some (v12 == v18)
        else
          some false
    else
      b1 (impl_CountedSame.f K v7 v8 v9 v10 v11 v13 v14 v15 v16 v17) fun v31 =>
      if v31 = true then
        some (v12 == v18)
      else
        some false

end Go.Proofs.Ytgganabcfloioaa.F
