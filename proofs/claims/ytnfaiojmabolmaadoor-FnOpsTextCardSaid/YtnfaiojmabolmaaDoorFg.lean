/- Pure functions, one for each of some functions of the program, printed by the generator of wip/gen. -/
import Derived.Test.YtnfaiojmabolmaaDoorX1
import Derived.Test.YtnfaiojmabolmaaDoorFa
namespace Go.Proofs.YtnfaiojmabolmaaDoor.F
open Go Go.RowKit Go.Proofs.YtnfaiojmabolmaaDoor.S
set_option linter.unusedVariables false
/-- impl.AllocCell -/
def impl_AllocCell.f (K : Nat) (a0_0 : List Int) (a0_1 : List Int) (a0_2 : List Int) (a0_3 : List Int) (a1 : Int) : Option ((List Int) × (List Int) × (List Int) × (List Int) × Int × Bool) :=
  b1 (impl_StoreValid.f K a0_0 a0_1 a0_2 a0_3) fun v1 =>
  if v1 = true then
    if a1 < (0:Int) then
      some (([] : List Int), ([] : List Int), ([] : List Int), ([] : List Int), (0:Int), false)
    else
      if a1 ≥ (a0_2.length : Int) then
        some (([] : List Int), ([] : List Int), ([] : List Int), ([] : List Int), (0:Int), false)
      else
        if (a0_3.length : Int) = (0:Int) then
          some (([] : List Int), ([] : List Int), ([] : List Int), ([] : List Int), (0:Int), false)
        else
          b4 (impl_again.f K a0_0 a0_1 a0_2 a0_3) fun v2 v3 v4 v5 =>
          if 0 ≤ (0:Int) ∧ (0:Int) < (v5.length : Int) then
          if 0 ≤ (1:Int) ∧ (1:Int) ≤ (v5.length : Int) then
          if 0 ≤ a1 ∧ a1 < (v4.length : Int) then
          some (v2, v3, (v4.set a1.toNat (rd v5 (0:Int))), (v5.drop (1:Int).toNat), (rd v5 (0:Int)), true)
          else none
          else none
          else none
  else
    some (([] : List Int), ([] : List Int), ([] : List Int), ([] : List Int), (0:Int), false)

/-- impl.RunOp -/
def impl_RunOp.f (K : Nat) (a0_0 : List Int) (a0_1 : List Int) (a0_2 : List Int) (a0_3 : List Int) (a1_0 : Int) (a1_1 : Int) (a1_2 : Int) : Option ((List Int) × (List Int) × (List Int) × (List Int) × Int × Bool) :=
  b1 (impl_StoreValid.f K a0_0 a0_1 a0_2 a0_3) fun v1 =>
  if v1 = true then
    b1 (impl_OpValid.f K a1_0 a1_1 a1_2 (a0_2.length : Int)) fun v2 =>
    if v2 = true then
      b4 (impl_again.f K a0_0 a0_1 a0_2 a0_3) fun v3 v4 v5 v6 =>
      if a1_0 = (1:Int) then
        b6 (impl_AllocCell.f K v3 v4 v5 v6 a1_1) fun v7 v8 v9 v10 v11 v12 =>
        if v12 = true then
          some (v7, v8, v9, v10, (0:Int), true)
        else
          some (v3, v4, v5, v6, (1:Int), true)
      else
        if a1_0 = (2:Int) then
          if 0 ≤ a1_2 ∧ a1_2 < (v5.length : Int) then
          if 0 ≤ a1_1 ∧ a1_1 < (v5.length : Int) then
          some (v3, v4, (v5.set a1_1.toNat (rd v5 a1_2)), v6, (0:Int), true)
          else none
          else none
        else
          if a1_0 = (3:Int) then
            if 0 ≤ a1_2 ∧ a1_2 < (v5.length : Int) then
            if (rd v5 a1_2) = (-1:Int) then
              some (v3, v4, v5, v6, (2:Int), true)
            else
              if 0 ≤ (rd v5 a1_2) ∧ (rd v5 a1_2) < (v3.length : Int) then
              if 0 ≤ a1_1 ∧ a1_1 < (v5.length : Int) then
              if a1_0 = (4:Int) then
                if 0 ≤ (rd v5 a1_2) ∧ (rd v5 a1_2) < (v4.length : Int) then
                if 0 ≤ a1_1 ∧ a1_1 < ((v5.set a1_1.toNat (rd v3 (rd v5 a1_2))).length : Int) then
                some (v3, v4, ((v5.set a1_1.toNat (rd v3 (rd v5 a1_2))).set a1_1.toNat (rd v4 (rd v5 a1_2))), v6, (0:Int), true)
                else none
                else none
              else
                some (v3, v4, (v5.set a1_1.toNat (rd v3 (rd v5 a1_2))), v6, (0:Int), true)
              else none
              else none
            else none
          else
            if a1_0 = (4:Int) then
              if 0 ≤ a1_2 ∧ a1_2 < (v5.length : Int) then
              if (rd v5 a1_2) = (-1:Int) then
                some (v3, v4, v5, v6, (2:Int), true)
              else
                if 0 ≤ (rd v5 a1_2) ∧ (rd v5 a1_2) < (v3.length : Int) then
                if 0 ≤ a1_1 ∧ a1_1 < (v5.length : Int) then
                if 0 ≤ (rd v5 a1_2) ∧ (rd v5 a1_2) < (v4.length : Int) then
                if 0 ≤ a1_1 ∧ a1_1 < ((v5.set a1_1.toNat (rd v3 (rd v5 a1_2))).length : Int) then
                some (v3, v4, ((v5.set a1_1.toNat (rd v3 (rd v5 a1_2))).set a1_1.toNat (rd v4 (rd v5 a1_2))), v6, (0:Int), true)
                else none
                else none
                else none
                else none
              else none
            else
              if a1_0 = (5:Int) then
                if 0 ≤ a1_1 ∧ a1_1 < (v5.length : Int) then
                if (rd v5 a1_1) = (-1:Int) then
                  some (v3, v4, v5, v6, (2:Int), true)
                else
                  if 0 ≤ a1_2 ∧ a1_2 < (v5.length : Int) then
                  if 0 ≤ (rd v5 a1_1) ∧ (rd v5 a1_1) < (v3.length : Int) then
                  some ((v3.set (rd v5 a1_1).toNat (rd v5 a1_2)), v4, v5, v6, (0:Int), true)
                  else none
                  else none
                else none
              else
                if a1_0 = (6:Int) then
                  if 0 ≤ a1_1 ∧ a1_1 < (v5.length : Int) then
                  if (rd v5 a1_1) = (-1:Int) then
                    some (v3, v4, v5, v6, (2:Int), true)
                  else
                    if 0 ≤ a1_2 ∧ a1_2 < (v5.length : Int) then
                    if 0 ≤ (rd v5 a1_1) ∧ (rd v5 a1_1) < (v4.length : Int) then
                    some (v3, (v4.set (rd v5 a1_1).toNat (rd v5 a1_2)), v5, v6, (0:Int), true)
                    else none
                    else none
                  else none
                else
                  if a1_0 = (7:Int) then
                    if 0 ≤ a1_1 ∧ a1_1 < (v5.length : Int) then
                    some (v3, v4, (v5.set a1_1.toNat (-1:Int)), v6, (0:Int), true)
                    else none
                  else
                    some (v3, v4, v5, v6, (0:Int), true)
    else
      some (([] : List Int), ([] : List Int), ([] : List Int), ([] : List Int), (0:Int), false)
  else
    some (([] : List Int), ([] : List Int), ([] : List Int), ([] : List Int), (0:Int), false)

/-- spec.DrawAllocCell -/
def spec_DrawAllocCell.f (K : Nat) (a0 : List Int) : Option ((List Int) × (List Int) × (List Int) × (List Int) × Int) :=
  b5 (spec_l4Case.f K a0) fun v1 v2 v3 v4 v5 =>
  b1 (spec_l13Open.f K a0) fun _ =>
  b2 (spec_l13Rd_num.f K (a0.take 2000) (0:Int) ([(0:Int), (0:Int), (1:Int), (2:Int), (3:Int), (-1:Int)] : List Int)) fun v6 v7 =>
  some (v1, v2, v3, v4, v6)

/-- spec.l5Do -/
def spec_l5Do.f (K : Nat) (a0_0 : List Int) (a0_1 : List Int) (a0_2 : List Int) (a1_0 : Int) (a1_1 : Int) (a1_2 : Int) : Option (Int × (List Int) × (List Int) × (List Int)) :=
  if 0 ≤ a1_1 ∧ a1_1 < (a0_2.length : Int) then
  if 0 ≤ a1_2 ∧ a1_2 < (a0_2.length : Int) then
  if a1_0 = (2:Int) then
    some ((0:Int), a0_0, a0_1, (a0_2.set a1_1.toNat (rd a0_2 a1_2)))
  else
    if a1_0 = (7:Int) then
      some ((0:Int), a0_0, a0_1, (a0_2.set a1_1.toNat (-1:Int)))
    else
      if a1_0 = (3:Int) then
        if (rd a0_2 a1_2) = (-1:Int) then
          some ((2:Int), a0_0, a0_1, a0_2)
        else
          if 0 ≤ (rd a0_2 a1_2) ∧ (rd a0_2 a1_2) < (a0_0.length : Int) then
          if a1_0 = (4:Int) then
            if 0 ≤ (rd a0_2 a1_2) ∧ (rd a0_2 a1_2) < (a0_1.length : Int) then
            some ((0:Int), a0_0, a0_1, (a0_2.set a1_1.toNat (rd a0_1 (rd a0_2 a1_2))))
            else none
          else
            some ((0:Int), a0_0, a0_1, (a0_2.set a1_1.toNat (rd a0_0 (rd a0_2 a1_2))))
          else none
      else
        if a1_0 = (4:Int) then
          if (rd a0_2 a1_2) = (-1:Int) then
            some ((2:Int), a0_0, a0_1, a0_2)
          else
            if 0 ≤ (rd a0_2 a1_2) ∧ (rd a0_2 a1_2) < (a0_0.length : Int) then
            if 0 ≤ (rd a0_2 a1_2) ∧ (rd a0_2 a1_2) < (a0_1.length : Int) then
            some ((0:Int), a0_0, a0_1, (a0_2.set a1_1.toNat (rd a0_1 (rd a0_2 a1_2))))
            else none
            else none
        else
          if (rd a0_2 a1_1) = (-1:Int) then
            some ((2:Int), a0_0, a0_1, a0_2)
          else
            if a1_0 = (5:Int) then
              if 0 ≤ (rd a0_2 a1_1) ∧ (rd a0_2 a1_1) < (a0_0.length : Int) then
              some ((0:Int), (a0_0.set (rd a0_2 a1_1).toNat (rd a0_2 a1_2)), a0_1, a0_2)
              else none
            else
              if 0 ≤ (rd a0_2 a1_1) ∧ (rd a0_2 a1_1) < (a0_1.length : Int) then
              some ((0:Int), a0_0, (a0_1.set (rd a0_2 a1_1).toNat (rd a0_2 a1_2)), a0_2)
              else none
  else none
  else none

/-- spec.RunOp -/
def spec_RunOp.f (K : Nat) (a0_0 : List Int) (a0_1 : List Int) (a0_2 : List Int) (a0_3 : List Int) (a1_0 : Int) (a1_1 : Int) (a1_2 : Int) : Option ((List Int) × (List Int) × (List Int) × (List Int) × Int × Bool) :=
  b1 (spec_StoreValid.f K a0_0 a0_1 a0_2 a0_3) fun v1 =>
  if v1 = true then
    b1 (spec_OpValid.f K a1_0 a1_1 a1_2 (a0_2.length : Int)) fun v2 =>
    if v2 = true then
      if a1_0 = (1:Int) then
        b6 (spec_AllocCell.f K a0_0 a0_1 a0_2 a0_3 a1_1) fun v3 v4 v5 v6 v7 v8 =>
        if v8 = true then
          some (v3, v4, v5, v6, (0:Int), true)
        else
          b4 (spec_l4Copy.f K a0_0 a0_1 a0_2 a0_3) fun v9 v10 v11 v12 =>
          some (v9, v10, v11, v12, (1:Int), true)
      else
        b4 (spec_l4Copy.f K a0_0 a0_1 a0_2 a0_3) fun v13 v14 v15 v16 =>
        b4 (spec_l5Do.f K v13 v14 v15 a1_0 a1_1 a1_2) fun v17 v18 v19 v20 =>
        some (v18, v19, v20, v16, v17, true)
    else
      some (([] : List Int), ([] : List Int), ([] : List Int), ([] : List Int), (0:Int), false)
  else
    some (([] : List Int), ([] : List Int), ([] : List Int), ([] : List Int), (0:Int), false)

/-- impl.TargetOf -/
def impl_TargetOf.f (K : Nat) (a0_0 : List Int) (a0_1 : List Int) (a0_2 : List Int) (a0_3 : List Int) (a1_0 : Int) (a1_1 : Int) (a1_2 : Int) : Option Int :=
  b1 (impl_StoreValid.f K a0_0 a0_1 a0_2 a0_3) fun v1 =>
  if v1 = true then
    b1 (impl_OpValid.f K a1_0 a1_1 a1_2 (a0_2.length : Int)) fun v2 =>
    if v2 = true then
      if a1_0 = (5:Int) then
        if 0 ≤ a1_1 ∧ a1_1 < (a0_2.length : Int) then
        if (rd a0_2 a1_1) = (-1:Int) then
          some (-1:Int)
        else
          if 0 ≤ a1_2 ∧ a1_2 < (a0_2.length : Int) then
          some (rd a0_2 a1_2)
          else none
        else none
      else
        if a1_0 = (6:Int) then
          if 0 ≤ a1_1 ∧ a1_1 < (a0_2.length : Int) then
          if (rd a0_2 a1_1) = (-1:Int) then
            some (-1:Int)
          else
            if 0 ≤ a1_2 ∧ a1_2 < (a0_2.length : Int) then
            some (rd a0_2 a1_2)
            else none
          else none
        else
          some (-1:Int)
    else
      some (-1:Int)
  else
    some (-1:Int)

/-- spec.TargetOf -/
def spec_TargetOf.f (K : Nat) (a0_0 : List Int) (a0_1 : List Int) (a0_2 : List Int) (a0_3 : List Int) (a1_0 : Int) (a1_1 : Int) (a1_2 : Int) : Option Int :=
  b1 (spec_StoreValid.f K a0_0 a0_1 a0_2 a0_3) fun v1 =>
  if v1 = true then
    b1 (spec_OpValid.f K a1_0 a1_1 a1_2 (a0_2.length : Int)) fun v2 =>
    if v2 = true then
      if a1_0 = (5:Int) then
        if 0 ≤ a1_1 ∧ a1_1 < (a0_2.length : Int) then
        if (rd a0_2 a1_1) = (-1:Int) then
          some (-1:Int)
        else
          if 0 ≤ a1_2 ∧ a1_2 < (a0_2.length : Int) then
          some (rd a0_2 a1_2)
          else none
        else none
      else
        if a1_0 = (6:Int) then
          if 0 ≤ a1_1 ∧ a1_1 < (a0_2.length : Int) then
          if (rd a0_2 a1_1) = (-1:Int) then
            some (-1:Int)
          else
            if 0 ≤ a1_2 ∧ a1_2 < (a0_2.length : Int) then
            some (rd a0_2 a1_2)
            else none
          else none
        else
          some (-1:Int)
    else
      some (-1:Int)
  else
    some (-1:Int)

/-- spec.DrawRunOp -/
def spec_DrawRunOp.f (K : Nat) (a0 : List Int) : Option ((List Int) × (List Int) × (List Int) × (List Int) × Int × Int × Int) :=
  b1 (spec_l13Open.f K a0) fun _ =>
  b5 (spec_l4Draw.f K (a0.take 2000) (0:Int)) fun v1 v2 v3 v4 v5 =>
  b5 (spec_l4Wrong.f K (a0.take 2000) v5 v1 v2 v3 v4) fun v6 v7 v8 v9 v10 =>
  b4 (spec_l5Op.f K (a0.take 2000) v10) fun v11 v12 v13 v14 =>
  some (v6, v7, v8, v9, v11, v12, v13)

/-- laws.FnAllocCell -/
def laws_FnAllocCell.f (K : Nat) (a0 : List Int) : Option Bool :=
  if (a0.length : Int) > (1048576:Int) then
    some true
  else
    b5 (spec_DrawAllocCell.f K a0) fun v1 v2 v3 v4 v5 =>
    b6 (impl_AllocCell.f K v1 v2 v3 v4 v5) fun v6 v7 v8 v9 v10 v11 =>
    b6 (spec_AllocCell.f K v1 v2 v3 v4 v5) fun v12 v13 v14 v15 v16 v17 =>
    b1 (impl_StoreSame.f K v6 v7 v8 v9 v12 v13 v14 v15) fun v18 =>
    if v18 = true then
      if v10 = v16 then
        if v11 = v17 then
          if v11 = true then
            b1 (impl_Reachable.f K v6 v7 v8) fun v19 =>
            b1 (impl_StoreValid.f K v6 v7 v8 v9) fun v20 =>
            if v20 = true then
              if 0 ≤ (0:Int) ∧ (0:Int) < (v4.length : Int) then
              if v10 = (rd v4 (0:Int)) then
                if 0 ≤ (1:Int) ∧ (1:Int) ≤ (v4.length : Int) then
                b1 (laws_ccInts.f K v9 (v4.drop (1:Int).toNat)) fun v21 =>
                if v21 = true then
                  if 0 ≤ v10 ∧ v10 < (v19.length : Int) then
                  if (rdb v19 v10) = true then
                    if 0 ≤ v5 ∧ v5 < (v8.length : Int) then
                    some ((rd v8 v5) == v10)
                    else none
                  else
                    some false
                  else none
                else
                  some false
                else none
              else
                some false
              else none
            else
              some false
          else
            b1 (impl_StoreSame.f K v6 v7 v8 v9 v12 v13 v14 v15) fun v22 =>
            if v22 = true then
              some (v11 == v17)
            else
              some false
        else
          b1 (impl_StoreSame.f K v6 v7 v8 v9 v12 v13 v14 v15) fun v23 =>
          if v23 = true then
            some (v11 == v17)
          else
            some false
      else
        b1 (impl_StoreSame.f K v6 v7 v8 v9 v12 v13 v14 v15) fun v24 =>
        if v24 = true then
          some false
        else
          some false
    else
      b1 (impl_StoreSame.f K v6 v7 v8 v9 v12 v13 v14 v15) fun v25 =>
      if v25 = true then
        if v10 = v16 then
          some (v11 == v17)
        else
          some false
      else
        some false

/-- laws.FnAllocOrder -/
def laws_FnAllocOrder.f (K : Nat) (a0 : List Int) : Option Bool :=
  if (a0.length : Int) > (1048576:Int) then
    some true
  else
    b5 (spec_DrawAllocCell.f K a0) fun v1 v2 v3 v4 v5 =>
    b6 (impl_AllocCell.f K v1 v2 v3 v4 v5) fun v6 v7 v8 v9 v10 v11 =>
    b6 (spec_AllocCell.f K v1 v2 v3 v4 v5) fun v12 v13 v14 v15 v16 v17 =>
    b1 (impl_StoreSame.f K v6 v7 v8 v9 v12 v13 v14 v15) fun v18 =>
    if v18 = true then
      if v10 = v16 then
        if v11 = v17 then
          if v11 = true then
            if (v4.length : Int) < (2:Int) then
              b1 (impl_StoreSame.f K v6 v7 v8 v9 v12 v13 v14 v15) fun v19 =>
              if v19 = true then
                some (v11 == v17)
              else
                some false
            else
              b6 (impl_AllocCell.f K v6 v7 v8 v9 v5) fun v20 v21 v22 v23 v24 v25 =>
              if v25 = true then
                if 0 ≤ (1:Int) ∧ (1:Int) < (v4.length : Int) then
                if v24 = (rd v4 (1:Int)) then
                  b1 (impl_IsFree.f K v1 v2 v3 v4 v24) fun v26 =>
                  if v26 = true then
                    b1 (impl_IsFree.f K v20 v21 v22 v23 v24) fun v27 =>
                    if v27 = true then
                      some false
                    else
                      b1 (impl_IsFree.f K v20 v21 v22 v23 v10) fun v28 =>
                      some (!v28)
                  else
                    some false
                else
                  some false
                else none
              else
                some false
          else
            b1 (impl_StoreSame.f K v6 v7 v8 v9 v12 v13 v14 v15) fun v29 =>
            if v29 = true then
              some (v11 == v17)
            else
              some false
        else
          b1 (impl_StoreSame.f K v6 v7 v8 v9 v12 v13 v14 v15) fun v30 =>
          if v30 = true then
            some (v11 == v17)
          else
            some false
      else
        b1 (impl_StoreSame.f K v6 v7 v8 v9 v12 v13 v14 v15) fun v31 =>
        if v31 = true then
          some false
        else
          some false
    else
      b1 (impl_StoreSame.f K v6 v7 v8 v9 v12 v13 v14 v15) fun v32 =>
      if v32 = true then
        if v10 = v16 then
          some (v11 == v17)
        else
          some false
      else
        some false

/-- laws.FnExactAllocCell -/
def laws_FnExactAllocCell.f (K : Nat) (a0_0 : List Int) (a0_1 : List Int) (a0_2 : List Int) (a0_3 : List Int) (a1 : Int) : Option Bool :=
  b1 (laws_szStore.f K a0_0 a0_1 a0_2 a0_3 (1048576:Int)) fun v1 =>
  if v1 < (0:Int) then
    some true
  else
    b4 (laws_toStore.f K a0_0 a0_1 a0_2 a0_3) fun v2 v3 v4 v5 =>
    b6 (spec_AllocCell.f K v2 v3 v4 v5 a1) fun v6 v7 v8 v9 v10 v11 =>
    b4 (laws_toStore.f K a0_0 a0_1 a0_2 a0_3) fun v12 v13 v14 v15 =>
    b6 (impl_AllocCell.f K v12 v13 v14 v15 a1) fun v16 v17 v18 v19 v20 v21 =>
    b1 (laws_eqStore.f K v16 v17 v18 v19 v6 v7 v8 v9) fun v22 =>
    if v22 = true then
      if v20 = v10 then
        if v21 = v11 then
          b4 (laws_toStore.f K a0_0 a0_1 a0_2 a0_3) fun v23 v24 v25 v26 =>
          b1 (laws_eqStore.f K v12 v13 v14 v15 v23 v24 v25 v26) fun v27 =>
          if v27 = true then
            b5 (laws_markStore.f K v12 v13 v14 v15 (1:Int)) fun v28 v29 v30 v31 v32 =>
            if v28 < (0:Int) then
              some false
            else
              b1 (laws_eqStore.f K v16 v17 v18 v19 v6 v7 v8 v9) fun v33 =>
              if v33 = true then
                b5 (laws_markStore.f K v16 v17 v18 v19 (1:Int)) fun v34 v35 v36 v37 v38 =>
                b1 (laws_heldStore.f K v35 v36 v37 v38 (1:Int)) fun v39 =>
                if v39 < (0:Int) then
                  some false
                else
                  if v39 = v34 then
                    b4 (laws_toStore.f K a0_0 a0_1 a0_2 a0_3) fun v40 v41 v42 v43 =>
                    b6 (impl_AllocCell.f K v40 v41 v42 v43 a1) fun v44 v45 v46 v47 v48 v49 =>
                    b1 (laws_eqStore.f K v44 v45 v46 v47 v6 v7 v8 v9) fun v50 =>
                    if v50 = true then
                      if v48 = v10 then
                        if v49 = v11 then
                          b1 (laws_heldStore.f K v35 v36 v37 v38 (1:Int)) fun v51 =>
                          if v51 < (0:Int) then
                            some false
                          else
                            if v51 = v34 then
                              some true
                            else
                              some false
                        else
                          some false
                      else
                        some false
                    else
                      some false
                  else
                    some false
              else
                some false
          else
            some false
        else
          some false
      else
        some false
    else
      some false

/-- laws.FnExactLeakedOf -/
def laws_FnExactLeakedOf.f (K : Nat) (a0_0 : List Int) (a0_1 : List Int) (a0_2 : List Int) (a0_3 : List Int) : Option Bool :=
  b1 (laws_szStore.f K a0_0 a0_1 a0_2 a0_3 (1048576:Int)) fun v1 =>
  if v1 < (0:Int) then
    some true
  else
    b4 (laws_toStore.f K a0_0 a0_1 a0_2 a0_3) fun v2 v3 v4 v5 =>
    b1 (spec_LeakedOf.f K v2 v3 v4 v5) fun v6 =>
    b4 (laws_toStore.f K a0_0 a0_1 a0_2 a0_3) fun v7 v8 v9 v10 =>
    b1 (impl_LeakedOf.f K v7 v8 v9 v10) fun v11 =>
    b1 (laws_eqIntS.f K v11 v6) fun v12 =>
    if v12 = true then
      b4 (laws_toStore.f K a0_0 a0_1 a0_2 a0_3) fun v13 v14 v15 v16 =>
      b1 (laws_eqStore.f K v7 v8 v9 v10 v13 v14 v15 v16) fun v17 =>
      if v17 = true then
        b5 (laws_markStore.f K v7 v8 v9 v10 (1:Int)) fun v18 v19 v20 v21 v22 =>
        if v18 < (0:Int) then
          some false
        else
          b1 (laws_eqIntS.f K v11 v6) fun v23 =>
          if v23 = true then
            b2 (laws_markIntS.f K v11 (1:Int)) fun v24 v25 =>
            b1 (laws_heldIntS.f K v25 (1:Int)) fun v26 =>
            if v26 < (0:Int) then
              some false
            else
              if v26 = v24 then
                b4 (laws_toStore.f K a0_0 a0_1 a0_2 a0_3) fun v27 v28 v29 v30 =>
                b1 (impl_LeakedOf.f K v27 v28 v29 v30) fun v31 =>
                b1 (laws_eqIntS.f K v31 v6) fun v32 =>
                if v32 = true then
                  b1 (laws_heldIntS.f K v25 (1:Int)) fun v33 =>
                  if v33 < (0:Int) then
                    some false
                  else
                    if v33 = v24 then
                      some true
                    else
                      some false
                else
                  some false
              else
                some false
          else
            some false
      else
        some false
    else
      some false

/-- laws.FnExactRunOp -/
def laws_FnExactRunOp.f (K : Nat) (a0_0 : List Int) (a0_1 : List Int) (a0_2 : List Int) (a0_3 : List Int) (a1_0 : Int) (a1_1 : Int) (a1_2 : Int) : Option Bool :=
  b1 (laws_szStore.f K a0_0 a0_1 a0_2 a0_3 (1048576:Int)) fun v1 =>
  if v1 < (0:Int) then
    some true
  else
    b4 (laws_toStore.f K a0_0 a0_1 a0_2 a0_3) fun v2 v3 v4 v5 =>
    b3 (laws_toOp.f K a1_0 a1_1 a1_2) fun v6 v7 v8 =>
    b6 (spec_RunOp.f K v2 v3 v4 v5 v6 v7 v8) fun v9 v10 v11 v12 v13 v14 =>
    b4 (laws_toStore.f K a0_0 a0_1 a0_2 a0_3) fun v15 v16 v17 v18 =>
    b3 (laws_toOp.f K a1_0 a1_1 a1_2) fun v19 v20 v21 =>
    b6 (impl_RunOp.f K v15 v16 v17 v18 v19 v20 v21) fun v22 v23 v24 v25 v26 v27 =>
    b1 (laws_eqStore.f K v22 v23 v24 v25 v9 v10 v11 v12) fun v28 =>
    if v28 = true then
      if v26 = v13 then
        if v27 = v14 then
          b4 (laws_toStore.f K a0_0 a0_1 a0_2 a0_3) fun v29 v30 v31 v32 =>
          b1 (laws_eqStore.f K v15 v16 v17 v18 v29 v30 v31 v32) fun v33 =>
          if v33 = true then
            b5 (laws_markStore.f K v15 v16 v17 v18 (1:Int)) fun v34 v35 v36 v37 v38 =>
            if v34 < (0:Int) then
              some false
            else
              b1 (laws_eqStore.f K v22 v23 v24 v25 v9 v10 v11 v12) fun v39 =>
              if v39 = true then
                b5 (laws_markStore.f K v22 v23 v24 v25 (1:Int)) fun v40 v41 v42 v43 v44 =>
                b1 (laws_heldStore.f K v41 v42 v43 v44 (1:Int)) fun v45 =>
                if v45 < (0:Int) then
                  some false
                else
                  if v45 = v40 then
                    b4 (laws_toStore.f K a0_0 a0_1 a0_2 a0_3) fun v46 v47 v48 v49 =>
                    b3 (laws_toOp.f K a1_0 a1_1 a1_2) fun v50 v51 v52 =>
                    b6 (impl_RunOp.f K v46 v47 v48 v49 v50 v51 v52) fun v53 v54 v55 v56 v57 v58 =>
                    b1 (laws_eqStore.f K v53 v54 v55 v56 v9 v10 v11 v12) fun v59 =>
                    if v59 = true then
                      if v57 = v13 then
                        if v58 = v14 then
                          b1 (laws_heldStore.f K v41 v42 v43 v44 (1:Int)) fun v60 =>
                          if v60 < (0:Int) then
                            some false
                          else
                            if v60 = v40 then
                              some true
                            else
                              some false
                        else
                          some false
                      else
                        some false
                    else
                      some false
                  else
                    some false
              else
                some false
          else
            some false
        else
          some false
      else
        some false
    else
      some false

/-- laws.FnExactTargetOf -/
def laws_FnExactTargetOf.f (K : Nat) (a0_0 : List Int) (a0_1 : List Int) (a0_2 : List Int) (a0_3 : List Int) (a1_0 : Int) (a1_1 : Int) (a1_2 : Int) : Option Bool :=
  b1 (laws_szStore.f K a0_0 a0_1 a0_2 a0_3 (1048576:Int)) fun v1 =>
  if v1 < (0:Int) then
    some true
  else
    b4 (laws_toStore.f K a0_0 a0_1 a0_2 a0_3) fun v2 v3 v4 v5 =>
    b3 (laws_toOp.f K a1_0 a1_1 a1_2) fun v6 v7 v8 =>
    b1 (spec_TargetOf.f K v2 v3 v4 v5 v6 v7 v8) fun v9 =>
    b4 (laws_toStore.f K a0_0 a0_1 a0_2 a0_3) fun v10 v11 v12 v13 =>
    b3 (laws_toOp.f K a1_0 a1_1 a1_2) fun v14 v15 v16 =>
    b1 (impl_TargetOf.f K v10 v11 v12 v13 v14 v15 v16) fun v17 =>
    if v17 = v9 then
      b4 (laws_toStore.f K a0_0 a0_1 a0_2 a0_3) fun v18 v19 v20 v21 =>
      b1 (laws_eqStore.f K v10 v11 v12 v13 v18 v19 v20 v21) fun v22 =>
      if v22 = true then
        some true
      else
        some false
    else
      some false

/-- spec.DrawIsFree -/
def spec_DrawIsFree.f (K : Nat) (a0 : List Int) : Option ((List Int) × (List Int) × (List Int) × (List Int) × Int) :=
  b5 (spec_l4Case.f K a0) fun v1 v2 v3 v4 v5 =>
  some (v1, v2, v3, v4, v5)

/-- laws.FnIsFree -/
def laws_FnIsFree.f (K : Nat) (a0 : List Int) : Option Bool :=
  if (a0.length : Int) > (1048576:Int) then
    some true
  else
    b5 (spec_DrawIsFree.f K a0) fun v1 v2 v3 v4 v5 =>
    b1 (impl_IsFree.f K v1 v2 v3 v4 v5) fun v6 =>
    b1 (spec_IsFree.f K v1 v2 v3 v4 v5) fun v7 =>
    if v6 = v7 then
      if v6 = true then
        b1 (impl_Reachable.f K v1 v2 v3) fun v8 =>
        if 0 ≤ v5 ∧ v5 < (v8.length : Int) then
        if (rdb v8 v5) = true then
          some false
        else
          if 0 ≤ v5 ∧ v5 < (v1.length : Int) then
          if (rd v1 v5) = (-1:Int) then
            if 0 ≤ v5 ∧ v5 < (v2.length : Int) then
            if (rd v2 v5) = (-1:Int) then
              b1 (impl_SourcesOf.f K v1 v2 v3 v5) fun v9 =>
              some ((v9.length : Int) == (0:Int))
            else
              some false
            else none
          else
            some false
          else none
        else none
      else
        b1 (spec_IsFree.f K v1 v2 v3 v4 v5) fun v10 =>
        some (v6 == v10)
    else
      b1 (spec_IsFree.f K v1 v2 v3 v4 v5) fun v11 =>
      some (v6 == v11)

/-- spec.DrawLeakedOf -/
def spec_DrawLeakedOf.f (K : Nat) (a0 : List Int) : Option ((List Int) × (List Int) × (List Int) × (List Int)) :=
  b5 (spec_l4Case.f K a0) fun v1 v2 v3 v4 v5 =>
  some (v1, v2, v3, v4)

/-- impl.CountLive -/
def impl_CountLive.loop0 (K : Nat) (κ : Int → Option Int) (v1 : List Bool) : Nat → Int → Int → Option Int
  | 0, _, _ => none
  | m + 1, p3, p4 =>
    if p4 < (v1.length : Int) then
      if 0 ≤ p4 ∧ p4 < (v1.length : Int) then
      if (rdb v1 p4) = true then
        impl_CountLive.loop0 K κ v1 m (wrap64 (p3 + (1:Int))) (wrap64 (p4 + (1:Int)))
      else
        impl_CountLive.loop0 K κ v1 m p3 (wrap64 (p4 + (1:Int)))
      else none
    else
      κ p3
def impl_CountLive.f (K : Nat) (a0_0 : List Int) (a0_1 : List Int) (a0_2 : List Int) : Option Int :=
  b1 (impl_Reachable.f K a0_0 a0_1 a0_2) fun v1 =>
  impl_CountLive.loop0 K (fun p5 =>
    some p5) v1 K (0:Int) (0:Int)

/-- laws.FnLeakedOf -/
def laws_FnLeakedOf.loop0 (K : Nat) (κ : Unit → Option Bool) (v1 : List Int) (v2 : List Int) (v3 : List Int) (v4 : List Int) (v5 : List Int) : Nat → Int → Option Bool
  | 0, _ => none
  | m + 1, p2 =>
    if p2 < (v5.length : Int) then
      if 0 ≤ p2 ∧ p2 < (v5.length : Int) then
      b1 (impl_IsFree.f K v1 v2 v3 v4 (rd v5 p2)) fun v12 =>
      if v12 = true then
        some false
      else
        laws_FnLeakedOf.loop0 K κ v1 v2 v3 v4 v5 m (wrap64 (p2 + (1:Int)))
      else none
    else
      κ ()
def laws_FnLeakedOf.f (K : Nat) (a0 : List Int) : Option Bool :=
  if (a0.length : Int) > (1048576:Int) then
    some true
  else
    b4 (spec_DrawLeakedOf.f K a0) fun v1 v2 v3 v4 =>
    b1 (impl_LeakedOf.f K v1 v2 v3 v4) fun v5 =>
    b1 (spec_LeakedOf.f K v1 v2 v3 v4) fun v6 =>
    b1 (laws_ccInts.f K v5 v6) fun v7 =>
    if v7 = true then
      b1 (impl_StoreValid.f K v1 v2 v3 v4) fun v8 =>
      if v8 = true then
        laws_FnLeakedOf.loop0 K (fun _ =>
          b1 (impl_CountLive.f K v1 v2 v3) fun v13 =>
          some ((wrap64 ((wrap64 ((v5.length : Int) + (v4.length : Int))) + v13)) == (v1.length : Int))) v1 v2 v3 v4 v5 K (0:Int)
      else
        b1 (spec_LeakedOf.f K v1 v2 v3 v4) fun v14 =>
        b1 (laws_ccInts.f K v5 v14) fun v15 =>
        if v15 = true then
          some ((v5.length : Int) == (0:Int))
        else
          some false
    else
      b1 (spec_LeakedOf.f K v1 v2 v3 v4) fun v16 =>
      b1 (laws_ccInts.f K v5 v16) fun v17 =>
      if v17 = true then
        some ((v5.length : Int) == (0:Int))
      else
        some false

/-- spec.DrawNewHeap -/
def spec_DrawNewHeap.f (K : Nat) (a0 : List Int) : Option (Int × Int) :=
  b1 (spec_l13Open.f K a0) fun _ =>
  b2 (spec_l13Rd_num.f K (a0.take 2000) (0:Int) ([(4:Int), (1:Int), (8:Int), (0:Int), (9:Int)] : List Int)) fun v1 v2 =>
  b2 (spec_l13Rd_num.f K (a0.take 2000) v2 ([(2:Int), (1:Int), (3:Int), (0:Int), (4:Int)] : List Int)) fun v3 v4 =>
  some (v1, v3)

/-- spec.DrawNewStore -/
def spec_DrawNewStore.f (K : Nat) (a0 : List Int) : Option (Int × Int) :=
  b2 (spec_DrawNewHeap.f K a0) fun v1 v2 =>
  some (v1, v2)

/-- laws.FnNewStore -/
def laws_FnNewStore.loop0 (K : Nat) (κ : (List Int) → (List Int) → (List Int) → (List Int) → Option Bool) (v1 : Int) : Nat → Int → (List Int) → (List Int) → (List Int) → (List Int) → Option Bool
  | 0, _, _, _, _, _ => none
  | m + 1, p2, l5, l6, l7, l8 =>
    if p2 < v1 then
      b6 (impl_AllocCell.f K l5 l6 l7 l8 (0:Int)) fun v32 v33 v34 v35 v36 v37 =>
      if v37 = true then
        if v36 = p2 then
          laws_FnNewStore.loop0 K κ v1 m (wrap64 (p2 + (1:Int))) v32 v33 v34 v35
        else
          some false
      else
        some false
    else
      κ l5 l6 l7 l8
def laws_FnNewStore.f (K : Nat) (a0 : List Int) : Option Bool :=
  if (a0.length : Int) > (1048576:Int) then
    some true
  else
    b2 (spec_DrawNewStore.f K a0) fun v1 v2 =>
    b5 (impl_NewStore.f K v1 v2) fun v3 v4 v5 v6 v7 =>
    b5 (spec_NewStore.f K v1 v2) fun v8 v9 v10 v11 v12 =>
    b1 (impl_StoreSame.f K v3 v4 v5 v6 v8 v9 v10 v11) fun v13 =>
    if v13 = true then
      if v7 = v12 then
        if v7 = true then
          laws_FnNewStore.loop0 K (fun l9 l10 l11 l12 =>
            b6 (impl_AllocCell.f K l9 l10 l11 l12 (0:Int)) fun v38 v39 v40 v41 v42 v43 =>
            if v43 = true then
              some false
            else
              b1 (impl_LeakedOf.f K l9 l10 l11 l12) fun v44 =>
              some ((v44.length : Int) == (wrap64 (v1 - (1:Int))))) v1 K (0:Int) v3 v4 v5 v6
        else
          b1 (impl_StoreSame.f K v3 v4 v5 v6 v8 v9 v10 v11) fun v45 =>
          if v45 = true then
            some (v7 == v12)
          else
            some false
      else
        b1 (impl_StoreSame.f K v3 v4 v5 v6 v8 v9 v10 v11) fun v46 =>
        if v46 = true then
          some (v7 == v12)
        else
          some false
    else
      b1 (impl_StoreSame.f K v3 v4 v5 v6 v8 v9 v10 v11) fun v47 =>
      if v47 = true then
        some (v7 == v12)
      else
        some false

/-- laws.FnRunOp -/
def laws_FnRunOp.f (K : Nat) (a0 : List Int) : Option Bool :=
  if (a0.length : Int) > (1048576:Int) then
    some true
  else
    b7 (spec_DrawRunOp.f K a0) fun v1 v2 v3 v4 v5 v6 v7 =>
    b6 (impl_RunOp.f K v1 v2 v3 v4 v5 v6 v7) fun v8 v9 v10 v11 v12 v13 =>
    b6 (spec_RunOp.f K v1 v2 v3 v4 v5 v6 v7) fun v14 v15 v16 v17 v18 v19 =>
    b1 (impl_StoreSame.f K v8 v9 v10 v11 v14 v15 v16 v17) fun v20 =>
    if v20 = true then
      if v12 = v18 then
        if v13 = v19 then
          if v13 = true then
            if v12 = (0:Int) then
              b1 (impl_StoreValid.f K v8 v9 v10 v11) fun v21 =>
              if v21 = true then
                if (v11.length : Int) = (v4.length : Int) then
                  some true
                else
                  if v5 = (1:Int) then
                    some ((v11.length : Int) == (wrap64 ((v4.length : Int) - (1:Int))))
                  else
                    some false
              else
                some false
            else
              b1 (impl_StoreSame.f K v8 v9 v10 v11 v1 v2 v3 v4) fun v22 =>
              some v22
          else
            b1 (impl_StoreSame.f K v8 v9 v10 v11 v14 v15 v16 v17) fun v23 =>
            if v23 = true then
              some (v13 == v19)
            else
              some false
        else
          b1 (impl_StoreSame.f K v8 v9 v10 v11 v14 v15 v16 v17) fun v24 =>
          if v24 = true then
            some (v13 == v19)
          else
            some false
      else
        b1 (impl_StoreSame.f K v8 v9 v10 v11 v14 v15 v16 v17) fun v25 =>
        if v25 = true then
          some false
        else
          some false
    else
      b1 (impl_StoreSame.f K v8 v9 v10 v11 v14 v15 v16 v17) fun v26 =>
      if v26 = true then
        if v12 = v18 then
          some (v13 == v19)
        else
          some false
      else
        some false

/-- spec.DrawStoreValid -/
def spec_DrawStoreValid.f (K : Nat) (a0 : List Int) : Option ((List Int) × (List Int) × (List Int) × (List Int)) :=
  b1 (spec_l13Open.f K a0) fun _ =>
  b5 (spec_l4Draw.f K (a0.take 2000) (0:Int)) fun v1 v2 v3 v4 v5 =>
  b5 (spec_l4Wrong.f K (a0.take 2000) v5 v1 v2 v3 v4) fun v6 v7 v8 v9 v10 =>
  b5 (spec_l4Wrong.f K (a0.take 2000) v10 v6 v7 v8 v9) fun v11 v12 v13 v14 v15 =>
  some (v11, v12, v13, v14)

/-- laws.FnStoreValid -/
def laws_FnStoreValid.f (K : Nat) (a0 : List Int) : Option Bool :=
  if (a0.length : Int) > (1048576:Int) then
    some true
  else
    b4 (spec_DrawStoreValid.f K a0) fun v1 v2 v3 v4 =>
    b1 (impl_StoreValid.f K v1 v2 v3 v4) fun v5 =>
    b1 (spec_StoreValid.f K v1 v2 v3 v4) fun v6 =>
    if v5 = v6 then
      if v5 = true then
        if (v4.length : Int) = (0:Int) then
          b1 (spec_StoreValid.f K v1 v2 v3 v4) fun v7 =>
          some (v5 == v7)
        else
          if ([] : List Int).length + v4.length ≤ 1099511627776 then
          if 0 ≤ (0:Int) ∧ (0:Int) < (v4.length : Int) then
          if (([] : List Int) ++ v4).length + ([(rd v4 (0:Int))] : List Int).length ≤ 1099511627776 then
          if 0 ≤ (1:Int) ∧ (1:Int) ≤ (v4.length : Int) then
          b1 (impl_StoreValid.f K v1 v2 v3 ((([] : List Int) ++ v4) ++ ([(rd v4 (0:Int))] : List Int))) fun v8 =>
          if v8 = true then
            some false
          else
            b1 (impl_StoreValid.f K v1 v2 v3 (v4.drop (1:Int).toNat)) fun v9 =>
            if v9 = true then
              b1 (impl_LeakedOf.f K v1 v2 v3 (v4.drop (1:Int).toNat)) fun v10 =>
              b1 (impl_LeakedOf.f K v1 v2 v3 v4) fun v11 =>
              some ((v10.length : Int) == (wrap64 ((v11.length : Int) + (1:Int))))
            else
              some false
          else none
          else none
          else none
          else none
      else
        b1 (spec_StoreValid.f K v1 v2 v3 v4) fun v12 =>
        some (v5 == v12)
    else
      b1 (spec_StoreValid.f K v1 v2 v3 v4) fun v13 =>
      some (v5 == v13)

/-- spec.DrawTargetOf -/
def spec_DrawTargetOf.f (K : Nat) (a0 : List Int) : Option ((List Int) × (List Int) × (List Int) × (List Int) × Int × Int × Int) :=
  b7 (spec_DrawRunOp.f K a0) fun v1 v2 v3 v4 v5 v6 v7 =>
  some (v1, v2, v3, v4, v5, v6, v7)

/-- laws.FnTargetOf -/
def laws_FnTargetOf.f (K : Nat) (a0 : List Int) : Option Bool :=
  if (a0.length : Int) > (1048576:Int) then
    some true
  else
    b7 (spec_DrawTargetOf.f K a0) fun v1 v2 v3 v4 v5 v6 v7 =>
    b1 (impl_TargetOf.f K v1 v2 v3 v4 v5 v6 v7) fun v8 =>
    b1 (spec_TargetOf.f K v1 v2 v3 v4 v5 v6 v7) fun v9 =>
    if v8 = v9 then
      if v8 = (-1:Int) then
        b1 (spec_TargetOf.f K v1 v2 v3 v4 v5 v6 v7) fun v10 =>
        some (v8 == v10)
      else
        b6 (impl_RunOp.f K v1 v2 v3 v4 v5 v6 v7) fun v11 v12 v13 v14 v15 v16 =>
        b1 (impl_Reachable.f K v1 v2 v3) fun v17 =>
        if 0 ≤ v6 ∧ v6 < (v3.length : Int) then
        if v16 = true then
          if v15 = (0:Int) then
            if 0 ≤ v8 ∧ v8 < (v17.length : Int) then
            if (rdb v17 v8) = true then
              if 0 ≤ (rd v3 v6) ∧ (rd v3 v6) < (v11.length : Int) then
              if (rd v11 (rd v3 v6)) = v8 then
                some true
              else
                if 0 ≤ (rd v3 v6) ∧ (rd v3 v6) < (v12.length : Int) then
                some ((rd v12 (rd v3 v6)) == v8)
                else none
              else none
            else
              some false
            else none
          else
            some false
        else
          some false
        else none
    else
      b1 (spec_TargetOf.f K v1 v2 v3 v4 v5 v6 v7) fun v18 =>
      some (v8 == v18)

end Go.Proofs.YtnfaiojmabolmaaDoor.F
