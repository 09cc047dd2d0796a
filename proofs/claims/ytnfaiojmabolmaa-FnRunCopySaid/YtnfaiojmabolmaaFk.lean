/- Pure functions, one for each of some functions of the program, printed by the generator of wip/gen. -/
import Derived.Test.YtnfaiojmabolmaaSl
import Derived.Test.YtnfaiojmabolmaaFa
import Derived.Test.YtnfaiojmabolmaaFg
namespace Go.Proofs.Ytnfaiojmabolmaa.F
open Go Go.RowKit Go.Proofs.Ytnfaiojmabolmaa.S
set_option linter.unusedVariables false
/-- laws.FnRunCopy -/
def laws_FnRunCopy.f (K : Nat) (a0 : List Int) : Option Bool :=
  if (a0.length : Int) > (1048576:Int) then
    some true
  else
    b7 (spec_DrawRunOp.f K a0) fun v1 v2 v3 v4 v5 v6 v7 =>
    b6 (impl_RunOp.f K v1 v2 v3 v4 v5 v6 v7) fun v8 v9 v10 v11 v12 v13 =>
    b6 (spec_RunOp.f K v1 v2 v3 v4 v5 v6 v7) fun v14 v15 v16 v17 v18 v19 =>
    b1 (impl_StoreSame.f K v8 v9 v10 v11 v14 v15 v16 v17) fun v20 =>
    if v20 = true then
      if v12 = v18 then
        if v13 = v19 then
          if v13 = true then
            if v5 = (2:Int) then
              b6 (impl_RunOp.f K v8 v9 v10 v11 v5 v6 v7) fun v21 v22 v23 v24 v25 v26 =>
              if 0 ≤ v6 ∧ v6 < (v10.length : Int) then
              if 0 ≤ v7 ∧ v7 < (v3.length : Int) then
              if (rd v10 v6) = (rd v3 v7) then
                if v26 = true then
                  if v25 = (0:Int) then
                    b1 (impl_StoreSame.f K v21 v22 v23 v24 v8 v9 v10 v11) fun v27 =>
                    some v27
                  else
                    some false
                else
                  some false
              else
                some false
              else none
              else none
            else
              b1 (impl_StoreSame.f K v8 v9 v10 v11 v14 v15 v16 v17) fun v28 =>
              if v28 = true then
                some (v13 == v19)
              else
                some false
          else
            b1 (impl_StoreSame.f K v8 v9 v10 v11 v14 v15 v16 v17) fun v29 =>
            if v29 = true then
              some (v13 == v19)
            else
              some false
        else
          b1 (impl_StoreSame.f K v8 v9 v10 v11 v14 v15 v16 v17) fun v30 =>
          if v30 = true then
            some (v13 == v19)
          else
            some false
      else
        b1 (impl_StoreSame.f K v8 v9 v10 v11 v14 v15 v16 v17) fun v31 =>
        if v31 = true then
          some false
        else
          some false
    else
      b1 (impl_StoreSame.f K v8 v9 v10 v11 v14 v15 v16 v17) fun v32 =>
      if v32 = true then
        if v12 = v18 then
          some (v13 == v19)
        else
          some false
      else
        some false

/-- laws.FnRunPointers -/
def laws_FnRunPointers.loop0 (K : Nat) (κ : Int → Option Bool) (v1 : List Int) (v2 : List Int) (v8 : List Int) (v9 : List Int) : Nat → Int → Int → Option Bool
  | 0, _, _ => none
  | m + 1, p3, p4 =>
    if p4 < (v8.length : Int) then
      if 0 ≤ p4 ∧ p4 < (v8.length : Int) then
      if 0 ≤ p4 ∧ p4 < (v1.length : Int) then
      if (rd v8 p4) = (rd v1 p4) then
        if 0 ≤ p4 ∧ p4 < (v9.length : Int) then
        if 0 ≤ p4 ∧ p4 < (v2.length : Int) then
        if (rd v9 p4) = (rd v2 p4) then
          laws_FnRunPointers.loop0 K κ v1 v2 v8 v9 m p3 (wrap64 (p4 + (1:Int)))
        else
          laws_FnRunPointers.loop0 K κ v1 v2 v8 v9 m (wrap64 (p3 + (1:Int))) (wrap64 (p4 + (1:Int)))
        else none
        else none
      else
        if 0 ≤ p4 ∧ p4 < (v9.length : Int) then
        if 0 ≤ p4 ∧ p4 < (v2.length : Int) then
        if (rd v9 p4) = (rd v2 p4) then
          laws_FnRunPointers.loop0 K κ v1 v2 v8 v9 m (wrap64 (p3 + (1:Int))) (wrap64 (p4 + (1:Int)))
        else
          laws_FnRunPointers.loop0 K κ v1 v2 v8 v9 m (wrap64 ((wrap64 (p3 + (1:Int))) + (1:Int))) (wrap64 (p4 + (1:Int)))
        else none
        else none
      else none
      else none
    else
      κ p3
def laws_FnRunPointers.loop1 (K : Nat) (κ : Int → Option Bool) (v3 : List Int) (v10 : List Int) : Nat → Int → Int → Option Bool
  | 0, _, _ => none
  | m + 1, p8, p9 =>
    if p9 < (v10.length : Int) then
      if 0 ≤ p9 ∧ p9 < (v10.length : Int) then
      if 0 ≤ p9 ∧ p9 < (v3.length : Int) then
      if (rd v10 p9) = (rd v3 p9) then
        laws_FnRunPointers.loop1 K κ v3 v10 m p8 (wrap64 (p9 + (1:Int)))
      else
        laws_FnRunPointers.loop1 K κ v3 v10 m (wrap64 (p8 + (1:Int))) (wrap64 (p9 + (1:Int)))
      else none
      else none
    else
      κ p8
def laws_FnRunPointers.f (K : Nat) (a0 : List Int) : Option Bool :=
  if (a0.length : Int) > (1048576:Int) then
    some true
  else
    b7 (spec_DrawRunOp.f K a0) fun v1 v2 v3 v4 v5 v6 v7 =>
    b6 (impl_RunOp.f K v1 v2 v3 v4 v5 v6 v7) fun v8 v9 v10 v11 v12 v13 =>
    b6 (spec_RunOp.f K v1 v2 v3 v4 v5 v6 v7) fun v14 v15 v16 v17 v18 v19 =>
    b1 (impl_StoreSame.f K v8 v9 v10 v11 v14 v15 v16 v17) fun v20 =>
    if v20 = true then
      if v12 = v18 then
        if v13 = v19 then
          if v13 = true then
            laws_FnRunPointers.loop0 K (fun p5 =>
              laws_FnRunPointers.loop1 K (fun p10 =>
                some (decide (p10 ≤ (1:Int)))) v3 v10 K p5 (0:Int)) v1 v2 v8 v9 K (0:Int) (0:Int)
          else
            b1 (impl_StoreSame.f K v8 v9 v10 v11 v14 v15 v16 v17) fun v21 =>
            if v21 = true then
              some (v13 == v19)
            else
              some false
        else
          b1 (impl_StoreSame.f K v8 v9 v10 v11 v14 v15 v16 v17) fun v22 =>
          if v22 = true then
            some (v13 == v19)
          else
            some false
      else
        b1 (impl_StoreSame.f K v8 v9 v10 v11 v14 v15 v16 v17) fun v23 =>
        if v23 = true then
          some false
        else
          some false
    else
      b1 (impl_StoreSame.f K v8 v9 v10 v11 v14 v15 v16 v17) fun v24 =>
      if v24 = true then
        if v12 = v18 then
          some (v13 == v19)
        else
          some false
      else
        some false

/-- laws.FnRunPutGet -/
def laws_FnRunPutGet.f (K : Nat) (a0 : List Int) : Option Bool :=
  if (a0.length : Int) > (1048576:Int) then
    some true
  else
    b7 (spec_DrawRunOp.f K a0) fun v1 v2 v3 v4 v5 v6 v7 =>
    b6 (impl_RunOp.f K v1 v2 v3 v4 v5 v6 v7) fun v8 v9 v10 v11 v12 v13 =>
    b6 (spec_RunOp.f K v1 v2 v3 v4 v5 v6 v7) fun v14 v15 v16 v17 v18 v19 =>
    b1 (impl_StoreSame.f K v8 v9 v10 v11 v14 v15 v16 v17) fun v20 =>
    if v20 = true then
      if v12 = v18 then
        if v13 = v19 then
          if v13 = true then
            if v12 = (0:Int) then
              if v5 = (5:Int) then
                if v5 = (6:Int) then
                  b6 (impl_RunOp.f K v8 v9 v10 v11 (4:Int) v6 v6) fun v21 v22 v23 v24 v25 v26 =>
                  if v26 = true then
                    if v25 = (0:Int) then
                      if 0 ≤ v6 ∧ v6 < (v23.length : Int) then
                      if 0 ≤ v7 ∧ v7 < (v3.length : Int) then
                      some ((rd v23 v6) == (rd v3 v7))
                      else none
                      else none
                    else
                      some false
                  else
                    some false
                else
                  b6 (impl_RunOp.f K v8 v9 v10 v11 (3:Int) v6 v6) fun v27 v28 v29 v30 v31 v32 =>
                  if v32 = true then
                    if v31 = (0:Int) then
                      if 0 ≤ v6 ∧ v6 < (v29.length : Int) then
                      if 0 ≤ v7 ∧ v7 < (v3.length : Int) then
                      some ((rd v29 v6) == (rd v3 v7))
                      else none
                      else none
                    else
                      some false
                  else
                    some false
              else
                if v5 = (6:Int) then
                  b6 (impl_RunOp.f K v8 v9 v10 v11 (4:Int) v6 v6) fun v33 v34 v35 v36 v37 v38 =>
                  if v38 = true then
                    if v37 = (0:Int) then
                      if 0 ≤ v6 ∧ v6 < (v35.length : Int) then
                      if 0 ≤ v7 ∧ v7 < (v3.length : Int) then
                      some ((rd v35 v6) == (rd v3 v7))
                      else none
                      else none
                    else
                      some false
                  else
                    some false
                else
                  b1 (impl_StoreSame.f K v8 v9 v10 v11 v14 v15 v16 v17) fun v39 =>
                  if v39 = true then
                    some (v13 == v19)
                  else
                    some false
            else
              b1 (impl_StoreSame.f K v8 v9 v10 v11 v14 v15 v16 v17) fun v40 =>
              if v40 = true then
                some (v13 == v19)
              else
                some false
          else
            b1 (impl_StoreSame.f K v8 v9 v10 v11 v14 v15 v16 v17) fun v41 =>
            if v41 = true then
              some (v13 == v19)
            else
              some false
        else
          b1 (impl_StoreSame.f K v8 v9 v10 v11 v14 v15 v16 v17) fun v42 =>
          if v42 = true then
            some (v13 == v19)
          else
            some false
      else
        b1 (impl_StoreSame.f K v8 v9 v10 v11 v14 v15 v16 v17) fun v43 =>
        if v43 = true then
          some false
        else
          some false
    else
      b1 (impl_StoreSame.f K v8 v9 v10 v11 v14 v15 v16 v17) fun v44 =>
      if v44 = true then
        if v12 = v18 then
          some (v13 == v19)
        else
          some false
      else
        some false

end Go.Proofs.Ytnfaiojmabolmaa.F
