/- Pure functions, one for each of some functions of the program, printed by the generator of wip/gen. -/
import Derived.Test.YtnfaiojmabolmaaDoorSq
import Derived.Test.YtnfaiojmabolmaaDoorFa
import Derived.Test.YtnfaiojmabolmaaDoorFj
import Derived.Test.YtnfaiojmabolmaaDoorFl
namespace Go.Proofs.YtnfaiojmabolmaaDoor.F
open Go Go.RowKit Go.Proofs.YtnfaiojmabolmaaDoor.S
set_option linter.unusedVariables false
/-- spec.FormatOps -/
def spec_FormatOps.loop0 (K : Nat) (κ : ByteArray → Option ByteArray) (a0 : List (Int × Int × Int)) : Nat → ByteArray → Int → Option ByteArray
  | 0, _, _ => none
  | m + 1, s2, p2 =>
    if p2 < (a0.length : Int) then
      if (a0.length : Int) ≤ (12:Int) then
        if 0 ≤ p2 ∧ p2 < (a0.length : Int) then
        b1 (spec_FormatOp.f K (rdt a0 p2).1 (rdt a0 p2).2.1 (rdt a0 p2).2.2) fun v9 =>
        if v9.toList = (⟨#[]⟩ : ByteArray).toList then
          some (⟨#[]⟩ : ByteArray)
        else
          if p2 > (0:Int) then
            if s2.size + (⟨#[44, 32]⟩ : ByteArray).size ≤ 9223372036854775807 then
            b1 (spec_FormatOp.f K (rdt a0 p2).1 (rdt a0 p2).2.1 (rdt a0 p2).2.2) fun v10 =>
            if (s2 ++ (⟨#[44, 32]⟩ : ByteArray)).size + v10.size ≤ 9223372036854775807 then
            spec_FormatOps.loop0 K κ a0 m ((s2 ++ (⟨#[44, 32]⟩ : ByteArray)) ++ v10) (wrap64 (p2 + (1:Int)))
            else none
            else none
          else
            b1 (spec_FormatOp.f K (rdt a0 p2).1 (rdt a0 p2).2.1 (rdt a0 p2).2.2) fun v11 =>
            if s2.size + v11.size ≤ 9223372036854775807 then
            spec_FormatOps.loop0 K κ a0 m (s2 ++ v11) (wrap64 (p2 + (1:Int)))
            else none
        else none
      else
        κ s2
    else
      κ s2
def spec_FormatOps.f (K : Nat) (a0 : List (Int × Int × Int)) : Option ByteArray :=
  spec_FormatOps.loop0 K (fun s3 =>
    some s3) a0 K (⟨#[]⟩ : ByteArray) (0:Int)

/-- strings.Join -/
def strings_Join.f (K : Nat) (a0 : List ByteArray) (a1 : ByteArray) : Option ByteArray :=
  if a0.length ≤ 140737488355328 ∧ (jn a0 a1).size ≤ 140737488355328 then some (jn a0 a1) else none

/-- impl.FormatOps -/
def impl_FormatOps.loop0 (K : Nat) (κ : (List ByteArray) → Option ByteArray) (a0 : List (Int × Int × Int)) : Nat → (List ByteArray) → Int → Option ByteArray
  | 0, _, _ => none
  | m + 1, l2, p2 =>
    if p2 < (a0.length : Int) then
      if 0 ≤ p2 ∧ p2 < (a0.length : Int) then
      b1 (impl_FormatOp.f K (rdt a0 p2).1 (rdt a0 p2).2.1 (rdt a0 p2).2.2) fun v5 =>
      if l2.length + ([v5] : List ByteArray).length ≤ 1099511627776 then
      impl_FormatOps.loop0 K κ a0 m (l2 ++ ([v5] : List ByteArray)) (wrap64 (p2 + (1:Int)))
      else none
      else none
    else
      κ l2
def impl_FormatOps.f (K : Nat) (a0 : List (Int × Int × Int)) : Option ByteArray :=
  b1 (impl_opsOk.f K a0 (3:Int)) fun v1 =>
  if v1 = true then
    impl_FormatOps.loop0 K (fun l3 =>
      b1 (strings_Join.f K l3 (⟨#[44, 32]⟩ : ByteArray)) fun v6 =>
      some v6) a0 K ([] : List ByteArray) (0:Int)
  else
    some (⟨#[]⟩ : ByteArray)

/-- spec.l13Cut -/
def spec_l13Cut.loop0 (K : Nat) (κ : (List ByteArray) → Option ((List ByteArray))) (a0 : ByteArray) (a1 : Int) : Nat → (List ByteArray) → Int → Int → Option ((List ByteArray))
  | 0, _, _, _ => none
  | m + 1, l2, p3, p4 =>
    if p4 ≤ (a0.size : Int) then
      if p4 = (a0.size : Int) then
        if 0 ≤ p3 ∧ p3 ≤ p4 ∧ p4 ≤ (a0.size : Int) then
        if l2.length + ([(a0.extract p3.toNat p4.toNat)] : List ByteArray).length ≤ 1099511627776 then
        spec_l13Cut.loop0 K κ a0 a1 m (l2 ++ ([(a0.extract p3.toNat p4.toNat)] : List ByteArray)) (wrap64 (p4 + (1:Int))) (wrap64 (p4 + (1:Int)))
        else none
        else none
      else
        if 0 ≤ p4 ∧ p4 < (a0.size : Int) then
        if (sbt a0 p4) = a1 then
          if 0 ≤ p3 ∧ p3 ≤ p4 ∧ p4 ≤ (a0.size : Int) then
          if l2.length + ([(a0.extract p3.toNat p4.toNat)] : List ByteArray).length ≤ 1099511627776 then
          spec_l13Cut.loop0 K κ a0 a1 m (l2 ++ ([(a0.extract p3.toNat p4.toNat)] : List ByteArray)) (wrap64 (p4 + (1:Int))) (wrap64 (p4 + (1:Int)))
          else none
          else none
        else
          spec_l13Cut.loop0 K κ a0 a1 m l2 p3 (wrap64 (p4 + (1:Int)))
        else none
    else
      κ l2
def spec_l13Cut.f (K : Nat) (a0 : ByteArray) (a1 : Int) : Option ((List ByteArray)) :=
  spec_l13Cut.loop0 K (fun l3 =>
    some l3) a0 a1 K ([] : List ByteArray) (0:Int) (0:Int)

/-- spec.ParseOps -/
def spec_ParseOps.loop0 (K : Nat) (κ : (List (Int × Int × Int)) → Option ((List (Int × Int × Int)) × Bool)) (v1 : List ByteArray) : Nat → (List (Int × Int × Int)) → Int → Option ((List (Int × Int × Int)) × Bool)
  | 0, _, _ => none
  | m + 1, l2, p2 =>
    if p2 < (v1.length : Int) then
      if p2 ≤ (12:Int) then
        if 0 ≤ p2 ∧ p2 < (v1.length : Int) then
        if p2 > (0:Int) then
          if (rds v1 p2).toList = (⟨#[]⟩ : ByteArray).toList then
            some (([] : List (Int × Int × Int)), false)
          else
            if 0 ≤ (0:Int) ∧ (0:Int) < ((rds v1 p2).size : Int) then
            if (sbt (rds v1 p2) (0:Int)) = (32:Int) then
              if 0 ≤ (1:Int) ∧ (1:Int) ≤ ((rds v1 p2).size : Int) then
              b4 (spec_ParseOp.f K ((rds v1 p2).extract (1:Int).toNat (rds v1 p2).size)) fun v22 v23 v24 v25 =>
              if v25 = true then
                if l2.length + ([(v22, v23, v24)] : List (Int × Int × Int)).length ≤ 1099511627776 then
                spec_ParseOps.loop0 K κ v1 m (l2 ++ ([(v22, v23, v24)] : List (Int × Int × Int))) (wrap64 (p2 + (1:Int)))
                else none
              else
                some (([] : List (Int × Int × Int)), false)
              else none
            else
              some (([] : List (Int × Int × Int)), false)
            else none
        else
          b4 (spec_ParseOp.f K (rds v1 p2)) fun v26 v27 v28 v29 =>
          if v29 = true then
            if l2.length + ([(v26, v27, v28)] : List (Int × Int × Int)).length ≤ 1099511627776 then
            spec_ParseOps.loop0 K κ v1 m (l2 ++ ([(v26, v27, v28)] : List (Int × Int × Int))) (wrap64 (p2 + (1:Int)))
            else none
          else
            some (([] : List (Int × Int × Int)), false)
        else none
      else
        κ l2
    else
      κ l2
def spec_ParseOps.f (K : Nat) (a0 : ByteArray) : Option ((List (Int × Int × Int)) × Bool) :=
  if a0.toList = (⟨#[]⟩ : ByteArray).toList then
    some (([] : List (Int × Int × Int)), true)
  else
    b1 (spec_l13Cut.f K a0 (44:Int)) fun v1 =>
    spec_ParseOps.loop0 K (fun l3 =>
      if (v1.length : Int) > (12:Int) then
        some (([] : List (Int × Int × Int)), false)
      else
        some (l3, true)) v1 K ([] : List (Int × Int × Int)) (0:Int)

/-- strings.Split -/
def strings_Split.f (K : Nat) (a0 : ByteArray) (a1 : ByteArray) : Option (List ByteArray) :=
  if a0.size < 4294967281 ∧ 1 ≤ a1.size then some (spl a0 a1) else none

/-- impl.ParseOps -/
def impl_ParseOps.loop0 (K : Nat) (κ : (List (Int × Int × Int)) → Option ((List (Int × Int × Int)) × Bool)) (v1 : List ByteArray) : Nat → (List (Int × Int × Int)) → Int → Option ((List (Int × Int × Int)) × Bool)
  | 0, _, _ => none
  | m + 1, l2, p2 =>
    if p2 < (v1.length : Int) then
      if 0 ≤ p2 ∧ p2 < (v1.length : Int) then
      b4 (impl_ParseOp.f K (rds v1 p2)) fun v14 v15 v16 v17 =>
      if v17 = true then
        if (l2.length : Int) = (12:Int) then
          some (([] : List (Int × Int × Int)), false)
        else
          if l2.length + ([(v14, v15, v16)] : List (Int × Int × Int)).length ≤ 1099511627776 then
          impl_ParseOps.loop0 K κ v1 m (l2 ++ ([(v14, v15, v16)] : List (Int × Int × Int))) (wrap64 (p2 + (1:Int)))
          else none
      else
        some (([] : List (Int × Int × Int)), false)
      else none
    else
      κ l2
def impl_ParseOps.f (K : Nat) (a0 : ByteArray) : Option ((List (Int × Int × Int)) × Bool) :=
  if a0.toList = (⟨#[]⟩ : ByteArray).toList then
    some (([] : List (Int × Int × Int)), true)
  else
    b1 (strings_Split.f K a0 (⟨#[44, 32]⟩ : ByteArray)) fun v1 =>
    impl_ParseOps.loop0 K (fun l3 =>
      some (l3, true)) v1 K ([] : List (Int × Int × Int)) (0:Int)

/-- spec.DrawFormatOps -/
def spec_DrawFormatOps.f (K : Nat) (a0 : List Int) : Option ((List (Int × Int × Int))) :=
  b1 (spec_l13Open.f K a0) fun _ =>
  b2 (spec_l5Ops.f K (a0.take 2000) (0:Int)) fun v1 v2 =>
  b2 (spec_l13Rd_pick.f K (a0.take 2000) v2 (12:Int)) fun v3 v4 =>
  if v3 = (0:Int) then
    b2 (spec_l13Rd_num.f K (a0.take 2000) v4 ([(0:Int), (8:Int), (1:Int)] : List Int)) fun v5 v6 =>
    if v1.length + ([(v5, (3:Int), (0:Int))] : List (Int × Int × Int)).length ≤ 1099511627776 then
    some (v1 ++ ([(v5, (3:Int), (0:Int))] : List (Int × Int × Int)))
    else none
  else
    some v1

/-- laws.FnExactFormatOps -/
def laws_FnExactFormatOps.f (K : Nat) (a0 : List (Int × Int × Int)) : Option Bool :=
  b1 (laws_szOpS.f K a0 (1048576:Int)) fun v1 =>
  if v1 < (0:Int) then
    some true
  else
    b1 (laws_toOpS.f K a0) fun v2 =>
    b1 (spec_FormatOps.f K v2) fun v3 =>
    b1 (laws_toOpS.f K a0) fun v4 =>
    b1 (impl_FormatOps.f K v4) fun v5 =>
    if v5.toList = v3.toList then
      b1 (laws_toOpS.f K a0) fun v6 =>
      b1 (laws_eqOpS.f K v4 v6) fun v7 =>
      if v7 = true then
        some true
      else
        some false
    else
      some false

/-- laws.markOpS -/
def laws_markOpS.loop0 (K : Nat) (κ : Int → (List (Int × Int × Int)) → Option (Int × (List (Int × Int × Int)))) : Nat → Int → Int → (List (Int × Int × Int)) → Option (Int × (List (Int × Int × Int)))
  | 0, _, _, _ => none
  | m + 1, p3, p4, l2 =>
    if p4 < (l2.length : Int) then
      if 0 ≤ p4 ∧ p4 < (l2.length : Int) then
      if 0 ≤ p4 ∧ p4 < ((l2.set p4.toNat (p3, (rdt l2 p4).2.1, (rdt l2 p4).2.2)).length : Int) then
      if 0 ≤ p4 ∧ p4 < (((l2.set p4.toNat (p3, (rdt l2 p4).2.1, (rdt l2 p4).2.2)).set p4.toNat ((rdt (l2.set p4.toNat (p3, (rdt l2 p4).2.1, (rdt l2 p4).2.2)) p4).1, (wrap64 (p3 + (1:Int))), (rdt (l2.set p4.toNat (p3, (rdt l2 p4).2.1, (rdt l2 p4).2.2)) p4).2.2)).length : Int) then
      laws_markOpS.loop0 K κ  m (wrap64 ((wrap64 ((wrap64 (p3 + (1:Int))) + (1:Int))) + (1:Int))) (wrap64 (p4 + (1:Int))) (((l2.set p4.toNat (p3, (rdt l2 p4).2.1, (rdt l2 p4).2.2)).set p4.toNat ((rdt (l2.set p4.toNat (p3, (rdt l2 p4).2.1, (rdt l2 p4).2.2)) p4).1, (wrap64 (p3 + (1:Int))), (rdt (l2.set p4.toNat (p3, (rdt l2 p4).2.1, (rdt l2 p4).2.2)) p4).2.2)).set p4.toNat ((rdt ((l2.set p4.toNat (p3, (rdt l2 p4).2.1, (rdt l2 p4).2.2)).set p4.toNat ((rdt (l2.set p4.toNat (p3, (rdt l2 p4).2.1, (rdt l2 p4).2.2)) p4).1, (wrap64 (p3 + (1:Int))), (rdt (l2.set p4.toNat (p3, (rdt l2 p4).2.1, (rdt l2 p4).2.2)) p4).2.2)) p4).1, (rdt ((l2.set p4.toNat (p3, (rdt l2 p4).2.1, (rdt l2 p4).2.2)).set p4.toNat ((rdt (l2.set p4.toNat (p3, (rdt l2 p4).2.1, (rdt l2 p4).2.2)) p4).1, (wrap64 (p3 + (1:Int))), (rdt (l2.set p4.toNat (p3, (rdt l2 p4).2.1, (rdt l2 p4).2.2)) p4).2.2)) p4).2.1, (wrap64 ((wrap64 (p3 + (1:Int))) + (1:Int)))))
      else none
      else none
      else none
    else
      κ p3 l2
def laws_markOpS.f (K : Nat) (a0 : List (Int × Int × Int)) (a1 : Int) : Option (Int × (List (Int × Int × Int))) :=
  laws_markOpS.loop0 K (fun p5 l3 =>
    some (p5, l3)) K a1 (0:Int) a0

/-- laws.heldOpS -/
def laws_heldOpS.loop0 (K : Nat) (κ : Int → Option Int) (a0 : List (Int × Int × Int)) : Nat → Int → Int → Option Int
  | 0, _, _ => none
  | m + 1, p3, p4 =>
    if p4 < (a0.length : Int) then
      if 0 ≤ p4 ∧ p4 < (a0.length : Int) then
      if (rdt a0 p4).1 = p3 then
        if (rdt a0 p4).2.1 = (wrap64 (p3 + (1:Int))) then
          if (rdt a0 p4).2.2 = (wrap64 ((wrap64 (p3 + (1:Int))) + (1:Int))) then
            laws_heldOpS.loop0 K κ a0 m (wrap64 ((wrap64 ((wrap64 (p3 + (1:Int))) + (1:Int))) + (1:Int))) (wrap64 (p4 + (1:Int)))
          else
            some (-1:Int)
        else
          some (-1:Int)
      else
        some (-1:Int)
      else none
    else
      κ p3
def laws_heldOpS.f (K : Nat) (a0 : List (Int × Int × Int)) (a1 : Int) : Option Int :=
  laws_heldOpS.loop0 K (fun p5 =>
    some p5) a0 K a1 (0:Int)

/-- laws.FnExactParseOps -/
def laws_FnExactParseOps.f (K : Nat) (a0 : ByteArray) : Option Bool :=
  if (a0.size : Int) > (1048576:Int) then
    some true
  else
    b2 (spec_ParseOps.f K a0) fun v1 v2 =>
    b2 (impl_ParseOps.f K a0) fun v3 v4 =>
    b1 (laws_eqOpS.f K v3 v1) fun v5 =>
    if v5 = true then
      if v4 = v2 then
        b2 (laws_markOpS.f K v3 (1:Int)) fun v6 v7 =>
        b1 (laws_heldOpS.f K v7 (1:Int)) fun v8 =>
        if v8 < (0:Int) then
          some false
        else
          if v8 = v6 then
            b2 (impl_ParseOps.f K a0) fun v9 v10 =>
            b1 (laws_eqOpS.f K v9 v1) fun v11 =>
            if v11 = true then
              if v10 = v2 then
                b1 (laws_heldOpS.f K v7 (1:Int)) fun v12 =>
                if v12 < (0:Int) then
                  some false
                else
                  if v12 = v6 then
                    some true
                  else
                    some false
              else
                some false
            else
              some false
          else
            some false
      else
        some false
    else
      some false

/-- laws.FnOpsSize -/
def laws_FnOpsSize.loop0 (K : Nat) (κ : Int → Option Bool) (v2 : ByteArray) : Nat → Int → Int → Option Bool
  | 0, _, _ => none
  | m + 1, p3, p4 =>
    if p4 < (v2.size : Int) then
      if 0 ≤ p4 ∧ p4 < (v2.size : Int) then
      if (sbt v2 p4) = (44:Int) then
        laws_FnOpsSize.loop0 K κ v2 m (wrap64 (p3 + (1:Int))) (wrap64 (p4 + (1:Int)))
      else
        laws_FnOpsSize.loop0 K κ v2 m p3 (wrap64 (p4 + (1:Int)))
      else none
    else
      κ p3
def laws_FnOpsSize.f (K : Nat) (a0 : List Int) : Option Bool :=
  if (a0.length : Int) > (1048576:Int) then
    some true
  else
    b1 (spec_DrawFormatOps.f K a0) fun v1 =>
    b1 (impl_FormatOps.f K v1) fun v2 =>
    b1 (spec_FormatOps.f K v1) fun v3 =>
    if v2.toList = v3.toList then
      if v2.toList = (⟨#[]⟩ : ByteArray).toList then
        b1 (spec_FormatOps.f K v1) fun v4 =>
        some (v2.toList == v4.toList)
      else
        laws_FnOpsSize.loop0 K (fun p5 =>
          if p5 = (v1.length : Int) then
            some (decide (p5 ≤ (12:Int)))
          else
            some false) v2 K (1:Int) (0:Int)
    else
      b1 (spec_FormatOps.f K v1) fun v5 =>
      some (v2.toList == v5.toList)

/-- spec.DrawParseOps -/
def spec_DrawParseOps.f (K : Nat) (a0 : List Int) : Option ByteArray :=
  b1 (spec_l13Open.f K a0) fun _ =>
  b2 (spec_l5Ops.f K (a0.take 2000) (0:Int)) fun v1 v2 =>
  b1 (spec_FormatOps.f K v1) fun v3 =>
  if (v3.size : Int) = (0:Int) then
    some v3
  else
    b2 (spec_l13Rd_pick.f K (a0.take 2000) v2 (2:Int)) fun v4 v5 =>
    if v4 = (0:Int) then
      some v3
    else
      b2 (spec_l13Rd_pick.f K (a0.take 2000) v5 (v3.size : Int)) fun v6 v7 =>
      if 0 ≤ v6 ∧ v6 ≤ (v3.size : Int) then
      b2 (spec_l13Rd_of.f K (a0.take 2000) v7 ([(⟨#[]⟩ : ByteArray), (⟨#[32]⟩ : ByteArray), (⟨#[44]⟩ : ByteArray), (⟨#[48]⟩ : ByteArray)] : List ByteArray)) fun v8 v9 =>
      if (v3.extract 0 v6.toNat).size + v8.size ≤ 9223372036854775807 then
      b2 (spec_l13Rd_pick.f K (a0.take 2000) v9 (2:Int)) fun v10 v11 =>
      if 0 ≤ (wrap64 (v6 + v10)) ∧ (wrap64 (v6 + v10)) ≤ (v3.size : Int) then
      if ((v3.extract 0 v6.toNat) ++ v8).size + (v3.extract (wrap64 (v6 + v10)).toNat v3.size).size ≤ 9223372036854775807 then
      some (((v3.extract 0 v6.toNat) ++ v8) ++ (v3.extract (wrap64 (v6 + v10)).toNat v3.size))
      else none
      else none
      else none
      else none

/-- laws.FnOpsText -/
def laws_FnOpsText.f (K : Nat) (a0 : List Int) (a1 : List Int) : Option Bool :=
  if (a0.length : Int) > (1048576:Int) then
    some true
  else
    if (a1.length : Int) > (1048576:Int) then
      some true
    else
      b1 (spec_DrawFormatOps.f K a0) fun v1 =>
      b1 (impl_FormatOps.f K v1) fun v2 =>
      b1 (spec_FormatOps.f K v1) fun v3 =>
      if v2.toList = v3.toList then
        if v2.toList = (⟨#[]⟩ : ByteArray).toList then
          b1 (spec_DrawParseOps.f K a1) fun v4 =>
          b2 (impl_ParseOps.f K v4) fun v5 v6 =>
          b2 (spec_ParseOps.f K v4) fun v7 v8 =>
          b1 (laws_ccOps.f K v5 v7) fun v9 =>
          if v9 = true then
            if v6 = v8 then
              if v6 = true then
                b1 (impl_FormatOps.f K v5) fun v10 =>
                some (v10.toList == v4.toList)
              else
                some true
            else
              some false
          else
            some false
        else
          b2 (impl_ParseOps.f K v2) fun v11 v12 =>
          if v12 = true then
            b1 (laws_ccOps.f K v11 v1) fun v13 =>
            if v13 = true then
              b1 (spec_DrawParseOps.f K a1) fun v14 =>
              b2 (impl_ParseOps.f K v14) fun v15 v16 =>
              b2 (spec_ParseOps.f K v14) fun v17 v18 =>
              b1 (laws_ccOps.f K v15 v17) fun v19 =>
              if v19 = true then
                if v16 = v18 then
                  if v16 = true then
                    b1 (impl_FormatOps.f K v15) fun v20 =>
                    some (v20.toList == v14.toList)
                  else
                    some true
                else
                  some false
              else
                some false
            else
              some false
          else
            some false
      else
        some false

end Go.Proofs.YtnfaiojmabolmaaDoor.F
