/- Pure functions, one for each of some functions of the program, printed by the generator of wip/gen. -/
import Derived.Test.YtnfaiojmabolmaaDoorX1
import Derived.Test.YtnfaiojmabolmaaDoorFa
import Derived.Test.YtnfaiojmabolmaaDoorFj
namespace Go.Proofs.YtnfaiojmabolmaaDoor.F
open Go Go.RowKit Go.Proofs.YtnfaiojmabolmaaDoor.S
set_option linter.unusedVariables false
/-- spec.l13Dec -/
def spec_l13Dec.f (K : Nat) (a0 : Int) : Option ByteArray :=
  if a0 < (-9223372036854775807:Int) then
    some (⟨#[45, 57, 50, 50, 51, 51, 55, 50, 48, 51, 54, 56, 53, 52, 55, 55, 53, 56, 48, 56]⟩ : ByteArray)
  else
    if a0 < (0:Int) then
      none
    else
      if a0 > (9:Int) then
        none
      else
        if (b1s (w8 (wrap64 ((48:Int) + a0)))).size + (⟨#[]⟩ : ByteArray).size ≤ 9223372036854775807 then
        some ((b1s (w8 (wrap64 ((48:Int) + a0)))) ++ (⟨#[]⟩ : ByteArray))
        else none

/-- spec.FormatOp -/
def spec_FormatOp.f (K : Nat) (a0_0 : Int) (a0_1 : Int) (a0_2 : Int) : Option ByteArray :=
  b1 (spec_OpValid.f K a0_0 a0_1 a0_2 (3:Int)) fun v1 =>
  if v1 = true then
    b1 (spec_l5Word.f K a0_0) fun v2 =>
    if v2.size + (⟨#[32]⟩ : ByteArray).size ≤ 9223372036854775807 then
    b1 (spec_l13Dec.f K a0_1) fun v3 =>
    if (v2 ++ (⟨#[32]⟩ : ByteArray)).size + v3.size ≤ 9223372036854775807 then
    b1 (spec_l5One.f K a0_0) fun v4 =>
    if v4 = true then
      some ((v2 ++ (⟨#[32]⟩ : ByteArray)) ++ v3)
    else
      if ((v2 ++ (⟨#[32]⟩ : ByteArray)) ++ v3).size + (⟨#[32]⟩ : ByteArray).size ≤ 9223372036854775807 then
      b1 (spec_l13Dec.f K a0_2) fun v5 =>
      if (((v2 ++ (⟨#[32]⟩ : ByteArray)) ++ v3) ++ (⟨#[32]⟩ : ByteArray)).size + v5.size ≤ 9223372036854775807 then
      some ((((v2 ++ (⟨#[32]⟩ : ByteArray)) ++ v3) ++ (⟨#[32]⟩ : ByteArray)) ++ v5)
      else none
      else none
    else none
    else none
  else
    some (⟨#[]⟩ : ByteArray)

/-- internal/strconv.small -/
def internal_strconv_small.f (K : Nat) (a0 : Int) : Option ByteArray :=
  if a0 < (10:Int) then
    if 0 ≤ a0 ∧ a0 ≤ (wrap64 (a0 + (1:Int))) ∧ (wrap64 (a0 + (1:Int))) ≤ ((⟨#[48, 49, 50, 51, 52, 53, 54, 55, 56, 57, 97, 98, 99, 100, 101, 102, 103, 104, 105, 106, 107, 108, 109, 110, 111, 112, 113, 114, 115, 116, 117, 118, 119, 120, 121, 122]⟩ : ByteArray).size : Int) then
    some ((⟨#[48, 49, 50, 51, 52, 53, 54, 55, 56, 57, 97, 98, 99, 100, 101, 102, 103, 104, 105, 106, 107, 108, 109, 110, 111, 112, 113, 114, 115, 116, 117, 118, 119, 120, 121, 122]⟩ : ByteArray).extract a0.toNat (wrap64 (a0 + (1:Int))).toNat)
    else none
  else
    if 0 ≤ (wrap64 (a0 * (2:Int))) ∧ (wrap64 (a0 * (2:Int))) ≤ (wrap64 ((wrap64 (a0 * (2:Int))) + (2:Int))) ∧ (wrap64 ((wrap64 (a0 * (2:Int))) + (2:Int))) ≤ ((⟨#[48, 48, 48, 49, 48, 50, 48, 51, 48, 52, 48, 53, 48, 54, 48, 55, 48, 56, 48, 57, 49, 48, 49, 49, 49, 50, 49, 51, 49, 52, 49, 53, 49, 54, 49, 55, 49, 56, 49, 57, 50, 48, 50, 49, 50, 50, 50, 51, 50, 52, 50, 53, 50, 54, 50, 55, 50, 56, 50, 57, 51, 48, 51, 49, 51, 50, 51, 51, 51, 52, 51, 53, 51, 54, 51, 55, 51, 56, 51, 57, 52, 48, 52, 49, 52, 50, 52, 51, 52, 52, 52, 53, 52, 54, 52, 55, 52, 56, 52, 57, 53, 48, 53, 49, 53, 50, 53, 51, 53, 52, 53, 53, 53, 54, 53, 55, 53, 56, 53, 57, 54, 48, 54, 49, 54, 50, 54, 51, 54, 52, 54, 53, 54, 54, 54, 55, 54, 56, 54, 57, 55, 48, 55, 49, 55, 50, 55, 51, 55, 52, 55, 53, 55, 54, 55, 55, 55, 56, 55, 57, 56, 48, 56, 49, 56, 50, 56, 51, 56, 52, 56, 53, 56, 54, 56, 55, 56, 56, 56, 57, 57, 48, 57, 49, 57, 50, 57, 51, 57, 52, 57, 53, 57, 54, 57, 55, 57, 56, 57, 57]⟩ : ByteArray).size : Int) then
    some ((⟨#[48, 48, 48, 49, 48, 50, 48, 51, 48, 52, 48, 53, 48, 54, 48, 55, 48, 56, 48, 57, 49, 48, 49, 49, 49, 50, 49, 51, 49, 52, 49, 53, 49, 54, 49, 55, 49, 56, 49, 57, 50, 48, 50, 49, 50, 50, 50, 51, 50, 52, 50, 53, 50, 54, 50, 55, 50, 56, 50, 57, 51, 48, 51, 49, 51, 50, 51, 51, 51, 52, 51, 53, 51, 54, 51, 55, 51, 56, 51, 57, 52, 48, 52, 49, 52, 50, 52, 51, 52, 52, 52, 53, 52, 54, 52, 55, 52, 56, 52, 57, 53, 48, 53, 49, 53, 50, 53, 51, 53, 52, 53, 53, 53, 54, 53, 55, 53, 56, 53, 57, 54, 48, 54, 49, 54, 50, 54, 51, 54, 52, 54, 53, 54, 54, 54, 55, 54, 56, 54, 57, 55, 48, 55, 49, 55, 50, 55, 51, 55, 52, 55, 53, 55, 54, 55, 55, 55, 56, 55, 57, 56, 48, 56, 49, 56, 50, 56, 51, 56, 52, 56, 53, 56, 54, 56, 55, 56, 56, 56, 57, 57, 48, 57, 49, 57, 50, 57, 51, 57, 52, 57, 53, 57, 54, 57, 55, 57, 56, 57, 57]⟩ : ByteArray).extract (wrap64 (a0 * (2:Int))).toNat (wrap64 ((wrap64 (a0 * (2:Int))) + (2:Int))).toNat)
    else none

/-- internal/strconv.FormatInt -/
def internal_strconv_FormatInt.f (K : Nat) (a0 : Int) (a1 : Int) : Option ByteArray :=
  if a1 = (10:Int) then
    if (0:Int) ≤ a0 then
      if a0 < (100:Int) then
        b1 (internal_strconv_small.f K a0) fun v1 =>
        some v1
      else
        none
    else
      none
  else
    none

/-- internal/strconv.Itoa -/
def internal_strconv_Itoa.f (K : Nat) (a0 : Int) : Option ByteArray :=
  b1 (internal_strconv_FormatInt.f K a0 (10:Int)) fun v1 =>
  some v1

/-- strconv.Itoa -/
def strconv_Itoa.f (K : Nat) (a0 : Int) : Option ByteArray :=
  b1 (internal_strconv_Itoa.f K a0) fun v1 =>
  some v1

/-- impl.FormatOp -/
def impl_FormatOp.f (K : Nat) (a0_0 : Int) (a0_1 : Int) (a0_2 : Int) : Option ByteArray :=
  b1 (impl_OpValid.f K a0_0 a0_1 a0_2 (3:Int)) fun v1 =>
  if v1 = true then
    if 0 ≤ a0_0 ∧ a0_0 < (opTab.length : Int) then
    if (rds opTab a0_0).size + (⟨#[32]⟩ : ByteArray).size ≤ 9223372036854775807 then
    b1 (strconv_Itoa.f K a0_1) fun v2 =>
    if ((rds opTab a0_0) ++ (⟨#[32]⟩ : ByteArray)).size + v2.size ≤ 9223372036854775807 then
    if a0_0 = (1:Int) then
      some (((rds opTab a0_0) ++ (⟨#[32]⟩ : ByteArray)) ++ v2)
    else
      if a0_0 = (7:Int) then
        some (((rds opTab a0_0) ++ (⟨#[32]⟩ : ByteArray)) ++ v2)
      else
        b1 (strconv_Itoa.f K a0_2) fun v3 =>
        if (⟨#[32]⟩ : ByteArray).size + v3.size ≤ 9223372036854775807 then
        if (((rds opTab a0_0) ++ (⟨#[32]⟩ : ByteArray)) ++ v2).size + ((⟨#[32]⟩ : ByteArray) ++ v3).size ≤ 9223372036854775807 then
        some ((((rds opTab a0_0) ++ (⟨#[32]⟩ : ByteArray)) ++ v2) ++ ((⟨#[32]⟩ : ByteArray) ++ v3))
        else none
        else none
    else none
    else none
    else none
  else
    some (⟨#[]⟩ : ByteArray)

/-- spec.ParseOp -/
def spec_ParseOp.loop2 (K : Nat) (κ : Unit → Option (Int × Int × Int × Bool)) (a0 : ByteArray) (p22 : Int) (p38 : Int) : Nat → Int → Option (Int × Int × Int × Bool)
  | 0, _ => none
  | m + 1, p42 =>
    if p42 < (3:Int) then
      if a0.toList = (⟨#[]⟩ : ByteArray).toList then
        spec_ParseOp.loop2 K κ a0 p22 p38 m (wrap64 (p42 + (1:Int)))
      else
        b1 (spec_FormatOp.f K p22 p38 p42) fun v64 =>
        if v64.toList = a0.toList then
          some (p22, p38, p42, true)
        else
          spec_ParseOp.loop2 K κ a0 p22 p38 m (wrap64 (p42 + (1:Int)))
    else
      κ ()
def spec_ParseOp.loop1 (K : Nat) (κ : Unit → Option (Int × Int × Int × Bool)) (a0 : ByteArray) (p22 : Int) : Nat → Int → Option (Int × Int × Int × Bool)
  | 0, _ => none
  | m + 1, p38 =>
    if p38 < (3:Int) then
      spec_ParseOp.loop2 K (fun _ =>
        spec_ParseOp.loop1 K κ a0 p22 m (wrap64 (p38 + (1:Int)))) a0 p22 p38 K (0:Int)
    else
      κ ()
def spec_ParseOp.loop0 (K : Nat) (κ : Unit → Option (Int × Int × Int × Bool)) (a0 : ByteArray) : Nat → Int → Option (Int × Int × Int × Bool)
  | 0, _ => none
  | m + 1, p22 =>
    if p22 ≤ (7:Int) then
      spec_ParseOp.loop1 K (fun _ =>
        spec_ParseOp.loop0 K κ a0 m (wrap64 (p22 + (1:Int)))) a0 p22 K (0:Int)
    else
      κ ()
def spec_ParseOp.f (K : Nat) (a0 : ByteArray) : Option (Int × Int × Int × Bool) :=
  spec_ParseOp.loop0 K (fun _ =>
    some ((0:Int), (0:Int), (0:Int), false)) a0 K (1:Int)

/-- impl.ParseOp -/
def impl_ParseOp.loop2 (K : Nat) (κ : Unit → Option (Int × Int × Int × Bool)) (a0 : ByteArray) (p22 : Int) (p38 : Int) : Nat → Int → Option (Int × Int × Int × Bool)
  | 0, _ => none
  | m + 1, p42 =>
    if p42 < (3:Int) then
      if a0.toList = (⟨#[]⟩ : ByteArray).toList then
        impl_ParseOp.loop2 K κ a0 p22 p38 m (wrap64 (p42 + (1:Int)))
      else
        b1 (impl_FormatOp.f K p22 p38 p42) fun v64 =>
        if v64.toList = a0.toList then
          some (p22, p38, p42, true)
        else
          impl_ParseOp.loop2 K κ a0 p22 p38 m (wrap64 (p42 + (1:Int)))
    else
      κ ()
def impl_ParseOp.loop1 (K : Nat) (κ : Unit → Option (Int × Int × Int × Bool)) (a0 : ByteArray) (p22 : Int) : Nat → Int → Option (Int × Int × Int × Bool)
  | 0, _ => none
  | m + 1, p38 =>
    if p38 < (3:Int) then
      impl_ParseOp.loop2 K (fun _ =>
        impl_ParseOp.loop1 K κ a0 p22 m (wrap64 (p38 + (1:Int)))) a0 p22 p38 K (0:Int)
    else
      κ ()
def impl_ParseOp.loop0 (K : Nat) (κ : Unit → Option (Int × Int × Int × Bool)) (a0 : ByteArray) : Nat → Int → Option (Int × Int × Int × Bool)
  | 0, _ => none
  | m + 1, p22 =>
    if p22 ≤ (7:Int) then
      impl_ParseOp.loop1 K (fun _ =>
        impl_ParseOp.loop0 K κ a0 m (wrap64 (p22 + (1:Int)))) a0 p22 K (0:Int)
    else
      κ ()
def impl_ParseOp.f (K : Nat) (a0 : ByteArray) : Option (Int × Int × Int × Bool) :=
  impl_ParseOp.loop0 K (fun _ =>
    some ((0:Int), (0:Int), (0:Int), false)) a0 K (1:Int)

/-- laws.FnExactFormatOp -/
def laws_FnExactFormatOp.f (K : Nat) (a0_0 : Int) (a0_1 : Int) (a0_2 : Int) : Option Bool :=
  b3 (laws_toOp.f K a0_0 a0_1 a0_2) fun v1 v2 v3 =>
  b1 (spec_FormatOp.f K v1 v2 v3) fun v4 =>
  b3 (laws_toOp.f K a0_0 a0_1 a0_2) fun v5 v6 v7 =>
  b1 (impl_FormatOp.f K v5 v6 v7) fun v8 =>
  if v8.toList = v4.toList then
    some true
  else
    some false

/-- laws.FnExactParseOp -/
def laws_FnExactParseOp.f (K : Nat) (a0 : ByteArray) : Option Bool :=
  if (a0.size : Int) > (1048576:Int) then
    some true
  else
    b4 (spec_ParseOp.f K a0) fun v1 v2 v3 v4 =>
    b4 (impl_ParseOp.f K a0) fun v5 v6 v7 v8 =>
    b1 (laws_eqOp.f K v5 v6 v7 v1 v2 v3) fun v9 =>
    if v9 = true then
      if v8 = v4 then
        some true
      else
        some false
    else
      some false

/-- spec.DrawFormatOp -/
def spec_DrawFormatOp.f (K : Nat) (a0 : List Int) : Option (Int × Int × Int) :=
  b4 (spec_DrawOpValid.f K a0) fun v1 v2 v3 v4 =>
  some (v1, v2, v3)

/-- (*spec.l13Rd).of -/
def spec_l13Rd_of.f (K : Nat) (a0_0 : List Int) (a0_1 : Int) (a1 : List ByteArray) : Option (ByteArray × Int) :=
  b2 (spec_l13Rd_pick.f K a0_0 a0_1 (a1.length : Int)) fun v1 v2 =>
  if 0 ≤ v1 ∧ v1 < (a1.length : Int) then
  some ((rds a1 v1), v2)
  else none

/-- spec.DrawParseOp -/
def spec_DrawParseOp.f (K : Nat) (a0 : List Int) : Option ByteArray :=
  b1 (spec_l13Open.f K a0) fun _ =>
  b4 (spec_l5Op.f K (a0.take 2000) (0:Int)) fun v1 v2 v3 v4 =>
  b1 (spec_FormatOp.f K v1 v2 v3) fun v5 =>
  b2 (spec_l13Rd_pick.f K (a0.take 2000) v4 (2:Int)) fun v6 v7 =>
  if v6 = (0:Int) then
    some v5
  else
    b2 (spec_l13Rd_pick.f K (a0.take 2000) v7 (v5.size : Int)) fun v8 v9 =>
    if 0 ≤ v8 ∧ v8 ≤ (v5.size : Int) then
    b2 (spec_l13Rd_of.f K (a0.take 2000) v9 ([(⟨#[]⟩ : ByteArray), (⟨#[32]⟩ : ByteArray), (⟨#[51]⟩ : ByteArray), (⟨#[110]⟩ : ByteArray)] : List ByteArray)) fun v10 v11 =>
    if (v5.extract 0 v8.toNat).size + v10.size ≤ 9223372036854775807 then
    b2 (spec_l13Rd_pick.f K (a0.take 2000) v11 (2:Int)) fun v12 v13 =>
    if 0 ≤ (wrap64 (v8 + v12)) ∧ (wrap64 (v8 + v12)) ≤ (v5.size : Int) then
    if ((v5.extract 0 v8.toNat) ++ v10).size + (v5.extract (wrap64 (v8 + v12)).toNat v5.size).size ≤ 9223372036854775807 then
    some (((v5.extract 0 v8.toNat) ++ v10) ++ (v5.extract (wrap64 (v8 + v12)).toNat v5.size))
    else none
    else none
    else none
    else none

/-- laws.FnOpText -/
def laws_FnOpText.f (K : Nat) (a0 : List Int) (a1 : List Int) : Option Bool :=
  if (a0.length : Int) > (1048576:Int) then
    some true
  else
    if (a1.length : Int) > (1048576:Int) then
      some true
    else
      b3 (spec_DrawFormatOp.f K a0) fun v1 v2 v3 =>
      b1 (impl_FormatOp.f K v1 v2 v3) fun v4 =>
      b4 (impl_ParseOp.f K v4) fun v5 v6 v7 v8 =>
      b1 (spec_FormatOp.f K v1 v2 v3) fun v9 =>
      if v4.toList = v9.toList then
        b1 (impl_OpValid.f K v1 v2 v3 (3:Int)) fun v10 =>
        if (!(v4.toList == (⟨#[]⟩ : ByteArray).toList)) = v10 then
          if v8 = (!(v4.toList == (⟨#[]⟩ : ByteArray).toList)) then
            if v8 = true then
              if ¬(v5 = v1 ∧ v6 = v2 ∧ v7 = v3) then
                some false
              else
                b1 (spec_DrawParseOp.f K a1) fun v11 =>
                b4 (impl_ParseOp.f K v11) fun v12 v13 v14 v15 =>
                b4 (spec_ParseOp.f K v11) fun v16 v17 v18 v19 =>
                if v12 = v16 ∧ v13 = v17 ∧ v14 = v18 then
                  if v15 = v19 then
                    if v15 = true then
                      b1 (impl_FormatOp.f K v12 v13 v14) fun v20 =>
                      some (v20.toList == v11.toList)
                    else
                      some true
                  else
                    some false
                else
                  some false
            else
              b1 (spec_DrawParseOp.f K a1) fun v21 =>
              b4 (impl_ParseOp.f K v21) fun v22 v23 v24 v25 =>
              b4 (spec_ParseOp.f K v21) fun v26 v27 v28 v29 =>
              if v22 = v26 ∧ v23 = v27 ∧ v24 = v28 then
                if v25 = v29 then
                  if v25 = true then
                    b1 (impl_FormatOp.f K v22 v23 v24) fun v30 =>
                    some (v30.toList == v21.toList)
                  else
                    some true
                else
                  some false
              else
                some false
          else
            some false
        else
          some false
      else
        some false

end Go.Proofs.YtnfaiojmabolmaaDoor.F
