/- Pure functions, one for each of some functions of the program, printed by the generator of wip/gen. -/
import Derived.Test.YtnfaiojmabolmaaDoorX1
namespace Go.Proofs.YtnfaiojmabolmaaDoor.F
open Go Go.RowKit Go.Proofs.YtnfaiojmabolmaaDoor.S
set_option linter.unusedVariables false
/-- laws.eqIntS -/
def laws_eqIntS.loop0 (K : Nat) (κ : Unit → Option Bool) (a0 : List Int) (a1 : List Int) : Nat → Int → Option Bool
  | 0, _ => none
  | m + 1, p2 =>
    if p2 < (a0.length : Int) then
      if 0 ≤ p2 ∧ p2 < (a0.length : Int) then
      if 0 ≤ p2 ∧ p2 < (a1.length : Int) then
      if (rd a0 p2) = (rd a1 p2) then
        laws_eqIntS.loop0 K κ a0 a1 m (wrap64 (p2 + (1:Int)))
      else
        some false
      else none
      else none
    else
      κ ()
def laws_eqIntS.f (K : Nat) (a0 : List Int) (a1 : List Int) : Option Bool :=
  if (a0.length : Int) = (a1.length : Int) then
    laws_eqIntS.loop0 K (fun _ =>
      some true) a0 a1 K (0:Int)
  else
    some false

/-- spec.l1Points -/
def spec_l1Points.f (K : Nat) (a0 : Int) (a1 : Int) : Option Bool :=
  if a0 ≥ (-1:Int) then
    some (decide (a0 < a1))
  else
    some false

/-- spec.HeapValid -/
def spec_HeapValid.loop0 (K : Nat) (κ : Unit → Option Bool) (a0_0 : List Int) (a0_1 : List Int) : Nat → Int → Option Bool
  | 0, _ => none
  | m + 1, p2 =>
    if p2 < (a0_0.length : Int) then
      if 0 ≤ p2 ∧ p2 < (a0_0.length : Int) then
      b1 (spec_l1Points.f K (rd a0_0 p2) (a0_0.length : Int)) fun v7 =>
      if v7 = true then
        if 0 ≤ p2 ∧ p2 < (a0_1.length : Int) then
        b1 (spec_l1Points.f K (rd a0_1 p2) (a0_0.length : Int)) fun v8 =>
        if v8 = true then
          spec_HeapValid.loop0 K κ a0_0 a0_1 m (wrap64 (p2 + (1:Int)))
        else
          some false
        else none
      else
        some false
      else none
    else
      κ ()
def spec_HeapValid.loop1 (K : Nat) (κ : Unit → Option Bool) (a0_0 : List Int) (a0_2 : List Int) : Nat → Int → Option Bool
  | 0, _ => none
  | m + 1, p4 =>
    if p4 < (a0_2.length : Int) then
      if 0 ≤ p4 ∧ p4 < (a0_2.length : Int) then
      b1 (spec_l1Points.f K (rd a0_2 p4) (a0_0.length : Int)) fun v12 =>
      if v12 = true then
        spec_HeapValid.loop1 K κ a0_0 a0_2 m (wrap64 (p4 + (1:Int)))
      else
        some false
      else none
    else
      κ ()
def spec_HeapValid.f (K : Nat) (a0_0 : List Int) (a0_1 : List Int) (a0_2 : List Int) : Option Bool :=
  if (a0_0.length : Int) < (1:Int) then
    some false
  else
    if (a0_0.length : Int) > (8:Int) then
      some false
    else
      if (a0_1.length : Int) = (a0_0.length : Int) then
        if (a0_2.length : Int) < (1:Int) then
          some false
        else
          if (a0_2.length : Int) > (3:Int) then
            some false
          else
            spec_HeapValid.loop0 K (fun _ =>
              spec_HeapValid.loop1 K (fun _ =>
                some true) a0_0 a0_2 K (0:Int)) a0_0 a0_1 K (0:Int)
      else
        some false

/-- impl.HeapValid -/
def impl_HeapValid.loop0 (K : Nat) (κ : Unit → Option Bool) (a0_0 : List Int) : Nat → Int → Option Bool
  | 0, _ => none
  | m + 1, p2 =>
    if p2 < (a0_0.length : Int) then
      if 0 ≤ p2 ∧ p2 < (a0_0.length : Int) then
      if (rd a0_0 p2) < (-1:Int) then
        some false
      else
        if (rd a0_0 p2) ≥ (a0_0.length : Int) then
          some false
        else
          impl_HeapValid.loop0 K κ a0_0 m (wrap64 (p2 + (1:Int)))
      else none
    else
      κ ()
def impl_HeapValid.loop1 (K : Nat) (κ : Unit → Option Bool) (a0_0 : List Int) (a0_1 : List Int) : Nat → Int → Option Bool
  | 0, _ => none
  | m + 1, p4 =>
    if p4 < (a0_1.length : Int) then
      if 0 ≤ p4 ∧ p4 < (a0_1.length : Int) then
      if (rd a0_1 p4) < (-1:Int) then
        some false
      else
        if (rd a0_1 p4) ≥ (a0_0.length : Int) then
          some false
        else
          impl_HeapValid.loop1 K κ a0_0 a0_1 m (wrap64 (p4 + (1:Int)))
      else none
    else
      κ ()
def impl_HeapValid.loop2 (K : Nat) (κ : Unit → Option Bool) (a0_0 : List Int) (a0_2 : List Int) : Nat → Int → Option Bool
  | 0, _ => none
  | m + 1, p6 =>
    if p6 < (a0_2.length : Int) then
      if 0 ≤ p6 ∧ p6 < (a0_2.length : Int) then
      if (rd a0_2 p6) < (-1:Int) then
        some false
      else
        if (rd a0_2 p6) ≥ (a0_0.length : Int) then
          some false
        else
          impl_HeapValid.loop2 K κ a0_0 a0_2 m (wrap64 (p6 + (1:Int)))
      else none
    else
      κ ()
def impl_HeapValid.f (K : Nat) (a0_0 : List Int) (a0_1 : List Int) (a0_2 : List Int) : Option Bool :=
  if (a0_0.length : Int) = (a0_1.length : Int) then
    if (a0_0.length : Int) < (1:Int) then
      some false
    else
      if (a0_0.length : Int) > (8:Int) then
        some false
      else
        if (a0_2.length : Int) < (1:Int) then
          some false
        else
          if (a0_2.length : Int) > (3:Int) then
            some false
          else
            impl_HeapValid.loop0 K (fun _ =>
              impl_HeapValid.loop1 K (fun _ =>
                impl_HeapValid.loop2 K (fun _ =>
                  some true) a0_0 a0_2 K (0:Int)) a0_0 a0_1 K (0:Int)) a0_0 K (0:Int)
  else
    some false

/-- slices.Grow[[]int,int] -/
def slices_Grow_int.f (K : Nat) (a1 : Int) : Option ((List Int)) :=
  if a1 < (0:Int) then
    none
  else
    if (wrap64 (a1 - (wrap64 (((0 : Nat) : Int) - (([] : List Int).length : Int))))) > (0:Int) then
      if 0 < (wrap64 (a1 - (wrap64 (((0 : Nat) : Int) - (([] : List Int).length : Int))))) ∧ (wrap64 (a1 - (wrap64 (((0 : Nat) : Int) - (([] : List Int).length : Int))))) ≤ 1099511627776 then
      some ([] : List Int)
      else none
    else
      some ([] : List Int)

/-- slices.Concat[[]int,int] -/
def slices_Concat_int.f (K : Nat) (a0_0 : List Int) (a0_1 : List Int) (a0_2 : List Int) : Option ((List Int)) :=
  if (wrap64 ((0:Int) + (a0_0.length : Int))) < (0:Int) then
    none
  else
    if (wrap64 ((wrap64 ((0:Int) + (a0_0.length : Int))) + (a0_1.length : Int))) < (0:Int) then
      none
    else
      if (wrap64 ((wrap64 ((wrap64 ((0:Int) + (a0_0.length : Int))) + (a0_1.length : Int))) + (a0_2.length : Int))) < (0:Int) then
        none
      else
        b1 (slices_Grow_int.f K (wrap64 ((wrap64 ((wrap64 ((0:Int) + (a0_0.length : Int))) + (a0_1.length : Int))) + (a0_2.length : Int)))) fun v1 =>
        if v1.length + a0_0.length ≤ 1099511627776 then
        if (v1 ++ a0_0).length + a0_1.length ≤ 1099511627776 then
        if ((v1 ++ a0_0) ++ a0_1).length + a0_2.length ≤ 1099511627776 then
        some (((v1 ++ a0_0) ++ a0_1) ++ a0_2)
        else none
        else none
        else none

/-- impl.CountsOf -/
def impl_CountsOf.loop0 (K : Nat) (κ : (List Int) → Option ((List Int))) (v2 : List Int) : Nat → Int → (List Int) → Option ((List Int))
  | 0, _, _ => none
  | m + 1, p2, l2 =>
    if p2 < (v2.length : Int) then
      if 0 ≤ p2 ∧ p2 < (v2.length : Int) then
      if (rd v2 p2) = (-1:Int) then
        impl_CountsOf.loop0 K κ v2 m (wrap64 (p2 + (1:Int))) l2
      else
        if 0 ≤ (rd v2 p2) ∧ (rd v2 p2) < (l2.length : Int) then
        impl_CountsOf.loop0 K κ v2 m (wrap64 (p2 + (1:Int))) (l2.set (rd v2 p2).toNat (wrap64 ((rd l2 (rd v2 p2)) + (1:Int))))
        else none
      else none
    else
      κ l2
def impl_CountsOf.f (K : Nat) (a0_0 : List Int) (a0_1 : List Int) (a0_2 : List Int) : Option ((List Int)) :=
  b1 (impl_HeapValid.f K a0_0 a0_1 a0_2) fun v1 =>
  if v1 = true then
    if 0 ≤ (a0_0.length : Int) ∧ (a0_0.length : Int) ≤ 1099511627776 then
    b1 (slices_Concat_int.f K a0_0 a0_1 a0_2) fun v2 =>
    impl_CountsOf.loop0 K (fun l3 =>
      some l3) v2 K (0:Int) (List.replicate (a0_0.length : Int).toNat (0:Int))
    else none
  else
    some ([] : List Int)

/-- laws.szIntS -/
def laws_szIntS.f (K : Nat) (a0 : List Int) (a1 : Int) : Option Int :=
  if (wrap64 (a1 - (a0.length : Int))) < (0:Int) then
    some (-1:Int)
  else
    some (wrap64 (a1 - (a0.length : Int)))

/-- laws.toIntS -/
def laws_toIntS.loop0 (K : Nat) (κ : (List Int) → Option ((List Int))) (a0 : List Int) : Nat → Int → (List Int) → Option ((List Int))
  | 0, _, _ => none
  | m + 1, p2, l2 =>
    if p2 < (a0.length : Int) then
      if 0 ≤ p2 ∧ p2 < (a0.length : Int) then
      if 0 ≤ p2 ∧ p2 < (l2.length : Int) then
      laws_toIntS.loop0 K κ a0 m (wrap64 (p2 + (1:Int))) (l2.set p2.toNat (rd a0 p2))
      else none
      else none
    else
      κ l2
def laws_toIntS.f (K : Nat) (a0 : List Int) : Option ((List Int)) :=
  if 0 ≤ (a0.length : Int) ∧ (a0.length : Int) ≤ 1099511627776 then
  laws_toIntS.loop0 K (fun l3 =>
    some l3) a0 K (0:Int) (List.replicate (a0.length : Int).toNat (0:Int))
  else none

/-- laws.eqHeap -/
def laws_eqHeap.f (K : Nat) (a0_0 : List Int) (a0_1 : List Int) (a0_2 : List Int) (a1_0 : List Int) (a1_1 : List Int) (a1_2 : List Int) : Option Bool :=
  b1 (laws_eqIntS.f K a0_0 a1_0) fun v1 =>
  if v1 = true then
    b1 (laws_eqIntS.f K a0_1 a1_1) fun v2 =>
    if v2 = true then
      b1 (laws_eqIntS.f K a0_2 a1_2) fun v3 =>
      if v3 = true then
        some true
      else
        some false
    else
      some false
  else
    some false

/-- slices.Equal[[]int,int] -/
def slices_Equal_int.loop0 (K : Nat) (κ : Unit → Option Bool) (a0 : List Int) (a1 : List Int) : Nat → Int → Option Bool
  | 0, _ => none
  | m + 1, p2 =>
    if p2 < (a0.length : Int) then
      if 0 ≤ p2 ∧ p2 < (a0.length : Int) then
      if 0 ≤ p2 ∧ p2 < (a1.length : Int) then
      if (rd a0 p2) = (rd a1 p2) then
        slices_Equal_int.loop0 K κ a0 a1 m (wrap64 (p2 + (1:Int)))
      else
        some false
      else none
      else none
    else
      κ ()
def slices_Equal_int.f (K : Nat) (a0 : List Int) (a1 : List Int) : Option Bool :=
  if (a0.length : Int) = (a1.length : Int) then
    slices_Equal_int.loop0 K (fun _ =>
      some true) a0 a1 K (0:Int)
  else
    some false

/-- laws.szHeap -/
def laws_szHeap.f (K : Nat) (a0_0 : List Int) (a0_1 : List Int) (a0_2 : List Int) (a1 : Int) : Option Int :=
  b1 (laws_szIntS.f K a0_0 a1) fun v1 =>
  if v1 < (0:Int) then
    some (-1:Int)
  else
    b1 (laws_szIntS.f K a0_1 v1) fun v2 =>
    if v2 < (0:Int) then
      some (-1:Int)
    else
      b1 (laws_szIntS.f K a0_2 v2) fun v3 =>
      if v3 < (0:Int) then
        some (-1:Int)
      else
        some v3

/-- laws.toHeap -/
def laws_toHeap.f (K : Nat) (a0_0 : List Int) (a0_1 : List Int) (a0_2 : List Int) : Option ((List Int) × (List Int) × (List Int)) :=
  b1 (laws_toIntS.f K a0_0) fun v1 =>
  b1 (laws_toIntS.f K a0_1) fun v2 =>
  b1 (laws_toIntS.f K a0_2) fun v3 =>
  some (v1, v2, v3)

/-- laws.eqStore -/
def laws_eqStore.f (K : Nat) (a0_0 : List Int) (a0_1 : List Int) (a0_2 : List Int) (a0_3 : List Int) (a1_0 : List Int) (a1_1 : List Int) (a1_2 : List Int) (a1_3 : List Int) : Option Bool :=
  b1 (laws_eqHeap.f K a0_0 a0_1 a0_2 a1_0 a1_1 a1_2) fun v1 =>
  if v1 = true then
    b1 (laws_eqIntS.f K a0_3 a1_3) fun v2 =>
    if v2 = true then
      some true
    else
      some false
  else
    some false

/-- spec.l1Many -/
def spec_l1Many.loop0 (K : Nat) (κ : (List Int) → Option ((List Int))) (a0 : Int) : Nat → (List Int) → Int → Option ((List Int))
  | 0, _, _ => none
  | m + 1, l2, p2 =>
    if p2 < a0 then
      if l2.length + ([(-1:Int)] : List Int).length ≤ 1099511627776 then
      spec_l1Many.loop0 K κ a0 m (l2 ++ ([(-1:Int)] : List Int)) (wrap64 (p2 + (1:Int)))
      else none
    else
      κ l2
def spec_l1Many.f (K : Nat) (a0 : Int) : Option ((List Int)) :=
  spec_l1Many.loop0 K (fun l3 =>
    some l3) a0 K ([] : List Int) (0:Int)

/-- spec.NewHeap -/
def spec_NewHeap.f (K : Nat) (a0 : Int) (a1 : Int) : Option ((List Int) × (List Int) × (List Int) × Bool) :=
  if a0 < (1:Int) then
    some (([] : List Int), ([] : List Int), ([] : List Int), false)
  else
    if a0 > (8:Int) then
      some (([] : List Int), ([] : List Int), ([] : List Int), false)
    else
      if a1 < (1:Int) then
        some (([] : List Int), ([] : List Int), ([] : List Int), false)
      else
        if a1 > (3:Int) then
          some (([] : List Int), ([] : List Int), ([] : List Int), false)
        else
          b1 (spec_l1Many.f K a0) fun v1 =>
          b1 (spec_l1Many.f K a0) fun v2 =>
          b1 (spec_l1Many.f K a1) fun v3 =>
          some (v1, v2, v3, true)

/-- spec.l13Open -/
def spec_l13Open.f (K : Nat) (a0 : List Int) : Option Unit :=
  if (a0.length : Int) > (2000:Int) then
    if 0 ≤ (2000:Int) ∧ (2000:Int) ≤ (a0.length : Int) then
    some ()
    else none
  else
    some ()

/-- (*spec.l13Rd).pick -/
def spec_l13Rd_pick.f (K : Nat) (a0_0 : List Int) (a0_1 : Int) (a1 : Int) : Option (Int × Int) :=
  if a1 < (1:Int) then
    some ((0:Int), (wrap64 (a0_1 + (1:Int))))
  else
    if (a0_0.length : Int) = (0:Int) then
      some ((0:Int), (wrap64 (a0_1 + (1:Int))))
    else
      if (wrap64 ((wrap64 (a0_1 + (1:Int))) - (1:Int))) < (a0_0.length : Int) then
        if 0 ≤ (wrap64 ((wrap64 (a0_1 + (1:Int))) - (1:Int))) ∧ (wrap64 ((wrap64 (a0_1 + (1:Int))) - (1:Int))) < (a0_0.length : Int) then
        if a1 ≠ 0 then
        some ((Int.tmod (wrap64 (rd a0_0 (wrap64 ((wrap64 (a0_1 + (1:Int))) - (1:Int))))) a1), (wrap64 (a0_1 + (1:Int))))
        else none
        else none
      else
        if (a0_0.length : Int) ≠ 0 then
        if 0 ≤ (Int.tmod (wrap64 ((wrap64 (a0_1 + (1:Int))) - (1:Int))) (a0_0.length : Int)) ∧ (Int.tmod (wrap64 ((wrap64 (a0_1 + (1:Int))) - (1:Int))) (a0_0.length : Int)) < (a0_0.length : Int) then
        if 0 ≤ (Int.tmod (wrap64 ((wrap64 ((wrap64 ((wrap64 (a0_1 + (1:Int))) - (1:Int))) * (7:Int))) + (3:Int))) (a0_0.length : Int)) ∧ (Int.tmod (wrap64 ((wrap64 ((wrap64 ((wrap64 (a0_1 + (1:Int))) - (1:Int))) * (7:Int))) + (3:Int))) (a0_0.length : Int)) < (a0_0.length : Int) then
        if a1 ≠ 0 then
        some ((Int.tmod (xor64 (wrap64 ((wrap64 ((wrap64 ((wrap64 ((wrap64 (rd a0_0 (Int.tmod (wrap64 ((wrap64 (a0_1 + (1:Int))) - (1:Int))) (a0_0.length : Int)))) * (131:Int))) + (wrap64 ((wrap64 (rd a0_0 (Int.tmod (wrap64 ((wrap64 ((wrap64 ((wrap64 (a0_1 + (1:Int))) - (1:Int))) * (7:Int))) + (3:Int))) (a0_0.length : Int)))) * (1117:Int))))) + (wrap64 ((wrap64 ((wrap64 (a0_1 + (1:Int))) - (1:Int))) * (29:Int))))) + (wrap64 ((wrap64 (Int.tdiv (wrap64 ((wrap64 (a0_1 + (1:Int))) - (1:Int))) (a0_0.length : Int))) * (53:Int))))) (wrap64 (Int.tdiv (wrap64 ((wrap64 ((wrap64 ((wrap64 ((wrap64 (rd a0_0 (Int.tmod (wrap64 ((wrap64 (a0_1 + (1:Int))) - (1:Int))) (a0_0.length : Int)))) * (131:Int))) + (wrap64 ((wrap64 (rd a0_0 (Int.tmod (wrap64 ((wrap64 ((wrap64 ((wrap64 (a0_1 + (1:Int))) - (1:Int))) * (7:Int))) + (3:Int))) (a0_0.length : Int)))) * (1117:Int))))) + (wrap64 ((wrap64 ((wrap64 (a0_1 + (1:Int))) - (1:Int))) * (29:Int))))) + (wrap64 ((wrap64 (Int.tdiv (wrap64 ((wrap64 (a0_1 + (1:Int))) - (1:Int))) (a0_0.length : Int))) * (53:Int))))) (64:Int)))) a1), (wrap64 (a0_1 + (1:Int))))
        else none
        else none
        else none
        else none

/-- (*spec.l13Rd).num -/
def spec_l13Rd_num.f (K : Nat) (a0_0 : List Int) (a0_1 : Int) (a1 : List Int) : Option (Int × Int) :=
  b2 (spec_l13Rd_pick.f K a0_0 a0_1 (a1.length : Int)) fun v1 v2 =>
  if 0 ≤ v1 ∧ v1 < (a1.length : Int) then
  some ((rd a1 v1), v2)
  else none

/-- impl.HeapSame -/
def impl_HeapSame.f (K : Nat) (a0_0 : List Int) (a0_1 : List Int) (a0_2 : List Int) (a1_0 : List Int) (a1_1 : List Int) (a1_2 : List Int) : Option Bool :=
  b1 (slices_Equal_int.f K a0_0 a1_0) fun v1 =>
  if v1 = true then
    b1 (slices_Equal_int.f K a0_1 a1_1) fun v2 =>
    if v2 = true then
      b1 (slices_Equal_int.f K a0_2 a1_2) fun v3 =>
      some v3
    else
      some false
  else
    some false

/-- laws.szStore -/
def laws_szStore.f (K : Nat) (a0_0 : List Int) (a0_1 : List Int) (a0_2 : List Int) (a0_3 : List Int) (a1 : Int) : Option Int :=
  b1 (laws_szHeap.f K a0_0 a0_1 a0_2 a1) fun v1 =>
  if v1 < (0:Int) then
    some (-1:Int)
  else
    b1 (laws_szIntS.f K a0_3 v1) fun v2 =>
    if v2 < (0:Int) then
      some (-1:Int)
    else
      some v2

/-- laws.toStore -/
def laws_toStore.f (K : Nat) (a0_0 : List Int) (a0_1 : List Int) (a0_2 : List Int) (a0_3 : List Int) : Option ((List Int) × (List Int) × (List Int) × (List Int)) :=
  b3 (laws_toHeap.f K a0_0 a0_1 a0_2) fun v1 v2 v3 =>
  b1 (laws_toIntS.f K a0_3) fun v4 =>
  some (v1, v2, v3, v4)

/-- spec.l1Copy -/
def spec_l1Copy.f (K : Nat) (a0_0 : List Int) (a0_1 : List Int) (a0_2 : List Int) : Option ((List Int) × (List Int) × (List Int)) :=
  if ([] : List Int).length + a0_0.length ≤ 1099511627776 then
  if ([] : List Int).length + a0_1.length ≤ 1099511627776 then
  if ([] : List Int).length + a0_2.length ≤ 1099511627776 then
  some ((([] : List Int) ++ a0_0), (([] : List Int) ++ a0_1), (([] : List Int) ++ a0_2))
  else none
  else none
  else none

/-- spec.l1Wrong -/
def spec_l1Wrong.f (K : Nat) (a0_0 : List Int) (a0_1 : Int) (a1_0 : List Int) (a1_1 : List Int) (a1_2 : List Int) : Option ((List Int) × (List Int) × (List Int) × Int) :=
  b3 (spec_l1Copy.f K a1_0 a1_1 a1_2) fun v1 v2 v3 =>
  b2 (spec_l13Rd_pick.f K a0_0 a0_1 (20:Int)) fun v4 v5 =>
  if v4 = (0:Int) then
    b2 (spec_l13Rd_pick.f K a0_0 v5 (v1.length : Int)) fun v6 v7 =>
    b2 (spec_l13Rd_num.f K a0_0 v7 ([(-2:Int), (8:Int), (0:Int)] : List Int)) fun v8 v9 =>
    if 0 ≤ v6 ∧ v6 < (v1.length : Int) then
    some ((v1.set v6.toNat v8), v2, v3, v9)
    else none
  else
    if v4 = (1:Int) then
      if v2.length + ([(-1:Int)] : List Int).length ≤ 1099511627776 then
      some (v1, (v2 ++ ([(-1:Int)] : List Int)), v3, v5)
      else none
    else
      if v4 = (2:Int) then
        b2 (spec_l13Rd_num.f K a0_0 v5 ([(0:Int), (-1:Int), (9:Int)] : List Int)) fun v10 v11 =>
        if v3.length + ([v10] : List Int).length ≤ 1099511627776 then
        some (v1, v2, (v3 ++ ([v10] : List Int)), v11)
        else none
      else
        if v4 = (3:Int) then
          some (v1, v2, ([] : List Int), v5)
        else
          some (v1, v2, v3, v5)

/-- spec.l1Ints -/
def spec_l1Ints.loop0 (K : Nat) (κ : Unit → Option Bool) (a0 : List Int) (a1 : List Int) : Nat → Int → Option Bool
  | 0, _ => none
  | m + 1, p2 =>
    if p2 < (a0.length : Int) then
      if 0 ≤ p2 ∧ p2 < (a0.length : Int) then
      if 0 ≤ p2 ∧ p2 < (a1.length : Int) then
      if (rd a0 p2) = (rd a1 p2) then
        spec_l1Ints.loop0 K κ a0 a1 m (wrap64 (p2 + (1:Int)))
      else
        some false
      else none
      else none
    else
      κ ()
def spec_l1Ints.f (K : Nat) (a0 : List Int) (a1 : List Int) : Option Bool :=
  if (a0.length : Int) = (a1.length : Int) then
    spec_l1Ints.loop0 K (fun _ =>
      some true) a0 a1 K (0:Int)
  else
    some false

/-- impl.StoreSame -/
def impl_StoreSame.f (K : Nat) (a0_0 : List Int) (a0_1 : List Int) (a0_2 : List Int) (a0_3 : List Int) (a1_0 : List Int) (a1_1 : List Int) (a1_2 : List Int) (a1_3 : List Int) : Option Bool :=
  b1 (impl_HeapSame.f K a0_0 a0_1 a0_2 a1_0 a1_1 a1_2) fun v1 =>
  if v1 = true then
    b1 (slices_Equal_int.f K a0_3 a1_3) fun v2 =>
    some v2
  else
    some false

/-- spec.l4At -/
def spec_l4At.loop0 (K : Nat) (κ : Unit → Option Int) (a0 : List Int) (a1 : Int) : Nat → Int → Option Int
  | 0, _ => none
  | m + 1, p2 =>
    if p2 < (a0.length : Int) then
      if 0 ≤ p2 ∧ p2 < (a0.length : Int) then
      if (rd a0 p2) = a1 then
        some p2
      else
        spec_l4At.loop0 K κ a0 a1 m (wrap64 (p2 + (1:Int)))
      else none
    else
      κ ()
def spec_l4At.f (K : Nat) (a0 : List Int) (a1 : Int) : Option Int :=
  spec_l4At.loop0 K (fun _ =>
    some (-1:Int)) a0 a1 K (0:Int)

/-- spec.l4Free -/
def spec_l4Free.f (K : Nat) (a0_0 : List Int) (a0_1 : List Int) (a0_2 : List Int) (a1 : Int) : Option Bool :=
  if a1 ≥ (0:Int) then
    if a1 < (a0_0.length : Int) then
      if 0 ≤ a1 ∧ a1 < (a0_0.length : Int) then
      if (rd a0_0 a1) = (-1:Int) then
        if 0 ≤ a1 ∧ a1 < (a0_1.length : Int) then
        if (rd a0_1 a1) = (-1:Int) then
          b1 (spec_l4At.f K a0_0 a1) fun v1 =>
          if v1 < (0:Int) then
            b1 (spec_l4At.f K a0_1 a1) fun v2 =>
            if v2 < (0:Int) then
              b1 (spec_l4At.f K a0_2 a1) fun v3 =>
              some (decide (v3 < (0:Int)))
            else
              some false
          else
            some false
        else
          some false
        else none
      else
        some false
      else none
    else
      some false
  else
    some false

/-- spec.StoreValid -/
def spec_StoreValid.loop0 (K : Nat) (κ : Unit → Option Bool) (a0_0 : List Int) (a0_1 : List Int) (a0_2 : List Int) (a0_3 : List Int) : Nat → Int → Option Bool
  | 0, _ => none
  | m + 1, p2 =>
    if p2 < (a0_3.length : Int) then
      if 0 ≤ p2 ∧ p2 < (a0_3.length : Int) then
      b1 (spec_l4Free.f K a0_0 a0_1 a0_2 (rd a0_3 p2)) fun v8 =>
      if v8 = true then
        if 0 ≤ p2 ∧ p2 ≤ (a0_3.length : Int) then
        b1 (spec_l4At.f K (a0_3.take p2.toNat) (rd a0_3 p2)) fun v9 =>
        if v9 ≥ (0:Int) then
          some false
        else
          spec_StoreValid.loop0 K κ a0_0 a0_1 a0_2 a0_3 m (wrap64 (p2 + (1:Int)))
        else none
      else
        some false
      else none
    else
      κ ()
def spec_StoreValid.f (K : Nat) (a0_0 : List Int) (a0_1 : List Int) (a0_2 : List Int) (a0_3 : List Int) : Option Bool :=
  b1 (spec_HeapValid.f K a0_0 a0_1 a0_2) fun v1 =>
  if v1 = true then
    if (a0_3.length : Int) > (a0_0.length : Int) then
      some false
    else
      spec_StoreValid.loop0 K (fun _ =>
        some true) a0_0 a0_1 a0_2 a0_3 K (0:Int)
  else
    some false

/-- slices.Index[[]int,int] -/
def slices_Index_int.loop0 (K : Nat) (κ : Unit → Option Int) (a0 : List Int) (a1 : Int) : Nat → Int → Option Int
  | 0, _ => none
  | m + 1, p2 =>
    if p2 < (a0.length : Int) then
      if 0 ≤ p2 ∧ p2 < (a0.length : Int) then
      if a1 = (rd a0 p2) then
        some p2
      else
        slices_Index_int.loop0 K κ a0 a1 m (wrap64 (p2 + (1:Int)))
      else none
    else
      κ ()
def slices_Index_int.f (K : Nat) (a0 : List Int) (a1 : Int) : Option Int :=
  slices_Index_int.loop0 K (fun _ =>
    some (-1:Int)) a0 a1 K (0:Int)

/-- slices.Contains[[]int,int] -/
def slices_Contains_int.f (K : Nat) (a0 : List Int) (a1 : Int) : Option Bool :=
  b1 (slices_Index_int.f K a0 a1) fun v1 =>
  some (decide (v1 ≥ (0:Int)))

/-- impl.StoreValid -/
def impl_StoreValid.loop0 (K : Nat) (κ : Unit → Option Bool) (a0_0 : List Int) (a0_1 : List Int) (a0_3 : List Int) (v2 : List Int) : Nat → Int → Option Bool
  | 0, _ => none
  | m + 1, p2 =>
    if p2 < (a0_3.length : Int) then
      if 0 ≤ p2 ∧ p2 < (a0_3.length : Int) then
      if (rd a0_3 p2) < (0:Int) then
        some false
      else
        if (rd a0_3 p2) ≥ (v2.length : Int) then
          some false
        else
          if 0 ≤ (rd a0_3 p2) ∧ (rd a0_3 p2) < (v2.length : Int) then
          if (rd v2 (rd a0_3 p2)) > (0:Int) then
            some false
          else
            if 0 ≤ (rd a0_3 p2) ∧ (rd a0_3 p2) < (a0_0.length : Int) then
            if (rd a0_0 (rd a0_3 p2)) = (-1:Int) then
              if 0 ≤ (rd a0_3 p2) ∧ (rd a0_3 p2) < (a0_1.length : Int) then
              if (rd a0_1 (rd a0_3 p2)) = (-1:Int) then
                if 0 ≤ p2 ∧ p2 ≤ (a0_3.length : Int) then
                b1 (slices_Contains_int.f K (a0_3.take p2.toNat) (rd a0_3 p2)) fun v6 =>
                if v6 = true then
                  some false
                else
                  impl_StoreValid.loop0 K κ a0_0 a0_1 a0_3 v2 m (wrap64 (p2 + (1:Int)))
                else none
              else
                some false
              else none
            else
              some false
            else none
          else none
      else none
    else
      κ ()
def impl_StoreValid.f (K : Nat) (a0_0 : List Int) (a0_1 : List Int) (a0_2 : List Int) (a0_3 : List Int) : Option Bool :=
  b1 (impl_HeapValid.f K a0_0 a0_1 a0_2) fun v1 =>
  if v1 = true then
    b1 (impl_CountsOf.f K a0_0 a0_1 a0_2) fun v2 =>
    impl_StoreValid.loop0 K (fun _ =>
      some true) a0_0 a0_1 a0_3 v2 K (0:Int)
  else
    some false

/-- spec.l1Draw -/
def spec_l1Draw.loop0 (K : Nat) (κ : Int → (List Int) → (List Int) → Option ((List Int) × (List Int) × (List Int) × Int)) (a0_0 : List Int) (v1 : Int) : Nat → Int → Int → (List Int) → (List Int) → Option ((List Int) × (List Int) × (List Int) × Int)
  | 0, _, _, _, _ => none
  | m + 1, p3, p4, l3, l4 =>
    if p3 < v1 then
      b2 (spec_l13Rd_pick.f K a0_0 p4 (wrap64 (v1 + (2:Int)))) fun v21 v22 =>
      if 0 ≤ p3 ∧ p3 < (l3.length : Int) then
      b2 (spec_l13Rd_pick.f K a0_0 v22 (wrap64 (v1 + (2:Int)))) fun v23 v24 =>
      if 0 ≤ p3 ∧ p3 < (l4.length : Int) then
      if 0 ≤ p3 ∧ p3 < ((l3.set p3.toNat (wrap64 (v21 - (1:Int)))).length : Int) then
      if (rd (l3.set p3.toNat (wrap64 (v21 - (1:Int)))) p3) ≥ v1 then
        if 0 ≤ p3 ∧ p3 < ((l4.set p3.toNat (wrap64 (v23 - (2:Int)))).length : Int) then
        if (rd (l4.set p3.toNat (wrap64 (v23 - (2:Int)))) p3) < (-1:Int) then
          spec_l1Draw.loop0 K κ a0_0 v1 m (wrap64 (p3 + (1:Int))) v24 ((l3.set p3.toNat (wrap64 (v21 - (1:Int)))).set p3.toNat (-1:Int)) ((l4.set p3.toNat (wrap64 (v23 - (2:Int)))).set p3.toNat (-1:Int))
        else
          spec_l1Draw.loop0 K κ a0_0 v1 m (wrap64 (p3 + (1:Int))) v24 ((l3.set p3.toNat (wrap64 (v21 - (1:Int)))).set p3.toNat (-1:Int)) (l4.set p3.toNat (wrap64 (v23 - (2:Int))))
        else none
      else
        if 0 ≤ p3 ∧ p3 < ((l4.set p3.toNat (wrap64 (v23 - (2:Int)))).length : Int) then
        if (rd (l4.set p3.toNat (wrap64 (v23 - (2:Int)))) p3) < (-1:Int) then
          spec_l1Draw.loop0 K κ a0_0 v1 m (wrap64 (p3 + (1:Int))) v24 (l3.set p3.toNat (wrap64 (v21 - (1:Int)))) ((l4.set p3.toNat (wrap64 (v23 - (2:Int)))).set p3.toNat (-1:Int))
        else
          spec_l1Draw.loop0 K κ a0_0 v1 m (wrap64 (p3 + (1:Int))) v24 (l3.set p3.toNat (wrap64 (v21 - (1:Int)))) (l4.set p3.toNat (wrap64 (v23 - (2:Int))))
        else none
      else none
      else none
      else none
    else
      κ p4 l3 l4
def spec_l1Draw.loop1 (K : Nat) (κ : Int → (List Int) → Option ((List Int) × (List Int) × (List Int) × Int)) (a0_0 : List Int) (v1 : Int) : Nat → Int → Int → (List Int) → Option ((List Int) × (List Int) × (List Int) × Int)
  | 0, _, _, _ => none
  | m + 1, p8, p9, l8 =>
    if p8 < (l8.length : Int) then
      b2 (spec_l13Rd_pick.f K a0_0 p9 (wrap64 (v1 + (1:Int)))) fun v31 v32 =>
      if 0 ≤ p8 ∧ p8 < (l8.length : Int) then
      spec_l1Draw.loop1 K κ a0_0 v1 m (wrap64 (p8 + (1:Int))) v32 (l8.set p8.toNat (wrap64 (v31 - (1:Int))))
      else none
    else
      κ p9 l8
def spec_l1Draw.f (K : Nat) (a0_0 : List Int) (a0_1 : Int) : Option ((List Int) × (List Int) × (List Int) × Int) :=
  b2 (spec_l13Rd_num.f K a0_0 a0_1 ([(4:Int), (3:Int), (5:Int), (6:Int), (2:Int), (8:Int), (1:Int)] : List Int)) fun v1 v2 =>
  b2 (spec_l13Rd_num.f K a0_0 v2 ([(2:Int), (1:Int), (3:Int)] : List Int)) fun v3 v4 =>
  b4 (spec_NewHeap.f K v1 v3) fun v5 v6 v7 v8 =>
  spec_l1Draw.loop0 K (fun p5 l5 l6 =>
    spec_l1Draw.loop1 K (fun p10 l9 =>
      some (l5, l6, l9, p10)) a0_0 v1 K (0:Int) p5 v7) a0_0 v1 K (0:Int) v4 v5 v6

/-- impl.has -/
def impl_has.f (K : Nat) (a0_0 : List Int) (a0_1 : List Int) (a0_2 : List Int) (a1 : Int) : Option Bool :=
  b1 (impl_HeapValid.f K a0_0 a0_1 a0_2) fun v1 =>
  if v1 = true then
    if a1 ≥ (0:Int) then
      some (decide (a1 < (a0_0.length : Int)))
    else
      some false
  else
    some false

/-- spec.CountsOf -/
def spec_CountsOf.loop0 (K : Nat) (κ : (List Int) → Option ((List Int))) (a0_0 : List Int) (a0_1 : List Int) (a0_2 : List Int) : Nat → Int → (List Int) → Option ((List Int))
  | 0, _, _ => none
  | m + 1, p2, l2 =>
    if p2 < ((((([] : List Int) ++ a0_0) ++ a0_1) ++ a0_2).length : Int) then
      if 0 ≤ p2 ∧ p2 < ((((([] : List Int) ++ a0_0) ++ a0_1) ++ a0_2).length : Int) then
      if (rd (((([] : List Int) ++ a0_0) ++ a0_1) ++ a0_2) p2) = (-1:Int) then
        spec_CountsOf.loop0 K κ a0_0 a0_1 a0_2 m (wrap64 (p2 + (1:Int))) l2
      else
        if 0 ≤ (rd (((([] : List Int) ++ a0_0) ++ a0_1) ++ a0_2) p2) ∧ (rd (((([] : List Int) ++ a0_0) ++ a0_1) ++ a0_2) p2) < (l2.length : Int) then
        spec_CountsOf.loop0 K κ a0_0 a0_1 a0_2 m (wrap64 (p2 + (1:Int))) (l2.set (rd (((([] : List Int) ++ a0_0) ++ a0_1) ++ a0_2) p2).toNat (wrap64 ((rd l2 (rd (((([] : List Int) ++ a0_0) ++ a0_1) ++ a0_2) p2)) + (1:Int))))
        else none
      else none
    else
      κ l2
def spec_CountsOf.f (K : Nat) (a0_0 : List Int) (a0_1 : List Int) (a0_2 : List Int) : Option ((List Int)) :=
  b1 (spec_HeapValid.f K a0_0 a0_1 a0_2) fun v1 =>
  if v1 = true then
    if 0 ≤ (a0_0.length : Int) ∧ (a0_0.length : Int) ≤ 1099511627776 then
    if ([] : List Int).length + a0_0.length ≤ 1099511627776 then
    if (([] : List Int) ++ a0_0).length + a0_1.length ≤ 1099511627776 then
    if ((([] : List Int) ++ a0_0) ++ a0_1).length + a0_2.length ≤ 1099511627776 then
    spec_CountsOf.loop0 K (fun l3 =>
      some l3) a0_0 a0_1 a0_2 K (0:Int) (List.replicate (a0_0.length : Int).toNat (0:Int))
    else none
    else none
    else none
    else none
  else
    some ([] : List Int)

/-- slices.Clone[[]int,int] -/
def slices_Clone_int.f (K : Nat) (a0 : List Int) : Option ((List Int)) :=
  if ([] : List Int).length + a0.length ≤ 1099511627776 then
  some (([] : List Int) ++ a0)
  else none

/-- impl.copied -/
def impl_copied.f (K : Nat) (a0_0 : List Int) (a0_1 : List Int) (a0_2 : List Int) : Option ((List Int) × (List Int) × (List Int)) :=
  b1 (slices_Clone_int.f K a0_0) fun v1 =>
  b1 (slices_Clone_int.f K a0_1) fun v2 =>
  b1 (slices_Clone_int.f K a0_2) fun v3 =>
  some (v1, v2, v3)

/-- spec.HeapSame -/
def spec_HeapSame.f (K : Nat) (a0_0 : List Int) (a0_1 : List Int) (a0_2 : List Int) (a1_0 : List Int) (a1_1 : List Int) (a1_2 : List Int) : Option Bool :=
  b1 (spec_l1Ints.f K a0_0 a1_0) fun v1 =>
  if v1 = true then
    b1 (spec_l1Ints.f K a0_1 a1_1) fun v2 =>
    if v2 = true then
      b1 (spec_l1Ints.f K a0_2 a1_2) fun v3 =>
      some v3
    else
      some false
  else
    some false

/-- spec.StoreSame -/
def spec_StoreSame.f (K : Nat) (a0_0 : List Int) (a0_1 : List Int) (a0_2 : List Int) (a0_3 : List Int) (a1_0 : List Int) (a1_1 : List Int) (a1_2 : List Int) (a1_3 : List Int) : Option Bool :=
  b1 (spec_HeapSame.f K a0_0 a0_1 a0_2 a1_0 a1_1 a1_2) fun v1 =>
  if v1 = true then
    b1 (spec_l1Ints.f K a0_3 a1_3) fun v2 =>
    some v2
  else
    some false

/-- laws.markIntS -/
def laws_markIntS.loop0 (K : Nat) (κ : Int → (List Int) → Option (Int × (List Int))) : Nat → Int → Int → (List Int) → Option (Int × (List Int))
  | 0, _, _, _ => none
  | m + 1, p3, p4, l2 =>
    if p4 < (l2.length : Int) then
      if 0 ≤ p4 ∧ p4 < (l2.length : Int) then
      laws_markIntS.loop0 K κ  m (wrap64 (p3 + (1:Int))) (wrap64 (p4 + (1:Int))) (l2.set p4.toNat p3)
      else none
    else
      κ p3 l2
def laws_markIntS.f (K : Nat) (a0 : List Int) (a1 : Int) : Option (Int × (List Int)) :=
  laws_markIntS.loop0 K (fun p5 l3 =>
    some (p5, l3)) K a1 (0:Int) a0

/-- laws.markHeap -/
def laws_markHeap.f (K : Nat) (a0_0 : List Int) (a0_1 : List Int) (a0_2 : List Int) (a1 : Int) : Option (Int × (List Int) × (List Int) × (List Int)) :=
  b2 (laws_markIntS.f K a0_0 a1) fun v1 v2 =>
  b2 (laws_markIntS.f K a0_1 v1) fun v3 v4 =>
  b2 (laws_markIntS.f K a0_2 v3) fun v5 v6 =>
  some (v5, v2, v4, v6)

/-- laws.heldIntS -/
def laws_heldIntS.loop0 (K : Nat) (κ : Int → Option Int) (a0 : List Int) : Nat → Int → Int → Option Int
  | 0, _, _ => none
  | m + 1, p3, p4 =>
    if p4 < (a0.length : Int) then
      if 0 ≤ p4 ∧ p4 < (a0.length : Int) then
      if (rd a0 p4) = p3 then
        laws_heldIntS.loop0 K κ a0 m (wrap64 (p3 + (1:Int))) (wrap64 (p4 + (1:Int)))
      else
        some (-1:Int)
      else none
    else
      κ p3
def laws_heldIntS.f (K : Nat) (a0 : List Int) (a1 : Int) : Option Int :=
  laws_heldIntS.loop0 K (fun p5 =>
    some p5) a0 K a1 (0:Int)

/-- spec.NewStore -/
def spec_NewStore.loop0 (K : Nat) (κ : (List Int) → Option ((List Int) × (List Int) × (List Int) × (List Int) × Bool)) (a0 : Int) : Nat → Int → (List Int) → Option ((List Int) × (List Int) × (List Int) × (List Int) × Bool)
  | 0, _, _ => none
  | m + 1, p2, l2 =>
    if p2 < a0 then
      if l2.length + ([p2] : List Int).length ≤ 1099511627776 then
      spec_NewStore.loop0 K κ a0 m (wrap64 (p2 + (1:Int))) (l2 ++ ([p2] : List Int))
      else none
    else
      κ l2
def spec_NewStore.f (K : Nat) (a0 : Int) (a1 : Int) : Option ((List Int) × (List Int) × (List Int) × (List Int) × Bool) :=
  b4 (spec_NewHeap.f K a0 a1) fun v1 v2 v3 v4 =>
  if v4 = true then
    spec_NewStore.loop0 K (fun l3 =>
      some (v1, v2, v3, l3, true)) a0 K (0:Int) ([] : List Int)
  else
    some (([] : List Int), ([] : List Int), ([] : List Int), ([] : List Int), false)

/-- spec.l5Word -/
def spec_l5Word.f (K : Nat) (a0 : Int) : Option ByteArray :=
  if a0 < (1:Int) then
    some (⟨#[]⟩ : ByteArray)
  else
    if a0 > (7:Int) then
      some (⟨#[]⟩ : ByteArray)
    else
      if 0 ≤ a0 ∧ a0 < (([(⟨#[]⟩ : ByteArray), (⟨#[110, 101, 119]⟩ : ByteArray), (⟨#[99, 111, 112, 121]⟩ : ByteArray), (⟨#[108, 101, 102, 116]⟩ : ByteArray), (⟨#[114, 105, 103, 104, 116]⟩ : ByteArray), (⟨#[112, 117, 116, 108, 101, 102, 116]⟩ : ByteArray), (⟨#[112, 117, 116, 114, 105, 103, 104, 116]⟩ : ByteArray), (⟨#[99, 108, 101, 97, 114]⟩ : ByteArray)] : List ByteArray).length : Int) then
      some (rds ([(⟨#[]⟩ : ByteArray), (⟨#[110, 101, 119]⟩ : ByteArray), (⟨#[99, 111, 112, 121]⟩ : ByteArray), (⟨#[108, 101, 102, 116]⟩ : ByteArray), (⟨#[114, 105, 103, 104, 116]⟩ : ByteArray), (⟨#[112, 117, 116, 108, 101, 102, 116]⟩ : ByteArray), (⟨#[112, 117, 116, 114, 105, 103, 104, 116]⟩ : ByteArray), (⟨#[99, 108, 101, 97, 114]⟩ : ByteArray)] : List ByteArray) a0)
      else none

/-- spec.l5One -/
def spec_l5One.f (K : Nat) (a0 : Int) : Option Bool :=
  if a0 = (1:Int) then
    some true
  else
    some (a0 == (7:Int))

/-- spec.OpValid -/
def spec_OpValid.f (K : Nat) (a0_0 : Int) (a0_1 : Int) (a0_2 : Int) (a1 : Int) : Option Bool :=
  b1 (spec_l5Word.f K a0_0) fun v1 =>
  if v1.toList = (⟨#[]⟩ : ByteArray).toList then
    some false
  else
    if a0_1 < (0:Int) then
      some false
    else
      if a0_1 ≥ a1 then
        some false
      else
        if a0_1 ≥ (3:Int) then
          some false
        else
          if a0_2 < (0:Int) then
            some false
          else
            if a0_2 ≥ (3:Int) then
              some false
            else
              b1 (spec_l5One.f K a0_0) fun v2 =>
              if v2 = true then
                some (a0_2 == (0:Int))
              else
                some (decide (a0_2 < a1))

/-- impl.OpValid -/
def impl_OpValid.f (K : Nat) (a0_0 : Int) (a0_1 : Int) (a0_2 : Int) (a1 : Int) : Option Bool :=
  if a0_0 < (1:Int) then
    some false
  else
    if a0_0 > (7:Int) then
      some false
    else
      if a0_1 < (0:Int) then
        some false
      else
        if a0_1 ≥ (3:Int) then
          some false
        else
          if a0_1 ≥ a1 then
            some false
          else
            if a0_2 < (0:Int) then
              some false
            else
              if a0_2 ≥ (3:Int) then
                some false
              else
                if a0_0 = (1:Int) then
                  some (a0_2 == (0:Int))
                else
                  if a0_0 = (7:Int) then
                    some (a0_2 == (0:Int))
                  else
                    some (decide (a0_2 < a1))

/-- spec.DrawHeapValid -/
def spec_DrawHeapValid.f (K : Nat) (a0 : List Int) : Option ((List Int) × (List Int) × (List Int)) :=
  b1 (spec_l13Open.f K a0) fun _ =>
  b4 (spec_l1Draw.f K (a0.take 2000) (0:Int)) fun v1 v2 v3 v4 =>
  b4 (spec_l1Wrong.f K (a0.take 2000) v4 v1 v2 v3) fun v5 v6 v7 v8 =>
  some (v5, v6, v7)

/-- spec.DrawCountsOf -/
def spec_DrawCountsOf.f (K : Nat) (a0 : List Int) : Option ((List Int) × (List Int) × (List Int)) :=
  b3 (spec_DrawHeapValid.f K a0) fun v1 v2 v3 =>
  some (v1, v2, v3)

/-- laws.ccInts -/
def laws_ccInts.loop0 (K : Nat) (κ : Unit → Option Bool) (a0 : List Int) (a1 : List Int) : Nat → Int → Option Bool
  | 0, _ => none
  | m + 1, p2 =>
    if p2 < (a0.length : Int) then
      if 0 ≤ p2 ∧ p2 < (a0.length : Int) then
      if 0 ≤ p2 ∧ p2 < (a1.length : Int) then
      if (rd a0 p2) = (rd a1 p2) then
        laws_ccInts.loop0 K κ a0 a1 m (wrap64 (p2 + (1:Int)))
      else
        some false
      else none
      else none
    else
      κ ()
def laws_ccInts.f (K : Nat) (a0 : List Int) (a1 : List Int) : Option Bool :=
  if (a0.length : Int) = (a1.length : Int) then
    laws_ccInts.loop0 K (fun _ =>
      some true) a0 a1 K (0:Int)
  else
    some false

/-- impl.SourcesOf -/
def impl_SourcesOf.loop0 (K : Nat) (κ : (List Int) → Option ((List Int))) (a0_0 : List Int) (a0_1 : List Int) (a1 : Int) : Nat → (List Int) → Int → Option ((List Int))
  | 0, _, _ => none
  | m + 1, l2, p2 =>
    if p2 < (a0_0.length : Int) then
      if 0 ≤ p2 ∧ p2 < (a0_0.length : Int) then
      if (rd a0_0 p2) = a1 then
        if l2.length + ([p2] : List Int).length ≤ 1099511627776 then
        impl_SourcesOf.loop0 K κ a0_0 a0_1 a1 m (l2 ++ ([p2] : List Int)) (wrap64 (p2 + (1:Int)))
        else none
      else
        if 0 ≤ p2 ∧ p2 < (a0_1.length : Int) then
        if (rd a0_1 p2) = a1 then
          if l2.length + ([p2] : List Int).length ≤ 1099511627776 then
          impl_SourcesOf.loop0 K κ a0_0 a0_1 a1 m (l2 ++ ([p2] : List Int)) (wrap64 (p2 + (1:Int)))
          else none
        else
          impl_SourcesOf.loop0 K κ a0_0 a0_1 a1 m l2 (wrap64 (p2 + (1:Int)))
        else none
      else none
    else
      κ l2
def impl_SourcesOf.f (K : Nat) (a0_0 : List Int) (a0_1 : List Int) (a0_2 : List Int) (a1 : Int) : Option ((List Int)) :=
  b1 (impl_has.f K a0_0 a0_1 a0_2 a1) fun v1 =>
  if v1 = true then
    impl_SourcesOf.loop0 K (fun l3 =>
      some l3) a0_0 a0_1 a1 K ([] : List Int) (0:Int)
  else
    some ([] : List Int)

/-- impl.CountPointers -/
def impl_CountPointers.loop0 (K : Nat) (κ : Int → Option Int) (v2 : List Int) : Nat → Int → Int → Option Int
  | 0, _, _ => none
  | m + 1, p3, p4 =>
    if p4 < (v2.length : Int) then
      if 0 ≤ p4 ∧ p4 < (v2.length : Int) then
      if (rd v2 p4) = (-1:Int) then
        impl_CountPointers.loop0 K κ v2 m p3 (wrap64 (p4 + (1:Int)))
      else
        impl_CountPointers.loop0 K κ v2 m (wrap64 (p3 + (1:Int))) (wrap64 (p4 + (1:Int)))
      else none
    else
      κ p3
def impl_CountPointers.f (K : Nat) (a0_0 : List Int) (a0_1 : List Int) (a0_2 : List Int) : Option Int :=
  b1 (impl_HeapValid.f K a0_0 a0_1 a0_2) fun v1 =>
  if v1 = true then
    b1 (slices_Concat_int.f K a0_0 a0_1 a0_2) fun v2 =>
    impl_CountPointers.loop0 K (fun p5 =>
      some p5) v2 K (0:Int) (0:Int)
  else
    some (0:Int)

/-- laws.FnCountsOf -/
def laws_FnCountsOf.loop0 (K : Nat) (κ : Int → Option Bool) (v1 : List Int) (v2 : List Int) (v3 : List Int) (v4 : List Int) : Nat → Int → Int → Option Bool
  | 0, _, _ => none
  | m + 1, p3, p4 =>
    if p4 < (v4.length : Int) then
      if 0 ≤ p4 ∧ p4 < (v4.length : Int) then
      b1 (impl_SourcesOf.f K v1 v2 v3 p4) fun v11 =>
      if (rd v4 p4) < (v11.length : Int) then
        some false
      else
        laws_FnCountsOf.loop0 K κ v1 v2 v3 v4 m (wrap64 (p3 + (rd v4 p4))) (wrap64 (p4 + (1:Int)))
      else none
    else
      κ p3
def laws_FnCountsOf.f (K : Nat) (a0 : List Int) : Option Bool :=
  if (a0.length : Int) > (1048576:Int) then
    some true
  else
    b3 (spec_DrawCountsOf.f K a0) fun v1 v2 v3 =>
    b1 (impl_CountsOf.f K v1 v2 v3) fun v4 =>
    b1 (spec_CountsOf.f K v1 v2 v3) fun v5 =>
    b1 (laws_ccInts.f K v4 v5) fun v6 =>
    if v6 = true then
      b1 (impl_HeapValid.f K v1 v2 v3) fun v7 =>
      if v7 = true then
        laws_FnCountsOf.loop0 K (fun p5 =>
          b1 (impl_CountPointers.f K v1 v2 v3) fun v12 =>
          if p5 = v12 then
            some ((v4.length : Int) == (v1.length : Int))
          else
            some false) v1 v2 v3 v4 K (0:Int) (0:Int)
      else
        b1 (spec_CountsOf.f K v1 v2 v3) fun v13 =>
        b1 (laws_ccInts.f K v4 v13) fun v14 =>
        if v14 = true then
          some ((v4.length : Int) == (0:Int))
        else
          some false
    else
      b1 (spec_CountsOf.f K v1 v2 v3) fun v15 =>
      b1 (laws_ccInts.f K v4 v15) fun v16 =>
      if v16 = true then
        some ((v4.length : Int) == (0:Int))
      else
        some false

/-- spec.l1Case -/
def spec_l1Case.f (K : Nat) (a0 : List Int) : Option ((List Int) × (List Int) × (List Int) × Int × Int) :=
  b1 (spec_l13Open.f K a0) fun _ =>
  b4 (spec_l1Draw.f K (a0.take 2000) (0:Int)) fun v1 v2 v3 v4 =>
  b4 (spec_l1Wrong.f K (a0.take 2000) v4 v1 v2 v3) fun v5 v6 v7 v8 =>
  b2 (spec_l13Rd_num.f K (a0.take 2000) v8 ([(0:Int), (1:Int), (2:Int), (3:Int), (0:Int), (8:Int), (-1:Int)] : List Int)) fun v9 v10 =>
  b2 (spec_l13Rd_num.f K (a0.take 2000) v10 ([(1:Int), (0:Int), (2:Int), (-1:Int), (3:Int), (8:Int), (-2:Int)] : List Int)) fun v11 v12 =>
  some (v5, v6, v7, v9, v11)

/-- spec.DrawPutRight -/
def spec_DrawPutRight.f (K : Nat) (a0 : List Int) : Option ((List Int) × (List Int) × (List Int) × Int × Int) :=
  b5 (spec_l1Case.f K a0) fun v1 v2 v3 v4 v5 =>
  some (v1, v2, v3, v4, v5)

/-- impl.pointer -/
def impl_pointer.f (K : Nat) (a0_0 : List Int) (a1 : Int) : Option Bool :=
  if a1 ≥ (-1:Int) then
    some (decide (a1 < (a0_0.length : Int)))
  else
    some false

/-- impl.PutRight -/
def impl_PutRight.f (K : Nat) (a0_0 : List Int) (a0_1 : List Int) (a0_2 : List Int) (a1 : Int) (a2 : Int) : Option ((List Int) × (List Int) × (List Int) × Bool) :=
  b1 (impl_has.f K a0_0 a0_1 a0_2 a1) fun v1 =>
  if v1 = true then
    b1 (impl_pointer.f K a0_0 a2) fun v2 =>
    if v2 = true then
      b3 (impl_copied.f K a0_0 a0_1 a0_2) fun v3 v4 v5 =>
      if 0 ≤ a1 ∧ a1 < (v4.length : Int) then
      some (v3, (v4.set a1.toNat a2), v5, true)
      else none
    else
      some (([] : List Int), ([] : List Int), ([] : List Int), false)
  else
    some (([] : List Int), ([] : List Int), ([] : List Int), false)

/-- spec.l1Cell -/
def spec_l1Cell.f (K : Nat) (a0_0 : List Int) (a0_1 : List Int) (a0_2 : List Int) (a1 : Int) : Option Bool :=
  b1 (spec_HeapValid.f K a0_0 a0_1 a0_2) fun v1 =>
  if v1 = true then
    if a1 ≥ (0:Int) then
      some (decide (a1 < (a0_0.length : Int)))
    else
      some false
  else
    some false

/-- spec.PutRight -/
def spec_PutRight.f (K : Nat) (a0_0 : List Int) (a0_1 : List Int) (a0_2 : List Int) (a1 : Int) (a2 : Int) : Option ((List Int) × (List Int) × (List Int) × Bool) :=
  b1 (spec_l1Cell.f K a0_0 a0_1 a0_2 a1) fun v1 =>
  if v1 = true then
    b1 (spec_l1Points.f K a2 (a0_0.length : Int)) fun v2 =>
    if v2 = true then
      b3 (spec_l1Copy.f K a0_0 a0_1 a0_2) fun v3 v4 v5 =>
      if 0 ≤ a1 ∧ a1 < (v4.length : Int) then
      some (v3, (v4.set a1.toNat a2), v5, true)
      else none
    else
      some (([] : List Int), ([] : List Int), ([] : List Int), false)
  else
    some (([] : List Int), ([] : List Int), ([] : List Int), false)

/-- laws.FnCountsPut -/
def laws_FnCountsPut.loop0 (K : Nat) (κ : Int → Option Bool) (v15 : List Int) (v16 : List Int) : Nat → Int → Int → Option Bool
  | 0, _, _ => none
  | m + 1, p3, p4 =>
    if p4 < (v15.length : Int) then
      if 0 ≤ p4 ∧ p4 < (v16.length : Int) then
      if 0 ≤ p4 ∧ p4 < (v15.length : Int) then
      if (wrap64 ((rd v16 p4) - (rd v15 p4))) < (-1:Int) then
        some false
      else
        if (wrap64 ((rd v16 p4) - (rd v15 p4))) > (1:Int) then
          some false
        else
          if (wrap64 ((rd v16 p4) - (rd v15 p4))) = (0:Int) then
            laws_FnCountsPut.loop0 K κ v15 v16 m p3 (wrap64 (p4 + (1:Int)))
          else
            laws_FnCountsPut.loop0 K κ v15 v16 m (wrap64 (p3 + (1:Int))) (wrap64 (p4 + (1:Int)))
      else none
      else none
    else
      κ p3
def laws_FnCountsPut.f (K : Nat) (a0 : List Int) : Option Bool :=
  if (a0.length : Int) > (1048576:Int) then
    some true
  else
    b5 (spec_DrawPutRight.f K a0) fun v1 v2 v3 v4 v5 =>
    b4 (impl_PutRight.f K v1 v2 v3 v4 v5) fun v6 v7 v8 v9 =>
    b4 (spec_PutRight.f K v1 v2 v3 v4 v5) fun v10 v11 v12 v13 =>
    b1 (impl_HeapSame.f K v6 v7 v8 v10 v11 v12) fun v14 =>
    if v14 = true then
      if v9 = v13 then
        if v9 = true then
          b1 (impl_CountsOf.f K v1 v2 v3) fun v15 =>
          b1 (impl_CountsOf.f K v6 v7 v8) fun v16 =>
          laws_FnCountsPut.loop0 K (fun p5 =>
            some (decide (p5 ≤ (2:Int)))) v15 v16 K (0:Int) (0:Int)
        else
          b1 (impl_HeapSame.f K v6 v7 v8 v10 v11 v12) fun v17 =>
          if v17 = true then
            some (v9 == v13)
          else
            some false
      else
        b1 (impl_HeapSame.f K v6 v7 v8 v10 v11 v12) fun v18 =>
        if v18 = true then
          some (v9 == v13)
        else
          some false
    else
      b1 (impl_HeapSame.f K v6 v7 v8 v10 v11 v12) fun v19 =>
      if v19 = true then
        some (v9 == v13)
      else
        some false

/-- laws.szCounted -/
def laws_szCounted.f (K : Nat) (a0_0 : List Int) (a0_1 : List Int) (a0_2 : List Int) (a0_3 : List Int) (a0_4 : List Int) (a1 : Int) : Option Int :=
  b1 (laws_szStore.f K a0_0 a0_1 a0_2 a0_3 a1) fun v1 =>
  if v1 < (0:Int) then
    some (-1:Int)
  else
    b1 (laws_szIntS.f K a0_4 v1) fun v2 =>
    if v2 < (0:Int) then
      some (-1:Int)
    else
      some v2

/-- laws.toCounted -/
def laws_toCounted.f (K : Nat) (a0_0 : List Int) (a0_1 : List Int) (a0_2 : List Int) (a0_3 : List Int) (a0_4 : List Int) : Option ((List Int) × (List Int) × (List Int) × (List Int) × (List Int)) :=
  b4 (laws_toStore.f K a0_0 a0_1 a0_2 a0_3) fun v1 v2 v3 v4 =>
  b1 (laws_toIntS.f K a0_4) fun v5 =>
  some (v1, v2, v3, v4, v5)

/-- spec.CountedSame -/
def spec_CountedSame.f (K : Nat) (a0_0 : List Int) (a0_1 : List Int) (a0_2 : List Int) (a0_3 : List Int) (a0_4 : List Int) (a1_0 : List Int) (a1_1 : List Int) (a1_2 : List Int) (a1_3 : List Int) (a1_4 : List Int) : Option Bool :=
  b1 (spec_StoreSame.f K a0_0 a0_1 a0_2 a0_3 a1_0 a1_1 a1_2 a1_3) fun v1 =>
  if v1 = true then
    b1 (spec_l1Ints.f K a0_4 a1_4) fun v2 =>
    some v2
  else
    some false

/-- impl.CountedSame -/
def impl_CountedSame.f (K : Nat) (a0_0 : List Int) (a0_1 : List Int) (a0_2 : List Int) (a0_3 : List Int) (a0_4 : List Int) (a1_0 : List Int) (a1_1 : List Int) (a1_2 : List Int) (a1_3 : List Int) (a1_4 : List Int) : Option Bool :=
  b1 (impl_StoreSame.f K a0_0 a0_1 a0_2 a0_3 a1_0 a1_1 a1_2 a1_3) fun v1 =>
  if v1 = true then
    b1 (slices_Equal_int.f K a0_4 a1_4) fun v2 =>
    some v2
  else
    some false

/-- laws.eqCounted -/
def laws_eqCounted.f (K : Nat) (a0_0 : List Int) (a0_1 : List Int) (a0_2 : List Int) (a0_3 : List Int) (a0_4 : List Int) (a1_0 : List Int) (a1_1 : List Int) (a1_2 : List Int) (a1_3 : List Int) (a1_4 : List Int) : Option Bool :=
  b1 (laws_eqStore.f K a0_0 a0_1 a0_2 a0_3 a1_0 a1_1 a1_2 a1_3) fun v1 =>
  if v1 = true then
    b1 (laws_eqIntS.f K a0_4 a1_4) fun v2 =>
    if v2 = true then
      some true
    else
      some false
  else
    some false

/-- laws.FnExactCountedSame -/
def laws_FnExactCountedSame.f (K : Nat) (a0_0 : List Int) (a0_1 : List Int) (a0_2 : List Int) (a0_3 : List Int) (a0_4 : List Int) (a1_0 : List Int) (a1_1 : List Int) (a1_2 : List Int) (a1_3 : List Int) (a1_4 : List Int) : Option Bool :=
  b1 (laws_szCounted.f K a0_0 a0_1 a0_2 a0_3 a0_4 (1048576:Int)) fun v1 =>
  if v1 < (0:Int) then
    some true
  else
    b1 (laws_szCounted.f K a1_0 a1_1 a1_2 a1_3 a1_4 v1) fun v2 =>
    if v2 < (0:Int) then
      some true
    else
      b5 (laws_toCounted.f K a0_0 a0_1 a0_2 a0_3 a0_4) fun v3 v4 v5 v6 v7 =>
      b5 (laws_toCounted.f K a1_0 a1_1 a1_2 a1_3 a1_4) fun v8 v9 v10 v11 v12 =>
      b1 (spec_CountedSame.f K v3 v4 v5 v6 v7 v8 v9 v10 v11 v12) fun v13 =>
      b5 (laws_toCounted.f K a0_0 a0_1 a0_2 a0_3 a0_4) fun v14 v15 v16 v17 v18 =>
      b5 (laws_toCounted.f K a1_0 a1_1 a1_2 a1_3 a1_4) fun v19 v20 v21 v22 v23 =>
      b1 (impl_CountedSame.f K v14 v15 v16 v17 v18 v19 v20 v21 v22 v23) fun v24 =>
      if v24 = v13 then
        b5 (laws_toCounted.f K a0_0 a0_1 a0_2 a0_3 a0_4) fun v25 v26 v27 v28 v29 =>
        b1 (laws_eqCounted.f K v14 v15 v16 v17 v18 v25 v26 v27 v28 v29) fun v30 =>
        if v30 = true then
          b5 (laws_toCounted.f K a1_0 a1_1 a1_2 a1_3 a1_4) fun v31 v32 v33 v34 v35 =>
          b1 (laws_eqCounted.f K v19 v20 v21 v22 v23 v31 v32 v33 v34 v35) fun v36 =>
          if v36 = true then
            some true
          else
            some false
        else
          some false
      else
        some false

/-- laws.FnExactCountsOf -/
def laws_FnExactCountsOf.f (K : Nat) (a0_0 : List Int) (a0_1 : List Int) (a0_2 : List Int) : Option Bool :=
  b1 (laws_szHeap.f K a0_0 a0_1 a0_2 (1048576:Int)) fun v1 =>
  if v1 < (0:Int) then
    some true
  else
    b3 (laws_toHeap.f K a0_0 a0_1 a0_2) fun v2 v3 v4 =>
    b1 (spec_CountsOf.f K v2 v3 v4) fun v5 =>
    b3 (laws_toHeap.f K a0_0 a0_1 a0_2) fun v6 v7 v8 =>
    b1 (impl_CountsOf.f K v6 v7 v8) fun v9 =>
    b1 (laws_eqIntS.f K v9 v5) fun v10 =>
    if v10 = true then
      b3 (laws_toHeap.f K a0_0 a0_1 a0_2) fun v11 v12 v13 =>
      b1 (laws_eqHeap.f K v6 v7 v8 v11 v12 v13) fun v14 =>
      if v14 = true then
        b4 (laws_markHeap.f K v6 v7 v8 (1:Int)) fun v15 v16 v17 v18 =>
        if v15 < (0:Int) then
          some false
        else
          b1 (laws_eqIntS.f K v9 v5) fun v19 =>
          if v19 = true then
            b2 (laws_markIntS.f K v9 (1:Int)) fun v20 v21 =>
            b1 (laws_heldIntS.f K v21 (1:Int)) fun v22 =>
            if v22 < (0:Int) then
              some false
            else
              if v22 = v20 then
                b3 (laws_toHeap.f K a0_0 a0_1 a0_2) fun v23 v24 v25 =>
                b1 (impl_CountsOf.f K v23 v24 v25) fun v26 =>
                b1 (laws_eqIntS.f K v26 v5) fun v27 =>
                if v27 = true then
                  b1 (laws_heldIntS.f K v21 (1:Int)) fun v28 =>
                  if v28 < (0:Int) then
                    some false
                  else
                    if v28 = v20 then
                      some true
                    else
                      some false
                else
                  some false
              else
                some false
          else
            some false
      else
        some false
    else
      some false

/-- laws.szGc -/
def laws_szGc.f (K : Nat) (a0_0 : Int) (a0_1 : List Int) (a0_2 : Int) (a1 : Int) : Option Int :=
  b1 (laws_szIntS.f K a0_1 a1) fun v1 =>
  if v1 < (0:Int) then
    some (-1:Int)
  else
    some v1

/-- laws.toGc -/
def laws_toGc.f (K : Nat) (a0_0 : Int) (a0_1 : List Int) (a0_2 : Int) : Option (Int × (List Int) × Int) :=
  b1 (laws_toIntS.f K a0_1) fun v1 =>
  some (a0_0, v1, a0_2)

/-- spec.GcSame -/
def spec_GcSame.f (K : Nat) (a0_0 : Int) (a0_1 : List Int) (a0_2 : Int) (a1_0 : Int) (a1_1 : List Int) (a1_2 : Int) : Option Bool :=
  if a0_0 = a1_0 then
    if a0_2 = a1_2 then
      b1 (spec_l1Ints.f K a0_1 a1_1) fun v1 =>
      some v1
    else
      some false
  else
    some false

/-- impl.GcSame -/
def impl_GcSame.f (K : Nat) (a0_0 : Int) (a0_1 : List Int) (a0_2 : Int) (a1_0 : Int) (a1_1 : List Int) (a1_2 : Int) : Option Bool :=
  if a0_0 = a1_0 then
    if a0_2 = a1_2 then
      b1 (slices_Equal_int.f K a0_1 a1_1) fun v1 =>
      some v1
    else
      some false
  else
    some false

/-- laws.eqGc -/
def laws_eqGc.f (K : Nat) (a0_0 : Int) (a0_1 : List Int) (a0_2 : Int) (a1_0 : Int) (a1_1 : List Int) (a1_2 : Int) : Option Bool :=
  if a0_0 = a1_0 then
    b1 (laws_eqIntS.f K a0_1 a1_1) fun v1 =>
    if v1 = true then
      if a0_2 = a1_2 then
        some true
      else
        some false
    else
      some false
  else
    some false

/-- laws.FnExactGcSame -/
def laws_FnExactGcSame.f (K : Nat) (a0_0 : Int) (a0_1 : List Int) (a0_2 : Int) (a1_0 : Int) (a1_1 : List Int) (a1_2 : Int) : Option Bool :=
  b1 (laws_szGc.f K a0_0 a0_1 a0_2 (1048576:Int)) fun v1 =>
  if v1 < (0:Int) then
    some true
  else
    b1 (laws_szGc.f K a1_0 a1_1 a1_2 v1) fun v2 =>
    if v2 < (0:Int) then
      some true
    else
      b3 (laws_toGc.f K a0_0 a0_1 a0_2) fun v3 v4 v5 =>
      b3 (laws_toGc.f K a1_0 a1_1 a1_2) fun v6 v7 v8 =>
      b1 (spec_GcSame.f K v3 v4 v5 v6 v7 v8) fun v9 =>
      b3 (laws_toGc.f K a0_0 a0_1 a0_2) fun v10 v11 v12 =>
      b3 (laws_toGc.f K a1_0 a1_1 a1_2) fun v13 v14 v15 =>
      b1 (impl_GcSame.f K v10 v11 v12 v13 v14 v15) fun v16 =>
      if v16 = v9 then
        b3 (laws_toGc.f K a0_0 a0_1 a0_2) fun v17 v18 v19 =>
        b1 (laws_eqGc.f K v10 v11 v12 v17 v18 v19) fun v20 =>
        if v20 = true then
          b3 (laws_toGc.f K a1_0 a1_1 a1_2) fun v21 v22 v23 =>
          b1 (laws_eqGc.f K v13 v14 v15 v21 v22 v23) fun v24 =>
          if v24 = true then
            some true
          else
            some false
        else
          some false
      else
        some false

/-- spec.IsFree -/
def spec_IsFree.f (K : Nat) (a0_0 : List Int) (a0_1 : List Int) (a0_2 : List Int) (a0_3 : List Int) (a1 : Int) : Option Bool :=
  b1 (spec_StoreValid.f K a0_0 a0_1 a0_2 a0_3) fun v1 =>
  if v1 = true then
    b1 (spec_l4At.f K a0_3 a1) fun v2 =>
    some (decide (v2 ≥ (0:Int)))
  else
    some false

/-- impl.IsFree -/
def impl_IsFree.f (K : Nat) (a0_0 : List Int) (a0_1 : List Int) (a0_2 : List Int) (a0_3 : List Int) (a1 : Int) : Option Bool :=
  b1 (impl_StoreValid.f K a0_0 a0_1 a0_2 a0_3) fun v1 =>
  if v1 = true then
    b1 (slices_Contains_int.f K a0_3 a1) fun v2 =>
    some v2
  else
    some false

/-- laws.FnExactIsFree -/
def laws_FnExactIsFree.f (K : Nat) (a0_0 : List Int) (a0_1 : List Int) (a0_2 : List Int) (a0_3 : List Int) (a1 : Int) : Option Bool :=
  b1 (laws_szStore.f K a0_0 a0_1 a0_2 a0_3 (1048576:Int)) fun v1 =>
  if v1 < (0:Int) then
    some true
  else
    b4 (laws_toStore.f K a0_0 a0_1 a0_2 a0_3) fun v2 v3 v4 v5 =>
    b1 (spec_IsFree.f K v2 v3 v4 v5 a1) fun v6 =>
    b4 (laws_toStore.f K a0_0 a0_1 a0_2 a0_3) fun v7 v8 v9 v10 =>
    b1 (impl_IsFree.f K v7 v8 v9 v10 a1) fun v11 =>
    if v11 = v6 then
      b4 (laws_toStore.f K a0_0 a0_1 a0_2 a0_3) fun v12 v13 v14 v15 =>
      b1 (laws_eqStore.f K v7 v8 v9 v10 v12 v13 v14 v15) fun v16 =>
      if v16 = true then
        some true
      else
        some false
    else
      some false

/-- math/bits.Mul64 -/
def math_bits_Mul64.f (K : Nat) (a0 : Int) (a1 : Int) : Option (Int × Int) :=
  some ((wu ((wu ((wu ((shru a0 (32:Int)) * (shru a1 (32:Int)))) + (shru (wu ((wu ((shru a0 (32:Int)) * (andu a1 (4294967295:Int)))) + (shru (wu ((andu a0 (4294967295:Int)) * (andu a1 (4294967295:Int)))) (32:Int)))) (32:Int)))) + (shru (wu ((andu (wu ((wu ((shru a0 (32:Int)) * (andu a1 (4294967295:Int)))) + (shru (wu ((andu a0 (4294967295:Int)) * (andu a1 (4294967295:Int)))) (32:Int)))) (4294967295:Int)) + (wu ((andu a0 (4294967295:Int)) * (shru a1 (32:Int)))))) (32:Int)))), (wu (a0 * a1)))

/-- math/bits.Mul -/
def math_bits_Mul.f (K : Nat) (a0 : Int) (a1 : Int) : Option (Int × Int) :=
  b2 (math_bits_Mul64.f K a0 a1) fun v1 v2 =>
  some (v1, v2)

/-- slices.Repeat[[]int,int] -/
def slices_Repeat_int.loop0 (K : Nat) (κ : (List Int) → Option ((List Int))) : Nat → Int → (List Int) → Option ((List Int))
  | 0, _, _ => none
  | m + 1, p2, l2 =>
    if p2 < (l2.length : Int) then
      if 0 ≤ p2 ∧ p2 ≤ (l2.length : Int) then
      slices_Repeat_int.loop0 K κ  m (wrap64 (p2 + (((min (l2.take p2.toNat).length (l2.drop p2.toNat).length) : Nat) : Int))) (cpy l2 p2.toNat ((l2.take p2.toNat).take (min (l2.take p2.toNat).length (l2.drop p2.toNat).length)))
      else none
    else
      κ l2
def slices_Repeat_int.f (K : Nat) (a0 : List Int) (a1 : Int) : Option ((List Int)) :=
  if a1 < (0:Int) then
    none
  else
    b2 (math_bits_Mul.f K (wu (a0.length : Int)) (wu a1)) fun v1 v2 =>
    if v1 > (0:Int) then
      none
    else
      if v2 > (9223372036854775807:Int) then
        none
      else
        if 0 ≤ (wrap64 v2) ∧ (wrap64 v2) ≤ 1099511627776 then
        slices_Repeat_int.loop0 K (fun l3 =>
          some l3) K (((min a0.length (List.replicate (wrap64 v2).toNat (0:Int)).length) : Nat) : Int) (cpy (List.replicate (wrap64 v2).toNat (0:Int)) 0 (a0.take (min a0.length (List.replicate (wrap64 v2).toNat (0:Int)).length)))
        else none

/-- impl.NewHeap -/
def impl_NewHeap.f (K : Nat) (a0 : Int) (a1 : Int) : Option ((List Int) × (List Int) × (List Int) × Bool) :=
  if a0 < (1:Int) then
    some (([] : List Int), ([] : List Int), ([] : List Int), false)
  else
    if a0 > (8:Int) then
      some (([] : List Int), ([] : List Int), ([] : List Int), false)
    else
      if a1 < (1:Int) then
        some (([] : List Int), ([] : List Int), ([] : List Int), false)
      else
        if a1 > (3:Int) then
          some (([] : List Int), ([] : List Int), ([] : List Int), false)
        else
          b1 (slices_Repeat_int.f K ([(-1:Int)] : List Int) a0) fun v1 =>
          b1 (slices_Repeat_int.f K ([(-1:Int)] : List Int) a0) fun v2 =>
          b1 (slices_Repeat_int.f K ([(-1:Int)] : List Int) a1) fun v3 =>
          some (v1, v2, v3, true)

/-- impl.NewStore -/
def impl_NewStore.loop0 (K : Nat) (κ : (List Int) → Option ((List Int) × (List Int) × (List Int) × (List Int) × Bool)) (a0 : Int) : Nat → Int → (List Int) → Option ((List Int) × (List Int) × (List Int) × (List Int) × Bool)
  | 0, _, _ => none
  | m + 1, p2, l2 =>
    if p2 < a0 then
      if l2.length + ([p2] : List Int).length ≤ 1099511627776 then
      impl_NewStore.loop0 K κ a0 m (wrap64 (p2 + (1:Int))) (l2 ++ ([p2] : List Int))
      else none
    else
      κ l2
def impl_NewStore.f (K : Nat) (a0 : Int) (a1 : Int) : Option ((List Int) × (List Int) × (List Int) × (List Int) × Bool) :=
  b4 (impl_NewHeap.f K a0 a1) fun v1 v2 v3 v4 =>
  if v4 = true then
    impl_NewStore.loop0 K (fun l3 =>
      some (v1, v2, v3, l3, true)) a0 K (0:Int) ([] : List Int)
  else
    some (([] : List Int), ([] : List Int), ([] : List Int), ([] : List Int), false)

/-- laws.markStore -/
def laws_markStore.f (K : Nat) (a0_0 : List Int) (a0_1 : List Int) (a0_2 : List Int) (a0_3 : List Int) (a1 : Int) : Option (Int × (List Int) × (List Int) × (List Int) × (List Int)) :=
  b4 (laws_markHeap.f K a0_0 a0_1 a0_2 a1) fun v1 v2 v3 v4 =>
  b2 (laws_markIntS.f K a0_3 v1) fun v5 v6 =>
  some (v5, v2, v3, v4, v6)

/-- laws.heldHeap -/
def laws_heldHeap.f (K : Nat) (a0_0 : List Int) (a0_1 : List Int) (a0_2 : List Int) (a1 : Int) : Option Int :=
  b1 (laws_heldIntS.f K a0_0 a1) fun v1 =>
  if v1 < (0:Int) then
    some (-1:Int)
  else
    b1 (laws_heldIntS.f K a0_1 v1) fun v2 =>
    if v2 < (0:Int) then
      some (-1:Int)
    else
      b1 (laws_heldIntS.f K a0_2 v2) fun v3 =>
      if v3 < (0:Int) then
        some (-1:Int)
      else
        some v3

/-- laws.heldStore -/
def laws_heldStore.f (K : Nat) (a0_0 : List Int) (a0_1 : List Int) (a0_2 : List Int) (a0_3 : List Int) (a1 : Int) : Option Int :=
  b1 (laws_heldHeap.f K a0_0 a0_1 a0_2 a1) fun v1 =>
  if v1 < (0:Int) then
    some (-1:Int)
  else
    b1 (laws_heldIntS.f K a0_3 v1) fun v2 =>
    if v2 < (0:Int) then
      some (-1:Int)
    else
      some v2

/-- laws.FnExactNewStore -/
def laws_FnExactNewStore.f (K : Nat) (a0 : Int) (a1 : Int) : Option Bool :=
  b5 (spec_NewStore.f K a0 a1) fun v1 v2 v3 v4 v5 =>
  b5 (impl_NewStore.f K a0 a1) fun v6 v7 v8 v9 v10 =>
  b1 (laws_eqStore.f K v6 v7 v8 v9 v1 v2 v3 v4) fun v11 =>
  if v11 = true then
    if v10 = v5 then
      b5 (laws_markStore.f K v6 v7 v8 v9 (1:Int)) fun v12 v13 v14 v15 v16 =>
      b1 (laws_heldStore.f K v13 v14 v15 v16 (1:Int)) fun v17 =>
      if v17 < (0:Int) then
        some false
      else
        if v17 = v12 then
          b5 (impl_NewStore.f K a0 a1) fun v18 v19 v20 v21 v22 =>
          b1 (laws_eqStore.f K v18 v19 v20 v21 v1 v2 v3 v4) fun v23 =>
          if v23 = true then
            if v22 = v5 then
              b1 (laws_heldStore.f K v13 v14 v15 v16 (1:Int)) fun v24 =>
              if v24 < (0:Int) then
                some false
              else
                if v24 = v12 then
                  some true
                else
                  some false
            else
              some false
          else
            some false
        else
          some false
    else
      some false
  else
    some false

/-- laws.toOp -/
def laws_toOp.f (K : Nat) (a0_0 : Int) (a0_1 : Int) (a0_2 : Int) : Option (Int × Int × Int) :=
  some (a0_0, a0_1, a0_2)

/-- laws.FnExactOpValid -/
def laws_FnExactOpValid.f (K : Nat) (a0_0 : Int) (a0_1 : Int) (a0_2 : Int) (a1 : Int) : Option Bool :=
  b3 (laws_toOp.f K a0_0 a0_1 a0_2) fun v1 v2 v3 =>
  b1 (spec_OpValid.f K v1 v2 v3 a1) fun v4 =>
  b3 (laws_toOp.f K a0_0 a0_1 a0_2) fun v5 v6 v7 =>
  b1 (impl_OpValid.f K v5 v6 v7 a1) fun v8 =>
  if v8 = v4 then
    some true
  else
    some false

/-- laws.FnExactStoreSame -/
def laws_FnExactStoreSame.f (K : Nat) (a0_0 : List Int) (a0_1 : List Int) (a0_2 : List Int) (a0_3 : List Int) (a1_0 : List Int) (a1_1 : List Int) (a1_2 : List Int) (a1_3 : List Int) : Option Bool :=
  b1 (laws_szStore.f K a0_0 a0_1 a0_2 a0_3 (1048576:Int)) fun v1 =>
  if v1 < (0:Int) then
    some true
  else
    b1 (laws_szStore.f K a1_0 a1_1 a1_2 a1_3 v1) fun v2 =>
    if v2 < (0:Int) then
      some true
    else
      b4 (laws_toStore.f K a0_0 a0_1 a0_2 a0_3) fun v3 v4 v5 v6 =>
      b4 (laws_toStore.f K a1_0 a1_1 a1_2 a1_3) fun v7 v8 v9 v10 =>
      b1 (spec_StoreSame.f K v3 v4 v5 v6 v7 v8 v9 v10) fun v11 =>
      b4 (laws_toStore.f K a0_0 a0_1 a0_2 a0_3) fun v12 v13 v14 v15 =>
      b4 (laws_toStore.f K a1_0 a1_1 a1_2 a1_3) fun v16 v17 v18 v19 =>
      b1 (impl_StoreSame.f K v12 v13 v14 v15 v16 v17 v18 v19) fun v20 =>
      if v20 = v11 then
        b4 (laws_toStore.f K a0_0 a0_1 a0_2 a0_3) fun v21 v22 v23 v24 =>
        b1 (laws_eqStore.f K v12 v13 v14 v15 v21 v22 v23 v24) fun v25 =>
        if v25 = true then
          b4 (laws_toStore.f K a1_0 a1_1 a1_2 a1_3) fun v26 v27 v28 v29 =>
          b1 (laws_eqStore.f K v16 v17 v18 v19 v26 v27 v28 v29) fun v30 =>
          if v30 = true then
            some true
          else
            some false
        else
          some false
      else
        some false

/-- laws.FnExactStoreValid -/
def laws_FnExactStoreValid.f (K : Nat) (a0_0 : List Int) (a0_1 : List Int) (a0_2 : List Int) (a0_3 : List Int) : Option Bool :=
  b1 (laws_szStore.f K a0_0 a0_1 a0_2 a0_3 (1048576:Int)) fun v1 =>
  if v1 < (0:Int) then
    some true
  else
    b4 (laws_toStore.f K a0_0 a0_1 a0_2 a0_3) fun v2 v3 v4 v5 =>
    b1 (spec_StoreValid.f K v2 v3 v4 v5) fun v6 =>
    b4 (laws_toStore.f K a0_0 a0_1 a0_2 a0_3) fun v7 v8 v9 v10 =>
    b1 (impl_StoreValid.f K v7 v8 v9 v10) fun v11 =>
    if v11 = v6 then
      b4 (laws_toStore.f K a0_0 a0_1 a0_2 a0_3) fun v12 v13 v14 v15 =>
      b1 (laws_eqStore.f K v7 v8 v9 v10 v12 v13 v14 v15) fun v16 =>
      if v16 = true then
        some true
      else
        some false
    else
      some false

/-- spec.l4Copy -/
def spec_l4Copy.f (K : Nat) (a0_0 : List Int) (a0_1 : List Int) (a0_2 : List Int) (a0_3 : List Int) : Option ((List Int) × (List Int) × (List Int) × (List Int)) :=
  b3 (spec_l1Copy.f K a0_0 a0_1 a0_2) fun v1 v2 v3 =>
  if ([] : List Int).length + a0_3.length ≤ 1099511627776 then
  some (v1, v2, v3, (([] : List Int) ++ a0_3))
  else none

/-- spec.AllocCell -/
def spec_AllocCell.f (K : Nat) (a0_0 : List Int) (a0_1 : List Int) (a0_2 : List Int) (a0_3 : List Int) (a1 : Int) : Option ((List Int) × (List Int) × (List Int) × (List Int) × Int × Bool) :=
  b1 (spec_StoreValid.f K a0_0 a0_1 a0_2 a0_3) fun v1 =>
  if v1 = true then
    if a1 < (0:Int) then
      some (([] : List Int), ([] : List Int), ([] : List Int), ([] : List Int), (0:Int), false)
    else
      if a1 ≥ (a0_2.length : Int) then
        some (([] : List Int), ([] : List Int), ([] : List Int), ([] : List Int), (0:Int), false)
      else
        if (a0_3.length : Int) = (0:Int) then
          some (([] : List Int), ([] : List Int), ([] : List Int), ([] : List Int), (0:Int), false)
        else
          b4 (spec_l4Copy.f K a0_0 a0_1 a0_2 a0_3) fun v2 v3 v4 v5 =>
          if 0 ≤ (0:Int) ∧ (0:Int) < (a0_3.length : Int) then
          if 0 ≤ (1:Int) ∧ (1:Int) ≤ (a0_3.length : Int) then
          if ([] : List Int).length + (a0_3.drop (1:Int).toNat).length ≤ 1099511627776 then
          if 0 ≤ a1 ∧ a1 < (v4.length : Int) then
          some (v2, v3, (v4.set a1.toNat (rd a0_3 (0:Int))), (([] : List Int) ++ (a0_3.drop (1:Int).toNat)), (rd a0_3 (0:Int)), true)
          else none
          else none
          else none
          else none
  else
    some (([] : List Int), ([] : List Int), ([] : List Int), ([] : List Int), (0:Int), false)

/-- spec.l4Draw -/
def spec_l4Draw.loop0 (K : Nat) (κ : (List Int) → (List Int) → (List Int) → (List Int) → Int → Option ((List Int) × (List Int) × (List Int) × (List Int) × Int)) (a0_0 : List Int) : Nat → Int → Int → (List Int) → (List Int) → (List Int) → (List Int) → Option ((List Int) × (List Int) × (List Int) × (List Int) × Int)
  | 0, _, _, _, _, _, _ => none
  | m + 1, p3, p4, l5, l6, l7, l8 =>
    if p3 > (0:Int) then
      b2 (spec_l13Rd_pick.f K a0_0 p4 (l7.length : Int)) fun v66 v67 =>
      b2 (spec_l13Rd_pick.f K a0_0 v67 (l7.length : Int)) fun v68 v69 =>
      if 0 ≤ v66 ∧ v66 < (l7.length : Int) then
      if 0 ≤ v68 ∧ v68 < (l7.length : Int) then
      b2 (spec_l13Rd_pick.f K a0_0 v69 (5:Int)) fun v70 v71 =>
      if v70 = (0:Int) then
        b6 (spec_AllocCell.f K l5 l6 l7 l8 v66) fun v72 v73 v74 v75 v76 v77 =>
        if v77 = true then
          spec_l4Draw.loop0 K κ a0_0 m (wrap64 (p3 - (1:Int))) v71 v72 v73 v74 v75
        else
          spec_l4Draw.loop0 K κ a0_0 m (wrap64 (p3 - (1:Int))) v71 l5 l6 l7 l8
      else
        if v70 = (1:Int) then
          b6 (spec_AllocCell.f K l5 l6 l7 l8 v66) fun v78 v79 v80 v81 v82 v83 =>
          if v83 = true then
            spec_l4Draw.loop0 K κ a0_0 m (wrap64 (p3 - (1:Int))) v71 v78 v79 v80 v81
          else
            spec_l4Draw.loop0 K κ a0_0 m (wrap64 (p3 - (1:Int))) v71 l5 l6 l7 l8
        else
          if v70 = (2:Int) then
            if (rd l7 v66) = (-1:Int) then
              spec_l4Draw.loop0 K κ a0_0 m (wrap64 (p3 - (1:Int))) v71 l5 l6 l7 l8
            else
              if 0 ≤ (rd l7 v66) ∧ (rd l7 v66) < (l5.length : Int) then
              spec_l4Draw.loop0 K κ a0_0 m (wrap64 (p3 - (1:Int))) v71 (l5.set (rd l7 v66).toNat (rd l7 v68)) l6 l7 l8
              else none
          else
            if v70 = (3:Int) then
              if (rd l7 v66) = (-1:Int) then
                spec_l4Draw.loop0 K κ a0_0 m (wrap64 (p3 - (1:Int))) v71 l5 l6 l7 l8
              else
                if 0 ≤ (rd l7 v66) ∧ (rd l7 v66) < (l6.length : Int) then
                spec_l4Draw.loop0 K κ a0_0 m (wrap64 (p3 - (1:Int))) v71 l5 (l6.set (rd l7 v66).toNat (rd l7 v68)) l7 l8
                else none
            else
              if (rd l7 v68) = (-1:Int) then
                spec_l4Draw.loop0 K κ a0_0 m (wrap64 (p3 - (1:Int))) v71 l5 l6 l7 l8
              else
                if 0 ≤ (rd l7 v68) ∧ (rd l7 v68) < (l5.length : Int) then
                spec_l4Draw.loop0 K κ a0_0 m (wrap64 (p3 - (1:Int))) v71 l5 l6 (l7.set v66.toNat (rd l5 (rd l7 v68))) l8
                else none
      else none
      else none
    else
      κ l5 l6 l7 l8 p4
def spec_l4Draw.f (K : Nat) (a0_0 : List Int) (a0_1 : Int) : Option ((List Int) × (List Int) × (List Int) × (List Int) × Int) :=
  b2 (spec_l13Rd_num.f K a0_0 a0_1 ([(4:Int), (3:Int), (5:Int), (6:Int), (2:Int), (8:Int)] : List Int)) fun v1 v2 =>
  b2 (spec_l13Rd_num.f K a0_0 v2 ([(2:Int), (1:Int), (3:Int)] : List Int)) fun v3 v4 =>
  b5 (spec_NewStore.f K v1 v3) fun v5 v6 v7 v8 v9 =>
  b2 (spec_l13Rd_num.f K a0_0 v4 ([(5:Int), (3:Int), (8:Int), (2:Int), (0:Int), (12:Int)] : List Int)) fun v10 v11 =>
  spec_l4Draw.loop0 K (fun l9 l10 l11 l12 p5 =>
    some (l9, l10, l11, l12, p5)) a0_0 K v10 v11 v5 v6 v7 v8

/-- spec.l4Wrong -/
def spec_l4Wrong.f (K : Nat) (a0_0 : List Int) (a0_1 : Int) (a1_0 : List Int) (a1_1 : List Int) (a1_2 : List Int) (a1_3 : List Int) : Option ((List Int) × (List Int) × (List Int) × (List Int) × Int) :=
  b4 (spec_l4Copy.f K a1_0 a1_1 a1_2 a1_3) fun v1 v2 v3 v4 =>
  b2 (spec_l13Rd_pick.f K a0_0 a0_1 (20:Int)) fun v5 v6 =>
  if v5 = (0:Int) then
    b2 (spec_l13Rd_num.f K a0_0 v6 ([(0:Int), (1:Int), (8:Int), (-1:Int)] : List Int)) fun v7 v8 =>
    if v4.length + ([v7] : List Int).length ≤ 1099511627776 then
    some (v1, v2, v3, (v4 ++ ([v7] : List Int)), v8)
    else none
  else
    if v5 = (1:Int) then
      b4 (spec_l1Wrong.f K a0_0 v6 v1 v2 v3) fun v9 v10 v11 v12 =>
      b4 (spec_l1Wrong.f K a0_0 v12 v9 v10 v11) fun v13 v14 v15 v16 =>
      some (v13, v14, v15, v4, v16)
    else
      some (v1, v2, v3, v4, v6)

/-- spec.l2Distances -/
def spec_l2Distances.loop0 (K : Nat) (κ : (List Int) → (List Int) → Option ((List Int))) (a1 : List Int) : Nat → (List Int) → Int → (List Int) → Option ((List Int))
  | 0, _, _, _ => none
  | m + 1, l3, p2, l4 =>
    if p2 < (a1.length : Int) then
      if 0 ≤ p2 ∧ p2 < (a1.length : Int) then
      if (rd a1 p2) = (-1:Int) then
        spec_l2Distances.loop0 K κ a1 m l3 (wrap64 (p2 + (1:Int))) l4
      else
        if 0 ≤ (rd a1 p2) ∧ (rd a1 p2) < (l4.length : Int) then
        if (rd l4 (rd a1 p2)) < (0:Int) then
          if l3.length + ([(rd a1 p2)] : List Int).length ≤ 1099511627776 then
          spec_l2Distances.loop0 K κ a1 m (l3 ++ ([(rd a1 p2)] : List Int)) (wrap64 (p2 + (1:Int))) (l4.set (rd a1 p2).toNat (1:Int))
          else none
        else
          spec_l2Distances.loop0 K κ a1 m l3 (wrap64 (p2 + (1:Int))) l4
        else none
      else none
    else
      κ l3 l4
def spec_l2Distances.loop2 (K : Nat) (κ : (List Int) → (List Int) → Option ((List Int))) (a0_0 : List Int) (a0_1 : List Int) (l21 : List Int) (p8 : Int) : Nat → (List Int) → Int → (List Int) → Option ((List Int))
  | 0, _, _, _ => none
  | m + 1, l32, p12, l33 =>
    if p12 < (2:Int) then
      if 0 ≤ p12 ∧ p12 < (([(rd a0_0 (rd l21 p8)), (rd a0_1 (rd l21 p8))] : List Int).length : Int) then
      if (rd ([(rd a0_0 (rd l21 p8)), (rd a0_1 (rd l21 p8))] : List Int) p12) = (-1:Int) then
        spec_l2Distances.loop2 K κ a0_0 a0_1 l21 p8 m l32 (wrap64 (p12 + (1:Int))) l33
      else
        if 0 ≤ (rd ([(rd a0_0 (rd l21 p8)), (rd a0_1 (rd l21 p8))] : List Int) p12) ∧ (rd ([(rd a0_0 (rd l21 p8)), (rd a0_1 (rd l21 p8))] : List Int) p12) < (l33.length : Int) then
        if (rd l33 (rd ([(rd a0_0 (rd l21 p8)), (rd a0_1 (rd l21 p8))] : List Int) p12)) < (0:Int) then
          if 0 ≤ (rd l21 p8) ∧ (rd l21 p8) < (l33.length : Int) then
          if l32.length + ([(rd ([(rd a0_0 (rd l21 p8)), (rd a0_1 (rd l21 p8))] : List Int) p12)] : List Int).length ≤ 1099511627776 then
          spec_l2Distances.loop2 K κ a0_0 a0_1 l21 p8 m (l32 ++ ([(rd ([(rd a0_0 (rd l21 p8)), (rd a0_1 (rd l21 p8))] : List Int) p12)] : List Int)) (wrap64 (p12 + (1:Int))) (l33.set (rd ([(rd a0_0 (rd l21 p8)), (rd a0_1 (rd l21 p8))] : List Int) p12).toNat (wrap64 ((rd l33 (rd l21 p8)) + (1:Int))))
          else none
          else none
        else
          spec_l2Distances.loop2 K κ a0_0 a0_1 l21 p8 m l32 (wrap64 (p12 + (1:Int))) l33
        else none
      else none
    else
      κ l32 l33
def spec_l2Distances.loop1 (K : Nat) (κ : (List Int) → Option ((List Int))) (a0_0 : List Int) (a0_1 : List Int) : Nat → (List Int) → Int → (List Int) → Option ((List Int))
  | 0, _, _, _ => none
  | m + 1, l21, p8, l22 =>
    if p8 < (l21.length : Int) then
      if 0 ≤ p8 ∧ p8 < (l21.length : Int) then
      if 0 ≤ (rd l21 p8) ∧ (rd l21 p8) < (a0_0.length : Int) then
      if 0 ≤ (rd l21 p8) ∧ (rd l21 p8) < (a0_1.length : Int) then
      spec_l2Distances.loop2 K (fun l34 l35 =>
        spec_l2Distances.loop1 K κ a0_0 a0_1 m l34 (wrap64 (p8 + (1:Int))) l35) a0_0 a0_1 l21 p8 K l21 (0:Int) l22
      else none
      else none
      else none
    else
      κ l22
def spec_l2Distances.f (K : Nat) (a0_0 : List Int) (a0_1 : List Int) (a1 : List Int) : Option ((List Int)) :=
  b1 (spec_l1Many.f K (a0_0.length : Int)) fun v1 =>
  spec_l2Distances.loop0 K (fun l5 l6 =>
    spec_l2Distances.loop1 K (fun l29 =>
      some l29) a0_0 a0_1 K l5 (0:Int) l6) a1 K ([] : List Int) (0:Int) v1

/-- spec.Reachable -/
def spec_Reachable.loop0 (K : Nat) (κ : (List Bool) → Option ((List Bool))) (v2 : List Int) : Nat → (List Bool) → Int → Option ((List Bool))
  | 0, _, _ => none
  | m + 1, l2, p2 =>
    if p2 < (v2.length : Int) then
      if 0 ≤ p2 ∧ p2 < (v2.length : Int) then
      if l2.length + ([(decide ((rd v2 p2) > (0:Int)))] : List Bool).length ≤ 1099511627776 then
      spec_Reachable.loop0 K κ v2 m (l2 ++ ([(decide ((rd v2 p2) > (0:Int)))] : List Bool)) (wrap64 (p2 + (1:Int)))
      else none
      else none
    else
      κ l2
def spec_Reachable.f (K : Nat) (a0_0 : List Int) (a0_1 : List Int) (a0_2 : List Int) : Option ((List Bool)) :=
  b1 (spec_HeapValid.f K a0_0 a0_1 a0_2) fun v1 =>
  if v1 = true then
    b1 (spec_l2Distances.f K a0_0 a0_1 a0_2) fun v2 =>
    spec_Reachable.loop0 K (fun l3 =>
      some l3) v2 K ([] : List Bool) (0:Int)
  else
    some ([] : List Bool)

/-- spec.GarbageOf -/
def spec_GarbageOf.loop0 (K : Nat) (κ : (List Int) → Option ((List Int))) (v1 : List Bool) : Nat → (List Int) → Int → Option ((List Int))
  | 0, _, _ => none
  | m + 1, l2, p2 =>
    if p2 < (v1.length : Int) then
      if 0 ≤ p2 ∧ p2 < (v1.length : Int) then
      if (rdb v1 p2) = true then
        spec_GarbageOf.loop0 K κ v1 m l2 (wrap64 (p2 + (1:Int)))
      else
        if l2.length + ([p2] : List Int).length ≤ 1099511627776 then
        spec_GarbageOf.loop0 K κ v1 m (l2 ++ ([p2] : List Int)) (wrap64 (p2 + (1:Int)))
        else none
      else none
    else
      κ l2
def spec_GarbageOf.f (K : Nat) (a0_0 : List Int) (a0_1 : List Int) (a0_2 : List Int) : Option ((List Int)) :=
  b1 (spec_Reachable.f K a0_0 a0_1 a0_2) fun v1 =>
  spec_GarbageOf.loop0 K (fun l3 =>
    some l3) v1 K ([] : List Int) (0:Int)

/-- spec.LeakedOf -/
def spec_LeakedOf.loop0 (K : Nat) (κ : (List Int) → Option ((List Int))) (a0_3 : List Int) (v2 : List Int) : Nat → (List Int) → Int → Option ((List Int))
  | 0, _, _ => none
  | m + 1, l2, p2 =>
    if p2 < (v2.length : Int) then
      if 0 ≤ p2 ∧ p2 < (v2.length : Int) then
      b1 (spec_l4At.f K a0_3 (rd v2 p2)) fun v6 =>
      if v6 < (0:Int) then
        if l2.length + ([(rd v2 p2)] : List Int).length ≤ 1099511627776 then
        spec_LeakedOf.loop0 K κ a0_3 v2 m (l2 ++ ([(rd v2 p2)] : List Int)) (wrap64 (p2 + (1:Int)))
        else none
      else
        spec_LeakedOf.loop0 K κ a0_3 v2 m l2 (wrap64 (p2 + (1:Int)))
      else none
    else
      κ l2
def spec_LeakedOf.f (K : Nat) (a0_0 : List Int) (a0_1 : List Int) (a0_2 : List Int) (a0_3 : List Int) : Option ((List Int)) :=
  b1 (spec_StoreValid.f K a0_0 a0_1 a0_2 a0_3) fun v1 =>
  if v1 = true then
    b1 (spec_GarbageOf.f K a0_0 a0_1 a0_2) fun v2 =>
    spec_LeakedOf.loop0 K (fun l3 =>
      some l3) a0_3 v2 K ([] : List Int) (0:Int)
  else
    some ([] : List Int)

/-- spec.l4Case -/
def spec_l4Case.f (K : Nat) (a0 : List Int) : Option ((List Int) × (List Int) × (List Int) × (List Int) × Int) :=
  b1 (spec_l13Open.f K a0) fun _ =>
  b5 (spec_l4Draw.f K (a0.take 2000) (0:Int)) fun v1 v2 v3 v4 v5 =>
  b5 (spec_l4Wrong.f K (a0.take 2000) v5 v1 v2 v3 v4) fun v6 v7 v8 v9 v10 =>
  b2 (spec_l13Rd_num.f K (a0.take 2000) v10 ([(0:Int), (1:Int), (2:Int), (3:Int), (8:Int), (-1:Int)] : List Int)) fun v11 v12 =>
  b1 (spec_LeakedOf.f K v6 v7 v8 v9) fun v13 =>
  if (v13.length : Int) > (0:Int) then
    b2 (spec_l13Rd_pick.f K (a0.take 2000) v12 (2:Int)) fun v14 v15 =>
    if v14 = (0:Int) then
      b2 (spec_l13Rd_pick.f K (a0.take 2000) v15 (v13.length : Int)) fun v16 v17 =>
      if 0 ≤ v16 ∧ v16 < (v13.length : Int) then
      some (v6, v7, v8, v9, (rd v13 v16))
      else none
    else
      some (v6, v7, v8, v9, v11)
  else
    some (v6, v7, v8, v9, v11)

/-- spec.DrawFreeCell -/
def spec_DrawFreeCell.f (K : Nat) (a0 : List Int) : Option ((List Int) × (List Int) × (List Int) × (List Int) × Int) :=
  b5 (spec_l4Case.f K a0) fun v1 v2 v3 v4 v5 =>
  some (v1, v2, v3, v4, v5)

/-- impl.distances$1 -/
def impl_distances_1.f (K : Nat) (a0 : Int) (a1 : Int) (a2_0 : List Int) (a3_0 : List Int) : Option ((List Int) × (List Int)) :=
  if a0 = (-1:Int) then
    some (a2_0, a3_0)
  else
    if 0 ≤ a0 ∧ a0 < (a2_0.length : Int) then
    if (rd a2_0 a0) = (0:Int) then
      if a3_0.length + ([a0] : List Int).length ≤ 1099511627776 then
      some ((a2_0.set a0.toNat a1), (a3_0 ++ ([a0] : List Int)))
      else none
    else
      some (a2_0, a3_0)
    else none

/-- impl.distances -/
def impl_distances.loop0 (K : Nat) (κ : (List Int) → (List Int) → Option ((List Int))) (a0_2 : List Int) : Nat → Int → (List Int) → (List Int) → Option ((List Int))
  | 0, _, _, _ => none
  | m + 1, p2, l3, l4 =>
    if p2 < (a0_2.length : Int) then
      if 0 ≤ p2 ∧ p2 < (a0_2.length : Int) then
      b2 (impl_distances_1.f K (rd a0_2 p2) (1:Int) l4 l3) fun v7 v8 =>
      impl_distances.loop0 K κ a0_2 m (wrap64 (p2 + (1:Int))) v8 v7
      else none
    else
      κ l3 l4
def impl_distances.loop1 (K : Nat) (κ : (List Int) → Option ((List Int))) (a0_0 : List Int) (a0_1 : List Int) : Nat → Int → (List Int) → (List Int) → Option ((List Int))
  | 0, _, _, _ => none
  | m + 1, p4, l9, l10 =>
    if p4 < (l9.length : Int) then
      if 0 ≤ p4 ∧ p4 < (l9.length : Int) then
      if 0 ≤ (rd l9 p4) ∧ (rd l9 p4) < (a0_0.length : Int) then
      if 0 ≤ (rd l9 p4) ∧ (rd l9 p4) < (l10.length : Int) then
      b2 (impl_distances_1.f K (rd a0_0 (rd l9 p4)) (wrap64 ((rd l10 (rd l9 p4)) + (1:Int))) l10 l9) fun v21 v22 =>
      if 0 ≤ p4 ∧ p4 < (v22.length : Int) then
      if 0 ≤ (rd v22 p4) ∧ (rd v22 p4) < (a0_1.length : Int) then
      if 0 ≤ (rd v22 p4) ∧ (rd v22 p4) < (v21.length : Int) then
      b2 (impl_distances_1.f K (rd a0_1 (rd v22 p4)) (wrap64 ((rd v21 (rd v22 p4)) + (1:Int))) v21 v22) fun v23 v24 =>
      impl_distances.loop1 K κ a0_0 a0_1 m (wrap64 (p4 + (1:Int))) v24 v23
      else none
      else none
      else none
      else none
      else none
      else none
    else
      κ l10
def impl_distances.f (K : Nat) (a0_0 : List Int) (a0_1 : List Int) (a0_2 : List Int) : Option ((List Int)) :=
  if 0 ≤ (a0_0.length : Int) ∧ (a0_0.length : Int) ≤ 1099511627776 then
  impl_distances.loop0 K (fun l5 l6 =>
    impl_distances.loop1 K (fun l11 =>
      some l11) a0_0 a0_1 K (0:Int) l5 l6) a0_2 K (0:Int) ([] : List Int) (List.replicate (a0_0.length : Int).toNat (0:Int))
  else none

/-- impl.Reachable -/
def impl_Reachable.loop0 (K : Nat) (κ : (List Bool) → Option ((List Bool))) (v2 : List Int) : Nat → (List Bool) → Int → Option ((List Bool))
  | 0, _, _ => none
  | m + 1, l2, p2 =>
    if p2 < (v2.length : Int) then
      if 0 ≤ p2 ∧ p2 < (v2.length : Int) then
      if l2.length + ([(decide ((rd v2 p2) > (0:Int)))] : List Bool).length ≤ 1099511627776 then
      impl_Reachable.loop0 K κ v2 m (l2 ++ ([(decide ((rd v2 p2) > (0:Int)))] : List Bool)) (wrap64 (p2 + (1:Int)))
      else none
      else none
    else
      κ l2
def impl_Reachable.f (K : Nat) (a0_0 : List Int) (a0_1 : List Int) (a0_2 : List Int) : Option ((List Bool)) :=
  b1 (impl_HeapValid.f K a0_0 a0_1 a0_2) fun v1 =>
  if v1 = true then
    b1 (impl_distances.f K a0_0 a0_1 a0_2) fun v2 =>
    impl_Reachable.loop0 K (fun l3 =>
      some l3) v2 K ([] : List Bool) (0:Int)
  else
    some ([] : List Bool)

/-- impl.GarbageOf -/
def impl_GarbageOf.loop0 (K : Nat) (κ : (List Int) → Option ((List Int))) (v1 : List Bool) : Nat → (List Int) → Int → Option ((List Int))
  | 0, _, _ => none
  | m + 1, l2, p2 =>
    if p2 < (v1.length : Int) then
      if 0 ≤ p2 ∧ p2 < (v1.length : Int) then
      if (rdb v1 p2) = true then
        impl_GarbageOf.loop0 K κ v1 m l2 (wrap64 (p2 + (1:Int)))
      else
        if l2.length + ([p2] : List Int).length ≤ 1099511627776 then
        impl_GarbageOf.loop0 K κ v1 m (l2 ++ ([p2] : List Int)) (wrap64 (p2 + (1:Int)))
        else none
      else none
    else
      κ l2
def impl_GarbageOf.f (K : Nat) (a0_0 : List Int) (a0_1 : List Int) (a0_2 : List Int) : Option ((List Int)) :=
  b1 (impl_Reachable.f K a0_0 a0_1 a0_2) fun v1 =>
  impl_GarbageOf.loop0 K (fun l3 =>
    some l3) v1 K ([] : List Int) (0:Int)

/-- impl.LeakedOf -/
def impl_LeakedOf.loop0 (K : Nat) (κ : (List Int) → Option ((List Int))) (a0_3 : List Int) (v2 : List Int) : Nat → (List Int) → Int → Option ((List Int))
  | 0, _, _ => none
  | m + 1, l2, p2 =>
    if p2 < (v2.length : Int) then
      if 0 ≤ p2 ∧ p2 < (v2.length : Int) then
      b1 (slices_Contains_int.f K a0_3 (rd v2 p2)) fun v6 =>
      if v6 = true then
        impl_LeakedOf.loop0 K κ a0_3 v2 m l2 (wrap64 (p2 + (1:Int)))
      else
        if l2.length + ([(rd v2 p2)] : List Int).length ≤ 1099511627776 then
        impl_LeakedOf.loop0 K κ a0_3 v2 m (l2 ++ ([(rd v2 p2)] : List Int)) (wrap64 (p2 + (1:Int)))
        else none
      else none
    else
      κ l2
def impl_LeakedOf.f (K : Nat) (a0_0 : List Int) (a0_1 : List Int) (a0_2 : List Int) (a0_3 : List Int) : Option ((List Int)) :=
  b1 (impl_StoreValid.f K a0_0 a0_1 a0_2 a0_3) fun v1 =>
  if v1 = true then
    b1 (impl_GarbageOf.f K a0_0 a0_1 a0_2) fun v2 =>
    impl_LeakedOf.loop0 K (fun l3 =>
      some l3) a0_3 v2 K ([] : List Int) (0:Int)
  else
    some ([] : List Int)

/-- impl.again -/
def impl_again.f (K : Nat) (a0_0 : List Int) (a0_1 : List Int) (a0_2 : List Int) (a0_3 : List Int) : Option ((List Int) × (List Int) × (List Int) × (List Int)) :=
  b3 (impl_copied.f K a0_0 a0_1 a0_2) fun v1 v2 v3 =>
  b1 (slices_Clone_int.f K a0_3) fun v4 =>
  some (v1, v2, v3, v4)

/-- (*impl.Store).clear -/
def impl_Store_clear.loop1 (K : Nat) (κ : (List Int) → (List Int) → Option ((List Int) × (List Int) × (List Int))) (a1 : List Int) (p6 : Int) (l17 : List Int) : Nat → Int → (List Int) → (List Int) → Option ((List Int) × (List Int) × (List Int))
  | 0, _, _, _ => none
  | m + 1, p10, l30, l31 =>
    if p10 < ((l17.set (rd a1 p6).toNat (-1:Int)).length : Int) then
      if 0 ≤ p10 ∧ p10 < (l30.length : Int) then
      if (rd l30 p10) = (rd a1 p6) then
        if 0 ≤ p10 ∧ p10 < (l31.length : Int) then
        if (rd l31 p10) = (rd a1 p6) then
          impl_Store_clear.loop1 K κ a1 p6 l17 m (wrap64 (p10 + (1:Int))) (l30.set p10.toNat (-1:Int)) (l31.set p10.toNat (-1:Int))
        else
          impl_Store_clear.loop1 K κ a1 p6 l17 m (wrap64 (p10 + (1:Int))) (l30.set p10.toNat (-1:Int)) l31
        else none
      else
        if 0 ≤ p10 ∧ p10 < (l31.length : Int) then
        if (rd l31 p10) = (rd a1 p6) then
          impl_Store_clear.loop1 K κ a1 p6 l17 m (wrap64 (p10 + (1:Int))) l30 (l31.set p10.toNat (-1:Int))
        else
          impl_Store_clear.loop1 K κ a1 p6 l17 m (wrap64 (p10 + (1:Int))) l30 l31
        else none
      else none
    else
      κ l30 l31
def impl_Store_clear.loop0 (K : Nat) (κ : (List Int) → (List Int) → (List Int) → Option ((List Int) × (List Int) × (List Int))) (a1 : List Int) : Nat → Int → (List Int) → (List Int) → (List Int) → Option ((List Int) × (List Int) × (List Int))
  | 0, _, _, _, _ => none
  | m + 1, p6, l16, l17, l18 =>
    if p6 < (a1.length : Int) then
      if 0 ≤ p6 ∧ p6 < (a1.length : Int) then
      if 0 ≤ (rd a1 p6) ∧ (rd a1 p6) < (l17.length : Int) then
      if 0 ≤ (rd a1 p6) ∧ (rd a1 p6) < (l18.length : Int) then
      impl_Store_clear.loop1 K (fun l32 l33 =>
        if l16.length + ([(rd a1 p6)] : List Int).length ≤ 1099511627776 then
        impl_Store_clear.loop0 K κ a1 m (wrap64 (p6 + (1:Int))) (l16 ++ ([(rd a1 p6)] : List Int)) l32 l33
        else none) a1 p6 l17 K (0:Int) (l17.set (rd a1 p6).toNat (-1:Int)) (l18.set (rd a1 p6).toNat (-1:Int))
      else none
      else none
      else none
    else
      κ l16 l17 l18
def impl_Store_clear.f (K : Nat) (a0_0 : List Int) (a0_1 : List Int) (a0_3 : List Int) (a1 : List Int) : Option ((List Int) × (List Int) × (List Int)) :=
  impl_Store_clear.loop0 K (fun l25 l26 l27 =>
    some (l26, l27, l25)) a1 K (0:Int) a0_3 a0_0 a0_1

/-- impl.FreeCell -/
def impl_FreeCell.f (K : Nat) (a0_0 : List Int) (a0_1 : List Int) (a0_2 : List Int) (a0_3 : List Int) (a1 : Int) : Option ((List Int) × (List Int) × (List Int) × (List Int) × Bool) :=
  b1 (impl_LeakedOf.f K a0_0 a0_1 a0_2 a0_3) fun v1 =>
  b1 (slices_Contains_int.f K v1 a1) fun v2 =>
  if v2 = true then
    b4 (impl_again.f K a0_0 a0_1 a0_2 a0_3) fun v3 v4 v5 v6 =>
    b3 (impl_Store_clear.f K v3 v4 v6 ([a1] : List Int)) fun v7 v8 v9 =>
    some (v7, v8, v5, v9, true)
  else
    some (([] : List Int), ([] : List Int), ([] : List Int), ([] : List Int), false)

/-- spec.l4Clear -/
def spec_l4Clear.loop0 (K : Nat) (κ : (List Int) → (List Int) → Option ((List Int) × (List Int) × (List Int) × (List Int))) (a1 : List Int) : Nat → Int → (List Int) → (List Int) → Option ((List Int) × (List Int) × (List Int) × (List Int))
  | 0, _, _, _ => none
  | m + 1, p2, l3, l4 =>
    if p2 < (l3.length : Int) then
      if 0 ≤ p2 ∧ p2 < (l3.length : Int) then
      b1 (spec_l4At.f K a1 (rd l3 p2)) fun v29 =>
      if v29 ≥ (0:Int) then
        if 0 ≤ p2 ∧ p2 < (l4.length : Int) then
        b1 (spec_l4At.f K a1 (rd l4 p2)) fun v30 =>
        if v30 ≥ (0:Int) then
          spec_l4Clear.loop0 K κ a1 m (wrap64 (p2 + (1:Int))) (l3.set p2.toNat (-1:Int)) (l4.set p2.toNat (-1:Int))
        else
          b1 (spec_l4At.f K a1 p2) fun v31 =>
          if v31 ≥ (0:Int) then
            spec_l4Clear.loop0 K κ a1 m (wrap64 (p2 + (1:Int))) (l3.set p2.toNat (-1:Int)) (l4.set p2.toNat (-1:Int))
          else
            spec_l4Clear.loop0 K κ a1 m (wrap64 (p2 + (1:Int))) (l3.set p2.toNat (-1:Int)) l4
        else none
      else
        b1 (spec_l4At.f K a1 p2) fun v32 =>
        if v32 ≥ (0:Int) then
          if 0 ≤ p2 ∧ p2 < (l4.length : Int) then
          b1 (spec_l4At.f K a1 (rd l4 p2)) fun v33 =>
          if v33 ≥ (0:Int) then
            spec_l4Clear.loop0 K κ a1 m (wrap64 (p2 + (1:Int))) (l3.set p2.toNat (-1:Int)) (l4.set p2.toNat (-1:Int))
          else
            b1 (spec_l4At.f K a1 p2) fun v34 =>
            if v34 ≥ (0:Int) then
              spec_l4Clear.loop0 K κ a1 m (wrap64 (p2 + (1:Int))) (l3.set p2.toNat (-1:Int)) (l4.set p2.toNat (-1:Int))
            else
              spec_l4Clear.loop0 K κ a1 m (wrap64 (p2 + (1:Int))) (l3.set p2.toNat (-1:Int)) l4
          else none
        else
          if 0 ≤ p2 ∧ p2 < (l4.length : Int) then
          b1 (spec_l4At.f K a1 (rd l4 p2)) fun v35 =>
          if v35 ≥ (0:Int) then
            spec_l4Clear.loop0 K κ a1 m (wrap64 (p2 + (1:Int))) l3 (l4.set p2.toNat (-1:Int))
          else
            b1 (spec_l4At.f K a1 p2) fun v36 =>
            if v36 ≥ (0:Int) then
              spec_l4Clear.loop0 K κ a1 m (wrap64 (p2 + (1:Int))) l3 (l4.set p2.toNat (-1:Int))
            else
              spec_l4Clear.loop0 K κ a1 m (wrap64 (p2 + (1:Int))) l3 l4
          else none
      else none
    else
      κ l3 l4
def spec_l4Clear.f (K : Nat) (a0_0 : List Int) (a0_1 : List Int) (a0_2 : List Int) (a0_3 : List Int) (a1 : List Int) : Option ((List Int) × (List Int) × (List Int) × (List Int)) :=
  b4 (spec_l4Copy.f K a0_0 a0_1 a0_2 a0_3) fun v1 v2 v3 v4 =>
  spec_l4Clear.loop0 K (fun l5 l6 =>
    if v4.length + a1.length ≤ 1099511627776 then
    some (l5, l6, v3, (v4 ++ a1))
    else none) a1 K (0:Int) v1 v2

/-- spec.FreeCell -/
def spec_FreeCell.f (K : Nat) (a0_0 : List Int) (a0_1 : List Int) (a0_2 : List Int) (a0_3 : List Int) (a1 : Int) : Option ((List Int) × (List Int) × (List Int) × (List Int) × Bool) :=
  b1 (spec_LeakedOf.f K a0_0 a0_1 a0_2 a0_3) fun v1 =>
  b1 (spec_l4At.f K v1 a1) fun v2 =>
  if v2 < (0:Int) then
    some (([] : List Int), ([] : List Int), ([] : List Int), ([] : List Int), false)
  else
    b4 (spec_l4Clear.f K a0_0 a0_1 a0_2 a0_3 ([a1] : List Int)) fun v3 v4 v5 v6 =>
    some (v3, v4, v5, v6, true)

/-- laws.FnFreeLeft -/
def laws_FnFreeLeft.f (K : Nat) (a0 : List Int) : Option Bool :=
  if (a0.length : Int) > (1048576:Int) then
    some true
  else
    b5 (spec_DrawFreeCell.f K a0) fun v1 v2 v3 v4 v5 =>
    b5 (impl_FreeCell.f K v1 v2 v3 v4 v5) fun v6 v7 v8 v9 v10 =>
    b5 (spec_FreeCell.f K v1 v2 v3 v4 v5) fun v11 v12 v13 v14 v15 =>
    b1 (impl_StoreSame.f K v6 v7 v8 v9 v11 v12 v13 v14) fun v16 =>
    if v16 = true then
      if v10 = v15 then
        if v10 = true then
          b5 (impl_FreeCell.f K v6 v7 v8 v9 v5) fun v17 v18 v19 v20 v21 =>
          if v21 = true then
            some false
          else
            b1 (impl_LeakedOf.f K v6 v7 v8 v9) fun v22 =>
            b1 (impl_LeakedOf.f K v1 v2 v3 v4) fun v23 =>
            if (v22.length : Int) = (wrap64 ((v23.length : Int) - (1:Int))) then
              if 0 ≤ (wrap64 ((v9.length : Int) - (1:Int))) ∧ (wrap64 ((v9.length : Int) - (1:Int))) < (v9.length : Int) then
              some ((rd v9 (wrap64 ((v9.length : Int) - (1:Int)))) == v5)
              else none
            else
              some false
        else
          b1 (impl_StoreSame.f K v6 v7 v8 v9 v11 v12 v13 v14) fun v24 =>
          if v24 = true then
            some (v10 == v15)
          else
            some false
      else
        b1 (impl_StoreSame.f K v6 v7 v8 v9 v11 v12 v13 v14) fun v25 =>
        if v25 = true then
          some (v10 == v15)
        else
          some false
    else
      b1 (impl_StoreSame.f K v6 v7 v8 v9 v11 v12 v13 v14) fun v26 =>
      if v26 = true then
        some (v10 == v15)
      else
        some false

/-- spec.l5Op -/
def spec_l5Op.f (K : Nat) (a0_0 : List Int) (a0_1 : Int) : Option (Int × Int × Int × Int) :=
  b2 (spec_l13Rd_num.f K a0_0 a0_1 ([(1:Int), (5:Int), (2:Int), (3:Int), (4:Int), (6:Int), (7:Int), (1:Int)] : List Int)) fun v1 v2 =>
  b2 (spec_l13Rd_num.f K a0_0 v2 ([(0:Int), (1:Int), (0:Int), (2:Int)] : List Int)) fun v3 v4 =>
  b2 (spec_l13Rd_num.f K a0_0 v4 ([(0:Int), (1:Int), (1:Int), (2:Int)] : List Int)) fun v5 v6 =>
  b1 (spec_l5One.f K v1) fun v7 =>
  if v7 = true then
    some (v1, v3, (0:Int), v6)
  else
    some (v1, v3, v5, v6)

/-- spec.DrawOpValid -/
def spec_DrawOpValid.f (K : Nat) (a0 : List Int) : Option (Int × Int × Int × Int) :=
  b1 (spec_l13Open.f K a0) fun _ =>
  b4 (spec_l5Op.f K (a0.take 2000) (0:Int)) fun v1 v2 v3 v4 =>
  b2 (spec_l13Rd_pick.f K (a0.take 2000) v4 (6:Int)) fun v5 v6 =>
  if v5 = (0:Int) then
    b2 (spec_l13Rd_num.f K (a0.take 2000) v6 ([(0:Int), (8:Int), (1:Int)] : List Int)) fun v7 v8 =>
    b2 (spec_l13Rd_num.f K (a0.take 2000) v8 ([(2:Int), (3:Int), (1:Int), (0:Int), (5:Int)] : List Int)) fun v9 v10 =>
    some (v7, v2, v3, v9)
  else
    if v5 = (1:Int) then
      b2 (spec_l13Rd_num.f K (a0.take 2000) v6 ([(-1:Int), (3:Int)] : List Int)) fun v11 v12 =>
      b2 (spec_l13Rd_num.f K (a0.take 2000) v12 ([(2:Int), (3:Int), (1:Int), (0:Int), (5:Int)] : List Int)) fun v13 v14 =>
      some (v1, v11, v3, v13)
    else
      if v5 = (2:Int) then
        b2 (spec_l13Rd_num.f K (a0.take 2000) v6 ([(-1:Int), (3:Int), (1:Int)] : List Int)) fun v15 v16 =>
        b2 (spec_l13Rd_num.f K (a0.take 2000) v16 ([(2:Int), (3:Int), (1:Int), (0:Int), (5:Int)] : List Int)) fun v17 v18 =>
        some (v1, v2, v15, v17)
      else
        b2 (spec_l13Rd_num.f K (a0.take 2000) v6 ([(2:Int), (3:Int), (1:Int), (0:Int), (5:Int)] : List Int)) fun v19 v20 =>
        some (v1, v2, v3, v19)

/-- laws.FnOpValid -/
def laws_FnOpValid.f (K : Nat) (a0 : List Int) : Option Bool :=
  if (a0.length : Int) > (1048576:Int) then
    some true
  else
    b4 (spec_DrawOpValid.f K a0) fun v1 v2 v3 v4 =>
    b1 (impl_OpValid.f K v1 v2 v3 v4) fun v5 =>
    b1 (spec_OpValid.f K v1 v2 v3 v4) fun v6 =>
    if v5 = v6 then
      if v5 = true then
        b1 (impl_OpValid.f K v1 v2 v3 (wrap64 (v4 + (1:Int)))) fun v7 =>
        if v7 = true then
          b1 (impl_OpValid.f K v1 v2 v3 (3:Int)) fun v8 =>
          if v8 = true then
            some (decide (v4 > (0:Int)))
          else
            some false
        else
          some false
      else
        some true
    else
      some false

end Go.Proofs.YtnfaiojmabolmaaDoor.F
