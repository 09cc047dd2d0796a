/- Plain facts that the pure theorems use: 64-bit arithmetic where nothing overflows, bytes of strings, reads of lists. It says nothing of any program. -/
import Derived.Test.YtnfaiojmabolmaaDoorX1
import Derived.Test.YtnfaiojmabolmaaDoorSj
namespace Go.Proofs.YtnfaiojmabolmaaDoor.T
open Go Go.RowKit Go.Proofs.YtnfaiojmabolmaaDoor.S
set_option linter.unusedVariables false
set_option linter.unusedSimpArgs false
theorem w64 {x : Int} (h1 : -9223372036854775808 ≤ x) (h2 : x ≤ 9223372036854775807) : wrap64 x = x := by
  unfold wrap64
  omega
theorem b1_some {α β : Type} (x : α) (f : α → Option β) : b1 (some x) f = f x := rfl
theorem b2_some {α α' β : Type} (x : α) (y : α') (f : α → α' → Option β) : b2 (some (x, y)) f = f x y := rfl
theorem b3_some {α α' α'' β : Type} (x : α) (y : α') (z : α'') (f : α → α' → α'' → Option β) : b3 (some (x, y, z)) f = f x y z := rfl
theorem b4_some {α1 α2 α3 α4 β : Type} (x : α1) (y : α2) (z : α3) (u : α4) (f : α1 → α2 → α3 → α4 → Option β) : b4 (some (x, y, z, u)) f = f x y z u := rfl
theorem b5_some {α1 α2 α3 α4 α5 β : Type} (x : α1) (y : α2) (z : α3) (u : α4) (v : α5) (f : α1 → α2 → α3 → α4 → α5 → Option β) : b5 (some (x, y, z, u, v)) f = f x y z u v := rfl
theorem b6_some {α1 α2 α3 α4 α5 α6 β : Type} (x : α1) (y : α2) (z : α3) (u : α4) (v : α5) (w : α6) (f : α1 → α2 → α3 → α4 → α5 → α6 → Option β) : b6 (some (x, y, z, u, v, w)) f = f x y z u v w := rfl
theorem b7_some {α1 α2 α3 α4 α5 α6 α7 β : Type} (x : α1) (y : α2) (z : α3) (u : α4) (v : α5) (w : α6) (p : α7) (f : α1 → α2 → α3 → α4 → α5 → α6 → α7 → Option β) : b7 (some (x, y, z, u, v, w, p)) f = f x y z u v w p := rfl
theorem toList_loop (s : ByteArray) : ∀ (k i : Nat) (r : List UInt8), s.size - i = k → ByteArray.toList.loop s i r = r.reverse ++ s.data.toList.drop i := by
  intro k
  induction k with
  | zero =>
    intro i r h
    unfold ByteArray.toList.loop
    have hs : s.data.toList.length = s.size := by rw [Array.length_toList]; rfl
    rw [if_neg (by omega), List.drop_eq_nil_of_le (by omega), List.append_nil]
  | succ k ih =>
    intro i r h
    unfold ByteArray.toList.loop
    have hs : s.data.toList.length = s.size := by rw [Array.length_toList]; rfl
    have hlt : i < s.data.toList.length := by omega
    rw [if_pos (by omega), ih (i + 1) _ (by omega), List.drop_eq_getElem_cons hlt]
    have hg : s.get! i = s.data.toList[i] := by
      have : i < s.data.size := by simpa using hlt
      show s.data[i]! = _
      rw [getElem!_pos s.data i this, Array.getElem_toList]
    rw [hg]
    simp
theorem toList_eq (s : ByteArray) : s.toList = s.data.toList := by
  unfold ByteArray.toList
  rw [toList_loop s _ 0 [] rfl]
  simp
theorem rd_cons_zero (x : Int) (xs : List Int) : rd (x :: xs) 0 = x := rfl
theorem rd_nat (xs : List Int) (i : Nat) : rd xs (i : Int) = xs.getD i 0 := by simp [rd]
end Go.Proofs.YtnfaiojmabolmaaDoor.T
