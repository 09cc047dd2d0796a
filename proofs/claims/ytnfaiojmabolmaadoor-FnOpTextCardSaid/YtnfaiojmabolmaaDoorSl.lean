/- More operations: function values with what they hold, unsigned words, copies into rows, rows of operations. It says nothing of any program. -/
import Derived.Test.YtnfaiojmabolmaaDoorSk
namespace Go.Proofs.YtnfaiojmabolmaaDoor.S
open Go Go.RowKit
set_option linter.unusedVariables false
set_option linter.unusedSimpArgs false
section
variable {n : Nat} {E : List (Nat × Value)} {w0 : World} {rs : List Res} {P : Program} {o : Oper}
/-! ### short words of the generator's texts -/
abbrev pt (g : Nat) : Value := .pointer (some ⟨g, 0, none⟩)
abbrev i6 (x : Int) : Value := .int .i64 x
abbrev fv (f : Nat) (caps : List Value) : Value := .func (.func f) #[] caps.toArray
abbrev ii (xs : List Int) : List Value := ints .i64 xs
/-! ### memory told otherwise, at one place -/
section
variable {M : Act → World → Prop} {r q a0 a1 a2 a3 a4 a5 a6 a7 a8 a9 a10 a11 a12 a13 a14 a15 a16 a17 a18 a19 a20 a21 a22 : Res} {l : List Res} {g tt j : Nat} {cs us : List Value}
theorem j_s0 (h : J M n E w0 (r :: l)) : J M n E w0 ((q :: l).set 0 r) := h
theorem j_b0 (vs : List Value) (hv : over cs j us = vs) (h : J M n E w0 (.box g tt vs :: l)) : J M n E w0 ((q :: l).set 0 (.box g tt (over cs j us))) := by subst hv; exact h
theorem j_s1 (h : J M n E w0 (a0 :: r :: l)) : J M n E w0 ((a0 :: q :: l).set 1 r) := h
theorem j_b1 (vs : List Value) (hv : over cs j us = vs) (h : J M n E w0 (a0 :: .box g tt vs :: l)) : J M n E w0 ((a0 :: q :: l).set 1 (.box g tt (over cs j us))) := by subst hv; exact h
theorem j_s2 (h : J M n E w0 (a0 :: a1 :: r :: l)) : J M n E w0 ((a0 :: a1 :: q :: l).set 2 r) := h
theorem j_b2 (vs : List Value) (hv : over cs j us = vs) (h : J M n E w0 (a0 :: a1 :: .box g tt vs :: l)) : J M n E w0 ((a0 :: a1 :: q :: l).set 2 (.box g tt (over cs j us))) := by subst hv; exact h
theorem j_s3 (h : J M n E w0 (a0 :: a1 :: a2 :: r :: l)) : J M n E w0 ((a0 :: a1 :: a2 :: q :: l).set 3 r) := h
theorem j_b3 (vs : List Value) (hv : over cs j us = vs) (h : J M n E w0 (a0 :: a1 :: a2 :: .box g tt vs :: l)) : J M n E w0 ((a0 :: a1 :: a2 :: q :: l).set 3 (.box g tt (over cs j us))) := by subst hv; exact h
theorem j_s4 (h : J M n E w0 (a0 :: a1 :: a2 :: a3 :: r :: l)) : J M n E w0 ((a0 :: a1 :: a2 :: a3 :: q :: l).set 4 r) := h
theorem j_b4 (vs : List Value) (hv : over cs j us = vs) (h : J M n E w0 (a0 :: a1 :: a2 :: a3 :: .box g tt vs :: l)) : J M n E w0 ((a0 :: a1 :: a2 :: a3 :: q :: l).set 4 (.box g tt (over cs j us))) := by subst hv; exact h
theorem j_s5 (h : J M n E w0 (a0 :: a1 :: a2 :: a3 :: a4 :: r :: l)) : J M n E w0 ((a0 :: a1 :: a2 :: a3 :: a4 :: q :: l).set 5 r) := h
theorem j_b5 (vs : List Value) (hv : over cs j us = vs) (h : J M n E w0 (a0 :: a1 :: a2 :: a3 :: a4 :: .box g tt vs :: l)) : J M n E w0 ((a0 :: a1 :: a2 :: a3 :: a4 :: q :: l).set 5 (.box g tt (over cs j us))) := by subst hv; exact h
theorem j_s6 (h : J M n E w0 (a0 :: a1 :: a2 :: a3 :: a4 :: a5 :: r :: l)) : J M n E w0 ((a0 :: a1 :: a2 :: a3 :: a4 :: a5 :: q :: l).set 6 r) := h
theorem j_b6 (vs : List Value) (hv : over cs j us = vs) (h : J M n E w0 (a0 :: a1 :: a2 :: a3 :: a4 :: a5 :: .box g tt vs :: l)) : J M n E w0 ((a0 :: a1 :: a2 :: a3 :: a4 :: a5 :: q :: l).set 6 (.box g tt (over cs j us))) := by subst hv; exact h
theorem j_s7 (h : J M n E w0 (a0 :: a1 :: a2 :: a3 :: a4 :: a5 :: a6 :: r :: l)) : J M n E w0 ((a0 :: a1 :: a2 :: a3 :: a4 :: a5 :: a6 :: q :: l).set 7 r) := h
theorem j_b7 (vs : List Value) (hv : over cs j us = vs) (h : J M n E w0 (a0 :: a1 :: a2 :: a3 :: a4 :: a5 :: a6 :: .box g tt vs :: l)) : J M n E w0 ((a0 :: a1 :: a2 :: a3 :: a4 :: a5 :: a6 :: q :: l).set 7 (.box g tt (over cs j us))) := by subst hv; exact h
theorem j_s8 (h : J M n E w0 (a0 :: a1 :: a2 :: a3 :: a4 :: a5 :: a6 :: a7 :: r :: l)) : J M n E w0 ((a0 :: a1 :: a2 :: a3 :: a4 :: a5 :: a6 :: a7 :: q :: l).set 8 r) := h
theorem j_b8 (vs : List Value) (hv : over cs j us = vs) (h : J M n E w0 (a0 :: a1 :: a2 :: a3 :: a4 :: a5 :: a6 :: a7 :: .box g tt vs :: l)) : J M n E w0 ((a0 :: a1 :: a2 :: a3 :: a4 :: a5 :: a6 :: a7 :: q :: l).set 8 (.box g tt (over cs j us))) := by subst hv; exact h
theorem j_s9 (h : J M n E w0 (a0 :: a1 :: a2 :: a3 :: a4 :: a5 :: a6 :: a7 :: a8 :: r :: l)) : J M n E w0 ((a0 :: a1 :: a2 :: a3 :: a4 :: a5 :: a6 :: a7 :: a8 :: q :: l).set 9 r) := h
theorem j_b9 (vs : List Value) (hv : over cs j us = vs) (h : J M n E w0 (a0 :: a1 :: a2 :: a3 :: a4 :: a5 :: a6 :: a7 :: a8 :: .box g tt vs :: l)) : J M n E w0 ((a0 :: a1 :: a2 :: a3 :: a4 :: a5 :: a6 :: a7 :: a8 :: q :: l).set 9 (.box g tt (over cs j us))) := by subst hv; exact h
theorem j_s10 (h : J M n E w0 (a0 :: a1 :: a2 :: a3 :: a4 :: a5 :: a6 :: a7 :: a8 :: a9 :: r :: l)) : J M n E w0 ((a0 :: a1 :: a2 :: a3 :: a4 :: a5 :: a6 :: a7 :: a8 :: a9 :: q :: l).set 10 r) := h
theorem j_b10 (vs : List Value) (hv : over cs j us = vs) (h : J M n E w0 (a0 :: a1 :: a2 :: a3 :: a4 :: a5 :: a6 :: a7 :: a8 :: a9 :: .box g tt vs :: l)) : J M n E w0 ((a0 :: a1 :: a2 :: a3 :: a4 :: a5 :: a6 :: a7 :: a8 :: a9 :: q :: l).set 10 (.box g tt (over cs j us))) := by subst hv; exact h
theorem j_s11 (h : J M n E w0 (a0 :: a1 :: a2 :: a3 :: a4 :: a5 :: a6 :: a7 :: a8 :: a9 :: a10 :: r :: l)) : J M n E w0 ((a0 :: a1 :: a2 :: a3 :: a4 :: a5 :: a6 :: a7 :: a8 :: a9 :: a10 :: q :: l).set 11 r) := h
theorem j_b11 (vs : List Value) (hv : over cs j us = vs) (h : J M n E w0 (a0 :: a1 :: a2 :: a3 :: a4 :: a5 :: a6 :: a7 :: a8 :: a9 :: a10 :: .box g tt vs :: l)) : J M n E w0 ((a0 :: a1 :: a2 :: a3 :: a4 :: a5 :: a6 :: a7 :: a8 :: a9 :: a10 :: q :: l).set 11 (.box g tt (over cs j us))) := by subst hv; exact h
theorem j_s12 (h : J M n E w0 (a0 :: a1 :: a2 :: a3 :: a4 :: a5 :: a6 :: a7 :: a8 :: a9 :: a10 :: a11 :: r :: l)) : J M n E w0 ((a0 :: a1 :: a2 :: a3 :: a4 :: a5 :: a6 :: a7 :: a8 :: a9 :: a10 :: a11 :: q :: l).set 12 r) := h
theorem j_b12 (vs : List Value) (hv : over cs j us = vs) (h : J M n E w0 (a0 :: a1 :: a2 :: a3 :: a4 :: a5 :: a6 :: a7 :: a8 :: a9 :: a10 :: a11 :: .box g tt vs :: l)) : J M n E w0 ((a0 :: a1 :: a2 :: a3 :: a4 :: a5 :: a6 :: a7 :: a8 :: a9 :: a10 :: a11 :: q :: l).set 12 (.box g tt (over cs j us))) := by subst hv; exact h
theorem j_s13 (h : J M n E w0 (a0 :: a1 :: a2 :: a3 :: a4 :: a5 :: a6 :: a7 :: a8 :: a9 :: a10 :: a11 :: a12 :: r :: l)) : J M n E w0 ((a0 :: a1 :: a2 :: a3 :: a4 :: a5 :: a6 :: a7 :: a8 :: a9 :: a10 :: a11 :: a12 :: q :: l).set 13 r) := h
theorem j_b13 (vs : List Value) (hv : over cs j us = vs) (h : J M n E w0 (a0 :: a1 :: a2 :: a3 :: a4 :: a5 :: a6 :: a7 :: a8 :: a9 :: a10 :: a11 :: a12 :: .box g tt vs :: l)) : J M n E w0 ((a0 :: a1 :: a2 :: a3 :: a4 :: a5 :: a6 :: a7 :: a8 :: a9 :: a10 :: a11 :: a12 :: q :: l).set 13 (.box g tt (over cs j us))) := by subst hv; exact h
theorem j_s14 (h : J M n E w0 (a0 :: a1 :: a2 :: a3 :: a4 :: a5 :: a6 :: a7 :: a8 :: a9 :: a10 :: a11 :: a12 :: a13 :: r :: l)) : J M n E w0 ((a0 :: a1 :: a2 :: a3 :: a4 :: a5 :: a6 :: a7 :: a8 :: a9 :: a10 :: a11 :: a12 :: a13 :: q :: l).set 14 r) := h
theorem j_b14 (vs : List Value) (hv : over cs j us = vs) (h : J M n E w0 (a0 :: a1 :: a2 :: a3 :: a4 :: a5 :: a6 :: a7 :: a8 :: a9 :: a10 :: a11 :: a12 :: a13 :: .box g tt vs :: l)) : J M n E w0 ((a0 :: a1 :: a2 :: a3 :: a4 :: a5 :: a6 :: a7 :: a8 :: a9 :: a10 :: a11 :: a12 :: a13 :: q :: l).set 14 (.box g tt (over cs j us))) := by subst hv; exact h
theorem j_s15 (h : J M n E w0 (a0 :: a1 :: a2 :: a3 :: a4 :: a5 :: a6 :: a7 :: a8 :: a9 :: a10 :: a11 :: a12 :: a13 :: a14 :: r :: l)) : J M n E w0 ((a0 :: a1 :: a2 :: a3 :: a4 :: a5 :: a6 :: a7 :: a8 :: a9 :: a10 :: a11 :: a12 :: a13 :: a14 :: q :: l).set 15 r) := h
theorem j_b15 (vs : List Value) (hv : over cs j us = vs) (h : J M n E w0 (a0 :: a1 :: a2 :: a3 :: a4 :: a5 :: a6 :: a7 :: a8 :: a9 :: a10 :: a11 :: a12 :: a13 :: a14 :: .box g tt vs :: l)) : J M n E w0 ((a0 :: a1 :: a2 :: a3 :: a4 :: a5 :: a6 :: a7 :: a8 :: a9 :: a10 :: a11 :: a12 :: a13 :: a14 :: q :: l).set 15 (.box g tt (over cs j us))) := by subst hv; exact h
theorem j_s16 (h : J M n E w0 (a0 :: a1 :: a2 :: a3 :: a4 :: a5 :: a6 :: a7 :: a8 :: a9 :: a10 :: a11 :: a12 :: a13 :: a14 :: a15 :: r :: l)) : J M n E w0 ((a0 :: a1 :: a2 :: a3 :: a4 :: a5 :: a6 :: a7 :: a8 :: a9 :: a10 :: a11 :: a12 :: a13 :: a14 :: a15 :: q :: l).set 16 r) := h
theorem j_b16 (vs : List Value) (hv : over cs j us = vs) (h : J M n E w0 (a0 :: a1 :: a2 :: a3 :: a4 :: a5 :: a6 :: a7 :: a8 :: a9 :: a10 :: a11 :: a12 :: a13 :: a14 :: a15 :: .box g tt vs :: l)) : J M n E w0 ((a0 :: a1 :: a2 :: a3 :: a4 :: a5 :: a6 :: a7 :: a8 :: a9 :: a10 :: a11 :: a12 :: a13 :: a14 :: a15 :: q :: l).set 16 (.box g tt (over cs j us))) := by subst hv; exact h
theorem j_s17 (h : J M n E w0 (a0 :: a1 :: a2 :: a3 :: a4 :: a5 :: a6 :: a7 :: a8 :: a9 :: a10 :: a11 :: a12 :: a13 :: a14 :: a15 :: a16 :: r :: l)) : J M n E w0 ((a0 :: a1 :: a2 :: a3 :: a4 :: a5 :: a6 :: a7 :: a8 :: a9 :: a10 :: a11 :: a12 :: a13 :: a14 :: a15 :: a16 :: q :: l).set 17 r) := h
theorem j_b17 (vs : List Value) (hv : over cs j us = vs) (h : J M n E w0 (a0 :: a1 :: a2 :: a3 :: a4 :: a5 :: a6 :: a7 :: a8 :: a9 :: a10 :: a11 :: a12 :: a13 :: a14 :: a15 :: a16 :: .box g tt vs :: l)) : J M n E w0 ((a0 :: a1 :: a2 :: a3 :: a4 :: a5 :: a6 :: a7 :: a8 :: a9 :: a10 :: a11 :: a12 :: a13 :: a14 :: a15 :: a16 :: q :: l).set 17 (.box g tt (over cs j us))) := by subst hv; exact h
theorem j_s18 (h : J M n E w0 (a0 :: a1 :: a2 :: a3 :: a4 :: a5 :: a6 :: a7 :: a8 :: a9 :: a10 :: a11 :: a12 :: a13 :: a14 :: a15 :: a16 :: a17 :: r :: l)) : J M n E w0 ((a0 :: a1 :: a2 :: a3 :: a4 :: a5 :: a6 :: a7 :: a8 :: a9 :: a10 :: a11 :: a12 :: a13 :: a14 :: a15 :: a16 :: a17 :: q :: l).set 18 r) := h
theorem j_b18 (vs : List Value) (hv : over cs j us = vs) (h : J M n E w0 (a0 :: a1 :: a2 :: a3 :: a4 :: a5 :: a6 :: a7 :: a8 :: a9 :: a10 :: a11 :: a12 :: a13 :: a14 :: a15 :: a16 :: a17 :: .box g tt vs :: l)) : J M n E w0 ((a0 :: a1 :: a2 :: a3 :: a4 :: a5 :: a6 :: a7 :: a8 :: a9 :: a10 :: a11 :: a12 :: a13 :: a14 :: a15 :: a16 :: a17 :: q :: l).set 18 (.box g tt (over cs j us))) := by subst hv; exact h
theorem j_s19 (h : J M n E w0 (a0 :: a1 :: a2 :: a3 :: a4 :: a5 :: a6 :: a7 :: a8 :: a9 :: a10 :: a11 :: a12 :: a13 :: a14 :: a15 :: a16 :: a17 :: a18 :: r :: l)) : J M n E w0 ((a0 :: a1 :: a2 :: a3 :: a4 :: a5 :: a6 :: a7 :: a8 :: a9 :: a10 :: a11 :: a12 :: a13 :: a14 :: a15 :: a16 :: a17 :: a18 :: q :: l).set 19 r) := h
theorem j_b19 (vs : List Value) (hv : over cs j us = vs) (h : J M n E w0 (a0 :: a1 :: a2 :: a3 :: a4 :: a5 :: a6 :: a7 :: a8 :: a9 :: a10 :: a11 :: a12 :: a13 :: a14 :: a15 :: a16 :: a17 :: a18 :: .box g tt vs :: l)) : J M n E w0 ((a0 :: a1 :: a2 :: a3 :: a4 :: a5 :: a6 :: a7 :: a8 :: a9 :: a10 :: a11 :: a12 :: a13 :: a14 :: a15 :: a16 :: a17 :: a18 :: q :: l).set 19 (.box g tt (over cs j us))) := by subst hv; exact h
theorem j_s20 (h : J M n E w0 (a0 :: a1 :: a2 :: a3 :: a4 :: a5 :: a6 :: a7 :: a8 :: a9 :: a10 :: a11 :: a12 :: a13 :: a14 :: a15 :: a16 :: a17 :: a18 :: a19 :: r :: l)) : J M n E w0 ((a0 :: a1 :: a2 :: a3 :: a4 :: a5 :: a6 :: a7 :: a8 :: a9 :: a10 :: a11 :: a12 :: a13 :: a14 :: a15 :: a16 :: a17 :: a18 :: a19 :: q :: l).set 20 r) := h
theorem j_b20 (vs : List Value) (hv : over cs j us = vs) (h : J M n E w0 (a0 :: a1 :: a2 :: a3 :: a4 :: a5 :: a6 :: a7 :: a8 :: a9 :: a10 :: a11 :: a12 :: a13 :: a14 :: a15 :: a16 :: a17 :: a18 :: a19 :: .box g tt vs :: l)) : J M n E w0 ((a0 :: a1 :: a2 :: a3 :: a4 :: a5 :: a6 :: a7 :: a8 :: a9 :: a10 :: a11 :: a12 :: a13 :: a14 :: a15 :: a16 :: a17 :: a18 :: a19 :: q :: l).set 20 (.box g tt (over cs j us))) := by subst hv; exact h
theorem j_s21 (h : J M n E w0 (a0 :: a1 :: a2 :: a3 :: a4 :: a5 :: a6 :: a7 :: a8 :: a9 :: a10 :: a11 :: a12 :: a13 :: a14 :: a15 :: a16 :: a17 :: a18 :: a19 :: a20 :: r :: l)) : J M n E w0 ((a0 :: a1 :: a2 :: a3 :: a4 :: a5 :: a6 :: a7 :: a8 :: a9 :: a10 :: a11 :: a12 :: a13 :: a14 :: a15 :: a16 :: a17 :: a18 :: a19 :: a20 :: q :: l).set 21 r) := h
theorem j_b21 (vs : List Value) (hv : over cs j us = vs) (h : J M n E w0 (a0 :: a1 :: a2 :: a3 :: a4 :: a5 :: a6 :: a7 :: a8 :: a9 :: a10 :: a11 :: a12 :: a13 :: a14 :: a15 :: a16 :: a17 :: a18 :: a19 :: a20 :: .box g tt vs :: l)) : J M n E w0 ((a0 :: a1 :: a2 :: a3 :: a4 :: a5 :: a6 :: a7 :: a8 :: a9 :: a10 :: a11 :: a12 :: a13 :: a14 :: a15 :: a16 :: a17 :: a18 :: a19 :: a20 :: q :: l).set 21 (.box g tt (over cs j us))) := by subst hv; exact h
theorem j_s22 (h : J M n E w0 (a0 :: a1 :: a2 :: a3 :: a4 :: a5 :: a6 :: a7 :: a8 :: a9 :: a10 :: a11 :: a12 :: a13 :: a14 :: a15 :: a16 :: a17 :: a18 :: a19 :: a20 :: a21 :: r :: l)) : J M n E w0 ((a0 :: a1 :: a2 :: a3 :: a4 :: a5 :: a6 :: a7 :: a8 :: a9 :: a10 :: a11 :: a12 :: a13 :: a14 :: a15 :: a16 :: a17 :: a18 :: a19 :: a20 :: a21 :: q :: l).set 22 r) := h
theorem j_b22 (vs : List Value) (hv : over cs j us = vs) (h : J M n E w0 (a0 :: a1 :: a2 :: a3 :: a4 :: a5 :: a6 :: a7 :: a8 :: a9 :: a10 :: a11 :: a12 :: a13 :: a14 :: a15 :: a16 :: a17 :: a18 :: a19 :: a20 :: a21 :: .box g tt vs :: l)) : J M n E w0 ((a0 :: a1 :: a2 :: a3 :: a4 :: a5 :: a6 :: a7 :: a8 :: a9 :: a10 :: a11 :: a12 :: a13 :: a14 :: a15 :: a16 :: a17 :: a18 :: a19 :: a20 :: a21 :: q :: l).set 22 (.box g tt (over cs j us))) := by subst hv; exact h
theorem j_s23 (h : J M n E w0 (a0 :: a1 :: a2 :: a3 :: a4 :: a5 :: a6 :: a7 :: a8 :: a9 :: a10 :: a11 :: a12 :: a13 :: a14 :: a15 :: a16 :: a17 :: a18 :: a19 :: a20 :: a21 :: a22 :: r :: l)) : J M n E w0 ((a0 :: a1 :: a2 :: a3 :: a4 :: a5 :: a6 :: a7 :: a8 :: a9 :: a10 :: a11 :: a12 :: a13 :: a14 :: a15 :: a16 :: a17 :: a18 :: a19 :: a20 :: a21 :: a22 :: q :: l).set 23 r) := h
theorem j_b23 (vs : List Value) (hv : over cs j us = vs) (h : J M n E w0 (a0 :: a1 :: a2 :: a3 :: a4 :: a5 :: a6 :: a7 :: a8 :: a9 :: a10 :: a11 :: a12 :: a13 :: a14 :: a15 :: a16 :: a17 :: a18 :: a19 :: a20 :: a21 :: a22 :: .box g tt vs :: l)) : J M n E w0 ((a0 :: a1 :: a2 :: a3 :: a4 :: a5 :: a6 :: a7 :: a8 :: a9 :: a10 :: a11 :: a12 :: a13 :: a14 :: a15 :: a16 :: a17 :: a18 :: a19 :: a20 :: a21 :: a22 :: q :: l).set 23 (.box g tt (over cs j us))) := by subst hv; exact h
end
/-! ### a loop whose first round was taken by itself -/
theorem lp_down {Q : Exit → Act → World → Prop} {c : Code} (I : Nat → Act → World → Prop) (round : ∀ m a w, I m a w → c.wp P (Exit.then (fun a' w' => ∃ m', m' < m ∧ I m' a' w') Q) a w) : ∀ (m : Nat) (a : Act) (w : World), I m a w → Lp P c Q a w := by
  intro m
  induction m using Nat.strongRecOn with
  | _ m ih =>
    intro a w h
    refine lp_round (wp_mono (round m a w h) ?_)
    intro e a' w' he
    cases e with
    | normal => obtain ⟨m', hlt, hI⟩ := he; exact ih m' hlt a' w' hI
    | exit id => exact he
    | goto l => exact he
    | ret => exact he
    | panic ch => exact he
    | outgrown => exact he
theorem j_lp {Q : Exit → Act → World → Prop} {σ : Type} {c : Code} (Es : σ → List (Nat × Value)) (Rs : σ → List Res) (H : Nat → σ → Prop) (m : Nat) (s : σ) (h0 : H m s)
    (hE : ∀ a, EnvOk a n E → EnvOk a n (Es s)) (hR : ∀ w, Mem w0 rs w → Mem w0 (Rs s) w)
    (round : ∀ m s, H m s → J (c.wp P (Exit.then (fun a' w' => ∃ m', m' < m ∧ Head n w0 Es Rs H m' a' w') Q)) n (Es s) w0 (Rs s)) : J (Lp P c Q) n E w0 rs := fun a w he hm =>
  lp_down (Head n w0 Es Rs H) (fun m a w ⟨s, hs, he, hm⟩ => round m s hs a w he hm) m a w ⟨s, h0, hE a he, hR w hm⟩
/-! ### function values -/
theorem q_makeFunc {f : FuncId} {first captured : Array Operand} {l : List Operand} {vs : List Value} (ho : o.op = .makeFunc (.func f) first captured) (hf : first = #[]) (hc : captured = l.toArray) (hv : evs E l = some vs) : Quiet P o n E w0 rs (.func (.func f) #[] vs.toArray) := .mk fun ρ w h hm => by
  have hm' := evs_map h hv
  simp only [execOp, ho, hf, hc, List.map_toArray, hm']
  rfl
theorem a_callC {pr : Call} {f : FuncId} {x : Operand} {l : List Operand} {vs caps : List Value} {α : Type} {v : α → Value} {rs' : α → List Res} (hf : CallOk P f) (ho : o.op = .call pr) (hc : pr.callee = .value x) (hx : ev E x = some (.func (.func f) #[] caps.toArray)) (ha : pr.args = l.toArray) (hv : evs E l = some vs)
    (hcall : ∀ w, Mem w0 rs w → Calls P f (vs ++ caps).toArray w fun e w' => ∃ x, e = .returned (v x) ∧ Mem w0 (rs' x) w') : Acts P o n E w0 rs v rs' := acts_of_calls (fun a w he hm => by
  have hm := evs_map (fun x u hx => he.eval hx) hv
  have hfun : a.eval x = .func (.func f) #[] caps.toArray := he.eval hx
  simp only [execOp, ho, resolve, hc, ha, hfun, List.map_toArray, hm]
  show Sem.run P (callFunc f ((#[] ++ vs.toArray) ++ caps.toArray)) w = _
  rw [run_callFunc hf]
  simp) hcall
/-! ### unsigned words -/
def wu (n : Int) : Int := n % 18446744073709551616
theorem u64_wrap (n : Int) : IntKind.u64.wrap n = wu n := by
  unfold IntKind.wrap wu
  simp [IntKind.signed, IntKind.bits]
def andu (p q : Int) : Int := wu ((BitVec.ofInt 64 p &&& BitVec.ofInt 64 q).toNat)
def shru (p q : Int) : Int := p.fdiv (2 ^ (min q.toNat 64))
section
variable {t t' : TypeId} {x y : Operand} {p q : Int}
theorem q_addu (ho : o.op = .binOp .add t x y t') (hx : ev E x = some (.int .u64 p)) (hy : ev E y = some (.int .u64 q)) : Quiet P o n E w0 rs (.int .u64 (wu (p + q))) := .mk fun ρ w h hm => by
  simp only [execOp, ho, h _ _ hx, h _ _ hy]; rw [← u64_wrap]; rfl
theorem q_subu (ho : o.op = .binOp .sub t x y t') (hx : ev E x = some (.int .u64 p)) (hy : ev E y = some (.int .u64 q)) : Quiet P o n E w0 rs (.int .u64 (wu (p - q))) := .mk fun ρ w h hm => by
  simp only [execOp, ho, h _ _ hx, h _ _ hy]; rw [← u64_wrap]; rfl
theorem q_mulu (ho : o.op = .binOp .mul t x y t') (hx : ev E x = some (.int .u64 p)) (hy : ev E y = some (.int .u64 q)) : Quiet P o n E w0 rs (.int .u64 (wu (p * q))) := .mk fun ρ w h hm => by
  simp only [execOp, ho, h _ _ hx, h _ _ hy]; rw [← u64_wrap]; rfl
theorem q_andu (ho : o.op = .binOp .and t x y t') (hx : ev E x = some (.int .u64 p)) (hy : ev E y = some (.int .u64 q)) : Quiet P o n E w0 rs (.int .u64 (andu p q)) := .mk fun ρ w h hm => by
  simp only [execOp, ho, h _ _ hx, h _ _ hy]; unfold andu; rw [← u64_wrap]; rfl
theorem q_shru {k : IntKind} (ho : o.op = .binOp .shr t x y t') (hx : ev E x = some (.int .u64 p)) (hy : ev E y = some (.int k q)) (hq : ¬q < 0) : Quiet P o n E w0 rs (.int .u64 (shru p q)) := .mk fun ρ w h hm => by
  simp only [execOp, ho, h _ _ hx, h _ _ hy, binOp, Op.shift]
  rw [if_neg hq]
  rfl
end
/-! ### copies -/
/-- A list is written into another one, from i on. -/
def cpy (xs : List Int) (i : Nat) (ys : List Int) : List Int := xs.take i ++ ys ++ xs.drop (i + ys.length)
theorem cpy_cons {xs ys : List Int} {i : Nat} {y : Int} (h : i < xs.length) : cpy (xs.set i y) (i + 1) ys = cpy xs i (y :: ys) := by
  unfold cpy
  rw [List.take_succ_eq_append_getElem (by simpa), List.getElem_set_self, List.take_set_of_le (Nat.le_refl _), List.drop_set_of_lt (by omega)]
  simp only [List.length_cons, List.append_assoc, List.cons_append, List.nil_append, List.singleton_append]
  rw [show i + 1 + ys.length = i + (ys.length + 1) by omega]
theorem cpy_len {xs ys : List Int} {i : Nat} (h : i + ys.length ≤ xs.length) : (cpy xs i ys).length = xs.length := by
  unfold cpy
  rw [List.length_append, List.length_append, List.length_take, List.length_drop]
  omega
theorem over_nil (cs : List Value) (j : Nat) : over cs j [] = cs := rfl
theorem run_storesV {k c e sz : Nat} {A : Option Addr} {a : Addr} (vs : List Value) : ∀ (m i : Nat) (cs : List Value) (rs : List Res) (w : World), Mem w0 rs w → rs[k]? = some (.row A c e sz cs) → A.map (·.add m) = some a → m + i + vs.length ≤ cs.length → (∀ v ∈ vs, one v = true) →
    ∃ w', (storeCells a vs i).run P w = .ok () w' ∧ Mem w0 (rs.set k (.row A c e sz (over cs (m + i) vs))) w' := by
  induction vs with
  | nil =>
    intro m i cs rs w hm hk ha hl h1
    refine ⟨w, rfl, ?_⟩
    rw [over_nil, set_same hk]
    exact hm
  | cons v vs ih =>
    intro m i cs rs w hm hk ha hl h1
    rw [List.length_cons] at hl
    have hlt : k < rs.length := (List.getElem?_eq_some_iff.1 hk).1
    obtain ⟨b, rfl, u, hcell, hfr, hm'⟩ := hm.setRow (m := m + i) (v := v) hk (by omega) (h1 v (by simp))
    have ha' : a = b.add m := by simpa using ha.symm
    subst ha'
    obtain ⟨w', hr, hmm⟩ := ih m (i + 1) (cs.set (m + i) v) _ _ hm' (List.getElem?_set_self hlt) ha (by rw [List.length_set]; omega) (fun u hu => h1 u (by simp [hu]))
    refine ⟨w', ?_, ?_⟩
    · show Sem.run P ((store ((b.add m).add i) v).bind fun _ => storeCells (b.add m) vs (i + 1)) w = _
      rw [add_add, run_to (run_store hcell hfr (h1 v (by simp)))]
      exact hr
    · rw [List.set_set] at hmm
      exact hmm
theorem over_ints {kd : IntKind} (ys : List Int) : ∀ (xs : List Int) (i : Nat), i + ys.length ≤ xs.length → over (ints kd xs) i (ints kd ys) = ints kd (cpy xs i ys) := by
  induction ys with
  | nil => intro xs i _; show ints kd xs = _; unfold cpy; simp
  | cons y ys ih =>
    intro xs i h
    rw [List.length_cons] at h
    show over ((ints kd xs).set i (.int kd y)) (i + 1) (ints kd ys) = _
    have e : (ints kd xs).set i (.int kd y) = ints kd (xs.set i y) := by
      have := ints_set kd xs i y
      rwa [Nat.mul_one] at this
    rw [e, ih _ _ (by rw [List.length_set]; omega), cpy_cons (by omega)]
/-! ### rows of operations -/
theorem trips_cons (x : Int × Int × Int) (xs : List (Int × Int × Int)) : trips (x :: xs) = .int .i64 x.1 :: .int .i64 x.2.1 :: .int .i64 x.2.2 :: trips xs := rfl
/-- A part of an operation is turned. -/
def upT (j : Nat) (v : Int) (p : Int × Int × Int) : Int × Int × Int :=
  match j with
  | 0 => (v, p.2.1, p.2.2)
  | 1 => (p.1, v, p.2.2)
  | _ => (p.1, p.2.1, v)
theorem trips_set (i j : Nat) (v : Int) : ∀ xs : List (Int × Int × Int), i < xs.length → j < 3 → (trips xs).set (i * 3 + j) (.int .i64 v) = trips (xs.set i (upT j v (xs.getD i (0, 0, 0)))) := by
  induction i with
  | zero =>
    intro xs h hj
    cases xs with
    | nil => simp at h
    | cons x xs =>
      rw [Nat.zero_mul, Nat.zero_add, trips_cons]
      match j, hj with
      | 0, _ => rfl
      | 1, _ => rfl
      | 2, _ => rfl
  | succ i ih =>
    intro xs h hj
    cases xs with
    | nil => simp at h
    | cons x xs =>
      rw [trips_cons, show (i + 1) * 3 + j = (i * 3 + j) + 1 + 1 + 1 by omega]
      simp only [List.set_cons_succ]
      rw [ih xs (by simpa using h) hj]
      rfl
theorem over_trip (i : Nat) (p : Int × Int × Int) (xs : List (Int × Int × Int)) (h : i < xs.length) : over (trips xs) (i * 3) [.int .i64 p.1, .int .i64 p.2.1, .int .i64 p.2.2] = trips (xs.set i p) := by
  show (((trips xs).set (i * 3) (.int .i64 p.1)).set (i * 3 + 1) (.int .i64 p.2.1)).set (i * 3 + 1 + 1) (.int .i64 p.2.2) = _
  have e0 := trips_set i 0 p.1 xs h (by omega)
  rw [Nat.add_zero] at e0
  rw [e0, trips_set i 1 _ _ (by simpa using h) (by omega), show i * 3 + 1 + 1 = i * 3 + 2 by omega, trips_set i 2 _ _ (by simpa using h) (by omega)]
  simp [h, upT]
variable {t : TypeId} {x y : Operand}
/-- An operation is stored. -/
theorem a_stT (k : Nat) {c e : Nat} {A : Option Addr} {xs : List (Int × Int × Int)} {i : Int} {p : Int × Int × Int} (hk : rs[k]? = some (.row A c e 3 (trips xs))) (hb : 0 ≤ i ∧ i < (xs.length : Int)) (hs : SzIs P t 3) (ho : o.op = .store t x y) (hx : ev E x = some (.pointer (A.map (·.add (i.toNat * 3))))) (hy : ev E y = some (.agg (List.toArray [.int .i64 p.1, .int .i64 p.2.1, .int .i64 p.2.2]))) :
    Acts P o n E w0 rs (fun _ : Unit => undef) (fun _ => rs.set k (.row A c e 3 (trips (xs.set i.toNat p)))) := acts_of_skip fun a w he hm => by
  have hlt : i.toNat < xs.length := by omega
  obtain ⟨b, rfl, _⟩ := hm.setRow (m := i.toNat * 3) (v := .int .i64 0) hk (by rw [trips_len]; omega) rfl
  obtain ⟨w', hr, hm'⟩ := run_storesV (P := P) (a := b.add (i.toNat * 3)) [.int .i64 p.1, .int .i64 p.2.1, .int .i64 p.2.2] (i.toNat * 3) 0 (trips xs) rs w hm hk rfl (by rw [trips_len]; simp; omega) (fun v hv => by
    simp only [List.mem_cons, List.not_mem_nil, or_false] at hv
    rcases hv with rfl | rfl | rfl <;> rfl)
  rw [Nat.add_zero, over_trip _ _ _ hlt] at hm'
  refine ⟨w', ?_, hm'⟩
  simp only [execOp, ho, he.eval hx, he.eval hy]
  show Sem.run P ((Instr.storeAt t (.pointer (some (b.add (i.toNat * 3)))) _).bind fun _ => (pure Next.skip : Sem Next)) w = _
  have : (Instr.storeAt t (.pointer (some (b.add (i.toNat * 3)))) (.agg (List.toArray [.int .i64 p.1, .int .i64 p.2.1, .int .i64 p.2.2]))).run P w = .ok () w' := by
    refine (run_to (run_size hs w)).trans ?_
    exact hr
  rw [run_to this]; rfl
/-- A part of an operation is stored. -/
theorem a_stTf (k j : Nat) {c e : Nat} {A : Option Addr} {xs xs' : List (Int × Int × Int)} {i v : Int} (hk : rs[k]? = some (.row A c e 3 (trips xs))) (hb : 0 ≤ i ∧ i < (xs.length : Int)) (hj : j < 3) (hs : SzIs P t 1)
    (hxs : xs' = xs.set i.toNat (upT j v (rdt xs i))) (ho : o.op = .store t x y) (hx : ev E x = some (.pointer (A.map (·.add (i.toNat * 3 + j))))) (hy : ev E y = some (.int .i64 v)) :
    Acts P o n E w0 rs (fun _ : Unit => undef) (fun _ => rs.set k (.row A c e 3 (trips xs'))) := by
  have hlt : i.toNat < xs.length := by omega
  have h := a_store (P := P) (n := n) (E := E) (w0 := w0) (t := t) k hk hs ho hx hy rfl (by rw [trips_len]; omega)
  rw [trips_set i.toNat j v xs hlt hj] at h
  rw [hxs]
  exact h
/-! ### copies -/
theorem cap_drop {α : Type} {xs : List α} {c : Nat} (h : xs.length ≤ c) (i : Nat) : (xs.drop i).length ≤ c - i := by rw [List.length_drop]; omega
theorem cap_take {α : Type} {xs : List α} {c : Nat} (h : xs.length ≤ c) (i : Nat) : (xs.take i).length ≤ c := by rw [List.length_take]; omega
theorem drop_room {α : Type} {i : Int} {xs : List α} (h : 0 ≤ i ∧ i ≤ (xs.length : Int)) : i.toNat + (xs.drop i.toNat).length ≤ xs.length := by
  rw [List.length_drop]; omega
theorem a_copyI {pr : Call} {t' e e' : Nat} (k : Nat) {kd : IntKind} {c m c0 m2 c2 : Nat} (i : Nat) {A B D : Option Addr} (xs ys : List Int) (hu : P.underlying t = some (.slice e)) (hs : SzIs P e 1) (ho : o.op = .call pr) (hc : pr.callee = .builtin .copy) (ha : pr.args = #[x, y]) (ht : pr.argTypes = #[t, t']) (hx : ev E x = some (.slice D m c0)) (hy : ev E y = some (.slice B m2 c2)) (hk : rs[k]? = some (.row A c e' 1 (ints kd xs))) (hD : D = cutA A c i 1) (hm1 : i + m ≤ xs.length) (hy2 : ys.length = m2) (R : Rd w0 rs B (ints kd ys)) :
    Acts P o n E w0 rs (fun _ : Unit => .int .i64 ((min m2 m : Nat) : Int)) (fun _ => rs.set k (.row A c e' 1 (ints kd (cpy xs i (ys.take (min m2 m)))))) := acts_of_run fun a w he hm => by
  have hl : (ints kd (ys.take (min m2 m))).length = min m2 m * 1 := by rw [ints_len, List.length_take]; omega
  have hR : Rd w0 rs B (ints kd (ys.take (min m2 m))) := by
    have := R.take (min m2 m)
    rwa [ints_take] at this
  have hfc := run_firstCells (P := P) (c := c2) hR hl hm
  have hst : ∃ w', (match D with | some a => storeCells a (ints kd (ys.take (min m2 m))) | none => pure ()).run P w = .ok () w' ∧ Mem w0 (rs.set k (.row A c e' 1 (ints kd (cpy xs i (ys.take (min m2 m)))))) w' := by
    by_cases h0 : min m2 m = 0
    · have e0 : ys.take (min m2 m) = [] := by rw [h0]; rfl
      have e1 : cpy xs i [] = xs := by unfold cpy; simp
      rw [e0, e1, set_same hk]
      refine ⟨w, ?_, hm⟩
      cases D <;> rfl
    · have hcap : xs.length ≤ c := hm.roomI k hk
      have hne : ¬c = i := by omega
      obtain ⟨b, hb, _⟩ := hm.setRow (m := i) (v := .int kd 0) hk (by rw [ints_len]; omega) rfl
      have hD' : D = some (b.add i) := by
        rw [hD, cutA, if_neg hne, hb]; simp
      have hle : i + (ys.take (min m2 m)).length ≤ xs.length := by rw [List.length_take]; omega
      obtain ⟨w', hr, hmm⟩ := run_storesV (P := P) (a := b.add i) (ints kd (ys.take (min m2 m))) i 0 (ints kd xs) rs w hm hk (by rw [hb]; rfl) (by rw [ints_len, ints_len]; omega) (ints_one kd _)
      rw [Nat.add_zero, over_ints _ _ _ hle] at hmm
      refine ⟨w', ?_, hmm⟩
      rw [hD']
      exact hr
  obtain ⟨w', hst, hmm⟩ := hst
  refine ⟨(), w', ?_, hmm⟩
  simp only [execOp, ho, resolve, hc, ha, he.eval hx, he.eval hy, List.map_toArray, List.map_cons, List.map_nil]
  have hcopy : (Builtin.copy_ pr.argTypes o.type #[.slice D m c0, .slice B m2 c2]).run P w = .ok (.int .i64 ((min m2 m : Nat) : Int)) w' := by
    rw [ht]
    refine (run_to (run_underlying hu w)).trans ?_
    refine (run_to (show (Builtin.lenOf (.slice B m2 c2)).run P w = .ok m2 w from rfl)).trans ?_
    refine (run_to (run_size hs w)).trans ?_
    have efc : Builtin.firstCells 1 (Nat.min m2 m) (.slice B m2 c2) = Builtin.firstCells 1 (min m2 m) (.slice B (min m2 m) c2) := by cases B <;> rfl
    rw [← efc] at hfc
    refine (run_to hfc).trans ?_
    have e : (ints kd (ys.take (min m2 m))).toArray.toList = ints kd (ys.take (min m2 m)) := rfl
    cases D with
    | none => 
      have : w' = w := by
        have h2 : (pure () : Sem Unit).run P w = .ok () w' := hst
        injection h2 with _ h2
        exact h2.symm
      subst this
      rfl
    | some d =>
      refine (run_to (show (storeCells d (ints kd (ys.take (min m2 m))).toArray.toList).run P w = .ok () w' from hst)).trans ?_
      rfl
  show Sem.run P ((Builtin.copy_ pr.argTypes o.type #[.slice D m c0, .slice B m2 c2]).bind fun v => (pure (Next.value v) : Sem Next)) w = _
  rw [run_to hcopy]
  rfl
theorem a_cpyI {pr : Call} {t' e e' : Nat} (k : Nat) {kd : IntKind} {c m c0 m2 c2 : Nat} (i : Nat) {A B D : Option Addr} (xs ys : List Int) (ml : Nat) (hu : P.underlying t = some (.slice e)) (hs : SzIs P e 1) (ho : o.op = .call pr) (hc : pr.callee = .builtin .copy) (ha : pr.args = #[x, y]) (ht : pr.argTypes = #[t, t']) (hx : ev E x = some (.slice D m c0)) (hy : ev E y = some (.slice B m2 c2)) (hk : rs[k]? = some (.row A c e' 1 (ints kd xs))) (hD : D = cutA A c i 1) (hm1 : i + ml ≤ xs.length) (hml : ml = m) (hy2 : ys.length = m2) (R : Rd w0 rs B (ints kd ys)) :
    Acts P o n E w0 rs (fun _ : Unit => .int .i64 ((min ys.length ml : Nat) : Int)) (fun _ => rs.set k (.row A c e' 1 (ints kd (cpy xs i (ys.take (min ys.length ml)))))) := by
  subst hml hy2
  exact a_copyI k i xs ys hu hs ho hc ha ht hx hy hk hD hm1 rfl R
theorem cpy_n {xs ys : List Int} {i ml m : Nat} (h : xs.length = m) (hm : i + ml ≤ xs.length) : (cpy xs i (ys.take (min ys.length ml))).length = m := by
  rw [cpy_len (by rw [List.length_take]; omega), h]
theorem q_intu {s d : TypeId} {k : IntKind} {u : TypeDesc} {p : Int} (hs : P.underlying s = some u) (hd : P.underlying d = some (.int .u64)) (ho : o.op = .convert s d x) (hx : ev E x = some (.int k p)) : Quiet P o n E w0 rs (.int .u64 (wu p)) := .of (fun ρ => convert s d (ρ x)) (fun ρ => by simp only [execOp, ho]; rfl) fun ρ w h hm => by
  simp only [h _ _ hx]
  refine (run_to (run_underlying hs w)).trans ?_
  refine (run_to (run_underlying hd w)).trans ?_
  rw [← u64_wrap]
  cases u <;> rfl
/-- A row of operations that do nothing. -/
theorem trips_rep (m : Nat) : (List.replicate m [Value.int .i64 0, .int .i64 0, .int .i64 0]).flatten = trips (List.replicate m (0, 0, 0)) := by
  induction m with
  | zero => rfl
  | succ m ih => rw [List.replicate_succ, List.flatten_cons, ih, List.replicate_succ, trips_cons]; rfl
theorem zeros_three (m : Nat) : (Array.range (m * 3)).map ((#[Value.int .i64 0, .int .i64 0, .int .i64 0] : Array Value)[· % 3]!) = (trips (List.replicate m (0, 0, 0))).toArray := by
  apply Array.ext
  · simp [trips_len]
  · intro i h1 h2
    have hi : i < m * 3 := by simpa using h1
    have e : ∀ j : Nat, j < 3 → ((#[Value.int .i64 0, .int .i64 0, .int .i64 0] : Array Value)[j]!) = .int .i64 0 := by
      intro j hj
      match j, hj with
      | 0, _ => rfl
      | 1, _ => rfl
      | 2, _ => rfl
    have hg := trips_get (xs := List.replicate m ((0 : Int), (0 : Int), (0 : Int))) (i := ((i / 3 : Nat) : Int)) (by omega) (by rw [List.length_replicate]; omega) (i % 3) (by omega)
    rw [Int.toNat_natCast, show i / 3 * 3 + i % 3 = i by omega] at hg
    have hz : rdt (List.replicate m ((0 : Int), (0 : Int), (0 : Int))) ((i / 3 : Nat) : Int) = (0, 0, 0) := by
      unfold rdt
      have : i / 3 < m := by omega
      rw [Int.toNat_natCast, List.getD_eq_getElem?_getD, List.getElem?_replicate, if_pos this]
      rfl
    rw [hz] at hg
    simp only [List.getElem_toArray, Array.getElem_map, Array.getElem_range]
    rw [e _ (by omega)]
    have h3 : i % 3 < 3 := by omega
    have h4 : (trips (List.replicate m ((0 : Int), (0 : Int), (0 : Int))))[i]? = some (.int .i64 0) := by
      rw [hg]
      generalize i % 3 = j at h3
      match j, h3 with
      | 0, _ => rfl
      | 1, _ => rfl
      | 2, _ => rfl
    exact (List.getElem_eq_iff _).2 h4 |>.symm
theorem a_mkT {e b : Nat} {x' : Operand} {m : Int} (hu : P.underlying t = some (.slice e)) (hs : SzIs P e 3) (hb : BytesIs P e b) (hz : ZeroIs P e (.agg (List.toArray [.int .i64 0, .int .i64 0, .int .i64 0]))) (hb1 : Nat.ble b 64 = true) (hm1 : 0 ≤ m ∧ m ≤ 1099511627776) (ho : o.op = .makeSlice t x x') (hx : ev E x = some (.int .i64 m)) (hx' : ev E x' = some (.int .i64 m)) :
    Acts P o n E w0 rs (fun A : Option Addr => .slice A m.toNat m.toNat) (fun A => .row A m.toNat e 3 (trips (List.replicate m.toNat (0, 0, 0))) :: rs) := acts_of_run fun a w he hm => by
  have hb2 : b ≤ 64 := Nat.le_of_ble_eq_true hb1
  refine ⟨some ⟨w.heap.size, 0, none⟩, _, ?_, hm.newRow e m.toNat 3 (trips (List.replicate m.toNat (0, 0, 0))).toArray _ (by simp [trips_len]) (by simp [trips_len]) (fun j hj => ?_)⟩
  · simp only [execOp, ho, he.eval hx, he.eval hx']
    have hbm : (b : Int) * m ≤ 281474976710656 := by
      have h1 : (b : Int) ≤ 64 := by omega
      have h2 : (b : Int) * m ≤ 64 * 1099511627776 := Int.mul_le_mul h1 hm1.2 hm1.1 (by omega)
      omega
    have hw : IntKind.i64.wrap m = m := by rw [i64_wrap]; unfold wrap64; omega
    have : (Instr.makeSlice t (.int .i64 m) (.int .i64 m)).run P w = .ok (.slice (some ⟨w.heap.size, 0, none⟩) m.toNat m.toNat) { w with heap := w.heap.push (.cells (trips (List.replicate m.toNat (0, 0, 0))).toArray e) } := by
      refine (run_to (run_underlying hu w)).trans ?_
      obtain ⟨i, hi, hib⟩ := run_typeInfo_bytes hb w
      refine (run_to (m := asInt (.int .i64 m)) (v := m) (w' := w) rfl).trans ?_
      refine (run_to (m := asInt (.int .i64 m)) (v := m) (w' := w) rfl).trans ?_
      refine (run_to hi).trans ?_
      simp only [hib, hw]
      rw [if_neg (by simp; omega)]
      refine (run_to (run_askRoom _ w)).trans ?_
      refine (run_to (run_size hs w)).trans ?_
      have key : ∀ zc : Array Value, (m.toNat * 3 = 0 ∨ zc = #[Value.int .i64 0, .int .i64 0, .int .i64 0]) → Sem.run P ((newRow e ((Array.range (m.toNat * 3)).map (zc[· % zc.size]!))).bind fun b => (pure (Value.slice (some b) m.toNat m.toNat) : Sem Value)) w = .ok (.slice (some ⟨w.heap.size, 0, none⟩) m.toNat m.toNat) { w with heap := w.heap.push (.cells (trips (List.replicate m.toNat (0, 0, 0))).toArray e) } := by
        intro zc hzc'
        rw [run_to (run_newRow e _ w)]
        have : (Array.range (m.toNat * 3)).map (zc[· % zc.size]!) = (trips (List.replicate m.toNat (0, 0, 0))).toArray := by
          rcases hzc' with h | h
          · rw [show m.toNat = 0 by omega]; simp [trips]
          · subst h; exact zeros_three _
        rw [this]; rfl
      show Sem.run P (if m.toNat * 3 = 0 then _ else _) w = _
      by_cases hc : m.toNat * 3 = 0
      · rw [if_pos hc]
        exact key #[] (.inl hc)
      · rw [if_neg hc]
        exact (run_to (run_zero hz w)).trans (key _ (.inr rfl))
    show Sem.run P ((Instr.makeSlice t (.int .i64 m) (.int .i64 m)).bind fun x => (pure (Next.value x) : Sem Next)) w = _
    rw [run_to this]; rfl
  · simp
end
end Go.Proofs.YtnfaiojmabolmaaDoor.S
