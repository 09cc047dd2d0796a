/- The law FnAllocCell of the given program returns true for every input, and leaves its input as it was. No condition. -/
import Derived.Test.YtigidjhdcplplaaRows
import Derived.Test.YtigidjhdcplplaaSj
import Derived.Test.YtigidjhdcplplaaPq
import Derived.Test.YtigidjhdcplplaaC26
namespace Go.Proofs.Ytigidjhdcplplaa.fnAllocCell
open Go Go.ChangeShapes Go.WideShapes Go.ChangeAt Go.RowKit Go.Proofs.Ytigidjhdcplplaa.S Go.Proofs.Ytigidjhdcplplaa.F
set_option linter.unusedVariables false
theorem own : ownKnob Try.prog.godebug = none := by kernel_rfl
theorem laidOut : laidOutB Try.prog = true := by kernel_rfl
theorem op22 {H : Type} {enc : TypeId × Value → H} {W : World} {sp : Nat → Bool} {held : Bool} {fuel : Nat} {cs : List Value} {x : DataW H × List MemPlace} (h : DataW.trod enc Try.prog W 0 sp held fuel 22 cs = some x) : ∃ A n c xs, cs = [.slice A n c] ∧ InI W .u8 A n c xs := in_ints Try.underlying22 Try.underlying5 (by kernel_rfl) h
set_option maxRecDepth 100000 in
set_option maxHeartbeats 4000000 in
theorem lifted (os : Os) (started : os.Started) (H : Type) (enc : TypeId × Value → H) :
    ReturnsInHanded {} Try.checked os 10 .any (Rows.fnAllocCellSpec.pre6 enc Try.prog Try.f10 Rows.fnAllocCellRow.domain false) (Rows.fnAllocCellSpec.post enc Try.prog Try.f10 false true false false) := by
  refine returnsInHanded_of_change_sized (C := Try.checked) own started (by kernel_rfl) Try.func10
    (ChangeSpec.witness6 (enc := enc) (C := Try.checked) false ⟨#[], #[(.slice none 0 0)], []⟩ 8 (by kernel_rfl) (by kernel_rfl) (by kernel_rfl) (by kernel_rfl)) ?_
  intro W base args ds gs before hval0 hW hcnd hsz0 _
  have hval : ∀ (j : Nat) t v, Try.f10.params[j]? = some t → args[j]? = some v → Value.okWide Try.prog W .any base t v := hval0
  have hW' := hW
  obtain ⟨p, q, hA0, hV, rfl, hfz, hnd⟩ := hW
  have hA : DataW.TrodAll enc Try.prog W 0 (fun _ => true) true Try.f10.params.toList args.toList ds p := hA0
  rw [Try.params10] at hA hval
  obtain ⟨v0, vs0, d0, ds0, p0, q0, hargs, rfl, rfl, h0, r0⟩ := trodAll_cons hA
  obtain ⟨rfl, rfl, rfl⟩ := trodAll_nil r0
  obtain rfl : args = #[v0] := by cases args; simp_all
  obtain ⟨rfl, rfl⟩ := trodVars_none hV
  have k0 := h0
  have lt0 : ∀ x ∈ p0, x.block < W.heap.size := by obtain ⟨m, hm⟩ := k0; exact DataW.trod_lt m _ _ _ hm
  obtain ⟨fu0, hf0⟩ := h0
  obtain ⟨a0_A, a0_n, a0_c, a0, e0, Fa0⟩ := op22 hf0
  have ok0 := okWide_slice Try.underlying22 (hval 0 22 v0 rfl rfl)
  obtain ⟨oa0, ol0, oc0, rfl⟩ := ok0
  injection e0 with e0 _
  injection e0 with e0a e0b e0c
  replace e0a := e0a.symm
  replace e0b := e0b.symm
  replace e0c := e0c.symm
  subst e0a e0b e0c
  obtain ⟨K, hK⟩ := Pure.FnAllocCell a0 Fa0.max (fun x hx => u8_of (Fa0.wf x hx))
  refine (F.laws_FnAllocCell.calls K a0 a0_A a0_n a0_c (Mem.start W) Fa0.len Fa0.rd Fa0.cap hK).mono fun e W' ⟨x, he, hm'⟩ => ?_
  subst he
  have bel := hm'.low
  exact ⟨_, rfl, _, _, _, [], _, [], hW', trodAll_mk1 (shut_bool Try.underlying4 _), (trodAll_cons_mk (Below.trod laidOut (by kernel_rfl) (of_decide_eq_true (by kernel_rfl)) k0 bel lt0) trodAll_mk0), rfl, bel.frame _, fun h => by cases h⟩

theorem over : Rows.fnAllocCellRow.holds Try.pinned (OpenSpec.ofChange Rows.fnAllocCellSpec) :=
  OpenClaim.holds_of_wide 10 Try.f10 rfl rfl rfl rfl rfl rfl rfl ⟨rfl, rfl, rfl, rfl, rfl⟩ rfl rfl rfl rfl rfl (by kernel_rfl) Try.func10 (by kernel_rfl)
    (of_decide_eq_true (by kernel_rfl)) (by unfold Func.isWrapper; first | (rw [if_pos (by decide +kernel)]; kernel_rfl) | (rw [if_neg (by decide +kernel)]; exact ⟨rfl, rfl⟩))
    (fun os started H enc _ => lifted os started H enc)
theorem proved : Rows.FnAllocCellSaid := over
end Go.Proofs.Ytigidjhdcplplaa.fnAllocCell
namespace Go.Proofs.Ytigidjhdcplplaa
/-- The row, under a short name, for the claim. -/
theorem fnAllocCell_holds : Rows.FnAllocCellSaid := fnAllocCell.proved
#print axioms fnAllocCell_holds
end Go.Proofs.Ytigidjhdcplplaa
