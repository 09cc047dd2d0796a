/- The law FnExactNewStore of the given program returns true for every input, and leaves its input as it was. No condition. -/
import Derived.Test.YtjcbalhdppmdmaaRows
import Derived.Test.YtjcbalhdppmdmaaSj
import Derived.Test.YtjcbalhdppmdmaaPo
import Derived.Test.YtjcbalhdppmdmaaC28
namespace Go.Proofs.Ytjcbalhdppmdmaa.fnExactNewStore
open Go Go.ChangeShapes Go.WideShapes Go.ChangeAt Go.RowKit Go.Proofs.Ytjcbalhdppmdmaa.S Go.Proofs.Ytjcbalhdppmdmaa.F
set_option linter.unusedVariables false
theorem own : ownKnob Try.prog.godebug = none := by kernel_rfl
theorem laidOut : laidOutB Try.prog = true := by kernel_rfl
theorem op3 {H : Type} {enc : TypeId × Value → H} {W : World} {sp : Nat → Bool} {held : Bool} {fuel : Nat} {cs : List Value} {x : DataW H × List MemPlace} (h : DataW.trod enc Try.prog W 0 sp held fuel 3 cs = some x) : ∃ n, cs = [.int .i64 n] ∧ (Lit.int .i64 n).wf = true := in_int Try.underlying3 h
set_option maxRecDepth 100000 in
set_option maxHeartbeats 4000000 in
theorem lifted (os : Os) (started : os.Started) (H : Type) (enc : TypeId × Value → H) :
    ReturnsInHanded {} Try.checked os 9 .any (Rows.fnExactNewStoreSpec.pre6 enc Try.prog Try.f9 Rows.fnExactNewStoreRow.domain false) (Rows.fnExactNewStoreSpec.post enc Try.prog Try.f9 false true false false) := by
  refine returnsInHanded_of_change_sized (C := Try.checked) own started (by kernel_rfl) Try.func9
    (ChangeSpec.witness6 (enc := enc) (C := Try.checked) false ⟨#[], #[(.int .i64 (0:Int)), (.int .i64 (0:Int))], []⟩ 8 (by kernel_rfl) (by kernel_rfl) (by kernel_rfl) (by kernel_rfl)) ?_
  intro W base args ds gs before hval0 hW hcnd hsz0 _
  have hval : ∀ (j : Nat) t v, Try.f9.params[j]? = some t → args[j]? = some v → Value.okWide Try.prog W .any base t v := hval0
  have hW' := hW
  obtain ⟨p, q, hA0, hV, rfl, hfz, hnd⟩ := hW
  have hA : DataW.TrodAll enc Try.prog W 0 (fun _ => true) true Try.f9.params.toList args.toList ds p := hA0
  rw [Try.params9] at hA hval
  obtain ⟨v0, vs0, d0, ds0, p0, q0, hargs, rfl, rfl, h0, r0⟩ := trodAll_cons hA
  obtain ⟨v1, vs1, d1, ds1, p1, q1, rfl, rfl, rfl, h1, r1⟩ := trodAll_cons r0
  obtain ⟨rfl, rfl, rfl⟩ := trodAll_nil r1
  obtain rfl : args = #[v0, v1] := by cases args; simp_all
  obtain ⟨rfl, rfl⟩ := trodVars_none hV
  have k0 := h0
  have lt0 : ∀ x ∈ p0, x.block < W.heap.size := by obtain ⟨m, hm⟩ := k0; exact DataW.trod_lt m _ _ _ hm
  obtain ⟨fu0, hf0⟩ := h0
  obtain ⟨a0, e0, Fa0⟩ := op3 hf0
  have ok0 := okWide_int Try.underlying3 (hval 0 3 v0 rfl rfl)
  obtain ⟨on0, rfl⟩ := ok0
  injection e0 with e0 _
  injection e0 with _ e0b
  replace e0b := e0b.symm
  subst e0b
  have k1 := h1
  have lt1 : ∀ x ∈ p1, x.block < W.heap.size := by obtain ⟨m, hm⟩ := k1; exact DataW.trod_lt m _ _ _ hm
  obtain ⟨fu1, hf1⟩ := h1
  obtain ⟨a1, e1, Fa1⟩ := op3 hf1
  have ok1 := okWide_int Try.underlying3 (hval 1 3 v1 rfl rfl)
  obtain ⟨on1, rfl⟩ := ok1
  injection e1 with e1 _
  injection e1 with _ e1b
  replace e1b := e1b.symm
  subst e1b
  obtain ⟨K, hK⟩ := Pure.FnExactNewStore a0 (i64_of Fa0) a1 (i64_of Fa1)
  refine (F.laws_FnExactNewStore.calls K a0 a1 (Mem.start W)  hK).mono fun e W' ⟨x, he, hm'⟩ => ?_
  subst he
  have bel := hm'.low
  exact ⟨_, rfl, _, _, _, [], _, [], hW', trodAll_mk1 (shut_bool Try.underlying4 _), (trodAll_cons_mk (Below.trod laidOut (by kernel_rfl) (of_decide_eq_true (by kernel_rfl)) k0 bel lt0) (trodAll_cons_mk (Below.trod laidOut (by kernel_rfl) (of_decide_eq_true (by kernel_rfl)) k1 bel lt1) trodAll_mk0)), rfl, bel.frame _, fun h => by cases h⟩

theorem over : Rows.fnExactNewStoreRow.holds Try.pinned (OpenSpec.ofChange Rows.fnExactNewStoreSpec) :=
  OpenClaim.holds_of_wide 9 Try.f9 rfl rfl rfl rfl rfl rfl rfl ⟨rfl, rfl, rfl, rfl, rfl⟩ rfl rfl rfl rfl rfl (by kernel_rfl) Try.func9 (by kernel_rfl)
    (of_decide_eq_true (by kernel_rfl)) (by unfold Func.isWrapper; first | (rw [if_pos (by decide +kernel)]; kernel_rfl) | (rw [if_neg (by decide +kernel)]; exact ⟨rfl, rfl⟩))
    (fun os started H enc _ => lifted os started H enc)
theorem proved : Rows.FnExactNewStoreSaid := over
end Go.Proofs.Ytjcbalhdppmdmaa.fnExactNewStore
namespace Go.Proofs.Ytjcbalhdppmdmaa
/-- The row, under a short name, for the claim. -/
theorem fnExactNewStore_holds : Rows.FnExactNewStoreSaid := fnExactNewStore.proved
#print axioms fnExactNewStore_holds
end Go.Proofs.Ytjcbalhdppmdmaa
