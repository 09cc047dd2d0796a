/- The law FnExactParseOp of the given program returns true for every input, and leaves its input as it was. No condition. -/
import Derived.Test.YtnfaiojmabolmaaDoorRows
import Derived.Test.YtnfaiojmabolmaaDoorCards
import Derived.Test.YtnfaiojmabolmaaDoorTie
import Derived.Test.YtnfaiojmabolmaaDoorDa
import Derived.SevenTiedAt
import Derived.Test.YtnfaiojmabolmaaDoorSj
import Derived.Test.YtnfaiojmabolmaaDoorRa
import Derived.Test.YtnfaiojmabolmaaDoorC3
namespace Go.Proofs.YtnfaiojmabolmaaDoor.fnExactParseOp
open Go Go.ChangeShapes Go.WideShapes Go.ChangeAt Go.RowKit Go.Proofs.YtnfaiojmabolmaaDoor.S Go.Proofs.YtnfaiojmabolmaaDoor.F
set_option linter.unusedVariables false
theorem own : ownKnob Tryd.prog.godebug = none := by kernel_rfl
theorem laidOut : laidOutB Tryd.prog = true := by kernel_rfl
theorem op9 {H : Type} {enc : TypeId × Value → H} {W : World} {sp : Nat → Bool} {held : Bool} {fuel : Nat} {cs : List Value} {x : DataW H × List MemPlace} (h : DataW.trod enc Tryd.prog W 0 sp held fuel 9 cs = some x) : ∃ s : ByteArray, cs = [.string s] ∧ s.size ≤ maxLen := in_string Tryd.underlying9 h
set_option maxRecDepth 100000 in
set_option maxHeartbeats 4000000 in
theorem lifted (os : Os) (started : os.Started) (H : Type) (enc : TypeId × Value → H) :
    ReturnsInHanded {} Tryd.checked os 6 .any (fun w args => (Rows.fnExactParseOpSpec.pre enc Tryd.prog Tryd.f6 [] false w args ∧ laidMetH Tryd.prog D.laidL w) ∧ sizedMet enc Tryd.prog Tryd.f6 (OpenSpec.ofChange Rows.fnExactParseOpSpec) false w args) (Rows.fnExactParseOpSpec.post enc Tryd.prog Tryd.f6 false true false false) := by
  refine returnsInHanded_of_change_and (C := Tryd.checked) (X := fun w _ => laidMetH Tryd.prog D.laidL w) (fun _ _ _ hh h => h.of_heap hh) own started (by kernel_rfl) Tryd.func6
    (ChangeSpec.witness_shaped (enc := enc) (C := Tryd.checked) (os := os) (X := fun w _ => laidMetH Tryd.prog D.laidL w) false (World.doorLaid Tryd.prog 39 os) #[(.string (⟨#[]⟩ : ByteArray))] 8 rfl (World.shaped_of_RefB (by kernel_rfl) (by kernel_rfl)) (by kernel_rfl) (by kernel_rfl) (by kernel_rfl) (D.door_met os _)) ?_
  intro W base args ds gs before hval0 hW _ _ hL _
  have hval : ∀ (j : Nat) t v, Tryd.f6.params[j]? = some t → args[j]? = some v → Value.okWide Tryd.prog W .any base t v := hval0
  have hW' := hW
  obtain ⟨p, q, hA0, hV, rfl, hfz, hnd⟩ := hW
  have hA : DataW.TrodAll enc Tryd.prog W 0 (fun _ => true) true Tryd.f6.params.toList args.toList ds p := hA0
  rw [Tryd.params6] at hA hval
  obtain ⟨v0, vs0, d0, ds0, p0, q0, hargs, rfl, rfl, h0, r0⟩ := trodAll_cons hA
  obtain ⟨rfl, rfl, rfl⟩ := trodAll_nil r0
  obtain rfl : args = #[v0] := by cases args; simp_all
  have hV0 := hV
  obtain ⟨gi, gt, gcs, gfu, gd, gp, rfl, _, _, _, _, rfl⟩ := trodVars_one hV
  have k0 := h0
  have lt0 : ∀ x ∈ p0, x.block < W.heap.size := by obtain ⟨m, hm⟩ := k0; exact DataW.trod_lt m _ _ _ hm
  obtain ⟨fu0, hf0⟩ := h0
  obtain ⟨a0, e0, Fa0⟩ := op9 hf0
  have ok0 := okWide_string Tryd.underlying9 (hval 0 9 v0 rfl rfl)
  obtain ⟨on0, rfl⟩ := ok0
  injection e0 with e0 _
  injection e0 with e0b
  replace e0b := e0b.symm
  subst e0b
  obtain ⟨K, hK⟩ := Pure.FnExactParseOp a0 Fa0
  refine (F.laws_FnExactParseOp.calls K a0 (Mem.start W)  (D.of_laid hL) hK).mono fun e W' ⟨x, he, hm'⟩ => ?_
  subst he
  have bel := hm'.low
  exact ⟨_, rfl, _, _, _, [], _, _, hW', trodAll_mk1 (shut_bool Tryd.underlying4 _), (trodAll_cons_mk (Below.trod laidOut (by kernel_rfl) (of_decide_eq_true (by kernel_rfl)) k0 bel lt0) trodAll_mk0), D.var_after laidOut D.gWords D.tWords (by kernel_rfl) (of_decide_eq_true (by kernel_rfl)) bel hV0, bel.frame _, fun h => by cases h⟩

theorem over : Rows.fnExactParseOpRow.holds Tryd.pinned (OpenSpec.ofChange Rows.fnExactParseOpSpec) :=
  OpenClaim.holds_of_wide 6 Tryd.f6 rfl rfl rfl rfl rfl rfl rfl ⟨rfl, rfl, rfl, rfl, rfl⟩ rfl rfl rfl rfl rfl (by kernel_rfl) Tryd.func6 (by kernel_rfl)
    (of_decide_eq_true (by kernel_rfl)) (by unfold Func.isWrapper; first | (rw [if_pos (by decide +kernel)]; kernel_rfl) | (rw [if_neg (by decide +kernel)]; exact ⟨rfl, rfl⟩))
    (fun os started H enc _ => lifted os started H enc)
theorem proved : Rows.FnExactParseOpSaid := over
theorem card : Rows.FnExactParseOpCardSaid :=
  Claim7.holds_tied_plain_at .later [] [.data, .data, .data, .data] true (true, "d995cf16065d5b73683aa33dc5b79ab5af3905a5c6a43a763186b42b566a35f9") false
    over (fun _ h => by cases h) (by kernel_rfl) (fun _ h => by cases h) fnExactParseOp_row_tie rfl ⟨rfl, rfl⟩ (by kernel_rfl) rfl
    (fun f fn hf hfn => by
      obtain rfl : f = 6 := Option.some.inj ((show Tryd.prog.funcNamed "loop.example/cellcollector/laws.FnExactParseOp" = some 6 by kernel_rfl).symm.trans hf) |>.symm
      obtain rfl : fn = Tryd.f6 := (Option.some.inj (Tryd.func6.symm.trans hfn)).symm
      exact ⟨by kernel_rfl, fun j t ht => by
        rw [Tryd.params6] at ht
        have hm : t ∈ ([9] : List TypeId) := by simpa using Array.mem_of_getElem? ht
        have hall : (([9] : List TypeId).all fun u => !Tryd.prog.wantsStandIn u) = true := by kernel_rfl
        exact (show Tryd.prog.wantsStandIn t = false by simpa using List.all_eq_true.1 hall t hm)⟩)
    (by kernel_rfl)
end Go.Proofs.YtnfaiojmabolmaaDoor.fnExactParseOp
namespace Go.Proofs.YtnfaiojmabolmaaDoor
/-- The row, under a short name, for the claim. -/
theorem fnExactParseOp_holds : Rows.FnExactParseOpCardSaid := fnExactParseOp.card
#print axioms fnExactParseOp_holds
end Go.Proofs.YtnfaiojmabolmaaDoor
