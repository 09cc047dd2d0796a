/- The law FnOpsText of the given program returns true for every input, and leaves its input as it was. No condition. -/
import Derived.Test.YtnfaiojmabolmaaDoorRows
import Derived.Test.YtnfaiojmabolmaaDoorCards
import Derived.Test.YtnfaiojmabolmaaDoorTie
import Derived.Test.YtnfaiojmabolmaaDoorDa
import Derived.Test.YtnfaiojmabolmaaDoorDg
import Derived.Test.YtnfaiojmabolmaaDoorDh
import Derived.SevenTiedAt
import Derived.Test.YtnfaiojmabolmaaDoorSj
import Derived.Test.YtnfaiojmabolmaaDoorRj
import Derived.Test.YtnfaiojmabolmaaDoorC8
namespace Go.Proofs.YtnfaiojmabolmaaDoor.fnOpsText
open Go Go.ChangeShapes Go.WideShapes Go.ChangeAt Go.RowKit Go.Proofs.YtnfaiojmabolmaaDoor.S Go.Proofs.YtnfaiojmabolmaaDoor.F
set_option linter.unusedVariables false
theorem own : ownKnob Tryd.prog.godebug = none := by kernel_rfl
theorem laidOut : laidOutB Tryd.prog = true := by kernel_rfl
theorem op34 {H : Type} {enc : TypeId × Value → H} {W : World} {sp : Nat → Bool} {held : Bool} {fuel : Nat} {cs : List Value} {x : DataW H × List MemPlace} (h : DataW.trod enc Tryd.prog W 0 sp held fuel 34 cs = some x) : ∃ A n c xs, cs = [.slice A n c] ∧ InI W .u8 A n c xs := in_ints Tryd.underlying34 Tryd.underlying5 (by kernel_rfl) h
set_option maxRecDepth 100000 in
set_option maxHeartbeats 4000000 in
theorem lifted (os : Os) (started : os.Started) (H : Type) (enc : TypeId × Value → H) :
    ReturnsInHanded {} Tryd.checked os 5 .any (fun w args => (Rows.fnOpsTextSpec.pre enc Tryd.prog Tryd.f5 [] false w args ∧ laidMetH Tryd.prog D.laidL6 w) ∧ sizedMet enc Tryd.prog Tryd.f5 (OpenSpec.ofChange Rows.fnOpsTextSpec) false w args) (Rows.fnOpsTextSpec.post enc Tryd.prog Tryd.f5 false true false false) := by
  refine D.change_shaped (C := Tryd.checked) (X := fun w _ => laidMetH Tryd.prog D.laidL6 w) (fun _ _ _ hh h => h.of_heap hh) own started (by kernel_rfl) Tryd.func5
    (ChangeSpec.witness_shaped (enc := enc) (C := Tryd.checked) (os := os) (X := fun w _ => laidMetH Tryd.prog D.laidL6 w) false (World.laidAll Tryd.prog os D.laidL6) #[(.slice none 0 0), (.slice none 0 0)] 8 (World.laidAll_os _ _ _) (World.shaped_of_ZipB (by kernel_rfl) (by kernel_rfl)) (by kernel_rfl) (by kernel_rfl) (by kernel_rfl) (D.lay_met6 os _)) ?_
  intro W base args ds gs before hval0 hW hL
  have hval : ∀ (j : Nat) t v, Tryd.f5.params[j]? = some t → args[j]? = some v → Value.okWide Tryd.prog W .any base t v := hval0
  have hW' := hW
  obtain ⟨p, q, hA0, hV, rfl, hfz, hnd⟩ := hW
  have hA : DataW.TrodAll enc Tryd.prog W 0 (fun _ => true) true Tryd.f5.params.toList args.toList ds p := hA0
  rw [Tryd.params5] at hA hval
  obtain ⟨v0, vs0, d0, ds0, p0, q0, hargs, rfl, rfl, h0, r0⟩ := trodAll_cons hA
  obtain ⟨v1, vs1, d1, ds1, p1, q1, rfl, rfl, rfl, h1, r1⟩ := trodAll_cons r0
  obtain ⟨rfl, rfl, rfl⟩ := trodAll_nil r1
  obtain rfl : args = #[v0, v1] := by cases args; simp_all
  have hV0 := hV
  obtain ⟨gi, gt, gcs, gfu, gd, gp, rfl, _, _, _, _, rfl⟩ := trodVars_one hV
  have k0 := h0
  have lt0 : ∀ x ∈ p0, x.block < W.heap.size := by obtain ⟨m, hm⟩ := k0; exact DataW.trod_lt m _ _ _ hm
  obtain ⟨fu0, hf0⟩ := h0
  obtain ⟨a0_A, a0_n, a0_c, a0, e0, Fa0⟩ := op34 hf0
  have ok0 := okWide_slice Tryd.underlying34 (hval 0 34 v0 rfl rfl)
  obtain ⟨oa0, ol0, oc0, rfl⟩ := ok0
  injection e0 with e0 _
  injection e0 with e0a e0b e0c
  replace e0a := e0a.symm
  replace e0b := e0b.symm
  replace e0c := e0c.symm
  subst e0a e0b e0c
  have k1 := h1
  have lt1 : ∀ x ∈ p1, x.block < W.heap.size := by obtain ⟨m, hm⟩ := k1; exact DataW.trod_lt m _ _ _ hm
  obtain ⟨fu1, hf1⟩ := h1
  obtain ⟨a1_A, a1_n, a1_c, a1, e1, Fa1⟩ := op34 hf1
  have ok1 := okWide_slice Tryd.underlying34 (hval 1 34 v1 rfl rfl)
  obtain ⟨oa1, ol1, oc1, rfl⟩ := ok1
  injection e1 with e1 _
  injection e1 with e1a e1b e1c
  replace e1a := e1a.symm
  replace e1b := e1b.symm
  replace e1c := e1c.symm
  subst e1a e1b e1c
  obtain ⟨K, hK⟩ := Pure.FnOpsText a0 Fa0.max (fun x hx => u8_of (Fa0.wf x hx)) a1 Fa1.max (fun x hx => u8_of (Fa1.wf x hx))
  refine (F.laws_FnOpsText.calls K a0 a0_A a0_n a0_c a1 a1_A a1_n a1_c (Mem.start W) Fa0.len Fa0.rd Fa0.cap Fa1.len Fa1.rd Fa1.cap (D.of_laid6 hL.2) (D.maxLen_rd hL.1) hK).mono fun e W' ⟨x, he, hm'⟩ => ?_
  subst he
  have bel := hm'.low
  exact ⟨_, rfl, _, _, _, [], _, _, hW', trodAll_mk1 (shut_bool Tryd.underlying4 _), (trodAll_cons_mk (Below.trod laidOut (by kernel_rfl) (of_decide_eq_true (by kernel_rfl)) k0 bel lt0) (trodAll_cons_mk (Below.trod laidOut (by kernel_rfl) (of_decide_eq_true (by kernel_rfl)) k1 bel lt1) trodAll_mk0)), D.var_after laidOut D.gWords D.tWords (by kernel_rfl) (of_decide_eq_true (by kernel_rfl)) bel hV0, bel.frame _, fun h => by cases h⟩

theorem over : Rows.fnOpsTextRow.holds Tryd.pinned (OpenSpec.ofChange Rows.fnOpsTextSpec) :=
  OpenClaim.holds_of_wide 5 Tryd.f5 rfl rfl rfl rfl rfl rfl rfl ⟨rfl, rfl, rfl, rfl, rfl⟩ rfl rfl rfl rfl rfl (by kernel_rfl) Tryd.func5 (by kernel_rfl)
    (of_decide_eq_true (by kernel_rfl)) (by unfold Func.isWrapper; first | (rw [if_pos (by decide +kernel)]; kernel_rfl) | (rw [if_neg (by decide +kernel)]; exact ⟨rfl, rfl⟩))
    (fun os started H enc _ => lifted os started H enc)
theorem proved : Rows.FnOpsTextSaid := over
theorem card : Rows.FnOpsTextCardSaid :=
  Claim7.holds_tied_plain_at .later [] [.data, .data, .data, .data, .data, .pinned] true (true, "d995cf16065d5b73683aa33dc5b79ab5af3905a5c6a43a763186b42b566a35f9") false
    over (fun _ h => by cases h) (by kernel_rfl) (fun _ h => by cases h) fnOpsText_row_tie rfl ⟨rfl, rfl⟩ (by kernel_rfl) rfl
    (fun f fn hf hfn => by
      obtain rfl : f = 5 := Option.some.inj ((show Tryd.prog.funcNamed "loop.example/cellcollector/laws.FnOpsText" = some 5 by kernel_rfl).symm.trans hf) |>.symm
      obtain rfl : fn = Tryd.f5 := (Option.some.inj (Tryd.func5.symm.trans hfn)).symm
      exact ⟨by kernel_rfl, fun j t ht => by
        rw [Tryd.params5] at ht
        have hm : t ∈ ([34, 34] : List TypeId) := by simpa using Array.mem_of_getElem? ht
        have hall : (([34, 34] : List TypeId).all fun u => !Tryd.prog.wantsStandIn u) = true := by kernel_rfl
        exact (show Tryd.prog.wantsStandIn t = false by simpa using List.all_eq_true.1 hall t hm)⟩)
    (by kernel_rfl)
end Go.Proofs.YtnfaiojmabolmaaDoor.fnOpsText
namespace Go.Proofs.YtnfaiojmabolmaaDoor
/-- The row, under a short name, for the claim. -/
theorem fnOpsText_holds : Rows.FnOpsTextCardSaid := fnOpsText.card
#print axioms fnOpsText_holds
end Go.Proofs.YtnfaiojmabolmaaDoor
