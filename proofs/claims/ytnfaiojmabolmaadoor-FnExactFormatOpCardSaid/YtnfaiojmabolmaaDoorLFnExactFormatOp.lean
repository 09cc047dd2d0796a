/- The law FnExactFormatOp of the given program returns true for every input, and leaves its input as it was. No condition. -/
import Derived.Test.YtnfaiojmabolmaaDoorRows
import Derived.Test.YtnfaiojmabolmaaDoorCards
import Derived.Test.YtnfaiojmabolmaaDoorTie
import Derived.Test.YtnfaiojmabolmaaDoorDa
import Derived.SevenTiedAt
import Derived.Test.YtnfaiojmabolmaaDoorSj
import Derived.Test.YtnfaiojmabolmaaDoorRa
import Derived.Test.YtnfaiojmabolmaaDoorC2
namespace Go.Proofs.YtnfaiojmabolmaaDoor.fnExactFormatOp
open Go Go.ChangeShapes Go.WideShapes Go.ChangeAt Go.RowKit Go.Proofs.YtnfaiojmabolmaaDoor.S Go.Proofs.YtnfaiojmabolmaaDoor.F
set_option linter.unusedVariables false
theorem own : ownKnob Tryd.prog.godebug = none := by kernel_rfl
theorem laidOut : laidOutB Tryd.prog = true := by kernel_rfl
theorem op3 {H : Type} {enc : TypeId × Value → H} {W : World} {sp : Nat → Bool} {held : Bool} {fuel : Nat} {cs : List Value} {x : DataW H × List MemPlace} (h : DataW.trod enc Tryd.prog W 0 sp held fuel 3 cs = some x) : ∃ n, cs = [.int .i64 n] ∧ (Lit.int .i64 n).wf = true := in_int Tryd.underlying3 h
theorem op23 {H : Type} {enc : TypeId × Value → H} {W : World} {sp : Nat → Bool} {held : Bool} {fuel : Nat} {cs : List Value} {x : DataW H × List MemPlace} (h : DataW.trod enc Tryd.prog W 0 sp held fuel 23 cs = some x) : ∃ n0 n1 n2, cs = [.int .i64 n0, .int .i64 n1, .int .i64 n2] ∧ (Lit.int .i64 n0).wf = true ∧ (Lit.int .i64 n1).wf = true ∧ (Lit.int .i64 n2).wf = true := by
  obtain ⟨xs, n, _, rfl, hl, hlen, hf⟩ := DataW.trod_struct Tryd.underlying23 h
  match xs, hlen with
  | [y0, y1, y2], _ =>
    obtain ⟨n0, e0, f0⟩ := op3 (hf 0 _ rfl)
    replace e0 : (cs.drop 0).take (Tryd.prog.cellsOf 3) = _ := e0
    rw [show Tryd.prog.cellsOf 3 = 1 by kernel_rfl] at e0
    obtain ⟨n1, e1, f1⟩ := op3 (hf 1 _ rfl)
    replace e1 : (cs.drop 1).take (Tryd.prog.cellsOf 3) = _ := e1
    rw [show Tryd.prog.cellsOf 3 = 1 by kernel_rfl] at e1
    obtain ⟨n2, e2, f2⟩ := op3 (hf 2 _ rfl)
    replace e2 : (cs.drop 2).take (Tryd.prog.cellsOf 3) = _ := e2
    rw [show Tryd.prog.cellsOf 3 = 1 by kernel_rfl] at e2
    have hN : cs.length = 3 := hl.trans (by kernel_rfl)
    refine ⟨n0, n1, n2, ?_, f0, f1, f2⟩
    exact (List.drop_zero).symm.trans (piece e0 ((piece e1 ((piece e2 (piece_end hN) (p := 3) (by decide))) (p := 2) (by decide))) (p := 1) (by decide))

set_option maxRecDepth 100000 in
set_option maxHeartbeats 4000000 in
theorem lifted (os : Os) (started : os.Started) (H : Type) (enc : TypeId × Value → H) :
    ReturnsInHanded {} Tryd.checked os 3 .any (fun w args => (Rows.fnExactFormatOpSpec.pre enc Tryd.prog Tryd.f3 [] false w args ∧ laidMetH Tryd.prog D.laidL w) ∧ sizedMet enc Tryd.prog Tryd.f3 (OpenSpec.ofChange Rows.fnExactFormatOpSpec) false w args) (Rows.fnExactFormatOpSpec.post enc Tryd.prog Tryd.f3 false true false false) := by
  refine returnsInHanded_of_change_and (C := Tryd.checked) (X := fun w _ => laidMetH Tryd.prog D.laidL w) (fun _ _ _ hh h => h.of_heap hh) own started (by kernel_rfl) Tryd.func3
    (ChangeSpec.witness_shaped (enc := enc) (C := Tryd.checked) (os := os) (X := fun w _ => laidMetH Tryd.prog D.laidL w) false (World.doorLaid Tryd.prog 39 os) #[.agg #[(.int .i64 (0:Int)), (.int .i64 (0:Int)), (.int .i64 (0:Int))]] 8 rfl (World.shaped_of_RefB (by kernel_rfl) (by kernel_rfl)) (by kernel_rfl) (by kernel_rfl) (by kernel_rfl) (D.door_met os _)) ?_
  intro W base args ds gs before hval0 hW _ _ hL _
  have hval : ∀ (j : Nat) t v, Tryd.f3.params[j]? = some t → args[j]? = some v → Value.okWide Tryd.prog W .any base t v := hval0
  have hW' := hW
  obtain ⟨p, q, hA0, hV, rfl, hfz, hnd⟩ := hW
  have hA : DataW.TrodAll enc Tryd.prog W 0 (fun _ => true) true Tryd.f3.params.toList args.toList ds p := hA0
  rw [Tryd.params3] at hA hval
  obtain ⟨v0, vs0, d0, ds0, p0, q0, hargs, rfl, rfl, h0, r0⟩ := trodAll_cons hA
  obtain ⟨rfl, rfl, rfl⟩ := trodAll_nil r0
  obtain rfl : args = #[v0] := by cases args; simp_all
  have hV0 := hV
  obtain ⟨gi, gt, gcs, gfu, gd, gp, rfl, _, _, _, _, rfl⟩ := trodVars_one hV
  have k0 := h0
  have lt0 : ∀ x ∈ p0, x.block < W.heap.size := by obtain ⟨m, hm⟩ := k0; exact DataW.trod_lt m _ _ _ hm
  obtain ⟨fu0, hf0⟩ := h0
  obtain ⟨a0_0, a0_1, a0_2, e0, Fa0_0, Fa0_1, Fa0_2⟩ := op23 hf0
  have ok0 := okWide_struct Tryd.underlying23 (hval 0 23 v0 rfl rfl)
  obtain ⟨cs0, rfl, _⟩ := ok0
  obtain rfl : cs0 = List.toArray [.int .i64 a0_0, .int .i64 a0_1, .int .i64 a0_2] := Array.toList_inj.1 e0
  obtain ⟨K, hK⟩ := Pure.FnExactFormatOp a0_0 (i64_of Fa0_0) a0_1 (i64_of Fa0_1) a0_2 (i64_of Fa0_2)
  refine (F.laws_FnExactFormatOp.calls K a0_0 a0_1 a0_2 (Mem.start W)  (D.of_laid hL) hK).mono fun e W' ⟨x, he, hm'⟩ => ?_
  subst he
  have bel := hm'.low
  exact ⟨_, rfl, _, _, _, [], _, _, hW', trodAll_mk1 (shut_bool Tryd.underlying4 _), (trodAll_cons_mk (Below.trod laidOut (by kernel_rfl) (of_decide_eq_true (by kernel_rfl)) k0 bel lt0) trodAll_mk0), D.var_after laidOut D.gWords D.tWords (by kernel_rfl) (of_decide_eq_true (by kernel_rfl)) bel hV0, bel.frame _, fun h => by cases h⟩

theorem over : Rows.fnExactFormatOpRow.holds Tryd.pinned (OpenSpec.ofChange Rows.fnExactFormatOpSpec) :=
  OpenClaim.holds_of_wide 3 Tryd.f3 rfl rfl rfl rfl rfl rfl rfl ⟨rfl, rfl, rfl, rfl, rfl⟩ rfl rfl rfl rfl rfl (by kernel_rfl) Tryd.func3 (by kernel_rfl)
    (of_decide_eq_true (by kernel_rfl)) (by unfold Func.isWrapper; first | (rw [if_pos (by decide +kernel)]; kernel_rfl) | (rw [if_neg (by decide +kernel)]; exact ⟨rfl, rfl⟩))
    (fun os started H enc _ => lifted os started H enc)
theorem proved : Rows.FnExactFormatOpSaid := over
theorem card : Rows.FnExactFormatOpCardSaid :=
  Claim7.holds_tied_plain_at .later [] [.data, .data, .data, .data] true (true, "d995cf16065d5b73683aa33dc5b79ab5af3905a5c6a43a763186b42b566a35f9") false
    over (fun _ h => by cases h) (by kernel_rfl) (fun _ h => by cases h) fnExactFormatOp_row_tie rfl ⟨rfl, rfl⟩ (by kernel_rfl) rfl
    (fun f fn hf hfn => by
      obtain rfl : f = 3 := Option.some.inj ((show Tryd.prog.funcNamed "loop.example/cellcollector/laws.FnExactFormatOp" = some 3 by kernel_rfl).symm.trans hf) |>.symm
      obtain rfl : fn = Tryd.f3 := (Option.some.inj (Tryd.func3.symm.trans hfn)).symm
      exact ⟨by kernel_rfl, fun j t ht => by
        rw [Tryd.params3] at ht
        have hm : t ∈ ([23] : List TypeId) := by simpa using Array.mem_of_getElem? ht
        have hall : (([23] : List TypeId).all fun u => !Tryd.prog.wantsStandIn u) = true := by kernel_rfl
        exact (show Tryd.prog.wantsStandIn t = false by simpa using List.all_eq_true.1 hall t hm)⟩)
    (by kernel_rfl)
end Go.Proofs.YtnfaiojmabolmaaDoor.fnExactFormatOp
namespace Go.Proofs.YtnfaiojmabolmaaDoor
/-- The row, under a short name, for the claim. -/
theorem fnExactFormatOp_holds : Rows.FnExactFormatOpCardSaid := fnExactFormatOp.card
#print axioms fnExactFormatOp_holds
end Go.Proofs.YtnfaiojmabolmaaDoor
