/- The law FnExactMarkAll of the given program returns true for every input, and leaves its input as it was. No condition. -/
import Derived.Test.YtcdcikmphonkfaaRows
import Derived.Test.YtcdcikmphonkfaaSj
import Derived.Test.YtcdcikmphonkfaaQa
import Derived.Test.YtcdcikmphonkfaaC25
namespace Go.Proofs.Ytcdcikmphonkfaa.fnExactMarkAll
open Go Go.ChangeShapes Go.WideShapes Go.ChangeAt Go.RowKit Go.Proofs.Ytcdcikmphonkfaa.S Go.Proofs.Ytcdcikmphonkfaa.F
set_option linter.unusedVariables false
theorem own : ownKnob Try.prog.godebug = none := by kernel_rfl
theorem laidOut : laidOutB Try.prog = true := by kernel_rfl
theorem op23 {H : Type} {enc : TypeId × Value → H} {W : World} {sp : Nat → Bool} {held : Bool} {fuel : Nat} {cs : List Value} {x : DataW H × List MemPlace} (h : DataW.trod enc Try.prog W 0 sp held fuel 23 cs = some x) : ∃ A n c xs, cs = [.slice A n c] ∧ InI W .i64 A n c xs := in_ints Try.underlying23 Try.underlying3 (by kernel_rfl) h
theorem op35 {H : Type} {enc : TypeId × Value → H} {W : World} {sp : Nat → Bool} {held : Bool} {fuel : Nat} {cs : List Value} {x : DataW H × List MemPlace} (h : DataW.trod enc Try.prog W 0 sp held fuel 35 cs = some x) : ∃ A0 n0 c0 xs0 A1 n1 c1 xs1 A2 n2 c2 xs2, cs = [.slice A0 n0 c0, .slice A1 n1 c1, .slice A2 n2 c2] ∧ InI W .i64 A0 n0 c0 xs0 ∧ InI W .i64 A1 n1 c1 xs1 ∧ InI W .i64 A2 n2 c2 xs2 := by
  obtain ⟨xs, n, _, rfl, hl, hlen, hf⟩ := DataW.trod_struct Try.underlying35 h
  match xs, hlen with
  | [y0, y1, y2], _ =>
    obtain ⟨A0, n0, c0, xs0, e0, f0⟩ := op23 (hf 0 _ rfl)
    replace e0 : (cs.drop 0).take (Try.prog.cellsOf 23) = _ := e0
    rw [show Try.prog.cellsOf 23 = 1 by kernel_rfl] at e0
    obtain ⟨A1, n1, c1, xs1, e1, f1⟩ := op23 (hf 1 _ rfl)
    replace e1 : (cs.drop 1).take (Try.prog.cellsOf 23) = _ := e1
    rw [show Try.prog.cellsOf 23 = 1 by kernel_rfl] at e1
    obtain ⟨A2, n2, c2, xs2, e2, f2⟩ := op23 (hf 2 _ rfl)
    replace e2 : (cs.drop 2).take (Try.prog.cellsOf 23) = _ := e2
    rw [show Try.prog.cellsOf 23 = 1 by kernel_rfl] at e2
    have hN : cs.length = 3 := hl.trans (by kernel_rfl)
    refine ⟨A0, n0, c0, xs0, A1, n1, c1, xs1, A2, n2, c2, xs2, ?_, f0, f1, f2⟩
    exact (List.drop_zero).symm.trans (piece e0 ((piece e1 ((piece e2 (piece_end hN) (p := 3) (by decide))) (p := 2) (by decide))) (p := 1) (by decide))

theorem op37 {H : Type} {enc : TypeId × Value → H} {W : World} {sp : Nat → Bool} {held : Bool} {fuel : Nat} {cs : List Value} {x : DataW H × List MemPlace} (h : DataW.trod enc Try.prog W 0 sp held fuel 37 cs = some x) : ∃ A0 n0 c0 xs0 A1 n1 c1 xs1 A2 n2 c2 xs2 A3 n3 c3 xs3, cs = [.slice A0 n0 c0, .slice A1 n1 c1, .slice A2 n2 c2, .slice A3 n3 c3] ∧ InI W .i64 A0 n0 c0 xs0 ∧ InI W .i64 A1 n1 c1 xs1 ∧ InI W .i64 A2 n2 c2 xs2 ∧ InI W .i64 A3 n3 c3 xs3 := by
  obtain ⟨xs, n, _, rfl, hl, hlen, hf⟩ := DataW.trod_struct Try.underlying37 h
  match xs, hlen with
  | [y0, y1], _ =>
    obtain ⟨A0, n0, c0, xs0, A1, n1, c1, xs1, A2, n2, c2, xs2, e0, f0, f1, f2⟩ := op35 (hf 0 _ rfl)
    replace e0 : (cs.drop 0).take (Try.prog.cellsOf 35) = _ := e0
    rw [show Try.prog.cellsOf 35 = 3 by kernel_rfl] at e0
    obtain ⟨A3, n3, c3, xs3, e1, f3⟩ := op23 (hf 1 _ rfl)
    replace e1 : (cs.drop 3).take (Try.prog.cellsOf 23) = _ := e1
    rw [show Try.prog.cellsOf 23 = 1 by kernel_rfl] at e1
    have hN : cs.length = 4 := hl.trans (by kernel_rfl)
    refine ⟨A0, n0, c0, xs0, A1, n1, c1, xs1, A2, n2, c2, xs2, A3, n3, c3, xs3, ?_, f0, f1, f2, f3⟩
    exact (List.drop_zero).symm.trans (piece e0 ((piece e1 (piece_end hN) (p := 4) (by decide))) (p := 3) (by decide))

set_option maxRecDepth 100000 in
set_option maxHeartbeats 4000000 in
theorem lifted (os : Os) (started : os.Started) (H : Type) (enc : TypeId × Value → H) :
    ReturnsInHanded {} Try.checked os 5 .any (Rows.fnExactMarkAllSpec.pre6 enc Try.prog Try.f5 Rows.fnExactMarkAllRow.domain false) (Rows.fnExactMarkAllSpec.post enc Try.prog Try.f5 false true false false) := by
  refine returnsInHanded_of_change_sized (C := Try.checked) own started (by kernel_rfl) Try.func5
    (ChangeSpec.witness6 (enc := enc) (C := Try.checked) false ⟨#[], #[.agg #[(.slice none 0 0), (.slice none 0 0), (.slice none 0 0), (.slice none 0 0)]], []⟩ 8 (by kernel_rfl) (by kernel_rfl) (by kernel_rfl) (by kernel_rfl)) ?_
  intro W base args ds gs before hval0 hW hcnd hsz0 _
  have hval : ∀ (j : Nat) t v, Try.f5.params[j]? = some t → args[j]? = some v → Value.okWide Try.prog W .any base t v := hval0
  have hW' := hW
  obtain ⟨p, q, hA0, hV, rfl, hfz, hnd⟩ := hW
  have hA : DataW.TrodAll enc Try.prog W 0 (fun _ => true) true Try.f5.params.toList args.toList ds p := hA0
  rw [Try.params5] at hA hval
  obtain ⟨v0, vs0, d0, ds0, p0, q0, hargs, rfl, rfl, h0, r0⟩ := trodAll_cons hA
  obtain ⟨rfl, rfl, rfl⟩ := trodAll_nil r0
  obtain rfl : args = #[v0] := by cases args; simp_all
  obtain ⟨rfl, rfl⟩ := trodVars_none hV
  have k0 := h0
  have lt0 : ∀ x ∈ p0, x.block < W.heap.size := by obtain ⟨m, hm⟩ := k0; exact DataW.trod_lt m _ _ _ hm
  obtain ⟨fu0, hf0⟩ := h0
  obtain ⟨a0_0_A, a0_0_n, a0_0_c, a0_0, a0_1_A, a0_1_n, a0_1_c, a0_1, a0_2_A, a0_2_n, a0_2_c, a0_2, a0_3_A, a0_3_n, a0_3_c, a0_3, e0, Fa0_0, Fa0_1, Fa0_2, Fa0_3⟩ := op37 hf0
  have ok0 := okWide_struct Try.underlying37 (hval 0 37 v0 rfl rfl)
  obtain ⟨cs0, rfl, _⟩ := ok0
  obtain rfl : cs0 = List.toArray [.slice a0_0_A a0_0_n a0_0_c, .slice a0_1_A a0_1_n a0_1_c, .slice a0_2_A a0_2_n a0_2_c, .slice a0_3_A a0_3_n a0_3_c] := Array.toList_inj.1 e0
  obtain ⟨K, hK⟩ := Pure.FnExactMarkAll a0_0 Fa0_0.max (fun x hx => i64_of (Fa0_0.wf x hx)) a0_1 Fa0_1.max (fun x hx => i64_of (Fa0_1.wf x hx)) a0_2 Fa0_2.max (fun x hx => i64_of (Fa0_2.wf x hx)) a0_3 Fa0_3.max (fun x hx => i64_of (Fa0_3.wf x hx))
  refine (F.laws_FnExactMarkAll.calls K a0_0 a0_0_A a0_0_n a0_0_c a0_1 a0_1_A a0_1_n a0_1_c a0_2 a0_2_A a0_2_n a0_2_c a0_3 a0_3_A a0_3_n a0_3_c (Mem.start W) Fa0_0.len Fa0_0.rd Fa0_1.len Fa0_1.rd Fa0_2.len Fa0_2.rd Fa0_3.len Fa0_3.rd hK).mono fun e W' ⟨x, he, hm'⟩ => ?_
  subst he
  have bel := hm'.low
  exact ⟨_, rfl, _, _, _, [], _, [], hW', trodAll_mk1 (shut_bool Try.underlying4 _), (trodAll_cons_mk (Below.trod laidOut (by kernel_rfl) (of_decide_eq_true (by kernel_rfl)) k0 bel lt0) trodAll_mk0), rfl, bel.frame _, fun h => by cases h⟩

theorem over : Rows.fnExactMarkAllRow.holds Try.pinned (OpenSpec.ofChange Rows.fnExactMarkAllSpec) :=
  OpenClaim.holds_of_wide 5 Try.f5 rfl rfl rfl rfl rfl rfl rfl ⟨rfl, rfl, rfl, rfl, rfl⟩ rfl rfl rfl rfl rfl (by kernel_rfl) Try.func5 (by kernel_rfl)
    (of_decide_eq_true (by kernel_rfl)) (by unfold Func.isWrapper; first | (rw [if_pos (by decide +kernel)]; kernel_rfl) | (rw [if_neg (by decide +kernel)]; exact ⟨rfl, rfl⟩))
    (fun os started H enc _ => lifted os started H enc)
theorem proved : Rows.FnExactMarkAllSaid := over
end Go.Proofs.Ytcdcikmphonkfaa.fnExactMarkAll
namespace Go.Proofs.Ytcdcikmphonkfaa
/-- The row, under a short name, for the claim. -/
theorem fnExactMarkAll_holds : Rows.FnExactMarkAllSaid := fnExactMarkAll.proved
#print axioms fnExactMarkAll_holds
end Go.Proofs.Ytcdcikmphonkfaa
