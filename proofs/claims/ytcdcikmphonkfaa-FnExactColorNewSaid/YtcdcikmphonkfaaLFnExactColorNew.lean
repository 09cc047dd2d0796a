/- The law FnExactColorNew of the given program returns true for every input, and leaves its input as it was. No condition. -/
import Derived.Test.YtcdcikmphonkfaaRows
import Derived.Test.YtcdcikmphonkfaaSj
import Derived.Test.YtcdcikmphonkfaaQb
import Derived.Test.YtcdcikmphonkfaaC23
namespace Go.Proofs.Ytcdcikmphonkfaa.fnExactColorNew
open Go Go.ChangeShapes Go.WideShapes Go.ChangeAt Go.RowKit Go.Proofs.Ytcdcikmphonkfaa.S Go.Proofs.Ytcdcikmphonkfaa.F
set_option linter.unusedVariables false
theorem own : ownKnob Try.prog.godebug = none := by kernel_rfl
theorem laidOut : laidOutB Try.prog = true := by kernel_rfl
theorem op23 {H : Type} {enc : TypeId × Value → H} {W : World} {sp : Nat → Bool} {held : Bool} {fuel : Nat} {cs : List Value} {x : DataW H × List MemPlace} (h : DataW.trod enc Try.prog W 0 sp held fuel 23 cs = some x) : ∃ A n c xs, cs = [.slice A n c] ∧ InI W .i64 A n c xs := in_ints Try.underlying23 Try.underlying3 (by kernel_rfl) h
theorem op35 {H : Type} {enc : TypeId × Value → H} {W : World} {sp : Nat → Bool} {held : Bool} {fuel : Nat} {cs : List Value} {x : DataW H × List MemPlace} (h : DataW.trod enc Try.prog W 0 sp held fuel 35 cs = some x) : ∃ A0 n0 c0 xs0 A1 n1 c1 xs1 A2 n2 c2 xs2, cs = [.slice A0 n0 c0, .slice A1 n1 c1, .slice A2 n2 c2] ∧ InI W .i64 A0 n0 c0 xs0 ∧ InI W .i64 A1 n1 c1 xs1 ∧ InI W .i64 A2 n2 c2 xs2 := by
  obtain ⟨xs, n, _, rfl, hl, hlen, hf⟩ := DataW.trod_struct Try.underlying35 h
  match xs, hlen with
  | [y0, y1, y2], _ =>
    obtain ⟨A0, n0, c0, xs0, e0, f0⟩ := op23 (hf 0 _ rfl)
    replace e0 : (cs.drop 0).take (Try.prog.cellsOf 23) = _ := e0
    rw [show Try.prog.cellsOf 23 = 1 by kernel_rfl] at e0
    obtain ⟨A1, n1, c1, xs1, e1, f1⟩ := op23 (hf 1 _ rfl)
    replace e1 : (cs.drop 1).take (Try.prog.cellsOf 23) = _ := e1
    rw [show Try.prog.cellsOf 23 = 1 by kernel_rfl] at e1
    obtain ⟨A2, n2, c2, xs2, e2, f2⟩ := op23 (hf 2 _ rfl)
    replace e2 : (cs.drop 2).take (Try.prog.cellsOf 23) = _ := e2
    rw [show Try.prog.cellsOf 23 = 1 by kernel_rfl] at e2
    have hN : cs.length = 3 := hl.trans (by kernel_rfl)
    refine ⟨A0, n0, c0, xs0, A1, n1, c1, xs1, A2, n2, c2, xs2, ?_, f0, f1, f2⟩
    exact (List.drop_zero).symm.trans (piece e0 ((piece e1 ((piece e2 (piece_end hN) (p := 3) (by decide))) (p := 2) (by decide))) (p := 1) (by decide))

theorem op48 {H : Type} {enc : TypeId × Value → H} {W : World} {sp : Nat → Bool} {held : Bool} {fuel : Nat} {cs : List Value} {x : DataW H × List MemPlace} (h : DataW.trod enc Try.prog W 0 sp held fuel 48 cs = some x) : ∃ A0 n0 c0 xs0 A1 n1 c1 xs1 A2 n2 c2 xs2 A3 n3 c3 xs3, cs = [.slice A0 n0 c0, .slice A1 n1 c1, .slice A2 n2 c2, .slice A3 n3 c3] ∧ InI W .i64 A0 n0 c0 xs0 ∧ InI W .i64 A1 n1 c1 xs1 ∧ InI W .i64 A2 n2 c2 xs2 ∧ InI W .i64 A3 n3 c3 xs3 := by
  obtain ⟨xs, n, _, rfl, hl, hlen, hf⟩ := DataW.trod_struct Try.underlying48 h
  match xs, hlen with
  | [y0, y1], _ =>
    obtain ⟨A0, n0, c0, xs0, A1, n1, c1, xs1, A2, n2, c2, xs2, e0, f0, f1, f2⟩ := op35 (hf 0 _ rfl)
    replace e0 : (cs.drop 0).take (Try.prog.cellsOf 35) = _ := e0
    rw [show Try.prog.cellsOf 35 = 3 by kernel_rfl] at e0
    obtain ⟨A3, n3, c3, xs3, e1, f3⟩ := op23 (hf 1 _ rfl)
    replace e1 : (cs.drop 3).take (Try.prog.cellsOf 23) = _ := e1
    rw [show Try.prog.cellsOf 23 = 1 by kernel_rfl] at e1
    have hN : cs.length = 4 := hl.trans (by kernel_rfl)
    refine ⟨A0, n0, c0, xs0, A1, n1, c1, xs1, A2, n2, c2, xs2, A3, n3, c3, xs3, ?_, f0, f1, f2, f3⟩
    exact (List.drop_zero).symm.trans (piece e0 ((piece e1 (piece_end hN) (p := 4) (by decide))) (p := 3) (by decide))

theorem op3 {H : Type} {enc : TypeId × Value → H} {W : World} {sp : Nat → Bool} {held : Bool} {fuel : Nat} {cs : List Value} {x : DataW H × List MemPlace} (h : DataW.trod enc Try.prog W 0 sp held fuel 3 cs = some x) : ∃ n, cs = [.int .i64 n] ∧ (Lit.int .i64 n).wf = true := in_int Try.underlying3 h
theorem op50 {H : Type} {enc : TypeId × Value → H} {W : World} {sp : Nat → Bool} {held : Bool} {fuel : Nat} {cs : List Value} {x : DataW H × List MemPlace} (h : DataW.trod enc Try.prog W 0 sp held fuel 50 cs = some x) : ∃ n0 A1 n1 c1 xs1 n2, cs = [.int .i64 n0, .slice A1 n1 c1, .int .i64 n2] ∧ (Lit.int .i64 n0).wf = true ∧ InI W .i64 A1 n1 c1 xs1 ∧ (Lit.int .i64 n2).wf = true := by
  obtain ⟨xs, n, _, rfl, hl, hlen, hf⟩ := DataW.trod_struct Try.underlying50 h
  match xs, hlen with
  | [y0, y1, y2], _ =>
    obtain ⟨n0, e0, f0⟩ := op3 (hf 0 _ rfl)
    replace e0 : (cs.drop 0).take (Try.prog.cellsOf 3) = _ := e0
    rw [show Try.prog.cellsOf 3 = 1 by kernel_rfl] at e0
    obtain ⟨A1, n1, c1, xs1, e1, f1⟩ := op23 (hf 1 _ rfl)
    replace e1 : (cs.drop 1).take (Try.prog.cellsOf 23) = _ := e1
    rw [show Try.prog.cellsOf 23 = 1 by kernel_rfl] at e1
    obtain ⟨n2, e2, f2⟩ := op3 (hf 2 _ rfl)
    replace e2 : (cs.drop 2).take (Try.prog.cellsOf 3) = _ := e2
    rw [show Try.prog.cellsOf 3 = 1 by kernel_rfl] at e2
    have hN : cs.length = 3 := hl.trans (by kernel_rfl)
    refine ⟨n0, A1, n1, c1, xs1, n2, ?_, f0, f1, f2⟩
    exact (List.drop_zero).symm.trans (piece e0 ((piece e1 ((piece e2 (piece_end hN) (p := 3) (by decide))) (p := 2) (by decide))) (p := 1) (by decide))

set_option maxRecDepth 100000 in
set_option maxHeartbeats 4000000 in
theorem lifted (os : Os) (started : os.Started) (H : Type) (enc : TypeId × Value → H) :
    ReturnsInHanded {} Try.checked os 10 .any (Rows.fnExactColorNewSpec.pre6 enc Try.prog Try.f10 Rows.fnExactColorNewRow.domain false) (Rows.fnExactColorNewSpec.post enc Try.prog Try.f10 false true false false) := by
  refine returnsInHanded_of_change_sized (C := Try.checked) own started (by kernel_rfl) Try.func10
    (ChangeSpec.witness6 (enc := enc) (C := Try.checked) false ⟨#[], #[.agg #[(.slice none 0 0), (.slice none 0 0), (.slice none 0 0), (.slice none 0 0)], .agg #[(.int .i64 (0:Int)), (.slice none 0 0), (.int .i64 (0:Int))], (.int .i64 (0:Int))], []⟩ 8 (by kernel_rfl) (by kernel_rfl) (by kernel_rfl) (by kernel_rfl)) ?_
  intro W base args ds gs before hval0 hW hcnd hsz0 _
  have hval : ∀ (j : Nat) t v, Try.f10.params[j]? = some t → args[j]? = some v → Value.okWide Try.prog W .any base t v := hval0
  have hW' := hW
  obtain ⟨p, q, hA0, hV, rfl, hfz, hnd⟩ := hW
  have hA : DataW.TrodAll enc Try.prog W 0 (fun _ => true) true Try.f10.params.toList args.toList ds p := hA0
  rw [Try.params10] at hA hval
  obtain ⟨v0, vs0, d0, ds0, p0, q0, hargs, rfl, rfl, h0, r0⟩ := trodAll_cons hA
  obtain ⟨v1, vs1, d1, ds1, p1, q1, rfl, rfl, rfl, h1, r1⟩ := trodAll_cons r0
  obtain ⟨v2, vs2, d2, ds2, p2, q2, rfl, rfl, rfl, h2, r2⟩ := trodAll_cons r1
  obtain ⟨rfl, rfl, rfl⟩ := trodAll_nil r2
  obtain rfl : args = #[v0, v1, v2] := by cases args; simp_all
  obtain ⟨rfl, rfl⟩ := trodVars_none hV
  have k0 := h0
  have lt0 : ∀ x ∈ p0, x.block < W.heap.size := by obtain ⟨m, hm⟩ := k0; exact DataW.trod_lt m _ _ _ hm
  obtain ⟨fu0, hf0⟩ := h0
  obtain ⟨a0_0_A, a0_0_n, a0_0_c, a0_0, a0_1_A, a0_1_n, a0_1_c, a0_1, a0_2_A, a0_2_n, a0_2_c, a0_2, a0_3_A, a0_3_n, a0_3_c, a0_3, e0, Fa0_0, Fa0_1, Fa0_2, Fa0_3⟩ := op48 hf0
  have ok0 := okWide_struct Try.underlying48 (hval 0 48 v0 rfl rfl)
  obtain ⟨cs0, rfl, _⟩ := ok0
  obtain rfl : cs0 = List.toArray [.slice a0_0_A a0_0_n a0_0_c, .slice a0_1_A a0_1_n a0_1_c, .slice a0_2_A a0_2_n a0_2_c, .slice a0_3_A a0_3_n a0_3_c] := Array.toList_inj.1 e0
  have k1 := h1
  have lt1 : ∀ x ∈ p1, x.block < W.heap.size := by obtain ⟨m, hm⟩ := k1; exact DataW.trod_lt m _ _ _ hm
  obtain ⟨fu1, hf1⟩ := h1
  obtain ⟨a1_0, a1_1_A, a1_1_n, a1_1_c, a1_1, a1_2, e1, Fa1_0, Fa1_1, Fa1_2⟩ := op50 hf1
  have ok1 := okWide_struct Try.underlying50 (hval 1 50 v1 rfl rfl)
  obtain ⟨cs1, rfl, _⟩ := ok1
  obtain rfl : cs1 = List.toArray [.int .i64 a1_0, .slice a1_1_A a1_1_n a1_1_c, .int .i64 a1_2] := Array.toList_inj.1 e1
  have k2 := h2
  have lt2 : ∀ x ∈ p2, x.block < W.heap.size := by obtain ⟨m, hm⟩ := k2; exact DataW.trod_lt m _ _ _ hm
  obtain ⟨fu2, hf2⟩ := h2
  obtain ⟨a2, e2, Fa2⟩ := op3 hf2
  have ok2 := okWide_int Try.underlying3 (hval 2 3 v2 rfl rfl)
  obtain ⟨on2, rfl⟩ := ok2
  injection e2 with e2 _
  injection e2 with _ e2b
  replace e2b := e2b.symm
  subst e2b
  obtain ⟨K, hK⟩ := Pure.FnExactColorNew a0_0 Fa0_0.max (fun x hx => i64_of (Fa0_0.wf x hx)) a0_1 Fa0_1.max (fun x hx => i64_of (Fa0_1.wf x hx)) a0_2 Fa0_2.max (fun x hx => i64_of (Fa0_2.wf x hx)) a0_3 Fa0_3.max (fun x hx => i64_of (Fa0_3.wf x hx)) a1_0 (i64_of Fa1_0) a1_1 Fa1_1.max (fun x hx => i64_of (Fa1_1.wf x hx)) a1_2 (i64_of Fa1_2) a2 (i64_of Fa2)
  refine (F.laws_FnExactColorNew.calls K a0_0 a0_0_A a0_0_n a0_0_c a0_1 a0_1_A a0_1_n a0_1_c a0_2 a0_2_A a0_2_n a0_2_c a0_3 a0_3_A a0_3_n a0_3_c a1_0 a1_1 a1_1_A a1_1_n a1_1_c a1_2 a2 (Mem.start W) Fa0_0.len Fa0_0.rd Fa0_1.len Fa0_1.rd Fa0_2.len Fa0_2.rd Fa0_3.len Fa0_3.rd Fa1_1.len Fa1_1.rd hK).mono fun e W' ⟨x, he, hm'⟩ => ?_
  subst he
  have bel := hm'.low
  exact ⟨_, rfl, _, _, _, [], _, [], hW', trodAll_mk1 (shut_bool Try.underlying4 _), (trodAll_cons_mk (Below.trod laidOut (by kernel_rfl) (of_decide_eq_true (by kernel_rfl)) k0 bel lt0) (trodAll_cons_mk (Below.trod laidOut (by kernel_rfl) (of_decide_eq_true (by kernel_rfl)) k1 bel lt1) (trodAll_cons_mk (Below.trod laidOut (by kernel_rfl) (of_decide_eq_true (by kernel_rfl)) k2 bel lt2) trodAll_mk0))), rfl, bel.frame _, fun h => by cases h⟩

theorem over : Rows.fnExactColorNewRow.holds Try.pinned (OpenSpec.ofChange Rows.fnExactColorNewSpec) :=
  OpenClaim.holds_of_wide 10 Try.f10 rfl rfl rfl rfl rfl rfl rfl ⟨rfl, rfl, rfl, rfl, rfl⟩ rfl rfl rfl rfl rfl (by kernel_rfl) Try.func10 (by kernel_rfl)
    (of_decide_eq_true (by kernel_rfl)) (by unfold Func.isWrapper; first | (rw [if_pos (by decide +kernel)]; kernel_rfl) | (rw [if_neg (by decide +kernel)]; exact ⟨rfl, rfl⟩))
    (fun os started H enc _ => lifted os started H enc)
theorem proved : Rows.FnExactColorNewSaid := over
end Go.Proofs.Ytcdcikmphonkfaa.fnExactColorNew
namespace Go.Proofs.Ytcdcikmphonkfaa
/-- The row, under a short name, for the claim. -/
theorem fnExactColorNew_holds : Rows.FnExactColorNewSaid := fnExactColorNew.proved
#print axioms fnExactColorNew_holds
end Go.Proofs.Ytcdcikmphonkfaa
