/- The law FnExactBothSame of the given program returns true for every input, and leaves its input as it was. No condition. -/
import Derived.Test.YtpfkcjddilpbkaaRows
import Derived.Test.YtpfkcjddilpbkaaSn
import Derived.Test.YtpfkcjddilpbkaaQd
import Derived.Test.YtpfkcjddilpbkaaC10
namespace Go.Proofs.Ytpfkcjddilpbkaa.fnExactBothSame
open Go Go.ChangeShapes Go.WideShapes Go.ChangeAt Go.RowKit Go.Proofs.Ytpfkcjddilpbkaa.S Go.Proofs.Ytpfkcjddilpbkaa.F
set_option linter.unusedVariables false
theorem own : ownKnob Try.prog.godebug = none := by kernel_rfl
theorem laidOut : laidOutB Try.prog = true := by kernel_rfl
theorem op22 {H : Type} {enc : TypeId × Value → H} {W : World} {sp : Nat → Bool} {held : Bool} {fuel : Nat} {cs : List Value} {x : DataW H × List MemPlace} (h : DataW.trod enc Try.prog W 0 sp held fuel 22 cs = some x) : ∃ A n c xs, cs = [.slice A n c] ∧ InI W .i64 A n c xs := in_ints Try.underlying22 Try.underlying3 (by kernel_rfl) h
theorem op24 {H : Type} {enc : TypeId × Value → H} {W : World} {sp : Nat → Bool} {held : Bool} {fuel : Nat} {cs : List Value} {x : DataW H × List MemPlace} (h : DataW.trod enc Try.prog W 0 sp held fuel 24 cs = some x) : ∃ A0 n0 c0 xs0 A1 n1 c1 xs1 A2 n2 c2 xs2, cs = [.slice A0 n0 c0, .slice A1 n1 c1, .slice A2 n2 c2] ∧ InI W .i64 A0 n0 c0 xs0 ∧ InI W .i64 A1 n1 c1 xs1 ∧ InI W .i64 A2 n2 c2 xs2 := by
  obtain ⟨xs, n, _, rfl, hl, hlen, hf⟩ := DataW.trod_struct Try.underlying24 h
  match xs, hlen with
  | [y0, y1, y2], _ =>
    obtain ⟨A0, n0, c0, xs0, e0, f0⟩ := op22 (hf 0 _ rfl)
    replace e0 : (cs.drop 0).take (Try.prog.cellsOf 22) = _ := e0
    rw [show Try.prog.cellsOf 22 = 1 by kernel_rfl] at e0
    obtain ⟨A1, n1, c1, xs1, e1, f1⟩ := op22 (hf 1 _ rfl)
    replace e1 : (cs.drop 1).take (Try.prog.cellsOf 22) = _ := e1
    rw [show Try.prog.cellsOf 22 = 1 by kernel_rfl] at e1
    obtain ⟨A2, n2, c2, xs2, e2, f2⟩ := op22 (hf 2 _ rfl)
    replace e2 : (cs.drop 2).take (Try.prog.cellsOf 22) = _ := e2
    rw [show Try.prog.cellsOf 22 = 1 by kernel_rfl] at e2
    have hN : cs.length = 3 := hl.trans (by kernel_rfl)
    refine ⟨A0, n0, c0, xs0, A1, n1, c1, xs1, A2, n2, c2, xs2, ?_, f0, f1, f2⟩
    exact (List.drop_zero).symm.trans (piece e0 ((piece e1 ((piece e2 (piece_end hN) (p := 3) (by decide))) (p := 2) (by decide))) (p := 1) (by decide))

theorem op26 {H : Type} {enc : TypeId × Value → H} {W : World} {sp : Nat → Bool} {held : Bool} {fuel : Nat} {cs : List Value} {x : DataW H × List MemPlace} (h : DataW.trod enc Try.prog W 0 sp held fuel 26 cs = some x) : ∃ A0 n0 c0 xs0 A1 n1 c1 xs1 A2 n2 c2 xs2 A3 n3 c3 xs3, cs = [.slice A0 n0 c0, .slice A1 n1 c1, .slice A2 n2 c2, .slice A3 n3 c3] ∧ InI W .i64 A0 n0 c0 xs0 ∧ InI W .i64 A1 n1 c1 xs1 ∧ InI W .i64 A2 n2 c2 xs2 ∧ InI W .i64 A3 n3 c3 xs3 := by
  obtain ⟨xs, n, _, rfl, hl, hlen, hf⟩ := DataW.trod_struct Try.underlying26 h
  match xs, hlen with
  | [y0, y1], _ =>
    obtain ⟨A0, n0, c0, xs0, A1, n1, c1, xs1, A2, n2, c2, xs2, e0, f0, f1, f2⟩ := op24 (hf 0 _ rfl)
    replace e0 : (cs.drop 0).take (Try.prog.cellsOf 24) = _ := e0
    rw [show Try.prog.cellsOf 24 = 3 by kernel_rfl] at e0
    obtain ⟨A3, n3, c3, xs3, e1, f3⟩ := op22 (hf 1 _ rfl)
    replace e1 : (cs.drop 3).take (Try.prog.cellsOf 22) = _ := e1
    rw [show Try.prog.cellsOf 22 = 1 by kernel_rfl] at e1
    have hN : cs.length = 4 := hl.trans (by kernel_rfl)
    refine ⟨A0, n0, c0, xs0, A1, n1, c1, xs1, A2, n2, c2, xs2, A3, n3, c3, xs3, ?_, f0, f1, f2, f3⟩
    exact (List.drop_zero).symm.trans (piece e0 ((piece e1 (piece_end hN) (p := 4) (by decide))) (p := 3) (by decide))

theorem op3 {H : Type} {enc : TypeId × Value → H} {W : World} {sp : Nat → Bool} {held : Bool} {fuel : Nat} {cs : List Value} {x : DataW H × List MemPlace} (h : DataW.trod enc Try.prog W 0 sp held fuel 3 cs = some x) : ∃ n, cs = [.int .i64 n] ∧ (Lit.int .i64 n).wf = true := in_int Try.underlying3 h
theorem op28 {H : Type} {enc : TypeId × Value → H} {W : World} {sp : Nat → Bool} {held : Bool} {fuel : Nat} {cs : List Value} {x : DataW H × List MemPlace} (h : DataW.trod enc Try.prog W 0 sp held fuel 28 cs = some x) : ∃ n0 A1 n1 c1 xs1 n2, cs = [.int .i64 n0, .slice A1 n1 c1, .int .i64 n2] ∧ (Lit.int .i64 n0).wf = true ∧ InI W .i64 A1 n1 c1 xs1 ∧ (Lit.int .i64 n2).wf = true := by
  obtain ⟨xs, n, _, rfl, hl, hlen, hf⟩ := DataW.trod_struct Try.underlying28 h
  match xs, hlen with
  | [y0, y1, y2], _ =>
    obtain ⟨n0, e0, f0⟩ := op3 (hf 0 _ rfl)
    replace e0 : (cs.drop 0).take (Try.prog.cellsOf 3) = _ := e0
    rw [show Try.prog.cellsOf 3 = 1 by kernel_rfl] at e0
    obtain ⟨A1, n1, c1, xs1, e1, f1⟩ := op22 (hf 1 _ rfl)
    replace e1 : (cs.drop 1).take (Try.prog.cellsOf 22) = _ := e1
    rw [show Try.prog.cellsOf 22 = 1 by kernel_rfl] at e1
    obtain ⟨n2, e2, f2⟩ := op3 (hf 2 _ rfl)
    replace e2 : (cs.drop 2).take (Try.prog.cellsOf 3) = _ := e2
    rw [show Try.prog.cellsOf 3 = 1 by kernel_rfl] at e2
    have hN : cs.length = 3 := hl.trans (by kernel_rfl)
    refine ⟨n0, A1, n1, c1, xs1, n2, ?_, f0, f1, f2⟩
    exact (List.drop_zero).symm.trans (piece e0 ((piece e1 ((piece e2 (piece_end hN) (p := 3) (by decide))) (p := 2) (by decide))) (p := 1) (by decide))

theorem op29 {H : Type} {enc : TypeId × Value → H} {W : World} {sp : Nat → Bool} {held : Bool} {fuel : Nat} {cs : List Value} {x : DataW H × List MemPlace} (h : DataW.trod enc Try.prog W 0 sp held fuel 29 cs = some x) : ∃ A n c xs, cs = [.slice A n c] ∧ InT W A n c xs := in_ops Try.underlying29 Try.underlying89 Try.underlying3 Try.underlying3 Try.underlying3 rfl rfl rfl (by kernel_rfl) (by kernel_rfl) (by kernel_rfl) (by kernel_rfl) h
theorem op4 {H : Type} {enc : TypeId × Value → H} {W : World} {sp : Nat → Bool} {held : Bool} {fuel : Nat} {cs : List Value} {x : DataW H × List MemPlace} (h : DataW.trod enc Try.prog W 0 sp held fuel 4 cs = some x) : ∃ b : Bool, cs = [.bool b] ∧ True := in_bool Try.underlying4 h
theorem op31 {H : Type} {enc : TypeId × Value → H} {W : World} {sp : Nat → Bool} {held : Bool} {fuel : Nat} {cs : List Value} {x : DataW H × List MemPlace} (h : DataW.trod enc Try.prog W 0 sp held fuel 31 cs = some x) : ∃ A0 n0 c0 xs0 A1 n1 c1 xs1 A2 n2 c2 xs2 A3 n3 c3 xs3 n4 A5 n5 c5 xs5 n6 A7 n7 c7 xs7 n8 b9, cs = [.slice A0 n0 c0, .slice A1 n1 c1, .slice A2 n2 c2, .slice A3 n3 c3, .int .i64 n4, .slice A5 n5 c5, .int .i64 n6, .slice A7 n7 c7, .int .i64 n8, .bool b9] ∧ InI W .i64 A0 n0 c0 xs0 ∧ InI W .i64 A1 n1 c1 xs1 ∧ InI W .i64 A2 n2 c2 xs2 ∧ InI W .i64 A3 n3 c3 xs3 ∧ (Lit.int .i64 n4).wf = true ∧ InI W .i64 A5 n5 c5 xs5 ∧ (Lit.int .i64 n6).wf = true ∧ InT W A7 n7 c7 xs7 ∧ (Lit.int .i64 n8).wf = true ∧ True := by
  obtain ⟨xs, n, _, rfl, hl, hlen, hf⟩ := DataW.trod_struct Try.underlying31 h
  match xs, hlen with
  | [y0, y1, y2, y3, y4], _ =>
    obtain ⟨A0, n0, c0, xs0, A1, n1, c1, xs1, A2, n2, c2, xs2, A3, n3, c3, xs3, e0, f0, f1, f2, f3⟩ := op26 (hf 0 _ rfl)
    replace e0 : (cs.drop 0).take (Try.prog.cellsOf 26) = _ := e0
    rw [show Try.prog.cellsOf 26 = 4 by kernel_rfl] at e0
    obtain ⟨n4, A5, n5, c5, xs5, n6, e1, f4, f5, f6⟩ := op28 (hf 1 _ rfl)
    replace e1 : (cs.drop 4).take (Try.prog.cellsOf 28) = _ := e1
    rw [show Try.prog.cellsOf 28 = 3 by kernel_rfl] at e1
    obtain ⟨A7, n7, c7, xs7, e2, f7⟩ := op29 (hf 2 _ rfl)
    replace e2 : (cs.drop 7).take (Try.prog.cellsOf 29) = _ := e2
    rw [show Try.prog.cellsOf 29 = 1 by kernel_rfl] at e2
    obtain ⟨n8, e3, f8⟩ := op3 (hf 3 _ rfl)
    replace e3 : (cs.drop 8).take (Try.prog.cellsOf 3) = _ := e3
    rw [show Try.prog.cellsOf 3 = 1 by kernel_rfl] at e3
    obtain ⟨b9, e4, f9⟩ := op4 (hf 4 _ rfl)
    replace e4 : (cs.drop 9).take (Try.prog.cellsOf 4) = _ := e4
    rw [show Try.prog.cellsOf 4 = 1 by kernel_rfl] at e4
    have hN : cs.length = 10 := hl.trans (by kernel_rfl)
    refine ⟨A0, n0, c0, xs0, A1, n1, c1, xs1, A2, n2, c2, xs2, A3, n3, c3, xs3, n4, A5, n5, c5, xs5, n6, A7, n7, c7, xs7, n8, b9, ?_, f0, f1, f2, f3, f4, f5, f6, f7, f8, f9⟩
    exact (List.drop_zero).symm.trans (piece e0 ((piece e1 ((piece e2 ((piece e3 ((piece e4 (piece_end hN) (p := 10) (by decide))) (p := 9) (by decide))) (p := 8) (by decide))) (p := 7) (by decide))) (p := 4) (by decide))

set_option maxRecDepth 100000 in
set_option maxHeartbeats 4000000 in
theorem lifted (os : Os) (started : os.Started) (H : Type) (enc : TypeId × Value → H) :
    ReturnsInHanded {} Try.checked os 3 .any (Rows.fnExactBothSameSpec.pre6 enc Try.prog Try.f3 Rows.fnExactBothSameRow.domain false) (Rows.fnExactBothSameSpec.post enc Try.prog Try.f3 false true false false) := by
  refine returnsInHanded_of_change_sized (C := Try.checked) own started (by kernel_rfl) Try.func3
    (ChangeSpec.witness6 (enc := enc) (C := Try.checked) false ⟨#[], #[.agg #[(.slice none 0 0), (.slice none 0 0), (.slice none 0 0), (.slice none 0 0), (.int .i64 (0:Int)), (.slice none 0 0), (.int .i64 (0:Int)), (.slice none 0 0), (.int .i64 (0:Int)), (.bool false)], .agg #[(.slice none 0 0), (.slice none 0 0), (.slice none 0 0), (.slice none 0 0), (.int .i64 (0:Int)), (.slice none 0 0), (.int .i64 (0:Int)), (.slice none 0 0), (.int .i64 (0:Int)), (.bool false)]], []⟩ 8 (by kernel_rfl) (by kernel_rfl) (by kernel_rfl) (by kernel_rfl)) ?_
  intro W base args ds gs before hval0 hW hcnd hsz0 _
  have hval : ∀ (j : Nat) t v, Try.f3.params[j]? = some t → args[j]? = some v → Value.okWide Try.prog W .any base t v := hval0
  have hW' := hW
  obtain ⟨p, q, hA0, hV, rfl, hfz, hnd⟩ := hW
  have hA : DataW.TrodAll enc Try.prog W 0 (fun _ => true) true Try.f3.params.toList args.toList ds p := hA0
  rw [Try.params3] at hA hval
  obtain ⟨v0, vs0, d0, ds0, p0, q0, hargs, rfl, rfl, h0, r0⟩ := trodAll_cons hA
  obtain ⟨v1, vs1, d1, ds1, p1, q1, rfl, rfl, rfl, h1, r1⟩ := trodAll_cons r0
  obtain ⟨rfl, rfl, rfl⟩ := trodAll_nil r1
  obtain rfl : args = #[v0, v1] := by cases args; simp_all
  obtain ⟨rfl, rfl⟩ := trodVars_none hV
  have k0 := h0
  have lt0 : ∀ x ∈ p0, x.block < W.heap.size := by obtain ⟨m, hm⟩ := k0; exact DataW.trod_lt m _ _ _ hm
  obtain ⟨fu0, hf0⟩ := h0
  obtain ⟨a0_0_A, a0_0_n, a0_0_c, a0_0, a0_1_A, a0_1_n, a0_1_c, a0_1, a0_2_A, a0_2_n, a0_2_c, a0_2, a0_3_A, a0_3_n, a0_3_c, a0_3, a0_4, a0_5_A, a0_5_n, a0_5_c, a0_5, a0_6, a0_7_A, a0_7_n, a0_7_c, a0_7, a0_8, a0_9, e0, Fa0_0, Fa0_1, Fa0_2, Fa0_3, Fa0_4, Fa0_5, Fa0_6, Fa0_7, Fa0_8, Fa0_9⟩ := op31 hf0
  have ok0 := okWide_struct Try.underlying31 (hval 0 31 v0 rfl rfl)
  obtain ⟨cs0, rfl, _⟩ := ok0
  obtain rfl : cs0 = List.toArray [.slice a0_0_A a0_0_n a0_0_c, .slice a0_1_A a0_1_n a0_1_c, .slice a0_2_A a0_2_n a0_2_c, .slice a0_3_A a0_3_n a0_3_c, .int .i64 a0_4, .slice a0_5_A a0_5_n a0_5_c, .int .i64 a0_6, .slice a0_7_A a0_7_n a0_7_c, .int .i64 a0_8, .bool a0_9] := Array.toList_inj.1 e0
  have k1 := h1
  have lt1 : ∀ x ∈ p1, x.block < W.heap.size := by obtain ⟨m, hm⟩ := k1; exact DataW.trod_lt m _ _ _ hm
  obtain ⟨fu1, hf1⟩ := h1
  obtain ⟨a1_0_A, a1_0_n, a1_0_c, a1_0, a1_1_A, a1_1_n, a1_1_c, a1_1, a1_2_A, a1_2_n, a1_2_c, a1_2, a1_3_A, a1_3_n, a1_3_c, a1_3, a1_4, a1_5_A, a1_5_n, a1_5_c, a1_5, a1_6, a1_7_A, a1_7_n, a1_7_c, a1_7, a1_8, a1_9, e1, Fa1_0, Fa1_1, Fa1_2, Fa1_3, Fa1_4, Fa1_5, Fa1_6, Fa1_7, Fa1_8, Fa1_9⟩ := op31 hf1
  have ok1 := okWide_struct Try.underlying31 (hval 1 31 v1 rfl rfl)
  obtain ⟨cs1, rfl, _⟩ := ok1
  obtain rfl : cs1 = List.toArray [.slice a1_0_A a1_0_n a1_0_c, .slice a1_1_A a1_1_n a1_1_c, .slice a1_2_A a1_2_n a1_2_c, .slice a1_3_A a1_3_n a1_3_c, .int .i64 a1_4, .slice a1_5_A a1_5_n a1_5_c, .int .i64 a1_6, .slice a1_7_A a1_7_n a1_7_c, .int .i64 a1_8, .bool a1_9] := Array.toList_inj.1 e1
  obtain ⟨K, hK⟩ := Pure.FnExactBothSame a0_0 Fa0_0.max (fun x hx => i64_of (Fa0_0.wf x hx)) a0_1 Fa0_1.max (fun x hx => i64_of (Fa0_1.wf x hx)) a0_2 Fa0_2.max (fun x hx => i64_of (Fa0_2.wf x hx)) a0_3 Fa0_3.max (fun x hx => i64_of (Fa0_3.wf x hx)) a0_4 (i64_of Fa0_4) a0_5 Fa0_5.max (fun x hx => i64_of (Fa0_5.wf x hx)) a0_6 (i64_of Fa0_6) a0_7 Fa0_7.max a0_8 (i64_of Fa0_8) a0_9 a1_0 Fa1_0.max (fun x hx => i64_of (Fa1_0.wf x hx)) a1_1 Fa1_1.max (fun x hx => i64_of (Fa1_1.wf x hx)) a1_2 Fa1_2.max (fun x hx => i64_of (Fa1_2.wf x hx)) a1_3 Fa1_3.max (fun x hx => i64_of (Fa1_3.wf x hx)) a1_4 (i64_of Fa1_4) a1_5 Fa1_5.max (fun x hx => i64_of (Fa1_5.wf x hx)) a1_6 (i64_of Fa1_6) a1_7 Fa1_7.max a1_8 (i64_of Fa1_8) a1_9
  refine (F.laws_FnExactBothSame.calls K a0_0 a0_0_A a0_0_n a0_0_c a0_1 a0_1_A a0_1_n a0_1_c a0_2 a0_2_A a0_2_n a0_2_c a0_3 a0_3_A a0_3_n a0_3_c a0_4 a0_5 a0_5_A a0_5_n a0_5_c a0_6 a0_7 a0_7_A a0_7_n a0_7_c a0_8 a0_9 a1_0 a1_0_A a1_0_n a1_0_c a1_1 a1_1_A a1_1_n a1_1_c a1_2 a1_2_A a1_2_n a1_2_c a1_3 a1_3_A a1_3_n a1_3_c a1_4 a1_5 a1_5_A a1_5_n a1_5_c a1_6 a1_7 a1_7_A a1_7_n a1_7_c a1_8 a1_9 (Mem.start W) Fa0_0.len Fa0_0.rd Fa0_1.len Fa0_1.rd Fa0_2.len Fa0_2.rd Fa0_3.len Fa0_3.rd Fa0_5.len Fa0_5.rd Fa0_7.len Fa0_7.rd Fa1_0.len Fa1_0.rd Fa1_1.len Fa1_1.rd Fa1_2.len Fa1_2.rd Fa1_3.len Fa1_3.rd Fa1_5.len Fa1_5.rd Fa1_7.len Fa1_7.rd hK).mono fun e W' ⟨x, he, hm'⟩ => ?_
  subst he
  have bel := hm'.low
  exact ⟨_, rfl, _, _, _, [], _, [], hW', trodAll_mk1 (shut_bool Try.underlying4 _), (trodAll_cons_mk (Below.trod laidOut (by kernel_rfl) (of_decide_eq_true (by kernel_rfl)) k0 bel lt0) (trodAll_cons_mk (Below.trod laidOut (by kernel_rfl) (of_decide_eq_true (by kernel_rfl)) k1 bel lt1) trodAll_mk0)), rfl, bel.frame _, fun h => by cases h⟩

theorem over : Rows.fnExactBothSameRow.holds Try.pinned (OpenSpec.ofChange Rows.fnExactBothSameSpec) :=
  OpenClaim.holds_of_wide 3 Try.f3 rfl rfl rfl rfl rfl rfl rfl ⟨rfl, rfl, rfl, rfl, rfl⟩ rfl rfl rfl rfl rfl (by kernel_rfl) Try.func3 (by kernel_rfl)
    (of_decide_eq_true (by kernel_rfl)) (by unfold Func.isWrapper; first | (rw [if_pos (by decide +kernel)]; kernel_rfl) | (rw [if_neg (by decide +kernel)]; exact ⟨rfl, rfl⟩))
    (fun os started H enc _ => lifted os started H enc)
theorem proved : Rows.FnExactBothSameSaid := over
end Go.Proofs.Ytpfkcjddilpbkaa.fnExactBothSame
namespace Go.Proofs.Ytpfkcjddilpbkaa
/-- The row, under a short name, for the claim. -/
theorem fnExactBothSame_holds : Rows.FnExactBothSameSaid := fnExactBothSame.proved
#print axioms fnExactBothSame_holds
end Go.Proofs.Ytpfkcjddilpbkaa
