/- Pure theorems of the laws of the machine with a collector: FnExactBothValid, FnExactBothSame, FnNewBoth. -/
import Derived.Test.YtnfaiojmabolmaaDoorQb
import Derived.Test.YtnfaiojmabolmaaDoorPs
import Derived.Test.YtnfaiojmabolmaaDoorFj
namespace Go.Proofs.YtnfaiojmabolmaaDoor.T
open Go Go.RowKit Go.Proofs.YtnfaiojmabolmaaDoor.S Go.Proofs.YtnfaiojmabolmaaDoor.F
set_option linter.unusedVariables false
set_option linter.unusedSimpArgs false
theorem b10_some {α1 α2 α3 α4 α5 α6 α7 α8 α9 α10 β : Type} (a1 : α1) (a2 : α2) (a3 : α3) (a4 : α4) (a5 : α5) (a6 : α6) (a7 : α7) (a8 : α8) (a9 : α9) (a10 : α10) (f : α1 → α2 → α3 → α4 → α5 → α6 → α7 → α8 → α9 → α10 → Option β) : b10 (some (a1, a2, a3, a4, a5, a6, a7, a8, a9, a10)) f = f a1 a2 a3 a4 a5 a6 a7 a8 a9 a10 := rfl
theorem b11_some {α1 α2 α3 α4 α5 α6 α7 α8 α9 α10 α11 β : Type} (a1 : α1) (a2 : α2) (a3 : α3) (a4 : α4) (a5 : α5) (a6 : α6) (a7 : α7) (a8 : α8) (a9 : α9) (a10 : α10) (a11 : α11) (f : α1 → α2 → α3 → α4 → α5 → α6 → α7 → α8 → α9 → α10 → α11 → Option β) : b11 (some (a1, a2, a3, a4, a5, a6, a7, a8, a9, a10, a11)) f = f a1 a2 a3 a4 a5 a6 a7 a8 a9 a10 a11 := rfl
/-- Lists of operations. -/
abbrev Ops := List (Int × Int × Int)
theorem rdt_get {xs : Ops} {i : Nat} (h : i < xs.length) : rdt xs (i : Int) = xs[i] := by
  unfold rdt
  rw [Int.toNat_natCast, List.getD_eq_getElem?_getD, List.getElem?_eq_getElem h, Option.getD_some]
theorem ext_rdt {xs ys : Ops} (hl : xs.length = ys.length) (h : ∀ i : Nat, i < xs.length → rdt xs (i : Int) = rdt ys (i : Int)) : xs = ys := by
  refine List.ext_getElem hl fun i h1 h2 => ?_
  have := h i h1
  rwa [rdt_get h1, rdt_get h2] at this
theorem tri_eq {a b : Int × Int × Int} : (a.1 = b.1 ∧ a.2.1 = b.2.1 ∧ a.2.2 = b.2.2) ↔ a = b := by
  obtain ⟨a1, a2, a3⟩ := a
  obtain ⟨b1, b2, b3⟩ := b
  simp
theorem all_rdt {xs ys : Ops} (hl : xs.length = ys.length) : (∀ i : Nat, i < xs.length → (rdt xs (i : Int)).1 = (rdt ys (i : Int)).1 ∧ (rdt xs (i : Int)).2.1 = (rdt ys (i : Int)).2.1 ∧ (rdt xs (i : Int)).2.2 = (rdt ys (i : Int)).2.2) ↔ xs = ys := by
  constructor
  · intro h; exact ext_rdt hl fun i hi => tri_eq.1 (h i hi)
  · rintro rfl i _; exact ⟨rfl, rfl, rfl⟩
theorem eqOpS_eq {K : Nat} {a b : Ops} (hK : a.length < K) (hmax : a.length ≤ 9223372036854775807) : laws_eqOpS.f K a b = some (decide (a = b)) := by
  unfold laws_eqOpS.f
  by_cases hl : (a.length : Int) = (b.length : Int)
  rotate_left
  · rw [if_neg hl, decide_eq_false (by rintro rfl; exact hl rfl)]
  rw [if_pos hl]
  have key := check_loop (fun m p => laws_eqOpS.loop0 K (fun _ => some true) a b m p) a.length (fun i => (rdt a (i : Int)).1 = (rdt b (i : Int)).1 ∧ (rdt a (i : Int)).2.1 = (rdt b (i : Int)).2.1 ∧ (rdt a (i : Int)).2.2 = (rdt b (i : Int)).2.2) (some true) (some false) ?_ ?_ (K := K) hK
  · rw [key]
    have iff := all_rdt (xs := a) (ys := b) (by omega)
    by_cases g : a = b
    · rw [if_pos (iff.2 g), decide_eq_true g]
    · rw [if_neg (fun k => g (iff.1 k)), decide_eq_false g]
  · intro m i hi _
    rw [laws_eqOpS.loop0, if_pos (by omega), if_pos (by omega), if_pos (by omega), w64_succ hi (by omega)]
    unfold laws_eqOp.f
    by_cases c1 : (rdt a (i : Int)).1 = (rdt b (i : Int)).1
    · rw [if_pos c1]
      by_cases c2 : (rdt a (i : Int)).2.1 = (rdt b (i : Int)).2.1
      · rw [if_pos c2]
        by_cases c3 : (rdt a (i : Int)).2.2 = (rdt b (i : Int)).2.2
        · rw [if_pos c3, b1_some, if_pos rfl, if_pos ⟨c1, c2, c3⟩]
        · rw [if_neg c3, b1_some, if_neg (by simp), if_neg (fun k => c3 k.2.2)]
      · rw [if_neg c2, b1_some, if_neg (by simp), if_neg (fun k => c2 k.2.1)]
    · rw [if_neg c1, b1_some, if_neg (by simp), if_neg (fun k => c1 k.1)]
  · intro m _
    rw [laws_eqOpS.loop0, if_neg (by omega)]
theorem sameOps_loop {K : Nat} {a b : Ops} (LP : Nat → Int → Option Bool) (hs : ∀ m p, LP (m + 1) p = if p < (a.length : Int) then if 0 ≤ p ∧ p < (a.length : Int) then if 0 ≤ p ∧ p < (b.length : Int) then if ¬((rdt a p).1 = (rdt b p).1 ∧ (rdt a p).2.1 = (rdt b p).2.1 ∧ (rdt a p).2.2 = (rdt b p).2.2) then some false else LP m (wrap64 (p + (1:Int))) else none else none else some true) (hK : a.length < K) (hmax : a.length ≤ 9223372036854775807) : (if (a.length : Int) = (b.length : Int) then LP K (0:Int) else some false) = some (decide (a = b)) := by
  by_cases hl : (a.length : Int) = (b.length : Int)
  rotate_left
  · rw [if_neg hl, decide_eq_false (by rintro rfl; exact hl rfl)]
  rw [if_pos hl]
  have key := check_loop LP a.length (fun i => (rdt a (i : Int)).1 = (rdt b (i : Int)).1 ∧ (rdt a (i : Int)).2.1 = (rdt b (i : Int)).2.1 ∧ (rdt a (i : Int)).2.2 = (rdt b (i : Int)).2.2) (some true) (some false) ?_ ?_ (K := K) hK
  · rw [key]
    have iff := all_rdt (xs := a) (ys := b) (by omega)
    by_cases g : a = b
    · rw [if_pos (iff.2 g), decide_eq_true g]
    · rw [if_neg (fun k => g (iff.1 k)), decide_eq_false g]
  · intro m i hi _
    rw [hs, if_pos (by omega), if_pos (by omega), if_pos (by omega), w64_succ hi (by omega)]
    by_cases c : (rdt a (i : Int)).1 = (rdt b (i : Int)).1 ∧ (rdt a (i : Int)).2.1 = (rdt b (i : Int)).2.1 ∧ (rdt a (i : Int)).2.2 = (rdt b (i : Int)).2.2
    · rw [if_neg (fun k => k c), if_pos c]
    · rw [if_pos c, if_neg c]
  · intro m _
    rw [hs, if_neg (by omega)]
theorem l7SameOps_eq {K : Nat} {a b : Ops} (hK : a.length < K) (hmax : a.length ≤ 9223372036854775807) : spec_l7SameOps.f K a b = some (decide (a = b)) := by
  unfold spec_l7SameOps.f
  exact sameOps_loop (spec_l7SameOps.loop0 K (fun _ => some true) a b) (fun m p => by rw [spec_l7SameOps.loop0]) hK hmax
theorem ccOps_eq {K : Nat} {a b : Ops} (hK : a.length < K) (hmax : a.length ≤ 9223372036854775807) : laws_ccOps.f K a b = some (decide (a = b)) := by
  unfold laws_ccOps.f
  exact sameOps_loop (laws_ccOps.loop0 K (fun _ => some true) a b) (fun m p => by rw [laws_ccOps.loop0]) hK hmax
theorem sEqualOp_eq {K : Nat} {a b : Ops} (hK : a.length < K) (hmax : a.length ≤ 9223372036854775807) : slices_Equal_impl_Op.f K a b = some (decide (a = b)) := by
  unfold slices_Equal_impl_Op.f
  exact sameOps_loop (slices_Equal_impl_Op.loop0 K (fun _ => some true) a b) (fun m p => by rw [slices_Equal_impl_Op.loop0]) hK hmax
theorem toOpS_eq {K : Nat} {a : Ops} (hK : a.length < K) (hmax : a.length ≤ 1099511627776) : laws_toOpS.f K a = some a := by
  unfold laws_toOpS.f
  rw [if_pos (by omega), Int.toNat_natCast]
  obtain ⟨l, ⟨h1, h2⟩, e⟩ := loop_ex (fun m p (l : Ops) => laws_toOpS.loop0 K (fun l3 => some l3) a m p l) (fun i l => l.length = a.length ∧ ∀ j : Nat, j < i → l[j]? = a[j]?) a.length (fun l => some l)
    (by
      rintro m i l hi ⟨h1, h2⟩
      refine ⟨l.set i a[i], ⟨by rw [List.length_set, h1], fun j hj => ?_⟩, ?_⟩
      · rw [List.getElem?_set]
        by_cases c : i = j
        · subst c; rw [if_pos rfl, if_pos (by omega), List.getElem?_eq_getElem hi]
        · rw [if_neg c]; exact h2 j (by omega)
      · rw [laws_toOpS.loop0, if_pos (by omega), if_pos (by omega), toOp_eq, b3_some, if_pos (by omega), w64_succ hi (by omega), Int.toNat_natCast, rdt_get hi])
    (by
      rintro m l ⟨h1, h2⟩
      rw [laws_toOpS.loop0, if_neg (by omega)]) (K := K) (a := List.replicate a.length (0, 0, 0)) hK ⟨by simp, fun j hj => by omega⟩
  rw [e]
  refine congrArg some (List.ext_getElem? fun j => ?_)
  by_cases c : j < a.length
  · exact h2 j c
  · rw [List.getElem?_eq_none (by omega), List.getElem?_eq_none (by omega)]
def opsV (o : Ops) (r : Int) : Prop := o.length ≤ 12 ∧ ∀ j : Nat, j < o.length → OpV (rdt o (j : Int)).1 (rdt o (j : Int)).2.1 (rdt o (j : Int)).2.2 r
instance {o : Ops} {r : Int} : Decidable (opsV o r) := by unfold opsV; infer_instance
theorem opsOk_eq {K : Nat} {o : Ops} {r : Int} (hK : o.length < K) (hmax : o.length ≤ 9223372036854775807) : impl_opsOk.f K o r = some (decide (opsV o r)) := by
  unfold impl_opsOk.f
  have key := check_loop (fun m p => impl_opsOk.loop0 K (fun _ => some (decide ((o.length : Int) ≤ (12:Int)))) o r m p) o.length (fun j => OpV (rdt o (j : Int)).1 (rdt o (j : Int)).2.1 (rdt o (j : Int)).2.2 r) (some (decide ((o.length : Int) ≤ (12:Int)))) (some false) ?_ ?_ (K := K) hK
  · rw [key]
    by_cases g : ∀ j : Nat, j < o.length → OpV (rdt o (j : Int)).1 (rdt o (j : Int)).2.1 (rdt o (j : Int)).2.2 r
    · rw [if_pos g]
      exact congrArg some (decide_eq_decide.2 ⟨fun k => ⟨by omega, g⟩, fun k => by have := k.1; omega⟩)
    · rw [if_neg g, decide_eq_false (fun k => g k.2)]
  · intro m i hi _
    rw [impl_opsOk.loop0, if_pos (by omega), if_pos (by omega), impl_OpValid_v, b1_some, w64_succ hi (by omega)]
    by_cases c : OpV (rdt o (i : Int)).1 (rdt o (i : Int)).2.1 (rdt o (i : Int)).2.2 r
    · rw [if_pos (decide_eq_true c), if_pos c]
    · rw [if_neg (by simpa using c), if_neg c]
  · intro m _
    rw [impl_opsOk.loop0, if_neg (by omega)]
theorem l7Ops_eq {K : Nat} {o : Ops} {r : Int} (hK : o.length < K) (hK2 : 20 < K) (hmax : o.length ≤ 9223372036854775807) : spec_l7Ops.f K o r = some (decide (opsV o r)) := by
  unfold spec_l7Ops.f
  have key := check_loop (fun m p => spec_l7Ops.loop0 K (fun _ => some (decide ((o.length : Int) ≤ (12:Int)))) o r m p) (min o.length 13) (fun j => OpV (rdt o (j : Int)).1 (rdt o (j : Int)).2.1 (rdt o (j : Int)).2.2 r) (some (decide ((o.length : Int) ≤ (12:Int)))) (some false) ?_ ?_ (K := K) (by omega)
  · rw [key]
    by_cases g : ∀ j : Nat, j < min o.length 13 → OpV (rdt o (j : Int)).1 (rdt o (j : Int)).2.1 (rdt o (j : Int)).2.2 r
    · rw [if_pos g]
      exact congrArg some (decide_eq_decide.2 ⟨fun k => ⟨by omega, fun j hj => g j (by omega)⟩, fun k => by have := k.1; omega⟩)
    · rw [if_neg g, decide_eq_false (fun k => g fun j hj => k.2 j (by omega))]
  · intro m i hi _
    rw [spec_l7Ops.loop0, if_pos (by omega), if_pos (by omega), if_pos (by omega), spec_OpValid_v, b1_some, w64_succ (i := i) (n := o.length) (by omega) (by omega)]
    by_cases c : OpV (rdt o (i : Int)).1 (rdt o (i : Int)).2.1 (rdt o (i : Int)).2.2 r
    · rw [if_pos (decide_eq_true c), if_pos c]
    · rw [if_neg (by simpa using c), if_neg c]
  · intro m _
    rw [spec_l7Ops.loop0]
    by_cases c : ((min o.length 13 : Nat) : Int) < (o.length : Int)
    · rw [if_pos c, if_neg (by omega)]
    · rw [if_neg c]
/-- All of it is valid. -/
def BV (L R Ro F C : List Int) (ph n : Int) (o : Ops) (at_ : Int) : Prop := GV L R Ro F C ph n ∧ opsV o Ro.length ∧ 0 ≤ at_ ∧ at_ ≤ o.length
instance {L R Ro F C : List Int} {ph n : Int} {o : Ops} {k : Int} : Decidable (BV L R Ro F C ph n o k) := by unfold BV; infer_instance
theorem spec_BothValid_eq {L R Ro F C : List Int} {ph n k : Int} {o : Ops} {b : Bool} (hC : C.length < KK) (ho : o.length < KK) : spec_BothValid.f KK L R Ro F ph C n o k b = some (decide (BV L R Ro F C ph n o k)) := by
  have ho' : o.length < 1048577 := ho
  unfold spec_BothValid.f
  rw [spec_GcValid_eq hC, b1_some]
  by_cases h : GV L R Ro F C ph n
  rotate_left
  · rw [if_neg (by simpa using h), decide_eq_false (fun g => h g.1)]
  rw [if_pos (decide_eq_true h), l7Ops_eq ho (by decide) (by omega), b1_some]
  by_cases g : opsV o Ro.length
  rotate_left
  · rw [if_neg (by simpa using g), decide_eq_false (fun q => g q.2.1)]
  rw [if_pos (decide_eq_true g)]
  by_cases c : k ≥ 0
  · rw [if_pos c]
    exact congrArg some (decide_eq_decide.2 ⟨fun q => ⟨h, g, c, q⟩, fun q => q.2.2.2⟩)
  · rw [if_neg c, decide_eq_false (fun q => c q.2.2.1)]
theorem impl_BothValid_eq {L R Ro F C : List Int} {ph n k : Int} {o : Ops} {b : Bool} (hF : F.length < KK) (hC : C.length < KK) (ho : o.length < KK) : impl_BothValid.f KK L R Ro F ph C n o k b = some (decide (BV L R Ro F C ph n o k)) := by
  have ho' : o.length < 1048577 := ho
  unfold impl_BothValid.f
  rw [impl_GcValid_eq hF hC, b1_some]
  by_cases h : GV L R Ro F C ph n
  rotate_left
  · rw [if_neg (by simpa using h), decide_eq_false (fun g => h g.1)]
  rw [if_pos (decide_eq_true h), opsOk_eq ho (by omega), b1_some]
  by_cases g : opsV o Ro.length
  rotate_left
  · rw [if_neg (by simpa using g), decide_eq_false (fun q => g q.2.1)]
  rw [if_pos (decide_eq_true g)]
  by_cases c : k ≥ 0
  · rw [if_pos c]
    exact congrArg some (decide_eq_decide.2 ⟨fun q => ⟨h, g, c, q⟩, fun q => q.2.2.2⟩)
  · rw [if_neg c, decide_eq_false (fun q => c q.2.2.1)]
theorem toBoth_f {a b c d e : List Int} {p q k : Int} {o : Ops} {t : Bool} (ha : Fit KK a) (hb : Fit KK b) (hc : Fit KK c) (hd : Fit KK d) (he : Fit KK e) (ho : o.length ≤ 1048576) : laws_toBoth.f KK a b c d p e q o k t = some (a, b, c, d, p, e, q, o, k, t) := by
  unfold laws_toBoth.f
  rw [toStore_f ha hb hc hd, b4_some, toGc_f he, b3_some, toOpS_eq (by show _ < 1048577; omega) (by omega), b1_some]
theorem eqBoth_s {a b c d e : List Int} {p q k : Int} {o : Ops} {t : Bool} (ha : Fit KK a) (hb : Fit KK b) (hc : Fit KK c) (hd : Fit KK d) (he : Fit KK e) (ho : o.length ≤ 1048576) : laws_eqBoth.f KK a b c d p e q o k t a b c d p e q o k t = some true := by
  unfold laws_eqBoth.f
  rw [eqStore_s ha hb hc hd, b1_some, if_pos rfl, eqGc_s he, b1_some, if_pos rfl, eqOpS_eq (by show _ < 1048577; omega) (by omega), b1_some, if_pos (decide_eq_true rfl), if_pos rfl, if_pos rfl]
theorem szBoth_f {a b c d e : List Int} {p q k r : Int} {o : Ops} {t : Bool} (h0 : 0 ≤ r) (h1 : r ≤ 1048576) (ha : a.length ≤ 9223372036854775807) (hb : b.length ≤ 9223372036854775807) (hc : c.length ≤ 9223372036854775807) (hd : d.length ≤ 9223372036854775807) (he : e.length ≤ 9223372036854775807) (ho : o.length ≤ 9223372036854775807) : ∃ v, laws_szBoth.f KK a b c d p e q o k t r = some v ∧ (v < 0 ∨ (0 ≤ v ∧ v ≤ 1048576 ∧ Fit KK a ∧ Fit KK b ∧ Fit KK c ∧ Fit KK d ∧ Fit KK e ∧ o.length ≤ 1048576)) := by
  unfold laws_szBoth.f
  obtain ⟨v1, e1, g1⟩ := szStore_ex (K := KK) h0 h1 ha hb hc hd
  unfold Lft at g1
  rw [e1, b1_some]
  by_cases c1 : v1 < 0
  · rw [if_pos c1]; exact ⟨_, rfl, .inl (by omega)⟩
  rw [if_neg c1]
  obtain ⟨v2, e2, g2⟩ := szGc_ex (K := KK) (p := p) (q := q) (a := e) (left := v1) (by omega) (by omega) he
  unfold Lft at g2
  rw [e2, b1_some]
  by_cases c2 : v2 < 0
  · rw [if_pos c2]; exact ⟨_, rfl, .inl (by omega)⟩
  rw [if_neg c2]
  unfold laws_szOpS.f
  rw [w64 (x := v2 - o.length) (by omega) (by omega)]
  by_cases c3 : v2 - (o.length : Int) < 0
  · rw [if_pos c3, b1_some, if_pos (by omega)]; exact ⟨_, rfl, .inl (by omega)⟩
  · rw [if_neg c3, b1_some, if_neg c3]
    exact ⟨_, rfl, .inr ⟨by omega, by omega, .of (by omega), .of (by omega), .of (by omega), .of (by omega), .of (by omega), by omega⟩⟩
theorem spec_BothSame_eq {a b c d e a' b' c' d' e' : List Int} {p q k p' q' k' : Int} {o o' : Ops} {t t' : Bool} (ha : Fit KK a) (hb : Fit KK b) (hc : Fit KK c) (hd : Fit KK d) (he : Fit KK e) (ho : o.length ≤ 1048576) : spec_BothSame.f KK a b c d p e q o k t a' b' c' d' p' e' q' o' k' t' = some (decide ((a = a' ∧ b = b' ∧ c = c' ∧ d = d') ∧ (p = p' ∧ q = q' ∧ e = e') ∧ o = o' ∧ k = k' ∧ t = t')) := by
  unfold spec_BothSame.f
  by_cases c1 : k = k'
  rotate_left
  · rw [if_neg c1, decide_eq_false (fun g => c1 g.2.2.2.1)]
  rw [if_pos c1]
  by_cases c2 : t = t'
  rotate_left
  · rw [if_neg c2, decide_eq_false (fun g => c2 g.2.2.2.2)]
  rw [if_pos c2, spec_StoreSame_eq ha.1 hb.1 hc.1 hd.1 (by decide), b1_some]
  by_cases c3 : a = a' ∧ b = b' ∧ c = c' ∧ d = d'
  rotate_left
  · rw [if_neg (by rw [decide_eq_true_eq]; exact c3), decide_eq_false (fun g => c3 g.1)]
  rw [if_pos (decide_eq_true c3), spec_GcSame_eq he.1 he.mx2, b1_some]
  by_cases c4 : p = p' ∧ q = q' ∧ e = e'
  rotate_left
  · rw [if_neg (by rw [decide_eq_true_eq]; exact c4), decide_eq_false (fun g => c4 g.2.1)]
  rw [if_pos (decide_eq_true c4), l7SameOps_eq (by show _ < 1048577; omega) (by omega), b1_some]
  exact congrArg some (decide_eq_decide.2 ⟨fun g => ⟨c3, c4, g, c1, c2⟩, fun g => g.2.2.1⟩)
theorem impl_BothSame_eq {a b c d e a' b' c' d' e' : List Int} {p q k p' q' k' : Int} {o o' : Ops} {t t' : Bool} (ha : Fit KK a) (hb : Fit KK b) (hc : Fit KK c) (hd : Fit KK d) (he : Fit KK e) (ho : o.length ≤ 1048576) : impl_BothSame.f KK a b c d p e q o k t a' b' c' d' p' e' q' o' k' t' = some (decide ((a = a' ∧ b = b' ∧ c = c' ∧ d = d') ∧ (p = p' ∧ q = q' ∧ e = e') ∧ o = o' ∧ k = k' ∧ t = t')) := by
  unfold impl_BothSame.f
  rw [impl_StoreSame_eq ha.1 hb.1 hc.1 hd.1 (by decide), b1_some]
  by_cases c3 : a = a' ∧ b = b' ∧ c = c' ∧ d = d'
  rotate_left
  · rw [if_neg (by rw [decide_eq_true_eq]; exact c3), decide_eq_false (fun g => c3 g.1)]
  rw [if_pos (decide_eq_true c3), impl_GcSame_eq he.1 he.mx2, b1_some]
  by_cases c4 : p = p' ∧ q = q' ∧ e = e'
  rotate_left
  · rw [if_neg (by rw [decide_eq_true_eq]; exact c4), decide_eq_false (fun g => c4 g.2.1)]
  rw [if_pos (decide_eq_true c4), sEqualOp_eq (by show _ < 1048577; omega) (by omega), b1_some]
  by_cases c5 : o = o'
  rotate_left
  · rw [if_neg (by rw [decide_eq_true_eq]; exact c5), decide_eq_false (fun g => c5 g.2.2.1)]
  rw [if_pos (decide_eq_true c5)]
  by_cases c1 : k = k'
  rotate_left
  · rw [if_neg c1, decide_eq_false (fun g => c1 g.2.2.2.1)]
  rw [if_pos c1]
  by_cases c2 : t = t'
  · rw [decide_eq_true ⟨c3, c4, c5, c1, c2⟩, c2, beq_self_eq_true]
  · rw [decide_eq_false (fun g => c2 g.2.2.2.2), beq_eq_false_iff_ne.2 c2]
/-! ### a new one -/
def nbV (L R Ro F : List Int) (o : Ops) : List Int × List Int × List Int × List Int × Int × List Int × Int × Ops × Int × Bool × Bool :=
  if SV L R Ro F ∧ opsV o Ro.length then (L, R, Ro, F, 0, List.replicate L.length 0, 0, o, 0, false, true) else ([], [], [], [], 0, [], 0, [], 0, false, false)
theorem spec_NewBoth_eq {L R Ro F : List Int} {o : Ops} (ho : o.length < KK) : spec_NewBoth.f KK L R Ro F o = some (nbV L R Ro F o) := by
  have ho' : o.length < 1048577 := ho
  unfold spec_NewBoth.f nbV
  rw [spec_NewGc_eq (by decide)]
  unfold ngV
  by_cases h : SV L R Ro F
  rotate_left
  · rw [if_neg h, b4_some, if_neg (by simp), if_neg (fun g => h g.1)]
  have h1 := h.len; have h2 := h.1.2.1; have h3 := h.1.2.2.1; have h4 := h.1.2.2.2.2.1
  rw [if_pos h, b4_some, if_pos rfl, l7Ops_eq ho (by decide) (by omega), b1_some]
  by_cases g : opsV o Ro.length
  · rw [if_pos (decide_eq_true g), l4Copy_eq (by omega) (by omega) (by omega) (by omega), b4_some, if_pos (by simp; omega), if_pos ⟨h, g⟩]
    rfl
  · rw [if_neg (by rw [decide_eq_true_eq]; exact g), if_neg (fun q => g q.2)]
theorem impl_NewBoth_eq {L R Ro F : List Int} {o : Ops} (hF : F.length < KK) (ho : o.length < KK) : impl_NewBoth.f KK L R Ro F o = some (nbV L R Ro F o) := by
  have ho' : o.length < 1048577 := ho
  have hF' : F.length < 1048577 := hF
  unfold impl_NewBoth.f nbV
  rw [impl_NewGc_eq (by decide) hF (by omega)]
  unfold ngV
  by_cases h : SV L R Ro F
  rotate_left
  · rw [if_neg h, b4_some, if_neg (by simp), if_neg (fun g => h g.1)]
  have h1 := h.len; have h2 := h.1.2.1; have h3 := h.1.2.2.1; have h4 := h.1.2.2.2.2.1
  rw [if_pos h, b4_some, if_pos rfl, opsOk_eq ho (by omega), b1_some]
  by_cases g : opsV o Ro.length
  · rw [if_pos (decide_eq_true g), again_eq (by omega) (by omega) (by omega) (by omega), b4_some, if_pos ⟨h, g⟩]
    unfold slices_Clone_impl_Op.f
    rw [if_pos (by simp; omega), b1_some]
    rfl
  · rw [if_neg (by rw [decide_eq_true_eq]; exact g), if_neg (fun q => g q.2)]
theorem l5Ops_ex {xs : List Int} {p : Int} (h : Src xs p) (hp : p ≤ 1000000) : ∃ o p', spec_l5Ops.f KK xs p = some (o, p') ∧ o.length ≤ 9 := by
  have hp0 := h.2.2.1
  unfold spec_l5Ops.f
  obtain ⟨t, e2, m2⟩ := num_ex (K := KK) (l := [4, 3, 6, 2, 1, 0, 9]) h (by simp) (by simp)
  rw [e2, b2_some]
  simp only [List.mem_cons, List.not_mem_nil, or_false] at m2
  have t0 : 0 ≤ t := by omega
  have t1 : t ≤ 9 := by omega
  have key := loop_mu (fun m (s : Ops × Int × Int) => spec_l5Ops.loop0 KK (fun l3 p5 => some (l3, p5)) xs m s.1 s.2.1 s.2.2)
    (fun s => 0 ≤ s.2.1 ∧ s.2.1 ≤ t ∧ (s.1.length : Int) + s.2.1 = t ∧ s.2.2 = p + 1 + 3 * (t - s.2.1)) (fun s => s.2.1.toNat) (fun _ => True) (fun s => some (s.1, s.2.2)) ?_ (K := KK) (a := ([], t, p + 1)) ⟨t0, by show t ≤ t; omega, by show (([] : Ops).length : Int) + t = t; simp, by show p + 1 = p + 1 + 3 * (t - t); omega⟩ (by show t.toNat < 1048577; omega)
  · obtain ⟨⟨o, q, r⟩, ⟨g0, g1, g2, g3⟩, _, e⟩ := key
    simp only [] at g0 g1 g2 g3 e
    exact ⟨_, _, e, by omega⟩
  · rintro m ⟨o, q, r⟩ ⟨g0, g1, g2, g3⟩
    simp only [] at g0 g1 g2 g3 ⊢
    by_cases c : q > 0
    · left
      obtain ⟨k, a, b, e, _⟩ := l5Op_ex (K := KK) (h.at (p' := r) (by omega) (by omega)) (by omega)
      rw [spec_l5Ops.loop0, if_pos c, e, b4_some, if_pos (by simp; omega), w64 (x := q - 1) (by omega) (by omega)]
      exact ⟨(o ++ [(k, a, b)], q - 1, r + 3), ⟨by show 0 ≤ q - 1; omega, by show q - 1 ≤ t; omega, by show ((o ++ [(k, a, b)]).length : Int) + (q - 1) = t; simp; omega, by show r + 3 = p + 1 + 3 * (t - (q - 1)); omega⟩, by show (q - 1).toNat < q.toNat; omega, rfl⟩
    · right
      rw [spec_l5Ops.loop0, if_neg c]
      exact ⟨trivial, rfl⟩
theorem DrawNewBoth_ex {a : List Int} (hu : ∀ x ∈ a, U8 x) : ∃ L R Ro F o, spec_DrawNewBoth.f KK a = some (L, R, Ro, F, o) ∧ Short 10 L R Ro F ∧ o.length ≤ 9 := by
  have h := Src.open hu
  unfold spec_DrawNewBoth.f spec_DrawRunOps.f
  rw [l13Open_eq, b1_some]
  obtain ⟨L, R, Ro, F, p, e1, hs, p0, p1⟩ := l4Draw_ex (K := KK) h (by omega) (by decide)
  obtain ⟨L', R', Ro', F', p', e2, hs2, p2, p3⟩ := l4Wrong_ex (K := KK) (h.at (p' := p) (by omega) (by omega)) (by omega) hs.short (by omega)
  obtain ⟨o, q, e3, ho⟩ := l5Ops_ex (h.at (p' := p') (by omega) (by omega)) (by omega)
  rw [e1, b5_some, e2, b5_some, e3, b2_some, b5_some]
  exact ⟨_, _, _, _, _, rfl, hs2, ho⟩
end Go.Proofs.YtnfaiojmabolmaaDoor.T
namespace Go.Proofs.YtnfaiojmabolmaaDoor.Pure
open Go Go.RowKit Go.Proofs.YtnfaiojmabolmaaDoor.S Go.Proofs.YtnfaiojmabolmaaDoor.F Go.Proofs.YtnfaiojmabolmaaDoor.T
set_option linter.unusedVariables false
set_option linter.unusedSimpArgs false
theorem FnNewBoth : ∀ (a0 : List Int), a0.length ≤ 9223372036854775807 → (∀ x ∈ a0, U8 x) → ∃ K, laws_FnNewBoth.f K a0 = some true := by
  intro a _ hu
  refine ⟨KK, ?_⟩
  unfold laws_FnNewBoth.f
  by_cases big : (a.length : Int) > 1048576
  · rw [if_pos big]
  rw [if_neg big]
  obtain ⟨L, R, Ro, F, o, e, hs, ho⟩ := DrawNewBoth_ex hu
  unfold Short at hs
  have hF : F.length < KK := by show _ < 1048577; omega
  have hO : o.length < KK := by show _ < 1048577; omega
  rw [e, b5_some, impl_NewBoth_eq hF hO, spec_NewBoth_eq hO]
  unfold nbV
  have z : Fit KK [] := .of (by simp)
  by_cases h : SV L R Ro F ∧ opsV o Ro.length
  rotate_left
  · rw [if_neg h, b11_some, b11_some, impl_BothSame_eq z z z z z (by simp), b1_some, if_pos (decide_eq_true ⟨⟨rfl, rfl, rfl, rfl⟩, ⟨rfl, rfl, rfl⟩, rfl, rfl, rfl⟩), if_pos rfl, if_neg (by simp), b1_some, if_pos (decide_eq_true ⟨⟨rfl, rfl, rfl, rfl⟩, ⟨rfl, rfl, rfl⟩, rfl, rfl, rfl⟩)]
    rfl
  have f1 : Fit KK L := .of (by omega)
  have f2 : Fit KK R := .of (by omega)
  have f3 : Fit KK Ro := .of (by omega)
  have f4 : Fit KK F := .of (by omega)
  have hz := CV.zero h.1.1
  have f5 : Fit KK (List.replicate L.length (0 : Int)) := .of (by simp; omega)
  have hro := h.1.1.2.2.2.1
  have hbv : BV L R Ro F (List.replicate L.length 0) 0 0 o 0 := ⟨⟨h.1, hz, by unfold PH; omega⟩, h.2, by omega, by omega⟩
  rw [if_pos h, b11_some, b11_some, impl_BothSame_eq f1 f2 f3 f4 f5 (by omega), b1_some, if_pos (decide_eq_true ⟨⟨rfl, rfl, rfl, rfl⟩, ⟨rfl, rfl, rfl⟩, rfl, rfl, rfl⟩), if_pos rfl, if_pos rfl, impl_BothValid_eq hF f5.1 hO, b1_some, if_pos (decide_eq_true hbv), if_pos rfl, if_neg (by simp), if_pos rfl, impl_StoreSame_eq f1.1 f2.1 f3.1 f4.1 (by decide), b1_some, if_pos (decide_eq_true ⟨rfl, rfl, rfl, rfl⟩), ccOps_eq hO (by omega), b1_some, decide_eq_true rfl]
theorem FnExactBothValid : ∀ (a0_0 : List Int), a0_0.length ≤ 9223372036854775807 → (∀ x ∈ a0_0, I64 x) → ∀ (a0_1 : List Int), a0_1.length ≤ 9223372036854775807 → (∀ x ∈ a0_1, I64 x) → ∀ (a0_2 : List Int), a0_2.length ≤ 9223372036854775807 → (∀ x ∈ a0_2, I64 x) → ∀ (a0_3 : List Int), a0_3.length ≤ 9223372036854775807 → (∀ x ∈ a0_3, I64 x) → ∀ (a0_4 : Int), I64 a0_4 → ∀ (a0_5 : List Int), a0_5.length ≤ 9223372036854775807 → (∀ x ∈ a0_5, I64 x) → ∀ (a0_6 : Int), I64 a0_6 → ∀ (a0_7 : List (Int × Int × Int)), a0_7.length ≤ 9223372036854775807 → ∀ (a0_8 : Int), I64 a0_8 → ∀ (a0_9 : Bool), ∃ K, laws_FnExactBothValid.f K a0_0 a0_1 a0_2 a0_3 a0_4 a0_5 a0_6 a0_7 a0_8 a0_9 = some true := by
  intro L hL _ R hR _ Ro hRo _ F hF _ ph _ C hC _ n _ o ho k _ b
  refine ⟨KK, ?_⟩
  unfold laws_FnExactBothValid.f
  obtain ⟨v, e, g⟩ := szBoth_f (p := ph) (q := n) (k := k) (t := b) (r := 1048576) (by omega) (by omega) hL hR hRo hF hC ho
  rw [e, b1_some]
  rcases g with g | ⟨g0, g1, fL, fR, fRo, fF, fC, fo⟩
  · rw [if_pos g]
  have hO : o.length < KK := by show _ < 1048577; omega
  rw [if_neg (by omega), toBoth_f fL fR fRo fF fC fo, b10_some, spec_BothValid_eq fC.1 hO, b1_some, b10_some, impl_BothValid_eq fF.1 fC.1 hO, b1_some, if_pos rfl, b10_some, eqBoth_s fL fR fRo fF fC fo, b1_some, if_pos rfl]
theorem FnExactBothSame : ∀ (a0_0 : List Int), a0_0.length ≤ 9223372036854775807 → (∀ x ∈ a0_0, I64 x) → ∀ (a0_1 : List Int), a0_1.length ≤ 9223372036854775807 → (∀ x ∈ a0_1, I64 x) → ∀ (a0_2 : List Int), a0_2.length ≤ 9223372036854775807 → (∀ x ∈ a0_2, I64 x) → ∀ (a0_3 : List Int), a0_3.length ≤ 9223372036854775807 → (∀ x ∈ a0_3, I64 x) → ∀ (a0_4 : Int), I64 a0_4 → ∀ (a0_5 : List Int), a0_5.length ≤ 9223372036854775807 → (∀ x ∈ a0_5, I64 x) → ∀ (a0_6 : Int), I64 a0_6 → ∀ (a0_7 : List (Int × Int × Int)), a0_7.length ≤ 9223372036854775807 → ∀ (a0_8 : Int), I64 a0_8 → ∀ (a0_9 : Bool), ∀ (a1_0 : List Int), a1_0.length ≤ 9223372036854775807 → (∀ x ∈ a1_0, I64 x) → ∀ (a1_1 : List Int), a1_1.length ≤ 9223372036854775807 → (∀ x ∈ a1_1, I64 x) → ∀ (a1_2 : List Int), a1_2.length ≤ 9223372036854775807 → (∀ x ∈ a1_2, I64 x) → ∀ (a1_3 : List Int), a1_3.length ≤ 9223372036854775807 → (∀ x ∈ a1_3, I64 x) → ∀ (a1_4 : Int), I64 a1_4 → ∀ (a1_5 : List Int), a1_5.length ≤ 9223372036854775807 → (∀ x ∈ a1_5, I64 x) → ∀ (a1_6 : Int), I64 a1_6 → ∀ (a1_7 : List (Int × Int × Int)), a1_7.length ≤ 9223372036854775807 → ∀ (a1_8 : Int), I64 a1_8 → ∀ (a1_9 : Bool), ∃ K, laws_FnExactBothSame.f K a0_0 a0_1 a0_2 a0_3 a0_4 a0_5 a0_6 a0_7 a0_8 a0_9 a1_0 a1_1 a1_2 a1_3 a1_4 a1_5 a1_6 a1_7 a1_8 a1_9 = some true := by
  intro L hL _ R hR _ Ro hRo _ F hF _ ph _ C hC _ n _ o ho k _ b L' hL' _ R' hR' _ Ro' hRo' _ F' hF' _ ph' _ C' hC' _ n' _ o' ho' k' _ b'
  refine ⟨KK, ?_⟩
  unfold laws_FnExactBothSame.f
  obtain ⟨v, e, g⟩ := szBoth_f (p := ph) (q := n) (k := k) (t := b) (r := 1048576) (by omega) (by omega) hL hR hRo hF hC ho
  rw [e, b1_some]
  rcases g with g | ⟨g0, g1, fL, fR, fRo, fF, fC, fo⟩
  · rw [if_pos g]
  obtain ⟨v', e', g'⟩ := szBoth_f (p := ph') (q := n') (k := k') (t := b') (r := v) (by omega) (by omega) hL' hR' hRo' hF' hC' ho'
  rw [if_neg (by omega), e', b1_some]
  rcases g' with g' | ⟨g0', g1', fL', fR', fRo', fF', fC', fo'⟩
  · rw [if_pos g']
  rw [if_neg (by omega), toBoth_f fL fR fRo fF fC fo, b10_some, toBoth_f fL' fR' fRo' fF' fC' fo', b10_some, spec_BothSame_eq fL fR fRo fF fC fo, b1_some, b10_some, b10_some, impl_BothSame_eq fL fR fRo fF fC fo, b1_some, if_pos rfl, b10_some, eqBoth_s fL fR fRo fF fC fo, b1_some, if_pos rfl, b10_some, eqBoth_s fL' fR' fRo' fF' fC' fo', b1_some, if_pos rfl]
end Go.Proofs.YtnfaiojmabolmaaDoor.Pure
