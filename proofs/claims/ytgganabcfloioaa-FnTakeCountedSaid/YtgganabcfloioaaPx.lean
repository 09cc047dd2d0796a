/- Pure theorems of counted stores: what the reference's and the program's functions come to. -/
import Derived.Test.YtgganabcfloioaaPp
import Derived.Test.YtgganabcfloioaaTe
import Derived.Test.YtgganabcfloioaaFh
namespace Go.Proofs.Ytgganabcfloioaa.T
open Go Go.RowKit Go.Proofs.Ytgganabcfloioaa.S Go.Proofs.Ytgganabcfloioaa.F
set_option linter.unusedVariables false
set_option linter.unusedSimpArgs false
theorem l9Down_loop {K : Nat} {Ro : List Int} (κ : (List Int) → (List Int) → (List Int) → (List Int) → (List Int) → Option (List Int × List Int × List Int × List Int × List Int)) : ∀ (k m : Nat) (w : List Int) (i : Nat) (L R F C : List Int), GI L R Ro C F (w.drop i) → i ≤ w.length → 3 * (L.length - F.length) + (w.drop i).length ≤ k → k < m → w.length + 2 * k ≤ 100000 →
    ∃ (L' R' F' C' w' : List Int), dn k L R F C (w.drop i) = (L', R', F', C') ∧ spec_l9Down.loop0 K κ m w (i : Int) F L R C = κ F' w' L' R' C' := by
  intro k
  induction k with
  | zero =>
    intro m w i L R F C hg hi hk hm hb
    obtain ⟨m, rfl⟩ : ∃ m', m = m' + 1 := ⟨m - 1, by omega⟩
    rw [List.length_drop] at hk
    refine ⟨L, R, F, C, w, rfl, ?_⟩
    rw [spec_l9Down.loop0, if_neg (by omega)]
  | succ k ih =>
    intro m w i L R F C hg hi hk hm hb
    obtain ⟨m, rfl⟩ : ∃ m', m = m' + 1 := ⟨m - 1, by omega⟩
    rw [spec_l9Down.loop0]
    by_cases c : i < w.length
    · have ed : w.drop i = rd w i :: w.drop (i + 1) := by rw [List.drop_eq_getElem_cons c, rd_get c]
      rw [ed] at hg hk ⊢
      rw [List.length_cons] at hk
      have hcl := hg.clen
      have hR := hg.hv.2.2.1
      have h8 := hg.hv.2.1
      have hr := hg.qr (rd w i) (by simp)
      have hfl := hg.flen
      rw [if_pos (by omega), if_pos (by omega), w64_succ c (by omega)]
      generalize hx : rd w i = x at *
      unfold dn
      by_cases e : x = -1
      · rw [if_pos e, if_pos e]
        subst e
        exact ih m w (i + 1) L R F C hg.none (by omega) (by omega) (by omega) (by omega)
      · rw [if_neg e, if_neg e]
        have x0 : 0 ≤ x := by omega
        have hp := hg.pos x0 hr.2
        have hs := hg.sum x x0 hr.2
        have hcb : rd C x ≤ 200000 := by
          rw [hs]
          unfold cnt
          have a1 := List.count_le_length (a := x) (l := L)
          have a2 := List.count_le_length (a := x) (l := R)
          have a3 := List.count_le_length (a := x) (l := Ro)
          have a4 := List.count_le_length (a := x) (l := x :: w.drop (i + 1))
          have a5 := hg.hv.2.2.2.2.1
          rw [List.length_cons, List.length_drop] at a4
          omega
        have hw : wrap64 (rd C x - 1) = rd C x - 1 := w64 (by omega) (by omega)
        have hb1 : 0 ≤ x ∧ x < (C.length : Int) := by omega
        have hb2 : 0 ≤ x ∧ x < ((C.set x.toNat (rd C x - 1)).length : Int) := by rw [List.length_set]; omega
        by_cases e2 : 0 < rd C x - 1
        · rw [if_pos e2, if_pos hb1, hw, if_pos hb2, rd_set_self x0 (by omega), if_pos (show rd C x - 1 > 0 from e2)]
          exact ih m w (i + 1) L R F _ (hg.down x0 hr.2 e2) (by omega) (by omega) (by omega) (by omega)
        · rw [if_neg e2, if_pos hb1, hw, if_pos hb2, rd_set_self x0 (by omega), if_neg (show ¬(rd C x - 1 > 0) from e2), if_pos (by omega), if_pos (by omega), if_pos (by simp; omega), if_pos (by simp; omega)]
          have hd : (w ++ [rd L x, rd R x]).drop (i + 1) = w.drop (i + 1) ++ [rd L x, rd R x] := by
            rw [List.drop_append_of_le_length (by omega)]
          have g' := hg.fall x0 hr.2 e2
          have gl := g'.flen
          rw [← hd] at g' ⊢
          rw [List.length_set, List.length_append, List.length_singleton] at gl
          refine ih m (w ++ [rd L x, rd R x]) (i + 1) _ _ _ _ g' (by simp; omega) ?_ (by omega) (by simp; omega)
          rw [hd, List.length_set, List.length_append, List.length_append]
          simp only [List.length_cons, List.length_nil]
          omega
    · rw [if_neg (by omega)]
      have ed : w.drop i = [] := List.drop_eq_nil_of_le (by omega)
      rw [ed, dn_nil]
      exact ⟨L, R, F, C, w, rfl, rfl⟩
theorem giveUp_loop {K : Nat} {Ro : List Int} (κ : (List Int) → (List Int) → (List Int) → (List Int) → Option (List Int × List Int × List Int × List Int)) : ∀ (k m : Nat) (w : List Int) (i : Nat) (L R F C : List Int), GI L R Ro C F (w.drop i) → i ≤ w.length → 3 * (L.length - F.length) + (w.drop i).length ≤ k → k < m → w.length + 2 * k ≤ 100000 →
    ∃ (L' R' F' C' w' : List Int), dn k L R F C (w.drop i) = (L', R', F', C') ∧ impl_Counted_giveUp.loop0 K κ m w (i : Int) F L R C = κ F' L' R' C' := by
  intro k
  induction k with
  | zero =>
    intro m w i L R F C hg hi hk hm hb
    obtain ⟨m, rfl⟩ : ∃ m', m = m' + 1 := ⟨m - 1, by omega⟩
    rw [List.length_drop] at hk
    refine ⟨L, R, F, C, w, rfl, ?_⟩
    rw [impl_Counted_giveUp.loop0, if_neg (by omega)]
  | succ k ih =>
    intro m w i L R F C hg hi hk hm hb
    obtain ⟨m, rfl⟩ : ∃ m', m = m' + 1 := ⟨m - 1, by omega⟩
    rw [impl_Counted_giveUp.loop0]
    by_cases c : i < w.length
    · have ed : w.drop i = rd w i :: w.drop (i + 1) := by rw [List.drop_eq_getElem_cons c, rd_get c]
      rw [ed] at hg hk ⊢
      rw [List.length_cons] at hk
      have hcl := hg.clen
      have hR := hg.hv.2.2.1
      have h8 := hg.hv.2.1
      have hr := hg.qr (rd w i) (by simp)
      have hfl := hg.flen
      rw [if_pos (by omega), if_pos (by omega), w64_succ c (by omega)]
      generalize hx : rd w i = x at *
      unfold dn
      by_cases e : x = -1
      · rw [if_pos e, if_pos e]
        subst e
        exact ih m w (i + 1) L R F C hg.none (by omega) (by omega) (by omega) (by omega)
      · rw [if_neg e, if_neg e]
        have x0 : 0 ≤ x := by omega
        have hp := hg.pos x0 hr.2
        have hs := hg.sum x x0 hr.2
        have hcb : rd C x ≤ 200000 := by
          rw [hs]
          unfold cnt
          have a1 := List.count_le_length (a := x) (l := L)
          have a2 := List.count_le_length (a := x) (l := R)
          have a3 := List.count_le_length (a := x) (l := Ro)
          have a4 := List.count_le_length (a := x) (l := x :: w.drop (i + 1))
          have a5 := hg.hv.2.2.2.2.1
          rw [List.length_cons, List.length_drop] at a4
          omega
        have hw : wrap64 (rd C x - 1) = rd C x - 1 := w64 (by omega) (by omega)
        have hb1 : 0 ≤ x ∧ x < (C.length : Int) := by omega
        have hb2 : 0 ≤ x ∧ x < ((C.set x.toNat (rd C x - 1)).length : Int) := by rw [List.length_set]; omega
        by_cases e2 : 0 < rd C x - 1
        · rw [if_pos e2, if_pos hb1, hw, if_pos hb2, rd_set_self x0 (by omega), if_pos (show rd C x - 1 > 0 from e2)]
          exact ih m w (i + 1) L R F _ (hg.down x0 hr.2 e2) (by omega) (by omega) (by omega) (by omega)
        · rw [if_neg e2, if_pos hb1, hw, if_pos hb2, rd_set_self x0 (by omega), if_neg (show ¬(rd C x - 1 > 0) from e2), if_pos (by omega), if_pos (by omega), if_pos (by simp; omega), if_pos (by simp; omega)]
          have hd : (w ++ [rd L x, rd R x]).drop (i + 1) = w.drop (i + 1) ++ [rd L x, rd R x] := by
            rw [List.drop_append_of_le_length (by omega)]
          have g' := hg.fall x0 hr.2 e2
          have gl := g'.flen
          rw [← hd] at g' ⊢
          rw [List.length_set, List.length_append, List.length_singleton] at gl
          refine ih m (w ++ [rd L x, rd R x]) (i + 1) _ _ _ _ g' (by simp; omega) ?_ (by omega) (by simp; omega)
          rw [hd, List.length_set, List.length_append, List.length_append]
          simp only [List.length_cons, List.length_nil]
          omega
    · rw [if_neg (by omega)]
      have ed : w.drop i = [] := List.drop_eq_nil_of_le (by omega)
      rw [ed, dn_nil]
      exact ⟨L, R, F, C, w, rfl, rfl⟩
theorem l9Down_eq {K : Nat} {L R Ro F C : List Int} {c : Int} (hg : GI L R Ro C F [c]) (hK : 40 < K) : ∃ w', spec_l9Down.f K L R F C [c] = some ((dn 40 L R F C [c]).1, (dn 40 L R F C [c]).2.1, (dn 40 L R F C [c]).2.2.1, (dn 40 L R F C [c]).2.2.2, w') := by
  have h8 := hg.hv.2.1
  have hfl := hg.flen
  obtain ⟨L', R', F', C', w', e1, e2⟩ := l9Down_loop (K := K) (Ro := Ro) (fun l11 l12 l13 l14 l15 => some (l13, l14, l11, l15, l12)) 40 K [c] 0 L R F C (by simpa using hg) (by simp) (by simp; omega) hK (by simp)
  rw [List.drop_zero] at e1
  unfold spec_l9Down.f
  rw [e1]
  exact ⟨w', e2⟩
theorem giveUp_eq {K : Nat} {L R Ro F C : List Int} {c : Int} (hg : GI L R Ro C F [c]) (hK : 40 < K) : impl_Counted_giveUp.f K L R F C c = some (dn 40 L R F C [c]) := by
  have h8 := hg.hv.2.1
  have hfl := hg.flen
  obtain ⟨L', R', F', C', w', e1, e2⟩ := giveUp_loop (K := K) (Ro := Ro) (fun l11 l12 l13 l14 => some (l12, l13, l11, l14)) 40 K [c] 0 L R F C (by simpa using hg) (by simp) (by simp; omega) hK (by simp)
  rw [List.drop_zero] at e1
  unfold impl_Counted_giveUp.f
  rw [e1]
  exact e2
instance {L R Ro F C : List Int} : Decidable (KV L R Ro F C) := by unfold KV; infer_instance
theorem KV.le {L R Ro F C : List Int} (h : KV L R Ro F C) : L.length ≤ 8 ∧ R.length ≤ 8 ∧ Ro.length ≤ 8 ∧ F.length ≤ 8 ∧ C.length ≤ 8 := by
  have := h.1.len; have := h.1.1.2.1; have := h.1.1.2.2.1; have := h.1.1.2.2.2.2.1
  have : C.length = L.length := by rw [h.2, cntL_len]
  omega
theorem spec_CountedValid_eq {L R Ro F C : List Int} (hC : C.length < KK) : spec_CountedValid.f KK L R Ro F C = some (decide (KV L R Ro F C)) := by
  unfold spec_CountedValid.f
  have hC' : C.length < 1048577 := hC
  rw [spec_StoreValid_eq (by decide), b1_some]
  by_cases h : SV L R Ro F
  · rw [if_pos (decide_eq_true h), spec_CountsOf_eq (by decide), b1_some, l1Ints_eq hC (by omega), b1_some]
    unfold cntV
    rw [if_pos h.1]
    exact congrArg some (decide_eq_decide.2 ⟨fun g => ⟨h, g⟩, fun g => g.2⟩)
  · rw [if_neg (by simpa using h), decide_eq_false (fun g => h g.1)]
theorem impl_CountedValid_eq {L R Ro F C : List Int} (hF : F.length < KK) (hC : C.length < KK) : impl_CountedValid.f KK L R Ro F C = some (decide (KV L R Ro F C)) := by
  unfold impl_CountedValid.f
  have hC' : C.length < 1048577 := hC
  have hF' : F.length < 1048577 := hF
  rw [impl_StoreValid_eq (by decide) hF (by omega), b1_some]
  by_cases h : SV L R Ro F
  · rw [if_pos (decide_eq_true h), impl_CountsOf_eq (by decide), b1_some, sEqual_eq hC (by omega), b1_some]
    unfold cntV
    rw [if_pos h.1]
    exact congrArg some (decide_eq_decide.2 ⟨fun g => ⟨h, g⟩, fun g => g.2⟩)
  · rw [if_neg (by simpa using h), decide_eq_false (fun g => h g.1)]
theorem spec_Root_eq {L R Ro F C : List Int} {r : Int} (hC : C.length < KK) : spec_l9Root.f KK L R Ro F C r = some (decide (KV L R Ro F C ∧ 0 ≤ r ∧ r < Ro.length)) := by
  unfold spec_l9Root.f
  rw [spec_CountedValid_eq hC, b1_some]
  by_cases h : KV L R Ro F C
  · rw [if_pos (decide_eq_true h)]
    split
    · exact congrArg some (decide_eq_decide.2 ⟨fun g => ⟨h, by omega, g⟩, fun g => g.2.2⟩)
    · rw [decide_eq_false (fun g => by omega)]
  · rw [if_neg (by simpa using h), decide_eq_false (fun g => h g.1)]
theorem rooted_eq {L R Ro F C : List Int} {r : Int} (hF : F.length < KK) (hC : C.length < KK) : impl_rooted.f KK L R Ro F C r = some (decide (KV L R Ro F C ∧ 0 ≤ r ∧ r < Ro.length)) := by
  unfold impl_rooted.f
  rw [impl_CountedValid_eq hF hC, b1_some]
  by_cases h : KV L R Ro F C
  · rw [if_pos (decide_eq_true h)]
    split
    · exact congrArg some (decide_eq_decide.2 ⟨fun g => ⟨h, by omega, g⟩, fun g => g.2.2⟩)
    · rw [decide_eq_false (fun g => by omega)]
  · rw [if_neg (by simpa using h), decide_eq_false (fun g => h g.1)]
theorem l9Copy_eq {K : Nat} {L R Ro F C : List Int} (hL : L.length ≤ 1099511627776) (hR : R.length ≤ 1099511627776) (hRo : Ro.length ≤ 1099511627776) (hF : F.length ≤ 1099511627776) (hC : C.length ≤ 1099511627776) : spec_l9Copy.f K L R Ro F C = some (L, R, Ro, F, C) := by
  unfold spec_l9Copy.f
  rw [l4Copy_eq hL hR hRo hF, b4_some, if_pos (by simpa)]
  simp
theorem counted_eq {K : Nat} {L R Ro F C : List Int} (hL : L.length ≤ 1099511627776) (hR : R.length ≤ 1099511627776) (hRo : Ro.length ≤ 1099511627776) (hF : F.length ≤ 1099511627776) (hC : C.length ≤ 1099511627776) : impl_counted.f K L R Ro F C = some (L, R, Ro, F, C) := by
  unfold impl_counted.f
  rw [again_eq hL hR hRo hF, b4_some, Clone_eq hC, b1_some]
/-- The value of nothing. -/
abbrev Z6 : Option (List Int × List Int × List Int × List Int × List Int × Bool) := some ([], [], [], [], [], false)
/-! ### a root is dropped -/
theorem drop_no {L R Ro F C : List Int} {r : Int} (hF : F.length < KK) (hC : C.length < KK) (h : ¬(KV L R Ro F C ∧ 0 ≤ r ∧ r < Ro.length)) : spec_DropRoot.f KK L R Ro F C r = Z6 ∧ impl_DropRoot.f KK L R Ro F C r = Z6 := by
  unfold spec_DropRoot.f impl_DropRoot.f
  rw [spec_Root_eq hC, rooted_eq hF hC, b1_some, b1_some, if_neg (by simpa using h), if_neg (by simpa using h)]
  exact ⟨rfl, rfl⟩
theorem drop_ok {L R Ro F C : List Int} {r : Int} (h : KV L R Ro F C) (h0 : 0 ≤ r) (h1 : r < Ro.length) : ∃ L' R' F' C', spec_DropRoot.f KK L R Ro F C r = some (L', R', Ro.set r.toNat (-1), F', C', true) ∧ impl_DropRoot.f KK L R Ro F C r = some (L', R', Ro.set r.toNat (-1), F', C', true) ∧ dn 40 L R F C [rd Ro r] = (L', R', F', C') ∧ KV L' R' (Ro.set r.toNat (-1)) F' C' ∧ DnSays (Ro.set r.toNat (-1)) L R F C L' R' F' C' := by
  have hl := h.le
  have hC : C.length < KK := by show _ < 1048577; omega
  have hF : F.length < KK := by show _ < 1048577; omega
  have hg := h.drop h0 h1
  obtain ⟨L', R', F', C', e, hs⟩ := dn_says hg (k := 40) (by simp)
  obtain ⟨w', e1⟩ := l9Down_eq (K := KK) hg (by decide)
  have e2 := giveUp_eq (K := KK) hg (by decide)
  rw [e] at e1 e2
  refine ⟨L', R', F', C', ?_, ?_, e, hs.gi.kv, hs⟩
  · unfold spec_DropRoot.f
    rw [spec_Root_eq hC, b1_some, if_pos (decide_eq_true ⟨h, h0, h1⟩), l9Copy_eq (by omega) (by omega) (by omega) (by omega) (by omega), b5_some, if_pos ⟨h0, h1⟩, if_pos ⟨h0, h1⟩, e1, b5_some]
  · unfold impl_DropRoot.f
    rw [rooted_eq hF hC, b1_some, if_pos (decide_eq_true ⟨h, h0, h1⟩), counted_eq (by omega) (by omega) (by omega) (by omega) (by omega), b5_some, if_pos ⟨h0, h1⟩, e2, b4_some]
/-! ### a cell is taken -/
theorem take_no {L R Ro F C : List Int} {r : Int} (hF : F.length < KK) (hC : C.length < KK) (h : ¬((KV L R Ro F C ∧ 0 ≤ r ∧ r < Ro.length) ∧ F ≠ [])) : spec_TakeCounted.f KK L R Ro F C r = Z6 ∧ impl_TakeCounted.f KK L R Ro F C r = Z6 := by
  unfold spec_TakeCounted.f impl_TakeCounted.f
  rw [spec_Root_eq hC, rooted_eq hF hC, b1_some, b1_some]
  by_cases g : KV L R Ro F C ∧ 0 ≤ r ∧ r < Ro.length
  · have e : F = [] := Classical.not_not.1 fun k => h ⟨g, k⟩
    subst e
    rw [if_pos (decide_eq_true g), if_pos (decide_eq_true g), if_pos (by simp), if_pos (by simp)]
    exact ⟨rfl, rfl⟩
  · rw [if_neg (by simpa using g), if_neg (by simpa using g)]
    exact ⟨rfl, rfl⟩
theorem take_ok {L R Ro F C : List Int} {r : Int} (h : KV L R Ro F C) (h0 : 0 ≤ r) (h1 : r < Ro.length) (hne : F ≠ []) : ∃ L' R' F' C', spec_TakeCounted.f KK L R Ro F C r = some (L', R', Ro.set r.toNat (rd F 0), F', C', true) ∧ impl_TakeCounted.f KK L R Ro F C r = some (L', R', Ro.set r.toNat (rd F 0), F', C', true) ∧ dn 40 L R (F.drop 1) (C.set (rd F 0).toNat 1) [rd Ro r] = (L', R', F', C') ∧ KV L' R' (Ro.set r.toNat (rd F 0)) F' C' ∧ DnSays (Ro.set r.toNat (rd F 0)) L R (F.drop 1) (C.set (rd F 0).toNat 1) L' R' F' C' := by
  have hl := h.le
  have hC : C.length < KK := by show _ < 1048577; omega
  have hF : F.length < KK := by show _ < 1048577; omega
  have hp := List.length_pos_iff.2 hne
  have hm : rd F 0 ∈ F := rd_mem (by omega) (by omega)
  have hf := h.1.2.2 _ hm
  have hcl : C.length = L.length := by rw [h.2, cntL_len]
  have hg := h.take h0 h1 hne
  obtain ⟨L', R', F', C', e, hs⟩ := dn_says hg (k := 40) (by simp)
  obtain ⟨w', e1⟩ := l9Down_eq (K := KK) hg (by decide)
  have e2 := giveUp_eq (K := KK) hg (by decide)
  rw [e] at e1 e2
  have hd : (F.drop 1).length = F.length - 1 := by simp
  refine ⟨L', R', F', C', ?_, ?_, e, hs.gi.kv, hs⟩
  · unfold spec_TakeCounted.f
    rw [spec_Root_eq hC, b1_some, if_pos (decide_eq_true ⟨h, h0, h1⟩), if_neg (by omega), l9Copy_eq (by omega) (by omega) (by omega) (by omega) (by omega), b5_some, if_pos (by omega), if_pos ⟨h0, h1⟩, if_pos (by omega), show (1 : Int).toNat = 1 from rfl, if_pos (by rw [hd]; simp; omega), if_pos ⟨h0, h1⟩, if_pos (by omega), List.nil_append, e1, b5_some]
  · unfold impl_TakeCounted.f
    rw [rooted_eq hF hC, b1_some, if_pos (decide_eq_true ⟨h, h0, h1⟩), if_neg (by omega), counted_eq (by omega) (by omega) (by omega) (by omega) (by omega), b5_some, if_pos (by omega), if_pos (by omega), if_pos ⟨h0, h1⟩, if_pos (by omega), show (1 : Int).toNat = 1 from rfl, e2, b4_some]
/-! ### a link -/
theorem link_no {L R Ro F C : List Int} {a b : Int} (hF : F.length < KK) (hC : C.length < KK) (h : ¬(((KV L R Ro F C ∧ 0 ≤ a ∧ a < Ro.length) ∧ 0 ≤ b ∧ b < Ro.length) ∧ rd Ro a ≠ -1)) : spec_LinkCounted.f KK L R Ro F C a b = Z6 ∧ impl_LinkCounted.f KK L R Ro F C a b = Z6 := by
  unfold spec_LinkCounted.f impl_LinkCounted.f
  rw [spec_Root_eq hC, rooted_eq hF hC, spec_Root_eq hC, rooted_eq hF hC, b1_some, b1_some, b1_some, b1_some]
  by_cases g : KV L R Ro F C ∧ 0 ≤ a ∧ a < Ro.length
  · rw [if_pos (decide_eq_true g), if_pos (decide_eq_true g)]
    by_cases g2 : KV L R Ro F C ∧ 0 ≤ b ∧ b < Ro.length
    · rw [if_pos (decide_eq_true g2), if_pos (decide_eq_true g2)]
      have e : rd Ro a = -1 := Classical.not_not.1 fun k => h ⟨⟨g, g2.2⟩, k⟩
      rw [if_pos g.2, if_pos e, if_pos g.2, if_pos e]
      exact ⟨rfl, rfl⟩
    · rw [if_neg (by simpa using g2), if_neg (by simpa using g2)]
      exact ⟨rfl, rfl⟩
  · rw [if_neg (by simpa using g), if_neg (by simpa using g)]
    exact ⟨rfl, rfl⟩
theorem link_ok {L R Ro F C : List Int} {a b : Int} (h : KV L R Ro F C) (ha : 0 ≤ a ∧ a < Ro.length) (hb : 0 ≤ b ∧ b < Ro.length) (hne : rd Ro a ≠ -1) : ∃ L' R' F' C', spec_LinkCounted.f KK L R Ro F C a b = some (L', R', Ro, F', C', true) ∧ impl_LinkCounted.f KK L R Ro F C a b = some (L', R', Ro, F', C', true) ∧ dn 40 (L.set (rd Ro a).toNat (rd Ro b)) R F (up1 C (rd Ro b)) [rd L (rd Ro a)] = (L', R', F', C') ∧ KV L' R' Ro F' C' ∧ DnSays Ro (L.set (rd Ro a).toNat (rd Ro b)) R F (up1 C (rd Ro b)) L' R' F' C' := by
  have hl := h.le
  have hC : C.length < KK := by show _ < 1048577; omega
  have hF : F.length < KK := by show _ < 1048577; omega
  have pa := h.1.1.rdRo ha.1 ha.2
  have pb := h.1.1.rdRo hb.1 hb.2
  have hcl : C.length = L.length := by rw [h.2, cntL_len]
  have hg := h.link (rd_mem ha.1 ha.2) hne (rd_mem hb.1 hb.2)
  obtain ⟨L', R', F', C', e, hs⟩ := dn_says hg (k := 40) (by simp)
  obtain ⟨w', e1⟩ := l9Down_eq (K := KK) hg (by decide)
  have e2 := giveUp_eq (K := KK) hg (by decide)
  rw [e] at e1 e2
  have hcb : ∀ x : Int, 0 ≤ x → x < L.length → 0 ≤ rd C x ∧ rd C x ≤ 100 := by
    intro x x0 x1
    rw [h.2, rd_cntL x0 x1]
    unfold cnt
    have a1 := List.count_le_length (a := x) (l := L)
    have a2 := List.count_le_length (a := x) (l := R)
    have a3 := List.count_le_length (a := x) (l := Ro)
    omega
  refine ⟨L', R', F', C', ?_, ?_, e, hs.gi.kv, hs⟩
  · unfold spec_LinkCounted.f
    rw [spec_Root_eq hC, b1_some, if_pos (decide_eq_true ⟨h, ha⟩), spec_Root_eq hC, b1_some, if_pos (decide_eq_true ⟨h, hb⟩), if_pos ha, if_neg hne, l9Copy_eq (by omega) (by omega) (by omega) (by omega) (by omega), b5_some, if_pos hb, if_pos (by omega)]
    by_cases c : rd Ro b = -1
    · have eu : up1 C (rd Ro b) = C := by unfold up1; rw [if_pos c]
      rw [eu] at e1
      rw [if_pos c, if_pos (by omega), e1, b5_some]
    · have eu : up1 C (rd Ro b) = C.set (rd Ro b).toNat (rd C (rd Ro b) + 1) := by unfold up1; rw [if_neg c]
      have hcb' := hcb (rd Ro b) (by omega) pb.2
      rw [eu] at e1
      rw [if_neg c, if_pos (by omega), if_pos (by omega), w64 (x := rd C (rd Ro b) + 1) (by omega) (by omega), e1, b5_some]
  · unfold impl_LinkCounted.f
    rw [rooted_eq hF hC, b1_some, if_pos (decide_eq_true ⟨h, ha⟩), rooted_eq hF hC, b1_some, if_pos (decide_eq_true ⟨h, hb⟩), if_pos ha, if_neg hne, counted_eq (by omega) (by omega) (by omega) (by omega) (by omega), b5_some, if_pos ha, if_pos hb, if_pos (by omega)]
    by_cases c : rd Ro b = -1
    · have eu : up1 C (rd Ro b) = C := by unfold up1; rw [if_pos c]
      rw [eu] at e2
      rw [if_pos c, e2, b4_some]
    · have eu : up1 C (rd Ro b) = C.set (rd Ro b).toNat (rd C (rd Ro b) + 1) := by unfold up1; rw [if_neg c]
      have hcb' := hcb (rd Ro b) (by omega) pb.2
      rw [eu] at e2
      rw [if_neg c, if_pos (by omega), w64 (x := rd C (rd Ro b) + 1) (by omega) (by omega), e2, b4_some]
/-! ### new counts -/
def ncV (L R Ro F : List Int) : List Int × List Int × List Int × List Int × List Int × Bool :=
  if SV L R Ro F then (L, R, Ro, F, cntL L R Ro, true) else ([], [], [], [], [], false)
theorem spec_NewCounted_eq {K : Nat} {L R Ro F : List Int} (hK : 32 < K) : spec_NewCounted.f K L R Ro F = some (ncV L R Ro F) := by
  unfold spec_NewCounted.f ncV
  rw [spec_StoreValid_eq (by omega), b1_some]
  by_cases h : SV L R Ro F
  · have := h.len; have := h.1.2.1; have := h.1.2.2.1; have := h.1.2.2.2.2.1
    rw [if_pos (decide_eq_true h), if_pos h, l4Copy_eq (by omega) (by omega) (by omega) (by omega), b4_some, spec_CountsOf_eq (by omega), b1_some]
    unfold cntV; rw [if_pos h.1]
  · rw [if_neg (by simpa using h), if_neg h]
theorem impl_NewCounted_eq {K : Nat} {L R Ro F : List Int} (hK : 32 < K) (hF : F.length < K) (hmax : F.length ≤ 9223372036854775807) : impl_NewCounted.f K L R Ro F = some (ncV L R Ro F) := by
  unfold impl_NewCounted.f ncV
  rw [impl_StoreValid_eq hK hF hmax, b1_some]
  by_cases h : SV L R Ro F
  · have := h.len; have := h.1.2.1; have := h.1.2.2.1; have := h.1.2.2.2.2.1
    rw [if_pos (decide_eq_true h), if_pos h, again_eq (by omega) (by omega) (by omega) (by omega), b4_some, impl_CountsOf_eq (by omega), b1_some]
    unfold cntV; rw [if_pos h.1]
  · rw [if_neg (by simpa using h), if_neg h]
/-! ### draws -/
theorem l9Draw_ex {xs : List Int} {p : Int} (h : Src xs p) (hp : p ≤ 100000000) : ∃ L R Ro F C p', spec_l9Draw.f KK xs p = some (L, R, Ro, F, C, p') ∧ KV L R Ro F C ∧ p ≤ p' ∧ p' ≤ p + 60 := by
  have hp0 := h.2.2.1
  unfold spec_l9Draw.f
  obtain ⟨n, e1, m1⟩ := num_ex (K := KK) (l := [4, 3, 5, 2, 6]) h (by simp) (by simp)
  rw [e1, b2_some]
  obtain ⟨r, e2, m2⟩ := num_ex (K := KK) (l := [2, 3, 1]) (h.at (p' := p + 1) (by omega) (by omega)) (by simp) (by simp)
  rw [e2, b2_some]
  simp only [List.mem_cons, List.not_mem_nil, or_false] at m1 m2
  rw [spec_NewStore_eq (by decide)]
  have hnr : 1 ≤ n ∧ n ≤ 8 ∧ 1 ≤ r ∧ r ≤ 3 := by omega
  have hsv := nS_sv hnr
  unfold nS
  rw [if_pos hnr, b5_some, spec_NewCounted_eq (by decide)]
  unfold ncV
  rw [if_pos hsv, b6_some]
  obtain ⟨t, e3, m3⟩ := num_ex (K := KK) (l := [5, 3, 8, 2, 0, 12]) (h.at (p' := p + 1 + 1) (by omega) (by omega)) (by simp) (by simp)
  rw [e3, b2_some]
  simp only [List.mem_cons, List.not_mem_nil, or_false] at m3
  have t0 : 0 ≤ t := by omega
  have t12 : t ≤ 12 := by omega
  have hkv : KV (List.replicate n.toNat (-1)) (List.replicate n.toNat (-1)) (List.replicate r.toNat (-1)) (upto n.toNat) (cntL (List.replicate n.toNat (-1)) (List.replicate n.toNat (-1)) (List.replicate r.toNat (-1))) := ⟨hsv, rfl⟩
  have hq : ((List.replicate r.toNat (-1 : Int)).length : Int) ≤ 3 := by simp; omega
  generalize (List.replicate r.toNat (-1 : Int)) = Q at hkv hq
  generalize (List.replicate n.toNat (-1 : Int)) = A at hkv
  generalize upto n.toNat = B at hkv
  clear m1 m2 m3 e1 e2 e3 hnr hsv
  have key := loop_mu (fun m (s : Int × Int × List Int × List Int × List Int × List Int × List Int) => spec_l9Draw.loop0 KK (fun l11 l12 l13 l14 l15 p5 => some (l11, l12, l13, l14, l15, p5)) xs Q m s.1 s.2.1 s.2.2.1 s.2.2.2.1 s.2.2.2.2.1 s.2.2.2.2.2.1 s.2.2.2.2.2.2)
    (fun s => KV s.2.2.1 s.2.2.2.1 s.2.2.2.2.1 s.2.2.2.2.2.1 s.2.2.2.2.2.2 ∧ 0 ≤ s.1 ∧ s.1 ≤ t ∧ s.2.1 = p + 3 + 3 * (t - s.1)) (fun s => s.1.toNat) (fun _ => True) (fun s => some (s.2.2.1, s.2.2.2.1, s.2.2.2.2.1, s.2.2.2.2.2.1, s.2.2.2.2.2.2, s.2.1)) ?_ (K := KK)
    (a := (t, p + 1 + 1 + 1, A, A, Q, B, cntL A A Q)) ⟨hkv, t0, Int.le_refl _, by show p + 1 + 1 + 1 = p + 3 + 3 * (t - t); omega⟩ (by show t.toNat < 1048577; omega)
  · obtain ⟨⟨i, q, L, R, Ro, F, C⟩, ⟨h1, h2, h3, h4⟩, _, e⟩ := key
    simp only [] at h1 h2 h3 h4 e
    exact ⟨L, R, Ro, F, C, q, e, h1, by omega, by omega⟩
  · rintro m ⟨i, q, L, R, Ro, F, C⟩ ⟨h1, h2, h3, h4⟩
    simp only [] at h1 h2 h3 h4 ⊢
    by_cases c : i > 0
    · left
      rw [spec_l9Draw.loop0, if_pos c]
      have hl := h1.le
      have hF : F.length < KK := by show _ < 1048577; omega
      have hC : C.length < KK := by show _ < 1048577; omega
      obtain ⟨k, ek, k0, _, _⟩ := pick_ex (K := KK) (n := Q.length) (h.at (p' := q) (by omega) (by omega)) (by omega)
      obtain ⟨u, eu, u0, _, _⟩ := pick_ex (K := KK) (n := Q.length) (h.at (p' := q + 1) (by omega) (by omega)) (by omega)
      obtain ⟨w, ew, w0, _, _⟩ := pick_ex (K := KK) (n := 4) (h.at (p' := q + 1 + 1) (by omega) (by omega)) (by omega)
      rw [ek, b2_some, eu, b2_some]
      rw [w64 (x := i - 1) (by omega) (by omega)]
      have fin : ∀ L' R' Ro' F' C', KV L' R' Ro' F' C' → ∃ a' : Int × Int × List Int × List Int × List Int × List Int × List Int, (KV a'.2.2.1 a'.2.2.2.1 a'.2.2.2.2.1 a'.2.2.2.2.2.1 a'.2.2.2.2.2.2 ∧ 0 ≤ a'.1 ∧ a'.1 ≤ t ∧ a'.2.1 = p + 3 + 3 * (t - a'.1)) ∧ a'.1.toNat < i.toNat ∧
          spec_l9Draw.loop0 KK (fun l11 l12 l13 l14 l15 p5 => some (l11, l12, l13, l14, l15, p5)) xs Q m (i - 1) (q + 1 + 1 + 1) L' R' Ro' F' C' = spec_l9Draw.loop0 KK (fun l11 l12 l13 l14 l15 p5 => some (l11, l12, l13, l14, l15, p5)) xs Q m a'.1 a'.2.1 a'.2.2.1 a'.2.2.2.1 a'.2.2.2.2.1 a'.2.2.2.2.2.1 a'.2.2.2.2.2.2 :=
        fun L' R' Ro' F' C' hs => ⟨(i - 1, q + 1 + 1 + 1, L', R', Ro', F', C'), ⟨hs, by show 0 ≤ i - 1; omega, by show i - 1 ≤ t; omega, by show q + 1 + 1 + 1 = p + 3 + 3 * (t - (i - 1)); omega⟩, by show (i - 1).toNat < i.toNat; omega, rfl⟩
      have tk : ∃ L' R' Ro' F' C' ok, spec_TakeCounted.f KK L R Ro F C k = some (L', R', Ro', F', C', ok) ∧ (ok = true → KV L' R' Ro' F' C') := by
        by_cases g : (KV L R Ro F C ∧ 0 ≤ k ∧ k < Ro.length) ∧ F ≠ []
        · obtain ⟨L', R', F', C', e, _, _, hk, _⟩ := take_ok g.1.1 g.1.2.1 g.1.2.2 g.2
          exact ⟨_, _, _, _, _, _, e, fun _ => hk⟩
        · exact ⟨_, _, _, _, _, _, (take_no hF hC g).1, fun q => by simp at q⟩
      have dk : ∃ L' R' Ro' F' C' ok, spec_DropRoot.f KK L R Ro F C k = some (L', R', Ro', F', C', ok) ∧ (ok = true → KV L' R' Ro' F' C') := by
        by_cases g : KV L R Ro F C ∧ 0 ≤ k ∧ k < Ro.length
        · obtain ⟨L', R', F', C', e, _, _, hk, _⟩ := drop_ok g.1 g.2.1 g.2.2
          exact ⟨_, _, _, _, _, _, e, fun _ => hk⟩
        · exact ⟨_, _, _, _, _, _, (drop_no hF hC g).1, fun q => by simp at q⟩
      have lk : ∃ L' R' Ro' F' C' ok, spec_LinkCounted.f KK L R Ro F C k u = some (L', R', Ro', F', C', ok) ∧ (ok = true → KV L' R' Ro' F' C') := by
        by_cases g : ((KV L R Ro F C ∧ 0 ≤ k ∧ k < Ro.length) ∧ 0 ≤ u ∧ u < Ro.length) ∧ rd Ro k ≠ -1
        · obtain ⟨L', R', F', C', e, _, _, hk, _⟩ := link_ok g.1.1.1 g.1.1.2 g.1.2 g.2
          exact ⟨_, _, _, _, _, _, e, fun _ => hk⟩
        · exact ⟨_, _, _, _, _, _, (link_no hF hC g).1, fun q => by simp at q⟩
      obtain ⟨L1, R1, Ro1, F1, C1, o1, et, ht⟩ := tk
      obtain ⟨L2, R2, Ro2, F2, C2, o2, ed, hd⟩ := dk
      obtain ⟨L3, R3, Ro3, F3, C3, o3, el, hl3⟩ := lk
      rw [et, b6_some, ew, b2_some]
      split
      · rw [ed, b6_some]
        split
        · rename_i g; exact fin _ _ _ _ _ (hd g)
        · exact fin _ _ _ _ _ h1
      · split
        · rw [el, b6_some]
          split
          · rename_i g; exact fin _ _ _ _ _ (hl3 g)
          · exact fin _ _ _ _ _ h1
        · split
          · rename_i g; exact fin _ _ _ _ _ (ht g)
          · exact fin _ _ _ _ _ h1
    · right
      rw [spec_l9Draw.loop0, if_neg c]
      exact ⟨trivial, rfl⟩
theorem l9Wrong_ex {n : Nat} {xs L R Ro F C : List Int} {p : Int} (h : Src xs p) (hp : p ≤ 1000000) (hs : Short n L R Ro F) (hn : n ≤ 10000) (hC : 1 ≤ C.length) (hC2 : C.length ≤ 8) : ∃ L' R' Ro' F' C' p', spec_l9Wrong.f KK xs p L R Ro F C = some (L', R', Ro', F', C', p') ∧ Short (n + 4) L' R' Ro' F' ∧ C'.length = C.length ∧ p ≤ p' ∧ p' ≤ p + 40 := by
  have hp0 := h.2.2.1
  have hs' := hs
  unfold Short at hs
  unfold spec_l9Wrong.f
  rw [l9Copy_eq (by omega) (by omega) (by omega) (by omega) (by omega), b5_some]
  obtain ⟨k, ek, k0, _, _⟩ := pick_ex (K := KK) (n := 20) h (by omega)
  rw [ek, b2_some]
  have h1 := h.at (p' := p + 1) (by omega) (by omega)
  split
  · obtain ⟨u, eu, u0, u1, _⟩ := pick_ex (K := KK) (n := C.length) h1 (by omega)
    obtain ⟨v, ev, _⟩ := num_ex (K := KK) (l := [-1, 0, 1, 2]) (h.at (p' := p + 1 + 1) (by omega) (by omega)) (by simp) (by simp)
    rw [eu, b2_some, ev, b2_some, if_pos ⟨u0, u1 (by omega)⟩]
    exact ⟨_, _, _, _, _, _, rfl, hs'.up (by omega), by simp, by omega, by omega⟩
  · split
    · obtain ⟨L1, R1, Ro1, F1, p1, e1, s1, a1, b1'⟩ := l4Wrong_ex (K := KK) h1 (by omega) hs' (by omega)
      obtain ⟨L2, R2, Ro2, F2, p2, e2, s2, a2, b2'⟩ := l4Wrong_ex (K := KK) (h.at (p' := p1) (by omega) (by omega)) (by omega) s1 (by omega)
      rw [e1, b5_some, e2, b5_some]
      exact ⟨_, _, _, _, _, _, rfl, s2.up (by omega), rfl, by omega, by omega⟩
    · exact ⟨_, _, _, _, _, _, rfl, hs'.up (by omega), rfl, by omega, by omega⟩
theorem KV.short {L R Ro F C : List Int} (h : KV L R Ro F C) : Short 8 L R Ro F ∧ 1 ≤ C.length ∧ C.length ≤ 8 := by
  have := h.le
  have hcl : C.length = L.length := by rw [h.2, cntL_len]
  have := h.1.1.1
  exact ⟨h.1.short, by omega, by omega⟩
theorem countedSame_self {a b c d e : List Int} (ha : a.length ≤ 1000) (hb : b.length ≤ 1000) (hc : c.length ≤ 1000) (hd : d.length ≤ 1000) (he : e.length ≤ 1000) : impl_CountedSame.f KK a b c d e a b c d e = some true := by
  rw [impl_CountedSame_eq (by show _ < 1048577; omega) (by show _ < 1048577; omega) (by show _ < 1048577; omega) (by show _ < 1048577; omega) (by show _ < 1048577; omega) (by decide)]
  simp
theorem same_kv {L R Ro F C : List Int} (h : KV L R Ro F C) : impl_CountedSame.f KK L R Ro F C L R Ro F C = some true := by
  have := h.le
  exact countedSame_self (by omega) (by omega) (by omega) (by omega) (by omega)
theorem same_nil5 : impl_CountedSame.f KK [] [] [] [] [] [] [] [] [] [] = some true := countedSame_self (by simp) (by simp) (by simp) (by simp) (by simp)
theorem l9Case_ex {a : List Int} (hu : ∀ x ∈ a, U8 x) : ∃ L R Ro F C r q, spec_l9Case.f KK a = some (L, R, Ro, F, C, r, q) ∧ Short 12 L R Ro F ∧ C.length ≤ 8 := by
  have h := Src.open hu
  unfold spec_l9Case.f
  rw [l13Open_eq, b1_some]
  obtain ⟨L, R, Ro, F, C, p, e1, hk, p0, p1⟩ := l9Draw_ex h (by omega)
  have hsh := hk.short
  obtain ⟨L', R', Ro', F', C', p', e2, hs, hc, p2, p3⟩ := l9Wrong_ex (h.at (p' := p) (by omega) (by omega)) (by omega) hsh.1 (by omega) hsh.2.1 hsh.2.2
  obtain ⟨r, e3, _⟩ := num_ex (K := KK) (l := [0, 1, 0, 2, 3, -1]) (h.at (p' := p') (by omega) (by omega)) (by simp) (by simp)
  obtain ⟨q, e4, _⟩ := num_ex (K := KK) (l := [1, 0, 2, 3]) (h.at (p' := p' + 1) (by omega) (by omega)) (by simp) (by simp)
  rw [e1, b6_some, e2, b6_some, e3, b2_some, e4, b2_some]
  exact ⟨_, _, _, _, _, _, _, rfl, hs, by omega⟩
end Go.Proofs.Ytgganabcfloioaa.T
