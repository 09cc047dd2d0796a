/- Pure theorems of the laws of counted stores. -/
import Derived.Test.YtgganabcfloioaaPx
import Derived.Test.YtgganabcfloioaaPs
namespace Go.Proofs.Ytgganabcfloioaa.T
open Go Go.RowKit Go.Proofs.Ytgganabcfloioaa.S Go.Proofs.Ytgganabcfloioaa.F
set_option linter.unusedVariables false
set_option linter.unusedSimpArgs false
theorem b10_some {α1 α2 α3 α4 α5 α6 α7 α8 α9 α10 β : Type} (a1 : α1) (a2 : α2) (a3 : α3) (a4 : α4) (a5 : α5) (a6 : α6) (a7 : α7) (a8 : α8) (a9 : α9) (a10 : α10) (f : α1 → α2 → α3 → α4 → α5 → α6 → α7 → α8 → α9 → α10 → Option β) : b10 (some (a1, a2, a3, a4, a5, a6, a7, a8, a9, a10)) f = f a1 a2 a3 a4 a5 a6 a7 a8 a9 a10 := rfl
theorem ssame_self {a b c d : List Int} (ha : a.length ≤ 1000) (hb : b.length ≤ 1000) (hc : c.length ≤ 1000) (hd : d.length ≤ 1000) : impl_StoreSame.f KK a b c d a b c d = some true := by
  rw [impl_StoreSame_eq (by show _ < 1048577; omega) (by show _ < 1048577; omega) (by show _ < 1048577; omega) (by show _ < 1048577; omega) (by decide)]
  simp
theorem DrawCountedValid_ex {a : List Int} (hu : ∀ x ∈ a, U8 x) : ∃ L R Ro F C, spec_DrawCountedValid.f KK a = some (L, R, Ro, F, C) ∧ Short 16 L R Ro F ∧ C.length ≤ 8 := by
  have h := Src.open hu
  unfold spec_DrawCountedValid.f
  rw [l13Open_eq, b1_some]
  obtain ⟨L, R, Ro, F, C, p, e1, hk, p0, p1⟩ := l9Draw_ex h (by omega)
  have hsh := hk.short
  obtain ⟨L', R', Ro', F', C', p', e2, hs, hc, p2, p3⟩ := l9Wrong_ex (h.at (p' := p) (by omega) (by omega)) (by omega) hsh.1 (by omega) hsh.2.1 hsh.2.2
  obtain ⟨L2, R2, Ro2, F2, C2, p4, e3, hs2, hc2, _⟩ := l9Wrong_ex (C := C') (h.at (p' := p') (by omega) (by omega)) (by omega) hs (by omega) (by omega) (by omega)
  rw [e1, b6_some, e2, b6_some, e3, b6_some]
  exact ⟨_, _, _, _, _, rfl, hs2, by omega⟩
theorem DrawCountedSame_ex {a : List Int} (hu : ∀ x ∈ a, U8 x) : ∃ L R Ro F C L2 R2 Ro2 F2 C2, spec_DrawCountedSame.f KK a = some (L, R, Ro, F, C, L2, R2, Ro2, F2, C2) ∧ Short 20 L R Ro F ∧ C.length ≤ 8 ∧ Short 20 L2 R2 Ro2 F2 ∧ C2.length ≤ 8 := by
  have h := Src.open hu
  unfold spec_DrawCountedSame.f
  rw [l13Open_eq, b1_some]
  obtain ⟨L, R, Ro, F, C, p, e1, hk, p0, p1⟩ := l9Draw_ex h (by omega)
  have hsh := hk.short
  obtain ⟨L', R', Ro', F', C', p', e2, hs, hc, p2, p3⟩ := l9Wrong_ex (h.at (p' := p) (by omega) (by omega)) (by omega) hsh.1 (by omega) hsh.2.1 hsh.2.2
  obtain ⟨L2, R2, Ro2, F2, C2, p4, e3, hs2, hc2, p5, p6⟩ := l9Wrong_ex (C := C') (h.at (p' := p') (by omega) (by omega)) (by omega) hs (by omega) (by omega) (by omega)
  obtain ⟨L3, R3, Ro3, F3, C3, p7, e4, hs3, hc3, _⟩ := l9Wrong_ex (C := C2) (h.at (p' := p4) (by omega) (by omega)) (by omega) hs2 (by omega) (by omega) (by omega)
  rw [e1, b6_some, e2, b6_some, e3, b6_some, e4, b6_some]
  exact ⟨_, _, _, _, _, _, _, _, _, _, rfl, hsh.1.up (by omega), by omega, hs3, by omega⟩
theorem DrawNewCounted_ex {a : List Int} (hu : ∀ x ∈ a, U8 x) : ∃ L R Ro F, spec_DrawNewCounted.f KK a = some (L, R, Ro, F) ∧ Short 10 L R Ro F := by
  unfold spec_DrawNewCounted.f spec_DrawCollectStore.f
  obtain ⟨L, R, Ro, F, c, e, hs⟩ := l4Case_ex (K := KK) hu (by decide)
  rw [e, b5_some, b4_some]
  exact ⟨_, _, _, _, rfl, hs⟩
theorem DrawTakeCounted_ex {a : List Int} (hu : ∀ x ∈ a, U8 x) : ∃ L R Ro F C r, spec_DrawTakeCounted.f KK a = some (L, R, Ro, F, C, r) ∧ Short 12 L R Ro F ∧ C.length ≤ 8 := by
  unfold spec_DrawTakeCounted.f
  obtain ⟨L, R, Ro, F, C, r, q, e, hs⟩ := l9Case_ex hu
  rw [e, b7_some]
  exact ⟨_, _, _, _, _, _, rfl, hs⟩
theorem DrawDropRoot_ex {a : List Int} (hu : ∀ x ∈ a, U8 x) : ∃ L R Ro F C r, spec_DrawDropRoot.f KK a = some (L, R, Ro, F, C, r) ∧ Short 12 L R Ro F ∧ C.length ≤ 8 := by
  unfold spec_DrawDropRoot.f
  obtain ⟨L, R, Ro, F, C, r, e, hs⟩ := DrawTakeCounted_ex hu
  rw [e, b6_some]
  exact ⟨_, _, _, _, _, _, rfl, hs⟩
theorem DrawLinkCounted_ex {a : List Int} (hu : ∀ x ∈ a, U8 x) : ∃ L R Ro F C r q, spec_DrawLinkCounted.f KK a = some (L, R, Ro, F, C, r, q) ∧ Short 12 L R Ro F ∧ C.length ≤ 8 := by
  unfold spec_DrawLinkCounted.f
  obtain ⟨L, R, Ro, F, C, r, q, e, hs⟩ := l9Case_ex hu
  rw [e, b7_some]
  exact ⟨_, _, _, _, _, _, _, rfl, hs⟩
theorem Fit.of8 {xs : List Int} (h : xs.length ≤ 8) : Fit KK xs := .of (by omega)
theorem markCounted_ex {a b c d e : List Int} (ha : a.length ≤ 1000) (hb : b.length ≤ 1000) (hc : c.length ≤ 1000) (hd : d.length ≤ 1000) (he : e.length ≤ 1000) : ∃ k a' b' c' d' e', laws_markCounted.f KK a b c d e 1 = some (k, a', b', c', d', e') ∧ laws_heldCounted.f KK a' b' c' d' e' 1 = some k ∧ ¬k < 0 := by
  have fa : Fit KK a := .of (by omega)
  have fb : Fit KK b := .of (by omega)
  have fc : Fit KK c := .of (by omega)
  have fd : Fit KK d := .of (by omega)
  have fe : Fit KK e := .of (by omega)
  unfold laws_markCounted.f laws_heldCounted.f
  rw [markStore_eq fa fb fc fd (by omega) (by omega), b5_some, markIntS_eq fe.1 fe.2 (by omega) (by omega), b2_some]
  refine ⟨_, _, _, _, _, _, rfl, ?_, ?_⟩
  · rw [heldStore_eq fa fb fc fd (by omega) (by omega), b1_some, if_neg (by omega), heldIntS_eq fe.1 fe.2 (by omega) (by omega), b1_some, if_neg (by omega)]
  · omega
theorem ncV_len {L R Ro F : List Int} : (ncV L R Ro F).1.length ≤ 8 ∧ (ncV L R Ro F).2.1.length ≤ 8 ∧ (ncV L R Ro F).2.2.1.length ≤ 8 ∧ (ncV L R Ro F).2.2.2.1.length ≤ 8 ∧ (ncV L R Ro F).2.2.2.2.1.length ≤ 8 := by
  unfold ncV
  by_cases h : SV L R Ro F
  · rw [if_pos h]
    have hk : KV L R Ro F (cntL L R Ro) := ⟨h, rfl⟩
    exact hk.le
  · rw [if_neg h]; simp
theorem dn_m1 {k : Nat} {L R F C : List Int} : dn (k + 1) L R F C [-1] = (L, R, F, C) := by
  unfold dn
  rw [if_pos rfl, dn_nil]
theorem rd_pre {F F' : List Int} (h : F <+: F') (hne : F ≠ []) : rd F' 0 = rd F 0 := by
  obtain ⟨t, rfl⟩ := h
  obtain ⟨x, F, rfl⟩ := List.exists_cons_of_ne_nil hne
  rfl
theorem KV.one {L R Ro F C : List Int} (h : KV L R Ro F C) {x : Int} (h0 : 0 ≤ x) (h1 : x < L.length) (hx : x ∈ L ∨ x ∈ Ro) : 1 ≤ rd C x := by
  rw [h.2, rd_cntL h0 h1]
  have : ¬cnt L R Ro x = 0 := fun z => by
    have := cnt_zero.1 z
    rcases hx with g | g
    · exact this.1 g
    · exact this.2.2 g
  omega
end Go.Proofs.Ytgganabcfloioaa.T
namespace Go.Proofs.Ytgganabcfloioaa.Pure
set_option linter.unusedVariables false
set_option linter.unusedSimpArgs false
open Go Go.RowKit Go.Proofs.Ytgganabcfloioaa.S Go.Proofs.Ytgganabcfloioaa.F Go.Proofs.Ytgganabcfloioaa.T
theorem FnExactNewCounted : ∀ (a0_0 : List Int), a0_0.length ≤ 9223372036854775807 → (∀ x ∈ a0_0, I64 x) → ∀ (a0_1 : List Int), a0_1.length ≤ 9223372036854775807 → (∀ x ∈ a0_1, I64 x) → ∀ (a0_2 : List Int), a0_2.length ≤ 9223372036854775807 → (∀ x ∈ a0_2, I64 x) → ∀ (a0_3 : List Int), a0_3.length ≤ 9223372036854775807 → (∀ x ∈ a0_3, I64 x) → ∃ K, laws_FnExactNewCounted.f K a0_0 a0_1 a0_2 a0_3 = some true := by
  intro L hL _ R hR _ Ro hRo _ F hF _
  refine ⟨KK, ?_⟩
  unfold laws_FnExactNewCounted.f
  obtain ⟨r, e, g⟩ := szStore_f hL hR hRo hF
  rw [e, b1_some]
  rcases g with g | ⟨g, _, _, fL, fR, fRo, fF⟩
  · rw [if_pos g]
  rw [if_neg g]
  obtain ⟨h1, h2, h3, h4, h5⟩ := @ncV_len L R Ro F
  obtain ⟨k, x1, x2, x3, x4, m1, m2, m3⟩ := markStore_ex fL fR fRo fF
  obtain ⟨k', y1, y2, y3, y4, y5, n1, n2, n3⟩ := markCounted_ex (a := (ncV L R Ro F).1) (b := (ncV L R Ro F).2.1) (c := (ncV L R Ro F).2.2.1) (d := (ncV L R Ro F).2.2.2.1) (e := (ncV L R Ro F).2.2.2.2.1) (by omega) (by omega) (by omega) (by omega) (by omega)
  simp only [toStore_f fL fR fRo fF, b4_some, spec_NewCounted_eq (K := KK) (L := L) (R := R) (Ro := Ro) (F := F) (by decide), impl_NewCounted_eq (K := KK) (L := L) (R := R) (Ro := Ro) (F := F) (by decide) fF.1 fF.mx2, b6_p, b5_p, b1_some, eqCounted_s (Fit.of8 h1) (Fit.of8 h2) (Fit.of8 h3) (Fit.of8 h4) (Fit.of8 h5), eqStore_s fL fR fRo fF, if_true, m1, m2, m3, n1, n2, n3, if_false]
theorem FnExactCountedValid : ∀ (a0_0 : List Int), a0_0.length ≤ 9223372036854775807 → (∀ x ∈ a0_0, I64 x) → ∀ (a0_1 : List Int), a0_1.length ≤ 9223372036854775807 → (∀ x ∈ a0_1, I64 x) → ∀ (a0_2 : List Int), a0_2.length ≤ 9223372036854775807 → (∀ x ∈ a0_2, I64 x) → ∀ (a0_3 : List Int), a0_3.length ≤ 9223372036854775807 → (∀ x ∈ a0_3, I64 x) → ∀ (a0_4 : List Int), a0_4.length ≤ 9223372036854775807 → (∀ x ∈ a0_4, I64 x) → ∃ K, laws_FnExactCountedValid.f K a0_0 a0_1 a0_2 a0_3 a0_4 = some true := by
  intro L hL _ R hR _ Ro hRo _ F hF _ C hC _
  refine ⟨KK, ?_⟩
  unfold laws_FnExactCountedValid.f
  obtain ⟨r, e, g⟩ := szCounted_f hL hR hRo hF hC
  rw [e, b1_some]
  rcases g with g | ⟨g, _, _, fL, fR, fRo, fF, fC⟩
  · rw [if_pos g]
  rw [if_neg g]
  simp only [toCounted_f fL fR fRo fF fC, b5_some, spec_CountedValid_eq (L := L) (R := R) (Ro := Ro) (F := F) fC.1, impl_CountedValid_eq (L := L) (R := R) (Ro := Ro) (F := F) fF.1 fC.1, b1_some, eqCounted_s fL fR fRo fF fC, if_true]
theorem FnCountedValid : ∀ (a0 : List Int), a0.length ≤ 9223372036854775807 → (∀ x ∈ a0, U8 x) → ∃ K, laws_FnCountedValid.f K a0 = some true := by
  intro a _ hu
  refine ⟨KK, ?_⟩
  unfold laws_FnCountedValid.f
  by_cases big : (a.length : Int) > 1048576
  · rw [if_pos big]
  rw [if_neg big]
  obtain ⟨L, R, Ro, F, C, e, hs, hc⟩ := DrawCountedValid_ex hu
  obtain ⟨s1, s2, s3, s4, s5⟩ := hs
  have hF : F.length < KK := by show _ < 1048577; omega
  have hC : C.length < KK := by show _ < 1048577; omega
  rw [e, b5_some, spec_CountedValid_eq hC, impl_CountedValid_eq hF hC, b1_some, b1_some, if_pos rfl, b1_some]
  by_cases h : KV L R Ro F C
  rotate_left
  · rw [if_neg (by simpa using h)]; simp
  have hl := h.le
  have hcl : C.length = L.length := by rw [h.2, cntL_len]
  have hL1 := h.1.1.1
  rw [if_pos (decide_eq_true h), List.nil_append, if_pos (by simp; omega), if_pos (by omega)]
  have n1 : ¬KV L R Ro F (C.set (0:Int).toNat (wrap64 (rd C 0 + 1))) := by
    intro g
    have e2 : C.set (0:Int).toNat (wrap64 (rd C 0 + 1)) = C := by rw [g.2, ← h.2]
    have e3 : rd (C.set (0:Int).toNat (wrap64 (rd C 0 + 1))) 0 = rd C 0 := by rw [e2]
    rw [rd_set_self (by omega) (by omega)] at e3
    unfold wrap64 at e3
    omega
  have hC2 : (C.set (0:Int).toNat (wrap64 (rd C 0 + 1))).length < KK := by rw [List.length_set]; exact hC
  rw [impl_CountedValid_eq hF hC2, b1_some, if_neg (by simpa using n1), impl_StoreValid_eq (by decide) hF (by omega), b1_some, decide_eq_true h.1]
theorem FnCountedSame : ∀ (a0 : List Int), a0.length ≤ 9223372036854775807 → (∀ x ∈ a0, U8 x) → ∃ K, laws_FnCountedSame.f K a0 = some true := by
  intro a _ hu
  refine ⟨KK, ?_⟩
  unfold laws_FnCountedSame.f
  by_cases big : (a.length : Int) > 1048576
  · rw [if_pos big]
  rw [if_neg big]
  obtain ⟨L, R, Ro, F, C, L2, R2, Ro2, F2, C2, e, hs, hc, hs2, hc2⟩ := DrawCountedSame_ex hu
  unfold Short at hs hs2
  have f : ∀ xs : List Int, xs.length ≤ 1000 → xs.length < KK := fun xs h => by show _ < 1048577; omega
  have k1 := f L (by omega); have k2 := f R (by omega); have k3 := f Ro (by omega); have k4 := f F (by omega); have k5 := f C (by omega)
  have j1 := f L2 (by omega); have j2 := f R2 (by omega); have j3 := f Ro2 (by omega); have j4 := f F2 (by omega); have j5 := f C2 (by omega)
  rw [e, b10_some, impl_CountedSame_eq k1 k2 k3 k4 k5 (by decide), b1_some, spec_CountedSame_eq k1 k2 k3 k4 k5 (by decide), b1_some, if_pos rfl, impl_CountedSame_eq j1 j2 j3 j4 j5 (by decide), b1_some, if_pos (by simp only [eq_comm (a := L), eq_comm (a := R), eq_comm (a := Ro), eq_comm (a := F), eq_comm (a := C)]), countedSame_self (by omega) (by omega) (by omega) (by omega) (by omega), b1_some, if_pos rfl]
  split
  · rename_i g
    simp only [decide_eq_true_eq] at g
    rw [impl_CountedValid_eq k4 k5, b1_some, impl_CountedValid_eq j4 j5, b1_some]
    have : (KV L R Ro F C) = (KV L2 R2 Ro2 F2 C2) := by grind
    simp [this]
  · rfl
theorem FnCountsSame : ∀ (a0 : List Int), a0.length ≤ 9223372036854775807 → (∀ x ∈ a0, U8 x) → ∃ K, laws_FnCountsSame.f K a0 = some true := by
  intro a _ hu
  refine ⟨KK, ?_⟩
  unfold laws_FnCountsSame.f
  by_cases big : (a.length : Int) > 1048576
  · rw [if_pos big]
  rw [if_neg big]
  obtain ⟨L, R, Ro, F, C, e, hs, hc⟩ := DrawCountedValid_ex hu
  obtain ⟨s1, s2, s3, s4, s5⟩ := hs
  have hF : F.length < KK := by show _ < 1048577; omega
  have hC : C.length < KK := by show _ < 1048577; omega
  rw [e, b5_some, spec_CountedValid_eq hC, impl_CountedValid_eq hF hC, b1_some, impl_NewCounted_eq (by decide) hF (by omega)]
  unfold ncV
  by_cases h : SV L R Ro F
  · rw [if_pos h, b6_some, b1_some, if_pos rfl, if_pos rfl]
    have hk : KV L R Ro F (cntL L R Ro) := ⟨h, rfl⟩
    have hl := hk.le
    rw [impl_CountedSame_eq (by show _ < 1048577; omega) (by show _ < 1048577; omega) (by show _ < 1048577; omega) (by show _ < 1048577; omega) (by show _ < 1048577; omega) (by decide), b1_some]
    have : KV L R Ro F C ↔ (L = L ∧ R = R ∧ Ro = Ro ∧ F = F ∧ cntL L R Ro = C) := by
      unfold KV; constructor
      · rintro ⟨_, g⟩; exact ⟨rfl, rfl, rfl, rfl, g.symm⟩
      · rintro ⟨_, _, _, _, g⟩; exact ⟨h, g.symm⟩
    simp [this]
  · have : ¬KV L R Ro F C := fun g => h g.1
    rw [if_neg h, b6_some, b1_some, if_pos rfl, decide_eq_false this]
    rfl
theorem FnNewCounted : ∀ (a0 : List Int), a0.length ≤ 9223372036854775807 → (∀ x ∈ a0, U8 x) → ∃ K, laws_FnNewCounted.f K a0 = some true := by
  intro a _ hu
  refine ⟨KK, ?_⟩
  unfold laws_FnNewCounted.f
  by_cases big : (a.length : Int) > 1048576
  · rw [if_pos big]
  rw [if_neg big]
  obtain ⟨L, R, Ro, F, e, hs⟩ := DrawNewCounted_ex hu
  obtain ⟨s1, s2, s3, s4, s5⟩ := hs
  have hF : F.length < KK := by show _ < 1048577; omega
  rw [e, b4_some, spec_NewCounted_eq (by decide), impl_NewCounted_eq (by decide) hF (by omega)]
  unfold ncV
  by_cases h : SV L R Ro F
  rotate_left
  · rw [if_neg h, b6_some, b6_some, same_nil5]; rfl
  have hk : KV L R Ro F (cntL L R Ro) := ⟨h, rfl⟩
  have hl := hk.le
  rw [if_pos h, b6_some, b6_some, same_kv hk, b1_some, if_pos rfl, if_pos rfl, if_pos rfl]
  have hC : (cntL L R Ro).length < KK := by show _ < 1048577; omega
  refine loop_st (fun m p (s : Unit) => laws_FnNewCounted.loop0 KK _ L R Ro F (cntL L R Ro) m p) (fun _ => ()) (cntL L R Ro).length (some true) ?_ ?_ hC
  · intro m i hi
    rw [laws_FnNewCounted.loop0, if_pos (by omega), impl_IsFree_eq (by decide) hF (by omega), b1_some, w64_succ hi (by omega)]
    unfold freeV
    by_cases c : SV L R Ro F ∧ (i : Int) ∈ F
    · have hf := (hk.gi).free _ c.2
      rw [if_pos (decide_eq_true c), if_pos (by omega), if_pos hf.2.2.2.2]
    · rw [if_neg (by simpa using c)]
  · intro m
    rw [laws_FnNewCounted.loop0, if_neg (by omega), impl_CountedValid_eq hF hC, b1_some, if_pos (decide_eq_true hk), ssame_self (by omega) (by omega) (by omega) (by omega), b1_some, if_pos rfl, impl_CountsOf_eq (by decide), b1_some]
    unfold cntV
    rw [if_pos h.1, ccInts_eq hC (by omega), b1_some]; simp
theorem FnDropTwice : ∀ (a0 : List Int), a0.length ≤ 9223372036854775807 → (∀ x ∈ a0, U8 x) → ∃ K, laws_FnDropTwice.f K a0 = some true := by
  intro a _ hu
  refine ⟨KK, ?_⟩
  unfold laws_FnDropTwice.f
  by_cases big : (a.length : Int) > 1048576
  · rw [if_pos big]
  rw [if_neg big]
  obtain ⟨L, R, Ro, F, C, r, e, hs, hc⟩ := DrawDropRoot_ex hu
  unfold Short at hs
  have hF : F.length < KK := by show _ < 1048577; omega
  have hC : C.length < KK := by show _ < 1048577; omega
  rw [e, b6_some]
  by_cases h : KV L R Ro F C ∧ 0 ≤ r ∧ r < Ro.length
  rotate_left
  · obtain ⟨e1, e2⟩ := drop_no hF hC h
    rw [e1, e2, b6_some, b6_some, same_nil5]; rfl
  obtain ⟨L', R', F', C', e1, e2, _, hk, _⟩ := drop_ok h.1 h.2.1 h.2.2
  rw [e1, e2, b6_some, b6_some, same_kv hk, b1_some, if_pos rfl, if_pos rfl, if_pos rfl]
  obtain ⟨L2, R2, F2, C2, e3, e4, ed, hk2, _⟩ := drop_ok hk h.2.1 (by rw [List.length_set]; exact h.2.2)
  rw [rd_set_self h.2.1 h.2.2, dn_m1] at ed
  injection ed with q1 ed
  injection ed with q2 ed
  injection ed with q3 q4
  subst q1 q2 q3 q4
  rw [List.set_set] at e4
  rw [e4, b6_some, if_pos rfl, same_kv hk, b1_some]
theorem FnLinkCounted : ∀ (a0 : List Int), a0.length ≤ 9223372036854775807 → (∀ x ∈ a0, U8 x) → ∃ K, laws_FnLinkCounted.f K a0 = some true := by
  intro a _ hu
  refine ⟨KK, ?_⟩
  unfold laws_FnLinkCounted.f
  by_cases big : (a.length : Int) > 1048576
  · rw [if_pos big]
  rw [if_neg big]
  obtain ⟨L, R, Ro, F, C, r, q, e, hs, hc⟩ := DrawLinkCounted_ex hu
  unfold Short at hs
  have hF : F.length < KK := by show _ < 1048577; omega
  have hC : C.length < KK := by show _ < 1048577; omega
  rw [e, b7_some]
  by_cases h : ((KV L R Ro F C ∧ 0 ≤ r ∧ r < Ro.length) ∧ 0 ≤ q ∧ q < Ro.length) ∧ rd Ro r ≠ -1
  rotate_left
  · obtain ⟨e1, e2⟩ := link_no hF hC h
    rw [e1, e2, b6_some, b6_some, same_nil5]; rfl
  obtain ⟨⟨⟨hkv, hr⟩, hq⟩, hne⟩ := h
  obtain ⟨L', R', F', C', e1, e2, _, hk, hd⟩ := link_ok hkv hr hq hne
  have hl := hk.le
  have hr' := hkv.1.1.rdRo hr.1 hr.2
  have hq' := hkv.1.1.rdRo hq.1 hq.2
  have hll : L'.length = L.length := by rw [hd.llen, List.length_set]
  have hkeep : rd L' (rd Ro r) = rd Ro q := by
    rw [hd.keepL (rd Ro r) (by omega) (by rw [List.length_set]; exact hr'.2) (.inl (rd_mem hr.1 hr.2)), rd_set_self (by omega) hr'.2]
  have hF' : F'.length < KK := by show _ < 1048577; omega
  have hC' : C'.length < KK := by show _ < 1048577; omega
  have hcl : C'.length = L'.length := by rw [hk.2, cntL_len]
  obtain ⟨L2, R2, F2, C2, e3, e4, ed, hk2, _⟩ := link_ok hk hr hq hne
  have hset : L'.set (rd Ro r).toNat (rd Ro q) = L' := by
    refine ext_rd (by rw [List.length_set]) fun i hi => ?_
    rw [List.length_set] at hi
    rw [rd_set (by omega) (by omega) (by omega)]
    split
    · rename_i g; rw [← g, hkeep]
    · rfl
  have ed2 : dn 40 L' R' F' (up1 C' (rd Ro q)) [rd Ro q] = (L', R', F', C') := by
    by_cases c : rd Ro q = -1
    · unfold up1; rw [if_pos c, c, dn_m1]
    · have h1 := hk.one (x := rd Ro q) (by omega) (by omega) (.inr (rd_mem hq.1 hq.2))
      unfold up1 dn
      rw [if_neg c, if_neg c, rd_set_self (by omega) (by omega), if_pos (by omega), dn_nil, List.set_set]
      have : C'.set (rd Ro q).toNat (rd C' (rd Ro q) + 1 - 1) = C' := by
        refine ext_rd (by rw [List.length_set]) fun i hi => ?_
        rw [List.length_set] at hi
        rw [rd_set (by omega) (by omega) (by omega)]
        split
        · rename_i g; rw [← g]; omega
        · rfl
      rw [this]
  rw [hset, hkeep, ed2] at ed
  injection ed with q1 ed
  injection ed with q2 ed
  injection ed with q3 q4
  subst q1 q2 q3 q4
  rw [e1, e2, b6_some, b6_some, same_kv hk, b1_some, if_pos rfl, if_pos rfl, if_pos rfl, e4, b6_some, impl_CountedValid_eq hF' hC', b1_some, if_pos (decide_eq_true hk), if_pos hr, if_pos (by omega), if_pos hq, if_pos hkeep, if_pos rfl, same_kv hk, b1_some]
theorem FnDropRoot : ∀ (a0 : List Int), a0.length ≤ 9223372036854775807 → (∀ x ∈ a0, U8 x) → ∃ K, laws_FnDropRoot.f K a0 = some true := by
  intro a _ hu
  refine ⟨KK, ?_⟩
  unfold laws_FnDropRoot.f
  by_cases big : (a.length : Int) > 1048576
  · rw [if_pos big]
  rw [if_neg big]
  obtain ⟨L, R, Ro, F, C, r, e, hs, hc⟩ := DrawDropRoot_ex hu
  unfold Short at hs
  have hF : F.length < KK := by show _ < 1048577; omega
  have hC : C.length < KK := by show _ < 1048577; omega
  rw [e, b6_some]
  by_cases h : KV L R Ro F C ∧ 0 ≤ r ∧ r < Ro.length
  rotate_left
  · obtain ⟨e1, e2⟩ := drop_no hF hC h
    rw [e1, e2, b6_some, b6_some, same_nil5]; rfl
  obtain ⟨L', R', F', C', e1, e2, _, hk, hd⟩ := drop_ok h.1 h.2.1 h.2.2
  have hl := hk.le
  have hl0 := h.1.le
  have hcl : C.length = L.length := by rw [h.1.2, cntL_len]
  have hcl' : C'.length = L.length := by rw [hk.2, cntL_len, hd.llen]
  have hF' : F'.length < KK := by show _ < 1048577; omega
  have hC' : C'.length < KK := by show _ < 1048577; omega
  rw [e1, e2, b6_some, b6_some, same_kv hk, b1_some, if_pos rfl, if_pos rfl, if_pos rfl]
  refine loop_st (fun m p (s : Unit) => laws_FnDropRoot.loop0 KK _ L R Ro F C L' R' (Ro.set r.toNat (-1)) F' C' m p) (fun _ => ()) C'.length (some true) ?_ ?_ hC'
  · intro m i hi
    rw [laws_FnDropRoot.loop0, if_pos (by omega), if_pos (by omega), impl_IsFree_eq (by decide) hF' (by omega), b1_some, w64_succ hi (by omega)]
    have iff := hd.iff (i : Int) (by omega) (by omega)
    by_cases c : ((rd C' (i : Int)) == (0:Int)) = freeV L' R' (Ro.set r.toNat (-1)) F' (i : Int)
    · rw [if_pos c]
    · rw [if_neg c, impl_IsFree_eq (by decide) hF (by omega), b1_some, if_pos (by omega), if_neg]
      intro g
      apply c
      unfold freeV at g ⊢
      have a1 : SV L R Ro F := h.1.1
      have a2 : SV L' R' (Ro.set r.toNat (-1)) F' := hk.1
      simp only [a1, a2, true_and] at g ⊢
      rw [Bool.eq_iff_iff, decide_eq_true_iff, beq_iff_eq] at g
      rw [Bool.eq_iff_iff, decide_eq_true_iff, beq_iff_eq]
      exact (iff g).symm
  · intro m
    rw [laws_FnDropRoot.loop0, if_neg (by omega), impl_CountedValid_eq hF' hC', b1_some, if_pos (decide_eq_true hk), if_pos (by rw [List.length_set]; exact h.2), if_pos (rd_set_self h.2.1 h.2.2)]
    have := hd.pre.length_le
    simp; omega
theorem FnTakeCounted : ∀ (a0 : List Int), a0.length ≤ 9223372036854775807 → (∀ x ∈ a0, U8 x) → ∃ K, laws_FnTakeCounted.f K a0 = some true := by
  intro a _ hu
  refine ⟨KK, ?_⟩
  unfold laws_FnTakeCounted.f
  by_cases big : (a.length : Int) > 1048576
  · rw [if_pos big]
  rw [if_neg big]
  obtain ⟨L, R, Ro, F, C, r, e, hs, hc⟩ := DrawTakeCounted_ex hu
  unfold Short at hs
  have hF : F.length < KK := by show _ < 1048577; omega
  have hC : C.length < KK := by show _ < 1048577; omega
  rw [e, b6_some]
  by_cases h : (KV L R Ro F C ∧ 0 ≤ r ∧ r < Ro.length) ∧ F ≠ []
  rotate_left
  · obtain ⟨e1, e2⟩ := take_no hF hC h
    rw [e1, e2, b6_some, b6_some, same_nil5]; rfl
  obtain ⟨⟨hkv, r0, r1⟩, hne⟩ := h
  have hFl : 0 < F.length := List.length_pos_iff.2 hne
  have f0 : rd F 0 ∈ F := rd_mem (by omega) (by omega)
  have hf := hkv.gi.free _ f0
  have hl0 := hkv.le
  have hcl : C.length = L.length := by rw [hkv.2, cntL_len]
  obtain ⟨L', R', F', C', e1, e2, et, hk, hd⟩ := take_ok hkv r0 r1 hne
  obtain ⟨L2, R2, F2, C2, e3, e4, ed, hk2, hd2⟩ := drop_ok hkv r0 r1
  have hne2 : F2 ≠ [] := by rintro rfl; have := hd2.pre.length_le; rw [List.length_nil] at this; omega
  have hf2 : rd F2 0 = rd F 0 := rd_pre hd2.pre hne
  obtain ⟨L3, R3, F3, C3, e5, e6, et3, hk3, hd3⟩ := take_ok hk2 r0 (by rw [List.length_set]; exact r1) hne2
  rw [rd_set_self r0 r1, dn_m1] at et3
  injection et3 with q1 et3
  injection et3 with q2 et3
  injection et3 with q3 q4
  subst q1 q2 q3 q4
  rw [List.set_set, hf2] at e6
  obtain ⟨M1, M2, M3, M4, M5, M6, t1, t2⟩ := dn_twin (c := rd F 0) (v := 1) 40 L R F (F.drop 1) C [rd Ro r] (hkv.drop r0 r1) f0
  rw [t1] at ed
  rw [t2] at et
  injection ed with q1 ed
  injection ed with q2 ed
  injection ed with q3 q4
  subst q1 q2 q3 q4
  injection et with q1 et
  injection et with q2 et
  injection et with q3 q4
  subst q1 q2 q3 q4
  have hl := hk.le
  have hll : M1.length = L.length := hd.llen
  have hcl' : M6.length = L.length := by rw [hk.2, cntL_len, hll]
  have hF' : M5.length < KK := by show _ < 1048577; omega
  have hC' : M6.length < KK := by show _ < 1048577; omega
  have le1 := hd.le (rd F 0) hf.1 hf.2.1
  rw [rd_set_self hf.1 (by omega)] at le1
  have hin : rd F 0 ∈ Ro.set r.toNat (rd F 0) := List.mem_set (by omega) _
  have ge1 := hk.one (x := rd F 0) hf.1 (by omega) (.inr hin)
  rw [e1, e2, b6_some, b6_some, same_kv hk, b1_some, if_pos rfl, if_pos rfl, if_pos rfl, if_pos (by omega), e4, b6_some, e6, b6_some, impl_CountedValid_eq hF' hC', b1_some, if_pos (decide_eq_true hk), if_pos (by omega), if_pos (by omega), if_pos (by rw [List.length_set]; exact ⟨r0, r1⟩), if_pos (rd_set_self r0 r1), if_pos rfl, if_pos rfl, impl_HeapSame_eq (by show _ < 1048577; omega) (by show _ < 1048577; omega) (by show _ < 1048577; omega) (by decide), b1_some]
  simp
theorem FnTakeFree : ∀ (a0 : List Int), a0.length ≤ 9223372036854775807 → (∀ x ∈ a0, U8 x) → ∃ K, laws_FnTakeFree.f K a0 = some true := by
  intro a _ hu
  refine ⟨KK, ?_⟩
  unfold laws_FnTakeFree.f
  by_cases big : (a.length : Int) > 1048576
  · rw [if_pos big]
  rw [if_neg big]
  obtain ⟨L, R, Ro, F, C, r, e, hs, hc⟩ := DrawTakeCounted_ex hu
  unfold Short at hs
  have hF : F.length < KK := by show _ < 1048577; omega
  have hC : C.length < KK := by show _ < 1048577; omega
  rw [e, b6_some]
  by_cases h : (KV L R Ro F C ∧ 0 ≤ r ∧ r < Ro.length) ∧ F ≠ []
  rotate_left
  · obtain ⟨e1, e2⟩ := take_no hF hC h
    rw [e1, e2, b6_some, b6_some, same_nil5]; rfl
  obtain ⟨⟨hkv, r0, r1⟩, hne⟩ := h
  have hFl : 0 < F.length := List.length_pos_iff.2 hne
  have f0 : rd F 0 ∈ F := rd_mem (by omega) (by omega)
  have hf := hkv.gi.free _ f0
  have hl0 := hkv.le
  have hcl : C.length = L.length := by rw [hkv.2, cntL_len]
  obtain ⟨L', R', F', C', e1, e2, et, hk, hd⟩ := take_ok hkv r0 r1 hne
  have hl := hk.le
  have hll : L'.length = L.length := hd.llen
  have hcl' : C'.length = L.length := by rw [hk.2, cntL_len, hll]
  have r1' : r < (Ro.set r.toNat (rd F 0)).length := by rw [List.length_set]; exact r1
  have hrd : rd (Ro.set r.toNat (rd F 0)) r = rd F 0 := rd_set_self r0 r1
  have hF' : F'.length < KK := by show _ < 1048577; omega
  have le1 := hd.le (rd F 0) hf.1 hf.2.1
  rw [rd_set_self hf.1 (by omega)] at le1
  have hin : rd F 0 ∈ Ro.set r.toNat (rd F 0) := List.mem_set (by omega) _
  have ge1 := hk.one (x := rd F 0) hf.1 (by omega) (.inr hin)
  obtain ⟨L2, R2, F2, C2, e3, e4, ed, hk2, hd2⟩ := drop_ok hk r0 r1'
  have hl2 := hk2.le
  have hcl2 : C2.length = L.length := by rw [hk2.2, cntL_len, hd2.llen, hll]
  have hF2 : F2.length < KK := by show _ < 1048577; omega
  have hg := hk.drop r0 r1'
  rw [hrd] at ed hg
  have hdn : dn 40 L' R' F' C' [rd F 0] = dn 39 (L'.set (rd F 0).toNat (-1)) (R'.set (rd F 0).toNat (-1)) (F' ++ [rd F 0]) (C'.set (rd F 0).toNat (rd C' (rd F 0) - 1)) ([] ++ [rd L' (rd F 0), rd R' (rd F 0)]) := by
    conv => lhs; unfold dn
    rw [if_neg (by omega), if_neg (by omega)]
  have hg2 := hg.fall hf.1 (by omega) (by omega)
  obtain ⟨M1, M2, M3, M4, t1, t2⟩ := dn_says hg2 (k := 39) (by simp)
  rw [hdn] at ed
  rw [t1] at ed
  injection ed with q1 ed
  injection ed with q2 ed
  injection ed with q3 q4
  subst q1 q2 q3 q4
  have hin2 : rd F 0 ∈ M3 := t2.pre.subset (by simp)
  have hz : rd M4 (rd F 0) = 0 := t2.zero _ hf.1 (by rw [List.length_set]; omega) (by rw [rd_set_self hf.1 (by omega)]; omega)
  have fr0 : freeV L R Ro F (rd F 0) = true := decide_eq_true ⟨hkv.1, f0⟩
  have fr1 : freeV L' R' (Ro.set r.toNat (rd F 0)) F' (rd F 0) = false := decide_eq_false fun g => (g.1.2.2 _ g.2).2.2.2.2.2.2 hin
  have fr2 : freeV M1 M2 ((Ro.set r.toNat (rd F 0)).set r.toNat (-1)) M3 (rd F 0) = true := decide_eq_true ⟨hk2.1, hin2⟩
  rw [e1, e2, b6_some, b6_some, same_kv hk, b1_some, if_pos rfl, if_pos rfl, if_pos rfl, if_pos ⟨r0, r1'⟩, e4, b6_some, hrd, impl_IsFree_eq (by decide) hF (by omega), fr0, b1_some, if_pos rfl, impl_IsFree_eq (by decide) hF' (by omega), fr1, b1_some, if_neg (by simp), if_pos rfl, impl_IsFree_eq (by decide) hF2 (by omega), fr2, b1_some, if_pos rfl, if_pos (by omega), hz]
  rfl
theorem FnLinkSelf : ∀ (a0 : List Int), a0.length ≤ 9223372036854775807 → (∀ x ∈ a0, U8 x) → ∃ K, laws_FnLinkSelf.f K a0 = some true := by
  intro a _ hu
  refine ⟨KK, ?_⟩
  unfold laws_FnLinkSelf.f
  by_cases big : (a.length : Int) > 1048576
  · rw [if_pos big]
  rw [if_neg big]
  obtain ⟨L, R, Ro, F, C, r, q, e, hs, hc⟩ := DrawLinkCounted_ex hu
  unfold Short at hs
  have hF : F.length < KK := by show _ < 1048577; omega
  have hC : C.length < KK := by show _ < 1048577; omega
  rw [e, b7_some]
  by_cases h : ((KV L R Ro F C ∧ 0 ≤ r ∧ r < Ro.length) ∧ 0 ≤ q ∧ q < Ro.length) ∧ rd Ro r ≠ -1
  rotate_left
  · obtain ⟨e1, e2⟩ := link_no hF hC h
    rw [e1, e2, b6_some, b6_some, same_nil5]; rfl
  obtain ⟨⟨⟨hkv, hr⟩, hq⟩, hne⟩ := h
  obtain ⟨L', R', F', C', e1, e2, _, hk, hd⟩ := link_ok hkv hr hq hne
  obtain ⟨L1, R1, F1, C1, e3, e4, _, hk1, hd1⟩ := link_ok hkv hr hr hne
  have hr' := hkv.1.1.rdRo hr.1 hr.2
  rw [e1, e2, b6_some, b6_some, same_kv hk, b1_some, if_pos rfl, if_pos rfl, if_pos rfl, if_pos hr, e4, b6_some]
  have hkeep : rd L1 (rd Ro r) = rd Ro r := by
    rw [hd1.keepL (rd Ro r) (by omega) (by rw [List.length_set]; exact hr'.2) (.inl (rd_mem hr.1 hr.2)), rd_set_self (by omega) hr'.2]
  have hll : L1.length = L.length := by rw [hd1.llen, List.length_set]
  generalize rd Ro r = x at *
  have key := loop_ex (fun m p (s : List Int × List Int × List Int × List Int × List Int) => laws_FnLinkSelf.loop0 KK (fun l11 l12 l13 l14 l15 =>
            if true = true then
              b1 (impl_IsFree.f KK l11 l12 l13 l14 x) fun v51 =>
              if v51 = true then
                some false
              else
                if 0 ≤ x ∧ x < (l15.length : Int) then
                some (decide ((rd l15 x) ≥ (1:Int)))
                else none
            else
              some false) m p s.1 s.2.1 s.2.2.1 s.2.2.2.1 s.2.2.2.2)
    (fun _ s => KV s.1 s.2.1 s.2.2.1 s.2.2.2.1 s.2.2.2.2 ∧ s.2.2.1.length = Ro.length ∧ s.1.length = L.length ∧ rd s.1 x = x) Ro.length (fun _ => some true) ?_ ?_ (K := KK) (by show _ < 1048577; omega) (a := (L1, R1, Ro, F1, C1)) ⟨hk1, rfl, hll, hkeep⟩
  · obtain ⟨s, _, e⟩ := key
    exact e
  · rintro m i ⟨A, B, Q, D, E⟩ hi ⟨g1, g2, g3, g4⟩
    simp only [] at g1 g2 g3 g4 ⊢
    obtain ⟨A', B', D', E', _, e6, _, hk6, hd6⟩ := drop_ok g1 (r := (i : Int)) (by omega) (by omega)
    refine ⟨(A', B', Q.set (i : Int).toNat (-1), D', E'), ⟨hk6, by rw [List.length_set]; exact g2, by rw [hd6.llen]; exact g3, ?_⟩, ?_⟩
    · show rd A' x = x
      rw [hd6.keepL x (by omega) (by omega) (.inr g4), g4]
    · show _ = laws_FnLinkSelf.loop0 KK _ m _ A' B' (Q.set (i : Int).toNat (-1)) D' E'
      rw [laws_FnLinkSelf.loop0, if_pos (by omega), e6, b6_some, if_pos rfl, w64_succ hi (by omega)]
  · rintro m ⟨A, B, Q, D, E⟩ ⟨g1, g2, g3, g4⟩
    simp only [] at g1 g2 g3 g4 ⊢
    have hl1 := g1.le
    have hcl : E.length = A.length := by rw [g1.2, cntL_len]
    have hin : x ∈ A := by rw [← g4]; exact rd_mem (by omega) (by omega)
    have h1 := g1.one (x := x) (by omega) (by omega) (.inl hin)
    have fr : freeV A B Q D x = false := decide_eq_false fun g => (g.1.2.2 _ g.2).2.2.2.2.1 hin
    rw [laws_FnLinkSelf.loop0, if_neg (by omega), if_pos trivial, impl_IsFree_eq (by decide) (by show _ < 1048577; omega) (by omega), fr, b1_some, if_neg (by simp), if_pos (by omega)]
    simp; omega
end Go.Proofs.Ytgganabcfloioaa.Pure
