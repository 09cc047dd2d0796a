/- Pure theorems of drawn laws of stores: FnNewStore, FnStoreValid, FnIsFree, FnAllocOrder, FnLeakedOf, FnAllocCell. -/
import Derived.Test.YtigidjhdcplplaaPs
import Derived.Test.YtigidjhdcplplaaPp
namespace Go.Proofs.Ytigidjhdcplplaa.T
open Go Go.RowKit Go.Proofs.Ytigidjhdcplplaa.S Go.Proofs.Ytigidjhdcplplaa.F
set_option linter.unusedVariables false
set_option linter.unusedSimpArgs false
theorem DrawAllocCell_ex {K : Nat} {a : List Int} (hu : ∀ x ∈ a, U8 x) (hK : 20 < K) : ∃ L R Ro F r, spec_DrawAllocCell.f K a = some (L, R, Ro, F, r) ∧ Short 10 L R Ro F := by
  unfold spec_DrawAllocCell.f
  obtain ⟨L, R, Ro, F, c, e, hs⟩ := l4Case_ex (K := K) hu hK
  obtain ⟨r, e2, _⟩ := num_ex (K := K) (l := [0, 0, 1, 2, 3, -1]) (Src.open hu) (by simp) (by simp)
  rw [e, b5_some, l13Open_eq, b1_some, e2, b2_some]
  exact ⟨_, _, _, _, _, rfl, hs⟩
theorem DrawLeakedOf_ex {K : Nat} {a : List Int} (hu : ∀ x ∈ a, U8 x) (hK : 20 < K) : ∃ L R Ro F, spec_DrawLeakedOf.f K a = some (L, R, Ro, F) ∧ Short 10 L R Ro F := by
  unfold spec_DrawLeakedOf.f
  obtain ⟨L, R, Ro, F, c, e, hs⟩ := l4Case_ex (K := K) hu hK
  rw [e, b5_some]
  exact ⟨_, _, _, _, rfl, hs⟩
theorem DrawIsFree_ex {K : Nat} {a : List Int} (hu : ∀ x ∈ a, U8 x) (hK : 20 < K) : ∃ L R Ro F c, spec_DrawIsFree.f K a = some (L, R, Ro, F, c) ∧ Short 10 L R Ro F := by
  unfold spec_DrawIsFree.f
  obtain ⟨L, R, Ro, F, c, e, hs⟩ := l4Case_ex (K := K) hu hK
  rw [e, b5_some]
  exact ⟨_, _, _, _, _, rfl, hs⟩
theorem DrawStoreValid_ex {K : Nat} {a : List Int} (hu : ∀ x ∈ a, U8 x) (hK : 20 < K) : ∃ L R Ro F, spec_DrawStoreValid.f K a = some (L, R, Ro, F) ∧ Short 12 L R Ro F := by
  have h := Src.open hu
  unfold spec_DrawStoreValid.f
  rw [l13Open_eq, b1_some]
  obtain ⟨L, R, Ro, F, p, e1, hv, p0, p1⟩ := l4Draw_ex (K := K) h (by omega) hK
  obtain ⟨L', R', Ro', F', p', e2, hs, p2, p3⟩ := l4Wrong_ex (K := K) (h.at (p' := p) (by omega) (by omega)) (by omega) hv.short (by omega)
  obtain ⟨L2, R2, Ro2, F2, p4, e3, hs2, _⟩ := l4Wrong_ex (K := K) (h.at (p' := p') (by omega) (by omega)) (by omega) hs (by omega)
  rw [e1, b5_some, e2, b5_some, e3, b5_some]
  exact ⟨_, _, _, _, rfl, hs2⟩
theorem DrawNewStore_ex {K : Nat} {a : List Int} (hu : ∀ x ∈ a, U8 x) : ∃ n r, spec_DrawNewStore.f K a = some (n, r) := by
  have h := Src.open hu
  unfold spec_DrawNewStore.f spec_DrawNewHeap.f
  obtain ⟨n, e1, _⟩ := num_ex (K := K) (l := [4, 1, 8, 0, 9]) h (by simp) (by simp)
  obtain ⟨r, e2, _⟩ := num_ex (K := K) (l := [2, 1, 3, 0, 4]) (h.at (p' := 0 + 1) (by omega) (by omega)) (by simp) (by simp)
  rw [l13Open_eq, b1_some, e1, b2_some, e2, b2_some, b2_some]
  exact ⟨_, _, rfl⟩
theorem storeSame_self {a b c d : List Int} (ha : a.length ≤ 1000) (hb : b.length ≤ 1000) (hc : c.length ≤ 1000) (hd : d.length ≤ 1000) : impl_StoreSame.f KK a b c d a b c d = some true := by
  rw [impl_StoreSame_eq (by show _ < 1048577; omega) (by show _ < 1048577; omega) (by show _ < 1048577; omega) (by show _ < 1048577; omega) (by decide)]
  simp
end Go.Proofs.Ytigidjhdcplplaa.T
namespace Go.Proofs.Ytigidjhdcplplaa.Pure
open Go Go.RowKit Go.Proofs.Ytigidjhdcplplaa.S Go.Proofs.Ytigidjhdcplplaa.F Go.Proofs.Ytigidjhdcplplaa.T
theorem FnNewStore : ∀ (a0 : List Int), a0.length ≤ 9223372036854775807 → (∀ x ∈ a0, U8 x) → ∃ K, laws_FnNewStore.f K a0 = some true := by
  intro a _ hu
  refine ⟨KK, ?_⟩
  unfold laws_FnNewStore.f
  by_cases big : (a.length : Int) > 1048576
  · rw [if_pos big]
  rw [if_neg big]
  obtain ⟨n, r, e⟩ := DrawNewStore_ex (K := KK) hu
  have hl : (nS n r).1.length ≤ 8 ∧ (nS n r).2.1.length ≤ 8 ∧ (nS n r).2.2.1.length ≤ 8 ∧ (nS n r).2.2.2.1.length ≤ 8 := by
    unfold nS
    split
    · refine ⟨?_, ?_, ?_, ?_⟩ <;> simp [upto_len] <;> omega
    · simp
  have hs := storeSame_self (a := (nS n r).1) (b := (nS n r).2.1) (c := (nS n r).2.2.1) (d := (nS n r).2.2.2.1) (by omega) (by omega) (by omega) (by omega)
  simp only [e, b2_some, spec_NewStore_eq (K := KK) (n := n) (r := r) (by decide), impl_NewStore_eq (K := KK) (n := n) (r := r) (by decide), b5_p, hs, b1_some, if_true, BEq.rfl]
  unfold nS
  by_cases h : 1 ≤ n ∧ n ≤ 8 ∧ 1 ≤ r ∧ r ≤ 3
  rotate_left
  · simp [h]
  simp only [if_pos h, if_true]
  obtain ⟨n, rfl⟩ := Int.eq_ofNat_of_zero_le (show 0 ≤ n by omega)
  rw [Int.toNat_natCast]
  have hsv := nS_sv h
  rw [Int.toNat_natCast] at hsv
  have hro : 1 ≤ (List.replicate r.toNat (-1 : Int)).length := by simp; omega
  generalize hRo : List.replicate r.toNat (-1 : Int) = Ro at hsv hro
  generalize hL : List.replicate n (-1 : Int) = L at hsv
  have hLn : L.length = n := by rw [← hL]; simp
  -- when i cells were taken
  let st (i : Nat) : List Int := if i = 0 then Ro else Ro.set 0 ((i : Int) - 1)
  have st_len : ∀ i, (st i).length = Ro.length := fun i => by simp only [st]; split <;> simp
  have dr : ∀ i : Nat, i < n → rd ((upto n).drop i) 0 = i := by
    intro i hi
    have e := rd_upto (n := n) (x := (i : Int)) (by omega) (by omega)
    unfold rd at e ⊢
    rw [Int.toNat_natCast] at e
    simpa using e
  have sv : ∀ i : Nat, i ≤ n → SV L L (st i) ((upto n).drop i) := by
    intro i
    induction i with
    | zero => intro _; exact hsv
    | succ i ih =>
      intro hi
      have h1 := ih (by omega)
      have h2 := h1.take (r := 0) (by omega) (by rw [st_len]; omega) (by
        intro hn
        have := congrArg List.length hn
        rw [List.length_drop, upto_len] at this
        simp at this; omega)
      rw [dr i (by omega), List.drop_drop] at h2
      have e2 : (st i).set (0 : Int).toNat ((i : Nat) : Int) = st (i + 1) := by
        simp only [st]
        by_cases c : i = 0
        · subst c; simp
        · rw [if_neg c, if_neg (by omega)]; simp
      rw [e2] at h2
      exact h2
  have step : ∀ i : Nat, i < n → impl_AllocCell.f KK L L (st i) ((upto n).drop i) 0 = some (L, L, st (i + 1), (upto n).drop (i + 1), (i : Int), true) := by
    intro i hi
    have hne : (upto n).drop i ≠ [] := by
      intro hn
      have := congrArg List.length hn
      rw [List.length_drop, upto_len] at this
      simp at this; omega
    rw [impl_AllocCell_eq (by decide) (by rw [List.length_drop, upto_len]; show _ < 1048577; omega) (by rw [List.length_drop, upto_len]; omega), takeV_ok (sv i (by omega)) (by omega) (by rw [st_len]; omega), if_neg hne, dr i hi, List.drop_drop]
    have e2 : (st i).set (0 : Int).toNat ((i : Nat) : Int) = st (i + 1) := by
      simp only [st]
      by_cases c : i = 0
      · subst c; simp
      · rw [if_neg c, if_neg (by omega)]; simp
    rw [e2]
  have key := loop_st (fun m p (s : List Int × List Int × List Int × List Int) => laws_FnNewStore.loop0 KK (fun l9 l10 l11 l12 =>
            b6 (impl_AllocCell.f KK l9 l10 l11 l12 (0:Int)) fun v38 v39 v40 v41 v42 v43 =>
            if v43 = true then
              some false
            else
              b1 (impl_LeakedOf.f KK l9 l10 l11 l12) fun v44 =>
              some ((v44.length : Int) == (wrap64 ((n : Int) - (1:Int))))) (n : Int) m p s.1 s.2.1 s.2.2.1 s.2.2.2) (fun i => (L, L, st i, (upto n).drop i)) n (some true) ?_ ?_ (K := KK) (by show _ < 1048577; omega)
  · exact key
  · intro m i hi
    simp only []
    rw [laws_FnNewStore.loop0, if_pos (by omega), step i hi, b6_some, if_pos rfl, if_pos rfl, w64_succ hi (by omega)]
  · intro m
    have hn1 : 1 ≤ n := by omega
    have en : (upto n).drop n = [] := by rw [List.drop_eq_nil_of_le]; rw [upto_len]; omega
    have svn := sv n (by omega)
    rw [en] at svn
    simp only []
    rw [laws_FnNewStore.loop0, if_neg (by omega), en, impl_AllocCell_eq (by decide) (by simp) (by simp), takeV_ok svn (by omega) (by rw [st_len]; omega), if_pos rfl, b6_some, if_neg (by simp), impl_LeakedOf_eq (by decide) (by simp) (by simp), b1_some]
    unfold leakV
    rw [if_pos svn]
    -- one cell is live
    have hlive : (upto L.length).filter (liveB L L (st n)) = [(n : Int) - 1] := by
      have es : st n = Ro.set 0 ((n : Int) - 1) := by simp only [st]; rw [if_neg (by omega)]
      have all : ∀ x ∈ Ro, x = -1 := by rw [← hRo]; exact fun x hx => List.eq_of_mem_replicate hx
      have iff : ∀ x : Int, Live L L (st n) x ↔ x = (n : Int) - 1 := by
        intro x
        constructor
        · intro hx
          have hr := hx.rng svn.1
          rcases hx.mem svn.1 with g | g | g
          · rw [← hL] at g; have := List.eq_of_mem_replicate g; omega
          · rw [← hL] at g; have := List.eq_of_mem_replicate g; omega
          · rw [es] at g
            rcases List.mem_or_eq_of_mem_set g with g | g
            · have := all x g; omega
            · exact g
        · rintro rfl
          refine .root ?_ (by omega)
          rw [es]
          exact List.mem_set (by omega) _
      have e1 : (upto L.length).filter (liveB L L (st n)) = (upto L.length).filter (fun x => decide (x = (n : Int) - 1)) := List.filter_congr fun x _ => by
        rw [Bool.eq_iff_iff, liveB_iff, iff, decide_eq_true_iff]
      rw [e1, hLn]
      obtain ⟨m', rfl⟩ : ∃ m', n = m' + 1 := ⟨n - 1, by omega⟩
      rw [upto_succ, List.filter_append]
      have : (upto m').filter (fun x => decide (x = ((m' + 1 : Nat) : Int) - 1)) = [] := by
        rw [List.filter_eq_nil_iff]
        intro x hx
        have := mem_upto.1 hx
        simp; omega
      rw [this]
      have e3 : ((m' + 1 : Nat) : Int) - 1 = m' := by omega
      rw [e3]
      simp
    have gc := @gar_count L L (st n)
    have lc := leak_count svn
    rw [hlive] at gc
    simp only [List.length_cons, List.length_nil] at gc lc
    rw [w64 (by omega) (by omega)]
    have : ((leak L L (st n) []).length : Int) = (n : Int) - 1 := by omega
    rw [this]; simp
theorem FnStoreValid : ∀ (a0 : List Int), a0.length ≤ 9223372036854775807 → (∀ x ∈ a0, U8 x) → ∃ K, laws_FnStoreValid.f K a0 = some true := by
  intro a _ hu
  refine ⟨KK, ?_⟩
  unfold laws_FnStoreValid.f
  by_cases big : (a.length : Int) > 1048576
  · rw [if_pos big]
  rw [if_neg big]
  obtain ⟨L, R, Ro, F, e, hs⟩ := DrawStoreValid_ex (K := KK) hu (by decide)
  obtain ⟨s1, s2, s3, s4, s5⟩ := hs
  have hF : F.length < KK := by show _ < 1048577; omega
  simp only [e, b4_some, spec_StoreValid_eq (K := KK) (L := L) (R := R) (Ro := Ro) (F := F) (by decide), impl_StoreValid_eq (K := KK) (L := L) (R := R) (Ro := Ro) (F := F) (by decide) hF (by omega), b1_some, if_true, BEq.rfl, decide_eq_true_eq]
  by_cases h : SV L R Ro F
  rotate_left
  · rw [if_neg h]
  rw [if_pos h]
  by_cases c : (F.length : Int) = 0
  · rw [if_pos c]
  have l1 : (F ++ [rd F 0]).length = F.length + 1 := by simp
  have n1 : ¬SV L R Ro (F ++ [rd F 0]) := by
    intro g
    have hn := g.2.1
    rw [List.nodup_append] at hn
    exact hn.2.2 _ (rd_mem (xs := F) (i := 0) (by omega) (by omega)) _ (List.mem_singleton.2 rfl) rfl
  have hd : (F.drop 1).length = F.length - 1 := by simp
  rw [if_neg c, List.nil_append, if_pos (by simp; omega), if_pos (by omega), if_pos (by simp; omega), if_pos (by omega), impl_StoreValid_eq (by decide) (by rw [l1]; show _ < 1048577; omega) (by omega), b1_some, if_neg (by simpa using n1)]
  rw [show (1 : Int).toNat = 1 from rfl, impl_StoreValid_eq (by decide) (by rw [hd]; show _ < 1048577; omega) (by omega), b1_some, if_pos (decide_eq_true h.tail), impl_LeakedOf_eq (by decide) (by rw [hd]; show _ < 1048577; omega) (by omega), b1_some, impl_LeakedOf_eq (by decide) hF (by omega), b1_some]
  have lc := leak_count h
  have lc2 := leak_count h.tail
  unfold leakV
  rw [if_pos h, if_pos h.tail]
  have := @leak_len L R Ro F
  rw [w64 (by omega) (by omega)]
  have : ((leak L R Ro (F.drop 1)).length : Int) = (leak L R Ro F).length + 1 := by omega
  rw [this]; simp
theorem FnIsFree : ∀ (a0 : List Int), a0.length ≤ 9223372036854775807 → (∀ x ∈ a0, U8 x) → ∃ K, laws_FnIsFree.f K a0 = some true := by
  intro a _ hu
  refine ⟨KK, ?_⟩
  unfold laws_FnIsFree.f
  by_cases big : (a.length : Int) > 1048576
  · rw [if_pos big]
  rw [if_neg big]
  obtain ⟨L, R, Ro, F, c, e, hs⟩ := DrawIsFree_ex (K := KK) hu (by decide)
  obtain ⟨s1, s2, s3, s4, s5⟩ := hs
  have hF : F.length < KK := by show _ < 1048577; omega
  simp only [e, b5_some, spec_IsFree_eq (K := KK) (L := L) (R := R) (Ro := Ro) (F := F) (c := c) (by decide), impl_IsFree_eq (K := KK) (L := L) (R := R) (Ro := Ro) (F := F) (c := c) (by decide) hF (by omega), b1_some, if_true, BEq.rfl]
  unfold freeV
  by_cases h : SV L R Ro F ∧ c ∈ F
  rotate_left
  · rw [if_neg (by simpa using h)]
  rw [if_pos (decide_eq_true h), impl_Reachable_eq (by decide), b1_some]
  obtain ⟨hsv, hc⟩ := h
  have hf := hsv.2.2 c hc
  have hR := hsv.1.2.2.1
  unfold livV
  rw [if_pos hsv.1, liv_len, if_pos ⟨hf.1, hf.2.1⟩, rdb_liv hf.1 hf.2.1, if_neg (by rw [liveB_iff]; exact hsv.dead hc), if_pos ⟨hf.1, hf.2.1⟩, if_pos hf.2.2.1, if_pos (by omega), if_pos hf.2.2.2.1, SourcesOf_eq (by decide), b1_some, if_pos ⟨hsv.1, hf.1, hf.2.1⟩]
  have : src L R c = [] := by
    rw [List.eq_nil_iff_forall_not_mem]
    intro j hj
    obtain ⟨hr, hj⟩ := mem_src.1 hj
    rcases hj with rfl | rfl
    · exact hf.2.2.2.2.1 (rd_mem hr.1 hr.2)
    · exact hf.2.2.2.2.2.1 (rd_mem hr.1 (by omega))
  rw [this]; rfl
theorem FnAllocOrder : ∀ (a0 : List Int), a0.length ≤ 9223372036854775807 → (∀ x ∈ a0, U8 x) → ∃ K, laws_FnAllocOrder.f K a0 = some true := by
  intro a _ hu
  refine ⟨KK, ?_⟩
  unfold laws_FnAllocOrder.f
  by_cases big : (a.length : Int) > 1048576
  · rw [if_pos big]
  rw [if_neg big]
  obtain ⟨L, R, Ro, F, r, e, hs⟩ := DrawAllocCell_ex (K := KK) hu (by decide)
  obtain ⟨s1, s2, s3, s4, s5⟩ := hs
  have hF : F.length < KK := by show _ < 1048577; omega
  have hl := @takeV_len L R Ro F r
  have hsame := storeSame_self (a := (takeV L R Ro F r).1) (b := (takeV L R Ro F r).2.1) (c := (takeV L R Ro F r).2.2.1) (d := (takeV L R Ro F r).2.2.2.1) (by omega) (by omega) (by omega) (by omega)
  simp only [e, b5_some, spec_AllocCell_eq (K := KK) (L := L) (R := R) (Ro := Ro) (F := F) (r := r) (by decide), impl_AllocCell_eq (K := KK) (L := L) (R := R) (Ro := Ro) (F := F) (r := r) (by decide) hF (by omega), b6_p, b1_some, hsame, if_true, BEq.rfl]
  by_cases h : SV L R Ro F ∧ 0 ≤ r ∧ r < Ro.length ∧ F ≠ []
  rotate_left
  · unfold takeV; rw [if_neg h]; simp
  have et : takeV L R Ro F r = (L, R, Ro.set r.toNat (rd F 0), F.drop 1, rd F 0, true) := by unfold takeV; rw [if_pos h]
  obtain ⟨hsv, r0, r1, hne⟩ := h
  simp only [et, if_true]
  by_cases c : (F.length : Int) < 2
  · rw [if_pos c]
  have hd : (F.drop 1).length = F.length - 1 := by simp
  have hs1 := hsv.take r0 r1 hne
  have hne2 : F.drop 1 ≠ [] := by intro g; have := congrArg List.length g; rw [hd] at this; simp at this; omega
  rw [if_neg c, impl_AllocCell_eq (by decide) (by rw [hd]; show _ < 1048577; omega) (by omega), takeV_ok hs1 r0 (by rw [List.length_set]; exact r1), if_neg hne2, b6_some, if_pos rfl, if_pos (by omega), rd_drop1 (by omega), if_pos (by rfl)]
  have hs2 := hs1.take r0 (by rw [List.length_set]; exact r1) hne2
  rw [rd_drop1 (by omega)] at hs2
  have hd2 : ((F.drop 1).drop 1).length = F.length - 2 := by simp
  have m1 : rd F (0 + 1) ∈ F := rd_mem (by omega) (by omega)
  have m0 : rd F 0 ∈ F := rd_mem (by omega) (by omega)
  have f1 : freeV L R Ro F (rd F (0 + 1)) = true := by unfold freeV; exact decide_eq_true ⟨hsv, m1⟩
  have nd : F.Nodup := hsv.2.1
  obtain ⟨x, F', rfl⟩ := List.exists_cons_of_ne_nil hne
  obtain ⟨y, F'', rfl⟩ : ∃ y F'', F' = y :: F'' := by
    cases F' with
    | nil => simp at c
    | cons y F'' => exact ⟨y, F'', rfl⟩
  have e0 : rd (x :: y :: F'') 0 = x := rfl
  have e1 : rd (x :: y :: F'') (0 + 1) = y := rfl
  have hx := (List.nodup_cons.1 nd).1
  have hy := (List.nodup_cons.1 (List.nodup_cons.1 nd).2).1
  have f2 : freeV L R ((Ro.set r.toNat x).set r.toNat y) F'' y = false := by
    unfold freeV; exact decide_eq_false fun g => hy g.2
  have f3 : freeV L R ((Ro.set r.toNat x).set r.toNat y) F'' x = false := by
    unfold freeV; exact decide_eq_false fun g => hx (List.mem_cons_of_mem _ g.2)
  simp only [List.drop_succ_cons, List.drop_zero, e0, e1] at *
  have hl2 : F''.length < KK := by show _ < 1048577; simp at hd; simp at s5; omega
  have hl3 : F''.length ≤ 9223372036854775807 := by simp at s5; omega
  rw [impl_IsFree_eq (by decide) hF (by omega), f1, b1_some, if_pos rfl, impl_IsFree_eq (by decide) hl2 hl3, f2, b1_some, if_neg (by simp), impl_IsFree_eq (by decide) hl2 hl3, f3, b1_some]
  rfl
theorem FnLeakedOf : ∀ (a0 : List Int), a0.length ≤ 9223372036854775807 → (∀ x ∈ a0, U8 x) → ∃ K, laws_FnLeakedOf.f K a0 = some true := by
  intro a _ hu
  refine ⟨KK, ?_⟩
  unfold laws_FnLeakedOf.f
  by_cases big : (a.length : Int) > 1048576
  · rw [if_pos big]
  rw [if_neg big]
  obtain ⟨L, R, Ro, F, e, hs⟩ := DrawLeakedOf_ex (K := KK) hu (by decide)
  obtain ⟨s1, s2, s3, s4, s5⟩ := hs
  have hF : F.length < KK := by show _ < 1048577; omega
  have hll := @leakV_len L R Ro F
  have hcc := ccInts_eq (K := KK) (a := leakV L R Ro F) (b := leakV L R Ro F) (by show _ < 1048577; omega) (by omega)
  simp only [decide_true] at hcc
  simp only [e, b4_some, spec_LeakedOf_eq (K := KK) (L := L) (R := R) (Ro := Ro) (F := F) (by decide), impl_LeakedOf_eq (K := KK) (L := L) (R := R) (Ro := Ro) (F := F) (by decide) hF (by omega), b1_some, hcc, if_true, impl_StoreValid_eq (K := KK) (L := L) (R := R) (Ro := Ro) (F := F) (by decide) hF (by omega), decide_eq_true_eq]
  by_cases h : SV L R Ro F
  rotate_left
  · rw [if_neg h]; unfold leakV; rw [if_neg h]; rfl
  rw [if_pos h]
  have el : leakV L R Ro F = leak L R Ro F := by unfold leakV; rw [if_pos h]
  rw [el] at hll ⊢
  have h8 := h.1.2.1
  have hfl := h.len
  have key := check_loop (laws_FnLeakedOf.loop0 KK (fun _ => b1 (impl_CountLive.f KK L R Ro) fun v13 => some ((wrap64 ((wrap64 (((leak L R Ro F).length : Int) + (F.length : Int))) + v13)) == (L.length : Int))) L R Ro F (leak L R Ro F)) (leak L R Ro F).length (fun _ => True) (some true) (some false) ?_ ?_ (K := KK) (by show _ < 1048577; omega)
  · rw [key, if_pos (fun _ _ => trivial)]
  · intro m i hi _
    have hm : rd (leak L R Ro F) i ∈ leak L R Ro F := rd_mem (by omega) (by omega)
    have hn := (mem_leak.1 hm).2
    have ff : freeV L R Ro F (rd (leak L R Ro F) i) = false := by unfold freeV; exact decide_eq_false fun g => hn g.2
    rw [laws_FnLeakedOf.loop0, if_pos (by omega), if_pos (by omega), impl_IsFree_eq (by decide) hF (by omega), ff, b1_some, if_neg (by simp), w64_succ hi (by omega), if_pos trivial]
  · intro m _
    rw [laws_FnLeakedOf.loop0, if_neg (by omega), CountLive_eq h.1 (by decide), b1_some]
    have gc := @gar_count L R Ro
    have lc := leak_count h
    rw [w64 (x := ((leak L R Ro F).length : Int) + (F.length : Int)) (by omega) (by omega), w64 (by omega) (by omega)]
    have : ((leak L R Ro F).length : Int) + F.length + (((upto L.length).filter (liveB L R Ro)).length : Int) = L.length := by omega
    rw [this]; simp
theorem FnAllocCell : ∀ (a0 : List Int), a0.length ≤ 9223372036854775807 → (∀ x ∈ a0, U8 x) → ∃ K, laws_FnAllocCell.f K a0 = some true := by
  intro a _ hu
  refine ⟨KK, ?_⟩
  unfold laws_FnAllocCell.f
  by_cases big : (a.length : Int) > 1048576
  · rw [if_pos big]
  rw [if_neg big]
  obtain ⟨L, R, Ro, F, r, e, hs⟩ := DrawAllocCell_ex (K := KK) hu (by decide)
  obtain ⟨s1, s2, s3, s4, s5⟩ := hs
  have hF : F.length < KK := by show _ < 1048577; omega
  have ei := impl_AllocCell_eq (K := KK) (L := L) (R := R) (Ro := Ro) (F := F) (r := r) (by decide) hF (by omega)
  have es := spec_AllocCell_eq (K := KK) (L := L) (R := R) (Ro := Ro) (F := F) (r := r) (by decide)
  by_cases h : SV L R Ro F ∧ 0 ≤ r ∧ r < Ro.length ∧ F ≠ []
  rotate_left
  · have et : takeV L R Ro F r = ([], [], [], [], 0, false) := by unfold takeV; rw [if_neg h]
    rw [et] at ei es
    rw [e, b5_some, ei, b6_some, es, b6_some, storeSame_self (by simp) (by simp) (by simp) (by simp)]
    simp [b1_some]
  have et : takeV L R Ro F r = (L, R, Ro.set r.toNat (rd F 0), F.drop 1, rd F 0, true) := by unfold takeV; rw [if_pos h]
  rw [et] at ei es
  rw [e, b5_some, ei, b6_some, es, b6_some, storeSame_self (by omega) (by omega) (by rw [List.length_set]; omega) (by rw [List.length_drop]; omega), b1_some, if_pos rfl, if_pos rfl, if_pos rfl, if_pos rfl]
  obtain ⟨hsv, r0, r1, hne⟩ := h
  have hs1 := hsv.take r0 r1 hne
  have hd : (F.drop 1).length = F.length - 1 := by simp
  have hF0 : 0 < F.length := List.length_pos_iff.2 hne
  have hm : rd F 0 ∈ F := rd_mem (by omega) (by omega)
  have hf := hsv.2.2 _ hm
  have hcc := ccInts_eq (K := KK) (a := F.drop 1) (b := F.drop 1) (by rw [hd]; show _ < 1048577; omega) (by omega)
  simp only [decide_true] at hcc
  have lv : liveB L R (Ro.set r.toNat (rd F 0)) (rd F 0) = true := by
    rw [liveB_iff]
    exact .root (List.mem_set (by omega) _) hf.1
  rw [impl_Reachable_eq (by decide), b1_some, impl_StoreValid_eq (by decide) (by rw [hd]; show _ < 1048577; omega) (by omega), b1_some, if_pos (decide_eq_true hs1), if_pos (by omega), if_pos rfl, if_pos (by omega), show (1 : Int).toNat = 1 from rfl, hcc, b1_some, if_pos rfl]
  unfold livV
  rw [if_pos hs1.1, liv_len, if_pos ⟨hf.1, hf.2.1⟩, rdb_liv hf.1 hf.2.1, if_pos lv, if_pos (by rw [List.length_set]; exact ⟨r0, r1⟩), rd_set_self r0 r1]
  simp
end Go.Proofs.Ytigidjhdcplplaa.Pure
