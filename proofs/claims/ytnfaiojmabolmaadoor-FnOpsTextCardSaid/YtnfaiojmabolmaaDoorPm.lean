/- Pure theorems of heaps and stores: what the program's own functions come to; the same as the reference's. -/
import Derived.Test.YtnfaiojmabolmaaDoorPl
namespace Go.Proofs.YtnfaiojmabolmaaDoor.T
open Go Go.RowKit Go.Proofs.YtnfaiojmabolmaaDoor.S Go.Proofs.YtnfaiojmabolmaaDoor.F
set_option linter.unusedVariables false
set_option linter.unusedSimpArgs false
theorem impl_HeapValid_eq {K : Nat} {L R Ro : List Int} (hK : 8 < K) : impl_HeapValid.f K L R Ro = some (decide (HV L R Ro)) := by
  unfold impl_HeapValid.f
  by_cases h3 : (L.length : Int) = R.length
  rotate_left
  · rw [if_neg h3, decide_eq_false (fun h : HV L R Ro => by have := h.2.2.1; omega)]
  rw [if_pos h3]
  by_cases h1 : (L.length : Int) < 1
  · rw [if_pos h1, decide_eq_false (fun h : HV L R Ro => by have := h.1; omega)]
  rw [if_neg h1]
  by_cases h2 : (L.length : Int) > 8
  · rw [if_pos h2, decide_eq_false (fun h : HV L R Ro => by have := h.2.1; omega)]
  rw [if_neg h2]
  by_cases h4 : (Ro.length : Int) < 1
  · rw [if_pos h4, decide_eq_false (fun h : HV L R Ro => by have := h.2.2.2.1; omega)]
  rw [if_neg h4]
  by_cases h5 : (Ro.length : Int) > 3
  · rw [if_pos h5, decide_eq_false (fun h : HV L R Ro => by have := h.2.2.2.2.1; omega)]
  rw [if_neg h5]
  have e2 : impl_HeapValid.loop2 K (fun _ => some true) L Ro K 0 = if ∀ j : Nat, j < Ro.length → (-1 ≤ rd Ro j ∧ rd Ro j < L.length) then some true else some false := by
    refine check_loop (impl_HeapValid.loop2 K (fun _ => some true) L Ro) Ro.length (fun j => -1 ≤ rd Ro j ∧ rd Ro j < L.length) _ _ ?_ ?_ (by omega)
    · intro m i hi _
      rw [impl_HeapValid.loop2, if_pos (by omega), if_pos (by omega), w64_succ hi (by omega)]
      by_cases c1 : rd Ro i < -1
      · rw [if_pos c1, if_neg (by omega)]
      · rw [if_neg c1]
        by_cases c2 : rd Ro i ≥ L.length
        · rw [if_pos c2, if_neg (by omega)]
        · rw [if_neg c2, if_pos (by omega)]
    · intro m _
      rw [impl_HeapValid.loop2, if_neg (by omega)]
  have e1 : ∀ κ, impl_HeapValid.loop1 K κ L R K 0 = if ∀ j : Nat, j < R.length → (-1 ≤ rd R j ∧ rd R j < L.length) then κ () else some false := by
    intro κ
    refine check_loop (impl_HeapValid.loop1 K κ L R) R.length (fun j => -1 ≤ rd R j ∧ rd R j < L.length) _ _ ?_ ?_ (by omega)
    · intro m i hi _
      rw [impl_HeapValid.loop1, if_pos (by omega), if_pos (by omega), w64_succ hi (by omega)]
      by_cases c1 : rd R i < -1
      · rw [if_pos c1, if_neg (by omega)]
      · rw [if_neg c1]
        by_cases c2 : rd R i ≥ L.length
        · rw [if_pos c2, if_neg (by omega)]
        · rw [if_neg c2, if_pos (by omega)]
    · intro m _
      rw [impl_HeapValid.loop1, if_neg (by omega)]
  have e0 : ∀ κ, impl_HeapValid.loop0 K κ L K 0 = if ∀ j : Nat, j < L.length → (-1 ≤ rd L j ∧ rd L j < L.length) then κ () else some false := by
    intro κ
    refine check_loop (impl_HeapValid.loop0 K κ L) L.length (fun j => -1 ≤ rd L j ∧ rd L j < L.length) _ _ ?_ ?_ (by omega)
    · intro m i hi _
      rw [impl_HeapValid.loop0, if_pos (by omega), if_pos (by omega), w64_succ hi (by omega)]
      by_cases c1 : rd L i < -1
      · rw [if_pos c1, if_neg (by omega)]
      · rw [if_neg c1]
        by_cases c2 : rd L i ≥ L.length
        · rw [if_pos c2, if_neg (by omega)]
        · rw [if_neg c2, if_pos (by omega)]
    · intro m _
      rw [impl_HeapValid.loop0, if_neg (by omega)]
  rw [e0, e1, e2]
  have i0 := forall_rd (xs := L) (p := fun x => -1 ≤ x ∧ x < L.length)
  have i1 := forall_rd (xs := R) (p := fun x => -1 ≤ x ∧ x < L.length)
  have i2 := forall_rd (xs := Ro) (p := fun x => -1 ≤ x ∧ x < L.length)
  simp only [i0, i1, i2]
  by_cases c0 : ∀ x ∈ L, -1 ≤ x ∧ x < (L.length : Int)
  rotate_left
  · rw [if_neg c0, decide_eq_false (fun h : HV L R Ro => c0 h.2.2.2.2.2.1)]
  rw [if_pos c0]
  by_cases c1 : ∀ x ∈ R, -1 ≤ x ∧ x < (L.length : Int)
  rotate_left
  · rw [if_neg c1, decide_eq_false (fun h : HV L R Ro => c1 h.2.2.2.2.2.2.1)]
  rw [if_pos c1]
  by_cases c2 : ∀ x ∈ Ro, -1 ≤ x ∧ x < (L.length : Int)
  rotate_left
  · rw [if_neg c2, decide_eq_false (fun h : HV L R Ro => c2 h.2.2.2.2.2.2.2)]
  rw [if_pos c2, decide_eq_true]
  exact ⟨by omega, by omega, by omega, by omega, by omega, c0, c1, c2⟩
theorem Grow_eq {K : Nat} {n : Int} (h0 : 0 ≤ n) (h1 : n ≤ 1099511627776) : slices_Grow_int.f K n = some [] := by
  unfold slices_Grow_int.f
  rw [if_neg (by omega)]
  have e : wrap64 (n - (wrap64 (((0 : Nat) : Int) - (([] : List Int).length : Int)))) = n := by
    rw [w64 (x := ((0 : Nat) : Int) - (([] : List Int).length : Int)) (by simp) (by simp)]
    simp only [List.length_nil]
    rw [w64 (by omega) (by omega)]; omega
  rw [e]
  split
  · rw [if_pos (by omega)]
  · rfl
theorem Concat_eq {K : Nat} {a b c : List Int} (ha : a.length ≤ 1000) (hb : b.length ≤ 1000) (hc : c.length ≤ 1000) : slices_Concat_int.f K a b c = some ((a ++ b) ++ c) := by
  unfold slices_Concat_int.f
  have e1 : wrap64 ((0:Int) + (a.length : Int)) = a.length := by rw [w64 (by omega) (by omega)]; omega
  have e2 : wrap64 ((a.length : Int) + (b.length : Int)) = a.length + b.length := w64 (by omega) (by omega)
  have e3 : wrap64 ((a.length : Int) + (b.length : Int) + (c.length : Int)) = a.length + b.length + c.length := w64 (by omega) (by omega)
  rw [e1, e2, e3, if_neg (by omega), if_neg (by omega), if_neg (by omega), Grow_eq (by omega) (by omega), b1_some]
  simp only [List.nil_append, List.length_nil]
  rw [if_pos (by omega), if_pos (by omega), if_pos (by rw [List.length_append]; omega)]
theorem impl_CountsOf_eq {K : Nat} {L R Ro : List Int} (hK : 32 < K) : impl_CountsOf.f K L R Ro = some (cntV L R Ro) := by
  unfold impl_CountsOf.f cntV
  rw [impl_HeapValid_eq (by omega), b1_some]
  by_cases h : HV L R Ro
  · rw [if_pos (decide_eq_true h), if_pos h]
    obtain ⟨h1, h2, h3, h4, h5, h6, h7, h8⟩ := id h
    rw [if_pos (by omega), Concat_eq (by omega) (by omega) (by omega), b1_some, cntL_app, Int.toNat_natCast]
    exact count_loop (impl_CountsOf.loop0 K (fun l3 => some l3) ((L ++ R) ++ Ro)) some h.app (by simp; omega) (fun m p l => by rw [impl_CountsOf.loop0]) (by simp; omega)
  · rw [if_neg (by simpa using h), if_neg h]
theorem impl_StoreValid_eq {K : Nat} {L R Ro F : List Int} (hK : 32 < K) (hF : F.length < K) (hmax : F.length ≤ 9223372036854775807) : impl_StoreValid.f K L R Ro F = some (decide (SV L R Ro F)) := by
  unfold impl_StoreValid.f
  rw [impl_HeapValid_eq (by omega), b1_some]
  by_cases h : HV L R Ro
  rotate_left
  · rw [if_neg (by simpa using h), decide_eq_false (fun c => h c.1)]
  rw [if_pos (decide_eq_true h), impl_CountsOf_eq hK, b1_some]
  unfold cntV
  rw [if_pos h]
  have h8 := h.2.1
  have hR := h.2.2.1
  have e := check_loop (impl_StoreValid.loop0 K (fun _ => some true) L R F (cntL L R Ro)) F.length (fun j => (0 ≤ rd F j ∧ rd F j < L.length ∧ rd L (rd F j) = -1 ∧ rd R (rd F j) = -1 ∧ rd F j ∉ L ∧ rd F j ∉ R ∧ rd F j ∉ Ro) ∧ rd F j ∉ F.take j) (some true) (some false) ?_ ?_ (K := K) hF
  · rw [e]
    by_cases c : SV L R Ro F
    · rw [if_pos ((sv_rd h).2 c), decide_eq_true c]
    · rw [if_neg (fun g => c ((sv_rd h).1 g)), decide_eq_false c]
  · intro m i hi _
    rw [impl_StoreValid.loop0, if_pos (by omega), if_pos (by omega), cntL_len]
    by_cases c1 : rd F i < 0
    · rw [if_pos c1, if_neg (fun g => by omega)]
    rw [if_neg c1]
    by_cases c2 : rd F i ≥ (L.length : Int)
    · rw [if_pos c2, if_neg (fun g => by omega)]
    rw [if_neg c2, if_pos (by omega), rd_cntL (by omega) (by omega)]
    by_cases c3 : (cnt L R Ro (rd F i) : Int) > 0
    · rw [if_pos c3, if_neg (fun g => by have := cnt_zero.2 g.1.2.2.2.2; omega)]
    have z := cnt_zero.1 (show cnt L R Ro (rd F i) = 0 by omega)
    rw [if_neg c3, if_pos (by omega)]
    by_cases c4 : rd L (rd F i) = -1
    rotate_left
    · rw [if_neg c4, if_neg (fun g => c4 g.1.2.2.1)]
    rw [if_pos c4, if_pos (by omega)]
    by_cases c5 : rd R (rd F i) = -1
    rotate_left
    · rw [if_neg c5, if_neg (fun g => c5 g.1.2.2.2.1)]
    rw [if_pos c5, if_pos (by omega), Int.toNat_natCast, Contains_eq (by rw [List.length_take]; omega) (by rw [List.length_take]; omega), b1_some, w64_succ hi hmax]
    simp only [decide_eq_true_eq]
    by_cases c6 : rd F i ∈ F.take i
    · rw [if_pos c6, if_neg (fun g => g.2 c6)]
    · rw [if_neg c6, if_pos ⟨⟨by omega, by omega, c4, c5, z⟩, c6⟩]
  · intro m _
    rw [impl_StoreValid.loop0, if_neg (by omega)]
/-! ### new heaps -/
theorem mul_small : ∀ n : Fin 9, math_bits_Mul.f 0 1 ((n : Nat) : Int) = some (0, ((n : Nat) : Int)) := by decide +kernel
theorem wu_small {n : Int} (h0 : 0 ≤ n) (h1 : n ≤ 1000000) : wu n = n := by unfold wu; omega
theorem Repeat_loop {K : Nat} {κ : List Int → Option (List Int)} {n : Nat} (hn : n ≤ 1000) : ∀ (m p : Nat), 1 ≤ p → p ≤ n → n - p < m → slices_Repeat_int.loop0 K κ m (p : Int) (List.replicate p (-1) ++ List.replicate (n - p) 0) = κ (List.replicate n (-1)) := by
  intro m
  induction m with
  | zero => intro p _ _ h; omega
  | succ m ih =>
    intro p h1 h2 h3
    have hl : (List.replicate p (-1 : Int) ++ List.replicate (n - p) 0).length = n := by simp; omega
    rw [slices_Repeat_int.loop0, hl]
    by_cases c : (p : Int) < n
    · have e1 : (List.replicate p (-1 : Int) ++ List.replicate (n - p) 0).take (p : Int).toNat = List.replicate p (-1) := by
        rw [Int.toNat_natCast, List.take_left' (by simp)]
      have e2 : (List.replicate p (-1 : Int) ++ List.replicate (n - p) 0).drop (p : Int).toNat = List.replicate (n - p) 0 := by
        rw [Int.toNat_natCast, List.drop_left' (by simp)]
      rw [if_pos c, if_pos (by omega), e1, e2, List.length_replicate, List.length_replicate, List.take_replicate]
      have e3 : wrap64 ((p : Int) + ((min p (n - p) : Nat) : Int)) = ((p + min p (n - p) : Nat) : Int) := by rw [w64 (by omega) (by omega)]; omega
      have e4 : cpy (List.replicate p (-1 : Int) ++ List.replicate (n - p) 0) (p : Int).toNat (List.replicate (min (min p (n - p)) p) (-1)) = List.replicate (p + min p (n - p)) (-1) ++ List.replicate (n - (p + min p (n - p))) 0 := by
        unfold cpy
        rw [e1, List.length_replicate, Int.toNat_natCast, show min (min p (n - p)) p = min p (n - p) by omega, List.drop_append, List.length_replicate, List.drop_replicate, List.drop_replicate, show p - (p + min p (n - p)) = 0 by omega, show p + min p (n - p) - p = min p (n - p) by omega, show n - p - min p (n - p) = n - (p + min p (n - p)) by omega]
        simp [List.replicate_append_replicate]
      rw [e3, e4]
      exact ih _ (by omega) (by omega) (by omega)
    · rw [if_neg c]
      obtain rfl : p = n := by omega
      simp
theorem Repeat_eq {K : Nat} {n : Int} (h0 : 1 ≤ n) (h1 : n ≤ 8) (hK : 8 < K) : slices_Repeat_int.f K [(-1 : Int)] n = some (List.replicate n.toNat (-1)) := by
  obtain ⟨n, rfl⟩ := Int.eq_ofNat_of_zero_le (show 0 ≤ n by omega)
  unfold slices_Repeat_int.f
  have hm : math_bits_Mul.f K 1 (n : Int) = some (0, (n : Int)) := mul_small ⟨n, by omega⟩
  rw [if_neg (by omega), wu_small (by simp) (by simp), wu_small (by omega) (by omega), show (([(-1 : Int)] : List Int).length : Int) = 1 from rfl, hm, b2_some, if_neg (by omega), if_neg (by omega), w64 (by omega) (by omega), if_pos (by omega), Int.toNat_natCast, List.length_replicate]
  have e1 : min ([(-1 : Int)] : List Int).length n = 1 := by simp; omega
  have e2 : cpy (List.replicate n (0 : Int)) 0 ([(-1 : Int)].take 1) = List.replicate 1 (-1) ++ List.replicate (n - 1) 0 := by
    unfold cpy
    simp
  rw [e1, e2]
  exact Repeat_loop (by omega) K 1 (by omega) (by omega) (by omega)
theorem impl_NewHeap_eq {K : Nat} {n r : Int} (hK : 8 < K) : impl_NewHeap.f K n r = some (nH n r) := by
  unfold impl_NewHeap.f nH
  by_cases h : 1 ≤ n ∧ n ≤ 8 ∧ 1 ≤ r ∧ r ≤ 3
  · rw [if_neg (by omega), if_neg (by omega), if_neg (by omega), if_neg (by omega), if_pos h]
    simp only [Repeat_eq (K := K) (n := n) (by omega) (by omega) (by omega), Repeat_eq (K := K) (n := r) (by omega) (by omega) (by omega), b1_some]
  · rw [if_neg h]
    repeat' split
    all_goals first | rfl | omega
theorem impl_NewStore_eq {K : Nat} {n r : Int} (hK : 8 < K) : impl_NewStore.f K n r = some (nS n r) := by
  unfold impl_NewStore.f nS
  rw [impl_NewHeap_eq hK]
  unfold nH
  by_cases h : 1 ≤ n ∧ n ≤ 8 ∧ 1 ≤ r ∧ r ≤ 3
  · rw [if_pos h, b4_some, if_pos rfl, if_pos h]
    exact upto_loop (impl_NewStore.loop0 K _ n) (fun l3 => some (_, _, _, l3, true)) (by omega) (by omega) (by omega) (fun m p l => by rw [impl_NewStore.loop0])
  · rw [if_neg h, b4_some, if_neg (by simp), if_neg h]
/-! ### copies -/
theorem Clone_eq {K : Nat} {a : List Int} (h : a.length ≤ 1099511627776) : slices_Clone_int.f K a = some a := by
  unfold slices_Clone_int.f
  rw [if_pos (by simpa)]; simp
theorem copied_eq {K : Nat} {L R Ro : List Int} (hL : L.length ≤ 1099511627776) (hR : R.length ≤ 1099511627776) (hRo : Ro.length ≤ 1099511627776) : impl_copied.f K L R Ro = some (L, R, Ro) := by
  unfold impl_copied.f
  rw [Clone_eq hL, b1_some, Clone_eq hR, b1_some, Clone_eq hRo, b1_some]
theorem again_eq {K : Nat} {L R Ro F : List Int} (hL : L.length ≤ 1099511627776) (hR : R.length ≤ 1099511627776) (hRo : Ro.length ≤ 1099511627776) (hF : F.length ≤ 1099511627776) : impl_again.f K L R Ro F = some (L, R, Ro, F) := by
  unfold impl_again.f
  rw [copied_eq hL hR hRo, b3_some, Clone_eq hF, b1_some]
/-! ### the search -/
theorem meet_ex {K : Nat} {L R Ro out q : List Int} {p far : Int} (h : BI L R Ro 0 out q) (h8 : L.length ≤ 8) (hp : p = -1 ∨ (0 ≤ p ∧ p < L.length ∧ Live L R Ro p)) (h1 : 1 ≤ far) (h2 : far ≤ q.length + 1) : ∃ out' q', impl_distances_1.f K p far out q = some (out', q') ∧ BI L R Ro 0 out' q' ∧ q <+: q' ∧ (0 ≤ p → p ∈ q') := by
  have hq := h.qlen
  unfold impl_distances_1.f
  rcases h.look (by omega) hp h1 h2 with ⟨c, _⟩ | ⟨c, c0, c1, ⟨c2, c3⟩ | ⟨c2, c3, c4⟩⟩
  · rw [if_pos c]; exact ⟨_, _, rfl, h, List.prefix_refl _, fun _ => by omega⟩
  · rw [if_neg c, if_pos ⟨c0, c1⟩, if_neg c2]; exact ⟨_, _, rfl, h, List.prefix_refl _, fun _ => c3⟩
  · rw [if_neg c, if_pos ⟨c0, c1⟩, if_pos c2, if_pos (by simp; omega)]
    exact ⟨_, _, rfl, c4, List.prefix_append _ _, fun _ => by simp⟩
theorem distances_ex {K : Nat} {L R Ro : List Int} (h : HV L R Ro) (hK : 20 < K) : ∃ out, impl_distances.f K L R Ro = some out ∧ out.length = L.length ∧ ∀ x : Int, 0 ≤ x → x < L.length → (0 < rd out x ↔ Live L R Ro x) := by
  obtain ⟨g1, g2, g3, g4, g5, gL, gR, gRo⟩ := id h
  unfold impl_distances.f
  rw [if_pos (by omega), Int.toNat_natCast]
  have e0 : ∀ κ : List Int → List Int → Option (List Int), ∃ q out, impl_distances.loop0 K κ Ro K 0 [] (List.replicate L.length 0) = κ q out ∧ BI L R Ro 0 out q ∧ ∀ x ∈ Ro, 0 ≤ x → x ∈ q := by
    intro κ
    have := loop_ex (fun m p (s : List Int × List Int) => impl_distances.loop0 K κ Ro m p s.1 s.2) (fun i s => BI L R Ro 0 s.2 s.1 ∧ ∀ x ∈ Ro.take i, 0 ≤ x → x ∈ s.1) Ro.length (fun s => κ s.1 s.2) ?_ ?_ (K := K) (by omega) (a := ([], List.replicate L.length 0)) ⟨BI.start, by simp⟩
    · obtain ⟨s, ⟨hb, hr⟩, e⟩ := this
      exact ⟨s.1, s.2, e, hb, by rwa [List.take_length] at hr⟩
    · rintro m i ⟨q, out⟩ hi ⟨hb, hr⟩
      have hmem : rd Ro i ∈ Ro := rd_mem (by omega) (by omega)
      have hrg := gRo _ hmem
      have ht : Ro.take (i + 1) = Ro.take i ++ [rd Ro i] := by rw [List.take_succ_eq_append_getElem hi, rd_get hi]
      simp only [] at hb hr ⊢
      rw [impl_distances.loop0, if_pos (by omega), if_pos (by omega), w64_succ hi (by omega)]
      have hp : rd Ro i = -1 ∨ (0 ≤ rd Ro i ∧ rd Ro i < L.length ∧ Live L R Ro (rd Ro i)) := by
        rcases (show rd Ro i = -1 ∨ 0 ≤ rd Ro i by omega) with c | c
        · exact .inl c
        · exact .inr ⟨c, hrg.2, .root hmem c⟩
      obtain ⟨out', q', e, hb', hpre, hm⟩ := meet_ex (K := K) hb g2 hp (far := 1) (by omega) (by omega)
      rw [e, b2_some]
      refine ⟨(q', out'), ⟨hb', ?_⟩, rfl⟩
      intro x hx hx0
      rw [ht, List.mem_append, List.mem_singleton] at hx
      rcases hx with hx | rfl
      · exact hpre.subset (hr x hx hx0)
      · exact hm hx0
    · rintro m ⟨q, out⟩ _
      show impl_distances.loop0 K κ Ro (m + 1) (Ro.length : Int) q out = _
      rw [impl_distances.loop0, if_neg (by omega)]
  obtain ⟨q0, out0, e0, hb0, hr0⟩ := e0 (fun l5 l6 => impl_distances.loop1 K (fun l11 => some l11) L R K (0:Int) l5 l6)
  rw [e0]
  have := loop_mu (fun m (s : Nat × List Int × List Int) => impl_distances.loop1 K (fun l11 => some l11) L R m s.1 s.2.1 s.2.2)
    (fun s => BI L R Ro 0 s.2.2 s.2.1 ∧ s.1 ≤ s.2.1.length ∧ (∀ x ∈ Ro, 0 ≤ x → x ∈ s.2.1) ∧ ∀ j : Nat, j < s.1 → (0 ≤ rd L (rd s.2.1 j) → rd L (rd s.2.1 j) ∈ s.2.1) ∧ (0 ≤ rd R (rd s.2.1 j) → rd R (rd s.2.1 j) ∈ s.2.1))
    (fun s => 8 - s.1) (fun s => s.1 = s.2.1.length) (fun s => some s.2.2) ?_ (K := K) (a := (0, q0, out0)) ⟨hb0, by simp, hr0, fun j hj => absurd hj (Nat.not_lt_zero _)⟩ (by simp; omega)
  · obtain ⟨⟨i, q, out⟩, ⟨hb, hi, hr, hc⟩, hd, e⟩ := this
    refine ⟨out, e, hb.len, hb.done (by omega) hr fun x hx => ?_⟩
    obtain ⟨j, hj, rfl⟩ := mem_rd hx
    have hd' : i = q.length := hd
    have hj' : j < q.length := hj
    exact hc j (by show j < i; omega)
  · rintro m ⟨i, q, out⟩ ⟨hb, hi, hr, hc⟩
    simp only [] at hb hi hr hc ⊢
    have hq := hb.qlen
    have hl := hb.len
    by_cases c : i < q.length
    · left
      have hcr := hb.rng _ (rd_mem (xs := q) (i := i) (by omega) (by omega))
      have hcl := hb.live _ (rd_mem (xs := q) (i := i) (by omega) (by omega))
      have hcq : rd q i ∈ q := rd_mem (by omega) (by omega)
      have hLr := h.rdL hcr.1 hcr.2
      have hRr := h.rdR hcr.1 hcr.2
      have hpL : rd L (rd q i) = -1 ∨ (0 ≤ rd L (rd q i) ∧ rd L (rd q i) < L.length ∧ Live L R Ro (rd L (rd q i))) := by
        rcases (show rd L (rd q i) = -1 ∨ 0 ≤ rd L (rd q i) by omega) with c | c
        · exact .inl c
        · exact .inr ⟨c, hLr.2, .left hcl c⟩
      have hpR : rd R (rd q i) = -1 ∨ (0 ≤ rd R (rd q i) ∧ rd R (rd q i) < L.length ∧ Live L R Ro (rd R (rd q i))) := by
        rcases (show rd R (rd q i) = -1 ∨ 0 ≤ rd R (rd q i) by omega) with c | c
        · exact .inl c
        · exact .inr ⟨c, hRr.2, .right hcl c⟩
      have v0 := hb.vis _ hcq
      rw [impl_distances.loop1, if_pos (by omega), if_pos (by omega), if_pos hcr, if_pos (by rw [hl]; exact hcr), w64 (x := rd out (rd q i) + 1) (by omega) (by omega)]
      obtain ⟨out1, q1, e1, hb1, p1, m1⟩ := meet_ex (K := K) hb g2 hpL (far := rd out (rd q i) + 1) (by omega) (by omega)
      have hl1 := hb1.len
      have hpl1 := p1.length_le
      have hrd1 : ∀ j : Nat, j < q.length → rd q1 j = rd q j := by
        intro j hj
        obtain ⟨t, rfl⟩ := p1
        exact rd_app_l (by omega) (by omega)
      have v1 := hb1.vis _ (p1.subset hcq)
      have hq1 := hb1.qlen
      rw [e1, b2_some, if_pos (by omega), hrd1 i c, if_pos (by rw [g3]; exact hcr), if_pos (by rw [hl1]; exact hcr), w64 (x := rd out1 (rd q i) + 1) (by omega) (by omega)]
      obtain ⟨out2, q2, e2, hb2, p2, m2⟩ := meet_ex (K := K) hb1 g2 hpR (far := rd out1 (rd q i) + 1) (by omega) (by omega)
      have hpl2 := p2.length_le
      have hp := p1.trans p2
      have hrd2 : ∀ j : Nat, j < q.length → rd q2 j = rd q j := by
        intro j hj
        obtain ⟨t, rfl⟩ := hp
        exact rd_app_l (by omega) (by omega)
      rw [e2, b2_some]
      refine ⟨(i + 1, q2, out2), ⟨hb2, by show i + 1 ≤ q2.length; omega, fun x hx h0 => hp.subset (hr x hx h0), fun j hj => ?_⟩, by show 8 - (i + 1) < 8 - i; omega, ?_⟩
      · have hj' : j < i + 1 := hj
        simp only []
        rw [hrd2 j (by omega)]
        rcases (show j < i ∨ j = i by omega) with c2 | c2
        · exact ⟨fun h => hp.subset ((hc j c2).1 h), fun h => hp.subset ((hc j c2).2 h)⟩
        · subst c2; exact ⟨fun h => p2.subset (m1 h), m2⟩
      · show impl_distances.loop1 K _ L R m (wrap64 ((i : Int) + (1:Int))) q2 out2 = impl_distances.loop1 K _ L R m ((i + 1 : Nat) : Int) q2 out2
        rw [w64 (by omega) (by omega)]; rfl
    · right
      refine ⟨by omega, ?_⟩
      rw [impl_distances.loop1, if_neg (by omega)]
theorem impl_Reachable_eq {K : Nat} {L R Ro : List Int} (hK : 20 < K) : impl_Reachable.f K L R Ro = some (livV L R Ro) := by
  unfold impl_Reachable.f livV
  rw [impl_HeapValid_eq (by omega), b1_some]
  by_cases h : HV L R Ro
  · rw [if_pos (decide_eq_true h), if_pos h]
    have h8 := h.2.1
    obtain ⟨out, e, hl, hd⟩ := distances_ex h hK
    rw [e, b1_some]
    have := loop_st (fun m p (l : List Bool) => impl_Reachable.loop0 K (fun l3 => some l3) out m l p) (fun i => (upto i).map (liveB L R Ro)) L.length (some (liv L R Ro)) ?_ ?_ (K := K) (by omega)
    · exact this
    · intro m i hi
      show impl_Reachable.loop0 K _ out (m + 1) _ (i : Int) = _
      rw [impl_Reachable.loop0, if_pos (by omega), if_pos (by omega), if_pos (by simp [upto_len]; omega), w64_succ hi (by omega), upto_succ, List.map_append]
      have : decide (rd out i > 0) = liveB L R Ro i := by
        rw [Bool.eq_iff_iff, decide_eq_true_iff, liveB_iff]
        exact hd i (by omega) (by omega)
      rw [this]; rfl
    · intro m
      show impl_Reachable.loop0 K _ out (m + 1) _ (L.length : Int) = _
      rw [impl_Reachable.loop0, if_neg (by omega)]; rfl
  · rw [if_neg (by simpa using h), if_neg h]
end Go.Proofs.YtnfaiojmabolmaaDoor.T
