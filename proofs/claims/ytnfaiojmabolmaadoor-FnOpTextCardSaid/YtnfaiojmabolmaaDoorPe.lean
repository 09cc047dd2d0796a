/- Pure theorems of heaps and stores: what the reference's functions of heaps, counts and stores come to. -/
import Derived.Test.YtnfaiojmabolmaaDoorPc
import Derived.Test.YtnfaiojmabolmaaDoorTc
namespace Go.Proofs.YtnfaiojmabolmaaDoor.T
open Go Go.RowKit Go.Proofs.YtnfaiojmabolmaaDoor.S Go.Proofs.YtnfaiojmabolmaaDoor.F
set_option linter.unusedVariables false
set_option linter.unusedSimpArgs false
theorem l4At_eq {K : Nat} {xs : List Int} {a : Int} (hK : xs.length < K) (hmax : xs.length ≤ 9223372036854775807) : spec_l4At.f K xs a = some (fi xs a) := by
  unfold spec_l4At.f
  exact find_loop (spec_l4At.loop0 K (fun _ => some (-1:Int)) xs a) xs a some hmax (fun m p => by rw [spec_l4At.loop0]) hK
theorem Index_eq {K : Nat} {xs : List Int} {a : Int} (hK : xs.length < K) (hmax : xs.length ≤ 9223372036854775807) : slices_Index_int.f K xs a = some (fi xs a) := by
  unfold slices_Index_int.f
  exact find_loop (slices_Index_int.loop0 K (fun _ => some (-1:Int)) xs a) xs a some hmax (fun m p => by rw [slices_Index_int.loop0]; simp only [eq_comm]) hK
theorem Contains_eq {K : Nat} {xs : List Int} {a : Int} (hK : xs.length < K) (hmax : xs.length ≤ 9223372036854775807) : slices_Contains_int.f K xs a = some (decide (a ∈ xs)) := by
  unfold slices_Contains_int.f
  rw [Index_eq hK hmax, b1_some]
  exact congrArg some (decide_eq_decide.2 fi_nonneg)
theorem l1Points_eq (K : Nat) (a n : Int) : spec_l1Points.f K a n = some (decide (-1 ≤ a ∧ a < n)) := by
  unfold spec_l1Points.f
  split
  · exact congrArg some (decide_eq_decide.2 (by omega))
  · rw [eq_comm]; simp; omega
theorem spec_HeapValid_eq {K : Nat} {L R Ro : List Int} (hK : 8 < K) : spec_HeapValid.f K L R Ro = some (decide (HV L R Ro)) := by
  unfold spec_HeapValid.f
  by_cases h1 : (L.length : Int) < 1
  · rw [if_pos h1, decide_eq_false (fun h : HV L R Ro => by have := h.1; omega)]
  rw [if_neg h1]
  by_cases h2 : (L.length : Int) > 8
  · rw [if_pos h2, decide_eq_false (fun h : HV L R Ro => by have := h.2.1; omega)]
  rw [if_neg h2]
  by_cases h3 : (R.length : Int) = L.length
  rotate_left
  · rw [if_neg h3, decide_eq_false (fun h : HV L R Ro => by have := h.2.2.1; omega)]
  rw [if_pos h3]
  by_cases h4 : (Ro.length : Int) < 1
  · rw [if_pos h4, decide_eq_false (fun h : HV L R Ro => by have := h.2.2.2.1; omega)]
  rw [if_neg h4]
  by_cases h5 : (Ro.length : Int) > 3
  · rw [if_pos h5, decide_eq_false (fun h : HV L R Ro => by have := h.2.2.2.2.1; omega)]
  rw [if_neg h5]
  have e1 : spec_HeapValid.loop1 K (fun _ => some true) L Ro K 0 = if ∀ j : Nat, j < Ro.length → (-1 ≤ rd Ro j ∧ rd Ro j < L.length) then some true else some false := by
    refine check_loop (spec_HeapValid.loop1 K (fun _ => some true) L Ro) Ro.length (fun j => -1 ≤ rd Ro j ∧ rd Ro j < L.length) _ _ ?_ ?_ (by omega)
    · intro m i hi _
      rw [spec_HeapValid.loop1, if_pos (by omega), if_pos (by omega), l1Points_eq, b1_some, w64_succ hi (by omega)]
      simp only [decide_eq_true_eq]
    · intro m _
      rw [spec_HeapValid.loop1, if_neg (by omega)]
  rw [e1]
  have e0 : ∀ κ, spec_HeapValid.loop0 K κ L R K 0 = if ∀ j : Nat, j < L.length → ((-1 ≤ rd L j ∧ rd L j < L.length) ∧ -1 ≤ rd R j ∧ rd R j < L.length) then κ () else some false := by
    intro κ
    refine check_loop (spec_HeapValid.loop0 K κ L R) L.length (fun j => (-1 ≤ rd L j ∧ rd L j < L.length) ∧ -1 ≤ rd R j ∧ rd R j < L.length) _ _ ?_ ?_ (by omega)
    · intro m i hi _
      rw [spec_HeapValid.loop0, if_pos (by omega), if_pos (by omega), l1Points_eq, b1_some, if_pos (c := 0 ≤ (i : Int) ∧ (i : Int) < (R.length : Int)) (by omega), l1Points_eq, b1_some, w64_succ hi (by omega)]
      simp only [decide_eq_true_eq]
      by_cases c1 : -1 ≤ rd L i ∧ rd L i < L.length <;> by_cases c2 : -1 ≤ rd R i ∧ rd R i < L.length <;> simp [c1, c2]
    · intro m _
      rw [spec_HeapValid.loop0, if_neg (by omega)]
  rw [e0]
  have iff1 : (∀ j : Nat, j < L.length → ((-1 ≤ rd L j ∧ rd L j < L.length) ∧ -1 ≤ rd R j ∧ rd R j < L.length)) ↔ (∀ x ∈ L, -1 ≤ x ∧ x < L.length) ∧ (∀ x ∈ R, -1 ≤ x ∧ x < L.length) := by
    rw [← forall_rd (p := fun x => -1 ≤ x ∧ x < L.length), ← forall_rd (xs := R) (p := fun x => -1 ≤ x ∧ x < L.length), show R.length = L.length by omega]
    exact ⟨fun h => ⟨fun j hj => (h j hj).1, fun j hj => (h j hj).2⟩, fun h j hj => ⟨h.1 j hj, h.2 j hj⟩⟩
  have iff2 := forall_rd (xs := Ro) (p := fun x => -1 ≤ x ∧ x < L.length)
  by_cases c1 : ∀ j : Nat, j < L.length → ((-1 ≤ rd L j ∧ rd L j < L.length) ∧ -1 ≤ rd R j ∧ rd R j < L.length)
  · rw [if_pos c1]
    by_cases c2 : ∀ j : Nat, j < Ro.length → (-1 ≤ rd Ro j ∧ rd Ro j < L.length)
    · rw [if_pos c2, decide_eq_true]
      exact ⟨by omega, by omega, by omega, by omega, by omega, (iff1.1 c1).1, (iff1.1 c1).2, iff2.1 c2⟩
    · rw [if_neg c2, decide_eq_false]
      exact fun h => c2 (iff2.2 h.2.2.2.2.2.2.2)
  · rw [if_neg c1, decide_eq_false]
    exact fun h => c1 (iff1.2 ⟨h.2.2.2.2.2.1, h.2.2.2.2.2.2.1⟩)
/-! ### counts -/
/-- Numbers of a list are counted one after the other. -/
theorem count_loop {β : Type} {n : Nat} {all : List Int} (L : Nat → Int → List Int → Option β) (κ : List Int → Option β) (hall : ∀ x ∈ all, -1 ≤ x ∧ x < n) (hlen : all.length ≤ 1000)
    (hs : ∀ m p l, L (m + 1) p l = if p < (all.length : Int) then if 0 ≤ p ∧ p < (all.length : Int) then if rd all p = -1 then L m (wrap64 (p + (1:Int))) l else if 0 ≤ rd all p ∧ rd all p < (l.length : Int) then L m (wrap64 (p + (1:Int))) (l.set (rd all p).toNat (wrap64 (rd l (rd all p) + (1:Int)))) else none else none else κ l) {K : Nat} (hK : all.length < K) :
    L K (0 : Int) (List.replicate n 0) = κ ((List.range n).map fun i : Nat => (all.count (i : Int) : Int)) := by
  have h := loop_st L (fun i => (List.range n).map fun j : Nat => ((all.take i).count (j : Int) : Int)) all.length (κ ((List.range n).map fun i : Nat => (all.count (i : Int) : Int))) ?_ ?_ hK
  · have e : (List.range n).map (fun j : Nat => ((all.take 0).count (j : Int) : Int)) = List.replicate n 0 := by
      rw [List.take_zero]; simp [List.map_const']
    rw [← e]; exact h
  · intro m i hi
    rw [hs, if_pos (by omega), if_pos (by omega), w64_succ hi (by omega)]
    have hr := hall _ (rd_mem (xs := all) (i := i) (by omega) (by omega))
    have ht : all.take (i + 1) = all.take i ++ [rd all i] := by
      rw [List.take_succ_eq_append_getElem hi, rd_get hi]
    have hcl : ∀ j : Int, ((all.take i).count j) ≤ 1000 := fun j => Nat.le_trans List.count_le_length (by rw [List.length_take]; omega)
    by_cases e : rd all i = -1
    · rw [if_pos e]
      congr 1
      refine List.map_congr_left fun j _ => ?_
      rw [ht, List.count_append, e]
      have : ([-1] : List Int).count (j : Int) = 0 := by rw [List.count_eq_zero]; simp
      rw [this]; rfl
    · rw [if_neg e, if_pos (by simp; omega)]
      congr 1
      have h0 : 0 ≤ rd all i := by omega
      refine ext_rd (by simp) fun j hj => ?_
      have hj' : j < n := by simpa using hj
      rw [rd_set h0 (by omega) (by simp; omega), rd_map_range h0 hr.2, rd_map_range (by omega) (by omega), rd_map_range (by omega) (by omega), ht, List.count_append, Int.toNat_natCast, List.count_singleton, Int.toNat_of_nonneg h0]
      have := hcl (rd all i)
      rw [w64 (by omega) (by omega)]
      by_cases c : rd all (i : Int) = (j : Int)
      · rw [if_pos c, c]; simp
      · rw [if_neg c]
        have : (rd all (i : Int) == (j : Int)) = false := by simpa using c
        simp [this]
  · intro m
    rw [hs, if_neg (by omega), List.take_length]
theorem cntL_app {L R Ro : List Int} : cntL L R Ro = (List.range L.length).map fun i : Nat => (((L ++ R) ++ Ro).count (i : Int) : Int) := by
  unfold cntL cnt
  refine List.map_congr_left fun j _ => ?_
  rw [List.count_append, List.count_append]
def cntV (L R Ro : List Int) : List Int := if HV L R Ro then cntL L R Ro else []
theorem HV.app {L R Ro : List Int} (h : HV L R Ro) : ∀ x ∈ (L ++ R) ++ Ro, -1 ≤ x ∧ x < L.length := by
  intro x hx
  rcases List.mem_append.1 hx with hx | hx
  · rcases List.mem_append.1 hx with hx | hx
    · exact h.2.2.2.2.2.1 x hx
    · exact h.2.2.2.2.2.2.1 x hx
  · exact h.2.2.2.2.2.2.2 x hx
theorem spec_CountsOf_eq {K : Nat} {L R Ro : List Int} (hK : 32 < K) : spec_CountsOf.f K L R Ro = some (cntV L R Ro) := by
  unfold spec_CountsOf.f cntV
  rw [spec_HeapValid_eq (by omega), b1_some]
  by_cases h : HV L R Ro
  · rw [if_pos (decide_eq_true h), if_pos h]
    obtain ⟨h1, h2, h3, h4, h5, h6, h7, h8⟩ := id h
    simp only [List.nil_append]
    rw [if_pos (by omega), if_pos (by simp; omega), if_pos (by omega), if_pos (by simp; omega)]
    rw [cntL_app, Int.toNat_natCast]
    exact count_loop (spec_CountsOf.loop0 K (fun l3 => some l3) L R Ro) some h.app (by simp; omega) (fun m p l => by rw [spec_CountsOf.loop0]; simp only [List.nil_append]) (by simp; omega)
  · rw [if_neg (by simpa using h), if_neg h]
/-! ### new heaps -/
theorem l1Many_eq {K : Nat} {a : Int} (h0 : 0 ≤ a) (h1 : a ≤ 1000000) (hK : a < K) : spec_l1Many.f K a = some (List.replicate a.toNat (-1)) := by
  unfold spec_l1Many.f
  have := loop_st (fun m p (l : List Int) => spec_l1Many.loop0 K (fun l3 => some l3) a m l p) (fun i => List.replicate i (-1)) a.toNat (some (List.replicate a.toNat (-1))) ?_ ?_ (K := K) (by omega)
  · exact this
  · intro m i hi
    show spec_l1Many.loop0 K (fun l3 => some l3) a (m + 1) (List.replicate i (-1)) i = _
    rw [spec_l1Many.loop0, if_pos (by omega), if_pos (by simp; omega), w64_succ hi (by omega), List.replicate_succ']
  · intro m
    show spec_l1Many.loop0 K (fun l3 => some l3) a (m + 1) (List.replicate a.toNat (-1)) (a.toNat : Int) = _
    rw [spec_l1Many.loop0, if_neg (by omega)]
def nH (n r : Int) : List Int × List Int × List Int × Bool :=
  if 1 ≤ n ∧ n ≤ 8 ∧ 1 ≤ r ∧ r ≤ 3 then (List.replicate n.toNat (-1), List.replicate n.toNat (-1), List.replicate r.toNat (-1), true) else ([], [], [], false)
theorem spec_NewHeap_eq {K : Nat} {n r : Int} (hK : 8 < K) : spec_NewHeap.f K n r = some (nH n r) := by
  unfold spec_NewHeap.f nH
  by_cases h : 1 ≤ n ∧ n ≤ 8 ∧ 1 ≤ r ∧ r ≤ 3
  · rw [if_neg (by omega), if_neg (by omega), if_neg (by omega), if_neg (by omega), if_pos h]
    simp only [l1Many_eq (K := K) (a := n) (by omega) (by omega) (by omega), l1Many_eq (K := K) (a := r) (by omega) (by omega) (by omega), b1_some]
  · rw [if_neg h]
    repeat' split
    all_goals first | rfl | omega
theorem nH_hv {n r : Int} (h : 1 ≤ n ∧ n ≤ 8 ∧ 1 ≤ r ∧ r ≤ 3) : HV (List.replicate n.toNat (-1)) (List.replicate n.toNat (-1)) (List.replicate r.toNat (-1)) := by
  refine ⟨by simp; omega, by simp; omega, by simp, by simp; omega, by simp; omega, ?_, ?_, ?_⟩
  all_goals intro x hx; have := List.eq_of_mem_replicate hx; subst this; simp; omega
def upto (n : Nat) : List Int := (List.range n).map fun i : Nat => (i : Int)
theorem upto_succ (n : Nat) : upto (n + 1) = upto n ++ [(n : Int)] := by simp [upto, List.range_succ]
theorem upto_len (n : Nat) : (upto n).length = n := by simp [upto]
theorem mem_upto {n : Nat} {x : Int} : x ∈ upto n ↔ 0 ≤ x ∧ x < n := by
  unfold upto
  rw [List.mem_map]
  constructor
  · rintro ⟨i, hi, rfl⟩; rw [List.mem_range] at hi; omega
  · intro h; exact ⟨x.toNat, by rw [List.mem_range]; omega, by omega⟩
theorem upto_nodup (n : Nat) : (upto n).Nodup := by
  unfold upto
  induction n with
  | zero => simp
  | succ n ih =>
    rw [List.range_succ, List.map_append, List.nodup_append]
    refine ⟨ih, by simp, fun a ha b hb => ?_⟩
    rw [List.mem_map] at ha
    obtain ⟨i, hi, rfl⟩ := ha
    rw [List.mem_range] at hi
    simp at hb; subst hb; omega
/-- Where a list of numbers is made. -/
theorem upto_loop {β : Type} {K : Nat} {a : Int} (L : Nat → Int → List Int → Option β) (κ : List Int → Option β) (h0 : 0 ≤ a) (h1 : a ≤ 1000000) (hK : a < K)
    (hs : ∀ m p l, L (m + 1) p l = if p < a then if l.length + ([p] : List Int).length ≤ 1099511627776 then L m (wrap64 (p + (1:Int))) (l ++ ([p] : List Int)) else none else κ l) : L K (0:Int) [] = κ (upto a.toNat) := by
  have := loop_st L upto a.toNat (κ (upto a.toNat)) ?_ ?_ (K := K) (by omega)
  · exact this
  · intro m i hi
    rw [hs, if_pos (by omega), if_pos (by rw [upto_len]; simp; omega), w64_succ hi (by omega), upto_succ]
  · intro m
    rw [hs, if_neg (by omega)]
def nS (n r : Int) : List Int × List Int × List Int × List Int × Bool :=
  if 1 ≤ n ∧ n ≤ 8 ∧ 1 ≤ r ∧ r ≤ 3 then (List.replicate n.toNat (-1), List.replicate n.toNat (-1), List.replicate r.toNat (-1), upto n.toNat, true) else ([], [], [], [], false)
theorem spec_NewStore_eq {K : Nat} {n r : Int} (hK : 8 < K) : spec_NewStore.f K n r = some (nS n r) := by
  unfold spec_NewStore.f nS
  rw [spec_NewHeap_eq hK]
  unfold nH
  by_cases h : 1 ≤ n ∧ n ≤ 8 ∧ 1 ≤ r ∧ r ≤ 3
  · rw [if_pos h, b4_some, if_pos rfl, if_pos h]
    exact upto_loop (spec_NewStore.loop0 K _ n) (fun l3 => some (_, _, _, l3, true)) (by omega) (by omega) (by omega) (fun m p l => by rw [spec_NewStore.loop0])
  · rw [if_neg h, b4_some, if_neg (by simp), if_neg h]
theorem nS_sv {n r : Int} (h : 1 ≤ n ∧ n ≤ 8 ∧ 1 ≤ r ∧ r ≤ 3) : SV (List.replicate n.toNat (-1)) (List.replicate n.toNat (-1)) (List.replicate r.toNat (-1)) (upto n.toNat) := by
  refine ⟨nH_hv h, upto_nodup _, fun x hx => ?_⟩
  rw [mem_upto] at hx
  have hne : ∀ k : Nat, x ∉ List.replicate k (-1 : Int) := fun k hm => by have := List.eq_of_mem_replicate hm; omega
  refine ⟨hx.1, by simp; omega, rd_replicate hx.1 hx.2, rd_replicate hx.1 hx.2, hne _, hne _, hne _⟩
/-! ### copies -/
theorem l1Copy_eq {K : Nat} {L R Ro : List Int} (hL : L.length ≤ 1099511627776) (hR : R.length ≤ 1099511627776) (hRo : Ro.length ≤ 1099511627776) : spec_l1Copy.f K L R Ro = some (L, R, Ro) := by
  unfold spec_l1Copy.f
  rw [if_pos (by simpa), if_pos (by simpa), if_pos (by simpa)]
  simp
theorem l4Copy_eq {K : Nat} {L R Ro F : List Int} (hL : L.length ≤ 1099511627776) (hR : R.length ≤ 1099511627776) (hRo : Ro.length ≤ 1099511627776) (hF : F.length ≤ 1099511627776) : spec_l4Copy.f K L R Ro F = some (L, R, Ro, F) := by
  unfold spec_l4Copy.f
  rw [l1Copy_eq hL hR hRo, b3_some, if_pos (by simpa)]
  simp
/-! ### stores -/
theorem l4Free_eq {K : Nat} {L R Ro : List Int} {x : Int} (h : HV L R Ro) (hK : 8 < K) : spec_l4Free.f K L R Ro x = some (decide (0 ≤ x ∧ x < L.length ∧ rd L x = -1 ∧ rd R x = -1 ∧ x ∉ L ∧ x ∉ R ∧ x ∉ Ro)) := by
  obtain ⟨h1, h2, h3, h4, h5, h6, h7, h8⟩ := h
  unfold spec_l4Free.f
  rw [l4At_eq (K := K) (xs := L) (by omega) (by omega), l4At_eq (K := K) (xs := R) (by omega) (by omega), l4At_eq (K := K) (xs := Ro) (by omega) (by omega)]
  simp only [b1_some, fi_neg, decide_eq_true_eq]
  by_cases c1 : x ≥ 0
  rotate_left
  · rw [if_neg c1, decide_eq_false (by omega)]
  rw [if_pos c1]
  by_cases c2 : x < (L.length : Int)
  rotate_left
  · rw [if_neg c2, decide_eq_false (by omega)]
  rw [if_pos c2, if_pos (by omega)]
  by_cases c3 : rd L x = -1
  rotate_left
  · rw [if_neg c3, decide_eq_false (by simp [c3])]
  rw [if_pos c3, if_pos (by omega)]
  by_cases c4 : rd R x = -1
  rotate_left
  · rw [if_neg c4, decide_eq_false (by simp [c4])]
  rw [if_pos c4]
  by_cases c5 : x ∈ L
  · rw [if_neg (by simpa using c5), decide_eq_false (by simp [c5])]
  rw [if_pos c5]
  by_cases c6 : x ∈ R
  · rw [if_neg (by simpa using c6), decide_eq_false (by simp [c6])]
  rw [if_pos c6]
  refine congrArg some (decide_eq_decide.2 ?_)
  simp [c3, c4, c5, c6, c2]
  omega
/-- Free cells are told apart one after the other. -/
theorem nodup_rd {xs : List Int} : (∀ j : Nat, j < xs.length → rd xs j ∉ xs.take j) ↔ xs.Nodup := by
  constructor
  · intro h
    rw [List.nodup_iff_pairwise_ne, List.pairwise_iff_getElem]
    intro i j hi hj hij e
    refine h j hj ?_
    rw [rd_get hj, ← e, List.mem_take_iff_getElem]
    exact ⟨i, by omega, rfl⟩
  · intro h j hj hm
    rw [rd_get hj, List.mem_take_iff_getElem] at hm
    obtain ⟨i, hi, e⟩ := hm
    rw [List.nodup_iff_pairwise_ne, List.pairwise_iff_getElem] at h
    exact h i j (by omega) hj (by omega) e
theorem sv_rd {L R Ro F : List Int} (h : HV L R Ro) : (∀ j : Nat, j < F.length → ((0 ≤ rd F j ∧ rd F j < L.length ∧ rd L (rd F j) = -1 ∧ rd R (rd F j) = -1 ∧ rd F j ∉ L ∧ rd F j ∉ R ∧ rd F j ∉ Ro) ∧ rd F j ∉ F.take j)) ↔ SV L R Ro F := by
  unfold SV
  rw [← nodup_rd, ← forall_rd (p := fun x => 0 ≤ x ∧ x < L.length ∧ rd L x = -1 ∧ rd R x = -1 ∧ x ∉ L ∧ x ∉ R ∧ x ∉ Ro)]
  exact ⟨fun g => ⟨h, fun j hj => (g j hj).2, fun j hj => (g j hj).1⟩, fun g j hj => ⟨g.2.2 j hj, g.2.1 j hj⟩⟩
theorem spec_StoreValid_eq {K : Nat} {L R Ro F : List Int} (hK : 8 < K) : spec_StoreValid.f K L R Ro F = some (decide (SV L R Ro F)) := by
  unfold spec_StoreValid.f
  rw [spec_HeapValid_eq hK, b1_some]
  by_cases h : HV L R Ro
  rotate_left
  · rw [if_neg (by simpa using h), decide_eq_false (fun c => h c.1)]
  rw [if_pos (decide_eq_true h)]
  by_cases hl : (F.length : Int) > L.length
  · rw [if_pos hl, decide_eq_false (fun c => by have := c.len; omega)]
  rw [if_neg hl]
  have h8 := h.2.1
  have e := check_loop (spec_StoreValid.loop0 K (fun _ => some true) L R Ro F) F.length (fun j => (0 ≤ rd F j ∧ rd F j < L.length ∧ rd L (rd F j) = -1 ∧ rd R (rd F j) = -1 ∧ rd F j ∉ L ∧ rd F j ∉ R ∧ rd F j ∉ Ro) ∧ rd F j ∉ F.take j) (some true) (some false) ?_ ?_ (K := K) (by omega)
  · rw [e]
    by_cases c : SV L R Ro F
    · rw [if_pos ((sv_rd h).2 c), decide_eq_true c]
    · rw [if_neg (fun g => c ((sv_rd h).1 g)), decide_eq_false c]
  · intro m i hi _
    rw [spec_StoreValid.loop0, if_pos (by omega), if_pos (by omega), l4Free_eq h hK, b1_some, if_pos (c := 0 ≤ (i : Int) ∧ (i : Int) ≤ (F.length : Int)) (by omega), l4At_eq (by simp; omega) (by simp; omega), b1_some, w64_succ hi (by omega), Int.toNat_natCast]
    simp only [decide_eq_true_eq, fi_nonneg, ge_iff_le]
    by_cases c1 : 0 ≤ rd F i ∧ rd F i < L.length ∧ rd L (rd F i) = -1 ∧ rd R (rd F i) = -1 ∧ rd F i ∉ L ∧ rd F i ∉ R ∧ rd F i ∉ Ro
    · rw [if_pos c1]
      by_cases c2 : rd F i ∈ F.take i
      · rw [if_pos c2, if_neg (fun g => g.2 c2)]
      · rw [if_neg c2, if_pos ⟨c1, c2⟩]
    · rw [if_neg c1, if_neg (fun g => c1 g.1)]
  · intro m _
    rw [spec_StoreValid.loop0, if_neg (by omega)]
end Go.Proofs.YtnfaiojmabolmaaDoor.T
