/- Several texts in one: Pure theorems of heaps and stores: what the reference's functions of heaps, counts and stores come to. Pure theorems of reach: what the reference's searches come to, what is live, what is garbage and what is leaked. Pure theorems of garbage: what is live, what is garbage, what is leaked, and what is cleared, in the reference. Pure theorems of marks: the numbers that the exact laws write into results, and that these are still there. -/
import Derived.Test.YtnfaiojmabolmaaDoorPc
import Derived.Test.YtnfaiojmabolmaaDoorTc
namespace Go.Proofs.YtnfaiojmabolmaaDoor.T
open Go Go.RowKit Go.Proofs.YtnfaiojmabolmaaDoor.S Go.Proofs.YtnfaiojmabolmaaDoor.F
set_option linter.unusedVariables false
set_option linter.unusedSimpArgs false
theorem l4At_eq {K : Nat} {xs : List Int} {a : Int} (hK : xs.length < K) (hmax : xs.length ≤ 9223372036854775807) : spec_l4At.f K xs a = some (fi xs a) := by
  unfold spec_l4At.f
  exact find_loop (spec_l4At.loop0 K (fun _ => some (-1:Int)) xs a) xs a some hmax (fun m p => by rw [spec_l4At.loop0]) hK
theorem Index_eq {K : Nat} {xs : List Int} {a : Int} (hK : xs.length < K) (hmax : xs.length ≤ 9223372036854775807) : slices_Index_int.f K xs a = some (fi xs a) := by
  unfold slices_Index_int.f
  exact find_loop (slices_Index_int.loop0 K (fun _ => some (-1:Int)) xs a) xs a some hmax (fun m p => by rw [slices_Index_int.loop0]; simp only [eq_comm]) hK
theorem Contains_eq {K : Nat} {xs : List Int} {a : Int} (hK : xs.length < K) (hmax : xs.length ≤ 9223372036854775807) : slices_Contains_int.f K xs a = some (decide (a ∈ xs)) := by
  unfold slices_Contains_int.f
  rw [Index_eq hK hmax, b1_some]
  exact congrArg some (decide_eq_decide.2 fi_nonneg)
theorem l1Points_eq (K : Nat) (a n : Int) : spec_l1Points.f K a n = some (decide (-1 ≤ a ∧ a < n)) := by
  unfold spec_l1Points.f
  split
  · exact congrArg some (decide_eq_decide.2 (by omega))
  · rw [eq_comm]; simp; omega
theorem spec_HeapValid_eq {K : Nat} {L R Ro : List Int} (hK : 8 < K) : spec_HeapValid.f K L R Ro = some (decide (HV L R Ro)) := by
  unfold spec_HeapValid.f
  by_cases h1 : (L.length : Int) < 1
  · rw [if_pos h1, decide_eq_false (fun h : HV L R Ro => by have := h.1; omega)]
  rw [if_neg h1]
  by_cases h2 : (L.length : Int) > 8
  · rw [if_pos h2, decide_eq_false (fun h : HV L R Ro => by have := h.2.1; omega)]
  rw [if_neg h2]
  by_cases h3 : (R.length : Int) = L.length
  rotate_left
  · rw [if_neg h3, decide_eq_false (fun h : HV L R Ro => by have := h.2.2.1; omega)]
  rw [if_pos h3]
  by_cases h4 : (Ro.length : Int) < 1
  · rw [if_pos h4, decide_eq_false (fun h : HV L R Ro => by have := h.2.2.2.1; omega)]
  rw [if_neg h4]
  by_cases h5 : (Ro.length : Int) > 3
  · rw [if_pos h5, decide_eq_false (fun h : HV L R Ro => by have := h.2.2.2.2.1; omega)]
  rw [if_neg h5]
  have e1 : spec_HeapValid.loop1 K (fun _ => some true) L Ro K 0 = if ∀ j : Nat, j < Ro.length → (-1 ≤ rd Ro j ∧ rd Ro j < L.length) then some true else some false := by
    refine check_loop (spec_HeapValid.loop1 K (fun _ => some true) L Ro) Ro.length (fun j => -1 ≤ rd Ro j ∧ rd Ro j < L.length) _ _ ?_ ?_ (by omega)
    · intro m i hi _
      rw [spec_HeapValid.loop1, if_pos (by omega), if_pos (by omega), l1Points_eq, b1_some, w64_succ hi (by omega)]
      simp only [decide_eq_true_eq]
    · intro m _
      rw [spec_HeapValid.loop1, if_neg (by omega)]
  rw [e1]
  have e0 : ∀ κ, spec_HeapValid.loop0 K κ L R K 0 = if ∀ j : Nat, j < L.length → ((-1 ≤ rd L j ∧ rd L j < L.length) ∧ -1 ≤ rd R j ∧ rd R j < L.length) then κ () else some false := by
    intro κ
    refine check_loop (spec_HeapValid.loop0 K κ L R) L.length (fun j => (-1 ≤ rd L j ∧ rd L j < L.length) ∧ -1 ≤ rd R j ∧ rd R j < L.length) _ _ ?_ ?_ (by omega)
    · intro m i hi _
      rw [spec_HeapValid.loop0, if_pos (by omega), if_pos (by omega), l1Points_eq, b1_some, if_pos (c := 0 ≤ (i : Int) ∧ (i : Int) < (R.length : Int)) (by omega), l1Points_eq, b1_some, w64_succ hi (by omega)]
      simp only [decide_eq_true_eq]
      by_cases c1 : -1 ≤ rd L i ∧ rd L i < L.length <;> by_cases c2 : -1 ≤ rd R i ∧ rd R i < L.length <;> simp [c1, c2]
    · intro m _
      rw [spec_HeapValid.loop0, if_neg (by omega)]
  rw [e0]
  have iff1 : (∀ j : Nat, j < L.length → ((-1 ≤ rd L j ∧ rd L j < L.length) ∧ -1 ≤ rd R j ∧ rd R j < L.length)) ↔ (∀ x ∈ L, -1 ≤ x ∧ x < L.length) ∧ (∀ x ∈ R, -1 ≤ x ∧ x < L.length) := by
    rw [← forall_rd (p := fun x => -1 ≤ x ∧ x < L.length), ← forall_rd (xs := R) (p := fun x => -1 ≤ x ∧ x < L.length), show R.length = L.length by omega]
    exact ⟨fun h => ⟨fun j hj => (h j hj).1, fun j hj => (h j hj).2⟩, fun h j hj => ⟨h.1 j hj, h.2 j hj⟩⟩
  have iff2 := forall_rd (xs := Ro) (p := fun x => -1 ≤ x ∧ x < L.length)
  by_cases c1 : ∀ j : Nat, j < L.length → ((-1 ≤ rd L j ∧ rd L j < L.length) ∧ -1 ≤ rd R j ∧ rd R j < L.length)
  · rw [if_pos c1]
    by_cases c2 : ∀ j : Nat, j < Ro.length → (-1 ≤ rd Ro j ∧ rd Ro j < L.length)
    · rw [if_pos c2, decide_eq_true]
      exact ⟨by omega, by omega, by omega, by omega, by omega, (iff1.1 c1).1, (iff1.1 c1).2, iff2.1 c2⟩
    · rw [if_neg c2, decide_eq_false]
      exact fun h => c2 (iff2.2 h.2.2.2.2.2.2.2)
  · rw [if_neg c1, decide_eq_false]
    exact fun h => c1 (iff1.2 ⟨h.2.2.2.2.2.1, h.2.2.2.2.2.2.1⟩)
/-! ### counts -/
/-- Numbers of a list are counted one after the other. -/
theorem count_loop {β : Type} {n : Nat} {all : List Int} (L : Nat → Int → List Int → Option β) (κ : List Int → Option β) (hall : ∀ x ∈ all, -1 ≤ x ∧ x < n) (hlen : all.length ≤ 1000)
    (hs : ∀ m p l, L (m + 1) p l = if p < (all.length : Int) then if 0 ≤ p ∧ p < (all.length : Int) then if rd all p = -1 then L m (wrap64 (p + (1:Int))) l else if 0 ≤ rd all p ∧ rd all p < (l.length : Int) then L m (wrap64 (p + (1:Int))) (l.set (rd all p).toNat (wrap64 (rd l (rd all p) + (1:Int)))) else none else none else κ l) {K : Nat} (hK : all.length < K) :
    L K (0 : Int) (List.replicate n 0) = κ ((List.range n).map fun i : Nat => (all.count (i : Int) : Int)) := by
  have h := loop_st L (fun i => (List.range n).map fun j : Nat => ((all.take i).count (j : Int) : Int)) all.length (κ ((List.range n).map fun i : Nat => (all.count (i : Int) : Int))) ?_ ?_ hK
  · have e : (List.range n).map (fun j : Nat => ((all.take 0).count (j : Int) : Int)) = List.replicate n 0 := by
      rw [List.take_zero]; simp [List.map_const']
    rw [← e]; exact h
  · intro m i hi
    rw [hs, if_pos (by omega), if_pos (by omega), w64_succ hi (by omega)]
    have hr := hall _ (rd_mem (xs := all) (i := i) (by omega) (by omega))
    have ht : all.take (i + 1) = all.take i ++ [rd all i] := by
      rw [List.take_succ_eq_append_getElem hi, rd_get hi]
    have hcl : ∀ j : Int, ((all.take i).count j) ≤ 1000 := fun j => Nat.le_trans List.count_le_length (by rw [List.length_take]; omega)
    by_cases e : rd all i = -1
    · rw [if_pos e]
      congr 1
      refine List.map_congr_left fun j _ => ?_
      rw [ht, List.count_append, e]
      have : ([-1] : List Int).count (j : Int) = 0 := by rw [List.count_eq_zero]; simp
      rw [this]; rfl
    · rw [if_neg e, if_pos (by simp; omega)]
      congr 1
      have h0 : 0 ≤ rd all i := by omega
      refine ext_rd (by simp) fun j hj => ?_
      have hj' : j < n := by simpa using hj
      rw [rd_set h0 (by omega) (by simp; omega), rd_map_range h0 hr.2, rd_map_range (by omega) (by omega), rd_map_range (by omega) (by omega), ht, List.count_append, Int.toNat_natCast, List.count_singleton, Int.toNat_of_nonneg h0]
      have := hcl (rd all i)
      rw [w64 (by omega) (by omega)]
      by_cases c : rd all (i : Int) = (j : Int)
      · rw [if_pos c, c]; simp
      · rw [if_neg c]
        have : (rd all (i : Int) == (j : Int)) = false := by simpa using c
        simp [this]
  · intro m
    rw [hs, if_neg (by omega), List.take_length]
theorem cntL_app {L R Ro : List Int} : cntL L R Ro = (List.range L.length).map fun i : Nat => (((L ++ R) ++ Ro).count (i : Int) : Int) := by
  unfold cntL cnt
  refine List.map_congr_left fun j _ => ?_
  rw [List.count_append, List.count_append]
def cntV (L R Ro : List Int) : List Int := if HV L R Ro then cntL L R Ro else []
theorem HV.app {L R Ro : List Int} (h : HV L R Ro) : ∀ x ∈ (L ++ R) ++ Ro, -1 ≤ x ∧ x < L.length := by
  intro x hx
  rcases List.mem_append.1 hx with hx | hx
  · rcases List.mem_append.1 hx with hx | hx
    · exact h.2.2.2.2.2.1 x hx
    · exact h.2.2.2.2.2.2.1 x hx
  · exact h.2.2.2.2.2.2.2 x hx
theorem spec_CountsOf_eq {K : Nat} {L R Ro : List Int} (hK : 32 < K) : spec_CountsOf.f K L R Ro = some (cntV L R Ro) := by
  unfold spec_CountsOf.f cntV
  rw [spec_HeapValid_eq (by omega), b1_some]
  by_cases h : HV L R Ro
  · rw [if_pos (decide_eq_true h), if_pos h]
    obtain ⟨h1, h2, h3, h4, h5, h6, h7, h8⟩ := id h
    simp only [List.nil_append]
    rw [if_pos (by omega), if_pos (by simp; omega), if_pos (by omega), if_pos (by simp; omega)]
    rw [cntL_app, Int.toNat_natCast]
    exact count_loop (spec_CountsOf.loop0 K (fun l3 => some l3) L R Ro) some h.app (by simp; omega) (fun m p l => by rw [spec_CountsOf.loop0]; simp only [List.nil_append]) (by simp; omega)
  · rw [if_neg (by simpa using h), if_neg h]
/-! ### new heaps -/
theorem l1Many_eq {K : Nat} {a : Int} (h0 : 0 ≤ a) (h1 : a ≤ 1000000) (hK : a < K) : spec_l1Many.f K a = some (List.replicate a.toNat (-1)) := by
  unfold spec_l1Many.f
  have := loop_st (fun m p (l : List Int) => spec_l1Many.loop0 K (fun l3 => some l3) a m l p) (fun i => List.replicate i (-1)) a.toNat (some (List.replicate a.toNat (-1))) ?_ ?_ (K := K) (by omega)
  · exact this
  · intro m i hi
    show spec_l1Many.loop0 K (fun l3 => some l3) a (m + 1) (List.replicate i (-1)) i = _
    rw [spec_l1Many.loop0, if_pos (by omega), if_pos (by simp; omega), w64_succ hi (by omega), List.replicate_succ']
  · intro m
    show spec_l1Many.loop0 K (fun l3 => some l3) a (m + 1) (List.replicate a.toNat (-1)) (a.toNat : Int) = _
    rw [spec_l1Many.loop0, if_neg (by omega)]
def nH (n r : Int) : List Int × List Int × List Int × Bool :=
  if 1 ≤ n ∧ n ≤ 8 ∧ 1 ≤ r ∧ r ≤ 3 then (List.replicate n.toNat (-1), List.replicate n.toNat (-1), List.replicate r.toNat (-1), true) else ([], [], [], false)
theorem spec_NewHeap_eq {K : Nat} {n r : Int} (hK : 8 < K) : spec_NewHeap.f K n r = some (nH n r) := by
  unfold spec_NewHeap.f nH
  by_cases h : 1 ≤ n ∧ n ≤ 8 ∧ 1 ≤ r ∧ r ≤ 3
  · rw [if_neg (by omega), if_neg (by omega), if_neg (by omega), if_neg (by omega), if_pos h]
    simp only [l1Many_eq (K := K) (a := n) (by omega) (by omega) (by omega), l1Many_eq (K := K) (a := r) (by omega) (by omega) (by omega), b1_some]
  · rw [if_neg h]
    repeat' split
    all_goals first | rfl | omega
theorem nH_hv {n r : Int} (h : 1 ≤ n ∧ n ≤ 8 ∧ 1 ≤ r ∧ r ≤ 3) : HV (List.replicate n.toNat (-1)) (List.replicate n.toNat (-1)) (List.replicate r.toNat (-1)) := by
  refine ⟨by simp; omega, by simp; omega, by simp, by simp; omega, by simp; omega, ?_, ?_, ?_⟩
  all_goals intro x hx; have := List.eq_of_mem_replicate hx; subst this; simp; omega
def upto (n : Nat) : List Int := (List.range n).map fun i : Nat => (i : Int)
theorem upto_succ (n : Nat) : upto (n + 1) = upto n ++ [(n : Int)] := by simp [upto, List.range_succ]
theorem upto_len (n : Nat) : (upto n).length = n := by simp [upto]
theorem mem_upto {n : Nat} {x : Int} : x ∈ upto n ↔ 0 ≤ x ∧ x < n := by
  unfold upto
  rw [List.mem_map]
  constructor
  · rintro ⟨i, hi, rfl⟩; rw [List.mem_range] at hi; omega
  · intro h; exact ⟨x.toNat, by rw [List.mem_range]; omega, by omega⟩
theorem upto_nodup (n : Nat) : (upto n).Nodup := by
  unfold upto
  induction n with
  | zero => simp
  | succ n ih =>
    rw [List.range_succ, List.map_append, List.nodup_append]
    refine ⟨ih, by simp, fun a ha b hb => ?_⟩
    rw [List.mem_map] at ha
    obtain ⟨i, hi, rfl⟩ := ha
    rw [List.mem_range] at hi
    simp at hb; subst hb; omega
/-- Where a list of numbers is made. -/
theorem upto_loop {β : Type} {K : Nat} {a : Int} (L : Nat → Int → List Int → Option β) (κ : List Int → Option β) (h0 : 0 ≤ a) (h1 : a ≤ 1000000) (hK : a < K)
    (hs : ∀ m p l, L (m + 1) p l = if p < a then if l.length + ([p] : List Int).length ≤ 1099511627776 then L m (wrap64 (p + (1:Int))) (l ++ ([p] : List Int)) else none else κ l) : L K (0:Int) [] = κ (upto a.toNat) := by
  have := loop_st L upto a.toNat (κ (upto a.toNat)) ?_ ?_ (K := K) (by omega)
  · exact this
  · intro m i hi
    rw [hs, if_pos (by omega), if_pos (by rw [upto_len]; simp; omega), w64_succ hi (by omega), upto_succ]
  · intro m
    rw [hs, if_neg (by omega)]
def nS (n r : Int) : List Int × List Int × List Int × List Int × Bool :=
  if 1 ≤ n ∧ n ≤ 8 ∧ 1 ≤ r ∧ r ≤ 3 then (List.replicate n.toNat (-1), List.replicate n.toNat (-1), List.replicate r.toNat (-1), upto n.toNat, true) else ([], [], [], [], false)
theorem spec_NewStore_eq {K : Nat} {n r : Int} (hK : 8 < K) : spec_NewStore.f K n r = some (nS n r) := by
  unfold spec_NewStore.f nS
  rw [spec_NewHeap_eq hK]
  unfold nH
  by_cases h : 1 ≤ n ∧ n ≤ 8 ∧ 1 ≤ r ∧ r ≤ 3
  · rw [if_pos h, b4_some, if_pos rfl, if_pos h]
    exact upto_loop (spec_NewStore.loop0 K _ n) (fun l3 => some (_, _, _, l3, true)) (by omega) (by omega) (by omega) (fun m p l => by rw [spec_NewStore.loop0])
  · rw [if_neg h, b4_some, if_neg (by simp), if_neg h]
theorem nS_sv {n r : Int} (h : 1 ≤ n ∧ n ≤ 8 ∧ 1 ≤ r ∧ r ≤ 3) : SV (List.replicate n.toNat (-1)) (List.replicate n.toNat (-1)) (List.replicate r.toNat (-1)) (upto n.toNat) := by
  refine ⟨nH_hv h, upto_nodup _, fun x hx => ?_⟩
  rw [mem_upto] at hx
  have hne : ∀ k : Nat, x ∉ List.replicate k (-1 : Int) := fun k hm => by have := List.eq_of_mem_replicate hm; omega
  refine ⟨hx.1, by simp; omega, rd_replicate hx.1 hx.2, rd_replicate hx.1 hx.2, hne _, hne _, hne _⟩
/-! ### copies -/
theorem l1Copy_eq {K : Nat} {L R Ro : List Int} (hL : L.length ≤ 1099511627776) (hR : R.length ≤ 1099511627776) (hRo : Ro.length ≤ 1099511627776) : spec_l1Copy.f K L R Ro = some (L, R, Ro) := by
  unfold spec_l1Copy.f
  rw [if_pos (by simpa), if_pos (by simpa), if_pos (by simpa)]
  simp
theorem l4Copy_eq {K : Nat} {L R Ro F : List Int} (hL : L.length ≤ 1099511627776) (hR : R.length ≤ 1099511627776) (hRo : Ro.length ≤ 1099511627776) (hF : F.length ≤ 1099511627776) : spec_l4Copy.f K L R Ro F = some (L, R, Ro, F) := by
  unfold spec_l4Copy.f
  rw [l1Copy_eq hL hR hRo, b3_some, if_pos (by simpa)]
  simp
/-! ### stores -/
theorem l4Free_eq {K : Nat} {L R Ro : List Int} {x : Int} (h : HV L R Ro) (hK : 8 < K) : spec_l4Free.f K L R Ro x = some (decide (0 ≤ x ∧ x < L.length ∧ rd L x = -1 ∧ rd R x = -1 ∧ x ∉ L ∧ x ∉ R ∧ x ∉ Ro)) := by
  obtain ⟨h1, h2, h3, h4, h5, h6, h7, h8⟩ := h
  unfold spec_l4Free.f
  rw [l4At_eq (K := K) (xs := L) (by omega) (by omega), l4At_eq (K := K) (xs := R) (by omega) (by omega), l4At_eq (K := K) (xs := Ro) (by omega) (by omega)]
  simp only [b1_some, fi_neg, decide_eq_true_eq]
  by_cases c1 : x ≥ 0
  rotate_left
  · rw [if_neg c1, decide_eq_false (by omega)]
  rw [if_pos c1]
  by_cases c2 : x < (L.length : Int)
  rotate_left
  · rw [if_neg c2, decide_eq_false (by omega)]
  rw [if_pos c2, if_pos (by omega)]
  by_cases c3 : rd L x = -1
  rotate_left
  · rw [if_neg c3, decide_eq_false (by simp [c3])]
  rw [if_pos c3, if_pos (by omega)]
  by_cases c4 : rd R x = -1
  rotate_left
  · rw [if_neg c4, decide_eq_false (by simp [c4])]
  rw [if_pos c4]
  by_cases c5 : x ∈ L
  · rw [if_neg (by simpa using c5), decide_eq_false (by simp [c5])]
  rw [if_pos c5]
  by_cases c6 : x ∈ R
  · rw [if_neg (by simpa using c6), decide_eq_false (by simp [c6])]
  rw [if_pos c6]
  refine congrArg some (decide_eq_decide.2 ?_)
  simp [c3, c4, c5, c6, c2]
  omega
/-- Free cells are told apart one after the other. -/
theorem nodup_rd {xs : List Int} : (∀ j : Nat, j < xs.length → rd xs j ∉ xs.take j) ↔ xs.Nodup := by
  constructor
  · intro h
    rw [List.nodup_iff_pairwise_ne, List.pairwise_iff_getElem]
    intro i j hi hj hij e
    refine h j hj ?_
    rw [rd_get hj, ← e, List.mem_take_iff_getElem]
    exact ⟨i, by omega, rfl⟩
  · intro h j hj hm
    rw [rd_get hj, List.mem_take_iff_getElem] at hm
    obtain ⟨i, hi, e⟩ := hm
    rw [List.nodup_iff_pairwise_ne, List.pairwise_iff_getElem] at h
    exact h i j (by omega) hj (by omega) e
theorem sv_rd {L R Ro F : List Int} (h : HV L R Ro) : (∀ j : Nat, j < F.length → ((0 ≤ rd F j ∧ rd F j < L.length ∧ rd L (rd F j) = -1 ∧ rd R (rd F j) = -1 ∧ rd F j ∉ L ∧ rd F j ∉ R ∧ rd F j ∉ Ro) ∧ rd F j ∉ F.take j)) ↔ SV L R Ro F := by
  unfold SV
  rw [← nodup_rd, ← forall_rd (p := fun x => 0 ≤ x ∧ x < L.length ∧ rd L x = -1 ∧ rd R x = -1 ∧ x ∉ L ∧ x ∉ R ∧ x ∉ Ro)]
  exact ⟨fun g => ⟨h, fun j hj => (g j hj).2, fun j hj => (g j hj).1⟩, fun g j hj => ⟨g.2.2 j hj, g.2.1 j hj⟩⟩
theorem spec_StoreValid_eq {K : Nat} {L R Ro F : List Int} (hK : 8 < K) : spec_StoreValid.f K L R Ro F = some (decide (SV L R Ro F)) := by
  unfold spec_StoreValid.f
  rw [spec_HeapValid_eq hK, b1_some]
  by_cases h : HV L R Ro
  rotate_left
  · rw [if_neg (by simpa using h), decide_eq_false (fun c => h c.1)]
  rw [if_pos (decide_eq_true h)]
  by_cases hl : (F.length : Int) > L.length
  · rw [if_pos hl, decide_eq_false (fun c => by have := c.len; omega)]
  rw [if_neg hl]
  have h8 := h.2.1
  have e := check_loop (spec_StoreValid.loop0 K (fun _ => some true) L R Ro F) F.length (fun j => (0 ≤ rd F j ∧ rd F j < L.length ∧ rd L (rd F j) = -1 ∧ rd R (rd F j) = -1 ∧ rd F j ∉ L ∧ rd F j ∉ R ∧ rd F j ∉ Ro) ∧ rd F j ∉ F.take j) (some true) (some false) ?_ ?_ (K := K) (by omega)
  · rw [e]
    by_cases c : SV L R Ro F
    · rw [if_pos ((sv_rd h).2 c), decide_eq_true c]
    · rw [if_neg (fun g => c ((sv_rd h).1 g)), decide_eq_false c]
  · intro m i hi _
    rw [spec_StoreValid.loop0, if_pos (by omega), if_pos (by omega), l4Free_eq h hK, b1_some, if_pos (c := 0 ≤ (i : Int) ∧ (i : Int) ≤ (F.length : Int)) (by omega), l4At_eq (by simp; omega) (by simp; omega), b1_some, w64_succ hi (by omega), Int.toNat_natCast]
    simp only [decide_eq_true_eq, fi_nonneg, ge_iff_le]
    by_cases c1 : 0 ≤ rd F i ∧ rd F i < L.length ∧ rd L (rd F i) = -1 ∧ rd R (rd F i) = -1 ∧ rd F i ∉ L ∧ rd F i ∉ R ∧ rd F i ∉ Ro
    · rw [if_pos c1]
      by_cases c2 : rd F i ∈ F.take i
      · rw [if_pos c2, if_neg (fun g => g.2 c2)]
      · rw [if_neg c2, if_pos ⟨c1, c2⟩]
    · rw [if_neg c1, if_neg (fun g => c1 g.1)]
  · intro m _
    rw [spec_StoreValid.loop0, if_neg (by omega)]
end Go.Proofs.YtnfaiojmabolmaaDoor.T
namespace Go.Proofs.YtnfaiojmabolmaaDoor.T
open Go Go.RowKit Go.Proofs.YtnfaiojmabolmaaDoor.S Go.Proofs.YtnfaiojmabolmaaDoor.F
set_option linter.unusedVariables false
set_option linter.unusedSimpArgs false
/-- One look at a pointer. -/
theorem BI.look {L R Ro : List Int} {e : Int} {out q : List Int} (h : BI L R Ro e out q) (he : e ≤ 0) {p far : Int} (hp : p = -1 ∨ (0 ≤ p ∧ p < L.length ∧ Live L R Ro p)) (h1 : 1 ≤ far) (h2 : far ≤ q.length + 1) :
    (p = -1 ∧ True) ∨ (p ≠ -1 ∧ 0 ≤ p ∧ p < out.length ∧ ((¬rd out p = e ∧ p ∈ q) ∨ (rd out p = e ∧ p ∉ q ∧ BI L R Ro e (out.set p.toNat far) (q ++ [p])))) := by
  rcases hp with hp | ⟨h3, h4, h5⟩
  · exact .inl ⟨hp, trivial⟩
  · refine .inr ⟨by omega, h3, by rw [h.len]; exact h4, ?_⟩
    by_cases c : p ∈ q
    · have := h.vis p c
      exact .inl ⟨by omega, c⟩
    · exact .inr ⟨h.non p h3 h4 c, c, h.visit h3 h4 h5 c h1 h2⟩
theorem l2Distances_ex {K : Nat} {L R Ro : List Int} (h : HV L R Ro) (hK : 20 < K) : ∃ out, spec_l2Distances.f K L R Ro = some out ∧ out.length = L.length ∧ ∀ x : Int, 0 ≤ x → x < L.length → (0 < rd out x ↔ Live L R Ro x) := by
  obtain ⟨g1, g2, g3, g4, g5, gL, gR, gRo⟩ := id h
  unfold spec_l2Distances.f
  rw [l1Many_eq (K := K) (a := (L.length : Int)) (by omega) (by omega) (by omega), b1_some, Int.toNat_natCast]
  -- the roots
  have e0 : ∀ κ : List Int → List Int → Option (List Int), ∃ q out, spec_l2Distances.loop0 K κ Ro K [] 0 (List.replicate L.length (-1)) = κ q out ∧ BI L R Ro (-1) out q ∧ ∀ x ∈ Ro, 0 ≤ x → x ∈ q := by
    intro κ
    have := loop_ex (fun m p (s : List Int × List Int) => spec_l2Distances.loop0 K κ Ro m s.1 p s.2) (fun i s => BI L R Ro (-1) s.2 s.1 ∧ ∀ x ∈ Ro.take i, 0 ≤ x → x ∈ s.1) Ro.length (fun s => κ s.1 s.2) ?_ ?_ (K := K) (by omega) (a := ([], List.replicate L.length (-1))) ⟨BI.start, by simp⟩
    · obtain ⟨s, ⟨hb, hr⟩, e⟩ := this
      exact ⟨s.1, s.2, e, hb, by rwa [List.take_length] at hr⟩
    · rintro m i ⟨q, out⟩ hi ⟨hb, hr⟩
      have hmem : rd Ro i ∈ Ro := rd_mem (by omega) (by omega)
      have hrg := gRo _ hmem
      have ht : Ro.take (i + 1) = Ro.take i ++ [rd Ro i] := by rw [List.take_succ_eq_append_getElem hi, rd_get hi]
      have hq : q.length ≤ L.length := hb.qlen
      simp only [] at hb hr ⊢
      rw [spec_l2Distances.loop0, if_pos (by omega), if_pos (by omega), w64_succ hi (by omega)]
      have hp : rd Ro i = -1 ∨ (0 ≤ rd Ro i ∧ rd Ro i < L.length ∧ Live L R Ro (rd Ro i)) := by
        rcases (show rd Ro i = -1 ∨ 0 ≤ rd Ro i by omega) with c | c
        · exact .inl c
        · exact .inr ⟨c, hrg.2, .root hmem c⟩
      rcases hb.look (by omega) hp (far := 1) (by omega) (by omega) with ⟨c, _⟩ | ⟨c, c0, c1, ⟨c2, c3⟩ | ⟨c2, c3, c4⟩⟩
      · rw [if_pos c]
        refine ⟨(q, out), ⟨hb, ?_⟩, rfl⟩
        intro x hx h0
        rw [ht, List.mem_append, List.mem_singleton] at hx
        rcases hx with hx | hx
        · exact hr x hx h0
        · omega
      · have := hb.vis _ c3
        rw [if_neg c, if_pos ⟨c0, c1⟩, if_neg (by omega)]
        refine ⟨(q, out), ⟨hb, ?_⟩, rfl⟩
        intro x hx h0
        rw [ht, List.mem_append, List.mem_singleton] at hx
        rcases hx with hx | rfl
        · exact hr x hx h0
        · exact c3
      · rw [if_neg c, if_pos ⟨c0, c1⟩, if_pos (by omega), if_pos (by simp; omega)]
        refine ⟨(q ++ [rd Ro i], out.set (rd Ro i).toNat 1), ⟨c4, ?_⟩, rfl⟩
        intro x hx h0
        rw [ht, List.mem_append, List.mem_singleton] at hx
        rw [List.mem_append, List.mem_singleton]
        rcases hx with hx | rfl
        · exact .inl (hr x hx h0)
        · exact .inr rfl
    · rintro m ⟨q, out⟩ _
      show spec_l2Distances.loop0 K κ Ro (m + 1) q (Ro.length : Int) out = _
      rw [spec_l2Distances.loop0, if_neg (by omega)]
  obtain ⟨q0, out0, e0, hb0, hr0⟩ := e0 _
  rw [e0]
  -- two looks
  have e2 : ∀ (κ : List Int → List Int → Option (List Int)) (q out : List Int) (i : Nat), BI L R Ro (-1) out q → i < q.length → ∃ q' out', spec_l2Distances.loop2 K κ L R q i K q 0 out = κ q' out' ∧ BI L R Ro (-1) out' q' ∧ q <+: q' ∧ (0 ≤ rd L (rd q i) → rd L (rd q i) ∈ q') ∧ (0 ≤ rd R (rd q i) → rd R (rd q i) ∈ q') := by
    intro κ q out i hb hi
    have hc := hb.rng _ (rd_mem (xs := q) (i := i) (by omega) (by omega))
    have hcl := hb.live _ (rd_mem (xs := q) (i := i) (by omega) (by omega))
    have hcq : rd q i ∈ q := rd_mem (by omega) (by omega)
    have hLr := h.rdL hc.1 hc.2
    have hRr := h.rdR hc.1 hc.2
    have hpL : rd L (rd q i) = -1 ∨ (0 ≤ rd L (rd q i) ∧ rd L (rd q i) < L.length ∧ Live L R Ro (rd L (rd q i))) := by
      rcases (show rd L (rd q i) = -1 ∨ 0 ≤ rd L (rd q i) by omega) with c | c
      · exact .inl c
      · exact .inr ⟨c, hLr.2, .left hcl c⟩
    have hpR : rd R (rd q i) = -1 ∨ (0 ≤ rd R (rd q i) ∧ rd R (rd q i) < L.length ∧ Live L R Ro (rd R (rd q i))) := by
      rcases (show rd R (rd q i) = -1 ∨ 0 ≤ rd R (rd q i) by omega) with c | c
      · exact .inl c
      · exact .inr ⟨c, hRr.2, .right hcl c⟩
    have one : ∀ (κ : List Int → List Int → Option (List Int)) (m : Nat) (q' out' : List Int) (k : Nat), k < 2 → BI L R Ro (-1) out' q' → q <+: q' → (rd ([(rd L (rd q i)), (rd R (rd q i))] : List Int) k = -1 ∨ (0 ≤ rd ([(rd L (rd q i)), (rd R (rd q i))] : List Int) k ∧ rd ([(rd L (rd q i)), (rd R (rd q i))] : List Int) k < L.length ∧ Live L R Ro (rd ([(rd L (rd q i)), (rd R (rd q i))] : List Int) k))) →
        ∃ q2 out2, spec_l2Distances.loop2 K κ L R q i (m + 1) q' k out' = spec_l2Distances.loop2 K κ L R q i m q2 ((k + 1 : Nat) : Int) out2 ∧ BI L R Ro (-1) out2 q2 ∧ q' <+: q2 ∧ (0 ≤ rd ([(rd L (rd q i)), (rd R (rd q i))] : List Int) k → rd ([(rd L (rd q i)), (rd R (rd q i))] : List Int) k ∈ q2) := by
      intro κ m q' out' k hk hb' hpre hp
      have hq' := hb'.qlen
      have hl' := hb'.len
      have hv := hb'.vis _ (hpre.subset hcq)
      rw [spec_l2Distances.loop2, if_pos (by omega), if_pos (by simp; omega), w64_succ hk (by omega), w64 (x := rd out' (rd q i) + 1) (by omega) (by omega)]
      rcases hb'.look (by omega) hp (far := rd out' (rd q i) + 1) (by omega) (by omega) with ⟨c, _⟩ | ⟨c, c0, c1, ⟨c2, c3⟩ | ⟨c2, c3, c4⟩⟩
      · rw [if_pos c]
        exact ⟨q', out', rfl, hb', List.prefix_refl _, fun h => by omega⟩
      · have := hb'.vis _ c3
        rw [if_neg c, if_pos ⟨c0, c1⟩, if_neg (by omega)]
        exact ⟨q', out', rfl, hb', List.prefix_refl _, fun _ => c3⟩
      · rw [if_neg c, if_pos ⟨c0, c1⟩, if_pos (by omega), if_pos (by omega), if_pos (by simp; omega)]
        exact ⟨_, _, rfl, c4, List.prefix_append _ _, fun _ => by simp⟩
    obtain ⟨K, rfl⟩ : ∃ K', K = K' + 3 := ⟨K - 3, by omega⟩
    obtain ⟨q1, out1, e1, hb1, hp1, hm1⟩ := one κ (K + 2) q out 0 (by omega) hb (List.prefix_refl _) hpL
    obtain ⟨q2, out2, e2, hb2, hp2, hm2⟩ := one κ (K + 1) q1 out1 1 (by omega) hb1 hp1 hpR
    refine ⟨q2, out2, ?_, hb2, hp1.trans hp2, fun h => hp2.subset (hm1 h), hm2⟩
    rw [show (0 : Int) = ((0 : Nat) : Int) from rfl, e1, e2, spec_l2Distances.loop2, if_neg (by omega)]
  -- the search
  have := loop_mu (fun m (s : List Int × Nat × List Int) => spec_l2Distances.loop1 K (fun l29 => some l29) L R m s.1 s.2.1 s.2.2)
    (fun s => BI L R Ro (-1) s.2.2 s.1 ∧ s.2.1 ≤ s.1.length ∧ (∀ x ∈ Ro, 0 ≤ x → x ∈ s.1) ∧ ∀ j : Nat, j < s.2.1 → (0 ≤ rd L (rd s.1 j) → rd L (rd s.1 j) ∈ s.1) ∧ (0 ≤ rd R (rd s.1 j) → rd R (rd s.1 j) ∈ s.1))
    (fun s => 8 - s.2.1) (fun s => s.2.1 = s.1.length) (fun s => some s.2.2) ?_ (K := K) (a := (q0, 0, out0)) ⟨hb0, by simp, hr0, fun j hj => absurd hj (Nat.not_lt_zero _)⟩ (by simp; omega)
  · obtain ⟨⟨q, i, out⟩, ⟨hb, hi, hr, hc⟩, hd, e⟩ := this
    refine ⟨out, e, hb.len, hb.done (by omega) hr fun x hx => ?_⟩
    obtain ⟨j, hj, rfl⟩ := mem_rd hx
    have hd' : i = q.length := hd
    have hj' : j < q.length := hj
    exact hc j (by show j < i; omega)
  · rintro m ⟨q, i, out⟩ ⟨hb, hi, hr, hc⟩
    simp only [] at hb hi hr hc ⊢
    have hq := hb.qlen
    have hl := hb.len
    by_cases c : i < q.length
    · left
      have hcr := hb.rng _ (rd_mem (xs := q) (i := i) (by omega) (by omega))
      rw [spec_l2Distances.loop1, if_pos (by omega), if_pos (by omega), if_pos hcr, if_pos (by rw [g3]; exact hcr)]
      obtain ⟨q', out', e, hb', hp, hL, hR⟩ := e2 (fun l34 l35 => spec_l2Distances.loop1 K (fun l29 => some l29) L R m l34 (wrap64 ((i : Int) + (1:Int))) l35) q out i hb c
      rw [e]
      have hpl := hp.length_le
      have hrd : ∀ j : Nat, j < q.length → rd q' j = rd q j := by
        intro j hj
        obtain ⟨t, rfl⟩ := hp
        exact rd_app_l (by omega) (by omega)
      refine ⟨(q', i + 1, out'), ⟨hb', by show i + 1 ≤ q'.length; omega, fun x hx h0 => hp.subset (hr x hx h0), fun j hj => ?_⟩, by show 8 - (i + 1) < 8 - i; omega, ?_⟩
      · have hj' : j < i + 1 := hj
        simp only []
        rw [hrd j (by omega)]
        rcases (show j < i ∨ j = i by omega) with c2 | c2
        · exact ⟨fun h => hp.subset ((hc j c2).1 h), fun h => hp.subset ((hc j c2).2 h)⟩
        · subst c2; exact ⟨hL, hR⟩
      · show spec_l2Distances.loop1 K _ L R m q' (wrap64 ((i : Int) + (1:Int))) out' = spec_l2Distances.loop1 K _ L R m q' ((i + 1 : Nat) : Int) out'
        rw [w64 (by omega) (by omega)]; rfl
    · right
      refine ⟨by omega, ?_⟩
      rw [spec_l2Distances.loop1, if_neg (by omega)]
end Go.Proofs.YtnfaiojmabolmaaDoor.T
namespace Go.Proofs.YtnfaiojmabolmaaDoor.T
open Go Go.RowKit Go.Proofs.YtnfaiojmabolmaaDoor.S Go.Proofs.YtnfaiojmabolmaaDoor.F
set_option linter.unusedVariables false
set_option linter.unusedSimpArgs false
noncomputable def liveB (L R Ro : List Int) (x : Int) : Bool := @decide (Live L R Ro x) (Classical.propDecidable _)
theorem liveB_iff {L R Ro : List Int} {x : Int} : liveB L R Ro x = true ↔ Live L R Ro x := by unfold liveB; exact @decide_eq_true_iff _ (Classical.propDecidable _)
noncomputable def liv (L R Ro : List Int) : List Bool := (upto L.length).map (liveB L R Ro)
noncomputable def livV (L R Ro : List Int) : List Bool := if HV L R Ro then liv L R Ro else []
theorem liv_len {L R Ro : List Int} : (liv L R Ro).length = L.length := by simp [liv, upto_len]
theorem rd_upto {n : Nat} {x : Int} (h0 : 0 ≤ x) (h1 : x < n) : rd (upto n) x = x := by
  unfold upto; rw [rd_map_range h0 h1, Int.toNat_of_nonneg h0]
theorem rdb_map {xs : List Int} {f : Int → Bool} {x : Int} (h0 : 0 ≤ x) (h1 : x < xs.length) : rdb (xs.map f) x = f (rd xs x) := by
  have h : x.toNat < xs.length := by omega
  unfold rdb rd
  rw [List.getD_eq_getElem?_getD, List.getD_eq_getElem?_getD, List.getElem?_map, List.getElem?_eq_getElem h]
  rfl
theorem rdb_liv {L R Ro : List Int} {x : Int} (h0 : 0 ≤ x) (h1 : x < L.length) : rdb (liv L R Ro) x = liveB L R Ro x := by
  unfold liv
  rw [rdb_map h0 (by rw [upto_len]; exact h1), rd_upto h0 h1]
theorem spec_Reachable_eq {K : Nat} {L R Ro : List Int} (hK : 20 < K) : spec_Reachable.f K L R Ro = some (livV L R Ro) := by
  unfold spec_Reachable.f livV
  rw [spec_HeapValid_eq (by omega), b1_some]
  by_cases h : HV L R Ro
  · rw [if_pos (decide_eq_true h), if_pos h]
    have h8 := h.2.1
    obtain ⟨out, e, hl, hd⟩ := l2Distances_ex h hK
    rw [e, b1_some]
    have := loop_st (fun m p (l : List Bool) => spec_Reachable.loop0 K (fun l3 => some l3) out m l p) (fun i => (upto i).map (liveB L R Ro)) L.length (some (liv L R Ro)) ?_ ?_ (K := K) (by omega)
    · exact this
    · intro m i hi
      show spec_Reachable.loop0 K _ out (m + 1) _ (i : Int) = _
      rw [spec_Reachable.loop0, if_pos (by omega), if_pos (by omega), if_pos (by simp [upto_len]; omega), w64_succ hi (by omega), upto_succ, List.map_append]
      have : decide (rd out i > 0) = liveB L R Ro i := by
        rw [Bool.eq_iff_iff, decide_eq_true_iff, liveB_iff]
        exact hd i (by omega) (by omega)
      rw [this]; rfl
    · intro m
      show spec_Reachable.loop0 K _ out (m + 1) _ (L.length : Int) = _
      rw [spec_Reachable.loop0, if_neg (by omega)]; rfl
  · rw [if_neg (by simpa using h), if_neg h]
noncomputable def gar (L R Ro : List Int) : List Int := (upto L.length).filter fun x => !liveB L R Ro x
noncomputable def garV (L R Ro : List Int) : List Int := if HV L R Ro then gar L R Ro else []
theorem mem_gar {L R Ro : List Int} {x : Int} : x ∈ gar L R Ro ↔ (0 ≤ x ∧ x < L.length) ∧ ¬Live L R Ro x := by
  unfold gar
  rw [List.mem_filter, mem_upto, Bool.not_eq_true', ← Bool.not_eq_true, liveB_iff]
theorem gar_nodup {L R Ro : List Int} : (gar L R Ro).Nodup := (upto_nodup _).filter _
theorem gar_len {L R Ro : List Int} : (gar L R Ro).length ≤ L.length := by
  unfold gar
  exact Nat.le_trans (List.length_filter_le _ _) (by rw [upto_len]; exact Nat.le_refl _)
/-- Numbers are picked out, by a list of yes and no. -/
theorem garb_loop {β : Type} {K n : Nat} {p : Int → Bool} (L : Nat → Int → List Int → Option β) (κ : List Int → Option β) (hn : n ≤ 1000000) (hK : n < K)
    (hs : ∀ m (i : Nat) l, i < n → l.length ≤ i → L (m + 1) (i : Int) l = if p (i : Int) = true then L m ((i + 1 : Nat) : Int) (l ++ [(i : Int)]) else L m ((i + 1 : Nat) : Int) l) (he : ∀ m l, L (m + 1) (n : Int) l = κ l) : L K (0 : Int) [] = κ ((upto n).filter p) := by
  have := loop_st L (fun i => (upto i).filter p) n (κ ((upto n).filter p)) ?_ ?_ hK
  · exact this
  · intro m i hi
    have hl : ((upto i).filter p).length ≤ i := Nat.le_trans (List.length_filter_le _ _) (by rw [upto_len]; exact Nat.le_refl _)
    rw [hs m i _ hi hl, upto_succ, List.filter_append]
    by_cases c : p (i : Int) = true
    · rw [if_pos c]; simp [c]
    · rw [if_neg c]; simp [c]
  · intro m; exact he m _
theorem spec_GarbageOf_eq {K : Nat} {L R Ro : List Int} (hK : 20 < K) : spec_GarbageOf.f K L R Ro = some (garV L R Ro) := by
  unfold spec_GarbageOf.f garV
  rw [spec_Reachable_eq hK, b1_some]
  unfold livV
  by_cases h : HV L R Ro
  · rw [if_pos h, if_pos h]
    have h8 := h.2.1
    have hl := @liv_len L R Ro
    exact garb_loop (p := fun x => !liveB L R Ro x) (fun m p (l : List Int) => spec_GarbageOf.loop0 K (fun l3 => some l3) (liv L R Ro) m l p) some (n := L.length) (by omega) (by omega)
      (fun m i l hi hl2 => by
        show spec_GarbageOf.loop0 K _ _ (m + 1) l (i : Int) = _
        rw [spec_GarbageOf.loop0, if_pos (by omega), if_pos (by omega), w64_succ hi (by omega), rdb_liv (by omega) (by omega)]
        by_cases c : liveB L R Ro i = true
        · rw [if_pos c, if_neg (by simp [c])]
        · rw [if_neg c, if_pos (by simp; omega), if_pos (by simpa using c)])
      (fun m l => by
        show spec_GarbageOf.loop0 K _ _ (m + 1) l (L.length : Int) = _
        rw [spec_GarbageOf.loop0, if_neg (by omega)])
  · rw [if_neg h, if_neg h]
    obtain ⟨K, rfl⟩ : ∃ K', K = K' + 1 := ⟨K - 1, by omega⟩
    rw [spec_GarbageOf.loop0, if_neg (by simp)]
/-- Elements are picked out of a list. -/
theorem filt_loop {β : Type} {K : Nat} {xs : List Int} {p : Int → Bool} (L : Nat → Int → List Int → Option β) (κ : List Int → Option β) (hK : xs.length < K)
    (hs : ∀ m (i : Nat) l, i < xs.length → l.length ≤ i → L (m + 1) (i : Int) l = if p (rd xs i) = true then L m ((i + 1 : Nat) : Int) (l ++ [rd xs i]) else L m ((i + 1 : Nat) : Int) l) (he : ∀ m l, L (m + 1) (xs.length : Int) l = κ l) : L K (0 : Int) [] = κ (xs.filter p) := by
  have := loop_st L (fun i => (xs.take i).filter p) xs.length (κ (xs.filter p)) ?_ ?_ hK
  · simpa using this
  · intro m i hi
    have hl : ((xs.take i).filter p).length ≤ i := Nat.le_trans (List.length_filter_le _ _) (by rw [List.length_take]; omega)
    rw [hs m i _ hi hl, List.take_succ_eq_append_getElem hi, List.filter_append, rd_get hi]
    by_cases c : p xs[i] = true
    · rw [if_pos c]; simp [c]
    · rw [if_neg c]; simp [c]
  · intro m; rw [List.take_length]; exact he m _
noncomputable def leak (L R Ro F : List Int) : List Int := (gar L R Ro).filter fun x => !decide (x ∈ F)
noncomputable def leakV (L R Ro F : List Int) : List Int := if SV L R Ro F then leak L R Ro F else []
theorem mem_leak {L R Ro F : List Int} {x : Int} : x ∈ leak L R Ro F ↔ ((0 ≤ x ∧ x < L.length) ∧ ¬Live L R Ro x) ∧ x ∉ F := by
  unfold leak
  rw [List.mem_filter, mem_gar, Bool.not_eq_true', decide_eq_false_iff_not]
theorem leak_nodup {L R Ro F : List Int} : (leak L R Ro F).Nodup := gar_nodup.filter _
theorem leak_len {L R Ro F : List Int} : (leak L R Ro F).length ≤ L.length := Nat.le_trans (List.length_filter_le _ _) gar_len
theorem leakV_len {L R Ro F : List Int} : (leakV L R Ro F).length ≤ 8 := by
  unfold leakV
  split
  · rename_i h; exact Nat.le_trans leak_len h.1.2.1
  · simp
theorem spec_LeakedOf_eq {K : Nat} {L R Ro F : List Int} (hK : 20 < K) : spec_LeakedOf.f K L R Ro F = some (leakV L R Ro F) := by
  unfold spec_LeakedOf.f leakV
  rw [spec_StoreValid_eq (by omega), b1_some]
  by_cases h : SV L R Ro F
  · rw [if_pos (decide_eq_true h), if_pos h, spec_GarbageOf_eq hK, b1_some]
    unfold garV
    rw [if_pos h.1]
    have h8 := h.1.2.1
    have hf := h.len
    have hg := @gar_len L R Ro
    exact filt_loop (fun m p (l : List Int) => spec_LeakedOf.loop0 K (fun l3 => some l3) F (gar L R Ro) m l p) some (by omega)
      (fun m i l hi hl => by
        show spec_LeakedOf.loop0 K _ _ _ (m + 1) l (i : Int) = _
        rw [spec_LeakedOf.loop0, if_pos (by omega), if_pos (by omega), l4At_eq (by omega) (by omega), b1_some, w64_succ hi (by omega)]
        by_cases c : rd (gar L R Ro) i ∈ F
        · rw [if_neg (fun g => fi_neg.1 g c), if_neg (by simpa using c)]
        · rw [if_pos (fi_neg.2 c), if_pos (by simp; omega), if_pos (by simpa using c)])
      (fun m l => by
        show spec_LeakedOf.loop0 K _ _ _ (m + 1) l ((gar L R Ro).length : Int) = _
        rw [spec_LeakedOf.loop0, if_neg (by omega)])
  · rw [if_neg (by simpa using h), if_neg h]
/-! ### what is cleared -/
/-- A pointer row without the pointers to these, and without those of these. -/
def clr (cells : List Int) (xs : List Int) : List Int := (upto xs.length).map fun i => if rd xs i ∈ cells ∨ i ∈ cells then -1 else rd xs i
theorem clr_len {cells xs : List Int} : (clr cells xs).length = xs.length := by simp [clr, upto_len]
theorem rd_map_upto {n : Nat} {f : Int → Int} {x : Int} (h0 : 0 ≤ x) (h1 : x < n) : rd ((upto n).map f) x = f x := by
  have h : x.toNat < (upto n).length := by rw [upto_len]; omega
  have e : (upto n)[x.toNat]'h = x := by
    have := rd_upto (n := n) h0 h1
    unfold rd at this
    rwa [List.getD_eq_getElem?_getD, List.getElem?_eq_getElem h] at this
  unfold rd
  rw [List.getD_eq_getElem?_getD, List.getElem?_map, List.getElem?_eq_getElem h, e]
  rfl
theorem rd_clr {cells xs : List Int} {x : Int} (h0 : 0 ≤ x) (h1 : x < xs.length) : rd (clr cells xs) x = if rd xs x ∈ cells ∨ x ∈ cells then -1 else rd xs x := rd_map_upto h0 h1
theorem l4Clear_eq {K : Nat} {L R Ro F cells : List Int} (h : R.length = L.length) (h8 : L.length ≤ 8) (hRo : Ro.length ≤ 1000) (hF : F.length ≤ 1000) (hc : cells.length ≤ 1000) (hK : 1000 < K) : spec_l4Clear.f K L R Ro F cells = some (clr cells L, clr cells R, Ro, F ++ cells) := by
  unfold spec_l4Clear.f
  rw [l4Copy_eq (by omega) (by omega) (by omega) (by omega), b4_some]
  -- rows that are cleared up to i
  let up (i : Nat) (xs : List Int) : List Int := (upto xs.length).map fun j => if j < (i : Int) ∧ (rd xs j ∈ cells ∨ j ∈ cells) then -1 else rd xs j
  have up_len : ∀ i xs, (up i xs).length = xs.length := fun i xs => by simp [up, upto_len]
  have rd_up : ∀ i xs (x : Int), 0 ≤ x → x < xs.length → rd (up i xs) x = if x < (i : Int) ∧ (rd xs x ∈ cells ∨ x ∈ cells) then -1 else rd xs x := fun i xs x h0 h1 => rd_map_upto h0 h1
  have up0 : ∀ xs, up 0 xs = xs := fun xs => ext_rd (up_len _ _) fun i hi => by
    rw [rd_up 0 xs i (by omega) (by rw [up_len] at hi; omega), if_neg (by omega)]
  have upn : ∀ xs, up xs.length xs = clr cells xs := fun xs => ext_rd (by rw [up_len, clr_len]) fun i hi => by
    rw [up_len] at hi
    rw [rd_up _ xs i (by omega) (by omega), rd_clr (by omega) (by omega)]
    by_cases c : rd xs i ∈ cells ∨ (i : Int) ∈ cells
    · rw [if_pos ⟨by omega, c⟩, if_pos c]
    · rw [if_neg (fun g => c g.2), if_neg c]
  have up_yes : ∀ (i : Nat) xs, i < xs.length → (rd xs i ∈ cells ∨ (i : Int) ∈ cells) → (up i xs).set (i : Int).toNat (-1) = up (i + 1) xs := fun i xs hi hy => ext_rd (by rw [List.length_set, up_len, up_len]) fun j hj => by
    rw [List.length_set, up_len] at hj
    rw [rd_set (by omega) (by omega) (by rw [up_len]; omega), rd_up _ _ _ (by omega) (by omega), rd_up _ _ _ (by omega) (by omega)]
    by_cases c : (i : Int) = j
    · rw [if_pos c, ← c, if_pos ⟨by omega, hy⟩]
    · rw [if_neg c]
      by_cases c2 : (j : Int) < i ∧ (rd xs j ∈ cells ∨ (j : Int) ∈ cells)
      · rw [if_pos c2, if_pos ⟨by omega, c2.2⟩]
      · rw [if_neg c2, if_neg (fun g => c2 ⟨by omega, g.2⟩)]
  have up_no : ∀ (i : Nat) xs, i < xs.length → ¬(rd xs i ∈ cells ∨ (i : Int) ∈ cells) → up i xs = up (i + 1) xs := fun i xs hi hy => ext_rd (by rw [up_len, up_len]) fun j hj => by
    rw [up_len] at hj
    rw [rd_up _ _ _ (by omega) (by omega), rd_up _ _ _ (by omega) (by omega)]
    by_cases c : (i : Int) = j
    · rw [if_neg (by omega), ← c, if_neg (fun g => hy g.2)]
    · by_cases c2 : (j : Int) < i ∧ (rd xs j ∈ cells ∨ (j : Int) ∈ cells)
      · rw [if_pos c2, if_pos ⟨by omega, c2.2⟩]
      · rw [if_neg c2, if_neg (fun g => c2 ⟨by omega, g.2⟩)]
  have up_at : ∀ (i : Nat) xs, i < xs.length → rd (up i xs) i = rd xs i := fun i xs hi => by
    rw [rd_up _ _ _ (by omega) (by omega), if_neg (by omega)]
  have := loop_st (fun m p (s : List Int × List Int) => spec_l4Clear.loop0 K (fun l5 l6 => if F.length + cells.length ≤ 1099511627776 then some (l5, l6, Ro, (F ++ cells)) else none) cells m p s.1 s.2) (fun i => (up i L, up i R)) L.length (some (clr cells L, clr cells R, Ro, F ++ cells)) ?_ ?_ (K := K) (by omega)
  · simp only [up0] at this
    exact this
  · intro m i hi
    have c1 := up_len i L
    have c2 := up_len i R
    have a1 := up_at i L hi
    have a2 := up_at i R (by omega)
    have y1 := up_yes i L hi
    have y2 := up_yes i R (by omega)
    have n1 := up_no i L hi
    have n2 := up_no i R (by omega)
    have hat : ∀ x, spec_l4At.f K cells x = some (fi cells x) := fun x => l4At_eq (by omega) (by omega)
    simp only []
    rw [spec_l4Clear.loop0, if_pos (by omega), if_pos (by omega)]
    have hR : 0 ≤ (i : Int) ∧ (i : Int) < ((up i R).length : Int) := by omega
    simp only [hat, b1_some, ge_iff_le, fi_nonneg, a1, a2, hR, and_self, if_true]
    rw [w64_succ hi (by omega)]
    by_cases e1 : rd L i ∈ cells <;> by_cases e2 : rd R i ∈ cells <;> by_cases e3 : (i : Int) ∈ cells <;> simp only [e1, e2, e3, if_true, if_false]
    · rw [y1 (.inl e1), y2 (.inl e2)]
    · rw [y1 (.inl e1), y2 (.inl e2)]
    · rw [y1 (.inl e1), y2 (.inr e3)]
    · rw [y1 (.inl e1), n2 (fun g => g.elim e2 e3)]
    · rw [y1 (.inr e3), y2 (.inl e2)]
    · rw [n1 (fun g => g.elim e1 e3), y2 (.inl e2)]
    · rw [y1 (.inr e3), y2 (.inr e3)]
    · rw [n1 (fun g => g.elim e1 e3), n2 (fun g => g.elim e2 e3)]
  · intro m
    simp only []
    rw [spec_l4Clear.loop0, if_neg (by rw [up_len]; omega), if_pos (by omega), upn, show up L.length R = clr cells R by rw [← h]; exact upn R]
end Go.Proofs.YtnfaiojmabolmaaDoor.T
namespace Go.Proofs.YtnfaiojmabolmaaDoor.T
open Go Go.RowKit Go.Proofs.YtnfaiojmabolmaaDoor.S Go.Proofs.YtnfaiojmabolmaaDoor.F
set_option linter.unusedVariables false
set_option linter.unusedSimpArgs false
/-- Numbers from k on, as many as a list has. -/
def mk (k : Int) (xs : List Int) : List Int := (upto xs.length).map fun i => k + i
theorem mk_len {k : Int} {xs : List Int} : (mk k xs).length = xs.length := by simp [mk, upto_len]
theorem rd_map_upto' {n : Nat} {f : Int → Int} {x : Int} (h0 : 0 ≤ x) (h1 : x < n) : rd ((upto n).map f) x = f x := by
  have h : x.toNat < n := by omega
  unfold rd upto
  simp [h]
  congr 1; omega
theorem rd_mk {k x : Int} {xs : List Int} (h0 : 0 ≤ x) (h1 : x < xs.length) : rd (mk k xs) x = k + x := rd_map_upto' h0 h1
theorem markIntS_eq {K : Nat} {xs : List Int} {k : Int} (hK : xs.length < K) (hl : xs.length ≤ 1048576) (h0 : 0 ≤ k) (h1 : k ≤ 1099511627776) : laws_markIntS.f K xs k = some (k + xs.length, mk k xs) := by
  unfold laws_markIntS.f
  let up (i : Nat) : List Int := (upto xs.length).map fun j => if j < (i : Int) then k + j else rd xs j
  have up_len : ∀ i, (up i).length = xs.length := fun i => by simp [up, upto_len]
  have rd_up : ∀ i (x : Int), 0 ≤ x → x < xs.length → rd (up i) x = if x < (i : Int) then k + x else rd xs x := fun i x h0 h1 => rd_map_upto' h0 h1
  have up0 : up 0 = xs := ext_rd (up_len _) fun i hi => by
    rw [rd_up 0 i (by omega) (by rw [up_len] at hi; omega), if_neg (by omega)]
  have upn : up xs.length = mk k xs := ext_rd (by rw [up_len, mk_len]) fun i hi => by
    rw [up_len] at hi
    rw [rd_up _ i (by omega) (by omega), rd_mk (by omega) (by omega), if_pos (by omega)]
  have := loop_st (fun m p (s : Int × List Int) => laws_markIntS.loop0 K (fun p5 l3 => some (p5, l3)) m s.1 p s.2) (fun i => (k + i, up i)) xs.length (some (k + xs.length, mk k xs)) ?_ ?_ hK
  · simp only [up0] at this
    rw [show k + ((0 : Nat) : Int) = k by simp] at this
    exact this
  · intro m i hi
    simp only []
    rw [laws_markIntS.loop0, if_pos (by rw [up_len]; omega), if_pos (by rw [up_len]; omega), w64 (x := k + i + 1) (by omega) (by omega), w64_succ hi (by omega), show k + (i : Int) + 1 = k + ((i + 1 : Nat) : Int) by omega]
    congr 1
    refine ext_rd (by rw [List.length_set, up_len, up_len]) fun j hj => ?_
    rw [List.length_set, up_len] at hj
    rw [rd_set (by omega) (by omega) (by rw [up_len]; omega), rd_up _ _ (by omega) (by omega), rd_up _ _ (by omega) (by omega)]
    by_cases c : (i : Int) = j
    · rw [if_pos c, if_pos (by omega)]; omega
    · rw [if_neg c]
      by_cases c2 : (j : Int) < i
      · rw [if_pos c2, if_pos (by omega)]
      · rw [if_neg c2, if_neg (by omega)]
  · intro m
    simp only []
    rw [laws_markIntS.loop0, if_neg (by rw [up_len]; omega), upn]
theorem heldIntS_eq {K : Nat} {xs : List Int} {k : Int} (hK : xs.length < K) (hl : xs.length ≤ 1048576) (h0 : 0 ≤ k) (h1 : k ≤ 1099511627776) : laws_heldIntS.f K (mk k xs) k = some (k + xs.length) := by
  unfold laws_heldIntS.f
  have := loop_st (fun m p (s : Int) => laws_heldIntS.loop0 K (fun p5 => some p5) (mk k xs) m s p) (fun i => k + i) xs.length (some (k + xs.length)) ?_ ?_ hK
  · simpa using this
  · intro m i hi
    show laws_heldIntS.loop0 K _ (mk k xs) (m + 1) (k + (i : Int)) (i : Int) = laws_heldIntS.loop0 K _ (mk k xs) m (k + ((i + 1 : Nat) : Int)) ((i + 1 : Nat) : Int)
    rw [laws_heldIntS.loop0, if_pos (by rw [mk_len]; omega), if_pos (by rw [mk_len]; omega), rd_mk (by omega) (by omega), if_pos rfl, w64 (x := k + i + 1) (by omega) (by omega), w64_succ hi (by omega), show k + (i : Int) + 1 = k + ((i + 1 : Nat) : Int) by omega]
  · intro m
    show laws_heldIntS.loop0 K _ (mk k xs) (m + 1) (k + (xs.length : Int)) (xs.length : Int) = _
    rw [laws_heldIntS.loop0, if_neg (by rw [mk_len]; omega)]
/-- It fits. -/
def Fit (K : Nat) (xs : List Int) : Prop := xs.length < K ∧ xs.length ≤ 1048576
theorem markHeap_eq {K : Nat} {L R Ro : List Int} {k : Int} (hL : Fit K L) (hR : Fit K R) (hRo : Fit K Ro) (h0 : 0 ≤ k) (h1 : k ≤ 1099500000000) : laws_markHeap.f K L R Ro k = some (k + L.length + R.length + Ro.length, mk k L, mk (k + L.length) R, mk (k + L.length + R.length) Ro) := by
  obtain ⟨a, a'⟩ := hL; obtain ⟨b, b'⟩ := hR; obtain ⟨c, c'⟩ := hRo
  unfold laws_markHeap.f
  rw [markIntS_eq a a' h0 (by omega), b2_some, markIntS_eq b b' (by omega) (by omega), b2_some, markIntS_eq c c' (by omega) (by omega), b2_some]
theorem heldHeap_eq {K : Nat} {L R Ro : List Int} {k : Int} (hL : Fit K L) (hR : Fit K R) (hRo : Fit K Ro) (h0 : 0 ≤ k) (h1 : k ≤ 1099500000000) : laws_heldHeap.f K (mk k L) (mk (k + L.length) R) (mk (k + L.length + R.length) Ro) k = some (k + L.length + R.length + Ro.length) := by
  obtain ⟨a, a'⟩ := hL; obtain ⟨b, b'⟩ := hR; obtain ⟨c, c'⟩ := hRo
  unfold laws_heldHeap.f
  rw [heldIntS_eq a a' h0 (by omega), b1_some, if_neg (by omega), heldIntS_eq b b' (by omega) (by omega), b1_some, if_neg (by omega), heldIntS_eq c c' (by omega) (by omega), b1_some, if_neg (by omega)]
theorem markStore_eq {K : Nat} {L R Ro F : List Int} {k : Int} (hL : Fit K L) (hR : Fit K R) (hRo : Fit K Ro) (hF : Fit K F) (h0 : 0 ≤ k) (h1 : k ≤ 1099400000000) : laws_markStore.f K L R Ro F k = some (k + L.length + R.length + Ro.length + F.length, mk k L, mk (k + L.length) R, mk (k + L.length + R.length) Ro, mk (k + L.length + R.length + Ro.length) F) := by
  unfold laws_markStore.f
  rw [markHeap_eq hL hR hRo h0 (by omega), b4_some]
  obtain ⟨a, a'⟩ := hL; obtain ⟨b, b'⟩ := hR; obtain ⟨c, c'⟩ := hRo; obtain ⟨d, d'⟩ := hF
  rw [markIntS_eq d d' (by omega) (by omega), b2_some]
theorem heldStore_eq {K : Nat} {L R Ro F : List Int} {k : Int} (hL : Fit K L) (hR : Fit K R) (hRo : Fit K Ro) (hF : Fit K F) (h0 : 0 ≤ k) (h1 : k ≤ 1099400000000) : laws_heldStore.f K (mk k L) (mk (k + L.length) R) (mk (k + L.length + R.length) Ro) (mk (k + L.length + R.length + Ro.length) F) k = some (k + L.length + R.length + Ro.length + F.length) := by
  unfold laws_heldStore.f
  rw [heldHeap_eq hL hR hRo h0 (by omega), b1_some]
  obtain ⟨a, a'⟩ := hL; obtain ⟨b, b'⟩ := hR; obtain ⟨c, c'⟩ := hRo; obtain ⟨d, d'⟩ := hF
  rw [if_neg (by omega), heldIntS_eq d d' (by omega) (by omega), b1_some, if_neg (by omega)]
theorem Fit.mk {K : Nat} {k : Int} {xs : List Int} (h : Fit K xs) : Fit K (mk k xs) := by unfold Fit; rw [mk_len]; exact h
end Go.Proofs.YtnfaiojmabolmaaDoor.T
