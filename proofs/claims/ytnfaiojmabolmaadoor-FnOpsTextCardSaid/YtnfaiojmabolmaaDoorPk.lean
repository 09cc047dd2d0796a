/- Pure theorems of drawn heaps and stores: they never fail, and what they give is valid, or short. -/
import Derived.Test.YtnfaiojmabolmaaDoorPd
import Derived.Test.YtnfaiojmabolmaaDoorPi
namespace Go.Proofs.YtnfaiojmabolmaaDoor.T
open Go Go.RowKit Go.Proofs.YtnfaiojmabolmaaDoor.S Go.Proofs.YtnfaiojmabolmaaDoor.F
set_option linter.unusedVariables false
set_option linter.unusedSimpArgs false
theorem Src.at {xs : List Int} {p p' : Int} (h : Src xs p) (h0 : 0 ≤ p') (h1 : p' ≤ 1000000000000) : Src xs p' := ⟨h.1, h.2.1, h0, h1⟩
theorem rd_set_self {xs : List Int} {i v : Int} (hi : 0 ≤ i) (hl : i < xs.length) : rd (xs.set i.toNat v) i = v := by
  rw [rd_set hi hi hl, if_pos rfl]
theorem set_rng {xs : List Int} {i v n : Int} (h : ∀ x ∈ xs, -1 ≤ x ∧ x < n) (hv : -1 ≤ v ∧ v < n) : ∀ x ∈ xs.set i.toNat v, -1 ≤ x ∧ x < n := by
  intro x hx
  rcases mem_set_of hx with rfl | hx
  · exact hv
  · exact h x hx
theorem l1Draw_ex {K : Nat} {xs : List Int} {p : Int} (h : Src xs p) (hp : p ≤ 1000000000) (hK : 8 < K) : ∃ L R Ro p', spec_l1Draw.f K xs p = some (L, R, Ro, p') ∧ HV L R Ro ∧ p ≤ p' ∧ p' ≤ p + 40 := by
  have hp0 := h.2.2.1
  unfold spec_l1Draw.f
  obtain ⟨n, e1, m1⟩ := num_ex (K := K) (l := [4, 3, 5, 6, 2, 8, 1]) h (by simp) (by simp)
  rw [e1, b2_some]
  obtain ⟨r, e2, m2⟩ := num_ex (K := K) (l := [2, 1, 3]) (h.at (p' := p + 1) (by omega) (by omega)) (by simp) (by simp)
  rw [e2, b2_some]
  simp only [List.mem_cons, List.not_mem_nil, or_false] at m1 m2
  rw [spec_NewHeap_eq hK]
  unfold nH
  rw [if_pos (by omega), b4_some]
  have n0 : 1 ≤ n := by omega
  have n8 : n ≤ 8 := by omega
  have r0 : 1 ≤ r := by omega
  have r3 : r ≤ 3 := by omega
  clear m1 m2 e1 e2
  have rep : ∀ (k : Nat), ∀ x ∈ List.replicate k (-1 : Int), -1 ≤ x ∧ x < n := fun k x hx => by have := List.eq_of_mem_replicate hx; omega
  -- the roots
  have lo1 : ∀ (L R : List Int) (q : Int), p ≤ q → q ≤ p + 20 → ∃ Ro p', spec_l1Draw.loop1 K (fun p10 l9 => some (L, R, l9, p10)) xs n K (0:Int) q (List.replicate r.toNat (-1)) = some (L, R, Ro, p') ∧ Ro.length = r.toNat ∧ (∀ x ∈ Ro, -1 ≤ x ∧ x < n) ∧ p ≤ p' ∧ p' ≤ p + 40 := by
    intro L R q hq hq2
    have := loop_ex (fun m i (s : Int × List Int) => spec_l1Draw.loop1 K (fun p10 l9 => some (L, R, l9, p10)) xs n m i s.1 s.2) (fun i s => s.1 = q + i ∧ s.2.length = r.toNat ∧ ∀ x ∈ s.2, -1 ≤ x ∧ x < n) r.toNat (fun s => some (L, R, s.2, s.1)) ?_ ?_ (K := K) (by omega) (a := (q, List.replicate r.toNat (-1))) ⟨by simp, by simp, rep _⟩
    · obtain ⟨⟨q', Ro⟩, ⟨h1, h2, h3⟩, e⟩ := this
      simp only [] at h1 h2 h3
      exact ⟨Ro, q', e, h2, h3, by omega, by omega⟩
    · rintro m i ⟨q', Ro⟩ hi ⟨h1, h2, h3⟩
      simp only [] at h1 h2 h3 ⊢
      rw [spec_l1Draw.loop1, if_pos (by omega)]
      rw [w64 (x := n + 1) (by omega) (by omega)]
      obtain ⟨v, ev, v0, v1, _⟩ := pick_ex (K := K) (n := n + 1) (h.at (p' := q') (by omega) (by omega)) (by omega)
      have v1 := v1 (by omega)
      rw [ev, b2_some, if_pos (by omega), w64_succ hi (by omega), w64 (x := v - 1) (by omega) (by omega)]
      exact ⟨(q' + 1, Ro.set (i : Int).toNat (v - 1)), ⟨by show q' + 1 = q + ((i + 1 : Nat) : Int); omega, by simpa using h2, set_rng h3 (by omega)⟩, rfl⟩
    · rintro m ⟨q', Ro⟩ ⟨h1, h2, h3⟩
      simp only [] at h1 h2 h3 ⊢
      rw [spec_l1Draw.loop1, if_neg (by omega)]
  -- the cells
  have := loop_ex (fun m i (s : Int × List Int × List Int) => spec_l1Draw.loop0 K (fun p5 l5 l6 => spec_l1Draw.loop1 K (fun p10 l9 => some (l5, l6, l9, p10)) xs n K (0:Int) p5 (List.replicate r.toNat (-1))) xs n m i s.1 s.2.1 s.2.2) (fun i s => s.1 = p + 2 + 2 * i ∧ (s.2.1.length = n.toNat ∧ ∀ x ∈ s.2.1, -1 ≤ x ∧ x < n) ∧ (s.2.2.length = n.toNat ∧ ∀ x ∈ s.2.2, -1 ≤ x ∧ x < n)) n.toNat (fun s => spec_l1Draw.loop1 K (fun p10 l9 => some (s.2.1, s.2.2, l9, p10)) xs n K (0:Int) s.1 (List.replicate r.toNat (-1))) ?_ ?_ (K := K) (by omega) (a := (p + 1 + 1, List.replicate n.toNat (-1), List.replicate n.toNat (-1))) ⟨by simp; omega, ⟨by simp, rep _⟩, ⟨by simp, rep _⟩⟩
  · obtain ⟨⟨q', L, R⟩, ⟨h1, ⟨h2, h3⟩, ⟨h4, h5⟩⟩, e⟩ := this
    simp only [] at h1 h2 h3 h4 h5 e
    obtain ⟨Ro, p', e', h6, h7, h8, h9⟩ := lo1 L R q' (by omega) (by omega)
    refine ⟨L, R, Ro, p', e.trans e', ⟨by omega, by omega, by omega, by omega, by omega, ?_, ?_, ?_⟩, h8, h9⟩
    all_goals rw [show ((L.length : Nat) : Int) = n by omega]; assumption
  · rintro m i ⟨q', L, R⟩ hi ⟨h1, ⟨h2, h3⟩, ⟨h4, h5⟩⟩
    simp only [] at h1 h2 h3 h4 h5 ⊢
    rw [spec_l1Draw.loop0, if_pos (by omega), w64 (x := n + 2) (by omega) (by omega)]
    obtain ⟨v, ev, v0, v1, _⟩ := pick_ex (K := K) (n := n + 2) (h.at (p' := q') (by omega) (by omega)) (by omega)
    obtain ⟨u, eu, u0, u1, _⟩ := pick_ex (K := K) (n := n + 2) (h.at (p' := q' + 1) (by omega) (by omega)) (by omega)
    have v1 := v1 (by omega)
    have u1 := u1 (by omega)
    have s1 : ∀ y, (L.set (i : Int).toNat y).length = L.length := fun y => by simp
    have s2 : ∀ y, (R.set (i : Int).toNat y).length = R.length := fun y => by simp
    rw [ev, b2_some, if_pos (by omega), eu, b2_some, if_pos (by omega), w64 (x := v - 1) (by omega) (by omega), w64 (x := u - 2) (by omega) (by omega), w64_succ hi (by omega), s1, s2, if_pos (by omega)]
    rw [rd_set_self (by omega) (by omega), rd_set_self (by omega) (by omega)]
    have ss : ∀ (xs : List Int) (a b : Int), (xs.set (i : Int).toNat a).set (i : Int).toNat b = xs.set (i : Int).toNat b := fun xs a b => by simp
    rw [ss, ss]
    have hb : 0 ≤ (i : Int) ∧ (i : Int) < (R.length : Int) := by omega
    simp only [hb, and_self, if_true]
    have fin : ∀ a b : Int, (-1 ≤ a ∧ a < n) → (-1 ≤ b ∧ b < n) → ∃ a' : Int × List Int × List Int, (a'.1 = p + 2 + 2 * ((i + 1 : Nat) : Int) ∧ (a'.2.1.length = n.toNat ∧ ∀ x ∈ a'.2.1, -1 ≤ x ∧ x < n) ∧ a'.2.2.length = n.toNat ∧ ∀ x ∈ a'.2.2, -1 ≤ x ∧ x < n) ∧
        spec_l1Draw.loop0 K (fun p5 l5 l6 => spec_l1Draw.loop1 K (fun p10 l9 => some (l5, l6, l9, p10)) xs n K (0:Int) p5 (List.replicate r.toNat (-1))) xs n m ((i + 1 : Nat) : Int) (q' + 1 + 1) (L.set (i : Int).toNat a) (R.set (i : Int).toNat b) = spec_l1Draw.loop0 K (fun p5 l5 l6 => spec_l1Draw.loop1 K (fun p10 l9 => some (l5, l6, l9, p10)) xs n K (0:Int) p5 (List.replicate r.toNat (-1))) xs n m ((i + 1 : Nat) : Int) a'.1 a'.2.1 a'.2.2 := fun a b ha hb =>
      ⟨(q' + 1 + 1, L.set (i : Int).toNat a, R.set (i : Int).toNat b), ⟨by show q' + 1 + 1 = _; omega, ⟨by simpa using h2, set_rng h3 ha⟩, by simpa using h4, set_rng h5 hb⟩, rfl⟩
    by_cases c1 : v - 1 ≥ n <;> by_cases c2 : u - 2 < -1
    · rw [if_pos c1, if_pos c2]; exact fin _ _ (by omega) (by omega)
    · rw [if_pos c1, if_neg c2]; exact fin _ _ (by omega) (by omega)
    · rw [if_neg c1, if_pos c2]; exact fin _ _ (by omega) (by omega)
    · rw [if_neg c1, if_neg c2]; exact fin _ _ (by omega) (by omega)
  · rintro m ⟨q', L, R⟩ ⟨h1, ⟨h2, h3⟩, ⟨h4, h5⟩⟩
    simp only [] at h1 h2 h3 h4 h5 ⊢
    rw [spec_l1Draw.loop0, if_neg (by omega)]
/-- Lists of a heap that is valid or nearly so. -/
def Short (n : Nat) (L R Ro F : List Int) : Prop := 1 ≤ L.length ∧ L.length ≤ n ∧ R.length ≤ n ∧ Ro.length ≤ n ∧ F.length ≤ n
theorem Short.up {n m : Nat} {L R Ro F : List Int} (h : Short n L R Ro F) (hm : n ≤ m) : Short m L R Ro F := by unfold Short at *; omega
theorem HV.short {L R Ro : List Int} (h : HV L R Ro) : Short 8 L R Ro [] := by
  have := h.1; have := h.2.1; have := h.2.2.1; have := h.2.2.2.1; have := h.2.2.2.2.1
  unfold Short; simp; omega
theorem SV.short {L R Ro F : List Int} (h : SV L R Ro F) : Short 8 L R Ro F := by
  have := h.1.short; have := h.len
  have := h.1.2.1
  unfold Short at *; omega
theorem l1Wrong_ex {K n : Nat} {xs L R Ro F : List Int} {p : Int} (h : Src xs p) (hp : p ≤ 1000000000) (hs : Short n L R Ro F) (hn : n ≤ 1000000) : ∃ L' R' Ro' p', spec_l1Wrong.f K xs p L R Ro = some (L', R', Ro', p') ∧ Short (n + 1) L' R' Ro' F ∧ p ≤ p' ∧ p' ≤ p + 3 := by
  have hp0 := h.2.2.1
  unfold Short at hs
  unfold spec_l1Wrong.f
  rw [l1Copy_eq (by omega) (by omega) (by omega), b3_some]
  obtain ⟨k, ek, k0, k1, _⟩ := pick_ex (K := K) (n := 20) h (by omega)
  rw [ek, b2_some]
  have h1 := h.at (p' := p + 1) (by omega) (by omega)
  have h2 := h.at (p' := p + 1 + 1) (by omega) (by omega)
  split
  · obtain ⟨v, ev, v0, v1, _⟩ := pick_ex (K := K) (n := L.length) h1 (by omega)
    obtain ⟨u, eu, _⟩ := num_ex (K := K) (l := [-2, 8, 0]) h2 (by simp) (by simp)
    rw [ev, b2_some, eu, b2_some, if_pos ⟨v0, v1 (by omega)⟩]
    exact ⟨_, _, _, _, rfl, by unfold Short; rw [List.length_set]; omega, by omega, by omega⟩
  · split
    · rw [if_pos (by simp; omega)]
      exact ⟨_, _, _, _, rfl, by unfold Short; rw [List.length_append, List.length_singleton]; omega, by omega, by omega⟩
    · split
      · obtain ⟨u, eu, _⟩ := num_ex (K := K) (l := [0, -1, 9]) h1 (by simp) (by simp)
        rw [eu, b2_some, if_pos (by simp; omega)]
        exact ⟨_, _, _, _, rfl, by unfold Short; rw [List.length_append, List.length_singleton]; omega, by omega, by omega⟩
      · split
        · exact ⟨_, _, _, _, rfl, by unfold Short; simp; omega, by omega, by omega⟩
        · exact ⟨_, _, _, _, rfl, by unfold Short; omega, by omega, by omega⟩
theorem l4Wrong_ex {K n : Nat} {xs L R Ro F : List Int} {p : Int} (h : Src xs p) (hp : p ≤ 100000000) (hs : Short n L R Ro F) (hn : n ≤ 100000) : ∃ L' R' Ro' F' p', spec_l4Wrong.f K xs p L R Ro F = some (L', R', Ro', F', p') ∧ Short (n + 2) L' R' Ro' F' ∧ p ≤ p' ∧ p' ≤ p + 10 := by
  have hp0 := h.2.2.1
  have hs' := hs
  unfold Short at hs
  unfold spec_l4Wrong.f
  rw [l4Copy_eq (by omega) (by omega) (by omega) (by omega), b4_some]
  obtain ⟨k, ek, k0, k1, _⟩ := pick_ex (K := K) (n := 20) h (by omega)
  rw [ek, b2_some]
  have h1 := h.at (p' := p + 1) (by omega) (by omega)
  split
  · obtain ⟨u, eu, _⟩ := num_ex (K := K) (l := [0, 1, 8, -1]) h1 (by simp) (by simp)
    rw [eu, b2_some, if_pos (by simp; omega)]
    exact ⟨_, _, _, _, _, rfl, by unfold Short; rw [List.length_append, List.length_singleton]; omega, by omega, by omega⟩
  · split
    · obtain ⟨L1, R1, Ro1, p1, e1, s1, a1, b1'⟩ := l1Wrong_ex (K := K) h1 (by omega) hs' (by omega)
      obtain ⟨L2, R2, Ro2, p2, e2, s2, a2, b2'⟩ := l1Wrong_ex (K := K) (h.at (p' := p1) (by omega) (by omega)) (by omega) s1 (by omega)
      rw [e1, b4_some, e2, b4_some]
      exact ⟨_, _, _, _, _, rfl, s2, by omega, by omega⟩
    · exact ⟨_, _, _, _, _, rfl, hs'.up (by omega), by omega, by omega⟩
/-- A step of a drawn store keeps it valid. -/
theorem SV.put {L R Ro F : List Int} (h : SV L R Ro F) {a b : Int} (ha : a ∈ Ro) (hb : b ∈ Ro) (h0 : a ≠ -1) : SV (L.set a.toNat b) R Ro F ∧ SV L (R.set a.toNat b) Ro F := by
  have hR := h.1.2.2.1
  have ra := h.1.2.2.2.2.2.2.2 a ha
  have rb := h.1.2.2.2.2.2.2.2 b hb
  refine ⟨⟨h.1.setL rb, h.2.1, fun x hx => ?_⟩, ⟨h.1.setR rb, h.2.1, fun x hx => ?_⟩⟩
  · have hf := h.2.2 x hx
    refine ⟨hf.1, by rw [List.length_set]; exact hf.2.1, ?_, hf.2.2.2.1, fun g => ?_, hf.2.2.2.2.2⟩
    · rw [rd_set (by omega) hf.1 (by omega), if_neg]
      · exact hf.2.2.1
      · rintro rfl; exact hf.2.2.2.2.2.2 ha
    · rcases mem_set_of g with rfl | g
      · exact hf.2.2.2.2.2.2 hb
      · exact hf.2.2.2.2.1 g
  · have hf := h.2.2 x hx
    refine ⟨hf.1, hf.2.1, hf.2.2.1, ?_, hf.2.2.2.2.1, fun g => ?_, hf.2.2.2.2.2.2⟩
    · rw [rd_set (by omega) hf.1 (by omega), if_neg]
      · exact hf.2.2.2.1
      · rintro rfl; exact hf.2.2.2.2.2.2 ha
    · rcases mem_set_of g with rfl | g
      · exact hf.2.2.2.2.2.2 hb
      · exact hf.2.2.2.2.2.1 g
theorem SV.root {L R Ro F : List Int} (h : SV L R Ro F) {r v : Int} (hv : -1 ≤ v ∧ v < L.length) (hF : v ∉ F) : SV L R (Ro.set r.toNat v) F := by
  refine ⟨h.1.setRo hv, h.2.1, fun x hx => ?_⟩
  have hf := h.2.2 x hx
  refine ⟨hf.1, hf.2.1, hf.2.2.1, hf.2.2.2.1, hf.2.2.2.2.1, hf.2.2.2.2.2.1, fun g => ?_⟩
  rcases mem_set_of g with rfl | g
  · exact hF hx
  · exact hf.2.2.2.2.2.2 g
theorem l4Draw_ex {K : Nat} {xs : List Int} {p : Int} (h : Src xs p) (hp : p ≤ 100000000) (hK : 20 < K) : ∃ L R Ro F p', spec_l4Draw.f K xs p = some (L, R, Ro, F, p') ∧ SV L R Ro F ∧ p ≤ p' ∧ p' ≤ p + 60 := by
  have hp0 := h.2.2.1
  unfold spec_l4Draw.f
  obtain ⟨n, e1, m1⟩ := num_ex (K := K) (l := [4, 3, 5, 6, 2, 8]) h (by simp) (by simp)
  rw [e1, b2_some]
  obtain ⟨r, e2, m2⟩ := num_ex (K := K) (l := [2, 1, 3]) (h.at (p' := p + 1) (by omega) (by omega)) (by simp) (by simp)
  rw [e2, b2_some]
  simp only [List.mem_cons, List.not_mem_nil, or_false] at m1 m2
  rw [spec_NewStore_eq (by omega)]
  have hnr : 1 ≤ n ∧ n ≤ 8 ∧ 1 ≤ r ∧ r ≤ 3 := by omega
  have hsv := nS_sv hnr
  unfold nS
  rw [if_pos hnr, b5_some]
  obtain ⟨t, e3, m3⟩ := num_ex (K := K) (l := [5, 3, 8, 2, 0, 12]) (h.at (p' := p + 1 + 1) (by omega) (by omega)) (by simp) (by simp)
  rw [e3, b2_some]
  simp only [List.mem_cons, List.not_mem_nil, or_false] at m3
  have t0 : 0 ≤ t := by omega
  have t12 : t ≤ 12 := by omega
  clear m1 m2 m3 e1 e2 e3
  have key := loop_mu (fun m (s : Int × Int × List Int × List Int × List Int × List Int) => spec_l4Draw.loop0 K (fun l9 l10 l11 l12 p5 => some (l9, l10, l11, l12, p5)) xs m s.1 s.2.1 s.2.2.1 s.2.2.2.1 s.2.2.2.2.1 s.2.2.2.2.2)
    (fun s => SV s.2.2.1 s.2.2.2.1 s.2.2.2.2.1 s.2.2.2.2.2 ∧ 0 ≤ s.1 ∧ s.1 ≤ t ∧ s.2.1 = p + 3 + 3 * (t - s.1)) (fun s => s.1.toNat) (fun _ => True) (fun s => some (s.2.2.1, s.2.2.2.1, s.2.2.2.2.1, s.2.2.2.2.2, s.2.1)) ?_ (K := K)
    (a := (t, p + 1 + 1 + 1, List.replicate n.toNat (-1), List.replicate n.toNat (-1), List.replicate r.toNat (-1), upto n.toNat)) ⟨hsv, t0, Int.le_refl _, by show p + 1 + 1 + 1 = p + 3 + 3 * (t - t); omega⟩ (by show t.toNat < K; omega)
  · obtain ⟨⟨i, q, L, R, Ro, F⟩, ⟨h1, h2, h3, h4⟩, _, e⟩ := key
    simp only [] at h1 h2 h3 h4 e
    exact ⟨L, R, Ro, F, q, e, h1, by omega, by omega⟩
  · rintro m ⟨i, q, L, R, Ro, F⟩ ⟨h1, h2, h3, h4⟩
    simp only [] at h1 h2 h3 h4 ⊢
    by_cases c : i > 0
    · left
      rw [spec_l4Draw.loop0, if_pos c]
      have hro := h1.1.2.2.2.1
      have hro3 := h1.1.2.2.2.2.1
      have hn8 := h1.1.2.1
      obtain ⟨k, ek, k0, k1, _⟩ := pick_ex (K := K) (n := Ro.length) (h.at (p' := q) (by omega) (by omega)) (by omega)
      obtain ⟨u, eu, u0, u1, _⟩ := pick_ex (K := K) (n := Ro.length) (h.at (p' := q + 1) (by omega) (by omega)) (by omega)
      obtain ⟨w, ew, w0, w1, _⟩ := pick_ex (K := K) (n := 5) (h.at (p' := q + 1 + 1) (by omega) (by omega)) (by omega)
      have k1 := k1 (by omega)
      have u1 := u1 (by omega)
      rw [ek, b2_some, eu, b2_some, if_pos ⟨k0, k1⟩, if_pos ⟨u0, u1⟩, ew, b2_some, spec_AllocCell_eq (by omega)]
      have ma := rd_mem k0 k1
      have mb := rd_mem u0 u1
      have ra := h1.1.rdRo k0 k1
      have rb := h1.1.rdRo u0 u1
      rw [w64 (x := i - 1) (by omega) (by omega)]
      have fin : ∀ L' R' Ro' F', SV L' R' Ro' F' → ∃ a' : Int × Int × List Int × List Int × List Int × List Int, (SV a'.2.2.1 a'.2.2.2.1 a'.2.2.2.2.1 a'.2.2.2.2.2 ∧ 0 ≤ a'.1 ∧ a'.1 ≤ t ∧ a'.2.1 = p + 3 + 3 * (t - a'.1)) ∧ a'.1.toNat < i.toNat ∧
          spec_l4Draw.loop0 K (fun l9 l10 l11 l12 p5 => some (l9, l10, l11, l12, p5)) xs m (i - 1) (q + 1 + 1 + 1) L' R' Ro' F' = spec_l4Draw.loop0 K (fun l9 l10 l11 l12 p5 => some (l9, l10, l11, l12, p5)) xs m a'.1 a'.2.1 a'.2.2.1 a'.2.2.2.1 a'.2.2.2.2.1 a'.2.2.2.2.2 :=
        fun L' R' Ro' F' hs => ⟨(i - 1, q + 1 + 1 + 1, L', R', Ro', F'), ⟨hs, by show 0 ≤ i - 1; omega, by show i - 1 ≤ t; omega, by show q + 1 + 1 + 1 = p + 3 + 3 * (t - (i - 1)); omega⟩, by show (i - 1).toNat < i.toNat; omega, rfl⟩
      have tk : ∀ (f : List Int → List Int → List Int → List Int → Int → Bool → Option (List Int × List Int × List Int × List Int × Int)), (takeV L R Ro F k = (L, R, Ro.set k.toNat (rd F 0), F.drop 1, rd F 0, true) ∧ SV L R (Ro.set k.toNat (rd F 0)) (F.drop 1)) ∨ takeV L R Ro F k = ([], [], [], [], 0, false) := by
        intro _
        unfold takeV
        by_cases g : SV L R Ro F ∧ 0 ≤ k ∧ k < Ro.length ∧ F ≠ []
        · rw [if_pos g]; exact .inl ⟨rfl, h1.take k0 k1 g.2.2.2⟩
        · rw [if_neg g]; exact .inr rfl
      have tk := tk (fun _ _ _ _ _ _ => none)
      split
      · rcases tk with ⟨et, hs⟩ | et
        · rw [et, b6_some, if_pos rfl]; exact fin _ _ _ _ hs
        · rw [et, b6_some, if_neg (by simp)]; exact fin _ _ _ _ h1
      · split
        · rcases tk with ⟨et, hs⟩ | et
          · rw [et, b6_some, if_pos rfl]; exact fin _ _ _ _ hs
          · rw [et, b6_some, if_neg (by simp)]; exact fin _ _ _ _ h1
        · split
          · split
            · exact fin _ _ _ _ h1
            · rename_i g
              rw [if_pos (by omega)]; exact fin _ _ _ _ (h1.put ma mb g).1
          · split
            · split
              · exact fin _ _ _ _ h1
              · rename_i g
                rw [if_pos (by have := h1.1.2.2.1; omega)]; exact fin _ _ _ _ (h1.put ma mb g).2
            · split
              · exact fin _ _ _ _ h1
              · rename_i g
                have hb : 0 ≤ rd Ro u ∧ rd Ro u < L.length := by omega
                rw [if_pos hb]
                refine fin _ _ _ _ (h1.root (h1.1.rdL hb.1 hb.2) fun hm => ?_)
                exact (h1.2.2 _ hm).2.2.2.2.1 (rd_mem hb.1 hb.2)
    · right
      rw [spec_l4Draw.loop0, if_neg c]
      exact ⟨trivial, rfl⟩
end Go.Proofs.YtnfaiojmabolmaaDoor.T
