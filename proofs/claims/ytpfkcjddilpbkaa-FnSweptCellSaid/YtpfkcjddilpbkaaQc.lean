/- Pure theorems of drawn markers: FnGcSame, FnSweptCell. -/
import Derived.Test.YtpfkcjddilpbkaaQb
import Derived.Test.YtpfkcjddilpbkaaFj
namespace Go.Proofs.Ytpfkcjddilpbkaa.T
open Go Go.RowKit Go.Proofs.Ytpfkcjddilpbkaa.S Go.Proofs.Ytpfkcjddilpbkaa.F
set_option linter.unusedVariables false
set_option linter.unusedSimpArgs false
theorem b8_some {α1 α2 α3 α4 α5 α6 α7 α8 β : Type} (a1 : α1) (a2 : α2) (a3 : α3) (a4 : α4) (a5 : α5) (a6 : α6) (a7 : α7) (a8 : α8) (f : α1 → α2 → α3 → α4 → α5 → α6 → α7 → α8 → Option β) : b8 (some (a1, a2, a3, a4, a5, a6, a7, a8)) f = f a1 a2 a3 a4 a5 a6 a7 a8 := rfl
theorem l6Next_eq {K : Nat} {ph n to l : Int} (h0 : 0 ≤ n) (h1 : n ≤ 1000) : spec_l6Next.f K ph n l to = some (if n + 1 = l then (to, 0) else (ph, n + 1)) := by
  unfold spec_l6Next.f
  rw [w64 (x := n + 1) (by omega) (by omega)]
  by_cases c : n + 1 = l
  · rw [if_pos c, if_pos c]
  · rw [if_neg c, if_neg c]
theorem l6Root_ex {K : Nat} {L R Ro C : List Int} {p q : Int} (h : CV L R Ro C) (hK : 8 < K) : ∃ v, spec_l6Root.f K Ro p C q = some v ∧ -1 ≤ v ∧ v < Ro.length := by
  have hl := h.le
  unfold spec_l6Root.f
  suffices H : ∀ k m i : Nat, i + k = Ro.length → k < m → ∃ v, spec_l6Root.loop0 K (fun _ => some (-1:Int)) Ro C m (i : Int) = some v ∧ -1 ≤ v ∧ v < Ro.length from H Ro.length K 0 (by omega) (by omega)
  intro k
  induction k with
  | zero =>
    intro m i hi hm
    obtain ⟨m, rfl⟩ : ∃ m', m = m' + 1 := ⟨m - 1, by omega⟩
    rw [spec_l6Root.loop0, if_neg (by omega)]
    exact ⟨_, rfl, by omega, by omega⟩
  | succ k ih =>
    intro m i hi hm
    obtain ⟨m, rfl⟩ : ∃ m', m = m' + 1 := ⟨m - 1, by omega⟩
    have r := h.1.rdRo (i := i) (by omega) (by omega)
    have nx := ih m (i + 1) (by omega) (by omega)
    rw [spec_l6Root.loop0, if_pos (by omega), if_pos (by omega), w64_succ (i := i) (n := Ro.length) (by omega) (by omega)]
    by_cases c : rd Ro (i : Int) = -1
    · rw [if_pos c]; exact nx
    rw [if_neg c, if_pos (by omega)]
    by_cases z : rd C (rd Ro (i : Int)) = 0
    · rw [if_pos z]; exact ⟨_, rfl, by omega, by omega⟩
    · rw [if_neg z]; exact nx
/-- What holds of a marker that was drawn. -/
def DV (L R Ro F C : List Int) (ph n : Int) (m : Nat) : Prop := CV L R Ro C ∧ PH ph n Ro.length L.length ∧ F.length ≤ m
theorem l6Mark_ex {K : Nat} {L R Ro C : List Int} {n : Int} (h : CV L R Ro C) (hn : n = 0) (hK : 8 < K) : ∃ ph' n' C', spec_l6Mark.f K L R Ro 2 C n = some (ph', n', C') ∧ CV L R Ro C' ∧ PH ph' n' Ro.length L.length := by
  have hl := h.le
  unfold spec_l6Mark.f
  rw [l3First_eq (by omega) (by omega), b1_some]
  by_cases c : (1 : Int) ∈ C
  · have g := gray_at h c
    rw [if_pos (by omega), l3Black_eq h g.1 g.2.1, b1_some]
    exact ⟨_, _, _, rfl, h.bk _, by unfold PH; omega⟩
  · rw [fi_none c, if_neg (by omega)]
    obtain ⟨v, e, v0, v1⟩ := l6Root_ex (K := K) (p := 2) (q := n) h hK
    rw [e, b1_some]
    by_cases g : v ≥ 0
    · have r := h.1.rdRo (i := v) (by omega) (by omega)
      rw [if_pos g, if_pos (by omega), l3Shade_eq r.1 (by omega), b1_some]
      exact ⟨_, _, _, rfl, h.sh _, by unfold PH; omega⟩
    · rw [if_neg g]
      exact ⟨_, _, _, rfl, h, by unfold PH; omega⟩
theorem l6Step_ex {K m : Nat} {L R Ro F C : List Int} {ph n : Int} (h : DV L R Ro F C ph n m) (hm : m ≤ 900) (hK : 1000 < K) : ∃ L' R' F' ph' C' n', spec_l6Step.f K L R Ro F ph C n = some (L', R', Ro, F', ph', C', n') ∧ DV L' R' Ro F' C' ph' n' (m + 1) ∧ L'.length = L.length := by
  obtain ⟨hc, hp, hF⟩ := h
  have hl := hc.le
  have hro := hc.1.2.2.2.1
  unfold PH at hp
  unfold spec_l6Step.f
  rw [l6Copy_eq (by omega), b3_some]
  by_cases p0 : ph = 0
  · rw [if_pos p0, l4Copy_eq (by omega) (by omega) (by omega) (by omega), b4_some, if_pos (by omega), Int.toNat_natCast]
    have hz := CV.zero hc.1
    rw [← hl.2.2.2.2] at hz
    exact ⟨_, _, _, _, _, _, rfl, ⟨hz, by unfold PH; omega, by omega⟩, rfl⟩
  rw [if_neg p0]
  by_cases p1 : ph = 1
  · have r := hc.1.rdRo (i := n) (by omega) (by omega)
    rw [if_pos p1, if_pos (by omega), l3Shade_eq r.1 (by omega), b1_some, l4Copy_eq (by omega) (by omega) (by omega) (by omega), b4_some, l6Next_eq (by omega) (by omega)]
    by_cases c : n + 1 = (Ro.length : Int)
    · rw [if_pos c, b2_some]
      exact ⟨_, _, _, _, _, _, rfl, ⟨hc.sh _, by unfold PH; omega, by omega⟩, rfl⟩
    · rw [if_neg c, b2_some]
      exact ⟨_, _, _, _, _, _, rfl, ⟨hc.sh _, by unfold PH; omega, by omega⟩, rfl⟩
  rw [if_neg p1]
  by_cases p2 : ph = 2
  · subst p2
    rw [if_pos rfl, l4Copy_eq (by omega) (by omega) (by omega) (by omega), b4_some]
    obtain ⟨ph', n', C', e, g1, g2⟩ := l6Mark_ex (K := K) (n := n) hc (by omega) (by omega)
    rw [e, b3_some]
    exact ⟨_, _, _, _, _, _, rfl, ⟨g1, g2, by omega⟩, rfl⟩
  rw [if_neg p2]
  have p3 : ph = 3 := by omega
  have sw : ∃ v, spec_l6Swept.f K F ph C n = some v ∧ (v = -1 ∨ v = n) := by
    unfold spec_l6Swept.f
    rw [if_pos p3, if_pos (by omega)]
    by_cases z : rd C n = 0
    · rw [if_pos z, l4At_eq (by omega) (by omega), b1_some]
      split
      · exact ⟨_, rfl, .inr rfl⟩
      · exact ⟨_, rfl, .inl rfl⟩
    · rw [if_neg z]; exact ⟨_, rfl, .inl rfl⟩
  obtain ⟨v, e, hv⟩ := sw
  rw [e, b1_some, l4Copy_eq (by omega) (by omega) (by omega) (by omega), b4_some, l6Next_eq (by omega) (by omega)]
  have hset : CV L R Ro (C.set n.toNat 0) := hc.set ⟨by omega, by omega⟩
  by_cases c : v = -1
  · rw [if_pos c, if_pos (by omega)]
    by_cases d : n + 1 = (C.length : Int)
    · rw [if_pos d, b2_some]
      exact ⟨_, _, _, _, _, _, rfl, ⟨hset, by unfold PH; omega, by omega⟩, rfl⟩
    · rw [if_neg d, b2_some]
      exact ⟨_, _, _, _, _, _, rfl, ⟨hset, by unfold PH; omega, by omega⟩, rfl⟩
  · have hv2 : v = n := hv.resolve_left c
    subst hv2
    have hcl : CV (clr [v] L) (clr [v] R) Ro (C.set v.toNat 0) := ⟨hc.1.clr [v], by rw [clr_len]; exact hset.2.1, hset.2.2⟩
    rw [if_neg c, l4Clear_eq (by omega) (by omega) (by omega) (by omega) (by simp) (by omega), b4_some, if_pos (by omega)]
    by_cases d : v + 1 = (C.length : Int)
    · rw [if_pos d, b2_some]
      exact ⟨_, _, _, _, _, _, rfl, ⟨hcl, by unfold PH; rw [clr_len]; omega, by simp; omega⟩, clr_len⟩
    · rw [if_neg d, b2_some]
      exact ⟨_, _, _, _, _, _, rfl, ⟨hcl, by unfold PH; rw [clr_len]; omega, by simp; omega⟩, clr_len⟩
theorem l6Draw_ex {xs : List Int} {p : Int} (h : Src xs p) (hp : p ≤ 100000000) : ∃ L R Ro F ph C n p', spec_l6Draw.f KK xs p = some (L, R, Ro, F, ph, C, n, p') ∧ DV L R Ro F C ph n 40 ∧ p ≤ p' ∧ p' ≤ p + 61 := by
  have hp0 := h.2.2.1
  unfold spec_l6Draw.f
  obtain ⟨L, R, Ro, F, p1, e1, hs, g1, g2⟩ := l4Draw_ex (K := KK) h (by omega) (by decide)
  obtain ⟨t, e2, m2⟩ := num_ex (K := KK) (l := [3, 1, 5, 8, 0, 14, 20]) (h.at (p' := p1) (by omega) (by omega)) (by simp) (by simp)
  rw [e1, b5_some, spec_NewGc_eq (by decide)]
  unfold ngV
  rw [if_pos hs, b4_some, e2, b2_some]
  simp only [List.mem_cons, List.not_mem_nil, or_false] at m2
  have t0 : 0 ≤ t := by omega
  have t1 : t ≤ 20 := by omega
  have hz := CV.zero hs.1
  have hlen := hs.len
  have h8 := hs.1.2.1
  have hd : DV L R Ro F (List.replicate L.length 0) 0 0 (40 - t.toNat) := ⟨hz, by unfold PH; omega, by omega⟩
  generalize List.replicate L.length (0 : Int) = Z at hd
  have key := loop_mu (fun m (s : Int × List Int × List Int × List Int × List Int × Int × List Int × Int) => spec_l6Draw.loop0 KK (fun l11 l12 l13 l14 p7 l15 p8 => some (l11, l12, l13, l14, p7, l15, p8, p1 + 1)) m s.1 s.2.1 s.2.2.1 s.2.2.2.1 s.2.2.2.2.1 s.2.2.2.2.2.1 s.2.2.2.2.2.2.1 s.2.2.2.2.2.2.2)
    (fun s => 0 ≤ s.1 ∧ s.1 ≤ 20 ∧ DV s.2.1 s.2.2.1 s.2.2.2.1 s.2.2.2.2.1 s.2.2.2.2.2.2.1 s.2.2.2.2.2.1 s.2.2.2.2.2.2.2 (40 - s.1.toNat)) (fun s => s.1.toNat) (fun _ => True) (fun s => some (s.2.1, s.2.2.1, s.2.2.2.1, s.2.2.2.2.1, s.2.2.2.2.2.1, s.2.2.2.2.2.2.1, s.2.2.2.2.2.2.2, p1 + 1)) ?_ (K := KK)
    (a := (t, L, R, Ro, F, 0, Z, 0)) ⟨t0, t1, hd⟩ (by show t.toNat < 1048577; omega)
  · obtain ⟨⟨q, L', R', Ro', F', ph, C', n⟩, ⟨q0, q1, q2⟩, _, e⟩ := key
    simp only [] at q0 q1 q2 e
    exact ⟨_, _, _, _, _, _, _, _, e, ⟨q2.1, q2.2.1, by have := q2.2.2; omega⟩, by omega, by omega⟩
  · rintro m ⟨q, L, R, Ro, F, ph, C, n⟩ ⟨q0, q1, q2⟩
    simp only [] at q0 q1 q2 ⊢
    by_cases c : q > 0
    · left
      obtain ⟨L', R', F', ph', C', n', e, g, _⟩ := l6Step_ex (K := KK) q2 (by omega) (by decide)
      rw [spec_l6Draw.loop0, if_pos c, e, b7_some, w64 (x := q - 1) (by omega) (by omega)]
      refine ⟨(q - 1, L', R', Ro, F', ph', C', n'), ⟨by show 0 ≤ q - 1; omega, by show q - 1 ≤ 20; omega, ?_⟩, by show (q - 1).toNat < q.toNat; omega, rfl⟩
      show DV L' R' Ro F' C' ph' n' (40 - (q - 1).toNat)
      have e3 : 40 - q.toNat + 1 = 40 - (q - 1).toNat := by omega
      rw [← e3]; exact g
    · right
      rw [spec_l6Draw.loop0, if_neg c]
      exact ⟨trivial, rfl⟩
theorem l6Wrong_ex {xs C : List Int} {p ph n : Int} (h : Src xs p) (hp : p ≤ 1000000) (hC : 1 ≤ C.length) (hC2 : C.length ≤ 8) : ∃ ph' C' n' p', spec_l6Wrong.f KK xs p ph C n = some (ph', C', n', p') ∧ C'.length = C.length ∧ p ≤ p' ∧ p' ≤ p + 3 := by
  have hp0 := h.2.2.1
  unfold spec_l6Wrong.f
  rw [l6Copy_eq (by omega), b3_some]
  obtain ⟨k, ek, k0, _, _⟩ := pick_ex (K := KK) (n := 20) h (by omega)
  rw [ek, b2_some]
  have h1 := h.at (p' := p + 1) (by omega) (by omega)
  split
  · obtain ⟨v, ev, _⟩ := num_ex (K := KK) (l := [4, -1, 0, 1, 2, 3]) h1 (by simp) (by simp)
    rw [ev, b2_some]
    exact ⟨_, _, _, _, rfl, rfl, by omega, by omega⟩
  · split
    · obtain ⟨v, ev, _⟩ := num_ex (K := KK) (l := [-1, 8, 1]) h1 (by simp) (by simp)
      rw [ev, b2_some]
      exact ⟨_, _, _, _, rfl, rfl, by omega, by omega⟩
    · split
      · obtain ⟨u, eu, u0, u1, _⟩ := pick_ex (K := KK) (n := C.length) h1 (by omega)
        obtain ⟨v, ev, _⟩ := num_ex (K := KK) (l := [3, 0, 1, 2]) (h.at (p' := p + 1 + 1) (by omega) (by omega)) (by simp) (by simp)
        rw [eu, b2_some, ev, b2_some, if_pos ⟨u0, u1 (by omega)⟩]
        exact ⟨_, _, _, _, rfl, by simp, by omega, by omega⟩
      · exact ⟨_, _, _, _, rfl, rfl, by omega, by omega⟩
theorem DrawGcSame_ex {a : List Int} (hu : ∀ x ∈ a, U8 x) : ∃ ph C n ph' C' n', spec_DrawGcSame.f KK a = some (ph, C, n, ph', C', n') ∧ C.length ≤ 8 ∧ C'.length ≤ 8 := by
  have h := Src.open hu
  unfold spec_DrawGcSame.f
  rw [l13Open_eq, b1_some]
  obtain ⟨L, R, Ro, F, ph, C, n, p, e1, hd, p0, p1⟩ := l6Draw_ex h (by omega)
  have hl := hd.1.le
  obtain ⟨ph1, C1, n1, q1, w1, c1, r0, r1⟩ := l6Wrong_ex (C := C) (ph := ph) (n := n) (h.at (p' := p) (by omega) (by omega)) (by omega) (by omega) (by omega)
  obtain ⟨ph2, C2, n2, q2, w2, c2, r2, r3⟩ := l6Wrong_ex (C := C1) (ph := ph1) (n := n1) (h.at (p' := q1) (by omega) (by omega)) (by omega) (by omega) (by omega)
  obtain ⟨ph3, C3, n3, q3, w3, c3, r4, r5⟩ := l6Wrong_ex (C := C2) (ph := ph2) (n := n2) (h.at (p' := q2) (by omega) (by omega)) (by omega) (by omega) (by omega)
  rw [e1, b8_some, w1, b4_some, w2, b4_some, w3, b4_some]
  exact ⟨_, _, _, _, _, _, rfl, by omega, by omega⟩
theorem DrawSweptCell_ex {a : List Int} (hu : ∀ x ∈ a, U8 x) : ∃ L R Ro F ph C n, spec_DrawSweptCell.f KK a = some (L, R, Ro, F, ph, C, n) ∧ F.length ≤ 40 ∧ C.length ≤ 8 := by
  have h := Src.open hu
  unfold spec_DrawSweptCell.f spec_l6Case.f
  rw [l13Open_eq, b1_some]
  obtain ⟨L, R, Ro, F, ph, C, n, p, e1, hd, p0, p1⟩ := l6Draw_ex h (by omega)
  have hl := hd.1.le
  obtain ⟨ph1, C1, n1, q1, w1, c1, r0, r1⟩ := l6Wrong_ex (C := C) (ph := ph) (n := n) (h.at (p' := p) (by omega) (by omega)) (by omega) (by omega) (by omega)
  obtain ⟨v, ev, _⟩ := num_ex (K := KK) (l := [0, 1, 2, 3, 8, -1]) (h.at (p' := q1) (by omega) (by omega)) (by simp) (by simp)
  rw [e1, b8_some, w1, b4_some, ev, b2_some, b8_some]
  exact ⟨_, _, _, _, _, _, _, rfl, hd.2.2, by omega⟩
end Go.Proofs.Ytpfkcjddilpbkaa.T
namespace Go.Proofs.Ytpfkcjddilpbkaa.Pure
open Go Go.RowKit Go.Proofs.Ytpfkcjddilpbkaa.S Go.Proofs.Ytpfkcjddilpbkaa.F Go.Proofs.Ytpfkcjddilpbkaa.T
set_option linter.unusedVariables false
set_option linter.unusedSimpArgs false
theorem FnGcSame : ∀ (a0 : List Int), a0.length ≤ 9223372036854775807 → (∀ x ∈ a0, U8 x) → ∃ K, laws_FnGcSame.f K a0 = some true := by
  intro a _ hu
  refine ⟨KK, ?_⟩
  unfold laws_FnGcSame.f
  by_cases big : (a.length : Int) > 1048576
  · rw [if_pos big]
  rw [if_neg big]
  obtain ⟨ph, C, n, ph', C', n', e, h1, h2⟩ := DrawGcSame_ex hu
  have k1 : C.length < KK := by show _ < 1048577; omega
  have k2 : C'.length < KK := by show _ < 1048577; omega
  rw [e, b6_some, impl_GcSame_eq k1 (by omega), b1_some, spec_GcSame_eq k1 (by omega), b1_some, if_pos rfl, impl_GcSame_eq k2 (by omega), b1_some, if_pos (by simp only [eq_comm (a := ph), eq_comm (a := n), eq_comm (a := C)]), impl_GcSame_eq k1 (by omega), b1_some, if_pos (by simp)]
  by_cases g : ph = ph' ∧ n = n' ∧ C = C'
  · rw [if_pos (decide_eq_true g), g.1]; simp
  · rw [if_neg (by simpa using g)]
theorem FnSweptCell : ∀ (a0 : List Int), a0.length ≤ 9223372036854775807 → (∀ x ∈ a0, U8 x) → ∃ K, laws_FnSweptCell.f K a0 = some true := by
  intro a _ hu
  refine ⟨KK, ?_⟩
  unfold laws_FnSweptCell.f
  by_cases big : (a.length : Int) > 1048576
  · rw [if_pos big]
  rw [if_neg big]
  obtain ⟨L, R, Ro, F, ph, C, n, e, h1, h2⟩ := DrawSweptCell_ex hu
  have hF : F.length < KK := by show _ < 1048577; omega
  have hC : C.length < KK := by show _ < 1048577; omega
  rw [e, b7_some, impl_SweptCell_eq hF hC, b1_some, spec_SweptCell_eq hC, b1_some, if_pos rfl]
  unfold swV
  by_cases g : GV L R Ro F C ph n ∧ ph = 3 ∧ rd C n = 0 ∧ n ∉ F
  rotate_left
  · rw [if_neg g, if_pos rfl, b1_some]; rfl
  have hl := g.1.le
  have hp := g.1.2.2
  unfold PH at hp
  have fr : freeV L R Ro F n = false := decide_eq_false fun k => g.2.2.2 k.2
  rw [if_pos g, if_neg (by omega), impl_GcValid_eq hF hC, b1_some, if_pos (decide_eq_true g.1), if_pos g.2.1, if_pos rfl, if_pos (by omega), if_pos g.2.2.1, impl_IsFree_eq (by decide) hF (by omega), fr, b1_some]
  rfl
end Go.Proofs.Ytpfkcjddilpbkaa.Pure
