/- Texts of lists of operations: what FormatOps computes, on both sides; operations that are drawn. -/
import Derived.Test.YtnfaiojmabolmaaDoorRb
import Derived.Test.YtnfaiojmabolmaaDoorRc
import Derived.Test.YtnfaiojmabolmaaDoorFm
namespace Go.Proofs.YtnfaiojmabolmaaDoor.T
open Go Go.RowKit Go.Proofs.YtnfaiojmabolmaaDoor.S Go.Proofs.YtnfaiojmabolmaaDoor.F
set_option linter.unusedVariables false
set_option linter.unusedSimpArgs false
theorem spec_fmt_K (K : Nat) (k a b : Int) : spec_FormatOp.f K k a b = spec_FormatOp.f KK k a b := rfl
theorem impl_fmt_K (K : Nat) (k a b : Int) : impl_FormatOp.f K k a b = impl_FormatOp.f KK k a b := rfl
theorem fmtS (K : Nat) (k a b : Int) : spec_FormatOp.f K k a b = some (tx k a b) := by
  obtain ⟨t, h, _⟩ := fmt_same k a b
  rw [spec_fmt_K, tx, h]
  rfl
theorem fmtI (K : Nat) (k a b : Int) : impl_FormatOp.f K k a b = some (tx k a b) := by
  obtain ⟨t, h, h2⟩ := fmt_same k a b
  rw [impl_fmt_K, tx, h, h2]
  rfl
theorem tx_none {k a b : Int} (h : ¬OpV k a b 3) : tx k a b = ⟨#[]⟩ := by
  rw [tx, (fmt_no h).1]
  rfl
theorem tx_le (k a b : Int) : (tx k a b).size ≤ 40 := by
  by_cases h : OpV k a b 3
  · exact (tx_size h).2
  · rw [tx_none h]; decide
def txo (o : Int × Int × Int) : ByteArray := tx o.1 o.2.1 o.2.2
def oV1 (o : Int × Int × Int) : Prop := OpV o.1 o.2.1 o.2.2 3
instance {o : Int × Int × Int} : Decidable (oV1 o) := by unfold oV1; infer_instance
def oV (o : Ops) : Prop := o.length ≤ 12 ∧ ∀ x ∈ o, oV1 x
/-- The text of a list of operations. -/
def jt (o : Ops) : ByteArray := jn (o.map txo) cs
theorem opsV_iff {o : Ops} : opsV o 3 ↔ oV o := by
  constructor
  · rintro ⟨h1, h2⟩
    refine ⟨h1, fun x hx => ?_⟩
    obtain ⟨j, hj, rfl⟩ := List.mem_iff_getElem.1 hx
    have := h2 j hj
    rwa [rdt_get hj] at this
  · rintro ⟨h1, h2⟩
    refine ⟨h1, fun j hj => ?_⟩
    rw [rdt_get hj]
    exact h2 _ (List.getElem_mem hj)
theorem jn_size {o : Ops} : (jn (o.map txo) cs).size ≤ o.length * 42 := by
  rw [dL_len, dL_jn]
  have := jL_len (dL cs) 40 ((o.map txo).map dL) (fun x hx => by
    obtain ⟨y, hy, rfl⟩ := List.mem_map.1 hx
    obtain ⟨z, hz, rfl⟩ := List.mem_map.1 hy
    rw [← dL_len]
    exact tx_le _ _ _)
  rw [List.length_map, List.length_map] at this
  exact this
def tcOk (k a b : Nat) : Bool := !(decide (OpV ((k : Int) + 1) a b 3)) || !((dL (tx ((k : Int) + 1) a b)).contains 44)
set_option maxRecDepth 100000 in
theorem tc_all : ∀ k : Nat, k < 7 → ∀ a : Nat, a < 3 → ∀ b : Nat, b < 3 → tcOk k a b = true := by decide +kernel
theorem tx_free {k a b : Int} (h : OpV k a b 3) : (44 : UInt8) ∉ dL (tx k a b) := by
  obtain ⟨r1, r2, r3⟩ := h.rng
  have t := tc_all (k - 1).toNat (by omega) a.toNat (by omega) b.toNat (by omega)
  unfold tcOk at t
  rw [show (((k - 1).toNat : Nat) : Int) + 1 = k by omega, show ((a.toNat : Nat) : Int) = a by omega, show ((b.toNat : Nat) : Int) = b by omega, decide_eq_true h] at t
  simpa using t
theorem jt_one (x : Int × Int × Int) : jt [x] = txo x := jn_one _
theorem jt_ne {o : Ops} (h : o ≠ []) (hv : ∀ x ∈ o, oV1 x) : ¬(jt o).toList = (⟨#[]⟩ : ByteArray).toList := fun e => by
  have e2 := congrArg List.length (congrArg dL (toList_inj e))
  cases o with
  | nil => exact h rfl
  | cons x r =>
    have h1 := (tx_size (hv x (by simp))).1
    rw [dL_len] at h1
    unfold jt at e2
    rw [dL_jn, List.map_cons, List.map_cons] at e2
    unfold jL at e2
    rw [Go.Lib.join_cons, List.length_append] at e2
    unfold txo at e2
    have : (dL (⟨#[]⟩ : ByteArray)).length = 0 := rfl
    omega
theorem take_succ_map {o : Ops} {i : Nat} (h : i < o.length) : (o.take (i + 1)).map txo = (o.take i).map txo ++ [txo o[i]] := by
  rw [List.take_succ_eq_append_getElem h, List.map_append]
  rfl
/-! ### what FormatOps computes -/
theorem specFO_loop (K : Nat) {o : Ops} (h12 : o.length ≤ 12) : ∀ (k m i : Nat) (s : ByteArray), i + k = o.length → k < m → s = jn ((o.take i).map txo) cs →
    spec_FormatOps.loop0 K (fun s3 => some s3) o m s (i : Int) = some (if ∀ x ∈ o.drop i, oV1 x then jt o else ⟨#[]⟩) := by
  intro k
  induction k with
  | zero =>
    intro m i s hi hm hs
    obtain ⟨m, rfl⟩ : ∃ m', m = m' + 1 := ⟨m - 1, by omega⟩
    rw [spec_FormatOps.loop0, if_neg (by omega), List.drop_eq_nil_of_le (by omega), if_pos (by simp), hs, List.take_of_length_le (by omega)]
    rfl
  | succ k ih =>
    intro m i s hi hm hs
    obtain ⟨m, rfl⟩ : ∃ m', m = m' + 1 := ⟨m - 1, by omega⟩
    have hlt : i < o.length := by omega
    have hsz : s.size ≤ 12 * 42 := by
      rw [hs]
      have := jn_size (o := o.take i)
      rw [List.length_take] at this
      omega
    have ht := tx_le o[i].1 o[i].2.1 o[i].2.2
    rw [spec_FormatOps.loop0, if_pos (by omega), if_pos (by omega), if_pos (by omega), rdt_get hlt, fmtS, b1_some]
    by_cases v : oV1 o[i]
    · rw [if_neg (tx_ne v)]
      have key : ∀ s', s' = jn ((o.take (i + 1)).map txo) cs → spec_FormatOps.loop0 K (fun s3 => some s3) o m s' ((i + 1 : Nat) : Int) = some (if ∀ x ∈ o.drop i, oV1 x then jt o else ⟨#[]⟩) := fun s' hs' => by
        rw [ih m (i + 1) s' (by omega) (by omega) hs', List.drop_eq_getElem_cons hlt]
        by_cases c : ∀ x ∈ o.drop (i + 1), oV1 x
        · rw [if_pos c, if_pos (fun x hx => by
            rcases List.mem_cons.1 hx with rfl | hx
            · exact v
            · exact c x hx)]
        · rw [if_neg c, if_neg (fun g => c fun x hx => g x (List.mem_cons_of_mem _ hx))]
      by_cases i0 : (i : Int) > 0
      · rw [if_pos i0, if_pos (by show s.size + 2 ≤ _; omega), b1_some, if_pos (by rw [ByteArray.size_append]; show s.size + 2 + _ ≤ _; omega), w64_succ hlt (by omega)]
        refine key _ ?_
        rw [take_succ_map hlt, jn_snoc (by intro e; have := congrArg List.length e; rw [List.length_map, List.length_take, List.length_nil] at this; omega), hs]
        rfl
      · have i1 : i = 0 := by omega
        rw [if_neg i0, b1_some, if_pos (by omega), w64_succ hlt (by omega)]
        refine key _ ?_
        subst i1
        rw [take_succ_map hlt, hs]
        show jn [] cs ++ _ = jn ([] ++ [txo o[0]]) cs
        rw [List.nil_append, jn_one, jn_nil]
        exact ba_ext (by rw [dL_app]; rfl)
    · rw [tx_none v, if_pos rfl, if_neg (fun g => v (g o[i] (by rw [List.drop_eq_getElem_cons hlt]; exact List.mem_cons_self)))]
theorem specFO {K : Nat} (hK : 20 ≤ K) (o : Ops) : spec_FormatOps.f K o = some (if opsV o 3 then jt o else ⟨#[]⟩) := by
  unfold spec_FormatOps.f
  by_cases h : o.length ≤ 12
  · have := specFO_loop K h o.length K 0 ⟨#[]⟩ (by omega) (by omega) rfl
    rw [List.drop_zero] at this
    rw [show (0 : Int) = ((0 : Nat) : Int) from rfl, this]
    by_cases c : opsV o 3
    · rw [if_pos c, if_pos (opsV_iff.1 c).2]
    · rw [if_neg c, if_neg (fun g => c (opsV_iff.2 ⟨h, g⟩))]
  · obtain ⟨m, rfl⟩ : ∃ m, K = m + 1 := ⟨K - 1, by omega⟩
    rw [spec_FormatOps.loop0, if_pos (by omega), if_neg (by omega), if_neg (fun g => h g.1)]
theorem implFO {K : Nat} {o : Ops} (hK : o.length < K) (hmax : o.length ≤ 1099511627000) : impl_FormatOps.f K o = some (if opsV o 3 then jt o else ⟨#[]⟩) := by
  unfold impl_FormatOps.f
  rw [opsOk_eq hK (by omega), b1_some]
  by_cases c : opsV o 3
  rotate_left
  · rw [if_neg (by simpa using c), if_neg c]
  rw [if_pos (decide_eq_true c), if_pos c]
  obtain ⟨l, hl, e⟩ := loop_ex (fun m p (l : List ByteArray) => impl_FormatOps.loop0 K (fun l3 => b1 (strings_Join.f K l3 (⟨#[44, 32]⟩ : ByteArray)) fun v6 => some v6) o m l p) (fun i l => l = (o.take i).map txo) o.length (fun l3 => b1 (strings_Join.f K l3 (⟨#[44, 32]⟩ : ByteArray)) fun v6 => some v6)
    (by
      rintro m i l hi rfl
      refine ⟨_, rfl, ?_⟩
      rw [impl_FormatOps.loop0, if_pos (by omega), if_pos (by omega), rdt_get hi, fmtI, b1_some, if_pos (by rw [List.length_map, List.length_take]; show _ + 1 ≤ _; omega), w64_succ hi (by omega), take_succ_map hi]
      rfl)
    (by
      intro m l hl
      rw [impl_FormatOps.loop0, if_neg (by omega)]) (K := K) (a := []) hK rfl
  refine e.trans ?_
  rw [hl, List.take_of_length_le (Nat.le_refl _)]
  show b1 (strings_Join.f K (o.map txo) cs) _ = _
  have hs := jn_size (o := o)
  have h12 := c.1
  unfold strings_Join.f
  rw [if_pos ⟨by rw [List.length_map]; omega, by omega⟩, b1_some]
  rfl
/-! ### operations that are drawn -/
theorem l5Ops_at {K : Nat} (hK : 20 ≤ K) {xs : List Int} {p : Int} (h : Src xs p) (hp : p ≤ 1000000) : ∃ o p', spec_l5Ops.f K xs p = some (o, p') ∧ o.length ≤ 9 ∧ 0 ≤ p' ∧ p' ≤ p + 28 := by
  have hp0 := h.2.2.1
  unfold spec_l5Ops.f
  obtain ⟨t, e2, m2⟩ := num_ex (K := K) (l := [4, 3, 6, 2, 1, 0, 9]) h (by simp) (by simp)
  rw [e2, b2_some]
  simp only [List.mem_cons, List.not_mem_nil, or_false] at m2
  have t0 : 0 ≤ t := by omega
  have t1 : t ≤ 9 := by omega
  have key := loop_mu (fun m (s : Ops × Int × Int) => spec_l5Ops.loop0 K (fun l3 p5 => some (l3, p5)) xs m s.1 s.2.1 s.2.2)
    (fun s => 0 ≤ s.2.1 ∧ s.2.1 ≤ t ∧ (s.1.length : Int) + s.2.1 = t ∧ s.2.2 = p + 1 + 3 * (t - s.2.1)) (fun s => s.2.1.toNat) (fun _ => True) (fun s => some (s.1, s.2.2)) ?_ (K := K) (a := ([], t, p + 1)) ⟨t0, by show t ≤ t; omega, by show (([] : Ops).length : Int) + t = t; simp, by show p + 1 = p + 1 + 3 * (t - t); omega⟩ (by show t.toNat < K; omega)
  · obtain ⟨⟨o, q, r⟩, ⟨g0, g1, g2, g3⟩, _, e⟩ := key
    simp only [] at g0 g1 g2 g3 e
    exact ⟨_, _, e, by omega, by omega, by omega⟩
  · rintro m ⟨o, q, r⟩ ⟨g0, g1, g2, g3⟩
    simp only [] at g0 g1 g2 g3 ⊢
    by_cases c : q > 0
    · left
      obtain ⟨k, a, b, e, _⟩ := l5Op_ex (K := K) (h.at (p' := r) (by omega) (by omega)) (by omega)
      rw [spec_l5Ops.loop0, if_pos c, e, b4_some, if_pos (by simp; omega), w64 (x := q - 1) (by omega) (by omega)]
      exact ⟨(o ++ [(k, a, b)], q - 1, r + 3), ⟨by show 0 ≤ q - 1; omega, by show q - 1 ≤ t; omega, by show ((o ++ [(k, a, b)]).length : Int) + (q - 1) = t; simp; omega, by show r + 3 = p + 1 + 3 * (t - (q - 1)); omega⟩, by show (q - 1).toNat < q.toNat; omega, rfl⟩
    · right
      rw [spec_l5Ops.loop0, if_neg c]
      exact ⟨trivial, rfl⟩
theorem DrawFormatOps_ex {K : Nat} (hK : 20 ≤ K) {a : List Int} (hu : ∀ x ∈ a, U8 x) : ∃ o, spec_DrawFormatOps.f K a = some o ∧ o.length ≤ 10 := by
  have h := Src.open hu
  unfold spec_DrawFormatOps.f
  rw [l13Open_eq, b1_some]
  obtain ⟨o, p, e1, ho, p0, p1⟩ := l5Ops_at hK h (by omega)
  obtain ⟨v, e2, _⟩ := pick_ex (K := K) (n := 12) (h.at (p' := p) (by omega) (by omega)) (by omega)
  rw [e1, b2_some, e2, b2_some]
  by_cases c : v = 0
  · obtain ⟨w, e3, _⟩ := num_ex (K := K) (l := [0, 8, 1]) (h.at (p' := p + 1) (by omega) (by omega)) (by simp) (by simp)
    rw [if_pos c, e3, b2_some, if_pos (by show o.length + 1 ≤ _; omega)]
    exact ⟨_, rfl, by rw [List.length_append]; show o.length + 1 ≤ 10; omega⟩
  · rw [if_neg c]
    exact ⟨_, rfl, by omega⟩
end Go.Proofs.YtnfaiojmabolmaaDoor.T
