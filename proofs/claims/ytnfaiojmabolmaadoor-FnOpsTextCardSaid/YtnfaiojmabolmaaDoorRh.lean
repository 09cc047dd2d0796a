/- What ParseOps computes, on both sides: the reading loops. -/
import Derived.Test.YtnfaiojmabolmaaDoorRf
import Derived.Test.YtnfaiojmabolmaaDoorRg
namespace Go.Proofs.YtnfaiojmabolmaaDoor.T
open Go Go.RowKit Go.Proofs.YtnfaiojmabolmaaDoor.S Go.Proofs.YtnfaiojmabolmaaDoor.F
set_option linter.unusedVariables false
set_option linter.unusedSimpArgs false
theorem rds_get {xs : List ByteArray} {i : Nat} (h : i < xs.length) : rds xs (i : Int) = xs[i] := by
  unfold rds
  rw [Int.toNat_natCast, List.getD_eq_getElem?_getD, List.getElem?_eq_getElem h, Option.getD_some]
/-! ### the reference's cut -/
theorem ext_oL (s : ByteArray) (j i : Nat) : s.extract j i = oL (((dL s).drop j).take (i - j)) := ba_ext (by rw [dL_oL]; exact Go.Lib.extract_data s j i)
theorem cut_loop {K : Nat} {κ : List ByteArray → Option (List ByteArray)} {s : ByteArray} (hs : s.size ≤ 1048576) : ∀ (k m i j : Nat) (l : List ByteArray), i + k = s.size → k + 1 < m → j ≤ i → l.length ≤ i →
    spec_l13Cut.loop0 K κ s (44:Int) m l (j : Int) (i : Int) = κ (l ++ (at1 (((dL s).drop j).take (i - j)) (cutL 44 ((dL s).drop i))).map oL) := by
  have hl := dL_len s
  intro k
  induction k with
  | zero =>
    intro m i j l hi hm hj hll
    obtain ⟨m, rfl⟩ : ∃ m', m = m' + 1 + 1 := ⟨m - 2, by omega⟩
    rw [spec_l13Cut.loop0, if_pos (by omega), if_pos (by omega), if_pos (by omega), if_pos (by show l.length + 1 ≤ _; omega), w64 (by omega) (by omega), spec_l13Cut.loop0, if_neg (by omega), Int.toNat_natCast, Int.toNat_natCast, ext_oL, List.drop_eq_nil_of_le (as := dL s) (i := i) (by omega)]
    simp [cutL, at1]
  | succ k ih =>
    intro m i j l hi hm hj hll
    obtain ⟨m, rfl⟩ : ∃ m', m = m' + 1 := ⟨m - 1, by omega⟩
    have hi2 : i < (dL s).length := by omega
    have g : (sbt s (i : Int) = 44) ↔ (dL s)[i] = 44 := sbt_eq hi2 (c := 44)
    rw [spec_l13Cut.loop0, if_pos (by omega), if_neg (by omega), if_pos (by omega), w64_succ (n := s.size) (by omega) (by omega), List.drop_eq_getElem_cons (i := i) hi2]
    by_cases c : (dL s)[i] = 44
    · rw [if_pos (g.2 c), if_pos (by omega), if_pos (by show l.length + 1 ≤ _; omega), ih m (i + 1) (i + 1) _ (by omega) (by omega) (by omega) (by rw [List.length_append]; show l.length + 1 ≤ _; omega), Int.toNat_natCast, Int.toNat_natCast, ext_oL, c, cutL_hit, Nat.sub_self, List.take_zero, at1_nil (cutL_ne _ _)]
      simp [at1]
    · rw [if_neg (fun e => c (g.1 e)), ih m (i + 1) j l (by omega) (by omega) (by omega) (by omega), cutL, if_neg c, at1_at1]
      have e : ((dL s).drop j).take (i + 1 - j) = ((dL s).drop j).take (i - j) ++ [(dL s)[i]] := by
        rw [show i + 1 - j = (i - j) + 1 by omega, List.take_succ_eq_append_getElem (by rw [List.length_drop]; omega)]
        congr 2
        rw [List.getElem_drop]
        congr 1
        omega
      rw [e]
/-- The reference's pieces. -/
def pcs (s : ByteArray) : List ByteArray := (cutL 44 (dL s)).map oL
theorem cut_eq {K : Nat} {s : ByteArray} (hs : s.size ≤ 1048576) (hK : s.size + 1 < K) : spec_l13Cut.f K s (44:Int) = some (pcs s) := by
  unfold spec_l13Cut.f
  rw [show (0 : Int) = ((0 : Nat) : Int) from rfl, cut_loop hs s.size K 0 0 [] (by omega) hK (by omega) (by simp)]
  rw [Nat.sub_self, List.take_zero, List.drop_zero, at1_nil (cutL_ne _ _)]
  rfl
/-! ### the reference's loop -/
abbrev κS (v : List ByteArray) : Ops → Option (Ops × Bool) := fun l3 => if (v.length : Int) > (12:Int) then some (([] : List (Int × Int × Int)), false) else some (l3, true)
theorem spec_step {K m i : Nat} {v : List ByteArray} {l : Ops} {κ : Ops → Option (Ops × Bool)} (hK : 20 ≤ K) (hi : i < v.length) (h12 : i ≤ 12) (hl : l.length ≤ 100) :
    spec_ParseOps.loop0 K κ v (m + 1) l (i : Int) = match fS i v[i] with
      | some o => spec_ParseOps.loop0 K κ v m (l ++ [o]) ((i + 1 : Nat) : Int)
      | none => some ([], false) := by
  rw [spec_ParseOps.loop0, if_pos (by omega), if_pos (by omega), if_pos (by omega), rds_get hi, w64_succ (i := i) (n := 100) (by omega) (by omega)]
  generalize v[i] = x
  have e : ∀ y : ByteArray, (b4 (spec_ParseOp.f K y) fun k a b ok => if ok = true then (if l.length + ([(k, a, b)] : List (Int × Int × Int)).length ≤ 1099511627776 then spec_ParseOps.loop0 K κ v m (l ++ ([(k, a, b)] : List (Int × Int × Int))) ((i + 1 : Nat) : Int) else none) else some (([] : List (Int × Int × Int)), false)) = match prs y with
      | some o => spec_ParseOps.loop0 K κ v m (l ++ [o]) ((i + 1 : Nat) : Int)
      | none => some ([], false) := by
    intro y
    rw [specP hK, pv0_prs y (fun k a b => if l.length + ([(k, a, b)] : List (Int × Int × Int)).length ≤ 1099511627776 then spec_ParseOps.loop0 K κ v m (l ++ ([(k, a, b)] : List (Int × Int × Int))) ((i + 1 : Nat) : Int) else none)]
    cases prs y with
    | none => rfl
    | some o =>
      simp only []
      rw [if_pos (by show l.length + 1 ≤ _; omega)]
  cases i with
  | zero =>
    rw [if_neg (by omega)]
    exact e x
  | succ i =>
    rw [if_pos (by omega)]
    unfold fS
    have hl := dL_len x
    cases hx : dL x with
    | nil => rw [if_pos (by rw [toList_eq, toList_eq]; exact hx)]
    | cons b r =>
      rw [hx, List.length_cons] at hl
      have h0 : 0 < (dL x).length := by rw [hx]; simp
      have g : (sbt x (0 : Int) = 32) ↔ (dL x)[0] = 32 := sbt_eq (i := 0) h0 (c := 32)
      have hb : (dL x)[0] = b := by simp [hx]
      rw [if_neg (fun q => by rw [toList_eq, toList_eq] at q; rw [show x.data.toList = b :: r from hx] at q; cases q), if_pos (by omega)]
      simp only []
      by_cases c : b = 32
      · rw [if_pos (g.2 (hb.trans c)), if_pos (by omega), if_pos c]
        have ex : x.extract (1:Int).toNat x.size = oL r := by
          refine ba_ext ?_
          rw [dL_oL]
          refine (Go.Lib.extract_to_end x 1).trans ?_
          rw [show x.data.toList = b :: r from hx]
          rfl
        rw [ex]
        exact e (oL r)
      · rw [if_neg (fun q => c (hb.symm.trans (g.1 q))), if_neg c]
theorem spec_loop {K : Nat} {v : List ByteArray} (hK : 20 ≤ K) (hv : v.length ≤ 12) : ∀ (k m i : Nat) (l : Ops), i + k = v.length → k < m → l.length = i →
    spec_ParseOps.loop0 K (κS v) v m l (i : Int) = some (res l (mt fS i (v.drop i))) := by
  intro k
  induction k with
  | zero =>
    intro m i l hi hm hl
    obtain ⟨m, rfl⟩ : ∃ m', m = m' + 1 := ⟨m - 1, by omega⟩
    rw [spec_ParseOps.loop0, if_neg (by omega), List.drop_eq_nil_of_le (by omega), κS, if_neg (by omega)]
    simp [mt, res]
  | succ k ih =>
    intro m i l hi hm hl
    obtain ⟨m, rfl⟩ : ∃ m', m = m' + 1 := ⟨m - 1, by omega⟩
    have hlt : i < v.length := by omega
    rw [spec_step hK hlt (by omega) (by omega), List.drop_eq_getElem_cons hlt, res_cons]
    cases fS i v[i] with
    | none => rfl
    | some o => exact ih m (i + 1) _ (by omega) (by omega) (by simp; omega)
theorem spec_long {K : Nat} {v : List ByteArray} (hK : 20 ≤ K) (hv : 12 < v.length) : ∀ (k m i : Nat) (l : Ops), i + k = 13 → k < m → l.length = i →
    spec_ParseOps.loop0 K (κS v) v m l (i : Int) = some ([], false) := by
  intro k
  induction k with
  | zero =>
    intro m i l hi hm hl
    obtain ⟨m, rfl⟩ : ∃ m', m = m' + 1 := ⟨m - 1, by omega⟩
    have e : κS v l = some ([], false) := if_pos (by omega)
    rw [spec_ParseOps.loop0, if_neg (show ¬(i : Int) ≤ 12 by omega), e]
    split <;> rfl
  | succ k ih =>
    intro m i l hi hm hl
    obtain ⟨m, rfl⟩ : ∃ m', m = m' + 1 := ⟨m - 1, by omega⟩
    have hlt : i < v.length := by omega
    rw [spec_step hK hlt (by omega) (by omega)]
    cases fS i v[i] with
    | none => rfl
    | some o => exact ih m (i + 1) _ (by omega) (by omega) (by simp; omega)
theorem emp_iff {s : ByteArray} : s.toList = (⟨#[]⟩ : ByteArray).toList ↔ s = ⟨#[]⟩ := ⟨toList_inj, fun h => by rw [h]⟩
theorem spec_PO {K : Nat} {s : ByteArray} (hs : s.size ≤ 1048576) (hK : 1048600 ≤ K) (h : s ≠ ⟨#[]⟩) : spec_ParseOps.f K s = some (if 12 < (pcs s).length then ([], false) else res [] (mt fS 0 (pcs s))) := by
  unfold spec_ParseOps.f
  rw [if_neg (fun e => h (emp_iff.1 e)), cut_eq hs (by omega), b1_some]
  by_cases c : 12 < (pcs s).length
  · rw [if_pos c]
    exact spec_long (v := pcs s) (by omega) c 13 K 0 [] (by omega) (by omega) rfl
  · rw [if_neg c]
    have := spec_loop (K := K) (v := pcs s) (by omega) (by omega) (pcs s).length K 0 [] (by omega) (by omega) rfl
    rwa [List.drop_zero] at this
/-! ### the program's loop -/
theorem impl_loop {K : Nat} {v : List ByteArray} (hK : 20 ≤ K) (hv : v.length ≤ 10000000) : ∀ (k m i : Nat) (l : Ops), i + k = v.length → k < m → l.length = i → i ≤ 12 →
    impl_ParseOps.loop0 K (fun l3 => some (l3, true)) v m l (i : Int) = some (res l (mt fI i (v.drop i))) := by
  intro k
  induction k with
  | zero =>
    intro m i l hi hm hl _
    obtain ⟨m, rfl⟩ : ∃ m', m = m' + 1 := ⟨m - 1, by omega⟩
    rw [impl_ParseOps.loop0, if_neg (by omega), List.drop_eq_nil_of_le (by omega)]
    simp [mt, res]
  | succ k ih =>
    intro m i l hi hm hl h12
    obtain ⟨m, rfl⟩ : ∃ m', m = m' + 1 := ⟨m - 1, by omega⟩
    have hlt : i < v.length := by omega
    rw [impl_ParseOps.loop0, if_pos (by omega), if_pos (by omega), rds_get hlt, implP hK, pv0_prs v[i] (fun a b c => if (l.length : Int) = (12:Int) then some (([] : List (Int × Int × Int)), false) else if l.length + ([(a, b, c)] : List (Int × Int × Int)).length ≤ 1099511627776 then impl_ParseOps.loop0 K (fun l3 => some (l3, true)) v m (l ++ ([(a, b, c)] : List (Int × Int × Int))) (wrap64 ((i : Int) + (1:Int))) else none), List.drop_eq_getElem_cons hlt, res_cons, w64_succ hlt (by omega)]
    unfold fI
    by_cases c : i = 12
    · rw [if_pos c]
      cases prs v[i] with
      | none => rfl
      | some o =>
        simp only []
        rw [if_pos (by omega)]
    · rw [if_neg c]
      cases prs v[i] with
      | none => rfl
      | some o =>
        simp only []
        rw [if_neg (by omega), if_pos (by show l.length + 1 ≤ _; omega)]
        exact ih m (i + 1) _ (by omega) (by omega) (by simp; omega) (by omega)
theorem impl_PO {K : Nat} {s : ByteArray} (hs : s.size ≤ 1048576) (hK : 1048600 ≤ K) (h : s ≠ ⟨#[]⟩) : impl_ParseOps.f K s = some (res [] (mt fI 0 (spl s cs))) := by
  have hn : (spl s cs).length ≤ s.size + 1 := by
    have h1 := spl_len (s := s) (sep := cs) (by decide)
    have h2 := Go.Lib.countB_le cs (by decide) s.size s (Nat.le_refl _)
    omega
  unfold impl_ParseOps.f
  rw [if_neg (fun e => h (emp_iff.1 e))]
  show b1 (strings_Split.f K s cs) _ = _
  unfold strings_Split.f
  rw [if_pos ⟨by omega, by decide⟩, b1_some]
  have := impl_loop (K := K) (v := spl s cs) (by omega) (by omega) (spl s cs).length K 0 [] (by omega) (by omega) rfl (by omega)
  rwa [List.drop_zero] at this
/-! ### what is read is what was written -/
theorem tx_free_all {o : Ops} (hv : ∀ x ∈ o, oV1 x) : ∀ x ∈ o.map txo, (44 : UInt8) ∉ dL x := fun x hx => by
  obtain ⟨z, hz, rfl⟩ := List.mem_map.1 hx
  exact tx_free (hv z hz)
theorem impl_says {K : Nat} {s : ByteArray} (hs : s.size ≤ 1048576) (hK : 1048600 ≤ K) (h : s ≠ ⟨#[]⟩) : (∃ o, o ≠ [] ∧ oV o ∧ s = jt o ∧ impl_ParseOps.f K s = some (o, true)) ∨ impl_ParseOps.f K s = some ([], false) := by
  rw [impl_PO hs hK h]
  cases e : mt fI 0 (spl s cs) with
  | none => exact .inr rfl
  | some o =>
    obtain ⟨e1, e2, e3⟩ := mtI_ok (by omega) e
    refine .inl ⟨o, ?_, ⟨by omega, e2⟩, ?_, rfl⟩
    · rintro rfl; exact spl_ne s e1
    · exact (jn_spl s).symm.trans (by rw [e1]; rfl)
theorem jt_size {o : Ops} (h : oV o) : (jt o).size ≤ 504 := by
  have h1 := jn_size (o := o)
  have h2 := h.1
  unfold jt
  omega
theorem jt_emp {o : Ops} (ne : o ≠ []) (h : oV o) : jt o ≠ ⟨#[]⟩ := fun e => jt_ne ne h.2 (emp_iff.2 e)
theorem impl_back {K : Nat} {o : Ops} (hK : 1048600 ≤ K) (ne : o ≠ []) (h : oV o) : impl_ParseOps.f K (jt o) = some (o, true) := by
  have h2 := jt_size h
  rw [impl_PO (by omega) hK (jt_emp ne h)]
  have e : spl (jt o) cs = o.map txo := spl_jn (by simpa using ne) (tx_free_all h.2)
  have h1 := h.1
  rw [e, mtI_back h.2 (by omega)]
  rfl
theorem dL_jt (q : Int × Int × Int) (t : Ops) : dL (jt (q :: t)) = jL (dL (txo q) :: t.map bl) [44] := by
  have e : t.map bl = (t.map fun x => dL (txo x)).map (32 :: ·) := by
    rw [List.map_map]; rfl
  rw [e, jL_blank]
  unfold jt
  rw [dL_jn, List.map_cons, List.map_cons, List.map_map]
  rfl
theorem pcs_jt {q : Int × Int × Int} {t : Ops} (h : ∀ x ∈ q :: t, oV1 x) : pcs (jt (q :: t)) = txo q :: t.map fun x => oL (bl x) := by
  unfold pcs
  rw [dL_jt, cutL_jL (by simp) (fun x hx => by
    rcases List.mem_cons.1 hx with rfl | hx
    · exact tx_free (h q (by simp))
    · obtain ⟨z, hz, rfl⟩ := List.mem_map.1 hx
      have := tx_free (h z (List.mem_cons_of_mem _ hz))
      unfold bl
      rw [List.mem_cons, not_or]
      exact ⟨by decide, this⟩), List.map_cons, List.map_map, oL_dL]
  rfl
theorem spec_back {K : Nat} {o : Ops} (hK : 1048600 ≤ K) (ne : o ≠ []) (h : oV o) : spec_ParseOps.f K (jt o) = some (o, true) := by
  have h2 := jt_size h
  rw [spec_PO (by omega) hK (jt_emp ne h)]
  have h1 := h.1
  cases o with
  | nil => exact absurd rfl ne
  | cons q t =>
    rw [pcs_jt h.2, if_neg (by rw [List.length_cons, List.length_map]; rw [List.length_cons] at h1; omega), mt, show fS 0 (txo q) = prs (txo q) from rfl, prs_tx (h.2 q (by simp)), Option.bind_some, mtS_back (fun x hx => h.2 x (List.mem_cons_of_mem _ hx))]
    rfl
theorem spec_says {K : Nat} {s : ByteArray} (hs : s.size ≤ 1048576) (hK : 1048600 ≤ K) (h : s ≠ ⟨#[]⟩) : (∃ o, o ≠ [] ∧ oV o ∧ s = jt o ∧ spec_ParseOps.f K s = some (o, true)) ∨ spec_ParseOps.f K s = some ([], false) := by
  rw [spec_PO hs hK h]
  by_cases c : 12 < (pcs s).length
  · rw [if_pos c]; exact .inr rfl
  rw [if_neg c]
  have hm : (pcs s).map dL = cutL 44 (dL s) := by
    unfold pcs
    rw [List.map_map]
    exact List.map_id _
  have hj := jL_cutL 44 (dL s)
  rw [← hm] at hj
  cases hp : pcs s with
  | nil => exact absurd (by rw [hp] at hm; exact hm.symm) (cutL_ne 44 (dL s))
  | cons x r =>
    rw [hp, List.length_cons] at c
    rw [hp] at hj
    cases e : mt fS 0 (x :: r) with
    | none => exact .inr rfl
    | some o =>
      unfold mt at e
      obtain ⟨q, hq, e⟩ := Option.bind_eq_some_iff.1 e
      obtain ⟨t, ht, rfl⟩ := Option.map_eq_some_iff.1 e
      obtain ⟨v, rfl⟩ := prs_ok (show prs x = some q from hq)
      obtain ⟨e1, e2⟩ := mtS_ok ht
      have hl := congrArg List.length e1
      rw [List.length_map, List.length_map] at hl
      refine .inl ⟨q :: t, by simp, ⟨by rw [List.length_cons]; omega, fun y hy => ?_⟩, ?_, rfl⟩
      · rcases List.mem_cons.1 hy with rfl | hy
        · exact v
        · exact e2 y hy
      · refine ba_ext ?_
        rw [dL_jt, ← hj, List.map_cons, e1]
/-- Both sides read the same. -/
theorem reads {K : Nat} {s : ByteArray} (hs : s.size ≤ 1048576) (hK : 1048600 ≤ K) : ∃ o ok, o.length ≤ 12 ∧ spec_ParseOps.f K s = some (o, ok) ∧ impl_ParseOps.f K s = some (o, ok) ∧ (ok = true → oV o ∧ s = jt o) := by
  by_cases h : s = ⟨#[]⟩
  · refine ⟨[], true, by simp, ?_, ?_, fun _ => ⟨⟨by simp, by simp⟩, h⟩⟩
    · unfold spec_ParseOps.f; rw [if_pos (emp_iff.2 h)]
    · unfold impl_ParseOps.f; rw [if_pos (emp_iff.2 h)]
  rcases spec_says hs hK h with ⟨o, ne, v, e, r⟩ | r
  · exact ⟨o, true, v.1, r, by rw [e]; exact impl_back hK ne v, fun _ => ⟨v, e⟩⟩
  · rcases impl_says hs hK h with ⟨o, ne, v, e, r2⟩ | r2
    · rw [e, spec_back hK ne v] at r
      cases r
    · exact ⟨[], false, by simp, r, r2, fun g => by cases g⟩
end Go.Proofs.YtnfaiojmabolmaaDoor.T
