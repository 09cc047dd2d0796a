/- Pure theorem: FnExactParseOps. -/
import Derived.Test.YtnfaiojmabolmaaDoorRh
namespace Go.Proofs.YtnfaiojmabolmaaDoor.T
open Go Go.RowKit Go.Proofs.YtnfaiojmabolmaaDoor.S Go.Proofs.YtnfaiojmabolmaaDoor.F
set_option linter.unusedVariables false
set_option linter.unusedSimpArgs false
/-- The marks that the law leaves. -/
def mk3 (i : Nat) : Int × Int × Int := (1 + 3 * (i : Int), 2 + 3 * (i : Int), 3 + 3 * (i : Int))
theorem rdt_set {l : Ops} {i : Nat} (h : i < l.length) (v : Int × Int × Int) : rdt (l.set i v) (i : Int) = v := by
  rw [rdt_get (by rw [List.length_set]; exact h), List.getElem_set_self]
theorem mark_loop {K : Nat} {n : Nat} (hn : n ≤ 12) (hK : 20 ≤ K) {l : Ops} (hl : l.length = n) : ∃ l', l'.length = n ∧ (∀ j : Nat, j < n → l'[j]? = some (mk3 j)) ∧ laws_markOpS.f K l (1:Int) = some (1 + 3 * (n : Int), l') := by
  unfold laws_markOpS.f
  obtain ⟨⟨p, l'⟩, ⟨h1, h2, h3⟩, e⟩ := loop_ex (fun m p (s : Int × Ops) => laws_markOpS.loop0 K (fun p5 l3 => some (p5, l3)) m s.1 p s.2) (fun i s => s.1 = 1 + 3 * (i : Int) ∧ s.2.length = n ∧ ∀ j : Nat, j < i → s.2[j]? = some (mk3 j)) n (fun s => some (s.1, s.2))
    (by
      rintro m i ⟨p, q⟩ hi ⟨h1, h2, h3⟩
      simp only [] at h1 h2 h3
      refine ⟨(1 + 3 * ((i + 1 : Nat) : Int), q.set i (mk3 i)), ⟨rfl, by rw [List.length_set]; exact h2, fun j hj => ?_⟩, ?_⟩
      · show (q.set i (mk3 i))[j]? = _
        rw [List.getElem?_set]
        by_cases c : i = j
        · subst c; rw [if_pos rfl, if_pos (by omega)]
        · rw [if_neg c]; exact h3 j (by omega)
      · show laws_markOpS.loop0 K _ (m + 1) p (i : Int) q = laws_markOpS.loop0 K _ m _ _ _
        have hq : i < q.length := by omega
        rw [laws_markOpS.loop0, if_pos (by omega), if_pos (by omega), if_pos (by rw [List.length_set]; omega), if_pos (by rw [List.length_set, List.length_set]; omega), w64_succ (i := i) (n := 100) (by omega) (by omega), Int.toNat_natCast]
        simp only [List.set_set, rdt_set hq]
        rw [h1, w64 (x := 1 + 3 * (i : Int) + 1) (by omega) (by omega), w64 (x := 1 + 3 * (i : Int) + 1 + 1) (by omega) (by omega), w64 (x := 1 + 3 * (i : Int) + 1 + 1 + 1) (by omega) (by omega)]
        have e1 : mk3 i = (1 + 3 * (i : Int), 1 + 3 * (i : Int) + 1, 1 + 3 * (i : Int) + 1 + 1) := by
          unfold mk3
          congr 2 <;> omega
        rw [e1]
        congr 1)
    (by
      rintro m ⟨p, q⟩ ⟨h1, h2, h3⟩
      simp only [] at h1 h2 h3
      show laws_markOpS.loop0 K _ (m + 1) p (n : Int) q = _
      rw [laws_markOpS.loop0, if_neg (by omega)]) (K := K) (a := (1, l)) (by omega) ⟨by simp, hl, fun j hj => by omega⟩
  simp only [] at h1 h2 h3
  refine ⟨l', h2, h3, ?_⟩
  rw [← h1]
  exact e
theorem held_loop {K : Nat} {n : Nat} (hn : n ≤ 12) (hK : 20 ≤ K) {l : Ops} (hl : l.length = n) (h : ∀ j : Nat, j < n → l[j]? = some (mk3 j)) : laws_heldOpS.f K l (1:Int) = some (1 + 3 * (n : Int)) := by
  unfold laws_heldOpS.f
  exact loop_st (fun m p (s : Int) => laws_heldOpS.loop0 K (fun p5 => some p5) l m s p) (fun i => 1 + 3 * (i : Int)) n (some (1 + 3 * (n : Int)))
    (by
      intro m i hi
      show laws_heldOpS.loop0 K _ l (m + 1) _ _ = laws_heldOpS.loop0 K _ l m _ _
      have hq : i < l.length := by omega
      have e : l[i] = mk3 i := by
        have := h i hi
        rw [List.getElem?_eq_getElem hq] at this
        exact Option.some.inj this
      rw [laws_heldOpS.loop0, if_pos (by omega), if_pos (by omega), rdt_get hq, e, w64_succ (i := i) (n := 100) (by omega) (by omega), w64 (x := 1 + 3 * (i : Int) + 1) (by omega) (by omega), w64 (x := 1 + 3 * (i : Int) + 1 + 1) (by omega) (by omega), w64 (x := 1 + 3 * (i : Int) + 1 + 1 + 1) (by omega) (by omega)]
      unfold mk3
      rw [if_pos rfl, if_pos (by show 2 + 3 * (i : Int) = _; omega), if_pos (by show 3 + 3 * (i : Int) = _; omega)]
      congr 1)
    (by
      intro m
      show laws_heldOpS.loop0 K _ l (m + 1) _ _ = _
      rw [laws_heldOpS.loop0, if_neg (by omega)]) (K := K) (by omega)
end Go.Proofs.YtnfaiojmabolmaaDoor.T
namespace Go.Proofs.YtnfaiojmabolmaaDoor.Pure
open Go Go.RowKit Go.Proofs.YtnfaiojmabolmaaDoor.S Go.Proofs.YtnfaiojmabolmaaDoor.F Go.Proofs.YtnfaiojmabolmaaDoor.T
set_option linter.unusedVariables false
set_option linter.unusedSimpArgs false
theorem FnExactParseOps : ∀ (a0 : ByteArray), a0.size ≤ maxLen → ∃ K, laws_FnExactParseOps.f K a0 = some true := by
  intro s _
  refine ⟨1048600, ?_⟩
  unfold laws_FnExactParseOps.f
  by_cases big : (s.size : Int) > 1048576
  · rw [if_pos big]
  rw [if_neg big]
  obtain ⟨o, ok, ho, e1, e2, _⟩ := reads (K := 1048600) (s := s) (by omega) (by omega)
  obtain ⟨l, hl, hm, e3⟩ := mark_loop (K := 1048600) ho (by omega) (l := o) rfl
  have e4 := held_loop (K := 1048600) ho (by omega) hl hm
  have e5 : laws_eqOpS.f 1048600 o o = some true := (eqOpS_eq (by omega) (by omega)).trans (congrArg some (decide_eq_true rfl))
  rw [e1, e2, b2_some, b2_some, e5, b1_some, if_pos rfl, if_pos rfl, e3, b2_some, e4, b1_some, if_neg (by omega), if_pos rfl, b2_some, e5, b1_some, if_pos rfl, if_pos rfl, b1_some, if_neg (by omega), if_pos rfl]
end Go.Proofs.YtnfaiojmabolmaaDoor.Pure
