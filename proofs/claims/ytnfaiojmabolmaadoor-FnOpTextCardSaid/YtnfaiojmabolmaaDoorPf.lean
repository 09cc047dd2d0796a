/- Pure theorems of reach: what the reference's searches come to, what is live, what is garbage and what is leaked. -/
import Derived.Test.YtnfaiojmabolmaaDoorPe
namespace Go.Proofs.YtnfaiojmabolmaaDoor.T
open Go Go.RowKit Go.Proofs.YtnfaiojmabolmaaDoor.S Go.Proofs.YtnfaiojmabolmaaDoor.F
set_option linter.unusedVariables false
set_option linter.unusedSimpArgs false
/-- One look at a pointer. -/
theorem BI.look {L R Ro : List Int} {e : Int} {out q : List Int} (h : BI L R Ro e out q) (he : e ≤ 0) {p far : Int} (hp : p = -1 ∨ (0 ≤ p ∧ p < L.length ∧ Live L R Ro p)) (h1 : 1 ≤ far) (h2 : far ≤ q.length + 1) :
    (p = -1 ∧ True) ∨ (p ≠ -1 ∧ 0 ≤ p ∧ p < out.length ∧ ((¬rd out p = e ∧ p ∈ q) ∨ (rd out p = e ∧ p ∉ q ∧ BI L R Ro e (out.set p.toNat far) (q ++ [p])))) := by
  rcases hp with hp | ⟨h3, h4, h5⟩
  · exact .inl ⟨hp, trivial⟩
  · refine .inr ⟨by omega, h3, by rw [h.len]; exact h4, ?_⟩
    by_cases c : p ∈ q
    · have := h.vis p c
      exact .inl ⟨by omega, c⟩
    · exact .inr ⟨h.non p h3 h4 c, c, h.visit h3 h4 h5 c h1 h2⟩
theorem l2Distances_ex {K : Nat} {L R Ro : List Int} (h : HV L R Ro) (hK : 20 < K) : ∃ out, spec_l2Distances.f K L R Ro = some out ∧ out.length = L.length ∧ ∀ x : Int, 0 ≤ x → x < L.length → (0 < rd out x ↔ Live L R Ro x) := by
  obtain ⟨g1, g2, g3, g4, g5, gL, gR, gRo⟩ := id h
  unfold spec_l2Distances.f
  rw [l1Many_eq (K := K) (a := (L.length : Int)) (by omega) (by omega) (by omega), b1_some, Int.toNat_natCast]
  -- the roots
  have e0 : ∀ κ : List Int → List Int → Option (List Int), ∃ q out, spec_l2Distances.loop0 K κ Ro K [] 0 (List.replicate L.length (-1)) = κ q out ∧ BI L R Ro (-1) out q ∧ ∀ x ∈ Ro, 0 ≤ x → x ∈ q := by
    intro κ
    have := loop_ex (fun m p (s : List Int × List Int) => spec_l2Distances.loop0 K κ Ro m s.1 p s.2) (fun i s => BI L R Ro (-1) s.2 s.1 ∧ ∀ x ∈ Ro.take i, 0 ≤ x → x ∈ s.1) Ro.length (fun s => κ s.1 s.2) ?_ ?_ (K := K) (by omega) (a := ([], List.replicate L.length (-1))) ⟨BI.start, by simp⟩
    · obtain ⟨s, ⟨hb, hr⟩, e⟩ := this
      exact ⟨s.1, s.2, e, hb, by rwa [List.take_length] at hr⟩
    · rintro m i ⟨q, out⟩ hi ⟨hb, hr⟩
      have hmem : rd Ro i ∈ Ro := rd_mem (by omega) (by omega)
      have hrg := gRo _ hmem
      have ht : Ro.take (i + 1) = Ro.take i ++ [rd Ro i] := by rw [List.take_succ_eq_append_getElem hi, rd_get hi]
      have hq : q.length ≤ L.length := hb.qlen
      simp only [] at hb hr ⊢
      rw [spec_l2Distances.loop0, if_pos (by omega), if_pos (by omega), w64_succ hi (by omega)]
      have hp : rd Ro i = -1 ∨ (0 ≤ rd Ro i ∧ rd Ro i < L.length ∧ Live L R Ro (rd Ro i)) := by
        rcases (show rd Ro i = -1 ∨ 0 ≤ rd Ro i by omega) with c | c
        · exact .inl c
        · exact .inr ⟨c, hrg.2, .root hmem c⟩
      rcases hb.look (by omega) hp (far := 1) (by omega) (by omega) with ⟨c, _⟩ | ⟨c, c0, c1, ⟨c2, c3⟩ | ⟨c2, c3, c4⟩⟩
      · rw [if_pos c]
        refine ⟨(q, out), ⟨hb, ?_⟩, rfl⟩
        intro x hx h0
        rw [ht, List.mem_append, List.mem_singleton] at hx
        rcases hx with hx | hx
        · exact hr x hx h0
        · omega
      · have := hb.vis _ c3
        rw [if_neg c, if_pos ⟨c0, c1⟩, if_neg (by omega)]
        refine ⟨(q, out), ⟨hb, ?_⟩, rfl⟩
        intro x hx h0
        rw [ht, List.mem_append, List.mem_singleton] at hx
        rcases hx with hx | rfl
        · exact hr x hx h0
        · exact c3
      · rw [if_neg c, if_pos ⟨c0, c1⟩, if_pos (by omega), if_pos (by simp; omega)]
        refine ⟨(q ++ [rd Ro i], out.set (rd Ro i).toNat 1), ⟨c4, ?_⟩, rfl⟩
        intro x hx h0
        rw [ht, List.mem_append, List.mem_singleton] at hx
        rw [List.mem_append, List.mem_singleton]
        rcases hx with hx | rfl
        · exact .inl (hr x hx h0)
        · exact .inr rfl
    · rintro m ⟨q, out⟩ _
      show spec_l2Distances.loop0 K κ Ro (m + 1) q (Ro.length : Int) out = _
      rw [spec_l2Distances.loop0, if_neg (by omega)]
  obtain ⟨q0, out0, e0, hb0, hr0⟩ := e0 _
  rw [e0]
  -- two looks
  have e2 : ∀ (κ : List Int → List Int → Option (List Int)) (q out : List Int) (i : Nat), BI L R Ro (-1) out q → i < q.length → ∃ q' out', spec_l2Distances.loop2 K κ L R q i K q 0 out = κ q' out' ∧ BI L R Ro (-1) out' q' ∧ q <+: q' ∧ (0 ≤ rd L (rd q i) → rd L (rd q i) ∈ q') ∧ (0 ≤ rd R (rd q i) → rd R (rd q i) ∈ q') := by
    intro κ q out i hb hi
    have hc := hb.rng _ (rd_mem (xs := q) (i := i) (by omega) (by omega))
    have hcl := hb.live _ (rd_mem (xs := q) (i := i) (by omega) (by omega))
    have hcq : rd q i ∈ q := rd_mem (by omega) (by omega)
    have hLr := h.rdL hc.1 hc.2
    have hRr := h.rdR hc.1 hc.2
    have hpL : rd L (rd q i) = -1 ∨ (0 ≤ rd L (rd q i) ∧ rd L (rd q i) < L.length ∧ Live L R Ro (rd L (rd q i))) := by
      rcases (show rd L (rd q i) = -1 ∨ 0 ≤ rd L (rd q i) by omega) with c | c
      · exact .inl c
      · exact .inr ⟨c, hLr.2, .left hcl c⟩
    have hpR : rd R (rd q i) = -1 ∨ (0 ≤ rd R (rd q i) ∧ rd R (rd q i) < L.length ∧ Live L R Ro (rd R (rd q i))) := by
      rcases (show rd R (rd q i) = -1 ∨ 0 ≤ rd R (rd q i) by omega) with c | c
      · exact .inl c
      · exact .inr ⟨c, hRr.2, .right hcl c⟩
    have one : ∀ (κ : List Int → List Int → Option (List Int)) (m : Nat) (q' out' : List Int) (k : Nat), k < 2 → BI L R Ro (-1) out' q' → q <+: q' → (rd ([(rd L (rd q i)), (rd R (rd q i))] : List Int) k = -1 ∨ (0 ≤ rd ([(rd L (rd q i)), (rd R (rd q i))] : List Int) k ∧ rd ([(rd L (rd q i)), (rd R (rd q i))] : List Int) k < L.length ∧ Live L R Ro (rd ([(rd L (rd q i)), (rd R (rd q i))] : List Int) k))) →
        ∃ q2 out2, spec_l2Distances.loop2 K κ L R q i (m + 1) q' k out' = spec_l2Distances.loop2 K κ L R q i m q2 ((k + 1 : Nat) : Int) out2 ∧ BI L R Ro (-1) out2 q2 ∧ q' <+: q2 ∧ (0 ≤ rd ([(rd L (rd q i)), (rd R (rd q i))] : List Int) k → rd ([(rd L (rd q i)), (rd R (rd q i))] : List Int) k ∈ q2) := by
      intro κ m q' out' k hk hb' hpre hp
      have hq' := hb'.qlen
      have hl' := hb'.len
      have hv := hb'.vis _ (hpre.subset hcq)
      rw [spec_l2Distances.loop2, if_pos (by omega), if_pos (by simp; omega), w64_succ hk (by omega), w64 (x := rd out' (rd q i) + 1) (by omega) (by omega)]
      rcases hb'.look (by omega) hp (far := rd out' (rd q i) + 1) (by omega) (by omega) with ⟨c, _⟩ | ⟨c, c0, c1, ⟨c2, c3⟩ | ⟨c2, c3, c4⟩⟩
      · rw [if_pos c]
        exact ⟨q', out', rfl, hb', List.prefix_refl _, fun h => by omega⟩
      · have := hb'.vis _ c3
        rw [if_neg c, if_pos ⟨c0, c1⟩, if_neg (by omega)]
        exact ⟨q', out', rfl, hb', List.prefix_refl _, fun _ => c3⟩
      · rw [if_neg c, if_pos ⟨c0, c1⟩, if_pos (by omega), if_pos (by omega), if_pos (by simp; omega)]
        exact ⟨_, _, rfl, c4, List.prefix_append _ _, fun _ => by simp⟩
    obtain ⟨K, rfl⟩ : ∃ K', K = K' + 3 := ⟨K - 3, by omega⟩
    obtain ⟨q1, out1, e1, hb1, hp1, hm1⟩ := one κ (K + 2) q out 0 (by omega) hb (List.prefix_refl _) hpL
    obtain ⟨q2, out2, e2, hb2, hp2, hm2⟩ := one κ (K + 1) q1 out1 1 (by omega) hb1 hp1 hpR
    refine ⟨q2, out2, ?_, hb2, hp1.trans hp2, fun h => hp2.subset (hm1 h), hm2⟩
    rw [show (0 : Int) = ((0 : Nat) : Int) from rfl, e1, e2, spec_l2Distances.loop2, if_neg (by omega)]
  -- the search
  have := loop_mu (fun m (s : List Int × Nat × List Int) => spec_l2Distances.loop1 K (fun l29 => some l29) L R m s.1 s.2.1 s.2.2)
    (fun s => BI L R Ro (-1) s.2.2 s.1 ∧ s.2.1 ≤ s.1.length ∧ (∀ x ∈ Ro, 0 ≤ x → x ∈ s.1) ∧ ∀ j : Nat, j < s.2.1 → (0 ≤ rd L (rd s.1 j) → rd L (rd s.1 j) ∈ s.1) ∧ (0 ≤ rd R (rd s.1 j) → rd R (rd s.1 j) ∈ s.1))
    (fun s => 8 - s.2.1) (fun s => s.2.1 = s.1.length) (fun s => some s.2.2) ?_ (K := K) (a := (q0, 0, out0)) ⟨hb0, by simp, hr0, fun j hj => absurd hj (Nat.not_lt_zero _)⟩ (by simp; omega)
  · obtain ⟨⟨q, i, out⟩, ⟨hb, hi, hr, hc⟩, hd, e⟩ := this
    refine ⟨out, e, hb.len, hb.done (by omega) hr fun x hx => ?_⟩
    obtain ⟨j, hj, rfl⟩ := mem_rd hx
    have hd' : i = q.length := hd
    have hj' : j < q.length := hj
    exact hc j (by show j < i; omega)
  · rintro m ⟨q, i, out⟩ ⟨hb, hi, hr, hc⟩
    simp only [] at hb hi hr hc ⊢
    have hq := hb.qlen
    have hl := hb.len
    by_cases c : i < q.length
    · left
      have hcr := hb.rng _ (rd_mem (xs := q) (i := i) (by omega) (by omega))
      rw [spec_l2Distances.loop1, if_pos (by omega), if_pos (by omega), if_pos hcr, if_pos (by rw [g3]; exact hcr)]
      obtain ⟨q', out', e, hb', hp, hL, hR⟩ := e2 (fun l34 l35 => spec_l2Distances.loop1 K (fun l29 => some l29) L R m l34 (wrap64 ((i : Int) + (1:Int))) l35) q out i hb c
      rw [e]
      have hpl := hp.length_le
      have hrd : ∀ j : Nat, j < q.length → rd q' j = rd q j := by
        intro j hj
        obtain ⟨t, rfl⟩ := hp
        exact rd_app_l (by omega) (by omega)
      refine ⟨(q', i + 1, out'), ⟨hb', by show i + 1 ≤ q'.length; omega, fun x hx h0 => hp.subset (hr x hx h0), fun j hj => ?_⟩, by show 8 - (i + 1) < 8 - i; omega, ?_⟩
      · have hj' : j < i + 1 := hj
        simp only []
        rw [hrd j (by omega)]
        rcases (show j < i ∨ j = i by omega) with c2 | c2
        · exact ⟨fun h => hp.subset ((hc j c2).1 h), fun h => hp.subset ((hc j c2).2 h)⟩
        · subst c2; exact ⟨hL, hR⟩
      · show spec_l2Distances.loop1 K _ L R m q' (wrap64 ((i : Int) + (1:Int))) out' = spec_l2Distances.loop1 K _ L R m q' ((i + 1 : Nat) : Int) out'
        rw [w64 (by omega) (by omega)]; rfl
    · right
      refine ⟨by omega, ?_⟩
      rw [spec_l2Distances.loop1, if_neg (by omega)]
end Go.Proofs.YtnfaiojmabolmaaDoor.T
