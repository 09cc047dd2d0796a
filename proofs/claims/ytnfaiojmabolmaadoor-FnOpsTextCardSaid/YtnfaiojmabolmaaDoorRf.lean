/- Pure theorems: FnExactFormatOps, FnOpsSize. -/
import Derived.Test.YtnfaiojmabolmaaDoorRe
namespace Go.Proofs.YtnfaiojmabolmaaDoor.T
open Go Go.RowKit Go.Proofs.YtnfaiojmabolmaaDoor.S Go.Proofs.YtnfaiojmabolmaaDoor.F
set_option linter.unusedVariables false
set_option linter.unusedSimpArgs false
theorem sbt_at {s : ByteArray} {i : Nat} (h : i < (dL s).length) : sbt s (i : Int) = (((dL s)[i]).toNat : Int) := by
  unfold sbt
  rw [Int.toNat_natCast]
  have e : s[i]? = some (dL s)[i] := by
    have hs : i < s.size := by rw [dL_len]; exact h
    rw [getElem?_pos s i hs]
    rfl
  rw [e]
  rfl
theorem sbt_eq {s : ByteArray} {i : Nat} (h : i < (dL s).length) {c : UInt8} : sbt s (i : Int) = (c.toNat : Int) ↔ (dL s)[i] = c := by
  rw [sbt_at h]
  constructor
  · intro e; exact UInt8.toNat_inj.1 (by omega)
  · intro e; rw [e]
/-- The commas of a text, counted. -/
theorem commas {K : Nat} {κ : Int → Option Bool} {s : ByteArray} (hs : s.size ≤ 1000000) (hK : s.size < K) : laws_FnOpsSize.loop0 K κ s K (1:Int) (0:Int) = κ (1 + ((dL s).count 44 : Int)) := by
  have hl := dL_len s
  have e := loop_st (fun m p (n : Int) => laws_FnOpsSize.loop0 K κ s m n p) (fun i => 1 + (((dL s).take i).count 44 : Int)) s.size (κ (1 + ((dL s).count 44 : Int)))
    (by
      intro m i hi
      have hi2 : i < (dL s).length := by omega
      have hc : ((dL s).take i).count 44 ≤ 1000000 := by
        have := List.count_le_length (a := (44 : UInt8)) (l := (dL s).take i)
        rw [List.length_take] at this
        omega
      show laws_FnOpsSize.loop0 K κ s (m + 1) _ _ = _
      rw [laws_FnOpsSize.loop0, if_pos (by omega), if_pos (by omega), w64_succ hi (by omega), List.take_succ_eq_append_getElem hi2, List.count_append]
      have g : (sbt s (i : Int) = 44) ↔ (dL s)[i] = 44 := sbt_eq hi2 (c := 44)
      by_cases c : (dL s)[i] = 44
      · rw [if_pos (g.2 c), w64 (by omega) (by omega), c, show List.count (44 : UInt8) [44] = 1 from rfl]
        show laws_FnOpsSize.loop0 K κ s m _ _ = _
        congr 1
      · rw [if_neg (fun e => c (g.1 e)), List.count_eq_zero.2 (show (44 : UInt8) ∉ [(dL s)[i]] by simpa using fun e : (44 : UInt8) = _ => c e.symm)]
        rfl)
    (by
      intro m
      show laws_FnOpsSize.loop0 K κ s (m + 1) _ _ = _
      rw [laws_FnOpsSize.loop0, if_neg (by omega), List.take_of_length_le (by omega)]) (K := K) hK
  simpa using e
theorem count_jt {o : Ops} (hv : ∀ x ∈ o, oV1 x) (h : o ≠ []) : (dL (jt o)).count 44 + 1 = o.length := by
  unfold jt
  rw [dL_jn]
  have := count_jL 44 (dL cs) rfl ((o.map txo).map dL) (by simpa using h) (fun x hx => by
    obtain ⟨y, hy, rfl⟩ := List.mem_map.1 hx
    obtain ⟨z, hz, rfl⟩ := List.mem_map.1 hy
    exact tx_free (hv z hz))
  rw [List.length_map, List.length_map] at this
  exact this
end Go.Proofs.YtnfaiojmabolmaaDoor.T
namespace Go.Proofs.YtnfaiojmabolmaaDoor.Pure
open Go Go.RowKit Go.Proofs.YtnfaiojmabolmaaDoor.S Go.Proofs.YtnfaiojmabolmaaDoor.F Go.Proofs.YtnfaiojmabolmaaDoor.T
set_option linter.unusedVariables false
set_option linter.unusedSimpArgs false
theorem FnExactFormatOps : ∀ (a0 : List (Int × Int × Int)), a0.length ≤ 9223372036854775807 → ∃ K, laws_FnExactFormatOps.f K a0 = some true := by
  intro o ho
  refine ⟨KK, ?_⟩
  unfold laws_FnExactFormatOps.f laws_szOpS.f
  rw [w64 (x := 1048576 - (o.length : Int)) (by omega) (by omega)]
  by_cases c : (1048576 - (o.length : Int)) < 0
  · rw [if_pos c, b1_some, if_pos (by omega)]
  rw [if_neg c, b1_some, if_neg c, toOpS_eq (by show _ < 1048577; omega) (by omega), b1_some, specFO (by decide), b1_some, b1_some, implFO (by show _ < 1048577; omega) (by omega), b1_some, if_pos rfl, b1_some, eqOpS_eq (by show _ < 1048577; omega) ho, b1_some, if_pos (decide_eq_true rfl)]
theorem FnOpsSize : ∀ (a0 : List Int), a0.length ≤ 9223372036854775807 → (∀ x ∈ a0, U8 x) → ∃ K, laws_FnOpsSize.f K a0 = some true := by
  intro a _ hu
  refine ⟨KK, ?_⟩
  unfold laws_FnOpsSize.f
  by_cases big : (a.length : Int) > 1048576
  · rw [if_pos big]
  rw [if_neg big]
  obtain ⟨o, e, ho⟩ := DrawFormatOps_ex (K := KK) (by decide) hu
  rw [e, b1_some, implFO (by show _ < 1048577; omega) (by omega), b1_some, specFO (by decide), b1_some, if_pos rfl]
  by_cases v : opsV o 3
  rotate_left
  · rw [if_neg v, if_pos rfl, b1_some]
    simp
  rw [if_pos v]
  by_cases z : (jt o).toList = (⟨#[]⟩ : ByteArray).toList
  · rw [if_pos z, b1_some]
    simp
  have hv := (opsV_iff.1 v).2
  have hne : o ≠ [] := fun g => z (by rw [g]; rfl)
  have hs := jn_size (o := o)
  have hc := count_jt hv hne
  rw [if_neg z, commas (by unfold jt; omega) (by unfold jt; show _ < 1048577; omega), if_pos (by omega), decide_eq_true (by omega)]
end Go.Proofs.YtnfaiojmabolmaaDoor.Pure
