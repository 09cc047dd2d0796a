/- Pure theorems of drawn laws of stores: FnAllocCell. -/
import Derived.Test.YtigidjhdcplplaaPs
import Derived.Test.YtigidjhdcplplaaPp
namespace Go.Proofs.Ytigidjhdcplplaa.T
open Go Go.RowKit Go.Proofs.Ytigidjhdcplplaa.S Go.Proofs.Ytigidjhdcplplaa.F
set_option linter.unusedVariables false
set_option linter.unusedSimpArgs false
theorem DrawAllocCell_ex {K : Nat} {a : List Int} (hu : ∀ x ∈ a, U8 x) (hK : 20 < K) : ∃ L R Ro F r, spec_DrawAllocCell.f K a = some (L, R, Ro, F, r) ∧ Short 10 L R Ro F := by
  unfold spec_DrawAllocCell.f
  obtain ⟨L, R, Ro, F, c, e, hs⟩ := l4Case_ex (K := K) hu hK
  obtain ⟨r, e2, _⟩ := num_ex (K := K) (l := [0, 0, 1, 2, 3, -1]) (Src.open hu) (by simp) (by simp)
  rw [e, b5_some, l13Open_eq, b1_some, e2, b2_some]
  exact ⟨_, _, _, _, _, rfl, hs⟩
theorem storeSame_self {a b c d : List Int} (ha : a.length ≤ 1000) (hb : b.length ≤ 1000) (hc : c.length ≤ 1000) (hd : d.length ≤ 1000) : impl_StoreSame.f KK a b c d a b c d = some true := by
  rw [impl_StoreSame_eq (by show _ < 1048577; omega) (by show _ < 1048577; omega) (by show _ < 1048577; omega) (by show _ < 1048577; omega) (by decide)]
  simp
end Go.Proofs.Ytigidjhdcplplaa.T
namespace Go.Proofs.Ytigidjhdcplplaa.Pure
open Go Go.RowKit Go.Proofs.Ytigidjhdcplplaa.S Go.Proofs.Ytigidjhdcplplaa.F Go.Proofs.Ytigidjhdcplplaa.T
theorem FnAllocCell : ∀ (a0 : List Int), a0.length ≤ 9223372036854775807 → (∀ x ∈ a0, U8 x) → ∃ K, laws_FnAllocCell.f K a0 = some true := by
  intro a _ hu
  refine ⟨KK, ?_⟩
  unfold laws_FnAllocCell.f
  by_cases big : (a.length : Int) > 1048576
  · rw [if_pos big]
  rw [if_neg big]
  obtain ⟨L, R, Ro, F, r, e, hs⟩ := DrawAllocCell_ex (K := KK) hu (by decide)
  obtain ⟨s1, s2, s3, s4, s5⟩ := hs
  have hF : F.length < KK := by show _ < 1048577; omega
  have ei := impl_AllocCell_eq (K := KK) (L := L) (R := R) (Ro := Ro) (F := F) (r := r) (by decide) hF (by omega)
  have es := spec_AllocCell_eq (K := KK) (L := L) (R := R) (Ro := Ro) (F := F) (r := r) (by decide)
  by_cases h : SV L R Ro F ∧ 0 ≤ r ∧ r < Ro.length ∧ F ≠ []
  rotate_left
  · have et : takeV L R Ro F r = ([], [], [], [], 0, false) := by unfold takeV; rw [if_neg h]
    rw [et] at ei es
    rw [e, b5_some, ei, b6_some, es, b6_some, storeSame_self (by simp) (by simp) (by simp) (by simp)]
    simp [b1_some]
  have et : takeV L R Ro F r = (L, R, Ro.set r.toNat (rd F 0), F.drop 1, rd F 0, true) := by unfold takeV; rw [if_pos h]
  rw [et] at ei es
  rw [e, b5_some, ei, b6_some, es, b6_some, storeSame_self (by omega) (by omega) (by rw [List.length_set]; omega) (by rw [List.length_drop]; omega), b1_some, if_pos rfl, if_pos rfl, if_pos rfl, if_pos rfl]
  obtain ⟨hsv, r0, r1, hne⟩ := h
  have hs1 := hsv.take r0 r1 hne
  have hd : (F.drop 1).length = F.length - 1 := by simp
  have hF0 : 0 < F.length := List.length_pos_iff.2 hne
  have hm : rd F 0 ∈ F := rd_mem (by omega) (by omega)
  have hf := hsv.2.2 _ hm
  have hcc := ccInts_eq (K := KK) (a := F.drop 1) (b := F.drop 1) (by rw [hd]; show _ < 1048577; omega) (by omega)
  simp only [decide_true] at hcc
  have lv : liveB L R (Ro.set r.toNat (rd F 0)) (rd F 0) = true := by
    rw [liveB_iff]
    exact .root (List.mem_set (by omega) _) hf.1
  rw [impl_Reachable_eq (by decide), b1_some, impl_StoreValid_eq (by decide) (by rw [hd]; show _ < 1048577; omega) (by omega), b1_some, if_pos (decide_eq_true hs1), if_pos (by omega), if_pos rfl, if_pos (by omega), show (1 : Int).toNat = 1 from rfl, hcc, b1_some, if_pos rfl]
  unfold livV
  rw [if_pos hs1.1, liv_len, if_pos ⟨hf.1, hf.2.1⟩, rdb_liv hf.1 hf.2.1, if_pos lv, if_pos (by rw [List.length_set]; exact ⟨r0, r1⟩), rd_set_self r0 r1]
  simp
end Go.Proofs.Ytigidjhdcplplaa.Pure
