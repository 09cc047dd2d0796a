/- Pure theorems of stores and operations: what the program's own functions come to. -/
import Derived.Test.YtnfaiojmabolmaaDoorPn
import Derived.Test.YtnfaiojmabolmaaDoorPa
import Derived.Test.YtnfaiojmabolmaaDoorPk
import Derived.Test.YtnfaiojmabolmaaDoorFg
namespace Go.Proofs.YtnfaiojmabolmaaDoor.T
open Go Go.RowKit Go.Proofs.YtnfaiojmabolmaaDoor.S Go.Proofs.YtnfaiojmabolmaaDoor.F
set_option linter.unusedVariables false
set_option linter.unusedSimpArgs false
theorem impl_AllocCell_eq {K : Nat} {L R Ro F : List Int} {r : Int} (hK : 32 < K) (hF : F.length < K) (hmax : F.length ≤ 9223372036854775807) : impl_AllocCell.f K L R Ro F r = some (takeV L R Ro F r) := by
  unfold impl_AllocCell.f takeV
  rw [impl_StoreValid_eq hK hF hmax, b1_some]
  by_cases h : SV L R Ro F
  · have h8 := h.1.2.1
    have h3 := h.1.2.2.1
    have hro := h.1.2.2.2.2.1
    have hf := h.len
    rw [if_pos (decide_eq_true h)]
    by_cases c1 : r < 0
    · rw [if_pos c1, if_neg (fun g => by omega)]
    rw [if_neg c1]
    by_cases c2 : r ≥ Ro.length
    · rw [if_pos c2, if_neg (fun g => by omega)]
    rw [if_neg c2]
    by_cases c3 : (F.length : Int) = 0
    · rw [if_pos c3, if_neg (fun g => g.2.2.2 (List.length_eq_zero_iff.1 (by omega)))]
    rw [if_neg c3, again_eq (by omega) (by omega) (by omega) (by omega), b4_some, if_pos (by omega), if_pos (by omega), if_pos (by omega), if_pos ⟨h, by omega, by omega, fun g => by subst g; simp at c3⟩]
    rfl
  · rw [if_neg (by simpa using h), if_neg (fun g => h g.1)]
/-! ### operations -/
/-- An operation that is valid for so many roots. -/
def OpV (k a b r : Int) : Prop := 1 ≤ k ∧ k ≤ 7 ∧ 0 ≤ a ∧ a < r ∧ a < 3 ∧ 0 ≤ b ∧ b < 3 ∧ (if k = 1 ∨ k = 7 then b = 0 else b < r)
instance {k a b r : Int} : Decidable (OpV k a b r) := by unfold OpV; infer_instance
theorem spec_OpValid_v (K : Nat) (k a b r : Int) : spec_OpValid.f K k a b r = some (decide (OpV k a b r)) := spec_OpValid_eq K k a b r
theorem impl_OpValid_v (K : Nat) (k a b r : Int) : impl_OpValid.f K k a b r = some (decide (OpV k a b r)) := impl_OpValid_eq K k a b r
/-- Both numbers of a valid operation are roots. -/
theorem OpV.roots {k a b r : Int} (h : OpV k a b r) : (0 ≤ a ∧ a < r) ∧ 0 ≤ b ∧ b < r := by
  obtain ⟨h1, h2, h3, h4, h5, h6, h7, h8⟩ := h
  split at h8 <;> omega
def tgtV (L R Ro F : List Int) (k a b : Int) : Int :=
  if SV L R Ro F ∧ OpV k a b Ro.length ∧ (k = 5 ∨ k = 6) ∧ rd Ro a ≠ -1 then rd Ro b else -1
theorem spec_TargetOf_eq {K : Nat} {L R Ro F : List Int} {k a b : Int} (hK : 8 < K) : spec_TargetOf.f K L R Ro F k a b = some (tgtV L R Ro F k a b) := by
  unfold spec_TargetOf.f tgtV
  rw [spec_StoreValid_eq hK, b1_some, spec_OpValid_v, b1_some]
  by_cases h : SV L R Ro F
  rotate_left
  · rw [if_neg (by simpa using h), if_neg (fun g => h g.1)]
  rw [if_pos (decide_eq_true h)]
  by_cases g : OpV k a b Ro.length
  rotate_left
  · rw [if_neg (by simpa using g), if_neg (fun c => g c.2.1)]
  have hr := g.roots
  rw [if_pos (decide_eq_true g), if_pos hr.1, if_pos hr.2]
  by_cases k5 : k = 5
  · rw [if_pos k5]
    by_cases c : rd Ro a = -1
    · rw [if_pos c, if_neg (fun z => z.2.2.2 c)]
    · rw [if_neg c, if_pos ⟨h, g, .inl k5, c⟩]
  · rw [if_neg k5]
    by_cases k6 : k = 6
    · rw [if_pos k6]
      by_cases c : rd Ro a = -1
      · rw [if_pos c, if_neg (fun z => z.2.2.2 c)]
      · rw [if_neg c, if_pos ⟨h, g, .inr k6, c⟩]
    · rw [if_neg k6, if_neg (fun z => z.2.2.1.elim k5 k6)]
theorem impl_TargetOf_eq {K : Nat} {L R Ro F : List Int} {k a b : Int} (hK : 32 < K) (hF : F.length < K) (hmax : F.length ≤ 9223372036854775807) : impl_TargetOf.f K L R Ro F k a b = some (tgtV L R Ro F k a b) := by
  unfold impl_TargetOf.f tgtV
  rw [impl_StoreValid_eq hK hF hmax, b1_some, impl_OpValid_v, b1_some]
  by_cases h : SV L R Ro F
  rotate_left
  · rw [if_neg (by simpa using h), if_neg (fun g => h g.1)]
  rw [if_pos (decide_eq_true h)]
  by_cases g : OpV k a b Ro.length
  rotate_left
  · rw [if_neg (by simpa using g), if_neg (fun c => g c.2.1)]
  have hr := g.roots
  rw [if_pos (decide_eq_true g), if_pos hr.1, if_pos hr.2]
  by_cases k5 : k = 5
  · rw [if_pos k5]
    by_cases c : rd Ro a = -1
    · rw [if_pos c, if_neg (fun z => z.2.2.2 c)]
    · rw [if_neg c, if_pos ⟨h, g, .inl k5, c⟩]
  · rw [if_neg k5]
    by_cases k6 : k = 6
    · rw [if_pos k6]
      by_cases c : rd Ro a = -1
      · rw [if_pos c, if_neg (fun z => z.2.2.2 c)]
      · rw [if_neg c, if_pos ⟨h, g, .inr k6, c⟩]
    · rw [if_neg k6, if_neg (fun z => z.2.2.1.elim k5 k6)]
/-- A valid operation on a valid store. -/
def runW (L R Ro F : List Int) (k a b : Int) : List Int × List Int × List Int × List Int × Int × Bool :=
  if k = 1 then (if F = [] then (L, R, Ro, F, 1, true) else (L, R, Ro.set a.toNat (rd F 0), F.drop 1, 0, true))
  else if k = 2 then (L, R, Ro.set a.toNat (rd Ro b), F, 0, true)
  else if k = 3 then (if rd Ro b = -1 then (L, R, Ro, F, 2, true) else (L, R, Ro.set a.toNat (rd L (rd Ro b)), F, 0, true))
  else if k = 4 then (if rd Ro b = -1 then (L, R, Ro, F, 2, true) else (L, R, Ro.set a.toNat (rd R (rd Ro b)), F, 0, true))
  else if k = 5 then (if rd Ro a = -1 then (L, R, Ro, F, 2, true) else (L.set (rd Ro a).toNat (rd Ro b), R, Ro, F, 0, true))
  else if k = 6 then (if rd Ro a = -1 then (L, R, Ro, F, 2, true) else (L, R.set (rd Ro a).toNat (rd Ro b), Ro, F, 0, true))
  else (L, R, Ro.set a.toNat (-1), F, 0, true)
def runV (L R Ro F : List Int) (k a b : Int) : List Int × List Int × List Int × List Int × Int × Bool :=
  if SV L R Ro F ∧ OpV k a b Ro.length then runW L R Ro F k a b else ([], [], [], [], 0, false)
theorem op_cases {k : Int} (h1 : 1 ≤ k) (h7 : k ≤ 7) : k = 1 ∨ k = 2 ∨ k = 3 ∨ k = 4 ∨ k = 5 ∨ k = 6 ∨ k = 7 := by omega
theorem takeV_ok {L R Ro F : List Int} {r : Int} (h : SV L R Ro F) (h0 : 0 ≤ r) (h1 : r < Ro.length) : takeV L R Ro F r = if F = [] then ([], [], [], [], 0, false) else (L, R, Ro.set r.toNat (rd F 0), F.drop 1, rd F 0, true) := by
  unfold takeV
  by_cases c : F = []
  · rw [if_pos c, if_neg (fun g => g.2.2.2 c)]
  · rw [if_neg c, if_pos ⟨h, h0, h1, c⟩]
theorem impl_RunOp_eq {K : Nat} {L R Ro F : List Int} {k a b : Int} (hK : 32 < K) (hF : F.length < K) (hmax : F.length ≤ 9223372036854775807) : impl_RunOp.f K L R Ro F k a b = some (runV L R Ro F k a b) := by
  unfold impl_RunOp.f runV
  rw [impl_StoreValid_eq hK hF hmax, b1_some, impl_OpValid_v, b1_some]
  by_cases h : SV L R Ro F
  rotate_left
  · rw [if_neg (by simpa using h), if_neg (fun g => h g.1)]
  rw [if_pos (decide_eq_true h)]
  by_cases g : OpV k a b Ro.length
  rotate_left
  · rw [if_neg (by simpa using g), if_neg (fun c => g c.2)]
  obtain ⟨hra, hrb⟩ := g.roots
  have h8 := h.1.2.1
  have hR := h.1.2.2.1
  have hro := h.1.2.2.2.2.1
  have hf := h.len
  have pa := h.1.rdRo hra.1 hra.2
  have pb := h.1.rdRo hrb.1 hrb.2
  rw [if_pos (decide_eq_true g), if_pos ⟨h, g⟩, again_eq (by omega) (by omega) (by omega) (by omega), b4_some, impl_AllocCell_eq hK hF hmax, takeV_ok h hra.1 hra.2]
  have hset : ∀ v : Int, (Ro.set a.toNat v).length = Ro.length := fun v => by simp
  have hra' : ∀ v : Int, 0 ≤ a ∧ a < ((Ro.set a.toNat v).length : Int) := fun v => by rw [hset]; exact hra
  unfold runW
  rcases op_cases g.1 g.2.1 with rfl | rfl | rfl | rfl | rfl | rfl | rfl
  · rw [if_pos rfl, if_pos rfl]
    by_cases c : F = []
    · rw [if_pos c, if_pos c, b6_some, if_neg (by simp)]
    · rw [if_neg c, if_neg c, b6_some, if_pos rfl]
  · simp [hra, hrb]
  · simp only [show ¬((3 : Int) = 1) by omega, show ¬((3 : Int) = 2) by omega, show ¬((3 : Int) = 4) by omega, if_false, if_true, hra, hrb, and_self]
    by_cases c : rd Ro b = -1
    · rw [if_pos c, if_pos c]
    · rw [if_neg c, if_neg c, if_pos (by omega)]
  · simp only [show ¬((4 : Int) = 1) by omega, show ¬((4 : Int) = 2) by omega, show ¬((4 : Int) = 3) by omega, if_false, if_true, hra, hrb, and_self]
    by_cases c : rd Ro b = -1
    · rw [if_pos c, if_pos c]
    · rw [if_neg c, if_neg c, if_pos (by omega), if_pos (by omega), if_pos ⟨trivial, (hra' _).2⟩, List.set_set]
  · simp only [show ¬((5 : Int) = 1) by omega, show ¬((5 : Int) = 2) by omega, show ¬((5 : Int) = 3) by omega, show ¬((5 : Int) = 4) by omega, if_false, if_true, hra, hrb, and_self]
    by_cases c : rd Ro a = -1
    · rw [if_pos c, if_pos c]
    · rw [if_neg c, if_neg c, if_pos (by omega)]
  · simp only [show ¬((6 : Int) = 1) by omega, show ¬((6 : Int) = 2) by omega, show ¬((6 : Int) = 3) by omega, show ¬((6 : Int) = 4) by omega, show ¬((6 : Int) = 5) by omega, if_false, if_true, hra, hrb, and_self]
    by_cases c : rd Ro a = -1
    · rw [if_pos c, if_pos c]
    · rw [if_neg c, if_neg c, if_pos (by omega)]
  · simp only [show ¬((7 : Int) = 1) by omega, show ¬((7 : Int) = 2) by omega, show ¬((7 : Int) = 3) by omega, show ¬((7 : Int) = 4) by omega, show ¬((7 : Int) = 5) by omega, show ¬((7 : Int) = 6) by omega, if_false, if_true, hra, hrb, and_self]
theorem spec_RunOp_eq {K : Nat} {L R Ro F : List Int} {k a b : Int} (hK : 8 < K) : spec_RunOp.f K L R Ro F k a b = some (runV L R Ro F k a b) := by
  unfold spec_RunOp.f runV
  rw [spec_StoreValid_eq hK, b1_some, spec_OpValid_v, b1_some]
  by_cases h : SV L R Ro F
  rotate_left
  · rw [if_neg (by simpa using h), if_neg (fun g => h g.1)]
  rw [if_pos (decide_eq_true h)]
  by_cases g : OpV k a b Ro.length
  rotate_left
  · rw [if_neg (by simpa using g), if_neg (fun c => g c.2)]
  obtain ⟨hra, hrb⟩ := g.roots
  have h8 := h.1.2.1
  have hR := h.1.2.2.1
  have hro := h.1.2.2.2.2.1
  have hf := h.len
  have pa := h.1.rdRo hra.1 hra.2
  have pb := h.1.rdRo hrb.1 hrb.2
  have ec : spec_l4Copy.f K L R Ro F = some (L, R, Ro, F) := l4Copy_eq (by omega) (by omega) (by omega) (by omega)
  rw [if_pos (decide_eq_true g), show (if SV L R Ro F ∧ OpV k a b Ro.length then runW L R Ro F k a b else ([], [], [], [], 0, false)) = runW L R Ro F k a b from if_pos ⟨h, g⟩, spec_AllocCell_eq hK, takeV_ok h hra.1 hra.2]
  simp only [ec, b4_some]
  unfold spec_l5Do.f
  simp only [hra, hrb, and_self, if_true]
  unfold runW
  rcases op_cases g.1 g.2.1 with rfl | rfl | rfl | rfl | rfl | rfl | rfl
  · rw [if_pos rfl, if_pos rfl]
    by_cases c : F = []
    · rw [if_pos c, if_pos c, b6_some, if_neg (by simp)]
    · rw [if_neg c, if_neg c, b6_some, if_pos rfl]
  · simp only [show ¬((2 : Int) = 1) by omega, if_false, if_true, b4_some]
  · simp only [show ¬((3 : Int) = 1) by omega, show ¬((3 : Int) = 2) by omega, show ¬((3 : Int) = 7) by omega, show ¬((3 : Int) = 4) by omega, if_false, if_true]
    by_cases c : rd Ro b = -1
    · rw [if_pos c, if_pos c, b4_some]
    · rw [if_neg c, if_neg c, if_pos (by omega), b4_some]
  · simp only [show ¬((4 : Int) = 1) by omega, show ¬((4 : Int) = 2) by omega, show ¬((4 : Int) = 3) by omega, show ¬((4 : Int) = 7) by omega, if_false, if_true]
    by_cases c : rd Ro b = -1
    · rw [if_pos c, if_pos c, b4_some]
    · rw [if_neg c, if_neg c, if_pos (by omega), if_pos (by omega), b4_some]
  · simp only [show ¬((5 : Int) = 1) by omega, show ¬((5 : Int) = 2) by omega, show ¬((5 : Int) = 3) by omega, show ¬((5 : Int) = 4) by omega, show ¬((5 : Int) = 7) by omega, if_false, if_true]
    by_cases c : rd Ro a = -1
    · rw [if_pos c, if_pos c, b4_some]
    · rw [if_neg c, if_neg c, if_pos (by omega), b4_some]
  · simp only [show ¬((6 : Int) = 1) by omega, show ¬((6 : Int) = 2) by omega, show ¬((6 : Int) = 3) by omega, show ¬((6 : Int) = 4) by omega, show ¬((6 : Int) = 5) by omega, show ¬((6 : Int) = 7) by omega, if_false, if_true]
    by_cases c : rd Ro a = -1
    · rw [if_pos c, if_pos c, b4_some]
    · rw [if_neg c, if_neg c, if_pos (by omega), b4_some]
  · simp only [show ¬((7 : Int) = 1) by omega, show ¬((7 : Int) = 2) by omega, show ¬((7 : Int) = 3) by omega, show ¬((7 : Int) = 4) by omega, show ¬((7 : Int) = 5) by omega, show ¬((7 : Int) = 6) by omega, if_false, if_true, b4_some]
theorem CountLive_eq {K : Nat} {L R Ro : List Int} (h : HV L R Ro) (hK : 20 < K) : impl_CountLive.f K L R Ro = some (((upto L.length).filter (liveB L R Ro)).length : Int) := by
  unfold impl_CountLive.f
  rw [impl_Reachable_eq hK, b1_some]
  unfold livV
  rw [if_pos h]
  have h8 := h.2.1
  have hl := @liv_len L R Ro
  have := loop_st (fun m p (s : Int) => impl_CountLive.loop0 K (fun p5 => some p5) (liv L R Ro) m s p) (fun i => (((upto i).filter (liveB L R Ro)).length : Int)) L.length (some (((upto L.length).filter (liveB L R Ro)).length : Int)) ?_ ?_ (K := K) (by omega)
  · exact this
  · intro m i hi
    show impl_CountLive.loop0 K _ _ (m + 1) _ (i : Int) = impl_CountLive.loop0 K _ _ m _ ((i + 1 : Nat) : Int)
    have hb : ((upto i).filter (liveB L R Ro)).length ≤ i := Nat.le_trans (List.length_filter_le _ _) (by rw [upto_len]; exact Nat.le_refl _)
    rw [impl_CountLive.loop0, if_pos (by omega), if_pos (by omega), rdb_liv (by omega) (by omega), w64_succ hi (by omega), upto_succ, List.filter_append, List.length_append]
    by_cases c : liveB L R Ro i = true
    · rw [if_pos c, w64 (by omega) (by omega)]; simp [c]
    · rw [if_neg c]; simp [c]
  · intro m
    show impl_CountLive.loop0 K _ _ (m + 1) _ (L.length : Int) = _
    rw [impl_CountLive.loop0, if_neg (by omega)]
/-- Sizes of what an operation leaves. -/
theorem runV_len {L R Ro F : List Int} {k a b : Int} : (runV L R Ro F k a b).1.length ≤ L.length ∧ (runV L R Ro F k a b).2.1.length ≤ R.length ∧ (runV L R Ro F k a b).2.2.1.length ≤ Ro.length ∧ (runV L R Ro F k a b).2.2.2.1.length ≤ F.length := by
  unfold runV runW
  repeat' split
  all_goals simp
theorem takeV_len {L R Ro F : List Int} {r : Int} : (takeV L R Ro F r).1.length ≤ L.length ∧ (takeV L R Ro F r).2.1.length ≤ R.length ∧ (takeV L R Ro F r).2.2.1.length ≤ Ro.length ∧ (takeV L R Ro F r).2.2.2.1.length ≤ F.length := by
  unfold takeV
  split <;> simp
/-- A valid operation leaves a valid store. -/
theorem runV_sv {L R Ro F : List Int} {k a b : Int} (h : SV L R Ro F) (g : OpV k a b Ro.length) : SV (runW L R Ro F k a b).1 (runW L R Ro F k a b).2.1 (runW L R Ro F k a b).2.2.1 (runW L R Ro F k a b).2.2.2.1 := by
  obtain ⟨hra, hrb⟩ := g.roots
  have hR := h.1.2.2.1
  have pa := h.1.rdRo hra.1 hra.2
  have pb := h.1.rdRo hrb.1 hrb.2
  have ma := rd_mem hra.1 hra.2
  have mb := rd_mem hrb.1 hrb.2
  have nF : ∀ v : Int, (v ∈ L ∨ v ∈ R ∨ v ∈ Ro ∨ v = -1) → v ∉ F := by
    intro v hv hm
    have hf := h.2.2 v hm
    rcases hv with hv | hv | hv | hv
    · exact hf.2.2.2.2.1 hv
    · exact hf.2.2.2.2.2.1 hv
    · exact hf.2.2.2.2.2.2 hv
    · omega
  unfold runW
  rcases op_cases g.1 g.2.1 with rfl | rfl | rfl | rfl | rfl | rfl | rfl
  · rw [if_pos rfl]
    by_cases c : F = []
    · rw [if_pos c]; exact h
    · rw [if_neg c]; exact h.take hra.1 hra.2 c
  · exact h.root pb (nF _ (.inr (.inr (.inl mb))))
  · simp only [show ¬((3 : Int) = 1) by omega, show ¬((3 : Int) = 2) by omega, if_false, if_true]
    by_cases c : rd Ro b = -1
    · rw [if_pos c]; exact h
    · rw [if_neg c]
      exact h.root (h.1.rdL (by omega) pb.2) (nF _ (.inl (rd_mem (by omega) pb.2)))
  · simp only [show ¬((4 : Int) = 1) by omega, show ¬((4 : Int) = 2) by omega, show ¬((4 : Int) = 3) by omega, if_false, if_true]
    by_cases c : rd Ro b = -1
    · rw [if_pos c]; exact h
    · rw [if_neg c]
      exact h.root (h.1.rdR (by omega) pb.2) (nF _ (.inr (.inl (rd_mem (by omega) (by omega)))))
  · simp only [show ¬((5 : Int) = 1) by omega, show ¬((5 : Int) = 2) by omega, show ¬((5 : Int) = 3) by omega, show ¬((5 : Int) = 4) by omega, if_false, if_true]
    by_cases c : rd Ro a = -1
    · rw [if_pos c]; exact h
    · rw [if_neg c]; exact (h.put ma mb c).1
  · simp only [show ¬((6 : Int) = 1) by omega, show ¬((6 : Int) = 2) by omega, show ¬((6 : Int) = 3) by omega, show ¬((6 : Int) = 4) by omega, show ¬((6 : Int) = 5) by omega, if_false, if_true]
    by_cases c : rd Ro a = -1
    · rw [if_pos c]; exact h
    · rw [if_neg c]; exact (h.put ma mb c).2
  · exact h.root (by have := h.1.1; omega) (nF _ (.inr (.inr (.inr rfl))))
end Go.Proofs.YtnfaiojmabolmaaDoor.T
