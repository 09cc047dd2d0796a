/- Plain facts of the operations of counted stores: a root that is dropped, a cell that is taken, a link. It says nothing of any program. -/
import Derived.Test.YtgganabcfloioaaTc
namespace Go.Proofs.Ytgganabcfloioaa.T
open Go Go.RowKit Go.Proofs.Ytgganabcfloioaa.S
set_option linter.unusedVariables false
set_option linter.unusedSimpArgs false
theorem count_one {a x : Int} : (([a] : List Int).count x : Int) = if a = x then 1 else 0 := by
  rw [List.count_singleton]
  by_cases h : a = x
  · simp [h]
  · have : (a == x) = false := by simpa using h
    simp [h, this]
/-- A root that is dropped. -/
theorem KV.drop {L R Ro F C : List Int} (h : KV L R Ro F C) {r : Int} (h0 : 0 ≤ r) (h1 : r < Ro.length) : GI L R (Ro.set r.toNat (-1)) C F [rd Ro r] := by
  have g := h.gi
  have hr := h.1.1.rdRo h0 h1
  refine ⟨g.hv.setRo (by omega), g.clen, fun x hx => ?_, fun x hx0 hx1 => ?_, g.nd, g.free⟩
  · rw [List.mem_singleton] at hx; subst hx; exact hr
  · have e := g.sum x hx0 hx1
    have s := count_set_rd (xs := Ro) (v := -1) (x := x) h0 h1
    rw [if_neg (show ¬(-1 : Int) = x by omega)] at s
    have c := @count_one (rd Ro r) x
    rw [List.count_nil] at e
    unfold cnt at *
    omega
/-- A cell that is taken. -/
theorem KV.take {L R Ro F C : List Int} (h : KV L R Ro F C) {r : Int} (h0 : 0 ≤ r) (h1 : r < Ro.length) (hF : F ≠ []) : GI L R (Ro.set r.toNat (rd F 0)) (C.set (rd F 0).toNat 1) (F.drop 1) [rd Ro r] := by
  have g := h.gi
  have hr := h.1.1.rdRo h0 h1
  have hsv := h.1.take h0 h1 hF
  obtain ⟨c, F, rfl⟩ := List.exists_cons_of_ne_nil hF
  have hc := h.1.2.2 c (by simp)
  have hcl := g.clen
  have e0 : rd (c :: F) 0 = c := rfl
  rw [e0] at hsv ⊢
  have hold : rd Ro r ≠ c := by rintro e; exact hc.2.2.2.2.2.2 (by rw [← e]; exact rd_mem h0 h1)
  refine ⟨hsv.1, by rw [List.length_set, hcl], fun x hx => ?_, fun x hx0 hx1 => ?_, hsv.2.1, fun x hx => ?_⟩
  · rw [List.mem_singleton] at hx; subst hx; exact hr
  · have e := g.sum x hx0 hx1
    have s := count_set_rd (xs := Ro) (v := c) (x := x) h0 h1
    have q := @count_one (rd Ro r) x
    rw [rd_set hc.1 hx0 (by omega)]
    rw [List.count_nil] at e
    by_cases k : c = x
    · subst k
      rw [if_pos rfl]
      rw [if_neg hold, if_pos rfl] at s
      rw [if_neg hold] at q
      have z := cnt_zero.2 hc.2.2.2.2
      unfold cnt at *
      omega
    · rw [if_neg k]
      rw [if_neg k] at s
      unfold cnt at *
      omega
  · have hf := hsv.2.2 x hx
    have hx' : x ∈ c :: F := List.mem_of_mem_drop hx
    have hne : c ≠ x := by
      rintro rfl
      have : c ∈ F := by simpa using hx
      exact (List.nodup_cons.1 h.1.2.1).1 this
    refine ⟨hf.1, hf.2.1, hf.2.2.1, hf.2.2.2.1, ?_⟩
    rw [rd_set hc.1 hf.1 (by omega), if_neg hne]
    exact (g.free x hx').2.2.2.2
/-- Counts when one more pointer is put. -/
def up1 (C : List Int) (to : Int) : List Int := if to = -1 then C else C.set to.toNat (rd C to + 1)
theorem up1_len {C : List Int} {to : Int} : (up1 C to).length = C.length := by unfold up1; split <;> simp
theorem rd_up1 {C : List Int} {to x : Int} (ht : -1 ≤ to) (hl : to < C.length) (h0 : 0 ≤ x) : rd (up1 C to) x = rd C x + if to = x then 1 else 0 := by
  unfold up1
  by_cases c : to = -1
  · rw [if_pos c, if_neg (by omega)]; omega
  · rw [if_neg c, rd_set (by omega) h0 hl]
    by_cases e : to = x
    · rw [if_pos e, if_pos e, e]
    · rw [if_neg e, if_neg e]; omega
/-- A link. -/
theorem KV.link {L R Ro F C : List Int} (h : KV L R Ro F C) {c to : Int} (hc : c ∈ Ro) (hn : c ≠ -1) (ht : to ∈ Ro) : GI (L.set c.toNat to) R Ro (up1 C to) F [rd L c] := by
  have g := h.gi
  have rc := h.1.1.2.2.2.2.2.2.2 c hc
  have rt := h.1.1.2.2.2.2.2.2.2 to ht
  have hcl := g.clen
  have hL := h.1.1.rdL (i := c) (by omega) rc.2
  have hp := (h.1.1.setL (i := c) rt)
  refine ⟨hp, by rw [up1_len, List.length_set, hcl], fun x hx => ?_, fun x hx0 hx1 => ?_, g.nd, fun x hx => ?_⟩
  · rw [List.length_set]; rw [List.mem_singleton] at hx; subst hx; exact hL
  · rw [List.length_set] at hx1
    have e := g.sum x hx0 hx1
    have s := count_set_rd (xs := L) (i := c) (v := to) (x := x) (by omega) rc.2
    have q := @count_one (rd L c) x
    rw [rd_up1 rt.1 (by omega) hx0]
    rw [List.count_nil] at e
    unfold cnt at *
    omega
  · have hf := h.1.2.2 x hx
    have hz := (g.free x hx).2.2.2.2
    have n1 : c ≠ x := by rintro rfl; exact hf.2.2.2.2.2.2 hc
    have n2 : to ≠ x := by rintro rfl; exact hf.2.2.2.2.2.2 ht
    refine ⟨hf.1, by rw [List.length_set]; exact hf.2.1, ?_, hf.2.2.2.1, ?_⟩
    · rw [rd_set (by omega) hf.1 rc.2, if_neg n1]; exact hf.2.2.1
    · rw [rd_up1 rt.1 (by omega) hf.1, if_neg n2]; omega
/-- One free cell more or less changes nothing in what is given up. -/
theorem dn_twin {Ro : List Int} {c v : Int} : ∀ (k : Nat) (L R F F2 C q : List Int), GI L R Ro C F q → c ∈ F → ∃ L' R' F' C' F2' C2', dn k L R F C q = (L', R', F', C') ∧ dn k L R F2 (C.set c.toNat v) q = (L', R', F2', C2') := by
  intro k
  induction k with
  | zero => intro L R F F2 C q g hc; exact ⟨_, _, _, _, _, _, rfl, rfl⟩
  | succ k ih =>
    intro L R F F2 C q g hc
    cases q with
    | nil => exact ⟨_, _, _, _, _, _, rfl, rfl⟩
    | cons x q =>
      have hx := g.qr x (by simp)
      have hf := g.free c hc
      have hq := g.notq hc
      have hne : c ≠ x := by rintro rfl; exact hq (by simp)
      have hcl := g.clen
      unfold dn
      by_cases e : x = -1
      · rw [if_pos e, if_pos e]; subst e
        exact ih _ _ _ _ _ _ g.none hc
      · rw [if_neg e, if_neg e]
        have x0 : (0 : Int) ≤ x := by omega
        rw [rd_set hf.1 x0 (by omega), if_neg hne]
        have sc : ∀ w, (C.set c.toNat v).set x.toNat w = (C.set x.toNat w).set c.toNat v := fun w => List.set_comm _ _ (by omega)
        by_cases e2 : 0 < rd C x - 1
        · rw [if_pos e2, if_pos e2, sc]
          exact ih _ _ _ _ _ _ (g.down x0 hx.2 e2) hc
        · rw [if_neg e2, if_neg e2, sc]
          exact ih _ _ _ _ _ _ (g.fall x0 hx.2 e2) (by simp [hc])
end Go.Proofs.Ytgganabcfloioaa.T
