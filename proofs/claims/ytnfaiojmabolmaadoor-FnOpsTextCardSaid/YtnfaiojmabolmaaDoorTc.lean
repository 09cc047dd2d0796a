/- Plain facts of counts of pointers, of stores, and of the giving up of pointers. It says nothing of any program. -/
import Derived.Test.YtnfaiojmabolmaaDoorTb
namespace Go.Proofs.YtnfaiojmabolmaaDoor.T
open Go Go.RowKit Go.Proofs.YtnfaiojmabolmaaDoor.S
set_option linter.unusedVariables false
set_option linter.unusedSimpArgs false
/-! ### counts -/
def cnt (L R Ro : List Int) (x : Int) : Nat := L.count x + R.count x + Ro.count x
def cntL (L R Ro : List Int) : List Int := (List.range L.length).map fun i : Nat => (cnt L R Ro i : Int)
theorem cntL_len {L R Ro : List Int} : (cntL L R Ro).length = L.length := by simp [cntL]
theorem rd_map_range {n : Nat} {f : Nat → Int} {x : Int} (h0 : 0 ≤ x) (h1 : x < n) : rd ((List.range n).map f) x = f x.toNat := by
  unfold rd
  have : x.toNat < n := by omega
  simp [this]
theorem rd_cntL {L R Ro : List Int} {x : Int} (h0 : 0 ≤ x) (h1 : x < L.length) : rd (cntL L R Ro) x = cnt L R Ro x := by
  unfold cntL
  rw [rd_map_range h0 h1, Int.toNat_of_nonneg h0]
theorem cnt_pos {L R Ro : List Int} {x : Int} : 0 < cnt L R Ro x ↔ x ∈ L ∨ x ∈ R ∨ x ∈ Ro := by
  unfold cnt
  rw [← List.count_pos_iff, ← List.count_pos_iff, ← List.count_pos_iff]
  omega
theorem cnt_zero {L R Ro : List Int} {x : Int} : cnt L R Ro x = 0 ↔ x ∉ L ∧ x ∉ R ∧ x ∉ Ro := by
  have := @cnt_pos L R Ro x
  by_cases h : 0 < cnt L R Ro x
  · have h2 := this.1 h
    constructor
    · intro h3; omega
    · rintro ⟨a, b, c⟩; rcases h2 with h2 | h2 | h2 <;> contradiction
  · have h2 := mt this.2 h
    constructor
    · intro _; exact ⟨fun h => h2 (.inl h), fun h => h2 (.inr (.inl h)), fun h => h2 (.inr (.inr h))⟩
    · intro _; omega
theorem count_set_rd {xs : List Int} {i v x : Int} (h0 : 0 ≤ i) (h1 : i < xs.length) : ((xs.set i.toNat v).count x : Int) = xs.count x - (if rd xs i = x then 1 else 0) + (if v = x then 1 else 0) := by
  have hi : i.toNat < xs.length := by omega
  have hr : rd xs i = xs[i.toNat] := by unfold rd; rw [List.getD_eq_getElem?_getD, List.getElem?_eq_getElem hi, Option.getD_some]
  have hc : rd xs i = x → 1 ≤ xs.count x := fun h => by
    rw [← h]; exact List.count_pos_iff.2 (rd_mem h0 h1)
  rw [List.count_set hi, ← hr]
  by_cases a : rd xs i = x <;> by_cases b : v = x <;> simp [a, b] <;> have := hc <;> omega
/-! ### stores -/
def SV (L R Ro F : List Int) : Prop := HV L R Ro ∧ F.Nodup ∧ ∀ x ∈ F, (0 : Int) ≤ x ∧ x < L.length ∧ rd L x = -1 ∧ rd R x = -1 ∧ x ∉ L ∧ x ∉ R ∧ x ∉ Ro
instance {L R Ro F : List Int} : Decidable (SV L R Ro F) := by unfold SV; infer_instance
theorem SV.len {L R Ro F : List Int} (h : SV L R Ro F) : F.length ≤ L.length := pig _ _ h.2.1 fun x hx => ⟨(h.2.2 x hx).1, (h.2.2 x hx).2.1⟩
theorem SV.dead {L R Ro F : List Int} (h : SV L R Ro F) {x : Int} (hx : x ∈ F) : ¬Live L R Ro x := fun hl => by
  have := h.2.2 x hx
  rcases hl.mem h.1 with h | h | h
  · exact this.2.2.2.2.1 h
  · exact this.2.2.2.2.2.1 h
  · exact this.2.2.2.2.2.2 h
theorem SV.tail {L R Ro F : List Int} (h : SV L R Ro F) : SV L R Ro (F.drop 1) := by
  refine ⟨h.1, h.2.1.sublist (List.drop_sublist 1 F), fun x hx => h.2.2 x (List.mem_of_mem_drop hx)⟩
/-- The first free cell is taken. -/
theorem SV.take {L R Ro F : List Int} (h : SV L R Ro F) {r : Int} (h0 : 0 ≤ r) (h1 : r < Ro.length) (hF : F ≠ []) : SV L R (Ro.set r.toNat (rd F 0)) (F.drop 1) := by
  obtain ⟨hv, hn, hf⟩ := h
  obtain ⟨c, F, rfl⟩ := List.exists_cons_of_ne_nil hF
  have hc := hf c (by simp)
  refine ⟨hv.setRo ⟨by show -1 ≤ c; omega, hc.2.1⟩, ?_, ?_⟩
  · simpa using (List.nodup_cons.1 hn).2
  · intro x hx
    have hx' : x ∈ F := by simpa using hx
    have hxf := hf x (by simp [hx'])
    refine ⟨hxf.1, hxf.2.1, hxf.2.2.1, hxf.2.2.2.1, hxf.2.2.2.2.1, hxf.2.2.2.2.2.1, ?_⟩
    intro hm
    rcases mem_set_of hm with e | hm
    · have : x = c := e
      subst this
      exact (List.nodup_cons.1 hn).1 hx'
    · exact hxf.2.2.2.2.2.2 hm
/-! ### pointers that are given up -/
/-- A counted store under way: q are pointers that are still to be given up. -/
structure GI (L R Ro C F q : List Int) : Prop where
  hv : HV L R Ro
  clen : C.length = L.length
  qr : ∀ x : Int, x ∈ q → -1 ≤ x ∧ x < L.length
  sum : ∀ x : Int, 0 ≤ x → x < L.length → rd C x = cnt L R Ro x + q.count x
  nd : F.Nodup
  free : ∀ x : Int, x ∈ F → 0 ≤ x ∧ x < L.length ∧ rd L x = -1 ∧ rd R x = -1 ∧ rd C x = 0
theorem GI.none {L R Ro C F q : List Int} (h : GI L R Ro C F (-1 :: q)) : GI L R Ro C F q := by
  refine ⟨h.hv, h.clen, fun x hx => h.qr x (by simp [hx]), fun x h0 h1 => ?_, h.nd, h.free⟩
  rw [h.sum x h0 h1, List.count_cons]
  have : ((-1 : Int) == x) = false := by rw [beq_eq_false_iff_ne]; omega
  simp [this]
theorem GI.pos {L R Ro C F q : List Int} {c : Int} (h : GI L R Ro C F (c :: q)) (hc : 0 ≤ c) (hn : c < L.length) : 1 ≤ rd C c := by
  rw [h.sum c hc hn, List.count_cons]; simp; omega
theorem GI.down {L R Ro C F q : List Int} {c : Int} (h : GI L R Ro C F (c :: q)) (hc : 0 ≤ c) (hn : c < L.length) (hp : 0 < rd C c - 1) : GI L R Ro (C.set c.toNat (rd C c - 1)) F q := by
  have hl := h.clen
  refine ⟨h.hv, by simpa using hl, fun x hx => h.qr x (by simp [hx]), fun x h0 h1 => ?_, h.nd, fun x hx => ?_⟩
  · rw [rd_set hc h0 (by omega)]
    have hs := h.sum x h0 h1
    rw [List.count_cons] at hs
    split
    · rename_i e; subst e; simp at hs; omega
    · rename_i e
      have : (c == x) = false := by rw [beq_eq_false_iff_ne]; exact e
      simp [this] at hs; exact hs
  · have hf := h.free x hx
    have hne : c ≠ x := by intro e; subst e; omega
    rw [rd_set hc hf.1 (by omega), if_neg hne]
    exact hf
theorem GI.fall {L R Ro C F q : List Int} {c : Int} (h : GI L R Ro C F (c :: q)) (hc : 0 ≤ c) (hn : c < L.length) (hp : ¬0 < rd C c - 1) : GI (L.set c.toNat (-1)) (R.set c.toNat (-1)) Ro (C.set c.toNat (rd C c - 1)) (F ++ [c]) (q ++ [rd L c, rd R c]) := by
  have hl := h.clen
  have hrl := h.hv.2.2.1
  have hpos := h.pos hc hn
  have hcF : c ∉ F := fun hm => by have := (h.free c hm).2.2.2.2; omega
  have hv1 : HV (L.set c.toNat (-1)) R Ro := h.hv.setL (by omega)
  have hv2 : HV (L.set c.toNat (-1)) (R.set c.toNat (-1)) Ro := hv1.setR (by simp; omega)
  have hL := h.hv.rdL hc hn
  have hR := h.hv.rdR hc hn
  refine ⟨hv2, by simpa using hl, fun x hx => ?_, fun x h0 h1 => ?_, ?_, fun x hx => ?_⟩
  · rw [List.length_set]
    rw [List.mem_append] at hx
    rcases hx with hx | hx
    · exact h.qr x (by simp [hx])
    · have : x = rd L c ∨ x = rd R c := by simpa using hx
      rcases this with rfl | rfl
      · exact hL
      · exact hR
  · rw [List.length_set] at h1
    rw [rd_set hc h0 (by omega)]
    have hs := h.sum x h0 h1
    have e1 := count_set_rd (xs := L) (v := -1) (x := x) hc hn
    have e2 := count_set_rd (xs := R) (v := -1) (x := x) hc (by omega)
    unfold cnt at *
    rw [List.count_append, List.count_cons, List.count_cons, List.count_nil]
    rw [List.count_cons] at hs
    have hx1 : ¬(-1 : Int) = x := by omega
    rw [if_neg hx1] at e1 e2
    have b1 : ((rd L c == x) = true) ↔ rd L c = x := beq_iff_eq
    have b2 : ((rd R c == x) = true) ↔ rd R c = x := beq_iff_eq
    have b3 : ((c == x) = true) ↔ c = x := beq_iff_eq
    simp only [b1, b2]
    simp only [b3] at hs
    by_cases e : c = x
    · subst e
      rw [if_pos rfl]
      rw [if_pos rfl] at hs
      split <;> split <;> simp_all <;> omega
    · rw [if_neg e]
      rw [if_neg e] at hs
      split <;> split <;> simp_all <;> omega
  · rw [List.nodup_append]
    exact ⟨h.nd, by simp, fun a ha b hb => by simp at hb; subst hb; rintro rfl; exact hcF ha⟩
  · rw [List.length_set]
    rw [List.mem_append] at hx
    rcases hx with hx | hx
    · have hf := h.free x hx
      have hne : c ≠ x := by rintro rfl; exact hcF hx
      rw [rd_set hc hf.1 hn, rd_set hc hf.1 (by omega), rd_set hc hf.1 (by omega), if_neg hne, if_neg hne, if_neg hne]
      exact hf
    · obtain rfl : x = c := by simpa using hx
      rw [rd_set hc hc hn, rd_set hc hc (by omega), rd_set hc hc (by omega), if_pos rfl, if_pos rfl, if_pos rfl]
      exact ⟨hc, hn, rfl, rfl, by omega⟩
theorem GI.flen {L R Ro C F q : List Int} (h : GI L R Ro C F q) : F.length ≤ L.length := pig _ _ h.nd fun x hx => ⟨(h.free x hx).1, (h.free x hx).2.1⟩
theorem GI.cntL {L R Ro C F : List Int} (h : GI L R Ro C F []) : C = cntL L R Ro := by
  refine ext_rd (by rw [cntL_len, h.clen]) fun i hi => ?_
  have hl := h.clen
  rw [h.sum i (by omega) (by omega), rd_cntL (by omega) (by omega)]
  simp
theorem GI.sv {L R Ro C F q : List Int} (h : GI L R Ro C F q) : SV L R Ro F := by
  refine ⟨h.hv, h.nd, fun x hx => ?_⟩
  have hf := h.free x hx
  have hs := h.sum x hf.1 hf.2.1
  have hz : cnt L R Ro x = 0 := by omega
  exact ⟨hf.1, hf.2.1, hf.2.2.1, hf.2.2.2.1, cnt_zero.1 hz⟩
theorem GI.notq {L R Ro C F q : List Int} (h : GI L R Ro C F q) {x : Int} (hx : x ∈ F) : x ∉ q := by
  have hf := h.free x hx
  have hs := h.sum x hf.1 hf.2.1
  intro hm
  have := List.count_pos_iff.2 hm
  omega
/-- A valid counted store, at rest. -/
def KV (L R Ro F C : List Int) : Prop := SV L R Ro F ∧ C = cntL L R Ro
theorem GI.kv {L R Ro C F : List Int} (h : GI L R Ro C F []) : KV L R Ro F C := ⟨h.sv, h.cntL⟩
theorem KV.gi {L R Ro F C : List Int} (h : KV L R Ro F C) : GI L R Ro C F [] := by
  obtain ⟨h, rfl⟩ := h
  refine ⟨h.1, cntL_len, by simp, fun x h0 h1 => by rw [rd_cntL h0 h1]; simp, h.2.1, fun x hx => ?_⟩
  have hf := h.2.2 x hx
  refine ⟨hf.1, hf.2.1, hf.2.2.1, hf.2.2.2.1, ?_⟩
  rw [rd_cntL hf.1 hf.2.1, cnt_zero.2 hf.2.2.2.2]
  rfl
/-- Pointers are given up. -/
def dn : Nat → List Int → List Int → List Int → List Int → List Int → List Int × List Int × List Int × List Int
  | 0, L, R, F, C, _ => (L, R, F, C)
  | k + 1, L, R, F, C, [] => (L, R, F, C)
  | k + 1, L, R, F, C, c :: q =>
    if c = -1 then dn k L R F C q
    else if 0 < rd C c - 1 then dn k L R F (C.set c.toNat (rd C c - 1)) q
    else dn k (L.set c.toNat (-1)) (R.set c.toNat (-1)) (F ++ [c]) (C.set c.toNat (rd C c - 1)) (q ++ [rd L c, rd R c])
theorem dn_nil {k : Nat} {L R F C : List Int} : dn k L R F C [] = (L, R, F, C) := by cases k <;> rfl
/-- A way to speak of what a giving up comes to: what each step keeps, the end has. -/
theorem dn_ind {Ro : List Int} {P : List Int → List Int → List Int → List Int → List Int → Prop}
    (h1 : ∀ L R F C q, GI L R Ro C F (-1 :: q) → P L R F C (-1 :: q) → P L R F C q)
    (h2 : ∀ L R F C c q, GI L R Ro C F (c :: q) → 0 ≤ c → c < L.length → 0 < rd C c - 1 → P L R F C (c :: q) → P L R F (C.set c.toNat (rd C c - 1)) q)
    (h3 : ∀ L R F C c q, GI L R Ro C F (c :: q) → 0 ≤ c → c < L.length → rd C c = 1 → P L R F C (c :: q) → P (L.set c.toNat (-1)) (R.set c.toNat (-1)) (F ++ [c]) (C.set c.toNat (rd C c - 1)) (q ++ [rd L c, rd R c])) :
    ∀ (k : Nat) (L R F C q : List Int), GI L R Ro C F q → P L R F C q → 3 * (L.length - F.length) + q.length ≤ k → ∃ L' R' F' C', dn k L R F C q = (L', R', F', C') ∧ GI L' R' Ro C' F' [] ∧ P L' R' F' C' [] := by
  intro k
  induction k with
  | zero =>
    intro L R F C q hg hp hk
    have : q = [] := List.length_eq_zero_iff.1 (by omega)
    subst this
    exact ⟨_, _, _, _, rfl, hg, hp⟩
  | succ k ih =>
    intro L R F C q hg hp hk
    cases q with
    | nil => exact ⟨_, _, _, _, rfl, hg, hp⟩
    | cons c q =>
      have hr := hg.qr c (by simp)
      have hfl := hg.flen
      rw [List.length_cons] at hk
      unfold dn
      by_cases e : c = -1
      · rw [if_pos e]
        subst e
        exact ih _ _ _ _ _ hg.none (h1 _ _ _ _ _ hg hp) (by omega)
      · rw [if_neg e]
        have hc : (0 : Int) ≤ c := by omega
        by_cases e2 : 0 < rd C c - 1
        · rw [if_pos e2]
          exact ih _ _ _ _ _ (hg.down hc hr.2 e2) (h2 _ _ _ _ _ _ hg hc hr.2 e2 hp) (by omega)
        · rw [if_neg e2]
          have hpos := hg.pos hc hr.2
          have hg' := hg.fall hc hr.2 e2
          have hfl' := hg'.flen
          rw [List.length_set, List.length_append, List.length_singleton] at hfl'
          refine ih _ _ _ _ _ hg' (h3 _ _ _ _ _ _ hg hc hr.2 (by omega) hp) ?_
          rw [List.length_set, List.length_append, List.length_append, List.length_singleton]
          simp only [List.length_cons, List.length_nil]
          omega
/-- What holds of all givings up. -/
structure DnSays (Ro L R F C L' R' F' C' : List Int) : Prop where
  gi : GI L' R' Ro C' F' []
  llen : L'.length = L.length
  pre : F <+: F'
  le : ∀ x : Int, 0 ≤ x → x < L.length → rd C' x ≤ rd C x
  iff : ∀ x : Int, 0 ≤ x → x < L.length → (x ∈ F ↔ rd C x = 0) → (x ∈ F' ↔ rd C' x = 0)
  keepL : ∀ x : Int, 0 ≤ x → x < L.length → (x ∈ Ro ∨ rd L x = x) → rd L' x = rd L x
  zero : ∀ x : Int, 0 ≤ x → x < L.length → rd C x = 0 → rd C' x = 0
def DnP (Ro L R F C L' R' F' C' : List Int) : Prop :=
  L'.length = L.length ∧ F <+: F' ∧ (∀ x : Int, 0 ≤ x → x < L.length → rd C' x ≤ rd C x) ∧ (∀ x : Int, 0 ≤ x → x < L.length → (x ∈ F ↔ rd C x = 0) → (x ∈ F' ↔ rd C' x = 0)) ∧ (∀ x : Int, 0 ≤ x → x < L.length → (x ∈ Ro ∨ rd L x = x) → rd L' x = rd L x) ∧ (∀ x : Int, 0 ≤ x → x < L.length → rd C x = 0 → rd C' x = 0)
theorem dn_says {Ro L R F C q : List Int} {k : Nat} (hg : GI L R Ro C F q) (hk : 24 + q.length ≤ k) : ∃ L' R' F' C', dn k L R F C q = (L', R', F', C') ∧ DnSays Ro L R F C L' R' F' C' := by
  have h8 := hg.hv.2.1
  suffices H : ∃ L' R' F' C', dn k L R F C q = (L', R', F', C') ∧ GI L' R' Ro C' F' [] ∧ DnP Ro L R F C L' R' F' C' by
    obtain ⟨L', R', F', C', e, g, p⟩ := H
    exact ⟨L', R', F', C', e, g, p.1, p.2.1, p.2.2.1, p.2.2.2.1, p.2.2.2.2.1, p.2.2.2.2.2⟩
  refine dn_ind (Ro := Ro) (P := fun L' R' F' C' q' => DnP Ro L R F C L' R' F' C') (fun _ _ _ _ _ _ p => p) ?_ ?_ k L R F C q hg ⟨rfl, List.prefix_refl _, fun x _ _ => Int.le_refl _, fun x _ _ h => h, fun x _ _ _ => rfl, fun x _ _ h => h⟩ (by omega)
  · intro L2 R2 F2 C2 c q2 g hc hn hp ⟨p1, p2, p3, p4, p5, p6⟩
    have hl := g.clen
    refine ⟨p1, p2, fun x h0 h1 => ?_, fun x h0 h1 hx => ?_, p5, fun x h0 h1 hx => ?_⟩
    · rw [rd_set hc h0 (by omega)]; have := p3 x h0 h1; split
      · rename_i e; subst e; omega
      · omega
    · rw [p4 x h0 h1 hx, rd_set hc h0 (by omega)]; split
      · rename_i e; subst e; omega
      · rfl
    · have := p6 x h0 h1 hx
      rw [rd_set hc h0 (by omega), if_neg (by rintro rfl; omega)]; exact this
  · intro L2 R2 F2 C2 c q2 g hc hn hp ⟨p1, p2, p3, p4, p5, p6⟩
    have hl := g.clen
    have hs := g.sum c hc hn
    rw [List.count_cons] at hs
    simp at hs
    have hz : cnt L2 R2 Ro c = 0 := by omega
    have hz' := cnt_zero.1 hz
    refine ⟨by simpa using p1, p2.trans (List.prefix_append _ _), fun x h0 h1 => ?_, fun x h0 h1 hx => ?_, fun x h0 h1 hx => ?_, fun x h0 h1 hx => ?_⟩
    · rw [rd_set hc h0 (by omega)]; have := p3 x h0 h1; split
      · rename_i e; subst e; omega
      · omega
    · rw [List.mem_append, p4 x h0 h1 hx, rd_set hc h0 (by omega), List.mem_singleton]
      by_cases e : c = x
      · subst e; rw [if_pos rfl]; exact ⟨fun _ => by omega, fun _ => .inr rfl⟩
      · rw [if_neg e]; exact ⟨fun h => h.elim id (fun h => absurd h.symm e), .inl⟩
    · have h5 := p5 x h0 h1 hx
      rw [rd_set hc h0 (by omega), if_neg ?_]
      · exact h5
      · rintro rfl
        rcases hx with hx | hx
        · exact hz'.2.2 hx
        · rw [hx] at h5
          exact hz'.1 (by rw [← h5]; exact rd_mem hc (by omega))
    · have := p6 x h0 h1 hx
      rw [rd_set hc h0 (by omega), if_neg (by rintro rfl; omega)]; exact this
end Go.Proofs.YtnfaiojmabolmaaDoor.T
