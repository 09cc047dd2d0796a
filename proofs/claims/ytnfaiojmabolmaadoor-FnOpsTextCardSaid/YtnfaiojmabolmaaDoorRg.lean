/- Texts of lists of operations are read back: what ParseOps computes, on both sides. -/
import Derived.Test.YtnfaiojmabolmaaDoorRe
namespace Go.Proofs.YtnfaiojmabolmaaDoor.T
open Go Go.RowKit Go.Proofs.YtnfaiojmabolmaaDoor.S Go.Proofs.YtnfaiojmabolmaaDoor.F
set_option linter.unusedVariables false
set_option linter.unusedSimpArgs false
section
variable {K : Nat} {s : ByteArray} {κ : Unit → Option (Int × Int × Int × Bool)} {k : Int}
theorem spec_m2 (hK : 20 ≤ K) {a : Int} : spec_ParseOp.loop2 K κ s k a K 0 = pv2 s (κ ()) k a := by
  obtain ⟨n, rfl⟩ : ∃ n, K = n + 20 := ⟨K - 20, by omega⟩
  have step : ∀ (m b : Nat), b < 3 → spec_ParseOp.loop2 (n + 20) κ s k a (m + 1) (b : Int) = if s.toList = (⟨#[]⟩ : ByteArray).toList then spec_ParseOp.loop2 (n + 20) κ s k a m ((b + 1 : Nat) : Int) else if (tx k a b).toList = s.toList then some (k, a, (b : Int), true) else spec_ParseOp.loop2 (n + 20) κ s k a m ((b + 1 : Nat) : Int) := by
    intro m b hb
    rw [spec_ParseOp.loop2, if_pos (by omega), fmtS, b1_some, w64 (x := (b : Int) + 1) (by omega) (by omega)]
    rfl
  have stop : ∀ m : Nat, spec_ParseOp.loop2 (n + 20) κ s k a (m + 1) ((3 : Nat) : Int) = κ () := by
    intro m
    rw [spec_ParseOp.loop2, if_neg (by omega)]
  show spec_ParseOp.loop2 (n + 20) κ s k a (n + 16 + 1 + 1 + 1 + 1) ((0 : Nat) : Int) = _
  rw [step _ 0 (by omega), step _ 1 (by omega), step _ 2 (by omega), stop]
  unfold pv2
  by_cases c : s.toList = (⟨#[]⟩ : ByteArray).toList
  · rw [if_pos c, if_pos c, if_pos c, if_pos c]
  · rw [if_neg c, if_neg c, if_neg c, if_neg c]
    rfl
theorem spec_m1 (hK : 20 ≤ K) : spec_ParseOp.loop1 K κ s k K 0 = pv1 s (κ ()) k := by
  have step : ∀ (m a : Nat), a < 3 → spec_ParseOp.loop1 K κ s k (m + 1) (a : Int) = pv2 s (spec_ParseOp.loop1 K κ s k m ((a + 1 : Nat) : Int)) k a := by
    intro m a ha
    rw [spec_ParseOp.loop1, if_pos (by omega), spec_m2 hK, w64 (x := (a : Int) + 1) (by omega) (by omega)]
    rfl
  have stop : ∀ m : Nat, spec_ParseOp.loop1 K κ s k (m + 1) ((3 : Nat) : Int) = κ () := by
    intro m
    rw [spec_ParseOp.loop1, if_neg (by omega)]
  have h : ∀ n, n = K → spec_ParseOp.loop1 K κ s k n ((0 : Nat) : Int) = pv1 s (κ ()) k := by
    intro n hn
    obtain ⟨n, rfl⟩ : ∃ n', n = n' + 1 + 1 + 1 + 1 := ⟨n - 4, by omega⟩
    rw [step _ 0 (by omega), step _ 1 (by omega), step _ 2 (by omega), stop]
    rfl
  exact h K rfl
theorem specP (hK : 20 ≤ K) : spec_ParseOp.f K s = pv0 s := by
  unfold spec_ParseOp.f
  have step : ∀ (m k : Nat), 1 ≤ k ∧ k ≤ 7 → spec_ParseOp.loop0 K (fun _ => some ((0:Int), (0:Int), (0:Int), false)) s (m + 1) (k : Int) = pv1 s (spec_ParseOp.loop0 K (fun _ => some ((0:Int), (0:Int), (0:Int), false)) s m ((k + 1 : Nat) : Int)) k := by
    intro m k hk
    rw [spec_ParseOp.loop0, if_pos (by omega), spec_m1 hK, w64 (x := (k : Int) + 1) (by omega) (by omega)]
    rfl
  have stop : ∀ m : Nat, spec_ParseOp.loop0 K (fun _ => some ((0:Int), (0:Int), (0:Int), false)) s (m + 1) ((8 : Nat) : Int) = some ((0:Int), (0:Int), (0:Int), false) := by
    intro m
    rw [spec_ParseOp.loop0, if_neg (by omega)]
  have h : ∀ n, n = K → spec_ParseOp.loop0 K (fun _ => some ((0:Int), (0:Int), (0:Int), false)) s n ((1 : Nat) : Int) = pv0 s := by
    intro n hn
    obtain ⟨n, rfl⟩ : ∃ n', n = n' + 1 + 1 + 1 + 1 + 1 + 1 + 1 + 1 := ⟨n - 8, by omega⟩
    rw [step _ 1 (by omega), step _ 2 (by omega), step _ 3 (by omega), step _ 4 (by omega), step _ 5 (by omega), step _ 6 (by omega), step _ 7 (by omega), stop]
    rfl
  exact h K rfl
theorem impl_m2 (hK : 20 ≤ K) {a : Int} : impl_ParseOp.loop2 K κ s k a K 0 = pv2 s (κ ()) k a := by
  obtain ⟨n, rfl⟩ : ∃ n, K = n + 20 := ⟨K - 20, by omega⟩
  have step : ∀ (m b : Nat), b < 3 → impl_ParseOp.loop2 (n + 20) κ s k a (m + 1) (b : Int) = if s.toList = (⟨#[]⟩ : ByteArray).toList then impl_ParseOp.loop2 (n + 20) κ s k a m ((b + 1 : Nat) : Int) else if (tx k a b).toList = s.toList then some (k, a, (b : Int), true) else impl_ParseOp.loop2 (n + 20) κ s k a m ((b + 1 : Nat) : Int) := by
    intro m b hb
    rw [impl_ParseOp.loop2, if_pos (by omega), fmtI, b1_some, w64 (x := (b : Int) + 1) (by omega) (by omega)]
    rfl
  have stop : ∀ m : Nat, impl_ParseOp.loop2 (n + 20) κ s k a (m + 1) ((3 : Nat) : Int) = κ () := by
    intro m
    rw [impl_ParseOp.loop2, if_neg (by omega)]
  show impl_ParseOp.loop2 (n + 20) κ s k a (n + 16 + 1 + 1 + 1 + 1) ((0 : Nat) : Int) = _
  rw [step _ 0 (by omega), step _ 1 (by omega), step _ 2 (by omega), stop]
  unfold pv2
  by_cases c : s.toList = (⟨#[]⟩ : ByteArray).toList
  · rw [if_pos c, if_pos c, if_pos c, if_pos c]
  · rw [if_neg c, if_neg c, if_neg c, if_neg c]
    rfl
theorem impl_m1 (hK : 20 ≤ K) : impl_ParseOp.loop1 K κ s k K 0 = pv1 s (κ ()) k := by
  have step : ∀ (m a : Nat), a < 3 → impl_ParseOp.loop1 K κ s k (m + 1) (a : Int) = pv2 s (impl_ParseOp.loop1 K κ s k m ((a + 1 : Nat) : Int)) k a := by
    intro m a ha
    rw [impl_ParseOp.loop1, if_pos (by omega), impl_m2 hK, w64 (x := (a : Int) + 1) (by omega) (by omega)]
    rfl
  have stop : ∀ m : Nat, impl_ParseOp.loop1 K κ s k (m + 1) ((3 : Nat) : Int) = κ () := by
    intro m
    rw [impl_ParseOp.loop1, if_neg (by omega)]
  have h : ∀ n, n = K → impl_ParseOp.loop1 K κ s k n ((0 : Nat) : Int) = pv1 s (κ ()) k := by
    intro n hn
    obtain ⟨n, rfl⟩ : ∃ n', n = n' + 1 + 1 + 1 + 1 := ⟨n - 4, by omega⟩
    rw [step _ 0 (by omega), step _ 1 (by omega), step _ 2 (by omega), stop]
    rfl
  exact h K rfl
theorem implP (hK : 20 ≤ K) : impl_ParseOp.f K s = pv0 s := by
  unfold impl_ParseOp.f
  have step : ∀ (m k : Nat), 1 ≤ k ∧ k ≤ 7 → impl_ParseOp.loop0 K (fun _ => some ((0:Int), (0:Int), (0:Int), false)) s (m + 1) (k : Int) = pv1 s (impl_ParseOp.loop0 K (fun _ => some ((0:Int), (0:Int), (0:Int), false)) s m ((k + 1 : Nat) : Int)) k := by
    intro m k hk
    rw [impl_ParseOp.loop0, if_pos (by omega), impl_m1 hK, w64 (x := (k : Int) + 1) (by omega) (by omega)]
    rfl
  have stop : ∀ m : Nat, impl_ParseOp.loop0 K (fun _ => some ((0:Int), (0:Int), (0:Int), false)) s (m + 1) ((8 : Nat) : Int) = some ((0:Int), (0:Int), (0:Int), false) := by
    intro m
    rw [impl_ParseOp.loop0, if_neg (by omega)]
  have h : ∀ n, n = K → impl_ParseOp.loop0 K (fun _ => some ((0:Int), (0:Int), (0:Int), false)) s n ((1 : Nat) : Int) = pv0 s := by
    intro n hn
    obtain ⟨n, rfl⟩ : ∃ n', n = n' + 1 + 1 + 1 + 1 + 1 + 1 + 1 + 1 := ⟨n - 8, by omega⟩
    rw [step _ 1 (by omega), step _ 2 (by omega), step _ 3 (by omega), step _ 4 (by omega), step _ 5 (by omega), step _ 6 (by omega), step _ 7 (by omega), stop]
    rfl
  exact h K rfl
end
/-! ### one operation -/
theorem pv0_ok {s : ByteArray} {k a b : Int} (h : pv0 s = some (k, a, b, true)) : oV1 (k, a, b) ∧ s = txo (k, a, b) := by
  obtain ⟨_, e⟩ := pv0_says s _ h rfl
  have e2 : s = tx k a b := (toList_inj e).symm
  by_cases v : OpV k a b 3
  · exact ⟨v, e2⟩
  · rw [e2, tx_none v, pv0_empty] at h
    cases h
/-- The operation that a piece tells. -/
def prs (s : ByteArray) : Option (Int × Int × Int) := match pv0 s with
  | some (k, a, b, true) => some (k, a, b)
  | _ => none
theorem prs_ok {s : ByteArray} {o : Int × Int × Int} (h : prs s = some o) : oV1 o ∧ s = txo o := by
  unfold prs at h
  split at h
  · rename_i k a b e
    cases h
    exact pv0_ok e
  · cases h
theorem prs_tx {o : Int × Int × Int} (h : oV1 o) : prs (txo o) = some o := by
  unfold prs txo
  rw [pv0_tx h]
theorem pv0_prs (s : ByteArray) {β : Type} (f : Int → Int → Int → Option β) (z : Option β) : (b4 (pv0 s) fun k a b ok => if ok = true then f k a b else z) = match prs s with
    | some o => f o.1 o.2.1 o.2.2
    | none => z := by
  obtain ⟨⟨k, a, b, ok⟩, e⟩ := pv0_ex s
  unfold prs
  rw [e, b4_some]
  cases ok with
  | true => rw [if_pos rfl]
  | false => rw [if_neg (by simp)]
/-! ### pieces read one after the other -/
def mt (f : Nat → ByteArray → Option (Int × Int × Int)) : Nat → List ByteArray → Option Ops
  | _, [] => some []
  | i, x :: r => (f i x).bind fun o => (mt f (i + 1) r).map (o :: ·)
def res (out : Ops) : Option Ops → Ops × Bool
  | some o => (out ++ o, true)
  | none => ([], false)
theorem res_cons {f : Nat → ByteArray → Option (Int × Int × Int)} {out : Ops} {i : Nat} {x : ByteArray} {r : List ByteArray} : res out (mt f i (x :: r)) = match f i x with
    | some o => res (out ++ [o]) (mt f (i + 1) r)
    | none => ([], false) := by
  rw [mt]
  cases f i x with
  | none => rfl
  | some o =>
    rw [Option.bind_some]
    cases hq : mt f (i + 1) r with
    | none => rfl
    | some q =>
      show (out ++ o :: q, true) = ((out ++ [o]) ++ q, true)
      rw [List.append_assoc]
      rfl
/-- A piece, as the program reads it. -/
def fI (i : Nat) (x : ByteArray) : Option (Int × Int × Int) := if i = 12 then none else prs x
theorem mtI_ok : ∀ {xs : List ByteArray} {i : Nat} {o : Ops}, i ≤ 12 → mt fI i xs = some o → xs = o.map txo ∧ (∀ x ∈ o, oV1 x) ∧ i + o.length ≤ 12
  | [], i, o, hi, h => by
    unfold mt at h
    cases h
    exact ⟨rfl, by simp, hi⟩
  | x :: r, i, o, hi, h => by
    unfold mt at h
    obtain ⟨q, hq, h⟩ := Option.bind_eq_some_iff.1 h
    obtain ⟨t, ht, rfl⟩ := Option.map_eq_some_iff.1 h
    unfold fI at hq
    by_cases c : i = 12
    · rw [if_pos c] at hq; cases hq
    rw [if_neg c] at hq
    obtain ⟨v, rfl⟩ := prs_ok hq
    obtain ⟨e1, e2, e3⟩ := mtI_ok (by omega) ht
    refine ⟨by rw [e1]; rfl, fun y hy => ?_, by simp; omega⟩
    rcases List.mem_cons.1 hy with rfl | hy
    · exact v
    · exact e2 y hy
theorem mtI_back : ∀ {o : Ops} {i : Nat}, (∀ x ∈ o, oV1 x) → i + o.length ≤ 12 → mt fI i (o.map txo) = some o
  | [], i, _, _ => rfl
  | x :: r, i, h, hl => by
    simp only [List.length_cons] at hl
    rw [List.map_cons, mt, fI, if_neg (by omega), prs_tx (h x (by simp)), Option.bind_some, mtI_back (fun y hy => h y (List.mem_cons_of_mem _ hy)) (by omega)]
    rfl
/-- A piece, as the reference reads it. -/
def fS (i : Nat) (x : ByteArray) : Option (Int × Int × Int) := match i, dL x with
  | 0, _ => prs x
  | _ + 1, [] => none
  | _ + 1, b :: r => if b = 32 then prs (oL r) else none
def bl (o : Int × Int × Int) : Bs := 32 :: dL (txo o)
theorem mtS_ok : ∀ {xs : List ByteArray} {i : Nat} {o : Ops}, mt fS (i + 1) xs = some o → xs.map dL = o.map bl ∧ ∀ x ∈ o, oV1 x
  | [], i, o, h => by
    unfold mt at h
    cases h
    exact ⟨rfl, by simp⟩
  | x :: r, i, o, h => by
    unfold mt at h
    obtain ⟨q, hq, h⟩ := Option.bind_eq_some_iff.1 h
    obtain ⟨t, ht, rfl⟩ := Option.map_eq_some_iff.1 h
    obtain ⟨e1, e2⟩ := mtS_ok ht
    have key : dL x = bl q ∧ oV1 q := by
      unfold fS at hq
      cases hx : dL x with
      | nil => rw [hx] at hq; cases hq
      | cons b l =>
        rw [hx] at hq
        simp only [] at hq
        by_cases c : b = 32
        · rw [if_pos c] at hq
          obtain ⟨v, e⟩ := prs_ok hq
          refine ⟨?_, v⟩
          rw [c, bl, ← e]
          rfl
        · rw [if_neg c] at hq; cases hq
    refine ⟨by rw [List.map_cons, List.map_cons, e1, key.1], fun y hy => ?_⟩
    rcases List.mem_cons.1 hy with rfl | hy
    · exact key.2
    · exact e2 y hy
theorem mtS_back : ∀ {o : Ops} {i : Nat}, (∀ x ∈ o, oV1 x) → mt fS (i + 1) (o.map fun q => oL (bl q)) = some o
  | [], i, _ => rfl
  | x :: r, i, h => by
    have e : fS (i + 1) (oL (bl x)) = some x := by
      unfold fS
      rw [show dL (oL (bl x)) = 32 :: dL (txo x) from rfl]
      simp only []
      rw [if_pos trivial, oL_dL, prs_tx (h x (by simp))]
    rw [List.map_cons, mt, e, Option.bind_some, mtS_back (fun y hy => h y (List.mem_cons_of_mem _ hy))]
    rfl
end Go.Proofs.YtnfaiojmabolmaaDoor.T
