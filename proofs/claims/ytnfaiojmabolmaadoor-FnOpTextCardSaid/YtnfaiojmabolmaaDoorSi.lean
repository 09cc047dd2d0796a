/- The words that the generator's texts use: decisions read off a pure function's value, and the operations at typed rows. It says nothing of any program. -/
import Derived.Test.YtnfaiojmabolmaaDoorSh
namespace Go.Proofs.YtnfaiojmabolmaaDoor.S
open Go Go.RowKit
set_option linter.unusedVariables false
set_option linter.unusedSimpArgs false

/-! ### decisions -/
theorem of_if {α : Type} {p : Prop} [Decidable p] {a b o : α} (h : (if p then a else b) = o) : (p ∧ a = o) ∨ (¬p ∧ b = o) := by
  by_cases c : p
  · rw [if_pos c] at h; exact .inl ⟨c, h⟩
  · rw [if_neg c] at h; exact .inr ⟨c, h⟩
theorem of_guard {α : Type} {p : Prop} [Decidable p] {a : Option α} {r : α} (h : (if p then a else none) = some r) : p ∧ a = some r := by
  rcases of_if h with h | h
  · exact h
  · exact absurd h.2 nofun
def b1 {α β : Type} (o : Option α) (f : α → Option β) : Option β := o.bind f
def b2 {α α' β : Type} (o : Option (α × α')) (f : α → α' → Option β) : Option β := o.bind fun x => f x.1 x.2
def b3 {α α' α'' β : Type} (o : Option (α × α' × α'')) (f : α → α' → α'' → Option β) : Option β := o.bind fun x => f x.1 x.2.1 x.2.2
def b4 {α1 α2 α3 α4 β : Type} (o : Option (α1 × α2 × α3 × α4)) (f : α1 → α2 → α3 → α4 → Option β) : Option β := o.bind fun x => f x.1 x.2.1 x.2.2.1 x.2.2.2
def b5 {α1 α2 α3 α4 α5 β : Type} (o : Option (α1 × α2 × α3 × α4 × α5)) (f : α1 → α2 → α3 → α4 → α5 → Option β) : Option β := o.bind fun x => f x.1 x.2.1 x.2.2.1 x.2.2.2.1 x.2.2.2.2
def b6 {α1 α2 α3 α4 α5 α6 β : Type} (o : Option (α1 × α2 × α3 × α4 × α5 × α6)) (f : α1 → α2 → α3 → α4 → α5 → α6 → Option β) : Option β := o.bind fun x => f x.1 x.2.1 x.2.2.1 x.2.2.2.1 x.2.2.2.2.1 x.2.2.2.2.2
def b7 {α1 α2 α3 α4 α5 α6 α7 β : Type} (o : Option (α1 × α2 × α3 × α4 × α5 × α6 × α7)) (f : α1 → α2 → α3 → α4 → α5 → α6 → α7 → Option β) : Option β := o.bind fun x => f x.1 x.2.1 x.2.2.1 x.2.2.2.1 x.2.2.2.2.1 x.2.2.2.2.2.1 x.2.2.2.2.2.2
def b8 {α1 α2 α3 α4 α5 α6 α7 α8 β : Type} (o : Option (α1 × α2 × α3 × α4 × α5 × α6 × α7 × α8)) (f : α1 → α2 → α3 → α4 → α5 → α6 → α7 → α8 → Option β) : Option β := o.bind fun x => f x.1 x.2.1 x.2.2.1 x.2.2.2.1 x.2.2.2.2.1 x.2.2.2.2.2.1 x.2.2.2.2.2.2.1 x.2.2.2.2.2.2.2
def b9 {α1 α2 α3 α4 α5 α6 α7 α8 α9 β : Type} (o : Option (α1 × α2 × α3 × α4 × α5 × α6 × α7 × α8 × α9)) (f : α1 → α2 → α3 → α4 → α5 → α6 → α7 → α8 → α9 → Option β) : Option β := o.bind fun x => f x.1 x.2.1 x.2.2.1 x.2.2.2.1 x.2.2.2.2.1 x.2.2.2.2.2.1 x.2.2.2.2.2.2.1 x.2.2.2.2.2.2.2.1 x.2.2.2.2.2.2.2.2
def b10 {α1 α2 α3 α4 α5 α6 α7 α8 α9 α10 β : Type} (o : Option (α1 × α2 × α3 × α4 × α5 × α6 × α7 × α8 × α9 × α10)) (f : α1 → α2 → α3 → α4 → α5 → α6 → α7 → α8 → α9 → α10 → Option β) : Option β := o.bind fun x => f x.1 x.2.1 x.2.2.1 x.2.2.2.1 x.2.2.2.2.1 x.2.2.2.2.2.1 x.2.2.2.2.2.2.1 x.2.2.2.2.2.2.2.1 x.2.2.2.2.2.2.2.2.1 x.2.2.2.2.2.2.2.2.2
theorem of_b1 {α β : Type} {o : Option α} {f : α → Option β} {r : β} (h : b1 o f = some r) : ∃ x, o = some x ∧ f x = some r := Option.bind_eq_some_iff.1 h
theorem of_b2 {α α' β : Type} {o : Option (α × α')} {f : α → α' → Option β} {r : β} (h : b2 o f = some r) : ∃ x y, o = some (x, y) ∧ f x y = some r := by
  obtain ⟨⟨x, y⟩, h1, h2⟩ := Option.bind_eq_some_iff.1 h; exact ⟨x, y, h1, h2⟩
theorem of_b3 {α α' α'' β : Type} {o : Option (α × α' × α'')} {f : α → α' → α'' → Option β} {r : β} (h : b3 o f = some r) : ∃ x y z, o = some (x, y, z) ∧ f x y z = some r := by
  obtain ⟨⟨x, y, z⟩, h1, h2⟩ := Option.bind_eq_some_iff.1 h; exact ⟨x, y, z, h1, h2⟩
theorem of_b4 {α1 α2 α3 α4 β : Type} {o : Option (α1 × α2 × α3 × α4)} {f : α1 → α2 → α3 → α4 → Option β} {r : β} (h : b4 o f = some r) : ∃ a b c d, o = some (a, b, c, d) ∧ f a b c d = some r := by
  obtain ⟨⟨a, b, c, d⟩, h1, h2⟩ := Option.bind_eq_some_iff.1 h; exact ⟨a, b, c, d, h1, h2⟩
theorem of_b5 {α1 α2 α3 α4 α5 β : Type} {o : Option (α1 × α2 × α3 × α4 × α5)} {f : α1 → α2 → α3 → α4 → α5 → Option β} {r : β} (h : b5 o f = some r) : ∃ a b c d e, o = some (a, b, c, d, e) ∧ f a b c d e = some r := by
  obtain ⟨⟨a, b, c, d, e⟩, h1, h2⟩ := Option.bind_eq_some_iff.1 h; exact ⟨a, b, c, d, e, h1, h2⟩
theorem of_b6 {α1 α2 α3 α4 α5 α6 β : Type} {o : Option (α1 × α2 × α3 × α4 × α5 × α6)} {f : α1 → α2 → α3 → α4 → α5 → α6 → Option β} {r : β} (h : b6 o f = some r) : ∃ a b c d e g, o = some (a, b, c, d, e, g) ∧ f a b c d e g = some r := by
  obtain ⟨⟨a, b, c, d, e, g⟩, h1, h2⟩ := Option.bind_eq_some_iff.1 h; exact ⟨a, b, c, d, e, g, h1, h2⟩
theorem of_b7 {α1 α2 α3 α4 α5 α6 α7 β : Type} {o : Option (α1 × α2 × α3 × α4 × α5 × α6 × α7)} {f : α1 → α2 → α3 → α4 → α5 → α6 → α7 → Option β} {r : β} (h : b7 o f = some r) : ∃ a b c d e g i, o = some (a, b, c, d, e, g, i) ∧ f a b c d e g i = some r := by
  obtain ⟨⟨a, b, c, d, e, g, i⟩, h1, h2⟩ := Option.bind_eq_some_iff.1 h; exact ⟨a, b, c, d, e, g, i, h1, h2⟩
theorem of_b8 {α1 α2 α3 α4 α5 α6 α7 α8 β : Type} {o : Option (α1 × α2 × α3 × α4 × α5 × α6 × α7 × α8)} {f : α1 → α2 → α3 → α4 → α5 → α6 → α7 → α8 → Option β} {r : β} (h : b8 o f = some r) : ∃ a b c d e g i j, o = some (a, b, c, d, e, g, i, j) ∧ f a b c d e g i j = some r := by
  obtain ⟨⟨a, b, c, d, e, g, i, j⟩, h1, h2⟩ := Option.bind_eq_some_iff.1 h; exact ⟨a, b, c, d, e, g, i, j, h1, h2⟩
theorem of_b9 {α1 α2 α3 α4 α5 α6 α7 α8 α9 β : Type} {o : Option (α1 × α2 × α3 × α4 × α5 × α6 × α7 × α8 × α9)} {f : α1 → α2 → α3 → α4 → α5 → α6 → α7 → α8 → α9 → Option β} {r : β} (h : b9 o f = some r) : ∃ a b c d e g i j k, o = some (a, b, c, d, e, g, i, j, k) ∧ f a b c d e g i j k = some r := by
  obtain ⟨⟨a, b, c, d, e, g, i, j, k⟩, h1, h2⟩ := Option.bind_eq_some_iff.1 h; exact ⟨a, b, c, d, e, g, i, j, k, h1, h2⟩
theorem of_b10 {α1 α2 α3 α4 α5 α6 α7 α8 α9 α10 β : Type} {o : Option (α1 × α2 × α3 × α4 × α5 × α6 × α7 × α8 × α9 × α10)} {f : α1 → α2 → α3 → α4 → α5 → α6 → α7 → α8 → α9 → α10 → Option β} {r : β} (h : b10 o f = some r) : ∃ a b c d e g i j k l, o = some (a, b, c, d, e, g, i, j, k, l) ∧ f a b c d e g i j k l = some r := by
  obtain ⟨⟨a, b, c, d, e, g, i, j, k, l⟩, h1, h2⟩ := Option.bind_eq_some_iff.1 h; exact ⟨a, b, c, d, e, g, i, j, k, l, h1, h2⟩
theorem bne_f {α : Type} [BEq α] [LawfulBEq α] {a b : α} (h : a = b) : (a != b) = false := by subst h; simp
theorem bne_t {α : Type} [BEq α] [LawfulBEq α] {a b : α} (h : ¬a = b) : (a != b) = true := by simpa using h
theorem beq_f {α : Type} [BEq α] [LawfulBEq α] {a b : α} (h : ¬a = b) : (a == b) = false := by simpa using h
theorem beq_t {α : Type} [BEq α] [LawfulBEq α] {a b : α} (h : a = b) : (a == b) = true := by simpa using h
theorem not_t {b : Bool} (h : b = false) : (!b) = true := by rw [h]; rfl
theorem not_f {b : Bool} (h : b = true) : (!b) = false := by rw [h]; rfl
theorem var_f {b : Bool} (h : ¬b = true) : b = false := by simpa using h

section
variable {n : Nat} {E : List (Nat × Value)} {w0 : World} {rs : List Res} {P : Program} {o : Oper}
/-! ### ghosts -/
/-- Where a new row lies, and that its length is k. -/
structure Sl (k : Nat) : Type where
  A : Option Addr
  n : Nat
  c : Nat
  h : k = n
/-- A row's length has not turned. -/
structure Ln (k n : Nat) : Type where
  h : k = n
theorem ex_k {α : Sort _} {g : α → Prop} {x : α} (h : g x) : ∃ κ, g κ ∧ x = κ := ⟨x, h, rfl⟩
theorem d_join {ops : Array Oper} {Q : Exit → Act → World → Prop} {S : List Res} {fuel : Nat} {listed : Array Bool} {σ : Type} (fuel' : Nat) (listed' : Array Bool) (Es : σ → List (Nat × Value)) (Rs : σ → List Res)
    (hnext : ∀ s, J (Dr P ops Q w0 S fuel' listed') n (Es s) w0 (Rs s)) (h : (∀ s, J (Dr P ops Q w0 S fuel' listed') n (Es s) w0 (Rs s)) → J (Dr P ops Q w0 S fuel listed) n E w0 rs) : J (Dr P ops Q w0 S fuel listed) n E w0 rs := h hnext
theorem d_four {ops : Array Oper} {Q : Exit → Act → World → Prop} {S : List Res} {fuel : Nat} {listed : Array Bool} (i j m l : Nat) (hr : Region.ready .any ops listed = [i, j, m, l]) (h : J (One P ops (NoPanic Q) w0 S fuel listed i) n E w0 rs) (h' : J (One P ops (NoPanic Q) w0 S fuel listed j) n E w0 rs) (h'' : J (One P ops (NoPanic Q) w0 S fuel listed m) n E w0 rs) (h3 : J (One P ops (NoPanic Q) w0 S fuel listed l) n E w0 rs) : J (Dr P ops (NoPanic Q) w0 S (fuel + 1) listed) n E w0 rs := fun a w he hm =>
  wpAnyH_all hr (by simp) (fun k hk => by
    have : k = i ∨ k = j ∨ k = m ∨ k = l := by simpa using hk
    rcases this with rfl | rfl | rfl | rfl
    · exact h a w he hm
    · exact h' a w he hm
    · exact h'' a w he hm
    · exact h3 a w he hm)
theorem d_five {ops : Array Oper} {Q : Exit → Act → World → Prop} {S : List Res} {fuel : Nat} {listed : Array Bool} (i j m l q : Nat) (hr : Region.ready .any ops listed = [i, j, m, l, q]) (h : J (One P ops (NoPanic Q) w0 S fuel listed i) n E w0 rs) (h' : J (One P ops (NoPanic Q) w0 S fuel listed j) n E w0 rs) (h'' : J (One P ops (NoPanic Q) w0 S fuel listed m) n E w0 rs) (h3 : J (One P ops (NoPanic Q) w0 S fuel listed l) n E w0 rs) (h4 : J (One P ops (NoPanic Q) w0 S fuel listed q) n E w0 rs) : J (Dr P ops (NoPanic Q) w0 S (fuel + 1) listed) n E w0 rs := fun a w he hm =>
  wpAnyH_all hr (by simp) (fun k hk => by
    have : k = i ∨ k = j ∨ k = m ∨ k = l ∨ k = q := by simpa using hk
    rcases this with rfl | rfl | rfl | rfl | rfl
    · exact h a w he hm
    · exact h' a w he hm
    · exact h'' a w he hm
    · exact h3 a w he hm
    · exact h4 a w he hm)
/-! ### a guard that was itself left out -/
theorem wanted_un {a : Act} {j : Nat} {want : Bool} {d : Nat} {o oj : Oper} {ops : Array Oper} (he : EnvOk a n E) (hg : o.guard = some (j, want)) (hj : ops[j]? = some oj) (hd : oj.dst = some d) (hb : look E d = some undef) : Region.wanted o (yielded ops a.tmps) = false := by
  have ht : a.tmps[d]? = some undef := he.get d _ hb
  simp only [Region.wanted, hg]
  simp [yielded, hj, hd, ht, undef]
theorem r_offu {ops : Array Oper} {l : List Oper} {Q : Exit → Act → World → Prop} {j : Nat} {want : Bool} {d : Nat} {oj : Oper} (hg : o.guard = some (j, want)) (hj : ops[j]? = some oj) (hdj : oj.dst = some d) (hb : look E d = some undef) (hd : okD o.dst n = true)
    (h : J (Rg P ops Q l) n (putE o.dst undef E) w0 rs) : J (Rg P ops Q (o :: l)) n E w0 rs := fun a w he hm =>
  wpList_step fun K hK => by
    rw [wanted_un he hg hj hdj hb]
    exact hK _ _ (h _ _ (he.put hd _) hm)
theorem d_take_offu {ops : Array Oper} {Q : Exit → Act → World → Prop} {S : List Res} {fuel : Nat} {listed : Array Bool} (i : Nat) {oi : Oper} (hi : ops[i]? = some oi) {j : Nat} {want : Bool} {d : Nat} {oj : Oper} (hg : oi.guard = some (j, want)) (hj : ops[j]? = some oj) (hdj : oj.dst = some d) (hb : look E d = some undef)
    (hd : okD oi.dst n = true) (hs : Region.noSelect ops = true)
    (hf : Region.free .any ops listed i = true) (hr : (Region.ready .any ops listed).contains i = true) (hsub : ∀ w, Mem w0 rs w → Mem w0 S w)
    (h : J (Dr P ops (NoPanic Q) w0 S fuel (listed.setIfInBounds i true)) n (putE oi.dst undef E) w0 rs) : J (Dr P ops (NoPanic Q) w0 S (fuel + 1) listed) n E w0 rs := fun a w he hm =>
  wpAnyH_take hi hs hf hr (fun _ _ _ h => h) (.inr ⟨wanted_un he hg hj hdj hb, rfl⟩) (hsub w hm) (h _ w (he.put hd undef) hm)
theorem o_offu {ops : Array Oper} {Q : Exit → Act → World → Prop} {S : List Res} {fuel : Nat} {listed : Array Bool} {i : Nat} (hi : ops[i]? = some o) {j : Nat} {want : Bool} {d : Nat} {oj : Oper} (hg : o.guard = some (j, want)) (hj : ops[j]? = some oj) (hdj : oj.dst = some d) (hb : look E d = some undef)
    (hd : okD o.dst n = true) (hsub : ∀ w, Mem w0 rs w → Mem w0 S w)
    (h : J (Dr P ops Q w0 S fuel (listed.setIfInBounds i true)) n (putE o.dst undef E) w0 rs) : J (One P ops Q w0 S fuel listed i) n E w0 rs := fun a w he hm => by
  unfold One wpOp
  simp only [hi]
  rw [if_neg (by rw [wanted_un he hg hj hdj hb]; simp)]
  exact ⟨hsub w hm, h _ _ (he.put hd _) hm⟩
/-! ### typed rows -/
theorem len1 {l m : Nat} (h : l = m) : l = m * 1 := by omega
theorem ints_len1 (k : IntKind) (xs : List Int) : (ints k xs).length = xs.length * 1 := len1 (ints_len k xs)
theorem bls_len1 (xs : List Bool) : (bls xs).length = xs.length * 1 := len1 (bls_len xs)
theorem strs_len1 (xs : List ByteArray) : (strs xs).length = xs.length * 1 := len1 (strs_len xs)
theorem Mem.roomI {w : World} (hm : Mem w0 rs w) (i : Nat) {A : Option Addr} {c e : Nat} {k : IntKind} {xs : List Int} (hk : rs[i]? = some (.row A c e 1 (ints k xs))) : xs.length ≤ c := by
  have := hm.room i hk; rwa [ints_len] at this
theorem Mem.roomB {w : World} (hm : Mem w0 rs w) (i : Nat) {A : Option Addr} {c e : Nat} {xs : List Bool} (hk : rs[i]? = some (.row A c e 1 (bls xs))) : xs.length ≤ c := by
  have := hm.room i hk; rwa [bls_len] at this
theorem Mem.roomS {w : World} (hm : Mem w0 rs w) (i : Nat) {A : Option Addr} {c e : Nat} {xs : List ByteArray} (hk : rs[i]? = some (.row A c e 1 (strs xs))) : xs.length ≤ c := by
  have := hm.room i hk; rwa [strs_len] at this
theorem Mem.roomT {w : World} (hm : Mem w0 rs w) (i : Nat) {A : Option Addr} {c e : Nat} {xs : List (Int × Int × Int)} (hk : rs[i]? = some (.row A c e 3 (trips xs))) : xs.length ≤ c := by
  have := hm.room3 i hk; rw [trips_len] at this; omega
section
variable {t : TypeId} {x y : Operand}
theorem q_nilCheck {a : Addr} (ho : o.op = .nilCheck x) (hx : ev E x = some (.pointer (some a))) : Quiet P o n E w0 rs (.pointer (some a)) := .mk fun ρ w h hm => by
  simp only [execOp, ho, h _ _ hx]; rfl
theorem q_lenX {α : Type} (xs : List α) {pr : Call} {e : TypeId} {A : Option Addr} {m c : Nat} (hn : xs.length = m) (hu : P.underlying t = some (.slice e)) (ho : o.op = .call pr) (hc : pr.callee = .builtin .len) (ha : pr.args = #[x]) (ht : pr.argTypes = #[t]) (hx : ev E x = some (.slice A m c)) : Quiet P o n E w0 rs (.int .i64 xs.length) := by
  rw [hn]; exact q_len_sl ho hc ha ht hu hx
theorem q_ix {k : IntKind} {e s L : Nat} {i : Int} {A : Option Addr} {m c : Nat} {cs : List Value} (hR : Rd w0 rs A cs) (hc : cs.length = L * s) (hs0 : 0 < s) (hn : L = m) (hb : 0 ≤ i ∧ i < (L : Int)) (hu : P.underlying t = some (.slice e)) (hs : SzIs P e s) (ho : o.op = .indexAddr t x y) (hx : ev E x = some (.slice A m c)) (hy : ev E y = some (.int k i)) : Quiet P o n E w0 rs (.pointer (A.map (·.add (i.toNat * s)))) := by
  have h0 : 0 < L := by omega
  refine q_addrI (kd := .i64) hR ?_ hu hs ho hx hy hb.1 (by omega)
  rw [hc]; exact Nat.mul_pos h0 hs0
theorem q_ldI {A : Option Addr} {k : IntKind} {xs : List Int} {i : Int} (hR : Rd w0 rs A (ints k xs)) (hb : 0 ≤ i ∧ i < (xs.length : Int)) (hg : AggIs P t false) (ho : o.op = .load t x) (hx : ev E x = some (.pointer (A.map (·.add (i.toNat * 1))))) : Quiet P o n E w0 rs (.int k (rd xs i)) := q_loadI hR hg hb.1 hb.2 ho hx
theorem q_ldB {A : Option Addr} {xs : List Bool} {i : Int} (hR : Rd w0 rs A (bls xs)) (hb : 0 ≤ i ∧ i < (xs.length : Int)) (hg : AggIs P t false) (ho : o.op = .load t x) (hx : ev E x = some (.pointer (A.map (·.add (i.toNat * 1))))) : Quiet P o n E w0 rs (.bool (rdb xs i)) := q_loadB hR hg hb.1 hb.2 ho hx
theorem q_ldS {A : Option Addr} {xs : List ByteArray} {i : Int} (hR : Rd w0 rs A (strs xs)) (hb : 0 ≤ i ∧ i < (xs.length : Int)) (hg : AggIs P t false) (ho : o.op = .load t x) (hx : ev E x = some (.pointer (A.map (·.add (i.toNat * 1))))) : Quiet P o n E w0 rs (.string (rds xs i)) := q_loadS hR hg hb.1 hb.2 ho hx
theorem q_ldT {A : Option Addr} {xs : List (Int × Int × Int)} {i : Int} (hR : Rd w0 rs A (trips xs)) (hb : 0 ≤ i ∧ i < (xs.length : Int)) (hg : AggIs P t true) (hs : SzIs P t 3) (ho : o.op = .load t x) (hx : ev E x = some (.pointer (A.map (·.add (i.toNat * 3))))) : Quiet P o n E w0 rs (.agg #[.int .i64 (rdt xs i).1, .int .i64 (rdt xs i).2.1, .int .i64 (rdt xs i).2.2]) := q_loadT hR hg hs hb.1 hb.2 ho hx
theorem q_ldTf (j : Nat) {A : Option Addr} {xs : List (Int × Int × Int)} {i : Int} {v : Value} (hR : Rd w0 rs A (trips xs)) (hb : 0 ≤ i ∧ i < (xs.length : Int)) (hg : AggIs P t false) (hj : j < 3) (hv : [Value.int .i64 (rdt xs i).1, .int .i64 (rdt xs i).2.1, .int .i64 (rdt xs i).2.2][j]? = some v) (ho : o.op = .load t x) (hx : ev E x = some (.pointer (A.map (·.add (i.toNat * 3 + j))))) : Quiet P o n E w0 rs v :=
  q_load hR hg ho hx ((trips_get hb.1 hb.2 j hj).trans hv)
theorem q_fieldAddrR {j ft off s q : Nat} {A : Option Addr} {cs : List Value} (hR : Rd w0 rs A cs) (hl : 0 < cs.length) (hf : FieldIs P t j ft off) (hs : SzIs P ft (s + 1)) (ho : o.op = .fieldAddr t x j) (hx : ev E x = some (.pointer (A.map (·.add q)))) : Quiet P o n E w0 rs (.pointer (A.map (·.add (q + off)))) := fun a w he hm => by
  obtain ⟨b, rfl⟩ := hR.addr hl w hm
  exact q_fieldAddr (v := .pointer (some (b.add (q + off)))) hf hs ho hx (by rw [add_add]) a w he hm
theorem a_stI (k : Nat) {kd : IntKind} {c e : Nat} {xs : List Int} {i v : Int} {A : Option Addr} (hk : rs[k]? = some (.row A c e 1 (ints kd xs))) (hb : 0 ≤ i ∧ i < (xs.length : Int)) (hs : SzIs P t 1) (ho : o.op = .store t x y) (hx : ev E x = some (.pointer (A.map (·.add (i.toNat * 1))))) (hy : ev E y = some (.int kd v)) :
    Acts P o n E w0 rs (fun _ : Unit => undef) (fun _ => rs.set k (.row A c e 1 (ints kd (xs.set i.toNat v)))) := a_storeI k hk hs hb.1 hb.2 ho hx hy
theorem a_stB (k : Nat) {c e : Nat} {xs : List Bool} {i : Int} {v : Bool} {A : Option Addr} (hk : rs[k]? = some (.row A c e 1 (bls xs))) (hb : 0 ≤ i ∧ i < (xs.length : Int)) (hs : SzIs P t 1) (ho : o.op = .store t x y) (hx : ev E x = some (.pointer (A.map (·.add (i.toNat * 1))))) (hy : ev E y = some (.bool v)) :
    Acts P o n E w0 rs (fun _ : Unit => undef) (fun _ => rs.set k (.row A c e 1 (bls (xs.set i.toNat v)))) := by
  rw [← bls_set]
  exact a_store k hk hs ho hx hy rfl (by rw [bls_len]; have := hb.1; have := hb.2; omega)
end
theorem a_litX {t e sz len : Nat} {parts : Array (Nat × Operand)} {l : List (Nat × Operand)} {vs : List Value} {z : Value} (cs : List Value) (hu : P.underlying t = some (.slice e)) (hs : SzIs P e sz) (hz : ZeroIs P e z) (hzs : Nat.beq z.cells.size sz = true) (hpos : Nat.blt 0 sz = true) (ho : o.op = .buildSlice t len parts) (hp : parts = l.toArray) (hv : evp E l = some (idx 0 vs)) (hl : Nat.beq vs.length len = true) (hcs : vs.all (fun v => Nat.beq v.cells.size sz) = true) (hb : Nat.ble (len * sz) 1024 = true) (hres : (vs.flatMap fun v => v.cells.toList) = cs) :
    Acts P o n E w0 rs (fun A : Option Addr => .slice A len len) (fun A => .row A len e sz cs :: rs) :=
  a_lit hu hs hz (Nat.eq_of_beq_eq_true hzs) (by simpa [Nat.blt_eq] using hpos) ho hp hv (Nat.eq_of_beq_eq_true hl) (by
    rw [List.all_eq_true] at hcs ⊢
    intro v hv
    simpa using Nat.eq_of_beq_eq_true (hcs v hv)) (Nat.le_of_ble_eq_true hb) hres
theorem a_appI {pr : Call} {x y : Operand} {t t' e e' b : Nat} (k : Nat) {kd : IntKind} {sl c m c2 : Nat} {A B : Option Addr} {xs ys : List Int} {z : Value} (hu : P.underlying t = some (.slice e)) (hu' : P.underlying t' = some (.slice e')) (hs : SzIs P e 1) (hb : BytesIs P e b) (hz : ZeroIs P e z) (hzs : z.cells.size = 1) (hb1 : Nat.ble b 64 = true)
    (hk : rs[k]? = some (.row A c e 1 (ints kd xs))) (ho : o.op = .call pr) (hc : pr.callee = .builtin .append) (ha : pr.args = #[x, y]) (ht : pr.argTypes = #[t, t']) (hx : ev E x = some (.slice A sl c)) (hy : ev E y = some (.slice B m c2)) (hn1 : xs.length = sl) (hn2 : ys.length = m) (hR : Rd w0 rs B (ints kd ys)) (hneed : xs.length + ys.length ≤ 1099511627776) :
    Acts P o n E w0 rs (fun q : Option Addr × Nat => .slice q.1 (sl + m) q.2) (fun q => rs.set k (.row q.1 q.2 e 1 (ints kd (xs ++ ys)))) := by
  subst hn1 hn2
  rw [← ints_app]
  exact a_append k hu hu' hs hb hz hzs (by omega) (Nat.le_of_ble_eq_true hb1) hk ho hc ha ht hx hy (ints_len1 kd xs) hR (ints_len1 kd ys) (ints_one kd ys) hneed
theorem a_appB {pr : Call} {x y : Operand} {t t' e e' b : Nat} (k : Nat) {sl c m c2 : Nat} {A B : Option Addr} {xs ys : List Bool} {z : Value} (hu : P.underlying t = some (.slice e)) (hu' : P.underlying t' = some (.slice e')) (hs : SzIs P e 1) (hb : BytesIs P e b) (hz : ZeroIs P e z) (hzs : z.cells.size = 1) (hb1 : Nat.ble b 64 = true)
    (hk : rs[k]? = some (.row A c e 1 (bls xs))) (ho : o.op = .call pr) (hc : pr.callee = .builtin .append) (ha : pr.args = #[x, y]) (ht : pr.argTypes = #[t, t']) (hx : ev E x = some (.slice A sl c)) (hy : ev E y = some (.slice B m c2)) (hn1 : xs.length = sl) (hn2 : ys.length = m) (hR : Rd w0 rs B (bls ys)) (hneed : xs.length + ys.length ≤ 1099511627776) :
    Acts P o n E w0 rs (fun q : Option Addr × Nat => .slice q.1 (sl + m) q.2) (fun q => rs.set k (.row q.1 q.2 e 1 (bls (xs ++ ys)))) := by
  subst hn1 hn2
  rw [← bls_app]
  exact a_append k hu hu' hs hb hz hzs (by omega) (Nat.le_of_ble_eq_true hb1) hk ho hc ha ht hx hy (bls_len1 xs) hR (bls_len1 ys) (bls_one ys) hneed
theorem a_appS {pr : Call} {x y : Operand} {t t' e e' b : Nat} (k : Nat) {sl c m c2 : Nat} {A B : Option Addr} {xs ys : List ByteArray} {z : Value} (hu : P.underlying t = some (.slice e)) (hu' : P.underlying t' = some (.slice e')) (hs : SzIs P e 1) (hb : BytesIs P e b) (hz : ZeroIs P e z) (hzs : z.cells.size = 1) (hb1 : Nat.ble b 64 = true)
    (hk : rs[k]? = some (.row A c e 1 (strs xs))) (ho : o.op = .call pr) (hc : pr.callee = .builtin .append) (ha : pr.args = #[x, y]) (ht : pr.argTypes = #[t, t']) (hx : ev E x = some (.slice A sl c)) (hy : ev E y = some (.slice B m c2)) (hn1 : xs.length = sl) (hn2 : ys.length = m) (hR : Rd w0 rs B (strs ys)) (hneed : xs.length + ys.length ≤ 1099511627776) :
    Acts P o n E w0 rs (fun q : Option Addr × Nat => .slice q.1 (sl + m) q.2) (fun q => rs.set k (.row q.1 q.2 e 1 (strs (xs ++ ys)))) := by
  subst hn1 hn2
  rw [← strs_app]
  exact a_append k hu hu' hs hb hz hzs (by omega) (Nat.le_of_ble_eq_true hb1) hk ho hc ha ht hx hy (strs_len1 xs) hR (strs_len1 ys) (strs_one ys) hneed
theorem a_appT {pr : Call} {x y : Operand} {t t' e e' b : Nat} (k : Nat) {sl c m c2 : Nat} {A B : Option Addr} {xs ys : List (Int × Int × Int)} {z : Value} (hu : P.underlying t = some (.slice e)) (hu' : P.underlying t' = some (.slice e')) (hs : SzIs P e 3) (hb : BytesIs P e b) (hz : ZeroIs P e z) (hzs : z.cells.size = 3) (hb1 : Nat.ble b 64 = true)
    (hk : rs[k]? = some (.row A c e 3 (trips xs))) (ho : o.op = .call pr) (hc : pr.callee = .builtin .append) (ha : pr.args = #[x, y]) (ht : pr.argTypes = #[t, t']) (hx : ev E x = some (.slice A sl c)) (hy : ev E y = some (.slice B m c2)) (hn1 : xs.length = sl) (hn2 : ys.length = m) (hR : Rd w0 rs B (trips ys)) (hneed : xs.length + ys.length ≤ 1099511627776) :
    Acts P o n E w0 rs (fun q : Option Addr × Nat => .slice q.1 (sl + m) q.2) (fun q => rs.set k (.row q.1 q.2 e 3 (trips (xs ++ ys)))) := by
  subst hn1 hn2
  rw [← trips_app]
  exact a_append k hu hu' hs hb hz hzs (by omega) (Nat.le_of_ble_eq_true hb1) hk ho hc ha ht hx hy (trips_len xs) hR (trips_len ys) (trips_one ys) hneed
theorem app_len {α : Type} {xs ys : List α} {a b : Nat} (h1 : xs.length = a) (h2 : ys.length = b) : (xs ++ ys).length = a + b := by rw [List.length_append, h1, h2]
theorem set_len {α : Type} {xs : List α} {a : Nat} (h1 : xs.length = a) (i : Nat) (v : α) : (xs.set i v).length = a := by rw [List.length_set, h1]
theorem a_mkI {t e b : Nat} {x x' : Operand} {m : Int} (hu : P.underlying t = some (.slice e)) (hs : SzIs P e 1) (hb : BytesIs P e b) (hz : ZeroIs P e (.int .i64 0)) (hb1 : Nat.ble b 64 = true) (hm1 : 0 ≤ m ∧ m ≤ 1099511627776) (ho : o.op = .makeSlice t x x') (hx : ev E x = some (.int .i64 m)) (hx' : ev E x' = some (.int .i64 m)) :
    Acts P o n E w0 rs (fun A : Option Addr => .slice A m.toNat m.toNat) (fun A => .row A m.toNat e 1 (ints .i64 (List.replicate m.toNat 0)) :: rs) := by
  rw [← ints_rep]
  exact a_make hu hs hb hz rfl ho hx hx' hm1.1 hm1.2 (Nat.le_of_ble_eq_true hb1)
theorem a_mkB {t e b : Nat} {x x' : Operand} {m : Int} (hu : P.underlying t = some (.slice e)) (hs : SzIs P e 1) (hb : BytesIs P e b) (hz : ZeroIs P e (.bool false)) (hb1 : Nat.ble b 64 = true) (hm1 : 0 ≤ m ∧ m ≤ 1099511627776) (ho : o.op = .makeSlice t x x') (hx : ev E x = some (.int .i64 m)) (hx' : ev E x' = some (.int .i64 m)) :
    Acts P o n E w0 rs (fun A : Option Addr => .slice A m.toNat m.toNat) (fun A => .row A m.toNat e 1 (bls (List.replicate m.toNat false)) :: rs) := by
  rw [← bls_rep]
  exact a_make hu hs hb hz rfl ho hx hx' hm1.1 hm1.2 (Nat.le_of_ble_eq_true hb1)
theorem pos_of {L s m : Nat} {i : Int} (hc : L = m * s) (hs : 0 < s) (hb : 0 ≤ i ∧ i < (m : Int)) : 0 < L := by
  have : 0 < m := by omega
  rw [hc]; exact Nat.mul_pos this hs
/-! ### cuts -/
theorem q_hi {t e : Nat} {x hi : Operand} {k : IntKind} {i : Int} {A : Option Addr} {m c sz : Nat} {α : Type} (xs : List α) (hn : xs.length = m) (hcap : xs.length ≤ c) (hb : 0 ≤ i ∧ i ≤ (xs.length : Int)) (hu : P.underlying t = some (.slice e)) (hs : SzIs P e sz) (ho : o.op = .slice t x none (some hi) none) (hx : ev E x = some (.slice A m c)) (hhi : ev E hi = some (.int k i)) : Quiet P o n E w0 rs (.slice A (xs.take i.toNat).length c) := by
  have h := q_cut_hi (n := n) (E := E) (w0 := w0) (rs := rs) (P := P) (o := o) (k := k) (i := i) hu hs ho hx hhi hb.1 (by omega)
  rw [cutA_zero] at h
  have h2 : (xs.take i.toNat).length = i.toNat - 0 := by rw [List.length_take]; omega
  rw [h2]; exact h
theorem q_lo {t e : Nat} {x lo : Operand} {k : IntKind} {i : Int} {A : Option Addr} {m c sz : Nat} {α : Type} (xs : List α) (hn : xs.length = m) (hb : 0 ≤ i ∧ i ≤ (xs.length : Int)) (hu : P.underlying t = some (.slice e)) (hs : SzIs P e sz) (ho : o.op = .slice t x (some lo) none none) (hx : ev E x = some (.slice A m c)) (hlo : ev E lo = some (.int k i)) : Quiet P o n E w0 rs (.slice (cutA A c i.toNat sz) (xs.drop i.toNat).length (c - i.toNat)) := by
  have h := q_cut_lo (n := n) (E := E) (w0 := w0) (rs := rs) (P := P) (o := o) (k := k) (i := i) hu hs ho hx hlo hb.1 (by omega)
  have h2 : (xs.drop i.toNat).length = m - i.toNat := by rw [List.length_drop]; omega
  rw [h2]; exact h
theorem rd_hiI {A : Option Addr} {k : IntKind} {xs : List Int} (h : Rd w0 rs A (ints k xs)) (i : Nat) : Rd w0 rs A (ints k (xs.take i)) := by
  rw [← ints_take]; exact h.take i
theorem rd_loI {A : Option Addr} {k : IntKind} {xs : List Int} {c : Nat} (h : Rd w0 rs A (ints k xs)) (hc : xs.length ≤ c) (i : Nat) : Rd w0 rs (cutA A c i 1) (ints k (xs.drop i)) := by
  rw [← ints_drop]; exact h.off (by rw [ints_len]; omega) i
theorem j_cutRowI {K : Act → World → Prop} {A : Option Addr} {c e : Nat} {kd : IntKind} {xs : List Int} (k i : Nat) (hk : rs[k]? = some (.row A c e 1 (ints kd xs))) (hi : i ≤ c) (h : J K n E w0 (rs.set k (.row (cutA A c i 1) (c - i) e 1 (ints kd (xs.drop i))))) : J K n E w0 rs := by
  rw [← ints_drop] at h
  exact j_cutRow k i hk hi h
theorem cut_le {i : Int} {m c : Nat} (hb : 0 ≤ i ∧ i ≤ (m : Int)) (hc : m ≤ c) : i.toNat ≤ c := by omega
theorem rd_loS {A : Option Addr} {xs : List ByteArray} {c : Nat} (h : Rd w0 rs A (strs xs)) (hc : xs.length ≤ c) (i : Nat) : Rd w0 rs (cutA A c i 1) (strs (xs.drop i)) := by
  have := h.off (sz := 1) (c := c) (by rw [strs_len]; omega) i
  rwa [show (strs xs).drop (i * 1) = strs (xs.drop i) by simp [strs]] at this
end
end Go.Proofs.YtnfaiojmabolmaaDoor.S
