/- The rules of this session's program logic for a region that draws its order. It says nothing of any program. -/
import Derived.Test.YtnfaiojmabolmaaDoorSb
namespace Go.Proofs.YtnfaiojmabolmaaDoor.S
open Go Go.RowKit
set_option linter.unusedVariables false
section
variable {n : Nat} {E : List (Nat × Value)} {w0 : World} {rs : List Res} {P : Program} {Q : Exit → Act → World → Prop} {ops : Array Oper} {S : List Res}

/-- Whatever of the region comes up next; what S tells stands all the while. -/
def Dr (P : Program) (ops : Array Oper) (Q : Exit → Act → World → Prop) (w0 : World) (S : List Res) (fuel : Nat) (listed : Array Bool) (a : Act) (w : World) : Prop :=
  wpAnyH P .any ops Q (Mem w0 S) fuel listed a w
/-- Number i comes up. -/
def One (P : Program) (ops : Array Oper) (Q : Exit → Act → World → Prop) (w0 : World) (S : List Res) (fuel : Nat) (listed : Array Bool) (i : Nat) (a : Act) (w : World) : Prop :=
  wpOp P ops Q i (fun a' w' => Mem w0 S w' ∧ wpAnyH P .any ops Q (Mem w0 S) fuel (listed.setIfInBounds i true) a' w') a w

theorem j_draw {id : Nat} (S : List Res) (m : Nat) (hm : P.follows .mixedOrders = true) (hs : ops.size = m) (h : J (Dr P ops (NoPanic Q) w0 S m (Array.replicate m false)) n E w0 rs) : J ((Code.region id ops true).wp P Q) n E w0 rs := fun a w he hmem =>
  wp_region_noPanic (wp_region_held (S := Mem w0 S) hm (by subst hs; exact h a _ he hmem.drew))

theorem d_done {fuel : Nat} {listed : Array Bool} (hr : Region.ready .any ops listed = []) (h : J (Q .normal) n E w0 rs) : J (Dr P ops (NoPanic Q) w0 S fuel listed) n E w0 rs := fun a w he hm =>
  wpAnyH_done (Q := NoPanic Q) hr (h a w he hm) fuel

theorem d_take {fuel : Nat} {listed : Array Bool} (i : Nat) {oi : Oper} {v : Value} (hi : ops[i]? = some oi) (hq : Quiet P oi n E w0 S v) (hg : oi.guard = none) (hd : okD oi.dst n = true) (hs : Region.noSelect ops = true)
    (hf : Region.free .any ops listed i = true) (hr : (Region.ready .any ops listed).contains i = true) (hsub : ∀ w, Mem w0 rs w → Mem w0 S w)
    (h : J (Dr P ops (NoPanic Q) w0 S fuel (listed.setIfInBounds i true)) n (putE oi.dst v E) w0 rs) : J (Dr P ops (NoPanic Q) w0 S (fuel + 1) listed) n E w0 rs := fun a w he hm =>
  wpAnyH_take hi hs hf hr (fun _ _ _ h => h) (.inl ⟨by simp [Region.wanted, hg], fun w' hw' => hq a w' he hw'⟩) (hsub w hm) (h _ w (he.put hd v) hm)

theorem d_take_on {fuel : Nat} {listed : Array Bool} (i : Nat) {oi : Oper} {v : Value} (hi : ops[i]? = some oi) (hq : Quiet P oi n E w0 S v) {j : Nat} {want b : Bool} {d : Nat} {oj : Oper} (hg : oi.guard = some (j, want)) (hj : ops[j]? = some oj) (hdj : oj.dst = some d) (hb : look E d = some (.bool b)) (hw : b = want)
    (hd : okD oi.dst n = true) (hs : Region.noSelect ops = true)
    (hf : Region.free .any ops listed i = true) (hr : (Region.ready .any ops listed).contains i = true) (hsub : ∀ w, Mem w0 rs w → Mem w0 S w)
    (h : J (Dr P ops (NoPanic Q) w0 S fuel (listed.setIfInBounds i true)) n (putE oi.dst v E) w0 rs) : J (Dr P ops (NoPanic Q) w0 S (fuel + 1) listed) n E w0 rs := fun a w he hm =>
  wpAnyH_take hi hs hf hr (fun _ _ _ h => h) (.inl ⟨by rw [wanted_of he hg hj hdj hb, hw]; simp, fun w' hw' => hq a w' he hw'⟩) (hsub w hm) (h _ w (he.put hd v) hm)

theorem d_take_off {fuel : Nat} {listed : Array Bool} (i : Nat) {oi : Oper} (hi : ops[i]? = some oi) {j : Nat} {want b : Bool} {d : Nat} {oj : Oper} (hg : oi.guard = some (j, want)) (hj : ops[j]? = some oj) (hdj : oj.dst = some d) (hb : look E d = some (.bool b)) (hw : b = !want)
    (hd : okD oi.dst n = true) (hs : Region.noSelect ops = true)
    (hf : Region.free .any ops listed i = true) (hr : (Region.ready .any ops listed).contains i = true) (hsub : ∀ w, Mem w0 rs w → Mem w0 S w)
    (h : J (Dr P ops (NoPanic Q) w0 S fuel (listed.setIfInBounds i true)) n (putE oi.dst undef E) w0 rs) : J (Dr P ops (NoPanic Q) w0 S (fuel + 1) listed) n E w0 rs := fun a w he hm =>
  wpAnyH_take hi hs hf hr (fun _ _ _ h => h) (.inr ⟨by rw [wanted_of he hg hj hdj hb, hw]; cases want <;> rfl, rfl⟩) (hsub w hm) (h _ w (he.put hd undef) hm)

theorem d_one {fuel : Nat} {listed : Array Bool} (i : Nat) (hr : Region.ready .any ops listed = [i]) (h : J (One P ops (NoPanic Q) w0 S fuel listed i) n E w0 rs) : J (Dr P ops (NoPanic Q) w0 S (fuel + 1) listed) n E w0 rs := fun a w he hm =>
  wpAnyH_all hr (by simp) (fun k hk => by
    have : k = i := by simpa using hk
    subst this
    exact h a w he hm)
theorem d_two {fuel : Nat} {listed : Array Bool} (i j : Nat) (hr : Region.ready .any ops listed = [i, j]) (h : J (One P ops (NoPanic Q) w0 S fuel listed i) n E w0 rs) (h' : J (One P ops (NoPanic Q) w0 S fuel listed j) n E w0 rs) : J (Dr P ops (NoPanic Q) w0 S (fuel + 1) listed) n E w0 rs := fun a w he hm =>
  wpAnyH_all hr (by simp) (fun k hk => by
    have : k = i ∨ k = j := by simpa using hk
    rcases this with rfl | rfl
    · exact h a w he hm
    · exact h' a w he hm)
theorem d_three {fuel : Nat} {listed : Array Bool} (i j m : Nat) (hr : Region.ready .any ops listed = [i, j, m]) (h : J (One P ops (NoPanic Q) w0 S fuel listed i) n E w0 rs) (h' : J (One P ops (NoPanic Q) w0 S fuel listed j) n E w0 rs) (h'' : J (One P ops (NoPanic Q) w0 S fuel listed m) n E w0 rs) : J (Dr P ops (NoPanic Q) w0 S (fuel + 1) listed) n E w0 rs := fun a w he hm =>
  wpAnyH_all hr (by simp) (fun k hk => by
    have : k = i ∨ k = j ∨ k = m := by simpa using hk
    rcases this with rfl | rfl | rfl
    · exact h a w he hm
    · exact h' a w he hm
    · exact h'' a w he hm)

theorem o_do {fuel : Nat} {listed : Array Bool} {i : Nat} {o : Oper} {α : Type} {v : α → Value} {rs' : α → List Res} (hi : ops[i]? = some o) (ha : Acts P o n E w0 rs v rs') (hg : o.guard = none) (hd : okD o.dst n = true)
    (hsub : ∀ x w, Mem w0 (rs' x) w → Mem w0 S w)
    (h : ∀ x, J (Dr P ops Q w0 S fuel (listed.setIfInBounds i true)) n (putE o.dst (v x) E) w0 (rs' x)) : J (One P ops Q w0 S fuel listed i) n E w0 rs := fun a w he hm => by
  unfold One wpOp
  simp only [hi]
  rw [if_pos (by simp [Region.wanted, hg])]
  exact .inl (ha a w he hm _ _ fun x w' hm' => ⟨hsub x w' hm', h x _ _ (he.put hd _) hm'⟩)
theorem o_on {fuel : Nat} {listed : Array Bool} {i : Nat} {o : Oper} {α : Type} {v : α → Value} {rs' : α → List Res} (hi : ops[i]? = some o) (ha : Acts P o n E w0 rs v rs') {j : Nat} {want b : Bool} {d : Nat} {oj : Oper} (hg : o.guard = some (j, want)) (hj : ops[j]? = some oj) (hdj : oj.dst = some d) (hb : look E d = some (.bool b)) (hw : b = want)
    (hd : okD o.dst n = true) (hsub : ∀ x w, Mem w0 (rs' x) w → Mem w0 S w)
    (h : ∀ x, J (Dr P ops Q w0 S fuel (listed.setIfInBounds i true)) n (putE o.dst (v x) E) w0 (rs' x)) : J (One P ops Q w0 S fuel listed i) n E w0 rs := fun a w he hm => by
  unfold One wpOp
  simp only [hi]
  rw [if_pos (by rw [wanted_of he hg hj hdj hb, hw]; simp)]
  exact .inl (ha a w he hm _ _ fun x w' hm' => ⟨hsub x w' hm', h x _ _ (he.put hd _) hm'⟩)
theorem o_off {fuel : Nat} {listed : Array Bool} {i : Nat} {o : Oper} (hi : ops[i]? = some o) {j : Nat} {want b : Bool} {d : Nat} {oj : Oper} (hg : o.guard = some (j, want)) (hj : ops[j]? = some oj) (hdj : oj.dst = some d) (hb : look E d = some (.bool b)) (hw : b = !want)
    (hd : okD o.dst n = true) (hsub : ∀ w, Mem w0 rs w → Mem w0 S w)
    (h : J (Dr P ops Q w0 S fuel (listed.setIfInBounds i true)) n (putE o.dst undef E) w0 rs) : J (One P ops Q w0 S fuel listed i) n E w0 rs := fun a w he hm => by
  unfold One wpOp
  simp only [hi]
  rw [if_neg (by rw [wanted_of he hg hj hdj hb, hw]; cases want <;> simp)]
  exact ⟨hsub w hm, h _ _ (he.put hd _) hm⟩
end
end Go.Proofs.YtnfaiojmabolmaaDoor.S
