/- The judgement J of this session's program logic, and its rules for the forms of code. It says nothing of any program. -/
import Derived.Test.YtnfaiojmabolmaaDoorSa
namespace Go.Proofs.YtnfaiojmabolmaaDoor.S
open Go Go.RowKit
set_option linter.unusedVariables false
set_option linter.unusedSimpArgs false

/-- Whoever holds these slots and this memory comes to K. -/
def J (K : Act → World → Prop) (n : Nat) (E : List (Nat × Value)) (w0 : World) (rs : List Res) : Prop :=
  ∀ a w, EnvOk a n E → Mem w0 rs w → K a w

section
variable {K : Act → World → Prop} {n : Nat} {E : List (Nat × Value)} {w0 : World} {rs : List Res} {P : Program} {Q : Exit → Act → World → Prop}

theorem J.imp {K' : Act → World → Prop} (h : J K n E w0 rs) (hk : ∀ a w, K a w → K' a w) : J K' n E w0 rs := fun a w he hm => hk a w (h a w he hm)

/-- A fact that memory tells. -/
theorem j_fact {p : Prop} (hp : ∀ w, Mem w0 rs w → p) (h : p → J K n E w0 rs) : J K n E w0 rs := fun a w he hm => h (hp w hm) a w he hm
theorem j_pick (m : Nat) (idx : List Nat) (hi : pickOk m idx = true) (h : J K n E w0 (picks rs m idx)) : J K n E w0 rs := fun a w he hm => h a w he (hm.pick m idx hi)
/-- Memory told otherwise. -/
theorem j_rs (rs' : List Res) (hp : ∀ w, Mem w0 rs w → Mem w0 rs' w) (h : J K n E w0 rs') : J K n E w0 rs := fun a w he hm => h a w he (hp w hm)
theorem j_nil (e sz : Nat) (h : J K n E w0 (.row none 0 e sz [] :: rs)) : J K n E w0 rs := fun a w he hm =>
  h a w he (hm.cons_none ⟨Nat.zero_le _, .inl rfl⟩ rfl)
/-- Slots are forgotten but for these. -/
def keepE (E : List (Nat × Value)) : List Nat → List (Nat × Value)
  | [] => []
  | i :: l => match look E i with
    | some v => (i, v) :: keepE E l
    | none => keepE E l
theorem look_keepE {E : List (Nat × Value)} {l : List Nat} {i : Nat} {v : Value} (h : look (keepE E l) i = some v) : look E i = some v := by
  induction l with
  | nil => simp [keepE, look] at h
  | cons x l ih =>
    unfold keepE at h
    cases hx : look E x with
    | none => rw [hx] at h; exact ih h
    | some u =>
      rw [hx] at h
      simp only [look] at h
      cases hb : Nat.beq x i with
      | true =>
        have := Nat.eq_of_beq_eq_true hb
        subst this
        simp only [hb, cond_true] at h
        rw [hx, h]
      | false => simp only [hb, cond_false] at h; exact ih h
theorem j_keep (l : List Nat) (h : J K n (keepE E l) w0 rs) : J K n E w0 rs := fun a w he hm => h a w (he.weak fun _ _ hi => look_keepE hi) hm

/-- Slots told otherwise. -/
def subE (E : List (Nat × Value)) : List (Nat × Value) → Prop
  | [] => True
  | p :: l => look E p.1 = some p.2 ∧ subE E l
theorem subE_look {E E' : List (Nat × Value)} (h : subE E E') : ∀ i v, look E' i = some v → look E i = some v := by
  induction E' with
  | nil => intro i v hi; simp [look] at hi
  | cons p l ih =>
    intro i v hi
    simp only [look] at hi
    cases hb : Nat.beq p.1 i with
    | true =>
      have := Nat.eq_of_beq_eq_true hb
      subst this
      simp only [hb, cond_true, Option.some.injEq] at hi
      subst hi
      exact h.1
    | false => simp only [hb, cond_false] at hi; exact ih h.2 i v hi
theorem EnvOk.sub {a : Act} {E E' : List (Nat × Value)} (he : EnvOk a n E) (h : subE E E') : EnvOk a n E' := he.weak (subE_look h)
theorem j_env (E' : List (Nat × Value)) (hs : subE E E') (h : J K n E' w0 rs) : J K n E w0 rs := fun a w he hm => h a w (he.sub hs) hm

/-! ### code -/
theorem j_seq {x y : Code} (h : J (x.wp P (Exit.then (y.wp P Q) Q)) n E w0 rs) : J ((Code.seq x y).wp P Q) n E w0 rs := h.imp fun _ _ => wp_seq
theorem j_skip (h : J (Q .normal) n E w0 rs) : J (Code.skip.wp P Q) n E w0 rs := h.imp fun _ _ => wp_skip
theorem j_exit {id : Nat} (h : J (Q (.exit id)) n E w0 rs) : J ((Code.exit id).wp P Q) n E w0 rs := h.imp fun _ _ => wp_exit
theorem j_ret (h : J (Q .ret) n E w0 rs) : J (Code.ret.wp P Q) n E w0 rs := h.imp fun _ _ => wp_ret
theorem j_block {id : Nat} {c : Code} (h : J (c.wp P (Exit.inBlock id Q)) n E w0 rs) : J ((Code.block id c).wp P Q) n E w0 rs := h.imp fun _ _ => wp_block
theorem j_true {c : Operand} {x y : Code} {b : Bool} (hc : ev E c = some (.bool b)) (hb : b = true) (h : J (x.wp P Q) n E w0 rs) : J ((Code.cond c x y).wp P Q) n E w0 rs :=
  fun a w he hm => wp_cond_true (by rw [he.eval hc, hb]) (h a w he hm)
theorem j_false {c : Operand} {x y : Code} {b : Bool} (hc : ev E c = some (.bool b)) (hb : b = false) (h : J (y.wp P Q) n E w0 rs) : J ((Code.cond c x y).wp P Q) n E w0 rs :=
  fun a w he hm => wp_cond_false (by rw [he.eval hc, hb]) (h a w he hm)
/-- What stands behind an exit. -/
theorem j_then {next : Act → World → Prop} (h : J next n E w0 rs) : J (Exit.then next Q .normal) n E w0 rs := h
theorem j_then_exit {next : Act → World → Prop} {id : Nat} (h : J (Q (.exit id)) n E w0 rs) : J (Exit.then next Q (.exit id)) n E w0 rs := h
theorem j_then_ret {next : Act → World → Prop} (h : J (Q .ret) n E w0 rs) : J (Exit.then next Q .ret) n E w0 rs := h
theorem j_in {id : Nat} (h : J (Q .normal) n E w0 rs) : J (Exit.inBlock id Q .normal) n E w0 rs := h
theorem j_in_ret {id : Nat} (h : J (Q .ret) n E w0 rs) : J (Exit.inBlock id Q .ret) n E w0 rs := h
theorem j_in_exit {id : Nat} (h : J (Q .normal) n E w0 rs) : J (Exit.inBlock id Q (.exit id)) n E w0 rs := fun a w he hm => by
  show (if id = id then _ else _)
  rw [if_pos rfl]; exact h a w he hm
theorem j_in_far {id i : Nat} (hne : i ≠ id) (h : J (Q (.exit i)) n E w0 rs) : J (Exit.inBlock id Q (.exit i)) n E w0 rs := fun a w he hm => by
  show (if i = id then _ else _)
  rw [if_neg hne]; exact h a w he hm

/-- A loop with a number of rounds that goes down. -/
theorem wp_loop_down {c : Code} (I : Nat → Act → World → Prop) (round : ∀ m a w, I m a w → c.wp P (Exit.then (fun a' w' => ∃ m', m' < m ∧ I m' a' w') Q) a w) {m : Nat} {a : Act} {w : World} (h0 : I m a w) : (Code.loop c).wp P Q a w := by
  classical
  have least : ∀ (p : Nat → Prop), (∃ m, p m) → ∃ m, p m ∧ ∀ k, p k → m ≤ k := by
    intro p ⟨m, hm⟩
    induction m using Nat.strongRecOn with
    | _ m ih =>
      by_cases h : ∃ k, k < m ∧ p k
      · obtain ⟨k, hk, hp⟩ := h
        exact ih k hk hp
      · exact ⟨m, hm, fun k hk => by
          rcases Nat.lt_or_ge k m with hlt | hge
          · exact absurd ⟨k, hlt, hk⟩ h
          · exact hge⟩
  let μ : Act → World → Nat := fun a w => if h : ∃ m, I m a w then (least _ h).choose else 0
  refine wp_loop (fun a w => ∃ m, I m a w) μ ⟨m, h0⟩ ?_
  intro a w hI
  have hs := (least _ hI).choose_spec
  have hmu : μ a w = (least _ hI).choose := by simp only [μ, dif_pos hI]
  refine wp_mono (round _ a w hs.1) ?_
  intro e a' w' he
  cases e with
  | normal =>
    obtain ⟨m', hlt, hI'⟩ := he
    have hex : ∃ m, I m a' w' := ⟨m', hI'⟩
    refine ⟨hex, ?_⟩
    have hs' := (least _ hex).choose_spec
    have hmu' : μ a' w' = (least _ hex).choose := by simp only [μ, dif_pos hex]
    rw [hmu, hmu']
    exact Nat.lt_of_le_of_lt (hs'.2 m' hI') hlt
  | exit id => exact he
  | goto l => exact he
  | ret => exact he
  | panic ch => exact he
  | outgrown => exact he

/-- The head of a loop: what is held there is a function of letters σ; H bears the pure side. -/
def Head {σ : Type} (n : Nat) (w0 : World) (Es : σ → List (Nat × Value)) (Rs : σ → List Res) (H : Nat → σ → Prop) (m : Nat) (a : Act) (w : World) : Prop :=
  ∃ s, H m s ∧ EnvOk a n (Es s) ∧ Mem w0 (Rs s) w

theorem j_loop {σ : Type} {c : Code} (Es : σ → List (Nat × Value)) (Rs : σ → List Res) (H : Nat → σ → Prop) (m : Nat) (s : σ) (h0 : H m s)
    (hE : ∀ a, EnvOk a n E → EnvOk a n (Es s)) (hR : ∀ w, Mem w0 rs w → Mem w0 (Rs s) w)
    (round : ∀ m s, H m s → J (c.wp P (Exit.then (fun a' w' => ∃ m', m' < m ∧ Head n w0 Es Rs H m' a' w') Q)) n (Es s) w0 (Rs s)) : J ((Code.loop c).wp P Q) n E w0 rs := fun a w he hm =>
  wp_loop_down (Head n w0 Es Rs H) (fun m a w ⟨s, hs, he, hm⟩ => round m s hs a w he hm) (m := m) ⟨s, h0, hE a he, hR w hm⟩

theorem j_again {σ : Type} {Es : σ → List (Nat × Value)} {Rs : σ → List Res} {H : Nat → σ → Prop} {m : Nat} (m' : Nat) (s : σ) (hlt : m' < m) (h0 : H m' s)
    (hE : ∀ a, EnvOk a n E → EnvOk a n (Es s)) (hR : ∀ w, Mem w0 rs w → Mem w0 (Rs s) w) : J (fun a' w' => ∃ m', m' < m ∧ Head n w0 Es Rs H m' a' w') n E w0 rs := fun a w he hm =>
  ⟨m', hlt, s, h0, hE a he, hR w hm⟩

/-- Where ways meet: what is held there. -/
theorem j_cut {σ : Type} {c : Code} (Es : σ → List (Nat × Value)) (Rs : σ → List Res) (H : σ → Prop)
    (h : J (c.wp P (Exit.then (fun a w => ∃ s, H s ∧ EnvOk a n (Es s) ∧ Mem w0 (Rs s) w) Q)) n E w0 rs)
    (next : ∀ s, H s → J (Q .normal) n (Es s) w0 (Rs s)) : J (c.wp P Q) n E w0 rs := h.imp fun a w hw => wp_mono hw (fun e a' w' he => by
  cases e with
  | normal => obtain ⟨s, hs, hE, hM⟩ := he; exact next s hs a' w' hE hM
  | exit id => exact he
  | goto l => exact he
  | ret => exact he
  | panic ch => exact he
  | outgrown => exact he)
theorem j_meet {σ : Type} {Es : σ → List (Nat × Value)} {Rs : σ → List Res} {H : σ → Prop} (s : σ) (hs : H s)
    (hE : ∀ a, EnvOk a n E → EnvOk a n (Es s)) (hR : ∀ w, Mem w0 rs w → Mem w0 (Rs s) w) : J (fun a w => ∃ s, H s ∧ EnvOk a n (Es s) ∧ Mem w0 (Rs s) w) n E w0 rs := fun a w he hm =>
  ⟨s, hs, hE a he, hR w hm⟩

/-! ### one operation -/
/-- It leaves v in its slot, and nothing else. -/
def Quiet (P : Program) (o : Oper) (n : Nat) (E : List (Nat × Value)) (w0 : World) (rs : List Res) (v : Value) : Prop :=
  ∀ a w, EnvOk a n E → Mem w0 rs w → (execOp a.eval o).run P w = .ok (.value v) w

/-- It comes to v x and memory rs' x, for some x. -/
def Acts (P : Program) (o : Oper) (n : Nat) (E : List (Nat × Value)) (w0 : World) (rs : List Res) {α : Type} (v : α → Value) (rs' : α → List Res) : Prop :=
  ∀ a w, EnvOk a n E → Mem w0 rs w → ∀ (next : Act → World → Prop) (Q : Exit → Act → World → Prop),
    (∀ x w', Mem w0 (rs' x) w' → next (a.put o.dst (v x)) w') → o.wp P a w next Q

theorem Quiet.acts {o : Oper} {v : Value} (h : Quiet P o n E w0 rs v) : Acts P o n E w0 rs (fun _ : Unit => v) (fun _ => rs) := fun a w he hm next Q hn => by
  unfold Oper.wp
  rw [h a w he hm]
  exact hn () w hm

theorem acts_of_run {o : Oper} {α : Type} {v : α → Value} {rs' : α → List Res} (h : ∀ a w, EnvOk a n E → Mem w0 rs w → ∃ x w', (execOp a.eval o).run P w = .ok (.value (v x)) w' ∧ Mem w0 (rs' x) w') : Acts P o n E w0 rs v rs' := fun a w he hm next Q hn => by
  obtain ⟨x, w', hr, hm'⟩ := h a w he hm
  unfold Oper.wp
  rw [hr]
  exact hn x w' hm'

theorem acts_of_skip {o : Oper} {rs' : List Res} (h : ∀ a w, EnvOk a n E → Mem w0 rs w → ∃ w', (execOp a.eval o).run P w = .ok .skip w' ∧ Mem w0 rs' w') : Acts P o n E w0 rs (fun _ : Unit => undef) (fun _ => rs') := fun a w he hm next Q hn => by
  obtain ⟨w', hr, hm'⟩ := h a w he hm
  unfold Oper.wp
  rw [hr]
  exact hn () w' hm'

theorem acts_of_calls {o : Oper} {α : Type} {v : α → Value} {rs' : α → List Res} {f : FuncId} {vs : Array Value} (hr : ∀ a w, EnvOk a n E → Mem w0 rs w → (execOp a.eval o).run P w = .ok (.enter f vs) w)
    (hc : ∀ w, Mem w0 rs w → Calls P f vs w fun e w' => ∃ x, e = .returned (v x) ∧ Mem w0 (rs' x) w') : Acts P o n E w0 rs v rs' := fun a w he hm next Q hn => by
  unfold Oper.wp
  rw [hr a w he hm]
  refine Calls.mono (hc w hm) ?_
  rintro e w' ⟨x, rfl, hm'⟩
  exact hn x w' hm'

/-! ### a region in the text's order -/
def Rg (P : Program) (ops : Array Oper) (Q : Exit → Act → World → Prop) (l : List Oper) (a : Act) (w : World) : Prop := wpList P ops Q l a w

theorem j_region {id : Nat} {l : List Oper} (h : J (Rg P l.toArray Q l) n E w0 rs) : J ((Code.region id l.toArray false).wp P Q) n E w0 rs := h.imp fun _ _ => wp_region_lit
theorem r_nil {ops : Array Oper} (h : J (Q .normal) n E w0 rs) : J (Rg P ops Q []) n E w0 rs := h

variable {ops : Array Oper} {l : List Oper} {o : Oper}
theorem r_do {α : Type} {v : α → Value} {rs' : α → List Res} (ha : Acts P o n E w0 rs v rs') (hg : o.guard = none) (hd : okD o.dst n = true)
    (h : ∀ x, J (Rg P ops Q l) n (putE o.dst (v x) E) w0 (rs' x)) : J (Rg P ops Q (o :: l)) n E w0 rs := fun a w he hm =>
  wpList_plain hg fun K hK => ha a w he hm K Q fun x w' hm' => hK _ _ (h x _ _ (he.put hd _) hm')
theorem r_q {v : Value} (ha : Quiet P o n E w0 rs v) (hg : o.guard = none) (hd : okD o.dst n = true)
    (h : J (Rg P ops Q l) n (putE o.dst v E) w0 rs) : J (Rg P ops Q (o :: l)) n E w0 rs := r_do ha.acts hg hd fun _ => h

/-- A guard: the slot of the operation that it asks. -/
theorem wanted_of {a : Act} {j : Nat} {want b : Bool} {d : Nat} {oj : Oper} (he : EnvOk a n E) (hg : o.guard = some (j, want)) (hj : ops[j]? = some oj) (hd : oj.dst = some d) (hb : look E d = some (.bool b)) : Region.wanted o (yielded ops a.tmps) = (b == want) := by
  have ht : a.tmps[d]? = some (.bool b) := he.get d _ hb
  simp only [Region.wanted, hg]
  simp [yielded, hj, hd, ht]
theorem r_on {α : Type} {v : α → Value} {rs' : α → List Res} (ha : Acts P o n E w0 rs v rs') {j : Nat} {want b : Bool} {d : Nat} {oj : Oper} (hg : o.guard = some (j, want)) (hj : ops[j]? = some oj) (hdj : oj.dst = some d) (hb : look E d = some (.bool b)) (hw : b = want) (hd : okD o.dst n = true)
    (h : ∀ x, J (Rg P ops Q l) n (putE o.dst (v x) E) w0 (rs' x)) : J (Rg P ops Q (o :: l)) n E w0 rs := fun a w he hm =>
  wpList_step fun K hK => by
    rw [wanted_of he hg hj hdj hb, hw]
    simp only [BEq.rfl, if_true]
    exact ha a w he hm K Q fun x w' hm' => hK _ _ (h x _ _ (he.put hd _) hm')
theorem r_qon {v : Value} (ha : Quiet P o n E w0 rs v) {j : Nat} {want b : Bool} {d : Nat} {oj : Oper} (hg : o.guard = some (j, want)) (hj : ops[j]? = some oj) (hdj : oj.dst = some d) (hb : look E d = some (.bool b)) (hw : b = want) (hd : okD o.dst n = true)
    (h : J (Rg P ops Q l) n (putE o.dst v E) w0 rs) : J (Rg P ops Q (o :: l)) n E w0 rs := r_on ha.acts hg hj hdj hb hw hd fun _ => h
theorem r_off {j : Nat} {want b : Bool} {d : Nat} {oj : Oper} (hg : o.guard = some (j, want)) (hj : ops[j]? = some oj) (hdj : oj.dst = some d) (hb : look E d = some (.bool b)) (hw : b = !want) (hd : okD o.dst n = true)
    (h : J (Rg P ops Q l) n (putE o.dst undef E) w0 rs) : J (Rg P ops Q (o :: l)) n E w0 rs := fun a w he hm =>
  wpList_step fun K hK => by
    rw [wanted_of he hg hj hdj hb, hw]
    have : ((!want) == want) = false := by cases want <;> rfl
    rw [this]
    exact hK _ _ (h _ _ (he.put hd _) hm)
end
end Go.Proofs.YtnfaiojmabolmaaDoor.S
