/- Values of three numbers compared. It says nothing of any program. -/
import Derived.Test.YtnfaiojmabolmaaDoorSl
namespace Go.Proofs.YtnfaiojmabolmaaDoor.S
open Go Go.RowKit
set_option linter.unusedVariables false
set_option linter.unusedSimpArgs false
def b11 {α1 α2 α3 α4 α5 α6 α7 α8 α9 α10 α11 β : Type} (o : Option (α1 × α2 × α3 × α4 × α5 × α6 × α7 × α8 × α9 × α10 × α11)) (f : α1 → α2 → α3 → α4 → α5 → α6 → α7 → α8 → α9 → α10 → α11 → Option β) : Option β := o.bind fun x => f x.1 x.2.1 x.2.2.1 x.2.2.2.1 x.2.2.2.2.1 x.2.2.2.2.2.1 x.2.2.2.2.2.2.1 x.2.2.2.2.2.2.2.1 x.2.2.2.2.2.2.2.2.1 x.2.2.2.2.2.2.2.2.2.1 x.2.2.2.2.2.2.2.2.2.2
theorem of_b11 {α1 α2 α3 α4 α5 α6 α7 α8 α9 α10 α11 β : Type} {o : Option (α1 × α2 × α3 × α4 × α5 × α6 × α7 × α8 × α9 × α10 × α11)} {f : α1 → α2 → α3 → α4 → α5 → α6 → α7 → α8 → α9 → α10 → α11 → Option β} {r : β} (h : b11 o f = some r) : ∃ a b c d e g i j k l m, o = some (a, b, c, d, e, g, i, j, k, l, m) ∧ f a b c d e g i j k l m = some r := by
  obtain ⟨⟨a, b, c, d, e, g, i, j, k, l, m⟩, h1, h2⟩ := Option.bind_eq_some_iff.1 h; exact ⟨a, b, c, d, e, g, i, j, k, l, m, h1, h2⟩
section
variable {n : Nat} {E : List (Nat × Value)} {w0 : World} {rs : List Res} {P : Program} {o : Oper}
def isI (u : Option TypeDesc) : Bool := match u with | some (.int _) => true | _ => false
def numField (P : Program) (k : Nat) (f : Field) : Bool := decide (f.name ≠ "_") && f.offset == k && isI (P.underlying f.type)
def opDesc (P : Program) : TypeDesc → Bool
  | .struct fs => match fs.toList with
    | [f0, f1, f2] => numField P 0 f0 && numField P 1 f1 && numField P 2 f2
    | _ => false
  | _ => false
/-- A type of three numbers, with no guard of the model's. -/
def EqT (P : Program) (t : Nat) : Prop := ((P.underlying t).map (opDesc P), P.stoodInHeld t, P.eqGuardType P.depth t) = (some true, false, false)
theorem isI_some {u : Option TypeDesc} (h : isI u = true) : ∃ k, u = some (.int k) := by
  unfold isI at h
  split at h
  · exact ⟨_, rfl⟩
  · exact absurd h (by simp)
theorem num_field {k : Nat} {f : Field} (h : numField P k f = true) : f.name ≠ "_" ∧ f.offset = k ∧ ∃ d, P.underlying f.type = some (.int d) := by
  unfold numField at h
  simp only [Bool.and_eq_true, decide_eq_true_eq, beq_iff_eq] at h
  exact ⟨h.1.1, h.1.2, isI_some h.2⟩
theorem EqT.fields {t : Nat} (h : EqT P t) : ∃ f0 f1 f2, P.underlying t = some (.struct #[f0, f1, f2]) ∧ numField P 0 f0 = true ∧ numField P 1 f1 = true ∧ numField P 2 f2 = true := by
  unfold EqT at h
  have h1 : (P.underlying t).map (opDesc P) = some true := congrArg Prod.fst h
  cases hu : P.underlying t with
  | none => rw [hu] at h1; simp at h1
  | some u =>
    rw [hu] at h1
    have h2 : opDesc P u = true := by simpa using h1
    unfold opDesc at h2
    split at h2
    · rename_i fs
      split at h2
      · rename_i f0 f1 f2 e
        simp only [Bool.and_eq_true] at h2
        refine ⟨f0, f1, f2, ?_, h2.1.1, h2.1.2, h2.2⟩
        have : fs = #[f0, f1, f2] := by
          apply Array.ext'
          rw [e]
        rw [this]
      · exact absurd h2 (by simp)
    · exact absurd h2 (by simp)
theorem EqT.held {t : Nat} (h : EqT P t) : P.stoodInHeld t = false := congrArg (fun x => x.2.1) h
theorem EqT.guard {t : Nat} (h : EqT P t) : P.eqGuardType P.depth t = false := congrArg (fun x => x.2.2) h
theorem run_eqI {d : Nat} {t : Nat} {k : IntKind} {a b : Int} (hu : P.underlying t = some (.int k)) (w : World) : (Op.equalIn (d + 1) t (.int .i64 a) (.int .i64 b)).run P w = .ok (a == b) w := by
  unfold Op.equalIn
  refine (run_to (run_underlying hu w)).trans ?_
  rfl
theorem aggI {t : Nat} {k : IntKind} (hu : P.underlying t = some (.int k)) : AggIs P t false := by unfold AggIs; rw [hu]; rfl
theorem run_equal_T {t : Nat} {p q r p' q' r' : Int} (h : EqT P t) (w : World) : (Op.equal t (.agg #[.int .i64 p, .int .i64 q, .int .i64 r]) (.agg #[.int .i64 p', .int .i64 q', .int .i64 r'])).run P w = .ok (p == p' && (q == q' && r == r')) w := by
  obtain ⟨f0, f1, f2, hu, g0, g1, g2⟩ := h.fields
  obtain ⟨n0, o0, k0, u0⟩ := num_field g0
  obtain ⟨n1, o1, k1, u1⟩ := num_field g1
  obtain ⟨n2, o2, k2, u2⟩ := num_field g2
  show Sem.run P (Op.equalIn (9999 + 1) t _ _) w = _
  unfold Op.equalIn
  refine (run_to (run_underlying hu w)).trans ?_
  have hh := h.held
  have e0 : ∀ {a b : Int} (w : World), (Op.equalIn 9999 f0.type (.int .i64 a) (.int .i64 b)).run P w = .ok (a == b) w := fun w => run_eqI (d := 9998) u0 w
  have e1 : ∀ {a b : Int} (w : World), (Op.equalIn 9999 f1.type (.int .i64 a) (.int .i64 b)).run P w = .ok (a == b) w := fun w => run_eqI (d := 9998) u1 w
  have e2 : ∀ {a b : Int} (w : World), (Op.equalIn 9999 f2.type (.int .i64 a) (.int .i64 b)).run P w = .ok (a == b) w := fun w => run_eqI (d := 9998) u2 w
  have p0 : ∀ {a b c : Int} (w : World), (part f0.type #[.int .i64 a, .int .i64 b, .int .i64 c] f0.offset).run P w = .ok (.int .i64 a) w := fun w => run_part (aggI u0) (by rw [o0]; rfl) w
  have p1 : ∀ {a b c : Int} (w : World), (part f1.type #[.int .i64 a, .int .i64 b, .int .i64 c] f1.offset).run P w = .ok (.int .i64 b) w := fun w => run_part (aggI u1) (by rw [o1]; rfl) w
  have p2 : ∀ {a b c : Int} (w : World), (part f2.type #[.int .i64 a, .int .i64 b, .int .i64 c] f2.offset).run P w = .ok (.int .i64 c) w := fun w => run_part (aggI u2) (by rw [o2]; rfl) w
  refine (run_to (show Sem.run P (program) w = .ok P w from rfl)).trans ?_
  rw [if_neg (by rw [hh]; simp)]
  have hb : ∀ {α β : Type} (m : Sem α) (f : α → Sem β), (m >>= f) = Sem.bind m f := fun _ _ => rfl
  have hp : ∀ {α : Type} (a : α) (w : World), Sem.run P (pure a : Sem α) w = .ok a w := fun _ _ => rfl
  rw [← Array.forIn_toList]
  simp only [List.forIn_cons, List.forIn_nil, ne_eq, n0, n1, n2, not_false_eq_true, if_true, hb, run_bind, p0, p1, p2, e0, e1, e2, hp]
  by_cases c0 : p = p'
  · subst c0
    by_cases c1 : q = q'
    · subst c1
      by_cases c2 : r = r'
      · subst c2
        simp [hp, run_bind, hb, p0, p1, p2, e0, e1, e2]
      · simp [hp, run_bind, hb, p0, p1, p2, e0, e1, e2, c2]
    · simp [hp, run_bind, hb, p0, p1, p2, e0, e1, e2, c1]
  · simp [hp, run_bind, hb, p0, p1, p2, e0, e1, e2, c0]
variable {t t' : TypeId} {x y : Operand} {p q r p' q' r' : Int}
theorem q_neT (hE : EqT P t) (ho : o.op = .binOp .neq t x y t') (hx : ev E x = some (.agg (List.toArray [.int .i64 p, .int .i64 q, .int .i64 r]))) (hy : ev E y = some (.agg (List.toArray [.int .i64 p', .int .i64 q', .int .i64 r']))) : Quiet P o n E w0 rs (.bool (decide ¬(p = p' ∧ q = q' ∧ r = r'))) := .of (fun ρ => do eqGuard .neq t x y (ρ x) (ρ y); binOp .neq t (ρ x) (ρ y)) (fun ρ => by simp only [execOp, ho]; rfl) fun ρ w h hm => by
  simp only [h _ _ hx, h _ _ hy]
  have hg : (eqGuard .neq t x y (.agg (List.toArray [.int .i64 p, .int .i64 q, .int .i64 r])) (.agg (List.toArray [.int .i64 p', .int .i64 q', .int .i64 r']))).run P w = .ok () w := by
    show Sem.run P (if (!P.eqGuardType P.depth t) = true then (pure () : Sem Unit) else _) w = _
    rw [if_pos (by rw [hE.guard]; rfl)]; rfl
  refine (run_to hg).trans ?_
  show Sem.run P ((Op.equal t _ _).bind fun r => (pure (Value.bool (!r)) : Sem Value)) w = _
  rw [run_to (run_equal_T hE w)]
  show Result.ok (Value.bool (!(p == p' && (q == q' && r == r')))) w = _
  congr 2
  by_cases a : p = p' <;> by_cases b : q = q' <;> by_cases c : r = r' <;> simp [a, b, c]
theorem ghost_nilT {A : Option Addr} {xs : List (Int × Int × Int)} {w : World} (hm : Mem w0 rs w) (h : Rd w0 rs A (trips xs)) : (A.isNone = true ∧ xs = []) ∨ A.isNone = false := by
  cases A with
  | some a => exact .inr rfl
  | none =>
    refine .inl ⟨rfl, ?_⟩
    cases xs with
    | nil => rfl
    | cons x xs =>
      obtain ⟨a, ha, _⟩ := h w hm 0 (.int .i64 x.1) rfl
      cases ha
end
end Go.Proofs.YtnfaiojmabolmaaDoor.S
