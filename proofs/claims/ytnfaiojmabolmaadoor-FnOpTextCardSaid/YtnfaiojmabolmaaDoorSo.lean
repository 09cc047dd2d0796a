/- Operations of the text functions: a table that is a package's variable, numbers as bytes, bytes as text. It says nothing of any program. -/
import Derived.Test.YtnfaiojmabolmaaDoorSm
namespace Go.Proofs.YtnfaiojmabolmaaDoor.S
open Go Go.RowKit
set_option linter.unusedVariables false
set_option linter.unusedSimpArgs false
section
variable {n : Nat} {E : List (Nat × Value)} {w0 : World} {rs : List Res} {P : Program} {o : Oper}
/-- The address of a package's variable. -/
abbrev gA (g : Nat) : Option Addr := some ⟨g, 0, none⟩
/-- The words of operations. -/
def opTab : List ByteArray := [⟨#[]⟩, ⟨#[110, 101, 119]⟩, ⟨#[99, 111, 112, 121]⟩, ⟨#[108, 101, 102, 116]⟩, ⟨#[114, 105, 103, 104, 116]⟩, ⟨#[112, 117, 116, 108, 101, 102, 116]⟩, ⟨#[112, 117, 116, 114, 105, 103, 104, 116]⟩, ⟨#[99, 108, 101, 97, 114]⟩]
def w8 (n : Int) : Int := n % 256
/-- A byte as text. -/
def b1s (v : Int) : ByteArray := ByteArray.empty.push (UInt8.ofNat v.toNat)
theorem u8_wrap (n : Int) : IntKind.u8.wrap n = w8 n := by
  unfold IntKind.wrap w8
  simp [IntKind.signed, IntKind.bits]
variable {t t' e : TypeId} {x y : Operand}
theorem q_ixG {k : IntKind} {i : Int} {g : Nat} (hb : 0 ≤ i ∧ i < (opTab.length : Int)) (hu : P.underlying t = some (.array 8 e)) (hs : SzIs P e 1) (ho : o.op = .indexAddr t x y) (hx : ev E x = some (.pointer (gA g))) (hy : ev E y = some (.int k i)) : Quiet P o n E w0 rs (.pointer ((gA g).map (·.add (i.toNat * 1)))) := .of (fun ρ => Instr.indexAt t (ρ x) (ρ y)) (fun ρ => by simp only [execOp, ho]; rfl) fun ρ w h hm => by
  simp only [h _ _ hx, h _ _ hy]
  have hl : opTab.length = 8 := rfl
  rw [hl] at hb
  show Sem.run P ((underlying t).bind _) w = _
  refine (run_to (run_underlying hu w)).trans ?_
  refine (run_to (run_underlying hu w)).trans ?_
  show Sem.run P (if 0 ≤ i ∧ i < ((8 : Nat) : Int) then ((sizeOf e).bind fun s => (pure (Value.pointer (some ((⟨g, 0, none⟩ : Addr).add (i.toNat * s)))) : Sem Value)) else _) w = _
  rw [if_pos hb, run_to (run_size hs w)]
  rfl
theorem q_int8 {s d : TypeId} {k : IntKind} {u : TypeDesc} {p : Int} (hs : P.underlying s = some u) (hd : P.underlying d = some (.int .u8)) (ho : o.op = .convert s d x) (hx : ev E x = some (.int k p)) : Quiet P o n E w0 rs (.int .u8 (w8 p)) := .of (fun ρ => convert s d (ρ x)) (fun ρ => by simp only [execOp, ho]; rfl) fun ρ w h hm => by
  simp only [h _ _ hx]
  refine (run_to (run_underlying hs w)).trans ?_
  refine (run_to (run_underlying hd w)).trans ?_
  rw [← u8_wrap]
  cases u <;> rfl
theorem q_bstr {s d : TypeId} {A : Option Addr} {c : Nat} {v : Int} (hR : Rd w0 rs A (ints .u8 [v])) (hs : P.underlying s = some (.slice e)) (he : P.underlying e = some (.int .u8)) (hd : P.underlying d = some .string) (ho : o.op = .convert s d x) (hx : ev E x = some (.slice A 1 c)) : Quiet P o n E w0 rs (.string (b1s v)) := .of (fun ρ => convert s d (ρ x)) (fun ρ => by simp only [execOp, ho]; rfl) fun ρ w h hm => by
  simp only [h _ _ hx]
  obtain ⟨a, rfl, ha⟩ := hR.cell hm (m := 0) (v := .int .u8 v) rfl
  refine (run_to (run_underlying hs w)).trans ?_
  refine (run_to (run_underlying hd w)).trans ?_
  refine (run_to (run_underlying he w)).trans ?_
  have hl : (loadCells a 1).run P w = .ok #[.int .u8 v] w := run_loadCells (P := P) (w := w) (a := a) [.int .u8 v] 0 #[] (fun j u hj => by
    cases j with
    | zero => simp at hj; subst hj; simpa using ha
    | succ j => simp at hj)
  refine (run_to hl).trans ?_
  rfl
theorem q_eqT {p q r p' q' r' : Int} (hE : EqT P t) (ho : o.op = .binOp .eql t x y t') (hx : ev E x = some (.agg (List.toArray [.int .i64 p, .int .i64 q, .int .i64 r]))) (hy : ev E y = some (.agg (List.toArray [.int .i64 p', .int .i64 q', .int .i64 r']))) : Quiet P o n E w0 rs (.bool (decide (p = p' ∧ q = q' ∧ r = r'))) := .of (fun ρ => do eqGuard .eql t x y (ρ x) (ρ y); binOp .eql t (ρ x) (ρ y)) (fun ρ => by simp only [execOp, ho]; rfl) fun ρ w h hm => by
  simp only [h _ _ hx, h _ _ hy]
  have hg : (eqGuard .eql t x y (.agg (List.toArray [.int .i64 p, .int .i64 q, .int .i64 r])) (.agg (List.toArray [.int .i64 p', .int .i64 q', .int .i64 r']))).run P w = .ok () w := by
    show Sem.run P (if (!P.eqGuardType P.depth t) = true then (pure () : Sem Unit) else _) w = _
    rw [if_pos (by rw [hE.guard]; rfl)]; rfl
  refine (run_to hg).trans ?_
  show Sem.run P ((Op.equal t _ _).bind fun r => (pure (Value.bool r) : Sem Value)) w = _
  rw [run_to (run_equal_T hE w)]
  show Result.ok (Value.bool (p == p' && (q == q' && r == r'))) w = _
  congr 2
  by_cases a : p = p' <;> by_cases b : q = q' <;> by_cases c : r = r' <;> simp [a, b, c]
end
end Go.Proofs.YtnfaiojmabolmaaDoor.S
