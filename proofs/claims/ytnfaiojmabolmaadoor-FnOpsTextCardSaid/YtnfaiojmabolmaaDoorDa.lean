/- The table of the operations' words: what the rows of this seat say of it, in the logic's words. -/
import Derived.Test.YtnfaiojmabolmaaDoorRows
import Derived.Test.YtnfaiojmabolmaaDoorX1
import Derived.Test.YtnfaiojmabolmaaDoorSj
import Derived.LaidMore
import Derived.ChangeVars
import Derived.ChangeOld
import Derived.Carry
import Derived.ProofKit
import Derived.OpenShut
import Derived.Stop.Joined
namespace Go.Proofs.YtnfaiojmabolmaaDoor.D
open Go Go.ChangeShapes Go.WideShapes Go.ChangeAt Go.RowKit Go.WideElems Go.Proofs.YtnfaiojmabolmaaDoor.S
set_option linter.unusedVariables false
abbrev laidL : List (String × DataW Unit) := [("math/bits.deBruijn32tab", Rows.laid_math_bits_deBruijn32tab), ("math/bits.deBruijn64tab", Rows.laid_math_bits_deBruijn64tab), ("internal/strconv.uint64pow10", Rows.laid_internal_strconv_uint64pow10), ("loop.example/cellcollector/impl.opWords", Rows.laid_loop_example_cellcollector_impl_opWords)]
/-- The heap that the door's own run leaves meets the condition. -/
theorem door_met (os : Os) (args : Array Value) : laidMetH Tryd.prog laidL ((World.doorLaid Tryd.prog 39 os).forCall (fun _ _ => 0) ⟨#[], args, []⟩).memory :=
  laidMetH_of_parts3 (fuel := 8) (laidMet_of_run' 8 (by kernel_rfl) (by kernel_rfl)) (by kernel_rfl) (by kernel_rfl)
theorem gWords : Tryd.prog.globalNamed "loop.example/cellcollector/impl.opWords" = some 0 := by kernel_rfl
theorem tWords : (Tryd.prog.globals[0]?).map (·.type) = some 51 := by kernel_rfl
theorem words_eq : (Rows.laid_loop_example_cellcollector_impl_opWords : DataW Unit) = .agg (opTab.map fun b => .lit (.string b.data.toList)) := rfl
theorem lit_inj {a b : List UInt8} (h : (DataW.lit (.string a) : DataW Unit) = .lit (.string b)) : a = b := by
  injection h with h
  injection h
theorem of_laid {W : World} (h : laidMetH Tryd.prog laidL W) : Rd W [] (gA 0) (Go.Proofs.YtnfaiojmabolmaaDoor.S.strs opTab) := by
  rw [MakeChecks.laidMetH_plain _ _ _ (by kernel_rfl)] at h
  obtain ⟨ps, ⟨_, _, _, _, _, _, _, _, _, _, ⟨_, _, _, _, _, _, _, _, _, _, ⟨_, _, _, _, _, _, _, _, _, _, ⟨g3, t3, cs3, f3, p3, q3, hg3, ht3, hv3, hd3, _, _⟩, _⟩, _⟩, _⟩, _, _⟩ := h
  obtain rfl := Option.some.inj (gWords.symm.trans hg3)
  obtain rfl := Option.some.inj (tWords.symm.trans ht3)
  obtain ⟨xs, m1, rfl, hx1, hlen, hn3, hel⟩ := DataW.trod_array Tryd.underlying51 hd3
  have c9 : Tryd.prog.cellsOf 9 = 1 := by kernel_rfl
  have hx2 : (Rows.laid_loop_example_cellcollector_impl_opWords : DataW Unit) = .agg (xs.map (·.1)) := congrArg Prod.fst hx1
  rw [words_eq] at hx2
  injection hx2 with hx3
  intro w hm j v hj
  rw [Go.Proofs.YtnfaiojmabolmaaDoor.S.strs, List.getElem?_map] at hj
  cases ho : opTab[j]? with
  | none => rw [ho] at hj; cases hj
  | some o =>
    rw [ho] at hj
    obtain rfl : Value.string o = v := Option.some.inj hj
    have hj8 : j < 8 := (List.getElem?_eq_some_iff.1 ho).1
    have h0 := hel j hj8
    rw [c9, Nat.mul_one] at h0
    have hxj : (xs.map (·.1))[j]? = some (.lit (.string o.data.toList)) := by rw [← hx3, List.getElem?_map, ho]; rfl
    rw [List.getElem?_map] at hxj
    cases hy : xs[j]? with
    | none => rw [hy] at hxj; cases hxj
    | some y =>
      rw [hy] at hxj h0
      obtain ⟨s, e1, e2, _⟩ := DataW.trod_string Tryd.underlying9 h0
      have hy1 : y.1 = .lit (.string o.data.toList) := Option.some.inj hxj
      rw [e2] at hy1
      have hb : s.data.toList = o.data.toList := lit_inj hy1
      have hs : s = o := ByteArray.ext (Array.ext' hb)
      subst hs
      have hc : cs3.toList[j]? = some (.string s) := by
        have hd := congrArg (fun l : List Value => l[0]?) e1
        simpa [List.getElem?_take, List.getElem?_drop] using hd
      have key : W.cell? ((⟨0, 0, none⟩ : Addr).add j) = some (.string s) := by
        have := World.var?_cell hg3 hv3 j
        have ha : (⟨0, 0, none⟩ : Addr).add j = ⟨0, j, none⟩ := by cases j <;> simp [Addr.add]
        rw [ha, this, ← Array.getElem?_toList, hc]
      exact ⟨⟨0, 0, none⟩, rfl, (hm.low.cell (World.block_lt_of_cell? W _ key)).trans key⟩
/-- A package's variable reads behind the call as it did before. -/
theorem var_after {H : Type} {enc : TypeId × Value → H} {P : Program} {n : String} {g0 : Nat} {t0 : TypeId} {W W' : World} {gs : List (DataW H)} {ps : List MemPlace} (hl : laidOutB P = true) (hn : P.globalNamed n = some g0) (ht : (P.globals[g0]?).map (·.type) = some t0) (hr : P.readableRec t0 = true) (hrow : t0 < P.types.size) (hb : Below W.heap.size W W')
    (h : DataW.TrodVars enc P W (fun _ => true) [n] gs ps) : DataW.TrodVars enc P W' (fun b => decide (b < W.heap.size)) [n] gs ps := by
  have lt := h.lt
  obtain ⟨g, t, cs, fuel, d, p, rfl, e1, e2, e3, e4, rfl⟩ := trodVars_one h
  obtain rfl := Option.some.inj (hn.symm.trans e1)
  obtain rfl := Option.some.inj (ht.symm.trans e2)
  have hp : ∀ x ∈ p, x.block < W.heap.size := fun x hx => lt x (by simp [hx])
  have e3' : W'.var? P n = some cs := by
    have k := e3
    unfold World.var? at k ⊢
    rw [e1] at k ⊢
    rw [Option.bind_some] at k ⊢
    have hlt : g0 < W.heap.size := by
      cases hh : W.heap[g0]? with
      | none => rw [hh] at k; cases k
      | some o => exact (Array.getElem?_eq_some_iff.1 hh).1
    rw [hb.block g0 hlt]
    exact k
  refine trodVars_mk1 e1 e2 e3' (fuel := fuel) ?_
  exact DataW.trod_stays (kids_book hl hr) (book_sized hr) (fun h => by cases h) ⟨hrow, book_self t0⟩ e4 (fun x hx => hb.same (hp x hx)) (fun x hx => by simpa using hp x hx)
end Go.Proofs.YtnfaiojmabolmaaDoor.D
