/- The table of the operations' words among six laid variables (the rows that reach strings.Split): what they say of it. -/
import Derived.Test.YtnfaiojmabolmaaDoorDg
import Derived.Lay
namespace Go.Proofs.YtnfaiojmabolmaaDoor.D
open Go Go.ChangeShapes Go.WideShapes Go.ChangeAt Go.RowKit Go.WideElems Go.Proofs.YtnfaiojmabolmaaDoor.S
set_option linter.unusedVariables false
abbrev laidL6 : List (String × DataW Unit) := [("math/bits.deBruijn32tab", Rows.laid_math_bits_deBruijn32tab), ("math/bits.deBruijn64tab", Rows.laid_math_bits_deBruijn64tab), ("internal/strconv.uint64pow10", Rows.laid_internal_strconv_uint64pow10), ("unicode/utf8.acceptRanges", Rows.laid_unicode_utf8_acceptRanges), ("loop.example/cellcollector/impl.opWords", Rows.laid_loop_example_cellcollector_impl_opWords), ("unicode/utf8.first", Rows.laid_unicode_utf8_first)]
/-- A heap in which those tables were laid meets the condition. -/
theorem lay_met6 (os : Os) (args : Array Value) : laidMetH Tryd.prog laidL6 ((World.laidAll Tryd.prog os laidL6).forCall (fun _ _ => 0) ⟨#[], args, []⟩).memory := by
  rw [MakeChecks.laidMetH_plain _ _ _ (by kernel_rfl)]
  exact laidMet_laidAll _ (by kernel_rfl) (by kernel_rfl)
theorem of_laid6 {W : World} (h : laidMetH Tryd.prog laidL6 W) : Rd W [] (gA 0) (Go.Proofs.YtnfaiojmabolmaaDoor.S.strs opTab) := by
  rw [MakeChecks.laidMetH_plain _ _ _ (by kernel_rfl)] at h
  obtain ⟨ps, ⟨_, _, _, _, _, _, _, _, _, _, ⟨_, _, _, _, _, _, _, _, _, _, ⟨_, _, _, _, _, _, _, _, _, _, ⟨_, _, _, _, _, _, _, _, _, _, ⟨g3, t3, cs3, f3, p3, q3, hg3, ht3, hv3, hd3, _, _⟩, _⟩, _⟩, _⟩, _⟩, _, _⟩ := h
  obtain rfl := Option.some.inj (gWords.symm.trans hg3)
  obtain rfl := Option.some.inj (tWords.symm.trans ht3)
  obtain ⟨xs, m1, rfl, hx1, hlen, hn3, hel⟩ := DataW.trod_array Tryd.underlying51 hd3
  have c9 : Tryd.prog.cellsOf 9 = 1 := by kernel_rfl
  have hx2 : (Rows.laid_loop_example_cellcollector_impl_opWords : DataW Unit) = .agg (xs.map (·.1)) := congrArg Prod.fst hx1
  rw [words_eq] at hx2
  injection hx2 with hx3
  intro w hm j v hj
  rw [Go.Proofs.YtnfaiojmabolmaaDoor.S.strs, List.getElem?_map] at hj
  cases ho : opTab[j]? with
  | none => rw [ho] at hj; cases hj
  | some o =>
    rw [ho] at hj
    obtain rfl : Value.string o = v := Option.some.inj hj
    have hj8 : j < 8 := (List.getElem?_eq_some_iff.1 ho).1
    have h0 := hel j hj8
    rw [c9, Nat.mul_one] at h0
    have hxj : (xs.map (·.1))[j]? = some (.lit (.string o.data.toList)) := by rw [← hx3, List.getElem?_map, ho]; rfl
    rw [List.getElem?_map] at hxj
    cases hy : xs[j]? with
    | none => rw [hy] at hxj; cases hxj
    | some y =>
      rw [hy] at hxj h0
      obtain ⟨s, e1, e2, _⟩ := DataW.trod_string Tryd.underlying9 h0
      have hy1 : y.1 = .lit (.string o.data.toList) := Option.some.inj hxj
      rw [e2] at hy1
      have hb : s.data.toList = o.data.toList := lit_inj hy1
      have hs : s = o := ByteArray.ext (Array.ext' hb)
      subst hs
      have hc : cs3.toList[j]? = some (.string s) := by
        have hd := congrArg (fun l : List Value => l[0]?) e1
        simpa [List.getElem?_take, List.getElem?_drop] using hd
      have key : W.cell? ((⟨0, 0, none⟩ : Addr).add j) = some (.string s) := by
        have := World.var?_cell hg3 hv3 j
        have ha : (⟨0, 0, none⟩ : Addr).add j = ⟨0, j, none⟩ := by cases j <;> simp [Addr.add]
        rw [ha, this, ← Array.getElem?_toList, hc]
      exact ⟨⟨0, 0, none⟩, rfl, (hm.low.cell (World.block_lt_of_cell? W _ key)).trans key⟩
end Go.Proofs.YtnfaiojmabolmaaDoor.D
