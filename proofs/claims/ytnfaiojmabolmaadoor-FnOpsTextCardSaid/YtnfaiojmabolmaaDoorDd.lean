/- strings.Split, as the logic says it: a row of pieces that is new. -/
import Derived.Test.YtnfaiojmabolmaaDoorDc
import Derived.Test.YtnfaiojmabolmaaDoorSp
import Derived.Test.YtnfaiojmabolmaaDoorSq
import Derived.Shelf.Strings.Split
namespace Go.Proofs.YtnfaiojmabolmaaDoor.D
open Go Go.Shelf Go.RowKit Go.Proofs Go.Proofs.YtnfaiojmabolmaaDoor.S
set_option linter.unusedVariables false
theorem hi146 : (Tryd.prog.info? (ren146.t 9)).map (fun i => (i.zero, i.size, i.bytes)) = some (some (.string ByteArray.empty), 1, 16) := by kernel_rfl
theorem split_calls {w0 w : World} {F : List Res} {s sep : ByteArray} {m : Int} (hm : Mem w0 F w) (gM : Rd w0 F (gA 2) [.int .i64 m]) (hs : s.size < 4294967281) (h1 : 1 ≤ sep.size) :
    Calls Tryd.prog 37 (List.toArray [.string s, .string sep]) w fun e w' => ∃ x : Sl (spl s sep).length, e = .returned (.slice x.A x.n x.c) ∧ Mem w0 (.row x.A x.c 9 1 (Go.Proofs.YtnfaiojmabolmaaDoor.S.strs (spl s sep)) :: F) w' := by
  obtain ⟨a, ha, hc⟩ := gM w hm 0 (.int .i64 m) rfl
  cases ha
  have hl := spl_len (s := s) h1
  have hc' : w.cell? ⟨ren146.g 1, 0, none⟩ = some (.int .i64 m) := by
    have e : w.cell? ⟨2, 0, none⟩ = some (.int .i64 m) := by simpa [Addr.add] using hc
    exact e
  refine (Any.strings_Split lays146 hi146 s sep m w hs hc' h1).mono fun e w' ⟨he, hw⟩ => ?_
  refine ⟨⟨some ⟨w.heap.size, 0, none⟩, Go.Lib.countB s sep + 1, Go.Lib.countB s sep + 1, hl⟩, he, ?_⟩
  subst hw
  refine hm.newRow 9 (Go.Lib.countB s sep + 1) 1 _ (Go.Proofs.YtnfaiojmabolmaaDoor.S.strs (spl s sep)) ?_ ?_ ?_
  · simp only [Go.Proofs.YtnfaiojmabolmaaDoor.S.strs, List.length_map]; omega
  · simp only [List.size_toArray, List.length_map]
    have : (Go.Lib.splitB sep 0 (Go.Lib.countB s sep) s).length = Go.Lib.countB s sep + 1 := hl
    omega
  · intro j hj
    simp [Go.Proofs.YtnfaiojmabolmaaDoor.S.strs, spl]
end Go.Proofs.YtnfaiojmabolmaaDoor.D
