/- The program computes these pure functions, printed by the generator of wip/gen. -/
import Derived.Test.YtgganabcfloioaaFa
import Derived.Test.YtgganabcfloioaaFh
import Derived.Test.YtgganabcfloioaaFb
import Derived.Test.YtgganabcfloioaaC0
import Derived.Test.YtgganabcfloioaaC2
import Derived.Test.YtgganabcfloioaaC3
import Derived.Test.YtgganabcfloioaaC4
import Derived.Test.YtgganabcfloioaaC5
namespace Go.Proofs.Ytgganabcfloioaa.F
open Go Go.RowKit Go.Proofs.Ytgganabcfloioaa.S
set_option linter.unusedVariables false
set_option maxRecDepth 100000
theorem spec_DrawCountedValid.calls (K : Nat) (a0 : List Int) (a0_A : Option Addr) (a0_n a0_c : Nat) {w0 w : World} {F : List Res} {r1 : List Int} {r2 : List Int} {r3 : List Int} {r4 : List Int} {r5 : List Int} (hm : Mem w0 (F) w) (a0_h : a0.length = a0_n) (a0_R : Rd w0 F a0_A (ints .u8 a0)) (a0_k : a0.length ≤ a0_c) (h : spec_DrawCountedValid.f K a0 = some (r1, r2, r3, r4, r5)) :
    Calls Try.prog 28 (List.toArray [.slice a0_A a0_n a0_c]) w fun e w' => ∃ x : (Sl r1.length) × (Sl r2.length) × (Sl r3.length) × (Sl r4.length) × (Sl r5.length), e = .returned (.agg (List.toArray [.slice x.1.A x.1.n x.1.c, .slice x.2.1.A x.2.1.n x.2.1.c, .slice x.2.2.1.A x.2.2.1.n x.2.2.1.c, .slice x.2.2.2.1.A x.2.2.2.1.n x.2.2.2.1.c, .slice x.2.2.2.2.A x.2.2.2.2.n x.2.2.2.2.c])) ∧ Mem w0 (.row x.1.A x.1.c 3 1 (ii r1) :: .row x.2.1.A x.2.1.c 3 1 (ii r2) :: .row x.2.2.1.A x.2.2.1.c 3 1 (ii r3) :: .row x.2.2.2.1.A x.2.2.2.1.c 3 1 (ii r4) :: .row x.2.2.2.2.A x.2.2.2.2.c 3 1 (ii r5) :: F) w' := by
  unfold spec_DrawCountedValid.f at h
  refine calls_of_J (n := 12) Try.func28 rfl rfl rfl hm ?_
  refine j_seq ?_
  refine j_region ?_
  refine r_do (a_alloc zr29 rfl) rfl rfl (fun x1 => ?_)
  refine r_nil ?_
  refine j_then ?_
  refine j_seq ?_
  refine j_region ?_
  refine r_q (q_move rfl rfl) rfl rfl ?_
  obtain ⟨_, hb1, h⟩ := of_b1 h
  refine r_do (a_call ok57 rfl rfl rfl rfl (fun w hm => spec_l13Open.calls K a0 a0_A a0_n a0_c hm a0_h (Rd.drop 1 a0_R) a0_k hb1)) rfl rfl (fun x2 => ?_)
  refine r_q (q_assign rfl rfl) rfl rfl ?_
  refine r_nil ?_
  refine j_then ?_
  refine j_seq ?_
  refine j_region ?_
  refine r_q (q_move rfl rfl) rfl rfl ?_
  refine r_q (q_move rfl rfl) rfl rfl ?_
  refine r_q (q_move rfl rfl) rfl rfl ?_
  obtain ⟨v1, v2, v3, v4, v5, v6, hb2, h⟩ := of_b6 h
  refine r_do (a_call ok59 rfl rfl rfl rfl (fun w hm => spec_l9Draw.calls K x2 (a0.take 2000) a0_A (a0.take 2000).length a0_c (0:Int) hm rfl (rd_hiI (Rd.drop 1 a0_R) 2000) hb2)) rfl rfl (fun x3 => ?_)
  obtain ⟨v7, v8, v9, v10, v11, v12, hb3, h⟩ := of_b6 h
  refine j_rs (.box x2 84 [(.slice a0_A (a0.take 2000).length a0_c), (i6 v6)] :: .row x3.1.A x3.1.c 3 1 (ii v1) :: .row x3.2.1.A x3.2.1.c 3 1 (ii v2) :: .row x3.2.2.1.A x3.2.2.1.c 3 1 (ii v3) :: .row x3.2.2.2.1.A x3.2.2.2.1.c 3 1 (ii v4) :: .row x3.2.2.2.2.A x3.2.2.2.2.c 3 1 (ii v5) :: .box x1 29 [(.slice none 0 0), (.slice none 0 0), (.slice none 0 0), (.slice none 0 0), (.slice none 0 0)] :: F) (fun _ h => h.pick 7 [5, 0, 1, 2, 3, 4, 6] rfl) ?_
  refine r_do (a_call ok58 rfl rfl rfl rfl (fun w hm => spec_l9Wrong.calls K x2 (a0.take 2000) a0_A (a0.take 2000).length a0_c v6 v1 x3.1.A x3.1.n x3.1.c v2 x3.2.1.A x3.2.1.n x3.2.1.c v3 x3.2.2.1.A x3.2.2.1.n x3.2.2.1.c v4 x3.2.2.2.1.A x3.2.2.2.1.n x3.2.2.2.1.c v5 x3.2.2.2.2.A x3.2.2.2.2.n x3.2.2.2.2.c hm rfl (rd_hiI (Rd.drop 6 a0_R) 2000) x3.1.h (Rd.row 0 rfl) x3.2.1.h (Rd.row 1 rfl) x3.2.2.1.h (Rd.row 2 rfl) x3.2.2.2.1.h (Rd.row 3 rfl) x3.2.2.2.2.h (Rd.row 4 rfl) hb3)) rfl rfl (fun x4 => ?_)
  obtain ⟨v13, v14, v15, v16, v17, v18, hb4, h⟩ := of_b6 h
  refine j_rs (.box x2 84 [(.slice a0_A (a0.take 2000).length a0_c), (i6 v12)] :: .row x4.1.A x4.1.c 3 1 (ii v7) :: .row x4.2.1.A x4.2.1.c 3 1 (ii v8) :: .row x4.2.2.1.A x4.2.2.1.c 3 1 (ii v9) :: .row x4.2.2.2.1.A x4.2.2.2.1.c 3 1 (ii v10) :: .row x4.2.2.2.2.A x4.2.2.2.2.c 3 1 (ii v11) :: .row x3.1.A x3.1.c 3 1 (ii v1) :: .row x3.2.1.A x3.2.1.c 3 1 (ii v2) :: .row x3.2.2.1.A x3.2.2.1.c 3 1 (ii v3) :: .row x3.2.2.2.1.A x3.2.2.2.1.c 3 1 (ii v4) :: .row x3.2.2.2.2.A x3.2.2.2.2.c 3 1 (ii v5) :: .box x1 29 [(.slice none 0 0), (.slice none 0 0), (.slice none 0 0), (.slice none 0 0), (.slice none 0 0)] :: F) (fun _ h => h.pick 12 [5, 0, 1, 2, 3, 4, 6, 7, 8, 9, 10, 11] rfl) ?_
  refine r_do (a_call ok58 rfl rfl rfl rfl (fun w hm => spec_l9Wrong.calls K x2 (a0.take 2000) a0_A (a0.take 2000).length a0_c v12 v7 x4.1.A x4.1.n x4.1.c v8 x4.2.1.A x4.2.1.n x4.2.1.c v9 x4.2.2.1.A x4.2.2.1.n x4.2.2.1.c v10 x4.2.2.2.1.A x4.2.2.2.1.n x4.2.2.2.1.c v11 x4.2.2.2.2.A x4.2.2.2.2.n x4.2.2.2.2.c hm rfl (rd_hiI (Rd.drop 11 a0_R) 2000) x4.1.h (Rd.row 0 rfl) x4.2.1.h (Rd.row 1 rfl) x4.2.2.1.h (Rd.row 2 rfl) x4.2.2.2.1.h (Rd.row 3 rfl) x4.2.2.2.2.h (Rd.row 4 rfl) hb4)) rfl rfl (fun x5 => ?_)
  refine r_do (a_storeb 16 rfl sz29 rfl rfl rfl rfl (Nat.le_of_ble_eq_true rfl) rfl) rfl rfl (fun _ => ?_)
  refine j_b16 [(.slice x5.1.A x5.1.n x5.1.c), (.slice x5.2.1.A x5.2.1.n x5.2.1.c), (.slice x5.2.2.1.A x5.2.2.1.n x5.2.2.1.c), (.slice x5.2.2.2.1.A x5.2.2.2.1.n x5.2.2.2.1.c), (.slice x5.2.2.2.2.A x5.2.2.2.2.n x5.2.2.2.2.c)] rfl ?_
  refine r_nil ?_
  refine j_then ?_
  refine j_ret ?_
  cases h
  exact j_return rfl (ResOf.cell 16 rfl rfl ag29 sz29 ResOf.nil) rfl (fun w h => ⟨(⟨x5.1.A, x5.1.n, x5.1.c, x5.1.h⟩, ⟨x5.2.1.A, x5.2.1.n, x5.2.1.c, x5.2.1.h⟩, ⟨x5.2.2.1.A, x5.2.2.1.n, x5.2.2.1.c, x5.2.2.1.h⟩, ⟨x5.2.2.2.1.A, x5.2.2.2.1.n, x5.2.2.2.1.c, x5.2.2.2.1.h⟩, ⟨x5.2.2.2.2.A, x5.2.2.2.2.n, x5.2.2.2.2.c, x5.2.2.2.2.h⟩), rfl, h.pick 17 [0, 1, 2, 3, 4] rfl⟩)

end Go.Proofs.Ytgganabcfloioaa.F
