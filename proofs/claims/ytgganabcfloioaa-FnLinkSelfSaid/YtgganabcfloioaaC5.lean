/- The program computes these pure functions, printed by the generator of wip/gen. -/
import Derived.Test.YtgganabcfloioaaFa
import Derived.Test.YtgganabcfloioaaFh
import Derived.Test.YtgganabcfloioaaFb
import Derived.Test.YtgganabcfloioaaC0
import Derived.Test.YtgganabcfloioaaC2
import Derived.Test.YtgganabcfloioaaC3
import Derived.Test.YtgganabcfloioaaC4
namespace Go.Proofs.Ytgganabcfloioaa.F
open Go Go.RowKit Go.Proofs.Ytgganabcfloioaa.S
set_option linter.unusedVariables false
set_option maxRecDepth 100000
theorem spec_l9Root.calls (K : Nat) (a0_0 : List Int) (a0_0_A : Option Addr) (a0_0_n a0_0_c : Nat) (a0_1 : List Int) (a0_1_A : Option Addr) (a0_1_n a0_1_c : Nat) (a0_2 : List Int) (a0_2_A : Option Addr) (a0_2_n a0_2_c : Nat) (a0_3 : List Int) (a0_3_A : Option Addr) (a0_3_n a0_3_c : Nat) (a0_4 : List Int) (a0_4_A : Option Addr) (a0_4_n a0_4_c : Nat) (a1 : Int) {w0 w : World} {F : List Res} {r1 : Bool} (hm : Mem w0 (F) w) (a0_0_h : a0_0.length = a0_0_n) (a0_0_R : Rd w0 F a0_0_A (ii a0_0)) (a0_1_h : a0_1.length = a0_1_n) (a0_1_R : Rd w0 F a0_1_A (ii a0_1)) (a0_2_h : a0_2.length = a0_2_n) (a0_2_R : Rd w0 F a0_2_A (ii a0_2)) (a0_3_h : a0_3.length = a0_3_n) (a0_3_R : Rd w0 F a0_3_A (ii a0_3)) (a0_3_k : a0_3.length ≤ a0_3_c) (a0_4_h : a0_4.length = a0_4_n) (a0_4_R : Rd w0 F a0_4_A (ii a0_4)) (h : spec_l9Root.f K a0_0 a0_1 a0_2 a0_3 a0_4 a1 = some r1) :
    Calls Try.prog 51 (List.toArray [.agg (List.toArray [.slice a0_0_A a0_0_n a0_0_c, .slice a0_1_A a0_1_n a0_1_c, .slice a0_2_A a0_2_n a0_2_c, .slice a0_3_A a0_3_n a0_3_c, .slice a0_4_A a0_4_n a0_4_c]), i6 a1]) w fun e w' => ∃ x : Unit, e = .returned (.bool r1) ∧ Mem w0 (F) w' := by
  unfold spec_l9Root.f at h
  refine calls_of_J (n := 20) Try.func51 rfl rfl rfl hm ?_
  refine j_seq ?_
  refine j_region ?_
  refine r_do (a_box rfl rfl) rfl rfl (fun x1 => ?_)
  refine r_q (q_assign rfl rfl) rfl rfl ?_
  refine r_nil ?_
  refine j_then ?_
  refine j_seq ?_
  refine j_region ?_
  refine r_q (q_loadb_agg 0 rfl ag29 sz29 rfl rfl rfl rfl) rfl rfl ?_
  obtain ⟨v1, hb1, h⟩ := of_b1 h
  refine r_do (a_call ok29 rfl rfl rfl rfl (fun w hm => spec_CountedValid.calls K a0_0 a0_0_A a0_0_n a0_0_c a0_1 a0_1_A a0_1_n a0_1_c a0_2 a0_2_A a0_2_n a0_2_c a0_3 a0_3_A a0_3_n a0_3_c a0_4 a0_4_A a0_4_n a0_4_c hm a0_0_h (Rd.drop 1 a0_0_R) a0_1_h (Rd.drop 1 a0_1_R) a0_2_h (Rd.drop 1 a0_2_R) a0_3_h (Rd.drop 1 a0_3_R) a0_3_k a0_4_h (Rd.drop 1 a0_4_R) hb1)) rfl rfl (fun x2 => ?_)
  refine r_q (q_move rfl rfl) rfl rfl ?_
  rcases of_if h with ⟨c1, h⟩ | ⟨c1, h⟩
  · refine r_qon (q_move rfl rfl) rfl rfl rfl rfl c1 rfl ?_
    refine r_qon (q_geq rfl rfl rfl) rfl rfl rfl rfl c1 rfl ?_
    refine r_q (q_pick_t rfl rfl c1 rfl) rfl rfl ?_
    refine r_q (q_move rfl rfl) rfl rfl ?_
    rcases of_if h with ⟨c2, h⟩ | ⟨c2, h⟩
    · refine r_qon (q_move rfl rfl) rfl rfl rfl rfl (decide_eq_true c2) rfl ?_
      refine r_qon (q_fieldAddr fi29_0 sz27 rfl rfl rfl) rfl rfl rfl rfl (decide_eq_true c2) rfl ?_
      refine r_qon (q_fieldAddr fi27_0 sz25 rfl rfl rfl) rfl rfl rfl rfl (decide_eq_true c2) rfl ?_
      refine r_qon (q_fieldAddr fi25_2 sz23 rfl rfl rfl) rfl rfl rfl rfl (decide_eq_true c2) rfl ?_
      refine r_qon (q_loadb 0 rfl ag23 rfl rfl rfl) rfl rfl rfl rfl (decide_eq_true c2) rfl ?_
      refine r_qon (q_lenX a0_2 a0_2_h un23 rfl rfl rfl rfl rfl) rfl rfl rfl rfl (decide_eq_true c2) rfl ?_
      refine r_qon (q_lss rfl rfl rfl) rfl rfl rfl rfl (decide_eq_true c2) rfl ?_
      refine r_q (q_pick_t rfl rfl (decide_eq_true c2) rfl) rfl rfl ?_
      refine r_q (q_assign rfl rfl) rfl rfl ?_
      refine r_nil ?_
      refine j_then ?_
      refine j_ret ?_
      cases h
      exact j_return rfl (ResOf.tmp rfl ResOf.nil) rfl (fun w h => ⟨(), rfl, h.tail⟩)
    · refine r_off rfl rfl rfl rfl (decide_eq_false c2) rfl ?_
      refine r_off rfl rfl rfl rfl (decide_eq_false c2) rfl ?_
      refine r_off rfl rfl rfl rfl (decide_eq_false c2) rfl ?_
      refine r_off rfl rfl rfl rfl (decide_eq_false c2) rfl ?_
      refine r_off rfl rfl rfl rfl (decide_eq_false c2) rfl ?_
      refine r_off rfl rfl rfl rfl (decide_eq_false c2) rfl ?_
      refine r_off rfl rfl rfl rfl (decide_eq_false c2) rfl ?_
      refine r_q (q_pick_f rfl rfl (decide_eq_false c2) rfl) rfl rfl ?_
      refine r_q (q_assign rfl rfl) rfl rfl ?_
      refine r_nil ?_
      refine j_then ?_
      refine j_ret ?_
      cases h
      exact j_return rfl (ResOf.tmp rfl ResOf.nil) rfl (fun w h => ⟨(), rfl, h.tail⟩)
  · refine r_off rfl rfl rfl rfl (var_f c1) rfl ?_
    refine r_off rfl rfl rfl rfl (var_f c1) rfl ?_
    refine r_q (q_pick_f rfl rfl (var_f c1) rfl) rfl rfl ?_
    refine r_q (q_move rfl rfl) rfl rfl ?_
    refine r_off rfl rfl rfl rfl rfl rfl ?_
    refine r_off rfl rfl rfl rfl rfl rfl ?_
    refine r_off rfl rfl rfl rfl rfl rfl ?_
    refine r_off rfl rfl rfl rfl rfl rfl ?_
    refine r_off rfl rfl rfl rfl rfl rfl ?_
    refine r_off rfl rfl rfl rfl rfl rfl ?_
    refine r_off rfl rfl rfl rfl rfl rfl ?_
    refine r_q (q_pick_f rfl rfl rfl rfl) rfl rfl ?_
    refine r_q (q_assign rfl rfl) rfl rfl ?_
    refine r_nil ?_
    refine j_then ?_
    refine j_ret ?_
    cases h
    exact j_return rfl (ResOf.tmp rfl ResOf.nil) rfl (fun w h => ⟨(), rfl, h.tail⟩)

theorem spec_l9Copy.calls (K : Nat) (a0_0 : List Int) (a0_0_A : Option Addr) (a0_0_n a0_0_c : Nat) (a0_1 : List Int) (a0_1_A : Option Addr) (a0_1_n a0_1_c : Nat) (a0_2 : List Int) (a0_2_A : Option Addr) (a0_2_n a0_2_c : Nat) (a0_3 : List Int) (a0_3_A : Option Addr) (a0_3_n a0_3_c : Nat) (a0_4 : List Int) (a0_4_A : Option Addr) (a0_4_n a0_4_c : Nat) {w0 w : World} {F : List Res} {r1 : List Int} {r2 : List Int} {r3 : List Int} {r4 : List Int} {r5 : List Int} (hm : Mem w0 (F) w) (a0_0_h : a0_0.length = a0_0_n) (a0_0_R : Rd w0 F a0_0_A (ii a0_0)) (a0_1_h : a0_1.length = a0_1_n) (a0_1_R : Rd w0 F a0_1_A (ii a0_1)) (a0_2_h : a0_2.length = a0_2_n) (a0_2_R : Rd w0 F a0_2_A (ii a0_2)) (a0_3_h : a0_3.length = a0_3_n) (a0_3_R : Rd w0 F a0_3_A (ii a0_3)) (a0_4_h : a0_4.length = a0_4_n) (a0_4_R : Rd w0 F a0_4_A (ii a0_4)) (h : spec_l9Copy.f K a0_0 a0_1 a0_2 a0_3 a0_4 = some (r1, r2, r3, r4, r5)) :
    Calls Try.prog 52 (List.toArray [.agg (List.toArray [.slice a0_0_A a0_0_n a0_0_c, .slice a0_1_A a0_1_n a0_1_c, .slice a0_2_A a0_2_n a0_2_c, .slice a0_3_A a0_3_n a0_3_c, .slice a0_4_A a0_4_n a0_4_c])]) w fun e w' => ∃ x : (Sl r1.length) × (Sl r2.length) × (Sl r3.length) × (Sl r4.length) × (Sl r5.length), e = .returned (.agg (List.toArray [.slice x.1.A x.1.n x.1.c, .slice x.2.1.A x.2.1.n x.2.1.c, .slice x.2.2.1.A x.2.2.1.n x.2.2.1.c, .slice x.2.2.2.1.A x.2.2.2.1.n x.2.2.2.1.c, .slice x.2.2.2.2.A x.2.2.2.2.n x.2.2.2.2.c])) ∧ Mem w0 (.row x.1.A x.1.c 3 1 (ii r1) :: .row x.2.1.A x.2.1.c 3 1 (ii r2) :: .row x.2.2.1.A x.2.2.1.c 3 1 (ii r3) :: .row x.2.2.2.1.A x.2.2.2.1.c 3 1 (ii r4) :: .row x.2.2.2.2.A x.2.2.2.2.c 3 1 (ii r5) :: F) w' := by
  unfold spec_l9Copy.f at h
  refine calls_of_J (n := 11) Try.func52 rfl rfl rfl hm ?_
  refine j_seq ?_
  refine j_region ?_
  refine r_do (a_box rfl rfl) rfl rfl (fun x1 => ?_)
  refine r_do (a_alloc zr29 rfl) rfl rfl (fun x2 => ?_)
  refine r_nil ?_
  refine j_then ?_
  refine j_seq ?_
  obtain ⟨v1, v2, v3, v4, hb1, h⟩ := of_b4 h
  obtain ⟨c1, h⟩ := of_guard h
  refine j_draw (.box x1 29 [(.slice a0_0_A a0_0_n a0_0_c), (.slice a0_1_A a0_1_n a0_1_c), (.slice a0_2_A a0_2_n a0_2_c), (.slice a0_3_A a0_3_n a0_3_c), (.slice a0_4_A a0_4_n a0_4_c)] :: F) 9 follows_any rfl ?_
  refine d_take 0 rfl (q_fieldAddr fi29_0 sz27 rfl rfl rfl) rfl rfl (by kernel_rfl) (by kernel_rfl) (by kernel_rfl) (fun w h => h.tail) ?_
  refine d_take 1 rfl (q_loadb_agg 0 rfl ag27 sz27 rfl rfl rfl rfl) rfl rfl (by kernel_rfl) (by kernel_rfl) (by kernel_rfl) (fun w h => h.tail) ?_
  refine d_take 4 rfl (q_fieldAddr fi29_1 sz23 rfl rfl rfl) rfl rfl (by kernel_rfl) (by kernel_rfl) (by kernel_rfl) (fun w h => h.tail) ?_
  refine d_take 5 rfl (q_loadb 0 rfl ag23 rfl rfl rfl) rfl rfl (by kernel_rfl) (by kernel_rfl) (by kernel_rfl) (fun w h => h.tail) ?_
  refine d_join (σ := ((Sl v1.length) × (Sl v2.length) × (Sl v3.length) × (Sl v4.length)) × (Option Addr) × (Option Addr × Nat)) 0 #[true, true, true, true, true, true, true, true, true] (fun s => [(2, (pt x2))]) (fun s => .row s.1.1.A s.1.1.c 3 1 (ii v1) :: .row s.1.2.1.A s.1.2.1.c 3 1 (ii v2) :: .row s.1.2.2.1.A s.1.2.2.1.c 3 1 (ii v3) :: .row s.1.2.2.2.A s.1.2.2.2.c 3 1 (ii v4) :: .row s.2.2.1 s.2.2.2 3 1 (ii (([] : List Int) ++ a0_4)) :: .box x2 29 [(.slice s.1.1.A s.1.1.n s.1.1.c), (.slice s.1.2.1.A s.1.2.1.n s.1.2.1.c), (.slice s.1.2.2.1.A s.1.2.2.1.n s.1.2.2.1.c), (.slice s.1.2.2.2.A s.1.2.2.2.n s.1.2.2.2.c), (.slice s.2.2.1 (0 + a0_4_n) s.2.2.2)] :: .box x1 29 [(.slice a0_0_A a0_0_n a0_0_c), (.slice a0_1_A a0_1_n a0_1_c), (.slice a0_2_A a0_2_n a0_2_c), (.slice a0_3_A a0_3_n a0_3_c), (.slice a0_4_A a0_4_n a0_4_c)] :: F) ?_ (fun hD511 => ?_)
  · rintro ⟨x3, x4, x5⟩
    show J _ _ [(2, (pt x2))] _ (.row x3.1.A x3.1.c 3 1 (ii v1) :: .row x3.2.1.A x3.2.1.c 3 1 (ii v2) :: .row x3.2.2.1.A x3.2.2.1.c 3 1 (ii v3) :: .row x3.2.2.2.A x3.2.2.2.c 3 1 (ii v4) :: .row x5.1 x5.2 3 1 (ii (([] : List Int) ++ a0_4)) :: .box x2 29 [(.slice x3.1.A x3.1.n x3.1.c), (.slice x3.2.1.A x3.2.1.n x3.2.1.c), (.slice x3.2.2.1.A x3.2.2.1.n x3.2.2.1.c), (.slice x3.2.2.2.A x3.2.2.2.n x3.2.2.2.c), (.slice x5.1 (0 + a0_4_n) x5.2)] :: .box x1 29 [(.slice a0_0_A a0_0_n a0_0_c), (.slice a0_1_A a0_1_n a0_1_c), (.slice a0_2_A a0_2_n a0_2_c), (.slice a0_3_A a0_3_n a0_3_c), (.slice a0_4_A a0_4_n a0_4_c)] :: F)
    refine d_done (by kernel_rfl) ?_
    refine j_then ?_
    refine j_ret ?_
    cases h
    exact j_return rfl (ResOf.cell 5 rfl rfl ag29 sz29 ResOf.nil) rfl (fun w h => ⟨(⟨x3.1.A, x3.1.n, x3.1.c, x3.1.h⟩, ⟨x3.2.1.A, x3.2.1.n, x3.2.1.c, x3.2.1.h⟩, ⟨x3.2.2.1.A, x3.2.2.1.n, x3.2.2.1.c, x3.2.2.1.h⟩, ⟨x3.2.2.2.A, x3.2.2.2.n, x3.2.2.2.c, x3.2.2.2.h⟩, ⟨x5.1, (0 + a0_4_n), x5.2, (app_len rfl a0_4_h)⟩), rfl, h.pick 7 [0, 1, 2, 3, 4] rfl⟩)
  refine d_join (σ := ((Sl v1.length) × (Sl v2.length) × (Sl v3.length) × (Sl v4.length)) × (Option Addr) × (Option Addr × Nat)) 1 #[true, true, true, true, true, true, true, true, false] (fun s => [(2, (pt x2)), (10, (.agg (List.toArray [(.slice s.1.1.A s.1.1.n s.1.1.c), (.slice s.1.2.1.A s.1.2.1.n s.1.2.1.c), (.slice s.1.2.2.1.A s.1.2.2.1.n s.1.2.2.1.c), (.slice s.1.2.2.2.A s.1.2.2.2.n s.1.2.2.2.c), (.slice s.2.2.1 (0 + a0_4_n) s.2.2.2)])))]) (fun s => .row s.1.1.A s.1.1.c 3 1 (ii v1) :: .row s.1.2.1.A s.1.2.1.c 3 1 (ii v2) :: .row s.1.2.2.1.A s.1.2.2.1.c 3 1 (ii v3) :: .row s.1.2.2.2.A s.1.2.2.2.c 3 1 (ii v4) :: .row s.2.2.1 s.2.2.2 3 1 (ii (([] : List Int) ++ a0_4)) :: .box x2 29 [(.slice none 0 0), (.slice none 0 0), (.slice none 0 0), (.slice none 0 0), (.slice none 0 0)] :: .box x1 29 [(.slice a0_0_A a0_0_n a0_0_c), (.slice a0_1_A a0_1_n a0_1_c), (.slice a0_2_A a0_2_n a0_2_c), (.slice a0_3_A a0_3_n a0_3_c), (.slice a0_4_A a0_4_n a0_4_c)] :: F) ?_ (fun hD255 => ?_)
  · rintro ⟨x3, x4, x5⟩
    show J _ _ [(2, (pt x2)), (10, (.agg (List.toArray [(.slice x3.1.A x3.1.n x3.1.c), (.slice x3.2.1.A x3.2.1.n x3.2.1.c), (.slice x3.2.2.1.A x3.2.2.1.n x3.2.2.1.c), (.slice x3.2.2.2.A x3.2.2.2.n x3.2.2.2.c), (.slice x5.1 (0 + a0_4_n) x5.2)])))] _ (.row x3.1.A x3.1.c 3 1 (ii v1) :: .row x3.2.1.A x3.2.1.c 3 1 (ii v2) :: .row x3.2.2.1.A x3.2.2.1.c 3 1 (ii v3) :: .row x3.2.2.2.A x3.2.2.2.c 3 1 (ii v4) :: .row x5.1 x5.2 3 1 (ii (([] : List Int) ++ a0_4)) :: .box x2 29 [(.slice none 0 0), (.slice none 0 0), (.slice none 0 0), (.slice none 0 0), (.slice none 0 0)] :: .box x1 29 [(.slice a0_0_A a0_0_n a0_0_c), (.slice a0_1_A a0_1_n a0_1_c), (.slice a0_2_A a0_2_n a0_2_c), (.slice a0_3_A a0_3_n a0_3_c), (.slice a0_4_A a0_4_n a0_4_c)] :: F)
    refine d_one 8 (by kernel_rfl) ?_
    · refine o_do rfl (a_storeb 5 rfl sz29 rfl rfl rfl rfl (Nat.le_of_ble_eq_true rfl) rfl) rfl rfl (fun _ w h => (h.drop 6)) (fun _ => ?_)
      refine j_b5 [(.slice x3.1.A x3.1.n x3.1.c), (.slice x3.2.1.A x3.2.1.n x3.2.1.c), (.slice x3.2.2.1.A x3.2.2.1.n x3.2.2.1.c), (.slice x3.2.2.2.A x3.2.2.2.n x3.2.2.2.c), (.slice x5.1 (0 + a0_4_n) x5.2)] rfl ?_
      refine j_rs (.row x3.1.A x3.1.c 3 1 (ii v1) :: .row x3.2.1.A x3.2.1.c 3 1 (ii v2) :: .row x3.2.2.1.A x3.2.2.1.c 3 1 (ii v3) :: .row x3.2.2.2.A x3.2.2.2.c 3 1 (ii v4) :: .row x5.1 x5.2 3 1 (ii (([] : List Int) ++ a0_4)) :: .box x2 29 [(.slice x3.1.A x3.1.n x3.1.c), (.slice x3.2.1.A x3.2.1.n x3.2.1.c), (.slice x3.2.2.1.A x3.2.2.1.n x3.2.2.1.c), (.slice x3.2.2.2.A x3.2.2.2.n x3.2.2.2.c), (.slice x5.1 (0 + a0_4_n) x5.2)] :: .box x1 29 [(.slice a0_0_A a0_0_n a0_0_c), (.slice a0_1_A a0_1_n a0_1_c), (.slice a0_2_A a0_2_n a0_2_c), (.slice a0_3_A a0_3_n a0_3_c), (.slice a0_4_A a0_4_n a0_4_c)] :: F) (fun _ h => h) ?_
      refine j_env [(2, (pt x2))] ⟨rfl, trivial⟩ ?_
      exact hD511 (x3, x4, x5)
  refine d_join (σ := ((Sl v1.length) × (Sl v2.length) × (Sl v3.length) × (Sl v4.length)) × (Option Addr)) 3 #[true, true, true, true, true, true, false, false, false] (fun s => [(2, (pt x2)), (5, (.agg (List.toArray [(.slice s.1.1.A s.1.1.n s.1.1.c), (.slice s.1.2.1.A s.1.2.1.n s.1.2.1.c), (.slice s.1.2.2.1.A s.1.2.2.1.n s.1.2.2.1.c), (.slice s.1.2.2.2.A s.1.2.2.2.n s.1.2.2.2.c)]))), (6, (.slice s.2 0 0)), (8, (.slice a0_4_A a0_4_n a0_4_c))]) (fun s => .row s.1.1.A s.1.1.c 3 1 (ii v1) :: .row s.1.2.1.A s.1.2.1.c 3 1 (ii v2) :: .row s.1.2.2.1.A s.1.2.2.1.c 3 1 (ii v3) :: .row s.1.2.2.2.A s.1.2.2.2.c 3 1 (ii v4) :: .row s.2 0 3 1 (ii ([] : List Int)) :: .box x2 29 [(.slice none 0 0), (.slice none 0 0), (.slice none 0 0), (.slice none 0 0), (.slice none 0 0)] :: .box x1 29 [(.slice a0_0_A a0_0_n a0_0_c), (.slice a0_1_A a0_1_n a0_1_c), (.slice a0_2_A a0_2_n a0_2_c), (.slice a0_3_A a0_3_n a0_3_c), (.slice a0_4_A a0_4_n a0_4_c)] :: F) ?_ (fun hD63 => ?_)
  · rintro ⟨x3, x4⟩
    show J _ _ [(2, (pt x2)), (5, (.agg (List.toArray [(.slice x3.1.A x3.1.n x3.1.c), (.slice x3.2.1.A x3.2.1.n x3.2.1.c), (.slice x3.2.2.1.A x3.2.2.1.n x3.2.2.1.c), (.slice x3.2.2.2.A x3.2.2.2.n x3.2.2.2.c)]))), (6, (.slice x4 0 0)), (8, (.slice a0_4_A a0_4_n a0_4_c))] _ (.row x3.1.A x3.1.c 3 1 (ii v1) :: .row x3.2.1.A x3.2.1.c 3 1 (ii v2) :: .row x3.2.2.1.A x3.2.2.1.c 3 1 (ii v3) :: .row x3.2.2.2.A x3.2.2.2.c 3 1 (ii v4) :: .row x4 0 3 1 (ii ([] : List Int)) :: .box x2 29 [(.slice none 0 0), (.slice none 0 0), (.slice none 0 0), (.slice none 0 0), (.slice none 0 0)] :: .box x1 29 [(.slice a0_0_A a0_0_n a0_0_c), (.slice a0_1_A a0_1_n a0_1_c), (.slice a0_2_A a0_2_n a0_2_c), (.slice a0_3_A a0_3_n a0_3_c), (.slice a0_4_A a0_4_n a0_4_c)] :: F)
    refine d_one 6 (by kernel_rfl) ?_
    · refine o_do rfl (a_appI (xs := ([] : List Int)) (ys := a0_4) 4 un23 un23 sz3 by3 zr3 rfl rfl rfl rfl rfl rfl rfl rfl rfl rfl a0_4_h (Rd.drop 7 a0_4_R) c1) rfl rfl (fun x5 w h => (h.drop 6)) (fun x5 => ?_)
      refine j_s4 ?_
      refine d_take 7 rfl (q_build (cs := [(.slice x3.1.A x3.1.n x3.1.c), (.slice x3.2.1.A x3.2.1.n x3.2.1.c), (.slice x3.2.2.1.A x3.2.2.1.n x3.2.2.1.c), (.slice x3.2.2.2.A x3.2.2.2.n x3.2.2.2.c), (.slice x5.1 (0 + a0_4_n) x5.2)]) zr29 pl29 rfl rfl rfl rfl) rfl rfl (by kernel_rfl) (by kernel_rfl) (by kernel_rfl) (fun w h => (h.drop 6)) ?_
      refine j_rs (.row x3.1.A x3.1.c 3 1 (ii v1) :: .row x3.2.1.A x3.2.1.c 3 1 (ii v2) :: .row x3.2.2.1.A x3.2.2.1.c 3 1 (ii v3) :: .row x3.2.2.2.A x3.2.2.2.c 3 1 (ii v4) :: .row x5.1 x5.2 3 1 (ii (([] : List Int) ++ a0_4)) :: .box x2 29 [(.slice none 0 0), (.slice none 0 0), (.slice none 0 0), (.slice none 0 0), (.slice none 0 0)] :: .box x1 29 [(.slice a0_0_A a0_0_n a0_0_c), (.slice a0_1_A a0_1_n a0_1_c), (.slice a0_2_A a0_2_n a0_2_c), (.slice a0_3_A a0_3_n a0_3_c), (.slice a0_4_A a0_4_n a0_4_c)] :: F) (fun _ h => h) ?_
      refine j_env [(2, (pt x2)), (10, (.agg (List.toArray [(.slice x3.1.A x3.1.n x3.1.c), (.slice x3.2.1.A x3.2.1.n x3.2.1.c), (.slice x3.2.2.1.A x3.2.2.1.n x3.2.2.1.c), (.slice x3.2.2.2.A x3.2.2.2.n x3.2.2.2.c), (.slice x5.1 (0 + a0_4_n) x5.2)])))] ⟨rfl, rfl, trivial⟩ ?_
      exact hD255 (x3, x4, x5)
  refine d_join (σ := ((Sl v1.length) × (Sl v2.length) × (Sl v3.length) × (Sl v4.length))) 4 #[true, true, true, false, true, true, false, false, false] (fun s => [(2, (pt x2)), (5, (.agg (List.toArray [(.slice s.1.A s.1.n s.1.c), (.slice s.2.1.A s.2.1.n s.2.1.c), (.slice s.2.2.1.A s.2.2.1.n s.2.2.1.c), (.slice s.2.2.2.A s.2.2.2.n s.2.2.2.c)]))), (8, (.slice a0_4_A a0_4_n a0_4_c))]) (fun s => .row s.1.A s.1.c 3 1 (ii v1) :: .row s.2.1.A s.2.1.c 3 1 (ii v2) :: .row s.2.2.1.A s.2.2.1.c 3 1 (ii v3) :: .row s.2.2.2.A s.2.2.2.c 3 1 (ii v4) :: .box x2 29 [(.slice none 0 0), (.slice none 0 0), (.slice none 0 0), (.slice none 0 0), (.slice none 0 0)] :: .box x1 29 [(.slice a0_0_A a0_0_n a0_0_c), (.slice a0_1_A a0_1_n a0_1_c), (.slice a0_2_A a0_2_n a0_2_c), (.slice a0_3_A a0_3_n a0_3_c), (.slice a0_4_A a0_4_n a0_4_c)] :: F) ?_ (fun hD55 => ?_)
  · rintro x3
    show J _ _ [(2, (pt x2)), (5, (.agg (List.toArray [(.slice x3.1.A x3.1.n x3.1.c), (.slice x3.2.1.A x3.2.1.n x3.2.1.c), (.slice x3.2.2.1.A x3.2.2.1.n x3.2.2.1.c), (.slice x3.2.2.2.A x3.2.2.2.n x3.2.2.2.c)]))), (8, (.slice a0_4_A a0_4_n a0_4_c))] _ (.row x3.1.A x3.1.c 3 1 (ii v1) :: .row x3.2.1.A x3.2.1.c 3 1 (ii v2) :: .row x3.2.2.1.A x3.2.2.1.c 3 1 (ii v3) :: .row x3.2.2.2.A x3.2.2.2.c 3 1 (ii v4) :: .box x2 29 [(.slice none 0 0), (.slice none 0 0), (.slice none 0 0), (.slice none 0 0), (.slice none 0 0)] :: .box x1 29 [(.slice a0_0_A a0_0_n a0_0_c), (.slice a0_1_A a0_1_n a0_1_c), (.slice a0_2_A a0_2_n a0_2_c), (.slice a0_3_A a0_3_n a0_3_c), (.slice a0_4_A a0_4_n a0_4_c)] :: F)
    refine d_one 3 (by kernel_rfl) ?_
    · refine o_do rfl (a_litX (vs := []) (ii ([] : List Int)) un23 sz3 zr3 rfl rfl rfl rfl rfl rfl rfl rfl rfl) rfl rfl (fun x4 w h => (h.drop 6)) (fun x4 => ?_)
      refine j_rs (.row x3.1.A x3.1.c 3 1 (ii v1) :: .row x3.2.1.A x3.2.1.c 3 1 (ii v2) :: .row x3.2.2.1.A x3.2.2.1.c 3 1 (ii v3) :: .row x3.2.2.2.A x3.2.2.2.c 3 1 (ii v4) :: .row x4 0 3 1 (ii ([] : List Int)) :: .box x2 29 [(.slice none 0 0), (.slice none 0 0), (.slice none 0 0), (.slice none 0 0), (.slice none 0 0)] :: .box x1 29 [(.slice a0_0_A a0_0_n a0_0_c), (.slice a0_1_A a0_1_n a0_1_c), (.slice a0_2_A a0_2_n a0_2_c), (.slice a0_3_A a0_3_n a0_3_c), (.slice a0_4_A a0_4_n a0_4_c)] :: F) (fun _ h => h.pick 7 [1, 2, 3, 4, 0, 5, 6] rfl) ?_
      refine j_env [(2, (pt x2)), (5, (.agg (List.toArray [(.slice x3.1.A x3.1.n x3.1.c), (.slice x3.2.1.A x3.2.1.n x3.2.1.c), (.slice x3.2.2.1.A x3.2.2.1.n x3.2.2.1.c), (.slice x3.2.2.2.A x3.2.2.2.n x3.2.2.2.c)]))), (6, (.slice x4 0 0)), (8, (.slice a0_4_A a0_4_n a0_4_c))] ⟨rfl, rfl, rfl, rfl, trivial⟩ ?_
      exact hD63 (x3, x4)
  refine d_join (σ := (Option Addr)) 4 #[true, true, false, true, true, true, false, false, false] (fun s => [(2, (pt x2)), (4, (.agg (List.toArray [(.slice a0_0_A a0_0_n a0_0_c), (.slice a0_1_A a0_1_n a0_1_c), (.slice a0_2_A a0_2_n a0_2_c), (.slice a0_3_A a0_3_n a0_3_c)]))), (6, (.slice s 0 0)), (8, (.slice a0_4_A a0_4_n a0_4_c))]) (fun s => .row s 0 3 1 (ii ([] : List Int)) :: .box x2 29 [(.slice none 0 0), (.slice none 0 0), (.slice none 0 0), (.slice none 0 0), (.slice none 0 0)] :: .box x1 29 [(.slice a0_0_A a0_0_n a0_0_c), (.slice a0_1_A a0_1_n a0_1_c), (.slice a0_2_A a0_2_n a0_2_c), (.slice a0_3_A a0_3_n a0_3_c), (.slice a0_4_A a0_4_n a0_4_c)] :: F) ?_ (fun hD59 => ?_)
  · rintro x4
    show J _ _ [(2, (pt x2)), (4, (.agg (List.toArray [(.slice a0_0_A a0_0_n a0_0_c), (.slice a0_1_A a0_1_n a0_1_c), (.slice a0_2_A a0_2_n a0_2_c), (.slice a0_3_A a0_3_n a0_3_c)]))), (6, (.slice x4 0 0)), (8, (.slice a0_4_A a0_4_n a0_4_c))] _ (.row x4 0 3 1 (ii ([] : List Int)) :: .box x2 29 [(.slice none 0 0), (.slice none 0 0), (.slice none 0 0), (.slice none 0 0), (.slice none 0 0)] :: .box x1 29 [(.slice a0_0_A a0_0_n a0_0_c), (.slice a0_1_A a0_1_n a0_1_c), (.slice a0_2_A a0_2_n a0_2_c), (.slice a0_3_A a0_3_n a0_3_c), (.slice a0_4_A a0_4_n a0_4_c)] :: F)
    refine d_one 2 (by kernel_rfl) ?_
    · refine o_do rfl (a_call ok67 rfl rfl rfl rfl (fun w hm => spec_l4Copy.calls K a0_0 a0_0_A a0_0_n a0_0_c a0_1 a0_1_A a0_1_n a0_1_c a0_2 a0_2_A a0_2_n a0_2_c a0_3 a0_3_A a0_3_n a0_3_c hm a0_0_h (Rd.drop 3 a0_0_R) a0_1_h (Rd.drop 3 a0_1_R) a0_2_h (Rd.drop 3 a0_2_R) a0_3_h (Rd.drop 3 a0_3_R) hb1)) rfl rfl (fun x3 w h => (h.drop 6)) (fun x3 => ?_)
      refine j_rs (.row x3.1.A x3.1.c 3 1 (ii v1) :: .row x3.2.1.A x3.2.1.c 3 1 (ii v2) :: .row x3.2.2.1.A x3.2.2.1.c 3 1 (ii v3) :: .row x3.2.2.2.A x3.2.2.2.c 3 1 (ii v4) :: .row x4 0 3 1 (ii ([] : List Int)) :: .box x2 29 [(.slice none 0 0), (.slice none 0 0), (.slice none 0 0), (.slice none 0 0), (.slice none 0 0)] :: .box x1 29 [(.slice a0_0_A a0_0_n a0_0_c), (.slice a0_1_A a0_1_n a0_1_c), (.slice a0_2_A a0_2_n a0_2_c), (.slice a0_3_A a0_3_n a0_3_c), (.slice a0_4_A a0_4_n a0_4_c)] :: F) (fun _ h => h) ?_
      refine j_env [(2, (pt x2)), (5, (.agg (List.toArray [(.slice x3.1.A x3.1.n x3.1.c), (.slice x3.2.1.A x3.2.1.n x3.2.1.c), (.slice x3.2.2.1.A x3.2.2.1.n x3.2.2.1.c), (.slice x3.2.2.2.A x3.2.2.2.n x3.2.2.2.c)]))), (6, (.slice x4 0 0)), (8, (.slice a0_4_A a0_4_n a0_4_c))] ⟨rfl, rfl, rfl, rfl, trivial⟩ ?_
      exact hD63 (x3, x4)
  refine d_two 2 3 (by kernel_rfl) ?_ ?_
  · refine o_do rfl (a_call ok67 rfl rfl rfl rfl (fun w hm => spec_l4Copy.calls K a0_0 a0_0_A a0_0_n a0_0_c a0_1 a0_1_A a0_1_n a0_1_c a0_2 a0_2_A a0_2_n a0_2_c a0_3 a0_3_A a0_3_n a0_3_c hm a0_0_h (Rd.drop 2 a0_0_R) a0_1_h (Rd.drop 2 a0_1_R) a0_2_h (Rd.drop 2 a0_2_R) a0_3_h (Rd.drop 2 a0_3_R) hb1)) rfl rfl (fun x3 w h => (h.drop 5)) (fun x3 => ?_)
    refine j_rs (.row x3.1.A x3.1.c 3 1 (ii v1) :: .row x3.2.1.A x3.2.1.c 3 1 (ii v2) :: .row x3.2.2.1.A x3.2.2.1.c 3 1 (ii v3) :: .row x3.2.2.2.A x3.2.2.2.c 3 1 (ii v4) :: .box x2 29 [(.slice none 0 0), (.slice none 0 0), (.slice none 0 0), (.slice none 0 0), (.slice none 0 0)] :: .box x1 29 [(.slice a0_0_A a0_0_n a0_0_c), (.slice a0_1_A a0_1_n a0_1_c), (.slice a0_2_A a0_2_n a0_2_c), (.slice a0_3_A a0_3_n a0_3_c), (.slice a0_4_A a0_4_n a0_4_c)] :: F) (fun _ h => h) ?_
    refine j_env [(2, (pt x2)), (5, (.agg (List.toArray [(.slice x3.1.A x3.1.n x3.1.c), (.slice x3.2.1.A x3.2.1.n x3.2.1.c), (.slice x3.2.2.1.A x3.2.2.1.n x3.2.2.1.c), (.slice x3.2.2.2.A x3.2.2.2.n x3.2.2.2.c)]))), (8, (.slice a0_4_A a0_4_n a0_4_c))] ⟨rfl, rfl, rfl, trivial⟩ ?_
    exact hD55 x3
  · refine o_do rfl (a_litX (vs := []) (ii ([] : List Int)) un23 sz3 zr3 rfl rfl rfl rfl rfl rfl rfl rfl rfl) rfl rfl (fun x4 w h => (h.drop 2)) (fun x4 => ?_)
    refine j_rs (.row x4 0 3 1 (ii ([] : List Int)) :: .box x2 29 [(.slice none 0 0), (.slice none 0 0), (.slice none 0 0), (.slice none 0 0), (.slice none 0 0)] :: .box x1 29 [(.slice a0_0_A a0_0_n a0_0_c), (.slice a0_1_A a0_1_n a0_1_c), (.slice a0_2_A a0_2_n a0_2_c), (.slice a0_3_A a0_3_n a0_3_c), (.slice a0_4_A a0_4_n a0_4_c)] :: F) (fun _ h => h) ?_
    refine j_env [(2, (pt x2)), (4, (.agg (List.toArray [(.slice a0_0_A a0_0_n a0_0_c), (.slice a0_1_A a0_1_n a0_1_c), (.slice a0_2_A a0_2_n a0_2_c), (.slice a0_3_A a0_3_n a0_3_c)]))), (6, (.slice x4 0 0)), (8, (.slice a0_4_A a0_4_n a0_4_c))] ⟨rfl, rfl, rfl, rfl, trivial⟩ ?_
    exact hD59 x4

theorem spec_l9Down.calls (K : Nat) (a0_0 : List Int) (a0_0_A : Option Addr) (a0_0_n a0_0_c : Nat) (a0_1 : List Int) (a0_1_A : Option Addr) (a0_1_n a0_1_c : Nat) (a0_2_A : Option Addr) (a0_2_n a0_2_c : Nat) (a0_3 : List Int) (a0_3_A : Option Addr) (a0_3_n a0_3_c : Nat) (a0_4 : List Int) (a0_4_A : Option Addr) (a0_4_n a0_4_c : Nat) (a1 : List Int) (a1_A : Option Addr) (a1_n a1_c : Nat) {w0 w : World} {F : List Res} {r1 : List Int} {r2 : List Int} {r3 : List Int} {r4 : List Int} {r5 : List Int} (hm : Mem w0 (.row a0_0_A a0_0_c 3 1 (ii a0_0) :: .row a0_1_A a0_1_c 3 1 (ii a0_1) :: .row a0_3_A a0_3_c 3 1 (ii a0_3) :: .row a0_4_A a0_4_c 3 1 (ii a0_4) :: .row a1_A a1_c 3 1 (ii a1) :: F) w) (a0_0_h : a0_0.length = a0_0_n) (a0_1_h : a0_1.length = a0_1_n) (a0_3_h : a0_3.length = a0_3_n) (a0_4_h : a0_4.length = a0_4_n) (a1_h : a1.length = a1_n) (h : spec_l9Down.f K a0_0 a0_1 a0_3 a0_4 a1 = some (r1, r2, r3, r4, r5)) :
    Calls Try.prog 53 (List.toArray [.agg (List.toArray [.slice a0_0_A a0_0_n a0_0_c, .slice a0_1_A a0_1_n a0_1_c, .slice a0_2_A a0_2_n a0_2_c, .slice a0_3_A a0_3_n a0_3_c, .slice a0_4_A a0_4_n a0_4_c]), .slice a1_A a1_n a1_c]) w fun e w' => ∃ x : (Ln r1.length a0_0.length) × (Ln r2.length a0_1.length) × (Sl r3.length) × (Ln r4.length a0_4.length) × (Sl r5.length), e = .returned (.agg (List.toArray [.slice a0_0_A a0_0_n a0_0_c, .slice a0_1_A a0_1_n a0_1_c, .slice a0_2_A a0_2_n a0_2_c, .slice x.2.2.1.A x.2.2.1.n x.2.2.1.c, .slice a0_4_A a0_4_n a0_4_c])) ∧ Mem w0 (.row a0_0_A a0_0_c 3 1 (ii r1) :: .row a0_1_A a0_1_c 3 1 (ii r2) :: .row x.2.2.1.A x.2.2.1.c 3 1 (ii r3) :: .row a0_4_A a0_4_c 3 1 (ii r4) :: .row x.2.2.2.2.A x.2.2.2.2.c 3 1 (ii r5) :: F) w' := by
  unfold spec_l9Down.f at h
  refine calls_of_J (n := 73) Try.func53 rfl rfl rfl hm ?_
  refine j_seq ?_
  refine j_region ?_
  refine r_do (a_box rfl rfl) rfl rfl (fun x1 => ?_)
  refine r_do (a_alloc zr29 rfl) rfl rfl (fun x2 => ?_)
  refine r_nil ?_
  refine j_then ?_
  refine j_seq ?_
  refine j_seq ?_
  refine j_region ?_
  refine r_q (q_assign rfl rfl) rfl rfl ?_
  refine r_nil ?_
  refine j_then ?_
  obtain ⟨κ0, h, hκ0⟩ := ex_k (g := fun κ => spec_l9Down.loop0 K κ K a1 (0:Int) a0_3 a0_0 a0_1 a0_4 = some (r1, r2, r3, r4, r5)) h
  refine j_cut (σ := (Option Addr) × Nat × Nat × (List Int) × (Option Addr) × Nat × Nat × (List Int) × (List Int) × (List Int) × (List Int)) (fun s => [(2, (pt x1)), (4, (pt x2))]) (fun s => .box x1 29 [(.slice a0_0_A a0_0_n a0_0_c), (.slice a0_1_A a0_1_n a0_1_c), (.slice a0_2_A a0_2_n a0_2_c), (.slice s.1 s.2.1 s.2.2.1), (.slice a0_4_A a0_4_n a0_4_c)] :: .box x2 29 [(.slice none 0 0), (.slice none 0 0), (.slice none 0 0), (.slice none 0 0), (.slice none 0 0)] :: .row a0_0_A a0_0_c 3 1 (ii s.2.2.2.2.2.2.2.2.1) :: .row a0_1_A a0_1_c 3 1 (ii s.2.2.2.2.2.2.2.2.2.1) :: .row a0_4_A a0_4_c 3 1 (ii s.2.2.2.2.2.2.2.2.2.2) :: .row s.1 s.2.2.1 3 1 (ii s.2.2.2.1) :: .row s.2.2.2.2.1 s.2.2.2.2.2.2.1 3 1 (ii s.2.2.2.2.2.2.2.1) :: F) (fun s => κ0 s.2.2.2.1 s.2.2.2.2.2.2.2.1 s.2.2.2.2.2.2.2.2.1 s.2.2.2.2.2.2.2.2.2.1 s.2.2.2.2.2.2.2.2.2.2 = some (r1, r2, r3, r4, r5) ∧ (s.2.2.2.1.length = s.2.1) ∧ (s.2.2.2.2.2.2.2.1.length = s.2.2.2.2.2.1) ∧ (s.2.2.2.2.2.2.2.2.1.length = a0_0_n) ∧ (s.2.2.2.2.2.2.2.2.2.1.length = a0_1_n) ∧ (s.2.2.2.2.2.2.2.2.2.2.length = a0_4_n)) ?_ ?_
  · refine j_block ?_
    refine j_loop (σ := (Option Addr) × Nat × Nat × (List Int) × Int × (Option Addr) × Nat × Nat × (List Int) × (List Int) × (List Int) × (List Int)) (fun s => [(1, (.slice s.1 s.2.1 s.2.2.1)), (2, (pt x1)), (4, (pt x2)), (5, (i6 s.2.2.2.2.1))]) (fun s => .box x1 29 [(.slice a0_0_A a0_0_n a0_0_c), (.slice a0_1_A a0_1_n a0_1_c), (.slice a0_2_A a0_2_n a0_2_c), (.slice s.2.2.2.2.2.1 s.2.2.2.2.2.2.1 s.2.2.2.2.2.2.2.1), (.slice a0_4_A a0_4_n a0_4_c)] :: .box x2 29 [(.slice none 0 0), (.slice none 0 0), (.slice none 0 0), (.slice none 0 0), (.slice none 0 0)] :: .row a0_0_A a0_0_c 3 1 (ii s.2.2.2.2.2.2.2.2.2.1) :: .row a0_1_A a0_1_c 3 1 (ii s.2.2.2.2.2.2.2.2.2.2.1) :: .row a0_4_A a0_4_c 3 1 (ii s.2.2.2.2.2.2.2.2.2.2.2) :: .row s.1 s.2.2.1 3 1 (ii s.2.2.2.1) :: .row s.2.2.2.2.2.1 s.2.2.2.2.2.2.2.1 3 1 (ii s.2.2.2.2.2.2.2.2.1) :: F) (fun m s => spec_l9Down.loop0 K κ0 m s.2.2.2.1 s.2.2.2.2.1 s.2.2.2.2.2.2.2.2.1 s.2.2.2.2.2.2.2.2.2.1 s.2.2.2.2.2.2.2.2.2.2.1 s.2.2.2.2.2.2.2.2.2.2.2 = some (r1, r2, r3, r4, r5) ∧ (s.2.2.2.1.length = s.2.1) ∧ (s.2.2.2.2.2.2.2.2.1.length = s.2.2.2.2.2.2.1) ∧ (s.2.2.2.2.2.2.2.2.2.1.length = a0_0_n) ∧ (s.2.2.2.2.2.2.2.2.2.2.1.length = a0_1_n) ∧ (s.2.2.2.2.2.2.2.2.2.2.2.length = a0_4_n)) K (a1_A, a1_n, a1_c, a1, (0:Int), a0_3_A, a0_3_n, a0_3_c, a0_3, a0_0, a0_1, a0_4) ⟨h, a1_h, a0_3_h, a0_0_h, a0_1_h, a0_4_h⟩ (fun a he => he.sub ⟨rfl, rfl, rfl, rfl, trivial⟩) (fun w h => h.pick 7 [1, 0, 2, 3, 5, 6, 4] rfl) ?_
    rintro m ⟨A3, n3, d3, l6, p2, A4, n4, d4, l7, l8, l9, l10⟩ ⟨h, q6, q7, q8, q9, q10⟩
    cases m with
    | zero => exact absurd h (by rw [spec_l9Down.loop0]; exact nofun)
    | succ m =>
      rw [spec_l9Down.loop0] at h
      show J _ _ [(1, (.slice A3 n3 d3)), (2, (pt x1)), (4, (pt x2)), (5, (i6 p2))] _ (.box x1 29 [(.slice a0_0_A a0_0_n a0_0_c), (.slice a0_1_A a0_1_n a0_1_c), (.slice a0_2_A a0_2_n a0_2_c), (.slice A4 n4 d4), (.slice a0_4_A a0_4_n a0_4_c)] :: .box x2 29 [(.slice none 0 0), (.slice none 0 0), (.slice none 0 0), (.slice none 0 0), (.slice none 0 0)] :: .row a0_0_A a0_0_c 3 1 (ii l8) :: .row a0_1_A a0_1_c 3 1 (ii l9) :: .row a0_4_A a0_4_c 3 1 (ii l10) :: .row A3 d3 3 1 (ii l6) :: .row A4 d4 3 1 (ii l7) :: F)
      refine j_seq ?_
      refine j_seq ?_
      refine j_region ?_
      refine r_q (q_move rfl rfl) rfl rfl ?_
      refine r_q (q_move rfl rfl) rfl rfl ?_
      refine r_q (q_lenX l6 q6 un23 rfl rfl rfl rfl rfl) rfl rfl ?_
      refine r_q (q_lss rfl rfl rfl) rfl rfl ?_
      refine r_nil ?_
      refine j_then ?_
      rcases of_if h with ⟨c31, h⟩ | ⟨c31, h⟩
      · refine j_true rfl (decide_eq_true c31) ?_
        refine j_skip ?_
        refine j_then ?_
        refine j_seq ?_
        refine j_block ?_
        refine j_seq ?_
        refine j_region ?_
        refine r_q (q_move rfl rfl) rfl rfl ?_
        refine r_q (q_move rfl rfl) rfl rfl ?_
        obtain ⟨c32, h⟩ := of_guard h
        refine r_q (q_ix (Rd.row 5 rfl) (ints_len1 _ l6) (by decide) q6 c32 un23 sz3 rfl rfl rfl) rfl rfl ?_
        refine r_q (q_ldI (Rd.row 5 rfl) c32 ag3 rfl rfl) rfl rfl ?_
        refine r_q (q_assign rfl rfl) rfl rfl ?_
        refine r_nil ?_
        refine j_then ?_
        refine j_seq ?_
        refine j_seq ?_
        refine j_region ?_
        refine r_q (q_move rfl rfl) rfl rfl ?_
        refine r_q (q_eql rfl rfl rfl) rfl rfl ?_
        refine r_nil ?_
        refine j_then ?_
        rcases of_if h with ⟨c33, h⟩ | ⟨c33, h⟩
        · refine j_true rfl (beq_t c33) ?_
          refine j_exit ?_
          refine j_then_exit ?_
          refine j_in_exit ?_
          refine j_then ?_
          refine j_region ?_
          refine r_q (q_move rfl rfl) rfl rfl ?_
          refine r_q (q_add rfl rfl rfl) rfl rfl ?_
          refine r_q (q_assign rfl rfl) rfl rfl ?_
          refine r_nil ?_
          refine j_then ?_
          exact j_again m (A3, n3, d3, l6, (wrap64 (p2 + (1:Int))), A4, n4, d4, l7, l8, l9, l10) (Nat.lt_succ_self m) ⟨h, q6, q7, q8, q9, q10⟩ (fun a he => he.sub ⟨rfl, rfl, rfl, rfl, trivial⟩) (fun w h => h)
        · refine j_false rfl (beq_f c33) ?_
          refine j_skip ?_
          refine j_then ?_
          refine j_seq ?_
          obtain ⟨c34, h⟩ := of_guard h
          refine j_draw (.box x1 29 [(.slice a0_0_A a0_0_n a0_0_c), (.slice a0_1_A a0_1_n a0_1_c), (.slice a0_2_A a0_2_n a0_2_c), (.slice A4 n4 d4), (.slice a0_4_A a0_4_n a0_4_c)] :: .box x2 29 [(.slice none 0 0), (.slice none 0 0), (.slice none 0 0), (.slice none 0 0), (.slice none 0 0)] :: .row a0_0_A a0_0_c 3 1 (ii l8) :: .row a0_1_A a0_1_c 3 1 (ii l9) :: .row A3 d3 3 1 (ii l6) :: .row A4 d4 3 1 (ii l7) :: F) 11 follows_any rfl ?_
          refine d_take 0 rfl (q_fieldAddr fi29_1 sz23 rfl rfl rfl) rfl rfl (by kernel_rfl) (by kernel_rfl) (by kernel_rfl) (fun w h => h.pick 7 [0, 1, 2, 3, 5, 6] rfl) ?_
          refine d_take 1 rfl (q_loadb 0 rfl ag23 rfl rfl rfl) rfl rfl (by kernel_rfl) (by kernel_rfl) (by kernel_rfl) (fun w h => h.pick 7 [0, 1, 2, 3, 5, 6] rfl) ?_
          refine d_take 2 rfl (q_move rfl rfl) rfl rfl (by kernel_rfl) (by kernel_rfl) (by kernel_rfl) (fun w h => h.pick 7 [0, 1, 2, 3, 5, 6] rfl) ?_
          refine d_take 3 rfl (q_fieldAddr fi29_1 sz23 rfl rfl rfl) rfl rfl (by kernel_rfl) (by kernel_rfl) (by kernel_rfl) (fun w h => h.pick 7 [0, 1, 2, 3, 5, 6] rfl) ?_
          refine d_take 4 rfl (q_loadb 0 rfl ag23 rfl rfl rfl) rfl rfl (by kernel_rfl) (by kernel_rfl) (by kernel_rfl) (fun w h => h.pick 7 [0, 1, 2, 3, 5, 6] rfl) ?_
          refine d_take 5 rfl (q_move rfl rfl) rfl rfl (by kernel_rfl) (by kernel_rfl) (by kernel_rfl) (fun w h => h.pick 7 [0, 1, 2, 3, 5, 6] rfl) ?_
          refine d_one 6 (by kernel_rfl) ?_
          refine o_do rfl ((q_ix (Rd.row 4 rfl) (ints_len1 _ l10) (by decide) q10 c34 un23 sz3 rfl rfl rfl)).acts rfl rfl (fun _ w h => h.pick 7 [0, 1, 2, 3, 5, 6] rfl) (fun _ => ?_)
          refine d_one 7 (by kernel_rfl) ?_
          refine o_do rfl ((q_ldI (Rd.row 4 rfl) c34 ag3 rfl rfl)).acts rfl rfl (fun _ w h => h.pick 7 [0, 1, 2, 3, 5, 6] rfl) (fun _ => ?_)
          refine d_take 8 rfl (q_sub rfl rfl rfl) rfl rfl (by kernel_rfl) (by kernel_rfl) (by kernel_rfl) (fun w h => h.pick 7 [0, 1, 2, 3, 5, 6] rfl) ?_
          refine d_one 9 (by kernel_rfl) ?_
          refine o_do rfl ((q_ix (Rd.row 4 rfl) (ints_len1 _ l10) (by decide) q10 c34 un23 sz3 rfl rfl rfl)).acts rfl rfl (fun _ w h => h.pick 7 [0, 1, 2, 3, 5, 6] rfl) (fun _ => ?_)
          refine d_one 10 (by kernel_rfl) ?_
          refine o_do rfl (a_stI 4 rfl c34 sz3 rfl rfl rfl) rfl rfl (fun _ w h => h.pick 7 [0, 1, 2, 3, 5, 6] rfl) (fun _ => ?_)
          refine j_s4 ?_
          refine d_done (by kernel_rfl) ?_
          refine j_then ?_
          refine j_seq ?_
          refine j_seq ?_
          refine j_region ?_
          refine r_q (q_fieldAddr fi29_1 sz23 rfl rfl rfl) rfl rfl ?_
          refine r_q (q_loadb 0 rfl ag23 rfl rfl rfl) rfl rfl ?_
          refine r_q (q_move rfl rfl) rfl rfl ?_
          obtain ⟨c35, h⟩ := of_guard h
          refine r_q (q_ix (Rd.row 4 rfl) (ints_len1 _ (l10.set (rd l6 p2).toNat (wrap64 ((rd l10 (rd l6 p2)) - (1:Int))))) (by decide) (set_len q10 _ _) c35 un23 sz3 rfl rfl rfl) rfl rfl ?_
          refine r_q (q_ldI (Rd.row 4 rfl) c35 ag3 rfl rfl) rfl rfl ?_
          refine r_q (q_gtr rfl rfl rfl) rfl rfl ?_
          refine r_nil ?_
          refine j_then ?_
          rcases of_if h with ⟨c36, h⟩ | ⟨c36, h⟩
          · refine j_true rfl (decide_eq_true c36) ?_
            refine j_exit ?_
            refine j_then_exit ?_
            refine j_in_exit ?_
            refine j_then ?_
            refine j_region ?_
            refine r_q (q_move rfl rfl) rfl rfl ?_
            refine r_q (q_add rfl rfl rfl) rfl rfl ?_
            refine r_q (q_assign rfl rfl) rfl rfl ?_
            refine r_nil ?_
            refine j_then ?_
            exact j_again m (A3, n3, d3, l6, (wrap64 (p2 + (1:Int))), A4, n4, d4, l7, l8, l9, (l10.set (rd l6 p2).toNat (wrap64 ((rd l10 (rd l6 p2)) - (1:Int))))) (Nat.lt_succ_self m) ⟨h, q6, q7, q8, q9, (set_len q10 _ _)⟩ (fun a he => he.sub ⟨rfl, rfl, rfl, rfl, trivial⟩) (fun w h => h)
          · refine j_false rfl (decide_eq_false c36) ?_
            refine j_skip ?_
            refine j_then ?_
            refine j_seq ?_
            obtain ⟨c37, h⟩ := of_guard h
            obtain ⟨c38, h⟩ := of_guard h
            obtain ⟨c39, h⟩ := of_guard h
            refine j_draw (.box x1 29 [(.slice a0_0_A a0_0_n a0_0_c), (.slice a0_1_A a0_1_n a0_1_c), (.slice a0_2_A a0_2_n a0_2_c), (.slice A4 n4 d4), (.slice a0_4_A a0_4_n a0_4_c)] :: .box x2 29 [(.slice none 0 0), (.slice none 0 0), (.slice none 0 0), (.slice none 0 0), (.slice none 0 0)] :: .row a0_0_A a0_0_c 3 1 (ii l8) :: .row a0_1_A a0_1_c 3 1 (ii l9) :: .row a0_4_A a0_4_c 3 1 (ii (l10.set (rd l6 p2).toNat (wrap64 ((rd l10 (rd l6 p2)) - (1:Int))))) :: .row A4 d4 3 1 (ii l7) :: F) 18 follows_any rfl ?_
            refine d_take 0 rfl (q_move rfl rfl) rfl rfl (by kernel_rfl) (by kernel_rfl) (by kernel_rfl) (fun w h => h.pick 7 [0, 1, 2, 3, 4, 6] rfl) ?_
            refine d_take 1 rfl (q_fieldAddr fi29_0 sz27 rfl rfl rfl) rfl rfl (by kernel_rfl) (by kernel_rfl) (by kernel_rfl) (fun w h => h.pick 7 [0, 1, 2, 3, 4, 6] rfl) ?_
            refine d_take 2 rfl (q_fieldAddr fi27_0 sz25 rfl rfl rfl) rfl rfl (by kernel_rfl) (by kernel_rfl) (by kernel_rfl) (fun w h => h.pick 7 [0, 1, 2, 3, 4, 6] rfl) ?_
            refine d_take 3 rfl (q_fieldAddr fi25_0 sz23 rfl rfl rfl) rfl rfl (by kernel_rfl) (by kernel_rfl) (by kernel_rfl) (fun w h => h.pick 7 [0, 1, 2, 3, 4, 6] rfl) ?_
            refine d_take 4 rfl (q_loadb 0 rfl ag23 rfl rfl rfl) rfl rfl (by kernel_rfl) (by kernel_rfl) (by kernel_rfl) (fun w h => h.pick 7 [0, 1, 2, 3, 4, 6] rfl) ?_
            refine d_take 5 rfl (q_move rfl rfl) rfl rfl (by kernel_rfl) (by kernel_rfl) (by kernel_rfl) (fun w h => h.pick 7 [0, 1, 2, 3, 4, 6] rfl) ?_
            refine d_take 6 rfl (q_ix (Rd.row 2 rfl) (ints_len1 _ l8) (by decide) q8 c37 un23 sz3 rfl rfl rfl) rfl rfl (by kernel_rfl) (by kernel_rfl) (by kernel_rfl) (fun w h => h.pick 7 [0, 1, 2, 3, 4, 6] rfl) ?_
            refine d_take 7 rfl (q_ldI (Rd.row 2 rfl) c37 ag3 rfl rfl) rfl rfl (by kernel_rfl) (by kernel_rfl) (by kernel_rfl) (fun w h => h.pick 7 [0, 1, 2, 3, 4, 6] rfl) ?_
            refine d_take 8 rfl (q_fieldAddr fi29_0 sz27 rfl rfl rfl) rfl rfl (by kernel_rfl) (by kernel_rfl) (by kernel_rfl) (fun w h => h.pick 7 [0, 1, 2, 3, 4, 6] rfl) ?_
            refine d_take 9 rfl (q_fieldAddr fi27_0 sz25 rfl rfl rfl) rfl rfl (by kernel_rfl) (by kernel_rfl) (by kernel_rfl) (fun w h => h.pick 7 [0, 1, 2, 3, 4, 6] rfl) ?_
            refine d_take 10 rfl (q_fieldAddr fi25_1 sz23 rfl rfl rfl) rfl rfl (by kernel_rfl) (by kernel_rfl) (by kernel_rfl) (fun w h => h.pick 7 [0, 1, 2, 3, 4, 6] rfl) ?_
            refine d_take 11 rfl (q_loadb 0 rfl ag23 rfl rfl rfl) rfl rfl (by kernel_rfl) (by kernel_rfl) (by kernel_rfl) (fun w h => h.pick 7 [0, 1, 2, 3, 4, 6] rfl) ?_
            refine d_take 12 rfl (q_move rfl rfl) rfl rfl (by kernel_rfl) (by kernel_rfl) (by kernel_rfl) (fun w h => h.pick 7 [0, 1, 2, 3, 4, 6] rfl) ?_
            refine d_take 13 rfl (q_ix (Rd.row 3 rfl) (ints_len1 _ l9) (by decide) q9 c38 un23 sz3 rfl rfl rfl) rfl rfl (by kernel_rfl) (by kernel_rfl) (by kernel_rfl) (fun w h => h.pick 7 [0, 1, 2, 3, 4, 6] rfl) ?_
            refine d_take 14 rfl (q_ldI (Rd.row 3 rfl) c38 ag3 rfl rfl) rfl rfl (by kernel_rfl) (by kernel_rfl) (by kernel_rfl) (fun w h => h.pick 7 [0, 1, 2, 3, 4, 6] rfl) ?_
            refine d_one 15 (by kernel_rfl) ?_
            refine o_do rfl (a_litX (vs := [(i6 (rd l8 (rd l6 p2))), (i6 (rd l9 (rd l6 p2)))]) (ii ([(rd l8 (rd l6 p2)), (rd l9 (rd l6 p2))] : List Int)) un23 sz3 zr3 rfl rfl rfl rfl rfl rfl rfl rfl rfl) rfl rfl (fun x3 w h => h.pick 8 [1, 2, 3, 4, 5, 7] rfl) (fun x3 => ?_)
            refine d_one 16 (by kernel_rfl) ?_
            refine o_do rfl (a_appI (xs := l6) (ys := ([(rd l8 (rd l6 p2)), (rd l9 (rd l6 p2))] : List Int)) 6 un23 un23 sz3 by3 zr3 rfl rfl rfl rfl rfl rfl rfl rfl rfl q6 rfl (Rd.row 0 rfl) c39) rfl rfl (fun x4 w h => h.pick 8 [1, 2, 3, 4, 5, 7] rfl) (fun x4 => ?_)
            refine j_s6 ?_
            refine d_take 17 rfl (q_assign rfl rfl) rfl rfl (by kernel_rfl) (by kernel_rfl) (by kernel_rfl) (fun w h => h.pick 8 [1, 2, 3, 4, 5, 7] rfl) ?_
            refine d_done (by kernel_rfl) ?_
            refine j_then ?_
            refine j_seq ?_
            refine j_region ?_
            refine r_q (q_fieldAddr fi29_0 sz27 rfl rfl rfl) rfl rfl ?_
            refine r_q (q_fieldAddr fi27_0 sz25 rfl rfl rfl) rfl rfl ?_
            refine r_q (q_fieldAddr fi25_0 sz23 rfl rfl rfl) rfl rfl ?_
            refine r_q (q_loadb 1 rfl ag23 rfl rfl rfl) rfl rfl ?_
            refine r_q (q_move rfl rfl) rfl rfl ?_
            refine r_q (q_ix (Rd.row 3 rfl) (ints_len1 _ l8) (by decide) q8 c37 un23 sz3 rfl rfl rfl) rfl rfl ?_
            refine r_do (a_stI 3 rfl c37 sz3 rfl rfl rfl) rfl rfl (fun _ => ?_)
            refine j_s3 ?_
            refine r_nil ?_
            refine j_then ?_
            refine j_seq ?_
            refine j_region ?_
            refine r_q (q_fieldAddr fi29_0 sz27 rfl rfl rfl) rfl rfl ?_
            refine r_q (q_fieldAddr fi27_0 sz25 rfl rfl rfl) rfl rfl ?_
            refine r_q (q_fieldAddr fi25_1 sz23 rfl rfl rfl) rfl rfl ?_
            refine r_q (q_loadb 1 rfl ag23 rfl rfl rfl) rfl rfl ?_
            refine r_q (q_move rfl rfl) rfl rfl ?_
            refine r_q (q_ix (Rd.row 4 rfl) (ints_len1 _ l9) (by decide) q9 c38 un23 sz3 rfl rfl rfl) rfl rfl ?_
            refine r_do (a_stI 4 rfl c38 sz3 rfl rfl rfl) rfl rfl (fun _ => ?_)
            refine j_s4 ?_
            refine r_nil ?_
            refine j_then ?_
            refine j_region ?_
            refine r_q (q_fieldAddr fi29_0 sz27 rfl rfl rfl) rfl rfl ?_
            refine r_q (q_fieldAddr fi27_1 sz23 rfl rfl rfl) rfl rfl ?_
            refine r_q (q_loadb 1 rfl ag23 rfl rfl rfl) rfl rfl ?_
            refine r_q (q_move rfl rfl) rfl rfl ?_
            refine r_do (a_litX (vs := [(i6 (rd l6 p2))]) (ii ([(rd l6 p2)] : List Int)) un23 sz3 zr3 rfl rfl rfl rfl rfl rfl rfl rfl rfl) rfl rfl (fun x5 => ?_)
            obtain ⟨c40, h⟩ := of_guard h
            refine r_do (a_appI (xs := l7) (ys := ([(rd l6 p2)] : List Int)) 8 un23 un23 sz3 by3 zr3 rfl rfl rfl rfl rfl rfl rfl rfl rfl q7 rfl (Rd.row 0 rfl) c40) rfl rfl (fun x6 => ?_)
            refine j_s8 ?_
            refine r_q (q_fieldAddr fi29_0 sz27 rfl rfl rfl) rfl rfl ?_
            refine r_q (q_fieldAddr fi27_1 sz23 rfl rfl rfl) rfl rfl ?_
            refine r_do (a_storeb 2 rfl sz23 rfl rfl rfl rfl (Nat.le_of_ble_eq_true rfl) rfl) rfl rfl (fun _ => ?_)
            refine j_b2 [(.slice a0_0_A a0_0_n a0_0_c), (.slice a0_1_A a0_1_n a0_1_c), (.slice a0_2_A a0_2_n a0_2_c), (.slice x6.1 (n4 + 1) x6.2), (.slice a0_4_A a0_4_n a0_4_c)] rfl ?_
            refine r_nil ?_
            refine j_in ?_
            refine j_then ?_
            refine j_region ?_
            refine r_q (q_move rfl rfl) rfl rfl ?_
            refine r_q (q_add rfl rfl rfl) rfl rfl ?_
            refine r_q (q_assign rfl rfl) rfl rfl ?_
            refine r_nil ?_
            refine j_then ?_
            exact j_again m (x4.1, (n3 + 2), x4.2, (l6 ++ ([(rd l8 (rd l6 p2)), (rd l9 (rd l6 p2))] : List Int)), (wrap64 (p2 + (1:Int))), x6.1, (n4 + 1), x6.2, (l7 ++ ([(rd l6 p2)] : List Int)), (l8.set (rd l6 p2).toNat (-1:Int)), (l9.set (rd l6 p2).toNat (-1:Int)), (l10.set (rd l6 p2).toNat (wrap64 ((rd l10 (rd l6 p2)) - (1:Int))))) (Nat.lt_succ_self m) ⟨h, (app_len q6 rfl), (app_len q7 rfl), (set_len q8 _ _), (set_len q9 _ _), (set_len q10 _ _)⟩ (fun a he => he.sub ⟨rfl, rfl, rfl, rfl, trivial⟩) (fun w h => (h.drop 2))
      · refine j_false rfl (decide_eq_false c31) ?_
        refine j_exit ?_
        refine j_then_exit ?_
        refine j_then_exit ?_
        refine j_in_exit ?_
        refine j_then ?_
        exact j_meet (A4, n4, d4, l7, A3, n3, d3, l6, l8, l9, l10) ⟨h, q7, q6, q8, q9, q10⟩ (fun a he => he.sub ⟨rfl, rfl, trivial⟩) (fun w h => h.pick 7 [0, 1, 2, 3, 4, 6, 5] rfl)
  · rintro ⟨A5, n5, d5, l11, A6, n6, d6, l12, l13, l14, l15⟩ ⟨h, q11, q12, q13, q14, q15⟩
    subst hκ0
    show J _ _ [(2, (pt x1)), (4, (pt x2))] _ (.box x1 29 [(.slice a0_0_A a0_0_n a0_0_c), (.slice a0_1_A a0_1_n a0_1_c), (.slice a0_2_A a0_2_n a0_2_c), (.slice A5 n5 d5), (.slice a0_4_A a0_4_n a0_4_c)] :: .box x2 29 [(.slice none 0 0), (.slice none 0 0), (.slice none 0 0), (.slice none 0 0), (.slice none 0 0)] :: .row a0_0_A a0_0_c 3 1 (ii l13) :: .row a0_1_A a0_1_c 3 1 (ii l14) :: .row a0_4_A a0_4_c 3 1 (ii l15) :: .row A5 d5 3 1 (ii l11) :: .row A6 d6 3 1 (ii l12) :: F)
    refine j_then ?_
    refine j_seq ?_
    refine j_region ?_
    refine r_q (q_loadb_agg 0 rfl ag29 sz29 rfl rfl rfl rfl) rfl rfl ?_
    refine r_do (a_storeb 1 rfl sz29 rfl rfl rfl rfl (Nat.le_of_ble_eq_true rfl) rfl) rfl rfl (fun _ => ?_)
    refine j_b1 [(.slice a0_0_A a0_0_n a0_0_c), (.slice a0_1_A a0_1_n a0_1_c), (.slice a0_2_A a0_2_n a0_2_c), (.slice A5 n5 d5), (.slice a0_4_A a0_4_n a0_4_c)] rfl ?_
    refine r_nil ?_
    refine j_then ?_
    refine j_ret ?_
    cases h
    exact j_return rfl (ResOf.cell 1 rfl rfl ag29 sz29 ResOf.nil) rfl (fun w h => ⟨(⟨Eq.trans q13 a0_0_h.symm⟩, ⟨Eq.trans q14 a0_1_h.symm⟩, ⟨A5, n5, d5, q11⟩, ⟨Eq.trans q15 a0_4_h.symm⟩, ⟨A6, n6, d6, q12⟩), rfl, h.pick 7 [2, 3, 5, 4, 6] rfl⟩)

theorem spec_TakeCounted.calls (K : Nat) (a0_0 : List Int) (a0_0_A : Option Addr) (a0_0_n a0_0_c : Nat) (a0_1 : List Int) (a0_1_A : Option Addr) (a0_1_n a0_1_c : Nat) (a0_2 : List Int) (a0_2_A : Option Addr) (a0_2_n a0_2_c : Nat) (a0_3 : List Int) (a0_3_A : Option Addr) (a0_3_n a0_3_c : Nat) (a0_4 : List Int) (a0_4_A : Option Addr) (a0_4_n a0_4_c : Nat) (a1 : Int) {w0 w : World} {F : List Res} {r1 : List Int} {r2 : List Int} {r3 : List Int} {r4 : List Int} {r5 : List Int} {r6 : Bool} (hm : Mem w0 (F) w) (a0_0_h : a0_0.length = a0_0_n) (a0_0_R : Rd w0 F a0_0_A (ii a0_0)) (a0_1_h : a0_1.length = a0_1_n) (a0_1_R : Rd w0 F a0_1_A (ii a0_1)) (a0_2_h : a0_2.length = a0_2_n) (a0_2_R : Rd w0 F a0_2_A (ii a0_2)) (a0_3_h : a0_3.length = a0_3_n) (a0_3_R : Rd w0 F a0_3_A (ii a0_3)) (a0_3_k : a0_3.length ≤ a0_3_c) (a0_4_h : a0_4.length = a0_4_n) (a0_4_R : Rd w0 F a0_4_A (ii a0_4)) (h : spec_TakeCounted.f K a0_0 a0_1 a0_2 a0_3 a0_4 a1 = some (r1, r2, r3, r4, r5, r6)) :
    Calls Try.prog 26 (List.toArray [.agg (List.toArray [.slice a0_0_A a0_0_n a0_0_c, .slice a0_1_A a0_1_n a0_1_c, .slice a0_2_A a0_2_n a0_2_c, .slice a0_3_A a0_3_n a0_3_c, .slice a0_4_A a0_4_n a0_4_c]), i6 a1]) w fun e w' => ∃ x : (Sl r1.length) × (Sl r2.length) × (Sl r3.length) × (Sl r4.length) × (Sl r5.length), e = .returned (.tuple (List.toArray [.agg (List.toArray [.slice x.1.A x.1.n x.1.c, .slice x.2.1.A x.2.1.n x.2.1.c, .slice x.2.2.1.A x.2.2.1.n x.2.2.1.c, .slice x.2.2.2.1.A x.2.2.2.1.n x.2.2.2.1.c, .slice x.2.2.2.2.A x.2.2.2.2.n x.2.2.2.2.c]), .bool r6])) ∧ Mem w0 (.row x.1.A x.1.c 3 1 (ii r1) :: .row x.2.1.A x.2.1.c 3 1 (ii r2) :: .row x.2.2.1.A x.2.2.1.c 3 1 (ii r3) :: .row x.2.2.2.1.A x.2.2.2.1.c 3 1 (ii r4) :: .row x.2.2.2.2.A x.2.2.2.2.c 3 1 (ii r5) :: F) w' := by
  unfold spec_TakeCounted.f at h
  refine calls_of_J (n := 58) Try.func26 rfl rfl rfl hm ?_
  refine j_seq ?_
  refine j_region ?_
  refine r_do (a_box rfl rfl) rfl rfl (fun x1 => ?_)
  refine r_do (a_alloc zr29 rfl) rfl rfl (fun x2 => ?_)
  refine r_q (q_assign rfl rfl) rfl rfl ?_
  refine r_nil ?_
  refine j_then ?_
  refine j_seq ?_
  refine j_seq ?_
  refine j_region ?_
  refine r_q (q_loadb_agg 1 rfl ag29 sz29 rfl rfl rfl rfl) rfl rfl ?_
  refine r_q (q_move rfl rfl) rfl rfl ?_
  obtain ⟨v1, hb1, h⟩ := of_b1 h
  refine r_do (a_call ok51 rfl rfl rfl rfl (fun w hm => spec_l9Root.calls K a0_0 a0_0_A a0_0_n a0_0_c a0_1 a0_1_A a0_1_n a0_1_c a0_2 a0_2_A a0_2_n a0_2_c a0_3 a0_3_A a0_3_n a0_3_c a0_4 a0_4_A a0_4_n a0_4_c a1 hm a0_0_h (Rd.drop 2 a0_0_R) a0_1_h (Rd.drop 2 a0_1_R) a0_2_h (Rd.drop 2 a0_2_R) a0_3_h (Rd.drop 2 a0_3_R) a0_3_k a0_4_h (Rd.drop 2 a0_4_R) hb1)) rfl rfl (fun x3 => ?_)
  refine r_q (q_not rfl rfl) rfl rfl ?_
  refine r_q (q_move rfl rfl) rfl rfl ?_
  rcases of_if h with ⟨c1, h⟩ | ⟨c1, h⟩
  · refine r_qon (q_fieldAddr fi29_0 sz27 rfl rfl rfl) rfl rfl rfl rfl (not_f c1) rfl ?_
    refine r_qon (q_fieldAddr fi27_1 sz23 rfl rfl rfl) rfl rfl rfl rfl (not_f c1) rfl ?_
    refine r_qon (q_loadb 1 rfl ag23 rfl rfl rfl) rfl rfl rfl rfl (not_f c1) rfl ?_
    refine r_qon (q_lenX a0_3 a0_3_h un23 rfl rfl rfl rfl rfl) rfl rfl rfl rfl (not_f c1) rfl ?_
    refine r_qon (q_eql rfl rfl rfl) rfl rfl rfl rfl (not_f c1) rfl ?_
    refine r_q (q_pick_f rfl rfl (not_f c1) rfl) rfl rfl ?_
    refine r_nil ?_
    refine j_then ?_
    rcases of_if h with ⟨c2, h⟩ | ⟨c2, h⟩
    · refine j_true rfl (beq_t c2) ?_
      refine j_seq ?_
      refine j_region ?_
      refine r_q (q_build (cs := [(.slice none 0 0), (.slice none 0 0), (.slice none 0 0), (.slice none 0 0), (.slice none 0 0)]) zr29 pl29 rfl rfl rfl rfl) rfl rfl ?_
      refine r_do (a_storeb 0 rfl sz29 rfl rfl rfl rfl (Nat.le_of_ble_eq_true rfl) rfl) rfl rfl (fun _ => ?_)
      refine j_b0 [(.slice none 0 0), (.slice none 0 0), (.slice none 0 0), (.slice none 0 0), (.slice none 0 0)] rfl ?_
      refine r_q (q_assign rfl rfl) rfl rfl ?_
      refine r_nil ?_
      refine j_then ?_
      refine j_ret ?_
      refine j_then_ret ?_
      refine j_nil 3 1 ?_
      refine j_nil 3 1 ?_
      refine j_nil 3 1 ?_
      refine j_nil 3 1 ?_
      refine j_nil 3 1 ?_
      cases h
      exact j_return rfl (ResOf.cell 5 rfl rfl ag29 sz29 (ResOf.tmp rfl ResOf.nil)) rfl (fun w h => ⟨(⟨none, 0, 0, rfl⟩, ⟨none, 0, 0, rfl⟩, ⟨none, 0, 0, rfl⟩, ⟨none, 0, 0, rfl⟩, ⟨none, 0, 0, rfl⟩), rfl, h.pick 7 [4, 3, 2, 1, 0] rfl⟩)
    · refine j_false rfl (beq_f c2) ?_
      refine j_skip ?_
      refine j_then ?_
      refine j_seq ?_
      refine j_region ?_
      refine r_q (q_loadb_agg 1 rfl ag29 sz29 rfl rfl rfl rfl) rfl rfl ?_
      obtain ⟨v2, v3, v4, v5, v6, hb2, h⟩ := of_b5 h
      refine r_do (a_call ok52 rfl rfl rfl rfl (fun w hm => spec_l9Copy.calls K a0_0 a0_0_A a0_0_n a0_0_c a0_1 a0_1_A a0_1_n a0_1_c a0_2 a0_2_A a0_2_n a0_2_c a0_3 a0_3_A a0_3_n a0_3_c a0_4 a0_4_A a0_4_n a0_4_c hm a0_0_h (Rd.drop 2 a0_0_R) a0_1_h (Rd.drop 2 a0_1_R) a0_2_h (Rd.drop 2 a0_2_R) a0_3_h (Rd.drop 2 a0_3_R) a0_4_h (Rd.drop 2 a0_4_R) hb2)) rfl rfl (fun x4 => ?_)
      refine r_do (a_alloc zr29 rfl) rfl rfl (fun x5 => ?_)
      refine r_do (a_storeb 0 rfl sz29 rfl rfl rfl rfl (Nat.le_of_ble_eq_true rfl) rfl) rfl rfl (fun _ => ?_)
      refine j_b0 [(.slice x4.1.A x4.1.n x4.1.c), (.slice x4.2.1.A x4.2.1.n x4.2.1.c), (.slice x4.2.2.1.A x4.2.2.1.n x4.2.2.1.c), (.slice x4.2.2.2.1.A x4.2.2.2.1.n x4.2.2.2.1.c), (.slice x4.2.2.2.2.A x4.2.2.2.2.n x4.2.2.2.2.c)] rfl ?_
      refine r_nil ?_
      refine j_then ?_
      refine j_seq ?_
      refine j_region ?_
      refine r_q (q_fieldAddr fi29_0 sz27 rfl rfl rfl) rfl rfl ?_
      refine r_q (q_fieldAddr fi27_1 sz23 rfl rfl rfl) rfl rfl ?_
      refine r_q (q_loadb 7 rfl ag23 rfl rfl rfl) rfl rfl ?_
      obtain ⟨c3, h⟩ := of_guard h
      refine r_q (q_ix (Rd.drop 8 a0_3_R) (ints_len1 _ a0_3) (by decide) a0_3_h c3 un23 sz3 rfl rfl rfl) rfl rfl ?_
      refine r_q (q_ldI (Rd.drop 8 a0_3_R) c3 ag3 rfl rfl) rfl rfl ?_
      refine r_q (q_assign rfl rfl) rfl rfl ?_
      refine r_nil ?_
      refine j_then ?_
      refine j_seq ?_
      refine j_region ?_
      refine r_q (q_fieldAddr fi29_0 sz27 rfl rfl rfl) rfl rfl ?_
      refine r_q (q_fieldAddr fi27_0 sz25 rfl rfl rfl) rfl rfl ?_
      refine r_q (q_fieldAddr fi25_2 sz23 rfl rfl rfl) rfl rfl ?_
      refine r_q (q_loadb 7 rfl ag23 rfl rfl rfl) rfl rfl ?_
      refine r_q (q_move rfl rfl) rfl rfl ?_
      obtain ⟨c4, h⟩ := of_guard h
      refine r_q (q_ix (Rd.drop 8 a0_2_R) (ints_len1 _ a0_2) (by decide) a0_2_h c4 un23 sz3 rfl rfl rfl) rfl rfl ?_
      refine r_q (q_ldI (Rd.drop 8 a0_2_R) c4 ag3 rfl rfl) rfl rfl ?_
      refine r_q (q_assign rfl rfl) rfl rfl ?_
      refine r_nil ?_
      refine j_then ?_
      refine j_seq ?_
      refine j_region ?_
      refine r_do (a_litX (vs := []) (ii ([] : List Int)) un23 sz3 zr3 rfl rfl rfl rfl rfl rfl rfl rfl rfl) rfl rfl (fun x6 => ?_)
      refine r_q (q_fieldAddr fi29_0 sz27 rfl rfl rfl) rfl rfl ?_
      refine r_q (q_fieldAddr fi27_1 sz23 rfl rfl rfl) rfl rfl ?_
      refine r_q (q_loadb 8 rfl ag23 rfl rfl rfl) rfl rfl ?_
      obtain ⟨c5, h⟩ := of_guard h
      refine j_fact (fun w hm => a0_3_k) (fun k2 => ?_)
      refine r_q (q_lo a0_3 a0_3_h c5 un23 sz3 rfl rfl rfl) rfl rfl ?_
      obtain ⟨c6, h⟩ := of_guard h
      refine r_do (a_appI (xs := ([] : List Int)) (ys := (a0_3.drop (1:Int).toNat)) 0 un23 un23 sz3 by3 zr3 rfl rfl rfl rfl rfl rfl rfl rfl rfl rfl rfl (rd_loI (Rd.drop 9 a0_3_R) k2 (1:Int).toNat) c6) rfl rfl (fun x7 => ?_)
      refine j_s0 ?_
      refine r_q (q_fieldAddr fi29_0 sz27 rfl rfl rfl) rfl rfl ?_
      refine r_q (q_fieldAddr fi27_1 sz23 rfl rfl rfl) rfl rfl ?_
      refine r_do (a_storeb 1 rfl sz23 rfl rfl rfl rfl (Nat.le_of_ble_eq_true rfl) rfl) rfl rfl (fun _ => ?_)
      refine j_b1 [(.slice x4.1.A x4.1.n x4.1.c), (.slice x4.2.1.A x4.2.1.n x4.2.1.c), (.slice x4.2.2.1.A x4.2.2.1.n x4.2.2.1.c), (.slice x7.1 (0 + (a0_3.drop (1:Int).toNat).length) x7.2), (.slice x4.2.2.2.2.A x4.2.2.2.2.n x4.2.2.2.2.c)] rfl ?_
      refine r_nil ?_
      refine j_then ?_
      refine j_seq ?_
      refine j_region ?_
      refine r_q (q_fieldAddr fi29_0 sz27 rfl rfl rfl) rfl rfl ?_
      refine r_q (q_fieldAddr fi27_0 sz25 rfl rfl rfl) rfl rfl ?_
      refine r_q (q_fieldAddr fi25_2 sz23 rfl rfl rfl) rfl rfl ?_
      refine r_q (q_loadb 1 rfl ag23 rfl rfl rfl) rfl rfl ?_
      refine r_q (q_move rfl rfl) rfl rfl ?_
      refine r_q (q_move rfl rfl) rfl rfl ?_
      obtain ⟨c7, h⟩ := of_guard h
      refine r_q (q_ix (Rd.row 4 rfl) (ints_len1 _ v4) (by decide) x4.2.2.1.h c7 un23 sz3 rfl rfl rfl) rfl rfl ?_
      refine r_do (a_stI 4 rfl c7 sz3 rfl rfl rfl) rfl rfl (fun _ => ?_)
      refine j_s4 ?_
      refine r_nil ?_
      refine j_then ?_
      refine j_seq ?_
      refine j_region ?_
      refine r_q (q_fieldAddr fi29_1 sz23 rfl rfl rfl) rfl rfl ?_
      refine r_q (q_loadb 1 rfl ag23 rfl rfl rfl) rfl rfl ?_
      refine r_q (q_move rfl rfl) rfl rfl ?_
      obtain ⟨c8, h⟩ := of_guard h
      refine r_q (q_ix (Rd.row 6 rfl) (ints_len1 _ v6) (by decide) x4.2.2.2.2.h c8 un23 sz3 rfl rfl rfl) rfl rfl ?_
      refine r_do (a_stI 6 rfl c8 sz3 rfl rfl rfl) rfl rfl (fun _ => ?_)
      refine j_s6 ?_
      refine r_nil ?_
      refine j_then ?_
      refine j_seq ?_
      refine j_region ?_
      refine r_q (q_loadb_agg 1 rfl ag29 sz29 rfl rfl rfl rfl) rfl rfl ?_
      refine r_q (q_move rfl rfl) rfl rfl ?_
      refine r_do (a_litX (vs := [(i6 (rd a0_2 a1))]) (ii ([(rd a0_2 a1)] : List Int)) un23 sz3 zr3 rfl rfl rfl rfl rfl rfl rfl rfl rfl) rfl rfl (fun x8 => ?_)
      obtain ⟨v7, v8, v9, v10, v11, hb3, h⟩ := of_b5 h
      refine j_rs (.row x4.1.A x4.1.c 3 1 (ii v2) :: .row x4.2.1.A x4.2.1.c 3 1 (ii v3) :: .row x7.1 x7.2 3 1 (ii (([] : List Int) ++ (a0_3.drop (1:Int).toNat))) :: .row x4.2.2.2.2.A x4.2.2.2.2.c 3 1 (ii (v6.set (rd a0_3 (0:Int)).toNat (1:Int))) :: .row x8 1 3 1 (ii ([(rd a0_2 a1)] : List Int)) :: .box x5 29 [(.slice x4.1.A x4.1.n x4.1.c), (.slice x4.2.1.A x4.2.1.n x4.2.1.c), (.slice x4.2.2.1.A x4.2.2.1.n x4.2.2.1.c), (.slice x7.1 (0 + (a0_3.drop (1:Int).toNat).length) x7.2), (.slice x4.2.2.2.2.A x4.2.2.2.2.n x4.2.2.2.2.c)] :: .row x4.2.2.1.A x4.2.2.1.c 3 1 (ii (v4.set a1.toNat (rd a0_3 (0:Int)))) :: .row x4.2.2.2.1.A x4.2.2.2.1.c 3 1 (ii v5) :: .box x2 29 [(.slice none 0 0), (.slice none 0 0), (.slice none 0 0), (.slice none 0 0), (.slice none 0 0)] :: .box x1 29 [(.slice a0_0_A a0_0_n a0_0_c), (.slice a0_1_A a0_1_n a0_1_c), (.slice a0_2_A a0_2_n a0_2_c), (.slice a0_3_A a0_3_n a0_3_c), (.slice a0_4_A a0_4_n a0_4_c)] :: F) (fun _ h => h.pick 10 [3, 4, 1, 7, 0, 2, 5, 6, 8, 9] rfl) ?_
      refine r_do (a_call ok53 rfl rfl rfl rfl (fun w hm => spec_l9Down.calls K v2 x4.1.A x4.1.n x4.1.c v3 x4.2.1.A x4.2.1.n x4.2.1.c x4.2.2.1.A x4.2.2.1.n x4.2.2.1.c (([] : List Int) ++ (a0_3.drop (1:Int).toNat)) x7.1 (0 + (a0_3.drop (1:Int).toNat).length) x7.2 (v6.set (rd a0_3 (0:Int)).toNat (1:Int)) x4.2.2.2.2.A x4.2.2.2.2.n x4.2.2.2.2.c ([(rd a0_2 a1)] : List Int) x8 1 1 hm x4.1.h x4.2.1.h (app_len rfl rfl) (set_len x4.2.2.2.2.h _ _) rfl hb3)) rfl rfl (fun x9 => ?_)
      refine r_do (a_storeb 8 rfl sz29 rfl rfl rfl rfl (Nat.le_of_ble_eq_true rfl) rfl) rfl rfl (fun _ => ?_)
      refine j_b8 [(.slice x4.1.A x4.1.n x4.1.c), (.slice x4.2.1.A x4.2.1.n x4.2.1.c), (.slice x4.2.2.1.A x4.2.2.1.n x4.2.2.1.c), (.slice x9.2.2.1.A x9.2.2.1.n x9.2.2.1.c), (.slice x4.2.2.2.2.A x4.2.2.2.2.n x4.2.2.2.2.c)] rfl ?_
      refine r_q (q_assign rfl rfl) rfl rfl ?_
      refine r_nil ?_
      refine j_then ?_
      refine j_ret ?_
      cases h
      exact j_return rfl (ResOf.cell 8 rfl rfl ag29 sz29 (ResOf.tmp rfl ResOf.nil)) rfl (fun w h => ⟨(⟨x4.1.A, x4.1.n, x4.1.c, (x9.1.h.trans x4.1.h)⟩, ⟨x4.2.1.A, x4.2.1.n, x4.2.1.c, (x9.2.1.h.trans x4.2.1.h)⟩, ⟨x4.2.2.1.A, x4.2.2.1.n, x4.2.2.1.c, (set_len x4.2.2.1.h _ _)⟩, ⟨x9.2.2.1.A, x9.2.2.1.n, x9.2.2.1.c, x9.2.2.1.h⟩, ⟨x4.2.2.2.2.A, x4.2.2.2.2.n, x4.2.2.2.2.c, (x9.2.2.2.1.h.trans (set_len x4.2.2.2.2.h _ _))⟩), rfl, h.pick 10 [0, 1, 6, 2, 3] rfl⟩)
  · refine r_off rfl rfl rfl rfl (not_t (var_f c1)) rfl ?_
    refine r_off rfl rfl rfl rfl (not_t (var_f c1)) rfl ?_
    refine r_off rfl rfl rfl rfl (not_t (var_f c1)) rfl ?_
    refine r_off rfl rfl rfl rfl (not_t (var_f c1)) rfl ?_
    refine r_off rfl rfl rfl rfl (not_t (var_f c1)) rfl ?_
    refine r_q (q_pick_t rfl rfl (not_t (var_f c1)) rfl) rfl rfl ?_
    refine r_nil ?_
    refine j_then ?_
    refine j_true rfl rfl ?_
    refine j_seq ?_
    refine j_region ?_
    refine r_q (q_build (cs := [(.slice none 0 0), (.slice none 0 0), (.slice none 0 0), (.slice none 0 0), (.slice none 0 0)]) zr29 pl29 rfl rfl rfl rfl) rfl rfl ?_
    refine r_do (a_storeb 0 rfl sz29 rfl rfl rfl rfl (Nat.le_of_ble_eq_true rfl) rfl) rfl rfl (fun _ => ?_)
    refine j_b0 [(.slice none 0 0), (.slice none 0 0), (.slice none 0 0), (.slice none 0 0), (.slice none 0 0)] rfl ?_
    refine r_q (q_assign rfl rfl) rfl rfl ?_
    refine r_nil ?_
    refine j_then ?_
    refine j_ret ?_
    refine j_then_ret ?_
    refine j_nil 3 1 ?_
    refine j_nil 3 1 ?_
    refine j_nil 3 1 ?_
    refine j_nil 3 1 ?_
    refine j_nil 3 1 ?_
    cases h
    exact j_return rfl (ResOf.cell 5 rfl rfl ag29 sz29 (ResOf.tmp rfl ResOf.nil)) rfl (fun w h => ⟨(⟨none, 0, 0, rfl⟩, ⟨none, 0, 0, rfl⟩, ⟨none, 0, 0, rfl⟩, ⟨none, 0, 0, rfl⟩, ⟨none, 0, 0, rfl⟩), rfl, h.pick 7 [4, 3, 2, 1, 0] rfl⟩)

theorem spec_DropRoot.calls (K : Nat) (a0_0 : List Int) (a0_0_A : Option Addr) (a0_0_n a0_0_c : Nat) (a0_1 : List Int) (a0_1_A : Option Addr) (a0_1_n a0_1_c : Nat) (a0_2 : List Int) (a0_2_A : Option Addr) (a0_2_n a0_2_c : Nat) (a0_3 : List Int) (a0_3_A : Option Addr) (a0_3_n a0_3_c : Nat) (a0_4 : List Int) (a0_4_A : Option Addr) (a0_4_n a0_4_c : Nat) (a1 : Int) {w0 w : World} {F : List Res} {r1 : List Int} {r2 : List Int} {r3 : List Int} {r4 : List Int} {r5 : List Int} {r6 : Bool} (hm : Mem w0 (F) w) (a0_0_h : a0_0.length = a0_0_n) (a0_0_R : Rd w0 F a0_0_A (ii a0_0)) (a0_1_h : a0_1.length = a0_1_n) (a0_1_R : Rd w0 F a0_1_A (ii a0_1)) (a0_2_h : a0_2.length = a0_2_n) (a0_2_R : Rd w0 F a0_2_A (ii a0_2)) (a0_3_h : a0_3.length = a0_3_n) (a0_3_R : Rd w0 F a0_3_A (ii a0_3)) (a0_3_k : a0_3.length ≤ a0_3_c) (a0_4_h : a0_4.length = a0_4_n) (a0_4_R : Rd w0 F a0_4_A (ii a0_4)) (h : spec_DropRoot.f K a0_0 a0_1 a0_2 a0_3 a0_4 a1 = some (r1, r2, r3, r4, r5, r6)) :
    Calls Try.prog 17 (List.toArray [.agg (List.toArray [.slice a0_0_A a0_0_n a0_0_c, .slice a0_1_A a0_1_n a0_1_c, .slice a0_2_A a0_2_n a0_2_c, .slice a0_3_A a0_3_n a0_3_c, .slice a0_4_A a0_4_n a0_4_c]), i6 a1]) w fun e w' => ∃ x : (Sl r1.length) × (Sl r2.length) × (Sl r3.length) × (Sl r4.length) × (Sl r5.length), e = .returned (.tuple (List.toArray [.agg (List.toArray [.slice x.1.A x.1.n x.1.c, .slice x.2.1.A x.2.1.n x.2.1.c, .slice x.2.2.1.A x.2.2.1.n x.2.2.1.c, .slice x.2.2.2.1.A x.2.2.2.1.n x.2.2.2.1.c, .slice x.2.2.2.2.A x.2.2.2.2.n x.2.2.2.2.c]), .bool r6])) ∧ Mem w0 (.row x.1.A x.1.c 3 1 (ii r1) :: .row x.2.1.A x.2.1.c 3 1 (ii r2) :: .row x.2.2.1.A x.2.2.1.c 3 1 (ii r3) :: .row x.2.2.2.1.A x.2.2.2.1.c 3 1 (ii r4) :: .row x.2.2.2.2.A x.2.2.2.2.c 3 1 (ii r5) :: F) w' := by
  unfold spec_DropRoot.f at h
  refine calls_of_J (n := 32) Try.func17 rfl rfl rfl hm ?_
  refine j_seq ?_
  refine j_region ?_
  refine r_do (a_box rfl rfl) rfl rfl (fun x1 => ?_)
  refine r_do (a_alloc zr29 rfl) rfl rfl (fun x2 => ?_)
  refine r_q (q_assign rfl rfl) rfl rfl ?_
  refine r_nil ?_
  refine j_then ?_
  refine j_seq ?_
  refine j_seq ?_
  refine j_region ?_
  refine r_q (q_loadb_agg 1 rfl ag29 sz29 rfl rfl rfl rfl) rfl rfl ?_
  refine r_q (q_move rfl rfl) rfl rfl ?_
  obtain ⟨v1, hb1, h⟩ := of_b1 h
  refine r_do (a_call ok51 rfl rfl rfl rfl (fun w hm => spec_l9Root.calls K a0_0 a0_0_A a0_0_n a0_0_c a0_1 a0_1_A a0_1_n a0_1_c a0_2 a0_2_A a0_2_n a0_2_c a0_3 a0_3_A a0_3_n a0_3_c a0_4 a0_4_A a0_4_n a0_4_c a1 hm a0_0_h (Rd.drop 2 a0_0_R) a0_1_h (Rd.drop 2 a0_1_R) a0_2_h (Rd.drop 2 a0_2_R) a0_3_h (Rd.drop 2 a0_3_R) a0_3_k a0_4_h (Rd.drop 2 a0_4_R) hb1)) rfl rfl (fun x3 => ?_)
  refine r_q (q_not rfl rfl) rfl rfl ?_
  refine r_nil ?_
  refine j_then ?_
  rcases of_if h with ⟨c1, h⟩ | ⟨c1, h⟩
  · refine j_false rfl (not_f c1) ?_
    refine j_skip ?_
    refine j_then ?_
    refine j_seq ?_
    refine j_region ?_
    refine r_q (q_loadb_agg 1 rfl ag29 sz29 rfl rfl rfl rfl) rfl rfl ?_
    obtain ⟨v2, v3, v4, v5, v6, hb2, h⟩ := of_b5 h
    refine r_do (a_call ok52 rfl rfl rfl rfl (fun w hm => spec_l9Copy.calls K a0_0 a0_0_A a0_0_n a0_0_c a0_1 a0_1_A a0_1_n a0_1_c a0_2 a0_2_A a0_2_n a0_2_c a0_3 a0_3_A a0_3_n a0_3_c a0_4 a0_4_A a0_4_n a0_4_c hm a0_0_h (Rd.drop 2 a0_0_R) a0_1_h (Rd.drop 2 a0_1_R) a0_2_h (Rd.drop 2 a0_2_R) a0_3_h (Rd.drop 2 a0_3_R) a0_4_h (Rd.drop 2 a0_4_R) hb2)) rfl rfl (fun x4 => ?_)
    refine r_do (a_alloc zr29 rfl) rfl rfl (fun x5 => ?_)
    refine r_do (a_storeb 0 rfl sz29 rfl rfl rfl rfl (Nat.le_of_ble_eq_true rfl) rfl) rfl rfl (fun _ => ?_)
    refine j_b0 [(.slice x4.1.A x4.1.n x4.1.c), (.slice x4.2.1.A x4.2.1.n x4.2.1.c), (.slice x4.2.2.1.A x4.2.2.1.n x4.2.2.1.c), (.slice x4.2.2.2.1.A x4.2.2.2.1.n x4.2.2.2.1.c), (.slice x4.2.2.2.2.A x4.2.2.2.2.n x4.2.2.2.2.c)] rfl ?_
    refine r_nil ?_
    refine j_then ?_
    refine j_seq ?_
    refine j_region ?_
    refine r_q (q_fieldAddr fi29_0 sz27 rfl rfl rfl) rfl rfl ?_
    refine r_q (q_fieldAddr fi27_0 sz25 rfl rfl rfl) rfl rfl ?_
    refine r_q (q_fieldAddr fi25_2 sz23 rfl rfl rfl) rfl rfl ?_
    refine r_q (q_loadb 7 rfl ag23 rfl rfl rfl) rfl rfl ?_
    refine r_q (q_move rfl rfl) rfl rfl ?_
    obtain ⟨c2, h⟩ := of_guard h
    refine r_q (q_ix (Rd.drop 8 a0_2_R) (ints_len1 _ a0_2) (by decide) a0_2_h c2 un23 sz3 rfl rfl rfl) rfl rfl ?_
    refine r_q (q_ldI (Rd.drop 8 a0_2_R) c2 ag3 rfl rfl) rfl rfl ?_
    refine r_q (q_assign rfl rfl) rfl rfl ?_
    refine r_nil ?_
    refine j_then ?_
    refine j_seq ?_
    refine j_region ?_
    refine r_q (q_fieldAddr fi29_0 sz27 rfl rfl rfl) rfl rfl ?_
    refine r_q (q_fieldAddr fi27_0 sz25 rfl rfl rfl) rfl rfl ?_
    refine r_q (q_fieldAddr fi25_2 sz23 rfl rfl rfl) rfl rfl ?_
    refine r_q (q_loadb 0 rfl ag23 rfl rfl rfl) rfl rfl ?_
    refine r_q (q_move rfl rfl) rfl rfl ?_
    obtain ⟨c3, h⟩ := of_guard h
    refine r_q (q_ix (Rd.row 3 rfl) (ints_len1 _ v4) (by decide) x4.2.2.1.h c3 un23 sz3 rfl rfl rfl) rfl rfl ?_
    refine r_do (a_stI 3 rfl c3 sz3 rfl rfl rfl) rfl rfl (fun _ => ?_)
    refine j_s3 ?_
    refine r_nil ?_
    refine j_then ?_
    refine j_seq ?_
    refine j_region ?_
    refine r_q (q_loadb_agg 0 rfl ag29 sz29 rfl rfl rfl rfl) rfl rfl ?_
    refine r_q (q_move rfl rfl) rfl rfl ?_
    refine r_do (a_litX (vs := [(i6 (rd a0_2 a1))]) (ii ([(rd a0_2 a1)] : List Int)) un23 sz3 zr3 rfl rfl rfl rfl rfl rfl rfl rfl rfl) rfl rfl (fun x6 => ?_)
    obtain ⟨v7, v8, v9, v10, v11, hb3, h⟩ := of_b5 h
    refine j_rs (.row x4.1.A x4.1.c 3 1 (ii v2) :: .row x4.2.1.A x4.2.1.c 3 1 (ii v3) :: .row x4.2.2.2.1.A x4.2.2.2.1.c 3 1 (ii v5) :: .row x4.2.2.2.2.A x4.2.2.2.2.c 3 1 (ii v6) :: .row x6 1 3 1 (ii ([(rd a0_2 a1)] : List Int)) :: .box x5 29 [(.slice x4.1.A x4.1.n x4.1.c), (.slice x4.2.1.A x4.2.1.n x4.2.1.c), (.slice x4.2.2.1.A x4.2.2.1.n x4.2.2.1.c), (.slice x4.2.2.2.1.A x4.2.2.2.1.n x4.2.2.2.1.c), (.slice x4.2.2.2.2.A x4.2.2.2.2.n x4.2.2.2.2.c)] :: .row x4.2.2.1.A x4.2.2.1.c 3 1 (ii (v4.set a1.toNat (-1:Int))) :: .box x2 29 [(.slice none 0 0), (.slice none 0 0), (.slice none 0 0), (.slice none 0 0), (.slice none 0 0)] :: .box x1 29 [(.slice a0_0_A a0_0_n a0_0_c), (.slice a0_1_A a0_1_n a0_1_c), (.slice a0_2_A a0_2_n a0_2_c), (.slice a0_3_A a0_3_n a0_3_c), (.slice a0_4_A a0_4_n a0_4_c)] :: F) (fun _ h => h.pick 9 [2, 3, 5, 6, 0, 1, 4, 7, 8] rfl) ?_
    refine r_do (a_call ok53 rfl rfl rfl rfl (fun w hm => spec_l9Down.calls K v2 x4.1.A x4.1.n x4.1.c v3 x4.2.1.A x4.2.1.n x4.2.1.c x4.2.2.1.A x4.2.2.1.n x4.2.2.1.c v5 x4.2.2.2.1.A x4.2.2.2.1.n x4.2.2.2.1.c v6 x4.2.2.2.2.A x4.2.2.2.2.n x4.2.2.2.2.c ([(rd a0_2 a1)] : List Int) x6 1 1 hm x4.1.h x4.2.1.h x4.2.2.2.1.h x4.2.2.2.2.h rfl hb3)) rfl rfl (fun x7 => ?_)
    refine r_do (a_storeb 7 rfl sz29 rfl rfl rfl rfl (Nat.le_of_ble_eq_true rfl) rfl) rfl rfl (fun _ => ?_)
    refine j_b7 [(.slice x4.1.A x4.1.n x4.1.c), (.slice x4.2.1.A x4.2.1.n x4.2.1.c), (.slice x4.2.2.1.A x4.2.2.1.n x4.2.2.1.c), (.slice x7.2.2.1.A x7.2.2.1.n x7.2.2.1.c), (.slice x4.2.2.2.2.A x4.2.2.2.2.n x4.2.2.2.2.c)] rfl ?_
    refine r_q (q_assign rfl rfl) rfl rfl ?_
    refine r_nil ?_
    refine j_then ?_
    refine j_ret ?_
    cases h
    exact j_return rfl (ResOf.cell 7 rfl rfl ag29 sz29 (ResOf.tmp rfl ResOf.nil)) rfl (fun w h => ⟨(⟨x4.1.A, x4.1.n, x4.1.c, (x7.1.h.trans x4.1.h)⟩, ⟨x4.2.1.A, x4.2.1.n, x4.2.1.c, (x7.2.1.h.trans x4.2.1.h)⟩, ⟨x4.2.2.1.A, x4.2.2.1.n, x4.2.2.1.c, (set_len x4.2.2.1.h _ _)⟩, ⟨x7.2.2.1.A, x7.2.2.1.n, x7.2.2.1.c, x7.2.2.1.h⟩, ⟨x4.2.2.2.2.A, x4.2.2.2.2.n, x4.2.2.2.2.c, (x7.2.2.2.1.h.trans x4.2.2.2.2.h)⟩), rfl, h.pick 9 [0, 1, 6, 2, 3] rfl⟩)
  · refine j_true rfl (not_t (var_f c1)) ?_
    refine j_seq ?_
    refine j_region ?_
    refine r_q (q_build (cs := [(.slice none 0 0), (.slice none 0 0), (.slice none 0 0), (.slice none 0 0), (.slice none 0 0)]) zr29 pl29 rfl rfl rfl rfl) rfl rfl ?_
    refine r_do (a_storeb 0 rfl sz29 rfl rfl rfl rfl (Nat.le_of_ble_eq_true rfl) rfl) rfl rfl (fun _ => ?_)
    refine j_b0 [(.slice none 0 0), (.slice none 0 0), (.slice none 0 0), (.slice none 0 0), (.slice none 0 0)] rfl ?_
    refine r_q (q_assign rfl rfl) rfl rfl ?_
    refine r_nil ?_
    refine j_then ?_
    refine j_ret ?_
    refine j_then_ret ?_
    refine j_nil 3 1 ?_
    refine j_nil 3 1 ?_
    refine j_nil 3 1 ?_
    refine j_nil 3 1 ?_
    refine j_nil 3 1 ?_
    cases h
    exact j_return rfl (ResOf.cell 5 rfl rfl ag29 sz29 (ResOf.tmp rfl ResOf.nil)) rfl (fun w h => ⟨(⟨none, 0, 0, rfl⟩, ⟨none, 0, 0, rfl⟩, ⟨none, 0, 0, rfl⟩, ⟨none, 0, 0, rfl⟩, ⟨none, 0, 0, rfl⟩), rfl, h.pick 7 [4, 3, 2, 1, 0] rfl⟩)

theorem spec_LinkCounted.calls (K : Nat) (a0_0 : List Int) (a0_0_A : Option Addr) (a0_0_n a0_0_c : Nat) (a0_1 : List Int) (a0_1_A : Option Addr) (a0_1_n a0_1_c : Nat) (a0_2 : List Int) (a0_2_A : Option Addr) (a0_2_n a0_2_c : Nat) (a0_3 : List Int) (a0_3_A : Option Addr) (a0_3_n a0_3_c : Nat) (a0_4 : List Int) (a0_4_A : Option Addr) (a0_4_n a0_4_c : Nat) (a1 : Int) (a2 : Int) {w0 w : World} {F : List Res} {r1 : List Int} {r2 : List Int} {r3 : List Int} {r4 : List Int} {r5 : List Int} {r6 : Bool} (hm : Mem w0 (F) w) (a0_0_h : a0_0.length = a0_0_n) (a0_0_R : Rd w0 F a0_0_A (ii a0_0)) (a0_1_h : a0_1.length = a0_1_n) (a0_1_R : Rd w0 F a0_1_A (ii a0_1)) (a0_2_h : a0_2.length = a0_2_n) (a0_2_R : Rd w0 F a0_2_A (ii a0_2)) (a0_3_h : a0_3.length = a0_3_n) (a0_3_R : Rd w0 F a0_3_A (ii a0_3)) (a0_3_k : a0_3.length ≤ a0_3_c) (a0_4_h : a0_4.length = a0_4_n) (a0_4_R : Rd w0 F a0_4_A (ii a0_4)) (h : spec_LinkCounted.f K a0_0 a0_1 a0_2 a0_3 a0_4 a1 a2 = some (r1, r2, r3, r4, r5, r6)) :
    Calls Try.prog 21 (List.toArray [.agg (List.toArray [.slice a0_0_A a0_0_n a0_0_c, .slice a0_1_A a0_1_n a0_1_c, .slice a0_2_A a0_2_n a0_2_c, .slice a0_3_A a0_3_n a0_3_c, .slice a0_4_A a0_4_n a0_4_c]), i6 a1, i6 a2]) w fun e w' => ∃ x : (Sl r1.length) × (Sl r2.length) × (Sl r3.length) × (Sl r4.length) × (Sl r5.length), e = .returned (.tuple (List.toArray [.agg (List.toArray [.slice x.1.A x.1.n x.1.c, .slice x.2.1.A x.2.1.n x.2.1.c, .slice x.2.2.1.A x.2.2.1.n x.2.2.1.c, .slice x.2.2.2.1.A x.2.2.2.1.n x.2.2.2.1.c, .slice x.2.2.2.2.A x.2.2.2.2.n x.2.2.2.2.c]), .bool r6])) ∧ Mem w0 (.row x.1.A x.1.c 3 1 (ii r1) :: .row x.2.1.A x.2.1.c 3 1 (ii r2) :: .row x.2.2.1.A x.2.2.1.c 3 1 (ii r3) :: .row x.2.2.2.1.A x.2.2.2.1.c 3 1 (ii r4) :: .row x.2.2.2.2.A x.2.2.2.2.c 3 1 (ii r5) :: F) w' := by
  unfold spec_LinkCounted.f at h
  refine calls_of_J (n := 79) Try.func21 rfl rfl rfl hm ?_
  refine j_seq ?_
  refine j_region ?_
  refine r_do (a_box rfl rfl) rfl rfl (fun x1 => ?_)
  refine r_do (a_alloc zr29 rfl) rfl rfl (fun x2 => ?_)
  refine r_q (q_assign rfl rfl) rfl rfl ?_
  refine r_nil ?_
  refine j_then ?_
  refine j_seq ?_
  refine j_seq ?_
  refine j_region ?_
  refine r_q (q_loadb_agg 1 rfl ag29 sz29 rfl rfl rfl rfl) rfl rfl ?_
  refine r_q (q_move rfl rfl) rfl rfl ?_
  obtain ⟨v1, hb1, h⟩ := of_b1 h
  refine r_do (a_call ok51 rfl rfl rfl rfl (fun w hm => spec_l9Root.calls K a0_0 a0_0_A a0_0_n a0_0_c a0_1 a0_1_A a0_1_n a0_1_c a0_2 a0_2_A a0_2_n a0_2_c a0_3 a0_3_A a0_3_n a0_3_c a0_4 a0_4_A a0_4_n a0_4_c a1 hm a0_0_h (Rd.drop 2 a0_0_R) a0_1_h (Rd.drop 2 a0_1_R) a0_2_h (Rd.drop 2 a0_2_R) a0_3_h (Rd.drop 2 a0_3_R) a0_3_k a0_4_h (Rd.drop 2 a0_4_R) hb1)) rfl rfl (fun x3 => ?_)
  refine r_q (q_not rfl rfl) rfl rfl ?_
  refine r_q (q_move rfl rfl) rfl rfl ?_
  rcases of_if h with ⟨c1, h⟩ | ⟨c1, h⟩
  · refine r_qon (q_loadb_agg 1 rfl ag29 sz29 rfl rfl rfl rfl) rfl rfl rfl rfl (not_f c1) rfl ?_
    refine r_qon (q_move rfl rfl) rfl rfl rfl rfl (not_f c1) rfl ?_
    obtain ⟨v2, hb2, h⟩ := of_b1 h
    refine r_on (a_call ok51 rfl rfl rfl rfl (fun w hm => spec_l9Root.calls K a0_0 a0_0_A a0_0_n a0_0_c a0_1 a0_1_A a0_1_n a0_1_c a0_2 a0_2_A a0_2_n a0_2_c a0_3 a0_3_A a0_3_n a0_3_c a0_4 a0_4_A a0_4_n a0_4_c a2 hm a0_0_h (Rd.drop 2 a0_0_R) a0_1_h (Rd.drop 2 a0_1_R) a0_2_h (Rd.drop 2 a0_2_R) a0_3_h (Rd.drop 2 a0_3_R) a0_3_k a0_4_h (Rd.drop 2 a0_4_R) hb2)) rfl rfl rfl rfl (not_f c1) rfl (fun x4 => ?_)
    refine r_qon (q_not rfl rfl) rfl rfl rfl rfl (not_f c1) rfl ?_
    refine r_q (q_pick_f rfl rfl (not_f c1) rfl) rfl rfl ?_
    refine r_q (q_move rfl rfl) rfl rfl ?_
    rcases of_if h with ⟨c2, h⟩ | ⟨c2, h⟩
    · refine r_qon (q_fieldAddr fi29_0 sz27 rfl rfl rfl) rfl rfl rfl rfl (not_f c2) rfl ?_
      refine r_qon (q_fieldAddr fi27_0 sz25 rfl rfl rfl) rfl rfl rfl rfl (not_f c2) rfl ?_
      refine r_qon (q_fieldAddr fi25_2 sz23 rfl rfl rfl) rfl rfl rfl rfl (not_f c2) rfl ?_
      refine r_qon (q_loadb 1 rfl ag23 rfl rfl rfl) rfl rfl rfl rfl (not_f c2) rfl ?_
      refine r_qon (q_move rfl rfl) rfl rfl rfl rfl (not_f c2) rfl ?_
      obtain ⟨c3, h⟩ := of_guard h
      refine r_qon (q_ix (Rd.drop 2 a0_2_R) (ints_len1 _ a0_2) (by decide) a0_2_h c3 un23 sz3 rfl rfl rfl) rfl rfl rfl rfl (not_f c2) rfl ?_
      refine r_qon (q_ldI (Rd.drop 2 a0_2_R) c3 ag3 rfl rfl) rfl rfl rfl rfl (not_f c2) rfl ?_
      refine r_qon (q_eql rfl rfl rfl) rfl rfl rfl rfl (not_f c2) rfl ?_
      refine r_q (q_pick_f rfl rfl (not_f c2) rfl) rfl rfl ?_
      refine r_nil ?_
      refine j_then ?_
      rcases of_if h with ⟨c4, h⟩ | ⟨c4, h⟩
      · refine j_true rfl (beq_t c4) ?_
        refine j_seq ?_
        refine j_region ?_
        refine r_q (q_build (cs := [(.slice none 0 0), (.slice none 0 0), (.slice none 0 0), (.slice none 0 0), (.slice none 0 0)]) zr29 pl29 rfl rfl rfl rfl) rfl rfl ?_
        refine r_do (a_storeb 0 rfl sz29 rfl rfl rfl rfl (Nat.le_of_ble_eq_true rfl) rfl) rfl rfl (fun _ => ?_)
        refine j_b0 [(.slice none 0 0), (.slice none 0 0), (.slice none 0 0), (.slice none 0 0), (.slice none 0 0)] rfl ?_
        refine r_q (q_assign rfl rfl) rfl rfl ?_
        refine r_nil ?_
        refine j_then ?_
        refine j_ret ?_
        refine j_then_ret ?_
        refine j_nil 3 1 ?_
        refine j_nil 3 1 ?_
        refine j_nil 3 1 ?_
        refine j_nil 3 1 ?_
        refine j_nil 3 1 ?_
        cases h
        exact j_return rfl (ResOf.cell 5 rfl rfl ag29 sz29 (ResOf.tmp rfl ResOf.nil)) rfl (fun w h => ⟨(⟨none, 0, 0, rfl⟩, ⟨none, 0, 0, rfl⟩, ⟨none, 0, 0, rfl⟩, ⟨none, 0, 0, rfl⟩, ⟨none, 0, 0, rfl⟩), rfl, h.pick 7 [4, 3, 2, 1, 0] rfl⟩)
      · refine j_false rfl (beq_f c4) ?_
        refine j_skip ?_
        refine j_then ?_
        refine j_seq ?_
        refine j_region ?_
        refine r_q (q_loadb_agg 1 rfl ag29 sz29 rfl rfl rfl rfl) rfl rfl ?_
        obtain ⟨v3, v4, v5, v6, v7, hb3, h⟩ := of_b5 h
        refine r_do (a_call ok52 rfl rfl rfl rfl (fun w hm => spec_l9Copy.calls K a0_0 a0_0_A a0_0_n a0_0_c a0_1 a0_1_A a0_1_n a0_1_c a0_2 a0_2_A a0_2_n a0_2_c a0_3 a0_3_A a0_3_n a0_3_c a0_4 a0_4_A a0_4_n a0_4_c hm a0_0_h (Rd.drop 2 a0_0_R) a0_1_h (Rd.drop 2 a0_1_R) a0_2_h (Rd.drop 2 a0_2_R) a0_3_h (Rd.drop 2 a0_3_R) a0_4_h (Rd.drop 2 a0_4_R) hb3)) rfl rfl (fun x5 => ?_)
        refine r_do (a_alloc zr29 rfl) rfl rfl (fun x6 => ?_)
        refine r_do (a_storeb 0 rfl sz29 rfl rfl rfl rfl (Nat.le_of_ble_eq_true rfl) rfl) rfl rfl (fun _ => ?_)
        refine j_b0 [(.slice x5.1.A x5.1.n x5.1.c), (.slice x5.2.1.A x5.2.1.n x5.2.1.c), (.slice x5.2.2.1.A x5.2.2.1.n x5.2.2.1.c), (.slice x5.2.2.2.1.A x5.2.2.2.1.n x5.2.2.2.1.c), (.slice x5.2.2.2.2.A x5.2.2.2.2.n x5.2.2.2.2.c)] rfl ?_
        refine r_nil ?_
        refine j_then ?_
        refine j_seq ?_
        refine j_region ?_
        refine r_q (q_fieldAddr fi29_0 sz27 rfl rfl rfl) rfl rfl ?_
        refine r_q (q_fieldAddr fi27_0 sz25 rfl rfl rfl) rfl rfl ?_
        refine r_q (q_fieldAddr fi25_2 sz23 rfl rfl rfl) rfl rfl ?_
        refine r_q (q_loadb 7 rfl ag23 rfl rfl rfl) rfl rfl ?_
        refine r_q (q_move rfl rfl) rfl rfl ?_
        refine r_q (q_ix (Rd.drop 8 a0_2_R) (ints_len1 _ a0_2) (by decide) a0_2_h c3 un23 sz3 rfl rfl rfl) rfl rfl ?_
        refine r_q (q_ldI (Rd.drop 8 a0_2_R) c3 ag3 rfl rfl) rfl rfl ?_
        refine r_q (q_assign rfl rfl) rfl rfl ?_
        refine r_nil ?_
        refine j_then ?_
        refine j_seq ?_
        refine j_region ?_
        refine r_q (q_fieldAddr fi29_0 sz27 rfl rfl rfl) rfl rfl ?_
        refine r_q (q_fieldAddr fi27_0 sz25 rfl rfl rfl) rfl rfl ?_
        refine r_q (q_fieldAddr fi25_2 sz23 rfl rfl rfl) rfl rfl ?_
        refine r_q (q_loadb 7 rfl ag23 rfl rfl rfl) rfl rfl ?_
        refine r_q (q_move rfl rfl) rfl rfl ?_
        obtain ⟨c5, h⟩ := of_guard h
        refine r_q (q_ix (Rd.drop 8 a0_2_R) (ints_len1 _ a0_2) (by decide) a0_2_h c5 un23 sz3 rfl rfl rfl) rfl rfl ?_
        refine r_q (q_ldI (Rd.drop 8 a0_2_R) c5 ag3 rfl rfl) rfl rfl ?_
        refine r_q (q_assign rfl rfl) rfl rfl ?_
        refine r_nil ?_
        refine j_then ?_
        refine j_seq ?_
        refine j_region ?_
        refine r_q (q_fieldAddr fi29_0 sz27 rfl rfl rfl) rfl rfl ?_
        refine r_q (q_fieldAddr fi27_0 sz25 rfl rfl rfl) rfl rfl ?_
        refine r_q (q_fieldAddr fi25_0 sz23 rfl rfl rfl) rfl rfl ?_
        refine r_q (q_loadb 7 rfl ag23 rfl rfl rfl) rfl rfl ?_
        refine r_q (q_move rfl rfl) rfl rfl ?_
        obtain ⟨c6, h⟩ := of_guard h
        refine r_q (q_ix (Rd.drop 8 a0_0_R) (ints_len1 _ a0_0) (by decide) a0_0_h c6 un23 sz3 rfl rfl rfl) rfl rfl ?_
        refine r_q (q_ldI (Rd.drop 8 a0_0_R) c6 ag3 rfl rfl) rfl rfl ?_
        refine r_q (q_assign rfl rfl) rfl rfl ?_
        refine r_nil ?_
        refine j_then ?_
        refine j_seq ?_
        refine j_seq ?_
        refine j_region ?_
        refine r_q (q_move rfl rfl) rfl rfl ?_
        refine r_q (q_neq rfl rfl rfl) rfl rfl ?_
        refine r_nil ?_
        refine j_then ?_
        rcases of_if h with ⟨c7, h⟩ | ⟨c7, h⟩
        · refine j_false rfl (bne_f c7) ?_
          refine j_skip ?_
          refine j_then ?_
          refine j_seq ?_
          refine j_region ?_
          refine r_q (q_fieldAddr fi29_0 sz27 rfl rfl rfl) rfl rfl ?_
          refine r_q (q_fieldAddr fi27_0 sz25 rfl rfl rfl) rfl rfl ?_
          refine r_q (q_fieldAddr fi25_0 sz23 rfl rfl rfl) rfl rfl ?_
          refine r_q (q_loadb 0 rfl ag23 rfl rfl rfl) rfl rfl ?_
          refine r_q (q_move rfl rfl) rfl rfl ?_
          refine r_q (q_move rfl rfl) rfl rfl ?_
          obtain ⟨c8, h⟩ := of_guard h
          refine r_q (q_ix (Rd.row 1 rfl) (ints_len1 _ v3) (by decide) x5.1.h c8 un23 sz3 rfl rfl rfl) rfl rfl ?_
          refine r_do (a_stI 1 rfl c8 sz3 rfl rfl rfl) rfl rfl (fun _ => ?_)
          refine j_s1 ?_
          refine r_nil ?_
          refine j_then ?_
          refine j_seq ?_
          refine j_region ?_
          refine r_q (q_loadb_agg 0 rfl ag29 sz29 rfl rfl rfl rfl) rfl rfl ?_
          refine r_q (q_move rfl rfl) rfl rfl ?_
          refine r_do (a_litX (vs := [(i6 (rd a0_0 (rd a0_2 a1)))]) (ii ([(rd a0_0 (rd a0_2 a1))] : List Int)) un23 sz3 zr3 rfl rfl rfl rfl rfl rfl rfl rfl rfl) rfl rfl (fun x7 => ?_)
          obtain ⟨v8, v9, v10, v11, v12, hb4, h⟩ := of_b5 h
          refine j_rs (.row x5.1.A x5.1.c 3 1 (ii (v3.set (rd a0_2 a1).toNat (rd a0_2 a2))) :: .row x5.2.1.A x5.2.1.c 3 1 (ii v4) :: .row x5.2.2.2.1.A x5.2.2.2.1.c 3 1 (ii v6) :: .row x5.2.2.2.2.A x5.2.2.2.2.c 3 1 (ii v7) :: .row x7 1 3 1 (ii ([(rd a0_0 (rd a0_2 a1))] : List Int)) :: .box x6 29 [(.slice x5.1.A x5.1.n x5.1.c), (.slice x5.2.1.A x5.2.1.n x5.2.1.c), (.slice x5.2.2.1.A x5.2.2.1.n x5.2.2.1.c), (.slice x5.2.2.2.1.A x5.2.2.2.1.n x5.2.2.2.1.c), (.slice x5.2.2.2.2.A x5.2.2.2.2.n x5.2.2.2.2.c)] :: .row x5.2.2.1.A x5.2.2.1.c 3 1 (ii v5) :: .box x2 29 [(.slice none 0 0), (.slice none 0 0), (.slice none 0 0), (.slice none 0 0), (.slice none 0 0)] :: .box x1 29 [(.slice a0_0_A a0_0_n a0_0_c), (.slice a0_1_A a0_1_n a0_1_c), (.slice a0_2_A a0_2_n a0_2_c), (.slice a0_3_A a0_3_n a0_3_c), (.slice a0_4_A a0_4_n a0_4_c)] :: F) (fun _ h => h.pick 9 [2, 3, 5, 6, 0, 1, 4, 7, 8] rfl) ?_
          refine r_do (a_call ok53 rfl rfl rfl rfl (fun w hm => spec_l9Down.calls K (v3.set (rd a0_2 a1).toNat (rd a0_2 a2)) x5.1.A x5.1.n x5.1.c v4 x5.2.1.A x5.2.1.n x5.2.1.c x5.2.2.1.A x5.2.2.1.n x5.2.2.1.c v6 x5.2.2.2.1.A x5.2.2.2.1.n x5.2.2.2.1.c v7 x5.2.2.2.2.A x5.2.2.2.2.n x5.2.2.2.2.c ([(rd a0_0 (rd a0_2 a1))] : List Int) x7 1 1 hm (set_len x5.1.h _ _) x5.2.1.h x5.2.2.2.1.h x5.2.2.2.2.h rfl hb4)) rfl rfl (fun x8 => ?_)
          refine r_do (a_storeb 7 rfl sz29 rfl rfl rfl rfl (Nat.le_of_ble_eq_true rfl) rfl) rfl rfl (fun _ => ?_)
          refine j_b7 [(.slice x5.1.A x5.1.n x5.1.c), (.slice x5.2.1.A x5.2.1.n x5.2.1.c), (.slice x5.2.2.1.A x5.2.2.1.n x5.2.2.1.c), (.slice x8.2.2.1.A x8.2.2.1.n x8.2.2.1.c), (.slice x5.2.2.2.2.A x5.2.2.2.2.n x5.2.2.2.2.c)] rfl ?_
          refine r_q (q_assign rfl rfl) rfl rfl ?_
          refine r_nil ?_
          refine j_then ?_
          refine j_ret ?_
          cases h
          exact j_return rfl (ResOf.cell 7 rfl rfl ag29 sz29 (ResOf.tmp rfl ResOf.nil)) rfl (fun w h => ⟨(⟨x5.1.A, x5.1.n, x5.1.c, (x8.1.h.trans (set_len x5.1.h _ _))⟩, ⟨x5.2.1.A, x5.2.1.n, x5.2.1.c, (x8.2.1.h.trans x5.2.1.h)⟩, ⟨x5.2.2.1.A, x5.2.2.1.n, x5.2.2.1.c, x5.2.2.1.h⟩, ⟨x8.2.2.1.A, x8.2.2.1.n, x8.2.2.1.c, x8.2.2.1.h⟩, ⟨x5.2.2.2.2.A, x5.2.2.2.2.n, x5.2.2.2.2.c, (x8.2.2.2.1.h.trans x5.2.2.2.2.h)⟩), rfl, h.pick 9 [0, 1, 6, 2, 3] rfl⟩)
        · refine j_true rfl (bne_t c7) ?_
          obtain ⟨c9, h⟩ := of_guard h
          refine j_draw (.box x6 29 [(.slice x5.1.A x5.1.n x5.1.c), (.slice x5.2.1.A x5.2.1.n x5.2.1.c), (.slice x5.2.2.1.A x5.2.2.1.n x5.2.2.1.c), (.slice x5.2.2.2.1.A x5.2.2.2.1.n x5.2.2.2.1.c), (.slice x5.2.2.2.2.A x5.2.2.2.2.n x5.2.2.2.2.c)] :: .row x5.1.A x5.1.c 3 1 (ii v3) :: .row x5.2.1.A x5.2.1.c 3 1 (ii v4) :: .row x5.2.2.1.A x5.2.2.1.c 3 1 (ii v5) :: .row x5.2.2.2.1.A x5.2.2.2.1.c 3 1 (ii v6) :: .box x2 29 [(.slice none 0 0), (.slice none 0 0), (.slice none 0 0), (.slice none 0 0), (.slice none 0 0)] :: .box x1 29 [(.slice a0_0_A a0_0_n a0_0_c), (.slice a0_1_A a0_1_n a0_1_c), (.slice a0_2_A a0_2_n a0_2_c), (.slice a0_3_A a0_3_n a0_3_c), (.slice a0_4_A a0_4_n a0_4_c)] :: F) 11 follows_any rfl ?_
          refine d_take 0 rfl (q_fieldAddr fi29_1 sz23 rfl rfl rfl) rfl rfl (by kernel_rfl) (by kernel_rfl) (by kernel_rfl) (fun w h => h.pick 8 [0, 1, 2, 3, 4, 6, 7] rfl) ?_
          refine d_take 1 rfl (q_loadb 0 rfl ag23 rfl rfl rfl) rfl rfl (by kernel_rfl) (by kernel_rfl) (by kernel_rfl) (fun w h => h.pick 8 [0, 1, 2, 3, 4, 6, 7] rfl) ?_
          refine d_take 2 rfl (q_move rfl rfl) rfl rfl (by kernel_rfl) (by kernel_rfl) (by kernel_rfl) (fun w h => h.pick 8 [0, 1, 2, 3, 4, 6, 7] rfl) ?_
          refine d_take 3 rfl (q_fieldAddr fi29_1 sz23 rfl rfl rfl) rfl rfl (by kernel_rfl) (by kernel_rfl) (by kernel_rfl) (fun w h => h.pick 8 [0, 1, 2, 3, 4, 6, 7] rfl) ?_
          refine d_take 4 rfl (q_loadb 0 rfl ag23 rfl rfl rfl) rfl rfl (by kernel_rfl) (by kernel_rfl) (by kernel_rfl) (fun w h => h.pick 8 [0, 1, 2, 3, 4, 6, 7] rfl) ?_
          refine d_take 5 rfl (q_move rfl rfl) rfl rfl (by kernel_rfl) (by kernel_rfl) (by kernel_rfl) (fun w h => h.pick 8 [0, 1, 2, 3, 4, 6, 7] rfl) ?_
          refine d_one 6 (by kernel_rfl) ?_
          refine o_do rfl ((q_ix (Rd.row 5 rfl) (ints_len1 _ v7) (by decide) x5.2.2.2.2.h c9 un23 sz3 rfl rfl rfl)).acts rfl rfl (fun _ w h => h.pick 8 [0, 1, 2, 3, 4, 6, 7] rfl) (fun _ => ?_)
          refine d_one 7 (by kernel_rfl) ?_
          refine o_do rfl ((q_ldI (Rd.row 5 rfl) c9 ag3 rfl rfl)).acts rfl rfl (fun _ w h => h.pick 8 [0, 1, 2, 3, 4, 6, 7] rfl) (fun _ => ?_)
          refine d_take 8 rfl (q_add rfl rfl rfl) rfl rfl (by kernel_rfl) (by kernel_rfl) (by kernel_rfl) (fun w h => h.pick 8 [0, 1, 2, 3, 4, 6, 7] rfl) ?_
          refine d_one 9 (by kernel_rfl) ?_
          refine o_do rfl ((q_ix (Rd.row 5 rfl) (ints_len1 _ v7) (by decide) x5.2.2.2.2.h c9 un23 sz3 rfl rfl rfl)).acts rfl rfl (fun _ w h => h.pick 8 [0, 1, 2, 3, 4, 6, 7] rfl) (fun _ => ?_)
          refine d_one 10 (by kernel_rfl) ?_
          refine o_do rfl (a_stI 5 rfl c9 sz3 rfl rfl rfl) rfl rfl (fun _ w h => h.pick 8 [0, 1, 2, 3, 4, 6, 7] rfl) (fun _ => ?_)
          refine j_s5 ?_
          refine d_done (by kernel_rfl) ?_
          refine j_then ?_
          refine j_seq ?_
          refine j_region ?_
          refine r_q (q_fieldAddr fi29_0 sz27 rfl rfl rfl) rfl rfl ?_
          refine r_q (q_fieldAddr fi27_0 sz25 rfl rfl rfl) rfl rfl ?_
          refine r_q (q_fieldAddr fi25_0 sz23 rfl rfl rfl) rfl rfl ?_
          refine r_q (q_loadb 0 rfl ag23 rfl rfl rfl) rfl rfl ?_
          refine r_q (q_move rfl rfl) rfl rfl ?_
          refine r_q (q_move rfl rfl) rfl rfl ?_
          obtain ⟨c10, h⟩ := of_guard h
          refine r_q (q_ix (Rd.row 1 rfl) (ints_len1 _ v3) (by decide) x5.1.h c10 un23 sz3 rfl rfl rfl) rfl rfl ?_
          refine r_do (a_stI 1 rfl c10 sz3 rfl rfl rfl) rfl rfl (fun _ => ?_)
          refine j_s1 ?_
          refine r_nil ?_
          refine j_then ?_
          refine j_seq ?_
          refine j_region ?_
          refine r_q (q_loadb_agg 0 rfl ag29 sz29 rfl rfl rfl rfl) rfl rfl ?_
          refine r_q (q_move rfl rfl) rfl rfl ?_
          refine r_do (a_litX (vs := [(i6 (rd a0_0 (rd a0_2 a1)))]) (ii ([(rd a0_0 (rd a0_2 a1))] : List Int)) un23 sz3 zr3 rfl rfl rfl rfl rfl rfl rfl rfl rfl) rfl rfl (fun x7 => ?_)
          obtain ⟨v13, v14, v15, v16, v17, hb5, h⟩ := of_b5 h
          refine j_rs (.row x5.1.A x5.1.c 3 1 (ii (v3.set (rd a0_2 a1).toNat (rd a0_2 a2))) :: .row x5.2.1.A x5.2.1.c 3 1 (ii v4) :: .row x5.2.2.2.1.A x5.2.2.2.1.c 3 1 (ii v6) :: .row x5.2.2.2.2.A x5.2.2.2.2.c 3 1 (ii (v7.set (rd a0_2 a2).toNat (wrap64 ((rd v7 (rd a0_2 a2)) + (1:Int))))) :: .row x7 1 3 1 (ii ([(rd a0_0 (rd a0_2 a1))] : List Int)) :: .box x6 29 [(.slice x5.1.A x5.1.n x5.1.c), (.slice x5.2.1.A x5.2.1.n x5.2.1.c), (.slice x5.2.2.1.A x5.2.2.1.n x5.2.2.1.c), (.slice x5.2.2.2.1.A x5.2.2.2.1.n x5.2.2.2.1.c), (.slice x5.2.2.2.2.A x5.2.2.2.2.n x5.2.2.2.2.c)] :: .row x5.2.2.1.A x5.2.2.1.c 3 1 (ii v5) :: .box x2 29 [(.slice none 0 0), (.slice none 0 0), (.slice none 0 0), (.slice none 0 0), (.slice none 0 0)] :: .box x1 29 [(.slice a0_0_A a0_0_n a0_0_c), (.slice a0_1_A a0_1_n a0_1_c), (.slice a0_2_A a0_2_n a0_2_c), (.slice a0_3_A a0_3_n a0_3_c), (.slice a0_4_A a0_4_n a0_4_c)] :: F) (fun _ h => h.pick 9 [2, 3, 5, 6, 0, 1, 4, 7, 8] rfl) ?_
          refine r_do (a_call ok53 rfl rfl rfl rfl (fun w hm => spec_l9Down.calls K (v3.set (rd a0_2 a1).toNat (rd a0_2 a2)) x5.1.A x5.1.n x5.1.c v4 x5.2.1.A x5.2.1.n x5.2.1.c x5.2.2.1.A x5.2.2.1.n x5.2.2.1.c v6 x5.2.2.2.1.A x5.2.2.2.1.n x5.2.2.2.1.c (v7.set (rd a0_2 a2).toNat (wrap64 ((rd v7 (rd a0_2 a2)) + (1:Int)))) x5.2.2.2.2.A x5.2.2.2.2.n x5.2.2.2.2.c ([(rd a0_0 (rd a0_2 a1))] : List Int) x7 1 1 hm (set_len x5.1.h _ _) x5.2.1.h x5.2.2.2.1.h (set_len x5.2.2.2.2.h _ _) rfl hb5)) rfl rfl (fun x8 => ?_)
          refine r_do (a_storeb 7 rfl sz29 rfl rfl rfl rfl (Nat.le_of_ble_eq_true rfl) rfl) rfl rfl (fun _ => ?_)
          refine j_b7 [(.slice x5.1.A x5.1.n x5.1.c), (.slice x5.2.1.A x5.2.1.n x5.2.1.c), (.slice x5.2.2.1.A x5.2.2.1.n x5.2.2.1.c), (.slice x8.2.2.1.A x8.2.2.1.n x8.2.2.1.c), (.slice x5.2.2.2.2.A x5.2.2.2.2.n x5.2.2.2.2.c)] rfl ?_
          refine r_q (q_assign rfl rfl) rfl rfl ?_
          refine r_nil ?_
          refine j_then ?_
          refine j_ret ?_
          cases h
          exact j_return rfl (ResOf.cell 7 rfl rfl ag29 sz29 (ResOf.tmp rfl ResOf.nil)) rfl (fun w h => ⟨(⟨x5.1.A, x5.1.n, x5.1.c, (x8.1.h.trans (set_len x5.1.h _ _))⟩, ⟨x5.2.1.A, x5.2.1.n, x5.2.1.c, (x8.2.1.h.trans x5.2.1.h)⟩, ⟨x5.2.2.1.A, x5.2.2.1.n, x5.2.2.1.c, x5.2.2.1.h⟩, ⟨x8.2.2.1.A, x8.2.2.1.n, x8.2.2.1.c, x8.2.2.1.h⟩, ⟨x5.2.2.2.2.A, x5.2.2.2.2.n, x5.2.2.2.2.c, (x8.2.2.2.1.h.trans (set_len x5.2.2.2.2.h _ _))⟩), rfl, h.pick 9 [0, 1, 6, 2, 3] rfl⟩)
    · refine r_off rfl rfl rfl rfl (not_t (var_f c2)) rfl ?_
      refine r_off rfl rfl rfl rfl (not_t (var_f c2)) rfl ?_
      refine r_off rfl rfl rfl rfl (not_t (var_f c2)) rfl ?_
      refine r_off rfl rfl rfl rfl (not_t (var_f c2)) rfl ?_
      refine r_off rfl rfl rfl rfl (not_t (var_f c2)) rfl ?_
      refine r_off rfl rfl rfl rfl (not_t (var_f c2)) rfl ?_
      refine r_off rfl rfl rfl rfl (not_t (var_f c2)) rfl ?_
      refine r_off rfl rfl rfl rfl (not_t (var_f c2)) rfl ?_
      refine r_q (q_pick_t rfl rfl (not_t (var_f c2)) rfl) rfl rfl ?_
      refine r_nil ?_
      refine j_then ?_
      refine j_true rfl rfl ?_
      refine j_seq ?_
      refine j_region ?_
      refine r_q (q_build (cs := [(.slice none 0 0), (.slice none 0 0), (.slice none 0 0), (.slice none 0 0), (.slice none 0 0)]) zr29 pl29 rfl rfl rfl rfl) rfl rfl ?_
      refine r_do (a_storeb 0 rfl sz29 rfl rfl rfl rfl (Nat.le_of_ble_eq_true rfl) rfl) rfl rfl (fun _ => ?_)
      refine j_b0 [(.slice none 0 0), (.slice none 0 0), (.slice none 0 0), (.slice none 0 0), (.slice none 0 0)] rfl ?_
      refine r_q (q_assign rfl rfl) rfl rfl ?_
      refine r_nil ?_
      refine j_then ?_
      refine j_ret ?_
      refine j_then_ret ?_
      refine j_nil 3 1 ?_
      refine j_nil 3 1 ?_
      refine j_nil 3 1 ?_
      refine j_nil 3 1 ?_
      refine j_nil 3 1 ?_
      cases h
      exact j_return rfl (ResOf.cell 5 rfl rfl ag29 sz29 (ResOf.tmp rfl ResOf.nil)) rfl (fun w h => ⟨(⟨none, 0, 0, rfl⟩, ⟨none, 0, 0, rfl⟩, ⟨none, 0, 0, rfl⟩, ⟨none, 0, 0, rfl⟩, ⟨none, 0, 0, rfl⟩), rfl, h.pick 7 [4, 3, 2, 1, 0] rfl⟩)
  · refine r_off rfl rfl rfl rfl (not_t (var_f c1)) rfl ?_
    refine r_off rfl rfl rfl rfl (not_t (var_f c1)) rfl ?_
    refine r_off rfl rfl rfl rfl (not_t (var_f c1)) rfl ?_
    refine r_off rfl rfl rfl rfl (not_t (var_f c1)) rfl ?_
    refine r_q (q_pick_t rfl rfl (not_t (var_f c1)) rfl) rfl rfl ?_
    refine r_q (q_move rfl rfl) rfl rfl ?_
    refine r_off rfl rfl rfl rfl rfl rfl ?_
    refine r_off rfl rfl rfl rfl rfl rfl ?_
    refine r_off rfl rfl rfl rfl rfl rfl ?_
    refine r_off rfl rfl rfl rfl rfl rfl ?_
    refine r_off rfl rfl rfl rfl rfl rfl ?_
    refine r_off rfl rfl rfl rfl rfl rfl ?_
    refine r_off rfl rfl rfl rfl rfl rfl ?_
    refine r_off rfl rfl rfl rfl rfl rfl ?_
    refine r_q (q_pick_t rfl rfl rfl rfl) rfl rfl ?_
    refine r_nil ?_
    refine j_then ?_
    refine j_true rfl rfl ?_
    refine j_seq ?_
    refine j_region ?_
    refine r_q (q_build (cs := [(.slice none 0 0), (.slice none 0 0), (.slice none 0 0), (.slice none 0 0), (.slice none 0 0)]) zr29 pl29 rfl rfl rfl rfl) rfl rfl ?_
    refine r_do (a_storeb 0 rfl sz29 rfl rfl rfl rfl (Nat.le_of_ble_eq_true rfl) rfl) rfl rfl (fun _ => ?_)
    refine j_b0 [(.slice none 0 0), (.slice none 0 0), (.slice none 0 0), (.slice none 0 0), (.slice none 0 0)] rfl ?_
    refine r_q (q_assign rfl rfl) rfl rfl ?_
    refine r_nil ?_
    refine j_then ?_
    refine j_ret ?_
    refine j_then_ret ?_
    refine j_nil 3 1 ?_
    refine j_nil 3 1 ?_
    refine j_nil 3 1 ?_
    refine j_nil 3 1 ?_
    refine j_nil 3 1 ?_
    cases h
    exact j_return rfl (ResOf.cell 5 rfl rfl ag29 sz29 (ResOf.tmp rfl ResOf.nil)) rfl (fun w h => ⟨(⟨none, 0, 0, rfl⟩, ⟨none, 0, 0, rfl⟩, ⟨none, 0, 0, rfl⟩, ⟨none, 0, 0, rfl⟩, ⟨none, 0, 0, rfl⟩), rfl, h.pick 7 [4, 3, 2, 1, 0] rfl⟩)

theorem spec_l9Draw.calls (K : Nat) (a0_g : Nat) (a0_0 : List Int) (a0_0_A : Option Addr) (a0_0_n a0_0_c : Nat) (a0_1 : Int) {w0 w : World} {F : List Res} {r1 : List Int} {r2 : List Int} {r3 : List Int} {r4 : List Int} {r5 : List Int} {r6 : Int} (hm : Mem w0 (.box a0_g 84 [.slice a0_0_A a0_0_n a0_0_c, i6 a0_1] :: F) w) (a0_0_h : a0_0.length = a0_0_n) (a0_0_R : Rd w0 F a0_0_A (ints .u8 a0_0)) (h : spec_l9Draw.f K a0_0 a0_1 = some (r1, r2, r3, r4, r5, r6)) :
    Calls Try.prog 59 (List.toArray [pt a0_g]) w fun e w' => ∃ x : (Sl r1.length) × (Sl r2.length) × (Sl r3.length) × (Sl r4.length) × (Sl r5.length), e = .returned (.agg (List.toArray [.slice x.1.A x.1.n x.1.c, .slice x.2.1.A x.2.1.n x.2.1.c, .slice x.2.2.1.A x.2.2.1.n x.2.2.1.c, .slice x.2.2.2.1.A x.2.2.2.1.n x.2.2.2.1.c, .slice x.2.2.2.2.A x.2.2.2.2.n x.2.2.2.2.c])) ∧ Mem w0 (.row x.1.A x.1.c 3 1 (ii r1) :: .row x.2.1.A x.2.1.c 3 1 (ii r2) :: .row x.2.2.1.A x.2.2.1.c 3 1 (ii r3) :: .row x.2.2.2.1.A x.2.2.2.1.c 3 1 (ii r4) :: .row x.2.2.2.2.A x.2.2.2.2.c 3 1 (ii r5) :: .box a0_g 84 [.slice a0_0_A a0_0_n a0_0_c, i6 r6] :: F) w' := by
  unfold spec_l9Draw.f at h
  refine calls_of_J (n := 74) Try.func59 rfl rfl rfl hm ?_
  refine j_seq ?_
  refine j_region ?_
  refine r_do (a_alloc zr29 rfl) rfl rfl (fun x1 => ?_)
  refine r_nil ?_
  refine j_then ?_
  refine j_seq ?_
  refine j_region ?_
  refine r_q (q_move rfl rfl) rfl rfl ?_
  refine r_do (a_litX (vs := [(i6 (4:Int)), (i6 (3:Int)), (i6 (5:Int)), (i6 (2:Int)), (i6 (6:Int))]) (ii ([(4:Int), (3:Int), (5:Int), (2:Int), (6:Int)] : List Int)) un23 sz3 zr3 rfl rfl rfl rfl rfl rfl rfl rfl rfl) rfl rfl (fun x2 => ?_)
  obtain ⟨v1, v2, hb1, h⟩ := of_b2 h
  refine j_rs (.box a0_g 84 [(.slice a0_0_A a0_0_n a0_0_c), (i6 a0_1)] :: .row x2 5 3 1 (ii ([(4:Int), (3:Int), (5:Int), (2:Int), (6:Int)] : List Int)) :: .box x1 29 [(.slice none 0 0), (.slice none 0 0), (.slice none 0 0), (.slice none 0 0), (.slice none 0 0)] :: F) (fun _ h => h.pick 3 [2, 0, 1] rfl) ?_
  refine r_do (a_call ok80 rfl rfl rfl rfl (fun w hm => spec_l13Rd_num.calls K a0_g a0_0 a0_0_A a0_0_n a0_0_c a0_1 ([(4:Int), (3:Int), (5:Int), (2:Int), (6:Int)] : List Int) x2 5 5 hm a0_0_h (Rd.drop 2 a0_0_R) rfl (Rd.row 0 rfl) hb1)) rfl rfl (fun x3 => ?_)
  refine r_q (q_move rfl rfl) rfl rfl ?_
  refine r_do (a_litX (vs := [(i6 (2:Int)), (i6 (3:Int)), (i6 (1:Int))]) (ii ([(2:Int), (3:Int), (1:Int)] : List Int)) un23 sz3 zr3 rfl rfl rfl rfl rfl rfl rfl rfl rfl) rfl rfl (fun x4 => ?_)
  obtain ⟨v3, v4, hb2, h⟩ := of_b2 h
  refine j_rs (.box a0_g 84 [(.slice a0_0_A a0_0_n a0_0_c), (i6 v2)] :: .row x4 3 3 1 (ii ([(2:Int), (3:Int), (1:Int)] : List Int)) :: .row x2 5 3 1 (ii ([(4:Int), (3:Int), (5:Int), (2:Int), (6:Int)] : List Int)) :: .box x1 29 [(.slice none 0 0), (.slice none 0 0), (.slice none 0 0), (.slice none 0 0), (.slice none 0 0)] :: F) (fun _ h => h.pick 4 [1, 0, 2, 3] rfl) ?_
  refine r_do (a_call ok80 rfl rfl rfl rfl (fun w hm => spec_l13Rd_num.calls K a0_g a0_0 a0_0_A a0_0_n a0_0_c v2 ([(2:Int), (3:Int), (1:Int)] : List Int) x4 3 3 hm a0_0_h (Rd.drop 3 a0_0_R) rfl (Rd.row 0 rfl) hb2)) rfl rfl (fun x5 => ?_)
  obtain ⟨v5, v6, v7, v8, v9, hb3, h⟩ := of_b5 h
  refine r_do (a_call ok84 rfl rfl rfl rfl (fun w hm => spec_NewStore.calls K v1 v3 hm hb3)) rfl rfl (fun x6 => ?_)
  refine r_q (q_move rfl rfl) rfl rfl ?_
  refine r_q (q_extract rfl rfl rfl) rfl rfl ?_
  refine r_q (q_extract rfl rfl rfl) rfl rfl ?_
  refine r_do (a_alloc zr27 rfl) rfl rfl (fun x7 => ?_)
  refine r_do (a_storeb 0 rfl sz27 rfl rfl rfl rfl (Nat.le_of_ble_eq_true rfl) rfl) rfl rfl (fun _ => ?_)
  refine j_b0 [(.slice x6.1.A x6.1.n x6.1.c), (.slice x6.2.1.A x6.2.1.n x6.2.1.c), (.slice x6.2.2.1.A x6.2.2.1.n x6.2.2.1.c), (.slice x6.2.2.2.A x6.2.2.2.n x6.2.2.2.c)] rfl ?_
  refine r_q (q_assign rfl rfl) rfl rfl ?_
  refine r_nil ?_
  refine j_then ?_
  refine j_seq ?_
  refine j_region ?_
  refine r_q (q_loadb_agg 0 rfl ag27 sz27 rfl rfl rfl rfl) rfl rfl ?_
  obtain ⟨v10, v11, v12, v13, v14, v15, hb4, h⟩ := of_b6 h
  refine r_do (a_call ok35 rfl rfl rfl rfl (fun w hm => spec_NewCounted.calls K v5 x6.1.A x6.1.n x6.1.c v6 x6.2.1.A x6.2.1.n x6.2.1.c v7 x6.2.2.1.A x6.2.2.1.n x6.2.2.1.c v8 x6.2.2.2.A x6.2.2.2.n x6.2.2.2.c hm x6.1.h (Rd.row 1 rfl) x6.2.1.h (Rd.row 2 rfl) x6.2.2.1.h (Rd.row 3 rfl) x6.2.2.2.h (Rd.row 4 rfl) (hm.roomI 4 rfl) hb4)) rfl rfl (fun x8 => ?_)
  refine r_q (q_move rfl rfl) rfl rfl ?_
  refine r_q (q_extract rfl rfl rfl) rfl rfl ?_
  refine r_q (q_extract rfl rfl rfl) rfl rfl ?_
  refine r_do (a_alloc zr29 rfl) rfl rfl (fun x9 => ?_)
  refine r_do (a_storeb 0 rfl sz29 rfl rfl rfl rfl (Nat.le_of_ble_eq_true rfl) rfl) rfl rfl (fun _ => ?_)
  refine j_b0 [(.slice x8.1.A x8.1.n x8.1.c), (.slice x8.2.1.A x8.2.1.n x8.2.1.c), (.slice x8.2.2.1.A x8.2.2.1.n x8.2.2.1.c), (.slice x8.2.2.2.1.A x8.2.2.2.1.n x8.2.2.2.1.c), (.slice x8.2.2.2.2.A x8.2.2.2.2.n x8.2.2.2.2.c)] rfl ?_
  refine r_q (q_assign rfl rfl) rfl rfl ?_
  refine r_nil ?_
  refine j_then ?_
  refine j_seq ?_
  refine j_seq ?_
  refine j_region ?_
  refine r_q (q_move rfl rfl) rfl rfl ?_
  refine r_do (a_litX (vs := [(i6 (5:Int)), (i6 (3:Int)), (i6 (8:Int)), (i6 (2:Int)), (i6 (0:Int)), (i6 (12:Int))]) (ii ([(5:Int), (3:Int), (8:Int), (2:Int), (0:Int), (12:Int)] : List Int)) un23 sz3 zr3 rfl rfl rfl rfl rfl rfl rfl rfl rfl) rfl rfl (fun x10 => ?_)
  obtain ⟨v16, v17, hb5, h⟩ := of_b2 h
  refine j_rs (.box a0_g 84 [(.slice a0_0_A a0_0_n a0_0_c), (i6 v4)] :: .row x10 6 3 1 (ii ([(5:Int), (3:Int), (8:Int), (2:Int), (0:Int), (12:Int)] : List Int)) :: .box x9 29 [(.slice x8.1.A x8.1.n x8.1.c), (.slice x8.2.1.A x8.2.1.n x8.2.1.c), (.slice x8.2.2.1.A x8.2.2.1.n x8.2.2.1.c), (.slice x8.2.2.2.1.A x8.2.2.2.1.n x8.2.2.2.1.c), (.slice x8.2.2.2.2.A x8.2.2.2.2.n x8.2.2.2.2.c)] :: .row x8.1.A x8.1.c 3 1 (ii v10) :: .row x8.2.1.A x8.2.1.c 3 1 (ii v11) :: .row x8.2.2.1.A x8.2.2.1.c 3 1 (ii v12) :: .row x8.2.2.2.1.A x8.2.2.2.1.c 3 1 (ii v13) :: .row x8.2.2.2.2.A x8.2.2.2.2.c 3 1 (ii v14) :: .box x7 27 [(.slice x6.1.A x6.1.n x6.1.c), (.slice x6.2.1.A x6.2.1.n x6.2.1.c), (.slice x6.2.2.1.A x6.2.2.1.n x6.2.2.1.c), (.slice x6.2.2.2.A x6.2.2.2.n x6.2.2.2.c)] :: .row x6.1.A x6.1.c 3 1 (ii v5) :: .row x6.2.1.A x6.2.1.c 3 1 (ii v6) :: .row x6.2.2.1.A x6.2.2.1.c 3 1 (ii v7) :: .row x6.2.2.2.A x6.2.2.2.c 3 1 (ii v8) :: .row x4 3 3 1 (ii ([(2:Int), (3:Int), (1:Int)] : List Int)) :: .row x2 5 3 1 (ii ([(4:Int), (3:Int), (5:Int), (2:Int), (6:Int)] : List Int)) :: .box x1 29 [(.slice none 0 0), (.slice none 0 0), (.slice none 0 0), (.slice none 0 0), (.slice none 0 0)] :: F) (fun _ h => h.pick 16 [12, 0, 1, 2, 3, 4, 5, 6, 7, 8, 9, 10, 11, 13, 14, 15] rfl) ?_
  refine r_do (a_call ok80 rfl rfl rfl rfl (fun w hm => spec_l13Rd_num.calls K a0_g a0_0 a0_0_A a0_0_n a0_0_c v4 ([(5:Int), (3:Int), (8:Int), (2:Int), (0:Int), (12:Int)] : List Int) x10 6 6 hm a0_0_h (Rd.drop 15 a0_0_R) rfl (Rd.row 0 rfl) hb5)) rfl rfl (fun x11 => ?_)
  refine r_q (q_assign rfl rfl) rfl rfl ?_
  refine r_nil ?_
  refine j_then ?_
  obtain ⟨κ0, h, hκ0⟩ := ex_k (g := fun κ => spec_l9Draw.loop0 K κ a0_0 v7 K v16 v17 v10 v11 v12 v13 v14 = some (r1, r2, r3, r4, r5, r6)) h
  refine j_cut (σ := (Option Addr) × Nat × Nat × (List Int) × (Option Addr) × Nat × Nat × (List Int) × (Option Addr) × Nat × Nat × (List Int) × (Option Addr) × Nat × Nat × (List Int) × (Option Addr) × Nat × Nat × (List Int) × Int) (fun s => [(2, (pt x1)), (5, (pt x9))]) (fun s => .box x1 29 [(.slice none 0 0), (.slice none 0 0), (.slice none 0 0), (.slice none 0 0), (.slice none 0 0)] :: .box x9 29 [(.slice s.1 s.2.1 s.2.2.1), (.slice s.2.2.2.2.1 s.2.2.2.2.2.1 s.2.2.2.2.2.2.1), (.slice s.2.2.2.2.2.2.2.2.1 s.2.2.2.2.2.2.2.2.2.1 s.2.2.2.2.2.2.2.2.2.2.1), (.slice s.2.2.2.2.2.2.2.2.2.2.2.2.1 s.2.2.2.2.2.2.2.2.2.2.2.2.2.1 s.2.2.2.2.2.2.2.2.2.2.2.2.2.2.1), (.slice s.2.2.2.2.2.2.2.2.2.2.2.2.2.2.2.2.1 s.2.2.2.2.2.2.2.2.2.2.2.2.2.2.2.2.2.1 s.2.2.2.2.2.2.2.2.2.2.2.2.2.2.2.2.2.2.1)] :: .box a0_g 84 [(.slice a0_0_A a0_0_n a0_0_c), (i6 s.2.2.2.2.2.2.2.2.2.2.2.2.2.2.2.2.2.2.2.2)] :: .row s.1 s.2.2.1 3 1 (ii s.2.2.2.1) :: .row s.2.2.2.2.1 s.2.2.2.2.2.2.1 3 1 (ii s.2.2.2.2.2.2.2.1) :: .row s.2.2.2.2.2.2.2.2.1 s.2.2.2.2.2.2.2.2.2.2.1 3 1 (ii s.2.2.2.2.2.2.2.2.2.2.2.1) :: .row s.2.2.2.2.2.2.2.2.2.2.2.2.1 s.2.2.2.2.2.2.2.2.2.2.2.2.2.2.1 3 1 (ii s.2.2.2.2.2.2.2.2.2.2.2.2.2.2.2.1) :: .row s.2.2.2.2.2.2.2.2.2.2.2.2.2.2.2.2.1 s.2.2.2.2.2.2.2.2.2.2.2.2.2.2.2.2.2.2.1 3 1 (ii s.2.2.2.2.2.2.2.2.2.2.2.2.2.2.2.2.2.2.2.1) :: F) (fun s => κ0 s.2.2.2.1 s.2.2.2.2.2.2.2.1 s.2.2.2.2.2.2.2.2.2.2.2.1 s.2.2.2.2.2.2.2.2.2.2.2.2.2.2.2.1 s.2.2.2.2.2.2.2.2.2.2.2.2.2.2.2.2.2.2.2.1 s.2.2.2.2.2.2.2.2.2.2.2.2.2.2.2.2.2.2.2.2 = some (r1, r2, r3, r4, r5, r6) ∧ (s.2.2.2.1.length = s.2.1) ∧ (s.2.2.2.2.2.2.2.1.length = s.2.2.2.2.2.1) ∧ (s.2.2.2.2.2.2.2.2.2.2.2.1.length = s.2.2.2.2.2.2.2.2.2.1) ∧ (s.2.2.2.2.2.2.2.2.2.2.2.2.2.2.2.1.length = s.2.2.2.2.2.2.2.2.2.2.2.2.2.1) ∧ (s.2.2.2.2.2.2.2.2.2.2.2.2.2.2.2.2.2.2.2.1.length = s.2.2.2.2.2.2.2.2.2.2.2.2.2.2.2.2.2.1)) ?_ ?_
  · refine j_block ?_
    refine j_loop (σ := Int × Int × (Option Addr) × Nat × Nat × (List Int) × (Option Addr) × Nat × Nat × (List Int) × (Option Addr) × Nat × Nat × (List Int) × (Option Addr) × Nat × Nat × (List Int) × (Option Addr) × Nat × Nat × (List Int)) (fun s => [(0, (pt a0_g)), (2, (pt x1)), (3, (pt x7)), (5, (pt x9)), (7, (i6 s.1))]) (fun s => .box a0_g 84 [(.slice a0_0_A a0_0_n a0_0_c), (i6 s.2.1)] :: .box x1 29 [(.slice none 0 0), (.slice none 0 0), (.slice none 0 0), (.slice none 0 0), (.slice none 0 0)] :: .box x7 27 [(.slice x6.1.A x6.1.n x6.1.c), (.slice x6.2.1.A x6.2.1.n x6.2.1.c), (.slice x6.2.2.1.A x6.2.2.1.n x6.2.2.1.c), (.slice x6.2.2.2.A x6.2.2.2.n x6.2.2.2.c)] :: .box x9 29 [(.slice s.2.2.1 s.2.2.2.1 s.2.2.2.2.1), (.slice s.2.2.2.2.2.2.1 s.2.2.2.2.2.2.2.1 s.2.2.2.2.2.2.2.2.1), (.slice s.2.2.2.2.2.2.2.2.2.2.1 s.2.2.2.2.2.2.2.2.2.2.2.1 s.2.2.2.2.2.2.2.2.2.2.2.2.1), (.slice s.2.2.2.2.2.2.2.2.2.2.2.2.2.2.1 s.2.2.2.2.2.2.2.2.2.2.2.2.2.2.2.1 s.2.2.2.2.2.2.2.2.2.2.2.2.2.2.2.2.1), (.slice s.2.2.2.2.2.2.2.2.2.2.2.2.2.2.2.2.2.2.1 s.2.2.2.2.2.2.2.2.2.2.2.2.2.2.2.2.2.2.2.1 s.2.2.2.2.2.2.2.2.2.2.2.2.2.2.2.2.2.2.2.2.1)] :: .row x6.1.A x6.1.c 3 1 (ii v5) :: .row x6.2.1.A x6.2.1.c 3 1 (ii v6) :: .row x6.2.2.1.A x6.2.2.1.c 3 1 (ii v7) :: .row x6.2.2.2.A x6.2.2.2.c 3 1 (ii v8) :: .row s.2.2.1 s.2.2.2.2.1 3 1 (ii s.2.2.2.2.2.1) :: .row s.2.2.2.2.2.2.1 s.2.2.2.2.2.2.2.2.1 3 1 (ii s.2.2.2.2.2.2.2.2.2.1) :: .row s.2.2.2.2.2.2.2.2.2.2.1 s.2.2.2.2.2.2.2.2.2.2.2.2.1 3 1 (ii s.2.2.2.2.2.2.2.2.2.2.2.2.2.1) :: .row s.2.2.2.2.2.2.2.2.2.2.2.2.2.2.1 s.2.2.2.2.2.2.2.2.2.2.2.2.2.2.2.2.1 3 1 (ii s.2.2.2.2.2.2.2.2.2.2.2.2.2.2.2.2.2.1) :: .row s.2.2.2.2.2.2.2.2.2.2.2.2.2.2.2.2.2.2.1 s.2.2.2.2.2.2.2.2.2.2.2.2.2.2.2.2.2.2.2.2.1 3 1 (ii s.2.2.2.2.2.2.2.2.2.2.2.2.2.2.2.2.2.2.2.2.2) :: F) (fun m s => spec_l9Draw.loop0 K κ0 a0_0 v7 m s.1 s.2.1 s.2.2.2.2.2.1 s.2.2.2.2.2.2.2.2.2.1 s.2.2.2.2.2.2.2.2.2.2.2.2.2.1 s.2.2.2.2.2.2.2.2.2.2.2.2.2.2.2.2.2.1 s.2.2.2.2.2.2.2.2.2.2.2.2.2.2.2.2.2.2.2.2.2 = some (r1, r2, r3, r4, r5, r6) ∧ (s.2.2.2.2.2.1.length = s.2.2.2.1) ∧ (s.2.2.2.2.2.2.2.2.2.1.length = s.2.2.2.2.2.2.2.1) ∧ (s.2.2.2.2.2.2.2.2.2.2.2.2.2.1.length = s.2.2.2.2.2.2.2.2.2.2.2.1) ∧ (s.2.2.2.2.2.2.2.2.2.2.2.2.2.2.2.2.2.1.length = s.2.2.2.2.2.2.2.2.2.2.2.2.2.2.2.1) ∧ (s.2.2.2.2.2.2.2.2.2.2.2.2.2.2.2.2.2.2.2.2.2.length = s.2.2.2.2.2.2.2.2.2.2.2.2.2.2.2.2.2.2.2.1)) K (v16, v17, x8.1.A, x8.1.n, x8.1.c, v10, x8.2.1.A, x8.2.1.n, x8.2.1.c, v11, x8.2.2.1.A, x8.2.2.1.n, x8.2.2.1.c, v12, x8.2.2.2.1.A, x8.2.2.2.1.n, x8.2.2.2.1.c, v13, x8.2.2.2.2.A, x8.2.2.2.2.n, x8.2.2.2.2.c, v14) ⟨h, x8.1.h, x8.2.1.h, x8.2.2.1.h, x8.2.2.2.1.h, x8.2.2.2.2.h⟩ (fun a he => he.sub ⟨rfl, rfl, rfl, rfl, rfl, trivial⟩) (fun w h => h.pick 16 [0, 15, 8, 2, 9, 10, 11, 12, 3, 4, 5, 6, 7] rfl) ?_
    rintro m ⟨p3, p4, A6, n6, d6, l6, A7, n7, d7, l7, A8, n8, d8, l8, A9, n9, d9, l9, A10, n10, d10, l10⟩ ⟨h, q6, q7, q8, q9, q10⟩
    cases m with
    | zero => exact absurd h (by rw [spec_l9Draw.loop0]; exact nofun)
    | succ m =>
      rw [spec_l9Draw.loop0] at h
      show J _ _ [(0, (pt a0_g)), (2, (pt x1)), (3, (pt x7)), (5, (pt x9)), (7, (i6 p3))] _ (.box a0_g 84 [(.slice a0_0_A a0_0_n a0_0_c), (i6 p4)] :: .box x1 29 [(.slice none 0 0), (.slice none 0 0), (.slice none 0 0), (.slice none 0 0), (.slice none 0 0)] :: .box x7 27 [(.slice x6.1.A x6.1.n x6.1.c), (.slice x6.2.1.A x6.2.1.n x6.2.1.c), (.slice x6.2.2.1.A x6.2.2.1.n x6.2.2.1.c), (.slice x6.2.2.2.A x6.2.2.2.n x6.2.2.2.c)] :: .box x9 29 [(.slice A6 n6 d6), (.slice A7 n7 d7), (.slice A8 n8 d8), (.slice A9 n9 d9), (.slice A10 n10 d10)] :: .row x6.1.A x6.1.c 3 1 (ii v5) :: .row x6.2.1.A x6.2.1.c 3 1 (ii v6) :: .row x6.2.2.1.A x6.2.2.1.c 3 1 (ii v7) :: .row x6.2.2.2.A x6.2.2.2.c 3 1 (ii v8) :: .row A6 d6 3 1 (ii l6) :: .row A7 d7 3 1 (ii l7) :: .row A8 d8 3 1 (ii l8) :: .row A9 d9 3 1 (ii l9) :: .row A10 d10 3 1 (ii l10) :: F)
      refine j_seq ?_
      refine j_seq ?_
      refine j_region ?_
      refine r_q (q_move rfl rfl) rfl rfl ?_
      refine r_q (q_gtr rfl rfl rfl) rfl rfl ?_
      refine r_nil ?_
      refine j_then ?_
      rcases of_if h with ⟨c19, h⟩ | ⟨c19, h⟩
      · refine j_true rfl (decide_eq_true c19) ?_
        refine j_skip ?_
        refine j_then ?_
        refine j_seq ?_
        refine j_block ?_
        refine j_seq ?_
        refine j_region ?_
        refine r_q (q_move rfl rfl) rfl rfl ?_
        refine r_q (q_fieldAddr fi27_0 sz25 rfl rfl rfl) rfl rfl ?_
        refine r_q (q_fieldAddr fi25_2 sz23 rfl rfl rfl) rfl rfl ?_
        refine r_q (q_loadb 2 rfl ag23 rfl rfl rfl) rfl rfl ?_
        refine r_q (q_lenX v7 x6.2.2.1.h un23 rfl rfl rfl rfl rfl) rfl rfl ?_
        obtain ⟨v90, v91, hb24, h⟩ := of_b2 h
        refine r_do (a_call ok82 rfl rfl rfl rfl (fun w hm => spec_l13Rd_pick.calls K a0_g a0_0 a0_0_A a0_0_n a0_0_c p4 (v7.length : Int) hm a0_0_h (Rd.drop 12 a0_0_R) hb24)) rfl rfl (fun x12 => ?_)
        refine r_q (q_assign rfl rfl) rfl rfl ?_
        refine r_nil ?_
        refine j_then ?_
        refine j_seq ?_
        refine j_region ?_
        refine r_q (q_move rfl rfl) rfl rfl ?_
        refine r_q (q_fieldAddr fi27_0 sz25 rfl rfl rfl) rfl rfl ?_
        refine r_q (q_fieldAddr fi25_2 sz23 rfl rfl rfl) rfl rfl ?_
        refine r_q (q_loadb 2 rfl ag23 rfl rfl rfl) rfl rfl ?_
        refine r_q (q_lenX v7 x6.2.2.1.h un23 rfl rfl rfl rfl rfl) rfl rfl ?_
        obtain ⟨v92, v93, hb25, h⟩ := of_b2 h
        refine r_do (a_call ok82 rfl rfl rfl rfl (fun w hm => spec_l13Rd_pick.calls K a0_g a0_0 a0_0_A a0_0_n a0_0_c v91 (v7.length : Int) hm a0_0_h (Rd.drop 12 a0_0_R) hb25)) rfl rfl (fun x13 => ?_)
        refine r_q (q_assign rfl rfl) rfl rfl ?_
        refine r_nil ?_
        refine j_then ?_
        refine j_seq ?_
        refine j_region ?_
        refine r_q (q_loadb_agg 3 rfl ag29 sz29 rfl rfl rfl rfl) rfl rfl ?_
        refine r_q (q_move rfl rfl) rfl rfl ?_
        obtain ⟨v94, v95, v96, v97, v98, v99, hb26, h⟩ := of_b6 h
        refine r_do (a_call ok26 rfl rfl rfl rfl (fun w hm => spec_TakeCounted.calls K l6 A6 n6 d6 l7 A7 n7 d7 l8 A8 n8 d8 l9 A9 n9 d9 l10 A10 n10 d10 v90 hm q6 (Rd.row 8 rfl) q7 (Rd.row 9 rfl) q8 (Rd.row 10 rfl) q9 (Rd.row 11 rfl) (hm.roomI 11 rfl) q10 (Rd.row 12 rfl) hb26)) rfl rfl (fun x14 => ?_)
        refine r_q (q_move rfl rfl) rfl rfl ?_
        refine r_q (q_extract rfl rfl rfl) rfl rfl ?_
        refine r_q (q_extract rfl rfl rfl) rfl rfl ?_
        refine r_do (a_alloc zr29 rfl) rfl rfl (fun x15 => ?_)
        refine r_do (a_storeb 0 rfl sz29 rfl rfl rfl rfl (Nat.le_of_ble_eq_true rfl) rfl) rfl rfl (fun _ => ?_)
        refine j_b0 [(.slice x14.1.A x14.1.n x14.1.c), (.slice x14.2.1.A x14.2.1.n x14.2.1.c), (.slice x14.2.2.1.A x14.2.2.1.n x14.2.2.1.c), (.slice x14.2.2.2.1.A x14.2.2.2.1.n x14.2.2.2.1.c), (.slice x14.2.2.2.2.A x14.2.2.2.2.n x14.2.2.2.2.c)] rfl ?_
        refine r_q (q_assign rfl rfl) rfl rfl ?_
        refine r_nil ?_
        refine j_then ?_
        refine j_seq ?_
        refine j_seq ?_
        refine j_region ?_
        refine r_q (q_move rfl rfl) rfl rfl ?_
        obtain ⟨v100, v101, hb27, h⟩ := of_b2 h
        refine j_rs (.box a0_g 84 [(.slice a0_0_A a0_0_n a0_0_c), (i6 v93)] :: .box x15 29 [(.slice x14.1.A x14.1.n x14.1.c), (.slice x14.2.1.A x14.2.1.n x14.2.1.c), (.slice x14.2.2.1.A x14.2.2.1.n x14.2.2.1.c), (.slice x14.2.2.2.1.A x14.2.2.2.1.n x14.2.2.2.1.c), (.slice x14.2.2.2.2.A x14.2.2.2.2.n x14.2.2.2.2.c)] :: .row x14.1.A x14.1.c 3 1 (ii v94) :: .row x14.2.1.A x14.2.1.c 3 1 (ii v95) :: .row x14.2.2.1.A x14.2.2.1.c 3 1 (ii v96) :: .row x14.2.2.2.1.A x14.2.2.2.1.c 3 1 (ii v97) :: .row x14.2.2.2.2.A x14.2.2.2.2.c 3 1 (ii v98) :: .box x1 29 [(.slice none 0 0), (.slice none 0 0), (.slice none 0 0), (.slice none 0 0), (.slice none 0 0)] :: .box x7 27 [(.slice x6.1.A x6.1.n x6.1.c), (.slice x6.2.1.A x6.2.1.n x6.2.1.c), (.slice x6.2.2.1.A x6.2.2.1.n x6.2.2.1.c), (.slice x6.2.2.2.A x6.2.2.2.n x6.2.2.2.c)] :: .box x9 29 [(.slice A6 n6 d6), (.slice A7 n7 d7), (.slice A8 n8 d8), (.slice A9 n9 d9), (.slice A10 n10 d10)] :: .row x6.1.A x6.1.c 3 1 (ii v5) :: .row x6.2.1.A x6.2.1.c 3 1 (ii v6) :: .row x6.2.2.1.A x6.2.2.1.c 3 1 (ii v7) :: .row x6.2.2.2.A x6.2.2.2.c 3 1 (ii v8) :: .row A6 d6 3 1 (ii l6) :: .row A7 d7 3 1 (ii l7) :: .row A8 d8 3 1 (ii l8) :: .row A9 d9 3 1 (ii l9) :: .row A10 d10 3 1 (ii l10) :: F) (fun _ h => h.pick 19 [6, 0, 1, 2, 3, 4, 5, 7, 8, 9, 10, 11, 12, 13, 14, 15, 16, 17, 18] rfl) ?_
        refine r_do (a_call ok82 rfl rfl rfl rfl (fun w hm => spec_l13Rd_pick.calls K a0_g a0_0 a0_0_A a0_0_n a0_0_c v93 (4:Int) hm a0_0_h (Rd.drop 18 a0_0_R) hb27)) rfl rfl (fun x16 => ?_)
        refine r_nil ?_
        refine j_then ?_
        refine j_block ?_
        refine j_seq ?_
        refine j_region ?_
        refine r_q (q_eql rfl rfl rfl) rfl rfl ?_
        refine r_q (q_assign rfl rfl) rfl rfl ?_
        refine r_nil ?_
        refine j_then ?_
        rcases of_if h with ⟨c20, h⟩ | ⟨c20, h⟩
        · refine j_true rfl (beq_t c20) ?_
          refine j_region ?_
          refine r_q (q_loadb_agg 9 rfl ag29 sz29 rfl rfl rfl rfl) rfl rfl ?_
          refine r_q (q_move rfl rfl) rfl rfl ?_
          obtain ⟨v102, v103, v104, v105, v106, v107, hb28, h⟩ := of_b6 h
          refine r_do (a_call ok17 rfl rfl rfl rfl (fun w hm => spec_DropRoot.calls K l6 A6 n6 d6 l7 A7 n7 d7 l8 A8 n8 d8 l9 A9 n9 d9 l10 A10 n10 d10 v90 hm q6 (Rd.row 14 rfl) q7 (Rd.row 15 rfl) q8 (Rd.row 16 rfl) q9 (Rd.row 17 rfl) (hm.roomI 17 rfl) q10 (Rd.row 18 rfl) hb28)) rfl rfl (fun x17 => ?_)
          refine r_q (q_move rfl rfl) rfl rfl ?_
          refine r_q (q_extract rfl rfl rfl) rfl rfl ?_
          refine r_q (q_extract rfl rfl rfl) rfl rfl ?_
          refine r_do (a_storeb 6 rfl sz29 rfl rfl rfl rfl (Nat.le_of_ble_eq_true rfl) rfl) rfl rfl (fun _ => ?_)
          refine j_b6 [(.slice x17.1.A x17.1.n x17.1.c), (.slice x17.2.1.A x17.2.1.n x17.2.1.c), (.slice x17.2.2.1.A x17.2.2.1.n x17.2.2.1.c), (.slice x17.2.2.2.1.A x17.2.2.2.1.n x17.2.2.2.1.c), (.slice x17.2.2.2.2.A x17.2.2.2.2.n x17.2.2.2.2.c)] rfl ?_
          refine r_q (q_assign rfl rfl) rfl rfl ?_
          refine r_nil ?_
          refine j_in ?_
          refine j_then ?_
          refine j_seq ?_
          refine j_region ?_
          refine r_q (q_move rfl rfl) rfl rfl ?_
          refine r_nil ?_
          refine j_then ?_
          rcases of_if h with ⟨c21, h⟩ | ⟨c21, h⟩
          · refine j_true rfl c21 ?_
            refine j_region ?_
            refine r_q (q_loadb_agg 6 rfl ag29 sz29 rfl rfl rfl rfl) rfl rfl ?_
            refine r_do (a_storeb 14 rfl sz29 rfl rfl rfl rfl (Nat.le_of_ble_eq_true rfl) rfl) rfl rfl (fun _ => ?_)
            refine j_b14 [(.slice x17.1.A x17.1.n x17.1.c), (.slice x17.2.1.A x17.2.1.n x17.2.1.c), (.slice x17.2.2.1.A x17.2.2.1.n x17.2.2.1.c), (.slice x17.2.2.2.1.A x17.2.2.2.1.n x17.2.2.2.1.c), (.slice x17.2.2.2.2.A x17.2.2.2.2.n x17.2.2.2.2.c)] rfl ?_
            refine r_nil ?_
            refine j_in ?_
            refine j_then ?_
            refine j_region ?_
            refine r_q (q_move rfl rfl) rfl rfl ?_
            refine r_q (q_sub rfl rfl rfl) rfl rfl ?_
            refine r_q (q_assign rfl rfl) rfl rfl ?_
            refine r_nil ?_
            refine j_then ?_
            exact j_again m ((wrap64 (p3 - (1:Int))), v101, x17.1.A, x17.1.n, x17.1.c, v102, x17.2.1.A, x17.2.1.n, x17.2.1.c, v103, x17.2.2.1.A, x17.2.2.1.n, x17.2.2.1.c, v104, x17.2.2.2.1.A, x17.2.2.2.1.n, x17.2.2.2.1.c, v105, x17.2.2.2.2.A, x17.2.2.2.2.n, x17.2.2.2.2.c, v106) (Nat.lt_succ_self m) ⟨h, x17.1.h, x17.2.1.h, x17.2.2.1.h, x17.2.2.2.1.h, x17.2.2.2.2.h⟩ (fun a he => he.sub ⟨rfl, rfl, rfl, rfl, rfl, trivial⟩) (fun w h => h.pick 24 [5, 12, 13, 14, 15, 16, 17, 18, 0, 1, 2, 3, 4] rfl)
          · refine j_false rfl (var_f c21) ?_
            refine j_skip ?_
            refine j_in ?_
            refine j_then ?_
            refine j_region ?_
            refine r_q (q_move rfl rfl) rfl rfl ?_
            refine r_q (q_sub rfl rfl rfl) rfl rfl ?_
            refine r_q (q_assign rfl rfl) rfl rfl ?_
            refine r_nil ?_
            refine j_then ?_
            exact j_again m ((wrap64 (p3 - (1:Int))), v101, A6, n6, d6, l6, A7, n7, d7, l7, A8, n8, d8, l8, A9, n9, d9, l9, A10, n10, d10, l10) (Nat.lt_succ_self m) ⟨h, q6, q7, q8, q9, q10⟩ (fun a he => he.sub ⟨rfl, rfl, rfl, rfl, rfl, trivial⟩) (fun w h => h.pick 24 [5, 12, 13, 14, 15, 16, 17, 18, 19, 20, 21, 22, 23] rfl)
        · refine j_false rfl (beq_f c20) ?_
          refine j_seq ?_
          refine j_region ?_
          refine r_q (q_eql rfl rfl rfl) rfl rfl ?_
          refine r_q (q_assign rfl rfl) rfl rfl ?_
          refine r_nil ?_
          refine j_then ?_
          rcases of_if h with ⟨c22, h⟩ | ⟨c22, h⟩
          · refine j_true rfl (beq_t c22) ?_
            refine j_region ?_
            refine r_q (q_loadb_agg 9 rfl ag29 sz29 rfl rfl rfl rfl) rfl rfl ?_
            refine r_q (q_move rfl rfl) rfl rfl ?_
            refine r_q (q_move rfl rfl) rfl rfl ?_
            obtain ⟨v108, v109, v110, v111, v112, v113, hb29, h⟩ := of_b6 h
            refine r_do (a_call ok21 rfl rfl rfl rfl (fun w hm => spec_LinkCounted.calls K l6 A6 n6 d6 l7 A7 n7 d7 l8 A8 n8 d8 l9 A9 n9 d9 l10 A10 n10 d10 v90 v92 hm q6 (Rd.row 14 rfl) q7 (Rd.row 15 rfl) q8 (Rd.row 16 rfl) q9 (Rd.row 17 rfl) (hm.roomI 17 rfl) q10 (Rd.row 18 rfl) hb29)) rfl rfl (fun x18 => ?_)
            refine r_q (q_move rfl rfl) rfl rfl ?_
            refine r_q (q_extract rfl rfl rfl) rfl rfl ?_
            refine r_q (q_extract rfl rfl rfl) rfl rfl ?_
            refine r_do (a_storeb 6 rfl sz29 rfl rfl rfl rfl (Nat.le_of_ble_eq_true rfl) rfl) rfl rfl (fun _ => ?_)
            refine j_b6 [(.slice x18.1.A x18.1.n x18.1.c), (.slice x18.2.1.A x18.2.1.n x18.2.1.c), (.slice x18.2.2.1.A x18.2.2.1.n x18.2.2.1.c), (.slice x18.2.2.2.1.A x18.2.2.2.1.n x18.2.2.2.1.c), (.slice x18.2.2.2.2.A x18.2.2.2.2.n x18.2.2.2.2.c)] rfl ?_
            refine r_q (q_assign rfl rfl) rfl rfl ?_
            refine r_nil ?_
            refine j_in ?_
            refine j_then ?_
            refine j_seq ?_
            refine j_region ?_
            refine r_q (q_move rfl rfl) rfl rfl ?_
            refine r_nil ?_
            refine j_then ?_
            rcases of_if h with ⟨c23, h⟩ | ⟨c23, h⟩
            · refine j_true rfl c23 ?_
              refine j_region ?_
              refine r_q (q_loadb_agg 6 rfl ag29 sz29 rfl rfl rfl rfl) rfl rfl ?_
              refine r_do (a_storeb 14 rfl sz29 rfl rfl rfl rfl (Nat.le_of_ble_eq_true rfl) rfl) rfl rfl (fun _ => ?_)
              refine j_b14 [(.slice x18.1.A x18.1.n x18.1.c), (.slice x18.2.1.A x18.2.1.n x18.2.1.c), (.slice x18.2.2.1.A x18.2.2.1.n x18.2.2.1.c), (.slice x18.2.2.2.1.A x18.2.2.2.1.n x18.2.2.2.1.c), (.slice x18.2.2.2.2.A x18.2.2.2.2.n x18.2.2.2.2.c)] rfl ?_
              refine r_nil ?_
              refine j_in ?_
              refine j_then ?_
              refine j_region ?_
              refine r_q (q_move rfl rfl) rfl rfl ?_
              refine r_q (q_sub rfl rfl rfl) rfl rfl ?_
              refine r_q (q_assign rfl rfl) rfl rfl ?_
              refine r_nil ?_
              refine j_then ?_
              exact j_again m ((wrap64 (p3 - (1:Int))), v101, x18.1.A, x18.1.n, x18.1.c, v108, x18.2.1.A, x18.2.1.n, x18.2.1.c, v109, x18.2.2.1.A, x18.2.2.1.n, x18.2.2.1.c, v110, x18.2.2.2.1.A, x18.2.2.2.1.n, x18.2.2.2.1.c, v111, x18.2.2.2.2.A, x18.2.2.2.2.n, x18.2.2.2.2.c, v112) (Nat.lt_succ_self m) ⟨h, x18.1.h, x18.2.1.h, x18.2.2.1.h, x18.2.2.2.1.h, x18.2.2.2.2.h⟩ (fun a he => he.sub ⟨rfl, rfl, rfl, rfl, rfl, trivial⟩) (fun w h => h.pick 24 [5, 12, 13, 14, 15, 16, 17, 18, 0, 1, 2, 3, 4] rfl)
            · refine j_false rfl (var_f c23) ?_
              refine j_skip ?_
              refine j_in ?_
              refine j_then ?_
              refine j_region ?_
              refine r_q (q_move rfl rfl) rfl rfl ?_
              refine r_q (q_sub rfl rfl rfl) rfl rfl ?_
              refine r_q (q_assign rfl rfl) rfl rfl ?_
              refine r_nil ?_
              refine j_then ?_
              exact j_again m ((wrap64 (p3 - (1:Int))), v101, A6, n6, d6, l6, A7, n7, d7, l7, A8, n8, d8, l8, A9, n9, d9, l9, A10, n10, d10, l10) (Nat.lt_succ_self m) ⟨h, q6, q7, q8, q9, q10⟩ (fun a he => he.sub ⟨rfl, rfl, rfl, rfl, rfl, trivial⟩) (fun w h => h.pick 24 [5, 12, 13, 14, 15, 16, 17, 18, 19, 20, 21, 22, 23] rfl)
          · refine j_false rfl (beq_f c22) ?_
            refine j_skip ?_
            refine j_in ?_
            refine j_then ?_
            refine j_seq ?_
            refine j_region ?_
            refine r_q (q_move rfl rfl) rfl rfl ?_
            refine r_nil ?_
            refine j_then ?_
            rcases of_if h with ⟨c24, h⟩ | ⟨c24, h⟩
            · refine j_true rfl c24 ?_
              refine j_region ?_
              refine r_q (q_loadb_agg 1 rfl ag29 sz29 rfl rfl rfl rfl) rfl rfl ?_
              refine r_do (a_storeb 9 rfl sz29 rfl rfl rfl rfl (Nat.le_of_ble_eq_true rfl) rfl) rfl rfl (fun _ => ?_)
              refine j_b9 [(.slice x14.1.A x14.1.n x14.1.c), (.slice x14.2.1.A x14.2.1.n x14.2.1.c), (.slice x14.2.2.1.A x14.2.2.1.n x14.2.2.1.c), (.slice x14.2.2.2.1.A x14.2.2.2.1.n x14.2.2.2.1.c), (.slice x14.2.2.2.2.A x14.2.2.2.2.n x14.2.2.2.2.c)] rfl ?_
              refine r_nil ?_
              refine j_in ?_
              refine j_then ?_
              refine j_region ?_
              refine r_q (q_move rfl rfl) rfl rfl ?_
              refine r_q (q_sub rfl rfl rfl) rfl rfl ?_
              refine r_q (q_assign rfl rfl) rfl rfl ?_
              refine r_nil ?_
              refine j_then ?_
              exact j_again m ((wrap64 (p3 - (1:Int))), v101, x14.1.A, x14.1.n, x14.1.c, v94, x14.2.1.A, x14.2.1.n, x14.2.1.c, v95, x14.2.2.1.A, x14.2.2.1.n, x14.2.2.1.c, v96, x14.2.2.2.1.A, x14.2.2.2.1.n, x14.2.2.2.1.c, v97, x14.2.2.2.2.A, x14.2.2.2.2.n, x14.2.2.2.2.c, v98) (Nat.lt_succ_self m) ⟨h, x14.1.h, x14.2.1.h, x14.2.2.1.h, x14.2.2.2.1.h, x14.2.2.2.2.h⟩ (fun a he => he.sub ⟨rfl, rfl, rfl, rfl, rfl, trivial⟩) (fun w h => h.pick 19 [0, 7, 8, 9, 10, 11, 12, 13, 2, 3, 4, 5, 6] rfl)
            · refine j_false rfl (var_f c24) ?_
              refine j_skip ?_
              refine j_in ?_
              refine j_then ?_
              refine j_region ?_
              refine r_q (q_move rfl rfl) rfl rfl ?_
              refine r_q (q_sub rfl rfl rfl) rfl rfl ?_
              refine r_q (q_assign rfl rfl) rfl rfl ?_
              refine r_nil ?_
              refine j_then ?_
              exact j_again m ((wrap64 (p3 - (1:Int))), v101, A6, n6, d6, l6, A7, n7, d7, l7, A8, n8, d8, l8, A9, n9, d9, l9, A10, n10, d10, l10) (Nat.lt_succ_self m) ⟨h, q6, q7, q8, q9, q10⟩ (fun a he => he.sub ⟨rfl, rfl, rfl, rfl, rfl, trivial⟩) (fun w h => h.pick 19 [0, 7, 8, 9, 10, 11, 12, 13, 14, 15, 16, 17, 18] rfl)
      · refine j_false rfl (decide_eq_false c19) ?_
        refine j_exit ?_
        refine j_then_exit ?_
        refine j_then_exit ?_
        refine j_in_exit ?_
        refine j_then ?_
        exact j_meet (A6, n6, d6, l6, A7, n7, d7, l7, A8, n8, d8, l8, A9, n9, d9, l9, A10, n10, d10, l10, p4) ⟨h, q6, q7, q8, q9, q10⟩ (fun a he => he.sub ⟨rfl, rfl, trivial⟩) (fun w h => h.pick 13 [1, 3, 0, 8, 9, 10, 11, 12] rfl)
  · rintro ⟨A11, n11, d11, l11, A12, n12, d12, l12, A13, n13, d13, l13, A14, n14, d14, l14, A15, n15, d15, l15, p5⟩ ⟨h, q11, q12, q13, q14, q15⟩
    subst hκ0
    show J _ _ [(2, (pt x1)), (5, (pt x9))] _ (.box x1 29 [(.slice none 0 0), (.slice none 0 0), (.slice none 0 0), (.slice none 0 0), (.slice none 0 0)] :: .box x9 29 [(.slice A11 n11 d11), (.slice A12 n12 d12), (.slice A13 n13 d13), (.slice A14 n14 d14), (.slice A15 n15 d15)] :: .box a0_g 84 [(.slice a0_0_A a0_0_n a0_0_c), (i6 p5)] :: .row A11 d11 3 1 (ii l11) :: .row A12 d12 3 1 (ii l12) :: .row A13 d13 3 1 (ii l13) :: .row A14 d14 3 1 (ii l14) :: .row A15 d15 3 1 (ii l15) :: F)
    refine j_then ?_
    refine j_seq ?_
    refine j_region ?_
    refine r_q (q_loadb_agg 1 rfl ag29 sz29 rfl rfl rfl rfl) rfl rfl ?_
    refine r_do (a_storeb 0 rfl sz29 rfl rfl rfl rfl (Nat.le_of_ble_eq_true rfl) rfl) rfl rfl (fun _ => ?_)
    refine j_b0 [(.slice A11 n11 d11), (.slice A12 n12 d12), (.slice A13 n13 d13), (.slice A14 n14 d14), (.slice A15 n15 d15)] rfl ?_
    refine r_nil ?_
    refine j_then ?_
    refine j_ret ?_
    cases h
    exact j_return rfl (ResOf.cell 0 rfl rfl ag29 sz29 ResOf.nil) rfl (fun w h => ⟨(⟨A11, n11, d11, q11⟩, ⟨A12, n12, d12, q12⟩, ⟨A13, n13, d13, q13⟩, ⟨A14, n14, d14, q14⟩, ⟨A15, n15, d15, q15⟩), rfl, h.pick 8 [3, 4, 5, 6, 7, 2] rfl⟩)

theorem spec_l9Wrong.calls (K : Nat) (a0_g : Nat) (a0_0 : List Int) (a0_0_A : Option Addr) (a0_0_n a0_0_c : Nat) (a0_1 : Int) (a1_0 : List Int) (a1_0_A : Option Addr) (a1_0_n a1_0_c : Nat) (a1_1 : List Int) (a1_1_A : Option Addr) (a1_1_n a1_1_c : Nat) (a1_2 : List Int) (a1_2_A : Option Addr) (a1_2_n a1_2_c : Nat) (a1_3 : List Int) (a1_3_A : Option Addr) (a1_3_n a1_3_c : Nat) (a1_4 : List Int) (a1_4_A : Option Addr) (a1_4_n a1_4_c : Nat) {w0 w : World} {F : List Res} {r1 : List Int} {r2 : List Int} {r3 : List Int} {r4 : List Int} {r5 : List Int} {r6 : Int} (hm : Mem w0 (.box a0_g 84 [.slice a0_0_A a0_0_n a0_0_c, i6 a0_1] :: F) w) (a0_0_h : a0_0.length = a0_0_n) (a0_0_R : Rd w0 F a0_0_A (ints .u8 a0_0)) (a1_0_h : a1_0.length = a1_0_n) (a1_0_R : Rd w0 F a1_0_A (ii a1_0)) (a1_1_h : a1_1.length = a1_1_n) (a1_1_R : Rd w0 F a1_1_A (ii a1_1)) (a1_2_h : a1_2.length = a1_2_n) (a1_2_R : Rd w0 F a1_2_A (ii a1_2)) (a1_3_h : a1_3.length = a1_3_n) (a1_3_R : Rd w0 F a1_3_A (ii a1_3)) (a1_4_h : a1_4.length = a1_4_n) (a1_4_R : Rd w0 F a1_4_A (ii a1_4)) (h : spec_l9Wrong.f K a0_0 a0_1 a1_0 a1_1 a1_2 a1_3 a1_4 = some (r1, r2, r3, r4, r5, r6)) :
    Calls Try.prog 58 (List.toArray [pt a0_g, .agg (List.toArray [.slice a1_0_A a1_0_n a1_0_c, .slice a1_1_A a1_1_n a1_1_c, .slice a1_2_A a1_2_n a1_2_c, .slice a1_3_A a1_3_n a1_3_c, .slice a1_4_A a1_4_n a1_4_c])]) w fun e w' => ∃ x : (Sl r1.length) × (Sl r2.length) × (Sl r3.length) × (Sl r4.length) × (Sl r5.length), e = .returned (.agg (List.toArray [.slice x.1.A x.1.n x.1.c, .slice x.2.1.A x.2.1.n x.2.1.c, .slice x.2.2.1.A x.2.2.1.n x.2.2.1.c, .slice x.2.2.2.1.A x.2.2.2.1.n x.2.2.2.1.c, .slice x.2.2.2.2.A x.2.2.2.2.n x.2.2.2.2.c])) ∧ Mem w0 (.row x.1.A x.1.c 3 1 (ii r1) :: .row x.2.1.A x.2.1.c 3 1 (ii r2) :: .row x.2.2.1.A x.2.2.1.c 3 1 (ii r3) :: .row x.2.2.2.1.A x.2.2.2.1.c 3 1 (ii r4) :: .row x.2.2.2.2.A x.2.2.2.2.c 3 1 (ii r5) :: .box a0_g 84 [.slice a0_0_A a0_0_n a0_0_c, i6 r6] :: F) w' := by
  unfold spec_l9Wrong.f at h
  refine calls_of_J (n := 33) Try.func58 rfl rfl rfl hm ?_
  refine j_seq ?_
  refine j_region ?_
  refine r_do (a_box rfl rfl) rfl rfl (fun x1 => ?_)
  refine r_do (a_alloc zr29 rfl) rfl rfl (fun x2 => ?_)
  refine r_nil ?_
  refine j_then ?_
  refine j_seq ?_
  refine j_region ?_
  refine r_q (q_loadb_agg 1 rfl ag29 sz29 rfl rfl rfl rfl) rfl rfl ?_
  obtain ⟨v1, v2, v3, v4, v5, hb1, h⟩ := of_b5 h
  refine r_do (a_call ok52 rfl rfl rfl rfl (fun w hm => spec_l9Copy.calls K a1_0 a1_0_A a1_0_n a1_0_c a1_1 a1_1_A a1_1_n a1_1_c a1_2 a1_2_A a1_2_n a1_2_c a1_3 a1_3_A a1_3_n a1_3_c a1_4 a1_4_A a1_4_n a1_4_c hm a1_0_h (Rd.drop 3 a1_0_R) a1_1_h (Rd.drop 3 a1_1_R) a1_2_h (Rd.drop 3 a1_2_R) a1_3_h (Rd.drop 3 a1_3_R) a1_4_h (Rd.drop 3 a1_4_R) hb1)) rfl rfl (fun x3 => ?_)
  refine r_do (a_alloc zr29 rfl) rfl rfl (fun x4 => ?_)
  refine r_do (a_storeb 0 rfl sz29 rfl rfl rfl rfl (Nat.le_of_ble_eq_true rfl) rfl) rfl rfl (fun _ => ?_)
  refine j_b0 [(.slice x3.1.A x3.1.n x3.1.c), (.slice x3.2.1.A x3.2.1.n x3.2.1.c), (.slice x3.2.2.1.A x3.2.2.1.n x3.2.2.1.c), (.slice x3.2.2.2.1.A x3.2.2.2.1.n x3.2.2.2.1.c), (.slice x3.2.2.2.2.A x3.2.2.2.2.n x3.2.2.2.2.c)] rfl ?_
  refine r_nil ?_
  refine j_then ?_
  refine j_seq ?_
  refine j_seq ?_
  refine j_region ?_
  refine r_q (q_move rfl rfl) rfl rfl ?_
  obtain ⟨v6, v7, hb2, h⟩ := of_b2 h
  refine j_rs (.box a0_g 84 [(.slice a0_0_A a0_0_n a0_0_c), (i6 a0_1)] :: .box x4 29 [(.slice x3.1.A x3.1.n x3.1.c), (.slice x3.2.1.A x3.2.1.n x3.2.1.c), (.slice x3.2.2.1.A x3.2.2.1.n x3.2.2.1.c), (.slice x3.2.2.2.1.A x3.2.2.2.1.n x3.2.2.2.1.c), (.slice x3.2.2.2.2.A x3.2.2.2.2.n x3.2.2.2.2.c)] :: .row x3.1.A x3.1.c 3 1 (ii v1) :: .row x3.2.1.A x3.2.1.c 3 1 (ii v2) :: .row x3.2.2.1.A x3.2.2.1.c 3 1 (ii v3) :: .row x3.2.2.2.1.A x3.2.2.2.1.c 3 1 (ii v4) :: .row x3.2.2.2.2.A x3.2.2.2.2.c 3 1 (ii v5) :: .box x2 29 [(.slice none 0 0), (.slice none 0 0), (.slice none 0 0), (.slice none 0 0), (.slice none 0 0)] :: .box x1 29 [(.slice a1_0_A a1_0_n a1_0_c), (.slice a1_1_A a1_1_n a1_1_c), (.slice a1_2_A a1_2_n a1_2_c), (.slice a1_3_A a1_3_n a1_3_c), (.slice a1_4_A a1_4_n a1_4_c)] :: F) (fun _ h => h.pick 9 [8, 0, 1, 2, 3, 4, 5, 6, 7] rfl) ?_
  refine r_do (a_call ok82 rfl rfl rfl rfl (fun w hm => spec_l13Rd_pick.calls K a0_g a0_0 a0_0_A a0_0_n a0_0_c a0_1 (20:Int) hm a0_0_h (Rd.drop 8 a0_0_R) hb2)) rfl rfl (fun x5 => ?_)
  refine r_nil ?_
  refine j_then ?_
  refine j_block ?_
  refine j_seq ?_
  refine j_region ?_
  refine r_q (q_eql rfl rfl rfl) rfl rfl ?_
  refine r_q (q_assign rfl rfl) rfl rfl ?_
  refine r_nil ?_
  refine j_then ?_
  rcases of_if h with ⟨c1, h⟩ | ⟨c1, h⟩
  · refine j_true rfl (beq_t c1) ?_
    obtain ⟨v8, v9, hb3, h⟩ := of_b2 h
    obtain ⟨v10, v11, hb4, h⟩ := of_b2 h
    obtain ⟨c2, h⟩ := of_guard h
    refine j_draw (.box x4 29 [(.slice x3.1.A x3.1.n x3.1.c), (.slice x3.2.1.A x3.2.1.n x3.2.1.c), (.slice x3.2.2.1.A x3.2.2.1.n x3.2.2.1.c), (.slice x3.2.2.2.1.A x3.2.2.2.1.n x3.2.2.2.1.c), (.slice x3.2.2.2.2.A x3.2.2.2.2.n x3.2.2.2.2.c)] :: .row x3.1.A x3.1.c 3 1 (ii v1) :: .row x3.2.1.A x3.2.1.c 3 1 (ii v2) :: .row x3.2.2.1.A x3.2.2.1.c 3 1 (ii v3) :: .row x3.2.2.2.1.A x3.2.2.2.1.c 3 1 (ii v4) :: .box x2 29 [(.slice none 0 0), (.slice none 0 0), (.slice none 0 0), (.slice none 0 0), (.slice none 0 0)] :: .box x1 29 [(.slice a1_0_A a1_0_n a1_0_c), (.slice a1_1_A a1_1_n a1_1_c), (.slice a1_2_A a1_2_n a1_2_c), (.slice a1_3_A a1_3_n a1_3_c), (.slice a1_4_A a1_4_n a1_4_c)] :: F) 12 follows_any rfl ?_
    refine d_take 0 rfl (q_fieldAddr fi29_1 sz23 rfl rfl rfl) rfl rfl (by kernel_rfl) (by kernel_rfl) (by kernel_rfl) (fun w h => h.pick 9 [1, 2, 3, 4, 5, 7, 8] rfl) ?_
    refine d_take 1 rfl (q_loadb 0 rfl ag23 rfl rfl rfl) rfl rfl (by kernel_rfl) (by kernel_rfl) (by kernel_rfl) (fun w h => h.pick 9 [1, 2, 3, 4, 5, 7, 8] rfl) ?_
    refine d_take 2 rfl (q_move rfl rfl) rfl rfl (by kernel_rfl) (by kernel_rfl) (by kernel_rfl) (fun w h => h.pick 9 [1, 2, 3, 4, 5, 7, 8] rfl) ?_
    refine d_take 3 rfl (q_fieldAddr fi29_1 sz23 rfl rfl rfl) rfl rfl (by kernel_rfl) (by kernel_rfl) (by kernel_rfl) (fun w h => h.pick 9 [1, 2, 3, 4, 5, 7, 8] rfl) ?_
    refine d_take 4 rfl (q_loadb 0 rfl ag23 rfl rfl rfl) rfl rfl (by kernel_rfl) (by kernel_rfl) (by kernel_rfl) (fun w h => h.pick 9 [1, 2, 3, 4, 5, 7, 8] rfl) ?_
    refine d_take 5 rfl (q_lenX v5 x3.2.2.2.2.h un23 rfl rfl rfl rfl rfl) rfl rfl (by kernel_rfl) (by kernel_rfl) (by kernel_rfl) (fun w h => h.pick 9 [1, 2, 3, 4, 5, 7, 8] rfl) ?_
    refine d_take 7 rfl (q_move rfl rfl) rfl rfl (by kernel_rfl) (by kernel_rfl) (by kernel_rfl) (fun w h => h.pick 9 [1, 2, 3, 4, 5, 7, 8] rfl) ?_
    refine d_join (σ := Unit × (Option Addr) × Unit) 0 #[true, true, true, true, true, true, true, true, true, true, true, true] (fun s => [(4, (pt x2)), (5, (pt x4))]) (fun s => .row s.2.1 4 3 1 (ii ([(-1:Int), (0:Int), (1:Int), (2:Int)] : List Int)) :: .box a0_g 84 [(.slice a0_0_A a0_0_n a0_0_c), (i6 v11)] :: .box x4 29 [(.slice x3.1.A x3.1.n x3.1.c), (.slice x3.2.1.A x3.2.1.n x3.2.1.c), (.slice x3.2.2.1.A x3.2.2.1.n x3.2.2.1.c), (.slice x3.2.2.2.1.A x3.2.2.2.1.n x3.2.2.2.1.c), (.slice x3.2.2.2.2.A x3.2.2.2.2.n x3.2.2.2.2.c)] :: .row x3.1.A x3.1.c 3 1 (ii v1) :: .row x3.2.1.A x3.2.1.c 3 1 (ii v2) :: .row x3.2.2.1.A x3.2.2.1.c 3 1 (ii v3) :: .row x3.2.2.2.1.A x3.2.2.2.1.c 3 1 (ii v4) :: .row x3.2.2.2.2.A x3.2.2.2.2.c 3 1 (ii (v5.set v8.toNat v10)) :: .box x2 29 [(.slice none 0 0), (.slice none 0 0), (.slice none 0 0), (.slice none 0 0), (.slice none 0 0)] :: .box x1 29 [(.slice a1_0_A a1_0_n a1_0_c), (.slice a1_1_A a1_1_n a1_1_c), (.slice a1_2_A a1_2_n a1_2_c), (.slice a1_3_A a1_3_n a1_3_c), (.slice a1_4_A a1_4_n a1_4_c)] :: F) ?_ (fun hD4095 => ?_)
    · rintro ⟨x6, x7, x8⟩
      show J _ _ [(4, (pt x2)), (5, (pt x4))] _ (.row x7 4 3 1 (ii ([(-1:Int), (0:Int), (1:Int), (2:Int)] : List Int)) :: .box a0_g 84 [(.slice a0_0_A a0_0_n a0_0_c), (i6 v11)] :: .box x4 29 [(.slice x3.1.A x3.1.n x3.1.c), (.slice x3.2.1.A x3.2.1.n x3.2.1.c), (.slice x3.2.2.1.A x3.2.2.1.n x3.2.2.1.c), (.slice x3.2.2.2.1.A x3.2.2.2.1.n x3.2.2.2.1.c), (.slice x3.2.2.2.2.A x3.2.2.2.2.n x3.2.2.2.2.c)] :: .row x3.1.A x3.1.c 3 1 (ii v1) :: .row x3.2.1.A x3.2.1.c 3 1 (ii v2) :: .row x3.2.2.1.A x3.2.2.1.c 3 1 (ii v3) :: .row x3.2.2.2.1.A x3.2.2.2.1.c 3 1 (ii v4) :: .row x3.2.2.2.2.A x3.2.2.2.2.c 3 1 (ii (v5.set v8.toNat v10)) :: .box x2 29 [(.slice none 0 0), (.slice none 0 0), (.slice none 0 0), (.slice none 0 0), (.slice none 0 0)] :: .box x1 29 [(.slice a1_0_A a1_0_n a1_0_c), (.slice a1_1_A a1_1_n a1_1_c), (.slice a1_2_A a1_2_n a1_2_c), (.slice a1_3_A a1_3_n a1_3_c), (.slice a1_4_A a1_4_n a1_4_c)] :: F)
      refine d_done (by kernel_rfl) ?_
      refine j_in ?_
      refine j_then ?_
      refine j_seq ?_
      refine j_region ?_
      refine r_q (q_loadb_agg 2 rfl ag29 sz29 rfl rfl rfl rfl) rfl rfl ?_
      refine r_do (a_storeb 8 rfl sz29 rfl rfl rfl rfl (Nat.le_of_ble_eq_true rfl) rfl) rfl rfl (fun _ => ?_)
      refine j_b8 [(.slice x3.1.A x3.1.n x3.1.c), (.slice x3.2.1.A x3.2.1.n x3.2.1.c), (.slice x3.2.2.1.A x3.2.2.1.n x3.2.2.1.c), (.slice x3.2.2.2.1.A x3.2.2.2.1.n x3.2.2.2.1.c), (.slice x3.2.2.2.2.A x3.2.2.2.2.n x3.2.2.2.2.c)] rfl ?_
      refine r_nil ?_
      refine j_then ?_
      refine j_ret ?_
      cases h
      exact j_return rfl (ResOf.cell 8 rfl rfl ag29 sz29 ResOf.nil) rfl (fun w h => ⟨(⟨x3.1.A, x3.1.n, x3.1.c, x3.1.h⟩, ⟨x3.2.1.A, x3.2.1.n, x3.2.1.c, x3.2.1.h⟩, ⟨x3.2.2.1.A, x3.2.2.1.n, x3.2.2.1.c, x3.2.2.1.h⟩, ⟨x3.2.2.2.1.A, x3.2.2.2.1.n, x3.2.2.2.1.c, x3.2.2.2.1.h⟩, ⟨x3.2.2.2.2.A, x3.2.2.2.2.n, x3.2.2.2.2.c, (set_len x3.2.2.2.2.h _ _)⟩), rfl, h.pick 10 [3, 4, 5, 6, 7, 1] rfl⟩)
    refine d_join (σ := Unit × (Option Addr) × Unit) 1 #[true, true, true, true, true, true, true, true, true, true, true, false] (fun s => [(4, (pt x2)), (5, (pt x4)), (21, (i6 v10)), (22, (.pointer (x3.2.2.2.2.A.map (·.add (v8.toNat * 1)))))]) (fun s => .row s.2.1 4 3 1 (ii ([(-1:Int), (0:Int), (1:Int), (2:Int)] : List Int)) :: .box a0_g 84 [(.slice a0_0_A a0_0_n a0_0_c), (i6 v11)] :: .box x4 29 [(.slice x3.1.A x3.1.n x3.1.c), (.slice x3.2.1.A x3.2.1.n x3.2.1.c), (.slice x3.2.2.1.A x3.2.2.1.n x3.2.2.1.c), (.slice x3.2.2.2.1.A x3.2.2.2.1.n x3.2.2.2.1.c), (.slice x3.2.2.2.2.A x3.2.2.2.2.n x3.2.2.2.2.c)] :: .row x3.1.A x3.1.c 3 1 (ii v1) :: .row x3.2.1.A x3.2.1.c 3 1 (ii v2) :: .row x3.2.2.1.A x3.2.2.1.c 3 1 (ii v3) :: .row x3.2.2.2.1.A x3.2.2.2.1.c 3 1 (ii v4) :: .row x3.2.2.2.2.A x3.2.2.2.2.c 3 1 (ii v5) :: .box x2 29 [(.slice none 0 0), (.slice none 0 0), (.slice none 0 0), (.slice none 0 0), (.slice none 0 0)] :: .box x1 29 [(.slice a1_0_A a1_0_n a1_0_c), (.slice a1_1_A a1_1_n a1_1_c), (.slice a1_2_A a1_2_n a1_2_c), (.slice a1_3_A a1_3_n a1_3_c), (.slice a1_4_A a1_4_n a1_4_c)] :: F) ?_ (fun hD2047 => ?_)
    · rintro ⟨x6, x7, x8⟩
      show J _ _ [(4, (pt x2)), (5, (pt x4)), (21, (i6 v10)), (22, (.pointer (x3.2.2.2.2.A.map (·.add (v8.toNat * 1)))))] _ (.row x7 4 3 1 (ii ([(-1:Int), (0:Int), (1:Int), (2:Int)] : List Int)) :: .box a0_g 84 [(.slice a0_0_A a0_0_n a0_0_c), (i6 v11)] :: .box x4 29 [(.slice x3.1.A x3.1.n x3.1.c), (.slice x3.2.1.A x3.2.1.n x3.2.1.c), (.slice x3.2.2.1.A x3.2.2.1.n x3.2.2.1.c), (.slice x3.2.2.2.1.A x3.2.2.2.1.n x3.2.2.2.1.c), (.slice x3.2.2.2.2.A x3.2.2.2.2.n x3.2.2.2.2.c)] :: .row x3.1.A x3.1.c 3 1 (ii v1) :: .row x3.2.1.A x3.2.1.c 3 1 (ii v2) :: .row x3.2.2.1.A x3.2.2.1.c 3 1 (ii v3) :: .row x3.2.2.2.1.A x3.2.2.2.1.c 3 1 (ii v4) :: .row x3.2.2.2.2.A x3.2.2.2.2.c 3 1 (ii v5) :: .box x2 29 [(.slice none 0 0), (.slice none 0 0), (.slice none 0 0), (.slice none 0 0), (.slice none 0 0)] :: .box x1 29 [(.slice a1_0_A a1_0_n a1_0_c), (.slice a1_1_A a1_1_n a1_1_c), (.slice a1_2_A a1_2_n a1_2_c), (.slice a1_3_A a1_3_n a1_3_c), (.slice a1_4_A a1_4_n a1_4_c)] :: F)
      refine d_one 11 (by kernel_rfl) ?_
      · refine o_do rfl (a_stI 7 rfl c2 sz3 rfl rfl rfl) rfl rfl (fun _ w h => h.pick 10 [2, 3, 4, 5, 6, 8, 9] rfl) (fun _ => ?_)
        refine j_s7 ?_
        refine j_rs (.row x7 4 3 1 (ii ([(-1:Int), (0:Int), (1:Int), (2:Int)] : List Int)) :: .box a0_g 84 [(.slice a0_0_A a0_0_n a0_0_c), (i6 v11)] :: .box x4 29 [(.slice x3.1.A x3.1.n x3.1.c), (.slice x3.2.1.A x3.2.1.n x3.2.1.c), (.slice x3.2.2.1.A x3.2.2.1.n x3.2.2.1.c), (.slice x3.2.2.2.1.A x3.2.2.2.1.n x3.2.2.2.1.c), (.slice x3.2.2.2.2.A x3.2.2.2.2.n x3.2.2.2.2.c)] :: .row x3.1.A x3.1.c 3 1 (ii v1) :: .row x3.2.1.A x3.2.1.c 3 1 (ii v2) :: .row x3.2.2.1.A x3.2.2.1.c 3 1 (ii v3) :: .row x3.2.2.2.1.A x3.2.2.2.1.c 3 1 (ii v4) :: .row x3.2.2.2.2.A x3.2.2.2.2.c 3 1 (ii (v5.set v8.toNat v10)) :: .box x2 29 [(.slice none 0 0), (.slice none 0 0), (.slice none 0 0), (.slice none 0 0), (.slice none 0 0)] :: .box x1 29 [(.slice a1_0_A a1_0_n a1_0_c), (.slice a1_1_A a1_1_n a1_1_c), (.slice a1_2_A a1_2_n a1_2_c), (.slice a1_3_A a1_3_n a1_3_c), (.slice a1_4_A a1_4_n a1_4_c)] :: F) (fun _ h => h) ?_
        refine j_env [(4, (pt x2)), (5, (pt x4))] ⟨rfl, rfl, trivial⟩ ?_
        exact hD4095 (x6, x7, x8)
    refine d_join (σ := Unit × (Option Addr) × Unit) 2 #[true, true, true, true, true, true, true, true, true, true, false, false] (fun s => [(4, (pt x2)), (5, (pt x4)), (13, (.slice x3.2.2.2.2.A x3.2.2.2.2.n x3.2.2.2.2.c)), (18, (i6 v8)), (21, (i6 v10))]) (fun s => .row s.2.1 4 3 1 (ii ([(-1:Int), (0:Int), (1:Int), (2:Int)] : List Int)) :: .box a0_g 84 [(.slice a0_0_A a0_0_n a0_0_c), (i6 v11)] :: .box x4 29 [(.slice x3.1.A x3.1.n x3.1.c), (.slice x3.2.1.A x3.2.1.n x3.2.1.c), (.slice x3.2.2.1.A x3.2.2.1.n x3.2.2.1.c), (.slice x3.2.2.2.1.A x3.2.2.2.1.n x3.2.2.2.1.c), (.slice x3.2.2.2.2.A x3.2.2.2.2.n x3.2.2.2.2.c)] :: .row x3.1.A x3.1.c 3 1 (ii v1) :: .row x3.2.1.A x3.2.1.c 3 1 (ii v2) :: .row x3.2.2.1.A x3.2.2.1.c 3 1 (ii v3) :: .row x3.2.2.2.1.A x3.2.2.2.1.c 3 1 (ii v4) :: .row x3.2.2.2.2.A x3.2.2.2.2.c 3 1 (ii v5) :: .box x2 29 [(.slice none 0 0), (.slice none 0 0), (.slice none 0 0), (.slice none 0 0), (.slice none 0 0)] :: .box x1 29 [(.slice a1_0_A a1_0_n a1_0_c), (.slice a1_1_A a1_1_n a1_1_c), (.slice a1_2_A a1_2_n a1_2_c), (.slice a1_3_A a1_3_n a1_3_c), (.slice a1_4_A a1_4_n a1_4_c)] :: F) ?_ (fun hD1023 => ?_)
    · rintro ⟨x6, x7, x8⟩
      show J _ _ [(4, (pt x2)), (5, (pt x4)), (13, (.slice x3.2.2.2.2.A x3.2.2.2.2.n x3.2.2.2.2.c)), (18, (i6 v8)), (21, (i6 v10))] _ (.row x7 4 3 1 (ii ([(-1:Int), (0:Int), (1:Int), (2:Int)] : List Int)) :: .box a0_g 84 [(.slice a0_0_A a0_0_n a0_0_c), (i6 v11)] :: .box x4 29 [(.slice x3.1.A x3.1.n x3.1.c), (.slice x3.2.1.A x3.2.1.n x3.2.1.c), (.slice x3.2.2.1.A x3.2.2.1.n x3.2.2.1.c), (.slice x3.2.2.2.1.A x3.2.2.2.1.n x3.2.2.2.1.c), (.slice x3.2.2.2.2.A x3.2.2.2.2.n x3.2.2.2.2.c)] :: .row x3.1.A x3.1.c 3 1 (ii v1) :: .row x3.2.1.A x3.2.1.c 3 1 (ii v2) :: .row x3.2.2.1.A x3.2.2.1.c 3 1 (ii v3) :: .row x3.2.2.2.1.A x3.2.2.2.1.c 3 1 (ii v4) :: .row x3.2.2.2.2.A x3.2.2.2.2.c 3 1 (ii v5) :: .box x2 29 [(.slice none 0 0), (.slice none 0 0), (.slice none 0 0), (.slice none 0 0), (.slice none 0 0)] :: .box x1 29 [(.slice a1_0_A a1_0_n a1_0_c), (.slice a1_1_A a1_1_n a1_1_c), (.slice a1_2_A a1_2_n a1_2_c), (.slice a1_3_A a1_3_n a1_3_c), (.slice a1_4_A a1_4_n a1_4_c)] :: F)
      refine d_one 10 (by kernel_rfl) ?_
      · refine o_do rfl ((q_ix (Rd.row 7 rfl) (ints_len1 _ v5) (by decide) x3.2.2.2.2.h c2 un23 sz3 rfl rfl rfl)).acts rfl rfl (fun _ w h => h.pick 10 [2, 3, 4, 5, 6, 8, 9] rfl) (fun _ => ?_)
        refine j_rs (.row x7 4 3 1 (ii ([(-1:Int), (0:Int), (1:Int), (2:Int)] : List Int)) :: .box a0_g 84 [(.slice a0_0_A a0_0_n a0_0_c), (i6 v11)] :: .box x4 29 [(.slice x3.1.A x3.1.n x3.1.c), (.slice x3.2.1.A x3.2.1.n x3.2.1.c), (.slice x3.2.2.1.A x3.2.2.1.n x3.2.2.1.c), (.slice x3.2.2.2.1.A x3.2.2.2.1.n x3.2.2.2.1.c), (.slice x3.2.2.2.2.A x3.2.2.2.2.n x3.2.2.2.2.c)] :: .row x3.1.A x3.1.c 3 1 (ii v1) :: .row x3.2.1.A x3.2.1.c 3 1 (ii v2) :: .row x3.2.2.1.A x3.2.2.1.c 3 1 (ii v3) :: .row x3.2.2.2.1.A x3.2.2.2.1.c 3 1 (ii v4) :: .row x3.2.2.2.2.A x3.2.2.2.2.c 3 1 (ii v5) :: .box x2 29 [(.slice none 0 0), (.slice none 0 0), (.slice none 0 0), (.slice none 0 0), (.slice none 0 0)] :: .box x1 29 [(.slice a1_0_A a1_0_n a1_0_c), (.slice a1_1_A a1_1_n a1_1_c), (.slice a1_2_A a1_2_n a1_2_c), (.slice a1_3_A a1_3_n a1_3_c), (.slice a1_4_A a1_4_n a1_4_c)] :: F) (fun _ h => h) ?_
        refine j_env [(4, (pt x2)), (5, (pt x4)), (21, (i6 v10)), (22, (.pointer (x3.2.2.2.2.A.map (·.add (v8.toNat * 1)))))] ⟨rfl, rfl, rfl, rfl, trivial⟩ ?_
        exact hD2047 (x6, x7, x8)
    refine d_join (σ := Unit × (Option Addr)) 3 #[true, true, true, true, true, true, true, true, true, false, false, false] (fun s => [(4, (pt x2)), (5, (pt x4)), (13, (.slice x3.2.2.2.2.A x3.2.2.2.2.n x3.2.2.2.2.c)), (18, (i6 v8)), (19, (pt a0_g)), (20, (.slice s.2 4 4))]) (fun s => .row s.2 4 3 1 (ii ([(-1:Int), (0:Int), (1:Int), (2:Int)] : List Int)) :: .box a0_g 84 [(.slice a0_0_A a0_0_n a0_0_c), (i6 v9)] :: .box x4 29 [(.slice x3.1.A x3.1.n x3.1.c), (.slice x3.2.1.A x3.2.1.n x3.2.1.c), (.slice x3.2.2.1.A x3.2.2.1.n x3.2.2.1.c), (.slice x3.2.2.2.1.A x3.2.2.2.1.n x3.2.2.2.1.c), (.slice x3.2.2.2.2.A x3.2.2.2.2.n x3.2.2.2.2.c)] :: .row x3.1.A x3.1.c 3 1 (ii v1) :: .row x3.2.1.A x3.2.1.c 3 1 (ii v2) :: .row x3.2.2.1.A x3.2.2.1.c 3 1 (ii v3) :: .row x3.2.2.2.1.A x3.2.2.2.1.c 3 1 (ii v4) :: .row x3.2.2.2.2.A x3.2.2.2.2.c 3 1 (ii v5) :: .box x2 29 [(.slice none 0 0), (.slice none 0 0), (.slice none 0 0), (.slice none 0 0), (.slice none 0 0)] :: .box x1 29 [(.slice a1_0_A a1_0_n a1_0_c), (.slice a1_1_A a1_1_n a1_1_c), (.slice a1_2_A a1_2_n a1_2_c), (.slice a1_3_A a1_3_n a1_3_c), (.slice a1_4_A a1_4_n a1_4_c)] :: F) ?_ (fun hD511 => ?_)
    · rintro ⟨x6, x7⟩
      show J _ _ [(4, (pt x2)), (5, (pt x4)), (13, (.slice x3.2.2.2.2.A x3.2.2.2.2.n x3.2.2.2.2.c)), (18, (i6 v8)), (19, (pt a0_g)), (20, (.slice x7 4 4))] _ (.row x7 4 3 1 (ii ([(-1:Int), (0:Int), (1:Int), (2:Int)] : List Int)) :: .box a0_g 84 [(.slice a0_0_A a0_0_n a0_0_c), (i6 v9)] :: .box x4 29 [(.slice x3.1.A x3.1.n x3.1.c), (.slice x3.2.1.A x3.2.1.n x3.2.1.c), (.slice x3.2.2.1.A x3.2.2.1.n x3.2.2.1.c), (.slice x3.2.2.2.1.A x3.2.2.2.1.n x3.2.2.2.1.c), (.slice x3.2.2.2.2.A x3.2.2.2.2.n x3.2.2.2.2.c)] :: .row x3.1.A x3.1.c 3 1 (ii v1) :: .row x3.2.1.A x3.2.1.c 3 1 (ii v2) :: .row x3.2.2.1.A x3.2.2.1.c 3 1 (ii v3) :: .row x3.2.2.2.1.A x3.2.2.2.1.c 3 1 (ii v4) :: .row x3.2.2.2.2.A x3.2.2.2.2.c 3 1 (ii v5) :: .box x2 29 [(.slice none 0 0), (.slice none 0 0), (.slice none 0 0), (.slice none 0 0), (.slice none 0 0)] :: .box x1 29 [(.slice a1_0_A a1_0_n a1_0_c), (.slice a1_1_A a1_1_n a1_1_c), (.slice a1_2_A a1_2_n a1_2_c), (.slice a1_3_A a1_3_n a1_3_c), (.slice a1_4_A a1_4_n a1_4_c)] :: F)
      refine d_one 9 (by kernel_rfl) ?_
      · refine j_rs (.box a0_g 84 [(.slice a0_0_A a0_0_n a0_0_c), (i6 v9)] :: .row x7 4 3 1 (ii ([(-1:Int), (0:Int), (1:Int), (2:Int)] : List Int)) :: .box x4 29 [(.slice x3.1.A x3.1.n x3.1.c), (.slice x3.2.1.A x3.2.1.n x3.2.1.c), (.slice x3.2.2.1.A x3.2.2.1.n x3.2.2.1.c), (.slice x3.2.2.2.1.A x3.2.2.2.1.n x3.2.2.2.1.c), (.slice x3.2.2.2.2.A x3.2.2.2.2.n x3.2.2.2.2.c)] :: .row x3.1.A x3.1.c 3 1 (ii v1) :: .row x3.2.1.A x3.2.1.c 3 1 (ii v2) :: .row x3.2.2.1.A x3.2.2.1.c 3 1 (ii v3) :: .row x3.2.2.2.1.A x3.2.2.2.1.c 3 1 (ii v4) :: .row x3.2.2.2.2.A x3.2.2.2.2.c 3 1 (ii v5) :: .box x2 29 [(.slice none 0 0), (.slice none 0 0), (.slice none 0 0), (.slice none 0 0), (.slice none 0 0)] :: .box x1 29 [(.slice a1_0_A a1_0_n a1_0_c), (.slice a1_1_A a1_1_n a1_1_c), (.slice a1_2_A a1_2_n a1_2_c), (.slice a1_3_A a1_3_n a1_3_c), (.slice a1_4_A a1_4_n a1_4_c)] :: F) (fun _ h => h.pick 10 [1, 0, 2, 3, 4, 5, 6, 7, 8, 9] rfl) ?_
        refine o_do rfl (a_call ok80 rfl rfl rfl rfl (fun w hm => spec_l13Rd_num.calls K a0_g a0_0 a0_0_A a0_0_n a0_0_c v9 ([(-1:Int), (0:Int), (1:Int), (2:Int)] : List Int) x7 4 4 hm a0_0_h (Rd.drop 9 a0_0_R) rfl (Rd.row 0 rfl) hb4)) rfl rfl (fun x8 w h => h.pick 10 [2, 3, 4, 5, 6, 8, 9] rfl) (fun x8 => ?_)
        refine j_rs (.row x7 4 3 1 (ii ([(-1:Int), (0:Int), (1:Int), (2:Int)] : List Int)) :: .box a0_g 84 [(.slice a0_0_A a0_0_n a0_0_c), (i6 v11)] :: .box x4 29 [(.slice x3.1.A x3.1.n x3.1.c), (.slice x3.2.1.A x3.2.1.n x3.2.1.c), (.slice x3.2.2.1.A x3.2.2.1.n x3.2.2.1.c), (.slice x3.2.2.2.1.A x3.2.2.2.1.n x3.2.2.2.1.c), (.slice x3.2.2.2.2.A x3.2.2.2.2.n x3.2.2.2.2.c)] :: .row x3.1.A x3.1.c 3 1 (ii v1) :: .row x3.2.1.A x3.2.1.c 3 1 (ii v2) :: .row x3.2.2.1.A x3.2.2.1.c 3 1 (ii v3) :: .row x3.2.2.2.1.A x3.2.2.2.1.c 3 1 (ii v4) :: .row x3.2.2.2.2.A x3.2.2.2.2.c 3 1 (ii v5) :: .box x2 29 [(.slice none 0 0), (.slice none 0 0), (.slice none 0 0), (.slice none 0 0), (.slice none 0 0)] :: .box x1 29 [(.slice a1_0_A a1_0_n a1_0_c), (.slice a1_1_A a1_1_n a1_1_c), (.slice a1_2_A a1_2_n a1_2_c), (.slice a1_3_A a1_3_n a1_3_c), (.slice a1_4_A a1_4_n a1_4_c)] :: F) (fun _ h => h.pick 10 [1, 0, 2, 3, 4, 5, 6, 7, 8, 9] rfl) ?_
        refine j_env [(4, (pt x2)), (5, (pt x4)), (13, (.slice x3.2.2.2.2.A x3.2.2.2.2.n x3.2.2.2.2.c)), (18, (i6 v8)), (21, (i6 v10))] ⟨rfl, rfl, rfl, rfl, rfl, trivial⟩ ?_
        exact hD1023 (x6, x7, x8)
    refine d_join (σ := Unit) 4 #[true, true, true, true, true, true, true, true, false, false, false, false] (fun s => [(4, (pt x2)), (5, (pt x4)), (13, (.slice x3.2.2.2.2.A x3.2.2.2.2.n x3.2.2.2.2.c)), (18, (i6 v8)), (19, (pt a0_g))]) (fun s => .box a0_g 84 [(.slice a0_0_A a0_0_n a0_0_c), (i6 v9)] :: .box x4 29 [(.slice x3.1.A x3.1.n x3.1.c), (.slice x3.2.1.A x3.2.1.n x3.2.1.c), (.slice x3.2.2.1.A x3.2.2.1.n x3.2.2.1.c), (.slice x3.2.2.2.1.A x3.2.2.2.1.n x3.2.2.2.1.c), (.slice x3.2.2.2.2.A x3.2.2.2.2.n x3.2.2.2.2.c)] :: .row x3.1.A x3.1.c 3 1 (ii v1) :: .row x3.2.1.A x3.2.1.c 3 1 (ii v2) :: .row x3.2.2.1.A x3.2.2.1.c 3 1 (ii v3) :: .row x3.2.2.2.1.A x3.2.2.2.1.c 3 1 (ii v4) :: .row x3.2.2.2.2.A x3.2.2.2.2.c 3 1 (ii v5) :: .box x2 29 [(.slice none 0 0), (.slice none 0 0), (.slice none 0 0), (.slice none 0 0), (.slice none 0 0)] :: .box x1 29 [(.slice a1_0_A a1_0_n a1_0_c), (.slice a1_1_A a1_1_n a1_1_c), (.slice a1_2_A a1_2_n a1_2_c), (.slice a1_3_A a1_3_n a1_3_c), (.slice a1_4_A a1_4_n a1_4_c)] :: F) ?_ (fun hD255 => ?_)
    · rintro x6
      show J _ _ [(4, (pt x2)), (5, (pt x4)), (13, (.slice x3.2.2.2.2.A x3.2.2.2.2.n x3.2.2.2.2.c)), (18, (i6 v8)), (19, (pt a0_g))] _ (.box a0_g 84 [(.slice a0_0_A a0_0_n a0_0_c), (i6 v9)] :: .box x4 29 [(.slice x3.1.A x3.1.n x3.1.c), (.slice x3.2.1.A x3.2.1.n x3.2.1.c), (.slice x3.2.2.1.A x3.2.2.1.n x3.2.2.1.c), (.slice x3.2.2.2.1.A x3.2.2.2.1.n x3.2.2.2.1.c), (.slice x3.2.2.2.2.A x3.2.2.2.2.n x3.2.2.2.2.c)] :: .row x3.1.A x3.1.c 3 1 (ii v1) :: .row x3.2.1.A x3.2.1.c 3 1 (ii v2) :: .row x3.2.2.1.A x3.2.2.1.c 3 1 (ii v3) :: .row x3.2.2.2.1.A x3.2.2.2.1.c 3 1 (ii v4) :: .row x3.2.2.2.2.A x3.2.2.2.2.c 3 1 (ii v5) :: .box x2 29 [(.slice none 0 0), (.slice none 0 0), (.slice none 0 0), (.slice none 0 0), (.slice none 0 0)] :: .box x1 29 [(.slice a1_0_A a1_0_n a1_0_c), (.slice a1_1_A a1_1_n a1_1_c), (.slice a1_2_A a1_2_n a1_2_c), (.slice a1_3_A a1_3_n a1_3_c), (.slice a1_4_A a1_4_n a1_4_c)] :: F)
      refine d_one 8 (by kernel_rfl) ?_
      · refine o_do rfl (a_litX (vs := [(i6 (-1:Int)), (i6 (0:Int)), (i6 (1:Int)), (i6 (2:Int))]) (ii ([(-1:Int), (0:Int), (1:Int), (2:Int)] : List Int)) un23 sz3 zr3 rfl rfl rfl rfl rfl rfl rfl rfl rfl) rfl rfl (fun x7 w h => h.pick 10 [2, 3, 4, 5, 6, 8, 9] rfl) (fun x7 => ?_)
        refine j_rs (.row x7 4 3 1 (ii ([(-1:Int), (0:Int), (1:Int), (2:Int)] : List Int)) :: .box a0_g 84 [(.slice a0_0_A a0_0_n a0_0_c), (i6 v9)] :: .box x4 29 [(.slice x3.1.A x3.1.n x3.1.c), (.slice x3.2.1.A x3.2.1.n x3.2.1.c), (.slice x3.2.2.1.A x3.2.2.1.n x3.2.2.1.c), (.slice x3.2.2.2.1.A x3.2.2.2.1.n x3.2.2.2.1.c), (.slice x3.2.2.2.2.A x3.2.2.2.2.n x3.2.2.2.2.c)] :: .row x3.1.A x3.1.c 3 1 (ii v1) :: .row x3.2.1.A x3.2.1.c 3 1 (ii v2) :: .row x3.2.2.1.A x3.2.2.1.c 3 1 (ii v3) :: .row x3.2.2.2.1.A x3.2.2.2.1.c 3 1 (ii v4) :: .row x3.2.2.2.2.A x3.2.2.2.2.c 3 1 (ii v5) :: .box x2 29 [(.slice none 0 0), (.slice none 0 0), (.slice none 0 0), (.slice none 0 0), (.slice none 0 0)] :: .box x1 29 [(.slice a1_0_A a1_0_n a1_0_c), (.slice a1_1_A a1_1_n a1_1_c), (.slice a1_2_A a1_2_n a1_2_c), (.slice a1_3_A a1_3_n a1_3_c), (.slice a1_4_A a1_4_n a1_4_c)] :: F) (fun _ h => h) ?_
        refine j_env [(4, (pt x2)), (5, (pt x4)), (13, (.slice x3.2.2.2.2.A x3.2.2.2.2.n x3.2.2.2.2.c)), (18, (i6 v8)), (19, (pt a0_g)), (20, (.slice x7 4 4))] ⟨rfl, rfl, rfl, rfl, rfl, rfl, trivial⟩ ?_
        exact hD511 (x6, x7)
    refine d_join (σ := (Option Addr)) 4 #[true, true, true, true, true, true, false, true, true, false, false, false] (fun s => [(4, (pt x2)), (5, (pt x4)), (13, (.slice x3.2.2.2.2.A x3.2.2.2.2.n x3.2.2.2.2.c)), (14, (pt a0_g)), (17, (i6 (v5.length : Int))), (19, (pt a0_g)), (20, (.slice s 4 4))]) (fun s => .row s 4 3 1 (ii ([(-1:Int), (0:Int), (1:Int), (2:Int)] : List Int)) :: .box a0_g 84 [(.slice a0_0_A a0_0_n a0_0_c), (i6 v7)] :: .box x4 29 [(.slice x3.1.A x3.1.n x3.1.c), (.slice x3.2.1.A x3.2.1.n x3.2.1.c), (.slice x3.2.2.1.A x3.2.2.1.n x3.2.2.1.c), (.slice x3.2.2.2.1.A x3.2.2.2.1.n x3.2.2.2.1.c), (.slice x3.2.2.2.2.A x3.2.2.2.2.n x3.2.2.2.2.c)] :: .row x3.1.A x3.1.c 3 1 (ii v1) :: .row x3.2.1.A x3.2.1.c 3 1 (ii v2) :: .row x3.2.2.1.A x3.2.2.1.c 3 1 (ii v3) :: .row x3.2.2.2.1.A x3.2.2.2.1.c 3 1 (ii v4) :: .row x3.2.2.2.2.A x3.2.2.2.2.c 3 1 (ii v5) :: .box x2 29 [(.slice none 0 0), (.slice none 0 0), (.slice none 0 0), (.slice none 0 0), (.slice none 0 0)] :: .box x1 29 [(.slice a1_0_A a1_0_n a1_0_c), (.slice a1_1_A a1_1_n a1_1_c), (.slice a1_2_A a1_2_n a1_2_c), (.slice a1_3_A a1_3_n a1_3_c), (.slice a1_4_A a1_4_n a1_4_c)] :: F) ?_ (fun hD447 => ?_)
    · rintro x7
      show J _ _ [(4, (pt x2)), (5, (pt x4)), (13, (.slice x3.2.2.2.2.A x3.2.2.2.2.n x3.2.2.2.2.c)), (14, (pt a0_g)), (17, (i6 (v5.length : Int))), (19, (pt a0_g)), (20, (.slice x7 4 4))] _ (.row x7 4 3 1 (ii ([(-1:Int), (0:Int), (1:Int), (2:Int)] : List Int)) :: .box a0_g 84 [(.slice a0_0_A a0_0_n a0_0_c), (i6 v7)] :: .box x4 29 [(.slice x3.1.A x3.1.n x3.1.c), (.slice x3.2.1.A x3.2.1.n x3.2.1.c), (.slice x3.2.2.1.A x3.2.2.1.n x3.2.2.1.c), (.slice x3.2.2.2.1.A x3.2.2.2.1.n x3.2.2.2.1.c), (.slice x3.2.2.2.2.A x3.2.2.2.2.n x3.2.2.2.2.c)] :: .row x3.1.A x3.1.c 3 1 (ii v1) :: .row x3.2.1.A x3.2.1.c 3 1 (ii v2) :: .row x3.2.2.1.A x3.2.2.1.c 3 1 (ii v3) :: .row x3.2.2.2.1.A x3.2.2.2.1.c 3 1 (ii v4) :: .row x3.2.2.2.2.A x3.2.2.2.2.c 3 1 (ii v5) :: .box x2 29 [(.slice none 0 0), (.slice none 0 0), (.slice none 0 0), (.slice none 0 0), (.slice none 0 0)] :: .box x1 29 [(.slice a1_0_A a1_0_n a1_0_c), (.slice a1_1_A a1_1_n a1_1_c), (.slice a1_2_A a1_2_n a1_2_c), (.slice a1_3_A a1_3_n a1_3_c), (.slice a1_4_A a1_4_n a1_4_c)] :: F)
      refine d_one 6 (by kernel_rfl) ?_
      · refine j_rs (.box a0_g 84 [(.slice a0_0_A a0_0_n a0_0_c), (i6 v7)] :: .row x7 4 3 1 (ii ([(-1:Int), (0:Int), (1:Int), (2:Int)] : List Int)) :: .box x4 29 [(.slice x3.1.A x3.1.n x3.1.c), (.slice x3.2.1.A x3.2.1.n x3.2.1.c), (.slice x3.2.2.1.A x3.2.2.1.n x3.2.2.1.c), (.slice x3.2.2.2.1.A x3.2.2.2.1.n x3.2.2.2.1.c), (.slice x3.2.2.2.2.A x3.2.2.2.2.n x3.2.2.2.2.c)] :: .row x3.1.A x3.1.c 3 1 (ii v1) :: .row x3.2.1.A x3.2.1.c 3 1 (ii v2) :: .row x3.2.2.1.A x3.2.2.1.c 3 1 (ii v3) :: .row x3.2.2.2.1.A x3.2.2.2.1.c 3 1 (ii v4) :: .row x3.2.2.2.2.A x3.2.2.2.2.c 3 1 (ii v5) :: .box x2 29 [(.slice none 0 0), (.slice none 0 0), (.slice none 0 0), (.slice none 0 0), (.slice none 0 0)] :: .box x1 29 [(.slice a1_0_A a1_0_n a1_0_c), (.slice a1_1_A a1_1_n a1_1_c), (.slice a1_2_A a1_2_n a1_2_c), (.slice a1_3_A a1_3_n a1_3_c), (.slice a1_4_A a1_4_n a1_4_c)] :: F) (fun _ h => h.pick 10 [1, 0, 2, 3, 4, 5, 6, 7, 8, 9] rfl) ?_
        refine o_do rfl (a_call ok82 rfl rfl rfl rfl (fun w hm => spec_l13Rd_pick.calls K a0_g a0_0 a0_0_A a0_0_n a0_0_c v7 (v5.length : Int) hm a0_0_h (Rd.drop 9 a0_0_R) hb3)) rfl rfl (fun x6 w h => h.pick 10 [2, 3, 4, 5, 6, 8, 9] rfl) (fun x6 => ?_)
        refine j_rs (.row x7 4 3 1 (ii ([(-1:Int), (0:Int), (1:Int), (2:Int)] : List Int)) :: .box a0_g 84 [(.slice a0_0_A a0_0_n a0_0_c), (i6 v9)] :: .box x4 29 [(.slice x3.1.A x3.1.n x3.1.c), (.slice x3.2.1.A x3.2.1.n x3.2.1.c), (.slice x3.2.2.1.A x3.2.2.1.n x3.2.2.1.c), (.slice x3.2.2.2.1.A x3.2.2.2.1.n x3.2.2.2.1.c), (.slice x3.2.2.2.2.A x3.2.2.2.2.n x3.2.2.2.2.c)] :: .row x3.1.A x3.1.c 3 1 (ii v1) :: .row x3.2.1.A x3.2.1.c 3 1 (ii v2) :: .row x3.2.2.1.A x3.2.2.1.c 3 1 (ii v3) :: .row x3.2.2.2.1.A x3.2.2.2.1.c 3 1 (ii v4) :: .row x3.2.2.2.2.A x3.2.2.2.2.c 3 1 (ii v5) :: .box x2 29 [(.slice none 0 0), (.slice none 0 0), (.slice none 0 0), (.slice none 0 0), (.slice none 0 0)] :: .box x1 29 [(.slice a1_0_A a1_0_n a1_0_c), (.slice a1_1_A a1_1_n a1_1_c), (.slice a1_2_A a1_2_n a1_2_c), (.slice a1_3_A a1_3_n a1_3_c), (.slice a1_4_A a1_4_n a1_4_c)] :: F) (fun _ h => h.pick 10 [1, 0, 2, 3, 4, 5, 6, 7, 8, 9] rfl) ?_
        refine j_env [(4, (pt x2)), (5, (pt x4)), (13, (.slice x3.2.2.2.2.A x3.2.2.2.2.n x3.2.2.2.2.c)), (18, (i6 v8)), (19, (pt a0_g)), (20, (.slice x7 4 4))] ⟨rfl, rfl, rfl, rfl, rfl, rfl, trivial⟩ ?_
        exact hD511 (x6, x7)
    refine d_two 6 8 (by kernel_rfl) ?_ ?_
    · refine o_do rfl (a_call ok82 rfl rfl rfl rfl (fun w hm => spec_l13Rd_pick.calls K a0_g a0_0 a0_0_A a0_0_n a0_0_c v7 (v5.length : Int) hm a0_0_h (Rd.drop 8 a0_0_R) hb3)) rfl rfl (fun x6 w h => h.pick 9 [1, 2, 3, 4, 5, 7, 8] rfl) (fun x6 => ?_)
      refine j_rs (.box a0_g 84 [(.slice a0_0_A a0_0_n a0_0_c), (i6 v9)] :: .box x4 29 [(.slice x3.1.A x3.1.n x3.1.c), (.slice x3.2.1.A x3.2.1.n x3.2.1.c), (.slice x3.2.2.1.A x3.2.2.1.n x3.2.2.1.c), (.slice x3.2.2.2.1.A x3.2.2.2.1.n x3.2.2.2.1.c), (.slice x3.2.2.2.2.A x3.2.2.2.2.n x3.2.2.2.2.c)] :: .row x3.1.A x3.1.c 3 1 (ii v1) :: .row x3.2.1.A x3.2.1.c 3 1 (ii v2) :: .row x3.2.2.1.A x3.2.2.1.c 3 1 (ii v3) :: .row x3.2.2.2.1.A x3.2.2.2.1.c 3 1 (ii v4) :: .row x3.2.2.2.2.A x3.2.2.2.2.c 3 1 (ii v5) :: .box x2 29 [(.slice none 0 0), (.slice none 0 0), (.slice none 0 0), (.slice none 0 0), (.slice none 0 0)] :: .box x1 29 [(.slice a1_0_A a1_0_n a1_0_c), (.slice a1_1_A a1_1_n a1_1_c), (.slice a1_2_A a1_2_n a1_2_c), (.slice a1_3_A a1_3_n a1_3_c), (.slice a1_4_A a1_4_n a1_4_c)] :: F) (fun _ h => h) ?_
      refine j_env [(4, (pt x2)), (5, (pt x4)), (13, (.slice x3.2.2.2.2.A x3.2.2.2.2.n x3.2.2.2.2.c)), (18, (i6 v8)), (19, (pt a0_g))] ⟨rfl, rfl, rfl, rfl, rfl, trivial⟩ ?_
      exact hD255 x6
    · refine o_do rfl (a_litX (vs := [(i6 (-1:Int)), (i6 (0:Int)), (i6 (1:Int)), (i6 (2:Int))]) (ii ([(-1:Int), (0:Int), (1:Int), (2:Int)] : List Int)) un23 sz3 zr3 rfl rfl rfl rfl rfl rfl rfl rfl rfl) rfl rfl (fun x7 w h => h.pick 10 [2, 3, 4, 5, 6, 8, 9] rfl) (fun x7 => ?_)
      refine j_rs (.row x7 4 3 1 (ii ([(-1:Int), (0:Int), (1:Int), (2:Int)] : List Int)) :: .box a0_g 84 [(.slice a0_0_A a0_0_n a0_0_c), (i6 v7)] :: .box x4 29 [(.slice x3.1.A x3.1.n x3.1.c), (.slice x3.2.1.A x3.2.1.n x3.2.1.c), (.slice x3.2.2.1.A x3.2.2.1.n x3.2.2.1.c), (.slice x3.2.2.2.1.A x3.2.2.2.1.n x3.2.2.2.1.c), (.slice x3.2.2.2.2.A x3.2.2.2.2.n x3.2.2.2.2.c)] :: .row x3.1.A x3.1.c 3 1 (ii v1) :: .row x3.2.1.A x3.2.1.c 3 1 (ii v2) :: .row x3.2.2.1.A x3.2.2.1.c 3 1 (ii v3) :: .row x3.2.2.2.1.A x3.2.2.2.1.c 3 1 (ii v4) :: .row x3.2.2.2.2.A x3.2.2.2.2.c 3 1 (ii v5) :: .box x2 29 [(.slice none 0 0), (.slice none 0 0), (.slice none 0 0), (.slice none 0 0), (.slice none 0 0)] :: .box x1 29 [(.slice a1_0_A a1_0_n a1_0_c), (.slice a1_1_A a1_1_n a1_1_c), (.slice a1_2_A a1_2_n a1_2_c), (.slice a1_3_A a1_3_n a1_3_c), (.slice a1_4_A a1_4_n a1_4_c)] :: F) (fun _ h => h) ?_
      refine j_env [(4, (pt x2)), (5, (pt x4)), (13, (.slice x3.2.2.2.2.A x3.2.2.2.2.n x3.2.2.2.2.c)), (14, (pt a0_g)), (17, (i6 (v5.length : Int))), (19, (pt a0_g)), (20, (.slice x7 4 4))] ⟨rfl, rfl, rfl, rfl, rfl, rfl, rfl, trivial⟩ ?_
      exact hD447 x7
  · refine j_false rfl (beq_f c1) ?_
    refine j_seq ?_
    refine j_region ?_
    refine r_q (q_eql rfl rfl rfl) rfl rfl ?_
    refine r_q (q_assign rfl rfl) rfl rfl ?_
    refine r_nil ?_
    refine j_then ?_
    rcases of_if h with ⟨c3, h⟩ | ⟨c3, h⟩
    · refine j_true rfl (beq_t c3) ?_
      refine j_region ?_
      refine r_q (q_move rfl rfl) rfl rfl ?_
      refine r_q (q_move rfl rfl) rfl rfl ?_
      refine r_q (q_fieldAddr fi29_0 sz27 rfl rfl rfl) rfl rfl ?_
      refine r_q (q_loadb_agg 1 rfl ag27 sz27 rfl rfl rfl rfl) rfl rfl ?_
      obtain ⟨v12, v13, v14, v15, v16, hb5, h⟩ := of_b5 h
      refine r_do (a_call ok83 rfl rfl rfl rfl (fun w hm => spec_l4Wrong.calls K a0_g a0_0 a0_0_A a0_0_n a0_0_c v7 v1 x3.1.A x3.1.n x3.1.c v2 x3.2.1.A x3.2.1.n x3.2.1.c v3 x3.2.2.1.A x3.2.2.1.n x3.2.2.1.c v4 x3.2.2.2.1.A x3.2.2.2.1.n x3.2.2.2.1.c hm a0_0_h (Rd.drop 8 a0_0_R) x3.1.h (Rd.row 1 rfl) x3.2.1.h (Rd.row 2 rfl) x3.2.2.1.h (Rd.row 3 rfl) x3.2.2.2.1.h (Rd.row 4 rfl) hb5)) rfl rfl (fun x9 => ?_)
      obtain ⟨v17, v18, v19, v20, v21, hb6, h⟩ := of_b5 h
      refine j_rs (.box a0_g 84 [(.slice a0_0_A a0_0_n a0_0_c), (i6 v16)] :: .row x9.1.A x9.1.c 3 1 (ii v12) :: .row x9.2.1.A x9.2.1.c 3 1 (ii v13) :: .row x9.2.2.1.A x9.2.2.1.c 3 1 (ii v14) :: .row x9.2.2.2.A x9.2.2.2.c 3 1 (ii v15) :: .box x4 29 [(.slice x3.1.A x3.1.n x3.1.c), (.slice x3.2.1.A x3.2.1.n x3.2.1.c), (.slice x3.2.2.1.A x3.2.2.1.n x3.2.2.1.c), (.slice x3.2.2.2.1.A x3.2.2.2.1.n x3.2.2.2.1.c), (.slice x3.2.2.2.2.A x3.2.2.2.2.n x3.2.2.2.2.c)] :: .row x3.1.A x3.1.c 3 1 (ii v1) :: .row x3.2.1.A x3.2.1.c 3 1 (ii v2) :: .row x3.2.2.1.A x3.2.2.1.c 3 1 (ii v3) :: .row x3.2.2.2.1.A x3.2.2.2.1.c 3 1 (ii v4) :: .row x3.2.2.2.2.A x3.2.2.2.2.c 3 1 (ii v5) :: .box x2 29 [(.slice none 0 0), (.slice none 0 0), (.slice none 0 0), (.slice none 0 0), (.slice none 0 0)] :: .box x1 29 [(.slice a1_0_A a1_0_n a1_0_c), (.slice a1_1_A a1_1_n a1_1_c), (.slice a1_2_A a1_2_n a1_2_c), (.slice a1_3_A a1_3_n a1_3_c), (.slice a1_4_A a1_4_n a1_4_c)] :: F) (fun _ h => h.pick 13 [4, 0, 1, 2, 3, 5, 6, 7, 8, 9, 10, 11, 12] rfl) ?_
      refine r_do (a_call ok83 rfl rfl rfl rfl (fun w hm => spec_l4Wrong.calls K a0_g a0_0 a0_0_A a0_0_n a0_0_c v16 v12 x9.1.A x9.1.n x9.1.c v13 x9.2.1.A x9.2.1.n x9.2.1.c v14 x9.2.2.1.A x9.2.2.1.n x9.2.2.1.c v15 x9.2.2.2.A x9.2.2.2.n x9.2.2.2.c hm a0_0_h (Rd.drop 12 a0_0_R) x9.1.h (Rd.row 0 rfl) x9.2.1.h (Rd.row 1 rfl) x9.2.2.1.h (Rd.row 2 rfl) x9.2.2.2.h (Rd.row 3 rfl) hb6)) rfl rfl (fun x10 => ?_)
      refine r_q (q_fieldAddr fi29_0 sz27 rfl rfl rfl) rfl rfl ?_
      refine r_do (a_storeb 9 rfl sz27 rfl rfl rfl rfl (Nat.le_of_ble_eq_true rfl) rfl) rfl rfl (fun _ => ?_)
      refine j_b9 [(.slice x10.1.A x10.1.n x10.1.c), (.slice x10.2.1.A x10.2.1.n x10.2.1.c), (.slice x10.2.2.1.A x10.2.2.1.n x10.2.2.1.c), (.slice x10.2.2.2.A x10.2.2.2.n x10.2.2.2.c), (.slice x3.2.2.2.2.A x3.2.2.2.2.n x3.2.2.2.2.c)] rfl ?_
      refine r_nil ?_
      refine j_in ?_
      refine j_then ?_
      refine j_seq ?_
      refine j_region ?_
      refine r_q (q_loadb_agg 9 rfl ag29 sz29 rfl rfl rfl rfl) rfl rfl ?_
      refine r_do (a_storeb 15 rfl sz29 rfl rfl rfl rfl (Nat.le_of_ble_eq_true rfl) rfl) rfl rfl (fun _ => ?_)
      refine j_b15 [(.slice x10.1.A x10.1.n x10.1.c), (.slice x10.2.1.A x10.2.1.n x10.2.1.c), (.slice x10.2.2.1.A x10.2.2.1.n x10.2.2.1.c), (.slice x10.2.2.2.A x10.2.2.2.n x10.2.2.2.c), (.slice x3.2.2.2.2.A x3.2.2.2.2.n x3.2.2.2.2.c)] rfl ?_
      refine r_nil ?_
      refine j_then ?_
      refine j_ret ?_
      cases h
      exact j_return rfl (ResOf.cell 15 rfl rfl ag29 sz29 ResOf.nil) rfl (fun w h => ⟨(⟨x10.1.A, x10.1.n, x10.1.c, x10.1.h⟩, ⟨x10.2.1.A, x10.2.1.n, x10.2.1.c, x10.2.1.h⟩, ⟨x10.2.2.1.A, x10.2.2.1.n, x10.2.2.1.c, x10.2.2.1.h⟩, ⟨x10.2.2.2.A, x10.2.2.2.n, x10.2.2.2.c, x10.2.2.2.h⟩, ⟨x3.2.2.2.2.A, x3.2.2.2.2.n, x3.2.2.2.2.c, x3.2.2.2.2.h⟩), rfl, h.pick 17 [0, 1, 2, 3, 14, 4] rfl⟩)
    · refine j_false rfl (beq_f c3) ?_
      refine j_skip ?_
      refine j_in ?_
      refine j_then ?_
      refine j_seq ?_
      refine j_region ?_
      refine r_q (q_loadb_agg 1 rfl ag29 sz29 rfl rfl rfl rfl) rfl rfl ?_
      refine r_do (a_storeb 7 rfl sz29 rfl rfl rfl rfl (Nat.le_of_ble_eq_true rfl) rfl) rfl rfl (fun _ => ?_)
      refine j_b7 [(.slice x3.1.A x3.1.n x3.1.c), (.slice x3.2.1.A x3.2.1.n x3.2.1.c), (.slice x3.2.2.1.A x3.2.2.1.n x3.2.2.1.c), (.slice x3.2.2.2.1.A x3.2.2.2.1.n x3.2.2.2.1.c), (.slice x3.2.2.2.2.A x3.2.2.2.2.n x3.2.2.2.2.c)] rfl ?_
      refine r_nil ?_
      refine j_then ?_
      refine j_ret ?_
      cases h
      exact j_return rfl (ResOf.cell 7 rfl rfl ag29 sz29 ResOf.nil) rfl (fun w h => ⟨(⟨x3.1.A, x3.1.n, x3.1.c, x3.1.h⟩, ⟨x3.2.1.A, x3.2.1.n, x3.2.1.c, x3.2.1.h⟩, ⟨x3.2.2.1.A, x3.2.2.1.n, x3.2.2.1.c, x3.2.2.1.h⟩, ⟨x3.2.2.2.1.A, x3.2.2.2.1.n, x3.2.2.2.1.c, x3.2.2.2.1.h⟩, ⟨x3.2.2.2.2.A, x3.2.2.2.2.n, x3.2.2.2.2.c, x3.2.2.2.2.h⟩), rfl, h.pick 9 [2, 3, 4, 5, 6, 0] rfl⟩)

end Go.Proofs.Ytgganabcfloioaa.F
