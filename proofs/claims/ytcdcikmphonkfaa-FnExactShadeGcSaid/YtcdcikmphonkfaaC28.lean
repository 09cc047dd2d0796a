/- The program computes these pure functions, printed by the generator of wip/gen. -/
import Derived.Test.YtcdcikmphonkfaaFa
import Derived.Test.YtcdcikmphonkfaaFi
import Derived.Test.YtcdcikmphonkfaaFb
import Derived.Test.YtcdcikmphonkfaaC0
import Derived.Test.YtcdcikmphonkfaaC1
import Derived.Test.YtcdcikmphonkfaaC2
import Derived.Test.YtcdcikmphonkfaaC3
import Derived.Test.YtcdcikmphonkfaaC4
import Derived.Test.YtcdcikmphonkfaaC5
import Derived.Test.YtcdcikmphonkfaaC9
import Derived.Test.YtcdcikmphonkfaaC10
import Derived.Test.YtcdcikmphonkfaaC12
import Derived.Test.YtcdcikmphonkfaaC13
import Derived.Test.YtcdcikmphonkfaaC16
import Derived.Test.YtcdcikmphonkfaaC17
import Derived.Test.YtcdcikmphonkfaaC21
namespace Go.Proofs.Ytcdcikmphonkfaa.F
open Go Go.RowKit Go.Proofs.Ytcdcikmphonkfaa.S
set_option linter.unusedVariables false
set_option maxRecDepth 100000
theorem spec_ShadeGc.calls (K : Nat) (a0_0 : List Int) (a0_0_A : Option Addr) (a0_0_n a0_0_c : Nat) (a0_1 : List Int) (a0_1_A : Option Addr) (a0_1_n a0_1_c : Nat) (a0_2 : List Int) (a0_2_A : Option Addr) (a0_2_n a0_2_c : Nat) (a0_3 : List Int) (a0_3_A : Option Addr) (a0_3_n a0_3_c : Nat) (a1_0 : Int) (a1_1 : List Int) (a1_1_A : Option Addr) (a1_1_n a1_1_c : Nat) (a1_2 : Int) (a2 : Int) {w0 w : World} {F : List Res} {r1 : Int} {r2 : List Int} {r3 : Int} {r4 : Bool} (hm : Mem w0 (F) w) (a0_0_h : a0_0.length = a0_0_n) (a0_0_R : Rd w0 F a0_0_A (ii a0_0)) (a0_1_h : a0_1.length = a0_1_n) (a0_1_R : Rd w0 F a0_1_A (ii a0_1)) (a0_2_h : a0_2.length = a0_2_n) (a0_2_R : Rd w0 F a0_2_A (ii a0_2)) (a0_3_h : a0_3.length = a0_3_n) (a0_3_R : Rd w0 F a0_3_A (ii a0_3)) (a0_3_k : a0_3.length ≤ a0_3_c) (a1_1_h : a1_1.length = a1_1_n) (a1_1_R : Rd w0 F a1_1_A (ii a1_1)) (h : spec_ShadeGc.f K a0_0 a0_1 a0_2 a0_3 a1_0 a1_1 a1_2 a2 = some (r1, r2, r3, r4)) :
    Calls Try.prog 45 (List.toArray [.agg (List.toArray [.slice a0_0_A a0_0_n a0_0_c, .slice a0_1_A a0_1_n a0_1_c, .slice a0_2_A a0_2_n a0_2_c, .slice a0_3_A a0_3_n a0_3_c]), .agg (List.toArray [i6 a1_0, .slice a1_1_A a1_1_n a1_1_c, i6 a1_2]), i6 a2]) w fun e w' => ∃ x : (Sl r2.length), e = .returned (.tuple (List.toArray [.agg (List.toArray [i6 r1, .slice x.A x.n x.c, i6 r3]), .bool r4])) ∧ Mem w0 (.row x.A x.c 3 1 (ii r2) :: F) w' := by
  unfold spec_ShadeGc.f at h
  refine calls_of_J (n := 37) Try.func45 rfl rfl rfl hm ?_
  refine j_seq ?_
  refine j_region ?_
  refine r_do (a_box rfl rfl) rfl rfl (fun x1 => ?_)
  refine r_do (a_box rfl rfl) rfl rfl (fun x2 => ?_)
  refine r_do (a_alloc zr53 rfl) rfl rfl (fun x3 => ?_)
  refine r_q (q_assign rfl rfl) rfl rfl ?_
  refine r_nil ?_
  refine j_then ?_
  refine j_seq ?_
  refine j_seq ?_
  refine j_region ?_
  refine r_q (q_loadb_agg 2 rfl ag57 sz57 rfl rfl rfl rfl) rfl rfl ?_
  refine r_q (q_loadb_agg 1 rfl ag53 sz53 rfl rfl rfl rfl) rfl rfl ?_
  obtain ⟨v1, hb1, h⟩ := of_b1 h
  refine r_do (a_call ok49 rfl rfl rfl rfl (fun w hm => spec_GcValid.calls K a0_0 a0_0_A a0_0_n a0_0_c a0_1 a0_1_A a0_1_n a0_1_c a0_2 a0_2_A a0_2_n a0_2_c a0_3 a0_3_A a0_3_n a0_3_c a1_0 a1_1 a1_1_A a1_1_n a1_1_c a1_2 hm a0_0_h (Rd.drop 3 a0_0_R) a0_1_h (Rd.drop 3 a0_1_R) a0_2_h (Rd.drop 3 a0_2_R) a0_3_h (Rd.drop 3 a0_3_R) a0_3_k a1_1_h (Rd.drop 3 a1_1_R) hb1)) rfl rfl (fun x4 => ?_)
  refine r_q (q_not rfl rfl) rfl rfl ?_
  refine r_q (q_move rfl rfl) rfl rfl ?_
  rcases of_if h with ⟨c1, h⟩ | ⟨c1, h⟩
  · refine r_qon (q_fieldAddr fi57_0 sz25 rfl rfl rfl) rfl rfl rfl rfl (not_f c1) rfl ?_
    refine r_qon (q_loadb_agg 2 rfl ag25 sz25 rfl rfl rfl rfl) rfl rfl rfl rfl (not_f c1) rfl ?_
    refine r_qon (q_move rfl rfl) rfl rfl rfl rfl (not_f c1) rfl ?_
    obtain ⟨v2, hb2, h⟩ := of_b1 h
    refine r_on (a_call ok60 rfl rfl rfl rfl (fun w hm => spec_l1Cell.calls K a0_0 a0_0_A a0_0_n a0_0_c a0_1 a0_1_A a0_1_n a0_1_c a0_2 a0_2_A a0_2_n a0_2_c a2 hm a0_0_h (Rd.drop 3 a0_0_R) a0_1_h (Rd.drop 3 a0_1_R) a0_2_h (Rd.drop 3 a0_2_R) hb2)) rfl rfl rfl rfl (not_f c1) rfl (fun x5 => ?_)
    refine r_qon (q_not rfl rfl) rfl rfl rfl rfl (not_f c1) rfl ?_
    refine r_q (q_pick_f rfl rfl (not_f c1) rfl) rfl rfl ?_
    refine r_nil ?_
    refine j_then ?_
    rcases of_if h with ⟨c2, h⟩ | ⟨c2, h⟩
    · refine j_false rfl (not_f c2) ?_
      refine j_skip ?_
      refine j_then ?_
      refine j_seq ?_
      refine j_region ?_
      refine r_q (q_loadb_agg 1 rfl ag53 sz53 rfl rfl rfl rfl) rfl rfl ?_
      obtain ⟨v3, v4, v5, hb3, h⟩ := of_b3 h
      refine r_do (a_call ok81 rfl rfl rfl rfl (fun w hm => spec_l6Copy.calls K a1_0 a1_1 a1_1_A a1_1_n a1_1_c a1_2 hm a1_1_h (Rd.drop 3 a1_1_R) hb3)) rfl rfl (fun x6 => ?_)
      refine r_do (a_alloc zr53 rfl) rfl rfl (fun x7 => ?_)
      refine r_do (a_storeb 0 rfl sz53 rfl rfl rfl rfl (Nat.le_of_ble_eq_true rfl) rfl) rfl rfl (fun _ => ?_)
      refine j_b0 [(i6 v3), (.slice x6.A x6.n x6.c), (i6 v5)] rfl ?_
      refine r_nil ?_
      refine j_then ?_
      refine j_seq ?_
      refine j_seq ?_
      refine j_region ?_
      refine r_q (q_fieldAddr fi53_0 sz3 rfl rfl rfl) rfl rfl ?_
      refine r_q (q_loadb 3 rfl ag3 rfl rfl rfl) rfl rfl ?_
      refine r_q (q_eql rfl rfl rfl) rfl rfl ?_
      refine r_q (q_move rfl rfl) rfl rfl ?_
      rcases of_if h with ⟨c3, h⟩ | ⟨c3, h⟩
      · refine r_off rfl rfl rfl rfl (beq_t c3) rfl ?_
        refine r_off rfl rfl rfl rfl (beq_t c3) rfl ?_
        refine r_off rfl rfl rfl rfl (beq_t c3) rfl ?_
        refine r_q (q_pick_t rfl rfl (beq_t c3) rfl) rfl rfl ?_
        refine r_nil ?_
        refine j_then ?_
        refine j_true rfl rfl ?_
        refine j_region ?_
        refine r_q (q_fieldAddr fi53_1 sz23 rfl rfl rfl) rfl rfl ?_
        refine r_q (q_loadb 0 rfl ag23 rfl rfl rfl) rfl rfl ?_
        refine r_q (q_move rfl rfl) rfl rfl ?_
        obtain ⟨v6, hb4, h⟩ := of_b1 h
        refine j_rs (.row x6.A x6.c 3 1 (ii v4) :: .box x7 53 [(i6 v3), (.slice x6.A x6.n x6.c), (i6 v5)] :: .box x3 53 [(i6 (0:Int)), (.slice none 0 0), (i6 (0:Int))] :: .box x2 53 [(i6 a1_0), (.slice a1_1_A a1_1_n a1_1_c), (i6 a1_2)] :: .box x1 57 [(.slice a0_0_A a0_0_n a0_0_c), (.slice a0_1_A a0_1_n a0_1_c), (.slice a0_2_A a0_2_n a0_2_c), (.slice a0_3_A a0_3_n a0_3_c)] :: F) (fun _ h => h.pick 5 [1, 0, 2, 3, 4] rfl) ?_
        refine r_do (a_call ok62 rfl rfl rfl rfl (fun w hm => spec_l3Shade.calls K v4 x6.A x6.n x6.c a2 hm x6.h hb4)) rfl rfl (fun x8 => ?_)
        refine r_q (q_fieldAddr fi53_1 sz23 rfl rfl rfl) rfl rfl ?_
        refine r_do (a_storeb 1 rfl sz23 rfl rfl rfl rfl (Nat.le_of_ble_eq_true rfl) rfl) rfl rfl (fun _ => ?_)
        refine j_b1 [(i6 v3), (.slice x6.A x6.n x6.c), (i6 v5)] rfl ?_
        refine r_nil ?_
        refine j_then ?_
        refine j_seq ?_
        refine j_region ?_
        refine r_q (q_loadb_agg 1 rfl ag53 sz53 rfl rfl rfl rfl) rfl rfl ?_
        refine r_do (a_storeb 2 rfl sz53 rfl rfl rfl rfl (Nat.le_of_ble_eq_true rfl) rfl) rfl rfl (fun _ => ?_)
        refine j_b2 [(i6 v3), (.slice x6.A x6.n x6.c), (i6 v5)] rfl ?_
        refine r_q (q_assign rfl rfl) rfl rfl ?_
        refine r_nil ?_
        refine j_then ?_
        refine j_ret ?_
        cases h
        exact j_return rfl (ResOf.cell 2 rfl rfl ag53 sz53 (ResOf.tmp rfl ResOf.nil)) rfl (fun w h => ⟨⟨x6.A, x6.n, x6.c, (x8.h.trans x6.h)⟩, rfl, h.pick 5 [0] rfl⟩)
      · refine r_qon (q_fieldAddr fi53_0 sz3 rfl rfl rfl) rfl rfl rfl rfl (beq_f c3) rfl ?_
        refine r_qon (q_loadb 3 rfl ag3 rfl rfl rfl) rfl rfl rfl rfl (beq_f c3) rfl ?_
        refine r_qon (q_eql rfl rfl rfl) rfl rfl rfl rfl (beq_f c3) rfl ?_
        refine r_q (q_pick_f rfl rfl (beq_f c3) rfl) rfl rfl ?_
        refine r_nil ?_
        refine j_then ?_
        rcases of_if h with ⟨c4, h⟩ | ⟨c4, h⟩
        · refine j_true rfl (beq_t c4) ?_
          refine j_region ?_
          refine r_q (q_fieldAddr fi53_1 sz23 rfl rfl rfl) rfl rfl ?_
          refine r_q (q_loadb 0 rfl ag23 rfl rfl rfl) rfl rfl ?_
          refine r_q (q_move rfl rfl) rfl rfl ?_
          obtain ⟨v7, hb5, h⟩ := of_b1 h
          refine j_rs (.row x6.A x6.c 3 1 (ii v4) :: .box x7 53 [(i6 v3), (.slice x6.A x6.n x6.c), (i6 v5)] :: .box x3 53 [(i6 (0:Int)), (.slice none 0 0), (i6 (0:Int))] :: .box x2 53 [(i6 a1_0), (.slice a1_1_A a1_1_n a1_1_c), (i6 a1_2)] :: .box x1 57 [(.slice a0_0_A a0_0_n a0_0_c), (.slice a0_1_A a0_1_n a0_1_c), (.slice a0_2_A a0_2_n a0_2_c), (.slice a0_3_A a0_3_n a0_3_c)] :: F) (fun _ h => h.pick 5 [1, 0, 2, 3, 4] rfl) ?_
          refine r_do (a_call ok62 rfl rfl rfl rfl (fun w hm => spec_l3Shade.calls K v4 x6.A x6.n x6.c a2 hm x6.h hb5)) rfl rfl (fun x8 => ?_)
          refine r_q (q_fieldAddr fi53_1 sz23 rfl rfl rfl) rfl rfl ?_
          refine r_do (a_storeb 1 rfl sz23 rfl rfl rfl rfl (Nat.le_of_ble_eq_true rfl) rfl) rfl rfl (fun _ => ?_)
          refine j_b1 [(i6 v3), (.slice x6.A x6.n x6.c), (i6 v5)] rfl ?_
          refine r_nil ?_
          refine j_then ?_
          refine j_seq ?_
          refine j_region ?_
          refine r_q (q_loadb_agg 1 rfl ag53 sz53 rfl rfl rfl rfl) rfl rfl ?_
          refine r_do (a_storeb 2 rfl sz53 rfl rfl rfl rfl (Nat.le_of_ble_eq_true rfl) rfl) rfl rfl (fun _ => ?_)
          refine j_b2 [(i6 v3), (.slice x6.A x6.n x6.c), (i6 v5)] rfl ?_
          refine r_q (q_assign rfl rfl) rfl rfl ?_
          refine r_nil ?_
          refine j_then ?_
          refine j_ret ?_
          cases h
          exact j_return rfl (ResOf.cell 2 rfl rfl ag53 sz53 (ResOf.tmp rfl ResOf.nil)) rfl (fun w h => ⟨⟨x6.A, x6.n, x6.c, (x8.h.trans x6.h)⟩, rfl, h.pick 5 [0] rfl⟩)
        · refine j_false rfl (beq_f c4) ?_
          refine j_skip ?_
          refine j_then ?_
          refine j_seq ?_
          refine j_region ?_
          refine r_q (q_loadb_agg 0 rfl ag53 sz53 rfl rfl rfl rfl) rfl rfl ?_
          refine r_do (a_storeb 2 rfl sz53 rfl rfl rfl rfl (Nat.le_of_ble_eq_true rfl) rfl) rfl rfl (fun _ => ?_)
          refine j_b2 [(i6 v3), (.slice x6.A x6.n x6.c), (i6 v5)] rfl ?_
          refine r_q (q_assign rfl rfl) rfl rfl ?_
          refine r_nil ?_
          refine j_then ?_
          refine j_ret ?_
          cases h
          exact j_return rfl (ResOf.cell 2 rfl rfl ag53 sz53 (ResOf.tmp rfl ResOf.nil)) rfl (fun w h => ⟨⟨x6.A, x6.n, x6.c, x6.h⟩, rfl, h.pick 5 [1] rfl⟩)
    · refine j_true rfl (not_t (var_f c2)) ?_
      refine j_seq ?_
      refine j_region ?_
      refine r_q (q_build (cs := [(i6 (0:Int)), (.slice none 0 0), (i6 (0:Int))]) zr53 pl53 rfl rfl rfl rfl) rfl rfl ?_
      refine r_do (a_storeb 0 rfl sz53 rfl rfl rfl rfl (Nat.le_of_ble_eq_true rfl) rfl) rfl rfl (fun _ => ?_)
      refine j_b0 [(i6 (0:Int)), (.slice none 0 0), (i6 (0:Int))] rfl ?_
      refine r_q (q_assign rfl rfl) rfl rfl ?_
      refine r_nil ?_
      refine j_then ?_
      refine j_ret ?_
      refine j_then_ret ?_
      refine j_nil 3 1 ?_
      cases h
      exact j_return rfl (ResOf.cell 1 rfl rfl ag53 sz53 (ResOf.tmp rfl ResOf.nil)) rfl (fun w h => ⟨⟨none, 0, 0, rfl⟩, rfl, h.pick 4 [0] rfl⟩)
  · refine r_off rfl rfl rfl rfl (not_t (var_f c1)) rfl ?_
    refine r_off rfl rfl rfl rfl (not_t (var_f c1)) rfl ?_
    refine r_off rfl rfl rfl rfl (not_t (var_f c1)) rfl ?_
    refine r_off rfl rfl rfl rfl (not_t (var_f c1)) rfl ?_
    refine r_off rfl rfl rfl rfl (not_t (var_f c1)) rfl ?_
    refine r_q (q_pick_t rfl rfl (not_t (var_f c1)) rfl) rfl rfl ?_
    refine r_nil ?_
    refine j_then ?_
    refine j_true rfl rfl ?_
    refine j_seq ?_
    refine j_region ?_
    refine r_q (q_build (cs := [(i6 (0:Int)), (.slice none 0 0), (i6 (0:Int))]) zr53 pl53 rfl rfl rfl rfl) rfl rfl ?_
    refine r_do (a_storeb 0 rfl sz53 rfl rfl rfl rfl (Nat.le_of_ble_eq_true rfl) rfl) rfl rfl (fun _ => ?_)
    refine j_b0 [(i6 (0:Int)), (.slice none 0 0), (i6 (0:Int))] rfl ?_
    refine r_q (q_assign rfl rfl) rfl rfl ?_
    refine r_nil ?_
    refine j_then ?_
    refine j_ret ?_
    refine j_then_ret ?_
    refine j_nil 3 1 ?_
    cases h
    exact j_return rfl (ResOf.cell 1 rfl rfl ag53 sz53 (ResOf.tmp rfl ResOf.nil)) rfl (fun w h => ⟨⟨none, 0, 0, rfl⟩, rfl, h.pick 4 [0] rfl⟩)

theorem impl_ShadeGc.calls (K : Nat) (a0_0 : List Int) (a0_0_A : Option Addr) (a0_0_n a0_0_c : Nat) (a0_1 : List Int) (a0_1_A : Option Addr) (a0_1_n a0_1_c : Nat) (a0_2 : List Int) (a0_2_A : Option Addr) (a0_2_n a0_2_c : Nat) (a0_3 : List Int) (a0_3_A : Option Addr) (a0_3_n a0_3_c : Nat) (a1_0 : Int) (a1_1 : List Int) (a1_1_A : Option Addr) (a1_1_n a1_1_c : Nat) (a1_2 : Int) (a2 : Int) {w0 w : World} {F : List Res} {r1 : Int} {r2 : List Int} {r3 : Int} {r4 : Bool} (hm : Mem w0 (F) w) (a0_0_h : a0_0.length = a0_0_n) (a0_0_R : Rd w0 F a0_0_A (ii a0_0)) (a0_1_h : a0_1.length = a0_1_n) (a0_1_R : Rd w0 F a0_1_A (ii a0_1)) (a0_2_h : a0_2.length = a0_2_n) (a0_2_R : Rd w0 F a0_2_A (ii a0_2)) (a0_3_h : a0_3.length = a0_3_n) (a0_3_R : Rd w0 F a0_3_A (ii a0_3)) (a0_3_k : a0_3.length ≤ a0_3_c) (a1_1_h : a1_1.length = a1_1_n) (a1_1_R : Rd w0 F a1_1_A (ii a1_1)) (h : impl_ShadeGc.f K a0_0 a0_1 a0_2 a0_3 a1_0 a1_1 a1_2 a2 = some (r1, r2, r3, r4)) :
    Calls Try.prog 46 (List.toArray [.agg (List.toArray [.slice a0_0_A a0_0_n a0_0_c, .slice a0_1_A a0_1_n a0_1_c, .slice a0_2_A a0_2_n a0_2_c, .slice a0_3_A a0_3_n a0_3_c]), .agg (List.toArray [i6 a1_0, .slice a1_1_A a1_1_n a1_1_c, i6 a1_2]), i6 a2]) w fun e w' => ∃ x : (Sl r2.length), e = .returned (.tuple (List.toArray [.agg (List.toArray [i6 r1, .slice x.A x.n x.c, i6 r3]), .bool r4])) ∧ Mem w0 (.row x.A x.c 3 1 (ii r2) :: F) w' := by
  unfold impl_ShadeGc.f at h
  refine calls_of_J (n := 37) Try.func46 rfl rfl rfl hm ?_
  refine j_seq ?_
  refine j_region ?_
  refine r_do (a_box rfl rfl) rfl rfl (fun x1 => ?_)
  refine r_do (a_box rfl rfl) rfl rfl (fun x2 => ?_)
  refine r_do (a_alloc zr53 rfl) rfl rfl (fun x3 => ?_)
  refine r_q (q_assign rfl rfl) rfl rfl ?_
  refine r_nil ?_
  refine j_then ?_
  refine j_seq ?_
  refine j_seq ?_
  refine j_region ?_
  refine r_q (q_loadb_agg 2 rfl ag57 sz57 rfl rfl rfl rfl) rfl rfl ?_
  refine r_q (q_loadb_agg 1 rfl ag53 sz53 rfl rfl rfl rfl) rfl rfl ?_
  obtain ⟨v1, hb1, h⟩ := of_b1 h
  refine r_do (a_call ok50 rfl rfl rfl rfl (fun w hm => impl_GcValid.calls K a0_0 a0_0_A a0_0_n a0_0_c a0_1 a0_1_A a0_1_n a0_1_c a0_2 a0_2_A a0_2_n a0_2_c a0_3 a0_3_A a0_3_n a0_3_c a1_0 a1_1 a1_1_A a1_1_n a1_1_c a1_2 hm a0_0_h (Rd.drop 3 a0_0_R) a0_1_h (Rd.drop 3 a0_1_R) a0_2_h (Rd.drop 3 a0_2_R) a0_3_h (Rd.drop 3 a0_3_R) a0_3_k a1_1_h (Rd.drop 3 a1_1_R) hb1)) rfl rfl (fun x4 => ?_)
  refine r_q (q_not rfl rfl) rfl rfl ?_
  refine r_q (q_move rfl rfl) rfl rfl ?_
  rcases of_if h with ⟨c1, h⟩ | ⟨c1, h⟩
  · refine r_qon (q_fieldAddr fi57_0 sz25 rfl rfl rfl) rfl rfl rfl rfl (not_f c1) rfl ?_
    refine r_qon (q_loadb_agg 2 rfl ag25 sz25 rfl rfl rfl rfl) rfl rfl rfl rfl (not_f c1) rfl ?_
    refine r_qon (q_move rfl rfl) rfl rfl rfl rfl (not_f c1) rfl ?_
    obtain ⟨v2, hb2, h⟩ := of_b1 h
    refine r_on (a_call ok56 rfl rfl rfl rfl (fun w hm => impl_has.calls K a0_0 a0_0_A a0_0_n a0_0_c a0_1 a0_1_A a0_1_n a0_1_c a0_2 a0_2_A a0_2_n a0_2_c a2 hm a0_0_h (Rd.drop 3 a0_0_R) a0_1_h (Rd.drop 3 a0_1_R) a0_2_h (Rd.drop 3 a0_2_R) hb2)) rfl rfl rfl rfl (not_f c1) rfl (fun x5 => ?_)
    refine r_qon (q_not rfl rfl) rfl rfl rfl rfl (not_f c1) rfl ?_
    refine r_q (q_pick_f rfl rfl (not_f c1) rfl) rfl rfl ?_
    refine r_nil ?_
    refine j_then ?_
    rcases of_if h with ⟨c2, h⟩ | ⟨c2, h⟩
    · refine j_false rfl (not_f c2) ?_
      refine j_skip ?_
      refine j_then ?_
      refine j_seq ?_
      refine j_region ?_
      refine r_q (q_fieldAddr fi53_1 sz23 rfl rfl rfl) rfl rfl ?_
      refine r_q (q_loadb 1 rfl ag23 rfl rfl rfl) rfl rfl ?_
      obtain ⟨v3, hb3, h⟩ := of_b1 h
      refine r_do (a_call ok82 rfl rfl rfl rfl (fun w hm => slices_Clone_int.calls K a1_1 a1_1_A a1_1_n a1_1_c hm a1_1_h (Rd.drop 3 a1_1_R) hb3)) rfl rfl (fun x6 => ?_)
      refine r_q (q_fieldAddr fi53_1 sz23 rfl rfl rfl) rfl rfl ?_
      refine r_do (a_storeb 2 rfl sz23 rfl rfl rfl rfl (Nat.le_of_ble_eq_true rfl) rfl) rfl rfl (fun _ => ?_)
      refine j_b2 [(i6 a1_0), (.slice x6.A x6.n x6.c), (i6 a1_2)] rfl ?_
      refine r_nil ?_
      refine j_then ?_
      refine j_seq ?_
      refine j_seq ?_
      refine j_region ?_
      refine r_q (q_fieldAddr fi53_0 sz3 rfl rfl rfl) rfl rfl ?_
      refine r_q (q_loadb 2 rfl ag3 rfl rfl rfl) rfl rfl ?_
      refine r_q (q_eql rfl rfl rfl) rfl rfl ?_
      refine r_q (q_move rfl rfl) rfl rfl ?_
      rcases of_if h with ⟨c3, h⟩ | ⟨c3, h⟩
      · refine r_off rfl rfl rfl rfl (beq_t c3) rfl ?_
        refine r_off rfl rfl rfl rfl (beq_t c3) rfl ?_
        refine r_off rfl rfl rfl rfl (beq_t c3) rfl ?_
        refine r_q (q_pick_t rfl rfl (beq_t c3) rfl) rfl rfl ?_
        refine r_nil ?_
        refine j_then ?_
        refine j_true rfl rfl ?_
        refine j_region ?_
        refine r_q (q_fieldAddr fi53_1 sz23 rfl rfl rfl) rfl rfl ?_
        refine r_q (q_loadb 2 rfl ag23 rfl rfl rfl) rfl rfl ?_
        refine r_q (q_move rfl rfl) rfl rfl ?_
        obtain ⟨v4, hb4, h⟩ := of_b1 h
        refine r_do (a_call ok58 rfl rfl rfl rfl (fun w hm => impl_shade.calls K v3 x6.A x6.n x6.c a2 hm x6.h hb4)) rfl rfl (fun x7 => ?_)
        refine r_nil ?_
        refine j_then ?_
        refine j_seq ?_
        refine j_region ?_
        refine r_q (q_loadb_agg 2 rfl ag53 sz53 rfl rfl rfl rfl) rfl rfl ?_
        refine r_do (a_storeb 1 rfl sz53 rfl rfl rfl rfl (Nat.le_of_ble_eq_true rfl) rfl) rfl rfl (fun _ => ?_)
        refine j_b1 [(i6 a1_0), (.slice x6.A x6.n x6.c), (i6 a1_2)] rfl ?_
        refine r_q (q_assign rfl rfl) rfl rfl ?_
        refine r_nil ?_
        refine j_then ?_
        refine j_ret ?_
        cases h
        exact j_return rfl (ResOf.cell 1 rfl rfl ag53 sz53 (ResOf.tmp rfl ResOf.nil)) rfl (fun w h => ⟨⟨x6.A, x6.n, x6.c, (x7.h.trans x6.h)⟩, rfl, h.pick 4 [0] rfl⟩)
      · refine r_qon (q_fieldAddr fi53_0 sz3 rfl rfl rfl) rfl rfl rfl rfl (beq_f c3) rfl ?_
        refine r_qon (q_loadb 2 rfl ag3 rfl rfl rfl) rfl rfl rfl rfl (beq_f c3) rfl ?_
        refine r_qon (q_eql rfl rfl rfl) rfl rfl rfl rfl (beq_f c3) rfl ?_
        refine r_q (q_pick_f rfl rfl (beq_f c3) rfl) rfl rfl ?_
        refine r_nil ?_
        refine j_then ?_
        rcases of_if h with ⟨c4, h⟩ | ⟨c4, h⟩
        · refine j_true rfl (beq_t c4) ?_
          refine j_region ?_
          refine r_q (q_fieldAddr fi53_1 sz23 rfl rfl rfl) rfl rfl ?_
          refine r_q (q_loadb 2 rfl ag23 rfl rfl rfl) rfl rfl ?_
          refine r_q (q_move rfl rfl) rfl rfl ?_
          obtain ⟨v5, hb5, h⟩ := of_b1 h
          refine r_do (a_call ok58 rfl rfl rfl rfl (fun w hm => impl_shade.calls K v3 x6.A x6.n x6.c a2 hm x6.h hb5)) rfl rfl (fun x7 => ?_)
          refine r_nil ?_
          refine j_then ?_
          refine j_seq ?_
          refine j_region ?_
          refine r_q (q_loadb_agg 2 rfl ag53 sz53 rfl rfl rfl rfl) rfl rfl ?_
          refine r_do (a_storeb 1 rfl sz53 rfl rfl rfl rfl (Nat.le_of_ble_eq_true rfl) rfl) rfl rfl (fun _ => ?_)
          refine j_b1 [(i6 a1_0), (.slice x6.A x6.n x6.c), (i6 a1_2)] rfl ?_
          refine r_q (q_assign rfl rfl) rfl rfl ?_
          refine r_nil ?_
          refine j_then ?_
          refine j_ret ?_
          cases h
          exact j_return rfl (ResOf.cell 1 rfl rfl ag53 sz53 (ResOf.tmp rfl ResOf.nil)) rfl (fun w h => ⟨⟨x6.A, x6.n, x6.c, (x7.h.trans x6.h)⟩, rfl, h.pick 4 [0] rfl⟩)
        · refine j_false rfl (beq_f c4) ?_
          refine j_skip ?_
          refine j_then ?_
          refine j_seq ?_
          refine j_region ?_
          refine r_q (q_loadb_agg 2 rfl ag53 sz53 rfl rfl rfl rfl) rfl rfl ?_
          refine r_do (a_storeb 1 rfl sz53 rfl rfl rfl rfl (Nat.le_of_ble_eq_true rfl) rfl) rfl rfl (fun _ => ?_)
          refine j_b1 [(i6 a1_0), (.slice x6.A x6.n x6.c), (i6 a1_2)] rfl ?_
          refine r_q (q_assign rfl rfl) rfl rfl ?_
          refine r_nil ?_
          refine j_then ?_
          refine j_ret ?_
          cases h
          exact j_return rfl (ResOf.cell 1 rfl rfl ag53 sz53 (ResOf.tmp rfl ResOf.nil)) rfl (fun w h => ⟨⟨x6.A, x6.n, x6.c, x6.h⟩, rfl, h.pick 4 [0] rfl⟩)
    · refine j_true rfl (not_t (var_f c2)) ?_
      refine j_seq ?_
      refine j_region ?_
      refine r_q (q_build (cs := [(i6 (0:Int)), (.slice none 0 0), (i6 (0:Int))]) zr53 pl53 rfl rfl rfl rfl) rfl rfl ?_
      refine r_do (a_storeb 0 rfl sz53 rfl rfl rfl rfl (Nat.le_of_ble_eq_true rfl) rfl) rfl rfl (fun _ => ?_)
      refine j_b0 [(i6 (0:Int)), (.slice none 0 0), (i6 (0:Int))] rfl ?_
      refine r_q (q_assign rfl rfl) rfl rfl ?_
      refine r_nil ?_
      refine j_then ?_
      refine j_ret ?_
      refine j_then_ret ?_
      refine j_nil 3 1 ?_
      cases h
      exact j_return rfl (ResOf.cell 1 rfl rfl ag53 sz53 (ResOf.tmp rfl ResOf.nil)) rfl (fun w h => ⟨⟨none, 0, 0, rfl⟩, rfl, h.pick 4 [0] rfl⟩)
  · refine r_off rfl rfl rfl rfl (not_t (var_f c1)) rfl ?_
    refine r_off rfl rfl rfl rfl (not_t (var_f c1)) rfl ?_
    refine r_off rfl rfl rfl rfl (not_t (var_f c1)) rfl ?_
    refine r_off rfl rfl rfl rfl (not_t (var_f c1)) rfl ?_
    refine r_off rfl rfl rfl rfl (not_t (var_f c1)) rfl ?_
    refine r_q (q_pick_t rfl rfl (not_t (var_f c1)) rfl) rfl rfl ?_
    refine r_nil ?_
    refine j_then ?_
    refine j_true rfl rfl ?_
    refine j_seq ?_
    refine j_region ?_
    refine r_q (q_build (cs := [(i6 (0:Int)), (.slice none 0 0), (i6 (0:Int))]) zr53 pl53 rfl rfl rfl rfl) rfl rfl ?_
    refine r_do (a_storeb 0 rfl sz53 rfl rfl rfl rfl (Nat.le_of_ble_eq_true rfl) rfl) rfl rfl (fun _ => ?_)
    refine j_b0 [(i6 (0:Int)), (.slice none 0 0), (i6 (0:Int))] rfl ?_
    refine r_q (q_assign rfl rfl) rfl rfl ?_
    refine r_nil ?_
    refine j_then ?_
    refine j_ret ?_
    refine j_then_ret ?_
    refine j_nil 3 1 ?_
    cases h
    exact j_return rfl (ResOf.cell 1 rfl rfl ag53 sz53 (ResOf.tmp rfl ResOf.nil)) rfl (fun w h => ⟨⟨none, 0, 0, rfl⟩, rfl, h.pick 4 [0] rfl⟩)

theorem laws_FnExactShadeGc.calls (K : Nat) (a0_0 : List Int) (a0_0_A : Option Addr) (a0_0_n a0_0_c : Nat) (a0_1 : List Int) (a0_1_A : Option Addr) (a0_1_n a0_1_c : Nat) (a0_2 : List Int) (a0_2_A : Option Addr) (a0_2_n a0_2_c : Nat) (a0_3 : List Int) (a0_3_A : Option Addr) (a0_3_n a0_3_c : Nat) (a1_0 : Int) (a1_1 : List Int) (a1_1_A : Option Addr) (a1_1_n a1_1_c : Nat) (a1_2 : Int) (a2 : Int) {w0 w : World} {F : List Res} {r1 : Bool} (hm : Mem w0 (F) w) (a0_0_h : a0_0.length = a0_0_n) (a0_0_R : Rd w0 F a0_0_A (ii a0_0)) (a0_1_h : a0_1.length = a0_1_n) (a0_1_R : Rd w0 F a0_1_A (ii a0_1)) (a0_2_h : a0_2.length = a0_2_n) (a0_2_R : Rd w0 F a0_2_A (ii a0_2)) (a0_3_h : a0_3.length = a0_3_n) (a0_3_R : Rd w0 F a0_3_A (ii a0_3)) (a1_1_h : a1_1.length = a1_1_n) (a1_1_R : Rd w0 F a1_1_A (ii a1_1)) (h : laws_FnExactShadeGc.f K a0_0 a0_1 a0_2 a0_3 a1_0 a1_1 a1_2 a2 = some r1) :
    Calls Try.prog 11 (List.toArray [.agg (List.toArray [.slice a0_0_A a0_0_n a0_0_c, .slice a0_1_A a0_1_n a0_1_c, .slice a0_2_A a0_2_n a0_2_c, .slice a0_3_A a0_3_n a0_3_c]), .agg (List.toArray [i6 a1_0, .slice a1_1_A a1_1_n a1_1_c, i6 a1_2]), i6 a2]) w fun e w' => ∃ x : Unit, e = .returned (.bool r1) ∧ Mem w0 (F) w' := by
  unfold laws_FnExactShadeGc.f at h
  refine calls_of_J (n := 124) Try.func11 rfl rfl rfl hm ?_
  refine j_seq ?_
  refine j_region ?_
  refine r_do (a_box rfl rfl) rfl rfl (fun x1 => ?_)
  refine r_do (a_box rfl rfl) rfl rfl (fun x2 => ?_)
  refine r_q (q_assign rfl rfl) rfl rfl ?_
  refine r_nil ?_
  refine j_then ?_
  refine j_seq ?_
  refine j_region ?_
  refine r_q (q_assign rfl rfl) rfl rfl ?_
  refine r_nil ?_
  refine j_then ?_
  refine j_seq ?_
  refine j_region ?_
  refine r_q (q_loadb_agg 1 rfl ag48 sz48 rfl rfl rfl rfl) rfl rfl ?_
  refine r_q (q_move rfl rfl) rfl rfl ?_
  obtain ⟨v1, hb1, h⟩ := of_b1 h
  refine r_do (a_call ok34 rfl rfl rfl rfl (fun w hm => laws_szStore.calls K a0_0 a0_0_A a0_0_n a0_0_c a0_1 a0_1_A a0_1_n a0_1_c a0_2 a0_2_A a0_2_n a0_2_c a0_3 a0_3_A a0_3_n a0_3_c (1048576:Int) hm a0_0_h (Rd.drop 2 a0_0_R) a0_1_h (Rd.drop 2 a0_1_R) a0_2_h (Rd.drop 2 a0_2_R) a0_3_h (Rd.drop 2 a0_3_R) hb1)) rfl rfl (fun x3 => ?_)
  refine r_q (q_assign rfl rfl) rfl rfl ?_
  refine r_nil ?_
  refine j_then ?_
  refine j_seq ?_
  refine j_seq ?_
  refine j_region ?_
  refine r_q (q_move rfl rfl) rfl rfl ?_
  refine r_q (q_lss rfl rfl rfl) rfl rfl ?_
  refine r_nil ?_
  refine j_then ?_
  rcases of_if h with ⟨c1, h⟩ | ⟨c1, h⟩
  · refine j_true rfl (decide_eq_true c1) ?_
    refine j_seq ?_
    refine j_region ?_
    refine r_q (q_assign rfl rfl) rfl rfl ?_
    refine r_nil ?_
    refine j_then ?_
    refine j_ret ?_
    refine j_then_ret ?_
    cases h
    exact j_return rfl (ResOf.tmp rfl ResOf.nil) rfl (fun w h => ⟨(), rfl, (h.drop 2)⟩)
  · refine j_false rfl (decide_eq_false c1) ?_
    refine j_skip ?_
    refine j_then ?_
    refine j_seq ?_
    refine j_region ?_
    refine r_q (q_loadb_agg 0 rfl ag50 sz50 rfl rfl rfl rfl) rfl rfl ?_
    refine r_q (q_move rfl rfl) rfl rfl ?_
    obtain ⟨v2, hb2, h⟩ := of_b1 h
    refine r_do (a_call ok35 rfl rfl rfl rfl (fun w hm => laws_szGc.calls K a1_0 a1_1 a1_1_A a1_1_n a1_1_c a1_2 v1 hm a1_1_h (Rd.drop 2 a1_1_R) hb2)) rfl rfl (fun x4 => ?_)
    refine r_q (q_assign rfl rfl) rfl rfl ?_
    refine r_nil ?_
    refine j_then ?_
    refine j_seq ?_
    refine j_seq ?_
    refine j_region ?_
    refine r_q (q_move rfl rfl) rfl rfl ?_
    refine r_q (q_lss rfl rfl rfl) rfl rfl ?_
    refine r_nil ?_
    refine j_then ?_
    rcases of_if h with ⟨c2, h⟩ | ⟨c2, h⟩
    · refine j_true rfl (decide_eq_true c2) ?_
      refine j_seq ?_
      refine j_region ?_
      refine r_q (q_assign rfl rfl) rfl rfl ?_
      refine r_nil ?_
      refine j_then ?_
      refine j_ret ?_
      refine j_then_ret ?_
      cases h
      exact j_return rfl (ResOf.tmp rfl ResOf.nil) rfl (fun w h => ⟨(), rfl, (h.drop 2)⟩)
    · refine j_false rfl (decide_eq_false c2) ?_
      refine j_skip ?_
      refine j_then ?_
      refine j_seq ?_
      obtain ⟨v3, v4, v5, v6, hb3, h⟩ := of_b4 h
      obtain ⟨v7, v8, v9, hb4, h⟩ := of_b3 h
      obtain ⟨v10, v11, v12, v13, hb5, h⟩ := of_b4 h
      refine j_draw (.box x2 50 [(i6 a1_0), (.slice a1_1_A a1_1_n a1_1_c), (i6 a1_2)] :: .box x1 48 [(.slice a0_0_A a0_0_n a0_0_c), (.slice a0_1_A a0_1_n a0_1_c), (.slice a0_2_A a0_2_n a0_2_c), (.slice a0_3_A a0_3_n a0_3_c)] :: F) 12 follows_any rfl ?_
      refine d_take 0 rfl (q_loadb_agg 1 rfl ag48 sz48 rfl rfl rfl rfl) rfl rfl (by kernel_rfl) (by kernel_rfl) (by kernel_rfl) (fun w h => h) ?_
      refine d_take 2 rfl (q_loadb_agg 0 rfl ag50 sz50 rfl rfl rfl rfl) rfl rfl (by kernel_rfl) (by kernel_rfl) (by kernel_rfl) (fun w h => h) ?_
      refine d_take 4 rfl (q_move rfl rfl) rfl rfl (by kernel_rfl) (by kernel_rfl) (by kernel_rfl) (fun w h => h) ?_
      refine d_join (σ := ((Sl v3.length) × (Sl v4.length) × (Sl v5.length) × (Sl v6.length)) × ((Sl v8.length)) × ((Sl v11.length)) × Nat) 0 #[true, true, true, true, true, true, true, true, true, true, true, true] (fun s => [(2, (i6 a2)), (3, (pt x1)), (4, (pt x2)), (8, (pt s.2.2.2)), (9, (.bool v13))]) (fun s => .row s.1.1.A s.1.1.c 3 1 (ii v3) :: .row s.1.2.1.A s.1.2.1.c 3 1 (ii v4) :: .row s.1.2.2.1.A s.1.2.2.1.c 3 1 (ii v5) :: .row s.1.2.2.2.A s.1.2.2.2.c 3 1 (ii v6) :: .row s.2.1.A s.2.1.c 3 1 (ii v8) :: .row s.2.2.1.A s.2.2.1.c 3 1 (ii v11) :: .box s.2.2.2 53 [(i6 v10), (.slice s.2.2.1.A s.2.2.1.n s.2.2.1.c), (i6 v12)] :: .box x2 50 [(i6 a1_0), (.slice a1_1_A a1_1_n a1_1_c), (i6 a1_2)] :: .box x1 48 [(.slice a0_0_A a0_0_n a0_0_c), (.slice a0_1_A a0_1_n a0_1_c), (.slice a0_2_A a0_2_n a0_2_c), (.slice a0_3_A a0_3_n a0_3_c)] :: F) ?_ (fun hD4095 => ?_)
      · rintro ⟨x5, x6, x7, x8⟩
        show J _ _ [(2, (i6 a2)), (3, (pt x1)), (4, (pt x2)), (8, (pt x8)), (9, (.bool v13))] _ (.row x5.1.A x5.1.c 3 1 (ii v3) :: .row x5.2.1.A x5.2.1.c 3 1 (ii v4) :: .row x5.2.2.1.A x5.2.2.1.c 3 1 (ii v5) :: .row x5.2.2.2.A x5.2.2.2.c 3 1 (ii v6) :: .row x6.A x6.c 3 1 (ii v8) :: .row x7.A x7.c 3 1 (ii v11) :: .box x8 53 [(i6 v10), (.slice x7.A x7.n x7.c), (i6 v12)] :: .box x2 50 [(i6 a1_0), (.slice a1_1_A a1_1_n a1_1_c), (i6 a1_2)] :: .box x1 48 [(.slice a0_0_A a0_0_n a0_0_c), (.slice a0_1_A a0_1_n a0_1_c), (.slice a0_2_A a0_2_n a0_2_c), (.slice a0_3_A a0_3_n a0_3_c)] :: F)
        refine d_done (by kernel_rfl) ?_
        refine j_then ?_
        refine j_seq ?_
        refine j_region ?_
        refine r_q (q_loadb_agg 8 rfl ag48 sz48 rfl rfl rfl rfl) rfl rfl ?_
        obtain ⟨v14, v15, v16, v17, hb6, h⟩ := of_b4 h
        refine r_do (a_call ok37 rfl rfl rfl rfl (fun w hm => laws_toStore.calls K a0_0 a0_0_A a0_0_n a0_0_c a0_1 a0_1_A a0_1_n a0_1_c a0_2 a0_2_A a0_2_n a0_2_c a0_3 a0_3_A a0_3_n a0_3_c hm a0_0_h (Rd.drop 9 a0_0_R) a0_1_h (Rd.drop 9 a0_1_R) a0_2_h (Rd.drop 9 a0_2_R) a0_3_h (Rd.drop 9 a0_3_R) hb6)) rfl rfl (fun x9 => ?_)
        refine r_do (a_alloc zr57 rfl) rfl rfl (fun x10 => ?_)
        refine r_do (a_storeb 0 rfl sz57 rfl rfl rfl rfl (Nat.le_of_ble_eq_true rfl) rfl) rfl rfl (fun _ => ?_)
        refine j_b0 [(.slice x9.1.A x9.1.n x9.1.c), (.slice x9.2.1.A x9.2.1.n x9.2.1.c), (.slice x9.2.2.1.A x9.2.2.1.n x9.2.2.1.c), (.slice x9.2.2.2.A x9.2.2.2.n x9.2.2.2.c)] rfl ?_
        refine r_nil ?_
        refine j_then ?_
        refine j_seq ?_
        refine j_region ?_
        refine r_q (q_loadb_agg 12 rfl ag50 sz50 rfl rfl rfl rfl) rfl rfl ?_
        obtain ⟨v18, v19, v20, hb7, h⟩ := of_b3 h
        refine r_do (a_call ok38 rfl rfl rfl rfl (fun w hm => laws_toGc.calls K a1_0 a1_1 a1_1_A a1_1_n a1_1_c a1_2 hm a1_1_h (Rd.drop 14 a1_1_R) hb7)) rfl rfl (fun x11 => ?_)
        refine r_do (a_alloc zr53 rfl) rfl rfl (fun x12 => ?_)
        refine r_do (a_storeb 0 rfl sz53 rfl rfl rfl rfl (Nat.le_of_ble_eq_true rfl) rfl) rfl rfl (fun _ => ?_)
        refine j_b0 [(i6 v18), (.slice x11.A x11.n x11.c), (i6 v20)] rfl ?_
        refine r_nil ?_
        refine j_then ?_
        refine j_seq ?_
        refine j_region ?_
        refine r_q (q_loadb_agg 2 rfl ag57 sz57 rfl rfl rfl rfl) rfl rfl ?_
        refine r_q (q_loadb_agg 0 rfl ag53 sz53 rfl rfl rfl rfl) rfl rfl ?_
        refine r_q (q_move rfl rfl) rfl rfl ?_
        obtain ⟨v21, v22, v23, v24, hb8, h⟩ := of_b4 h
        refine r_do (a_call ok46 rfl rfl rfl rfl (fun w hm => impl_ShadeGc.calls K v14 x9.1.A x9.1.n x9.1.c v15 x9.2.1.A x9.2.1.n x9.2.1.c v16 x9.2.2.1.A x9.2.2.1.n x9.2.2.1.c v17 x9.2.2.2.A x9.2.2.2.n x9.2.2.2.c v18 v19 x11.A x11.n x11.c v20 a2 hm x9.1.h (Rd.row 3 rfl) x9.2.1.h (Rd.row 4 rfl) x9.2.2.1.h (Rd.row 5 rfl) x9.2.2.2.h (Rd.row 6 rfl) (hm.roomI 6 rfl) x11.h (Rd.row 1 rfl) hb8)) rfl rfl (fun x13 => ?_)
        refine r_q (q_move rfl rfl) rfl rfl ?_
        refine r_q (q_extract rfl rfl rfl) rfl rfl ?_
        refine r_q (q_extract rfl rfl rfl) rfl rfl ?_
        refine r_do (a_alloc zr53 rfl) rfl rfl (fun x14 => ?_)
        refine r_do (a_storeb 0 rfl sz53 rfl rfl rfl rfl (Nat.le_of_ble_eq_true rfl) rfl) rfl rfl (fun _ => ?_)
        refine j_b0 [(i6 v21), (.slice x13.A x13.n x13.c), (i6 v23)] rfl ?_
        refine r_q (q_assign rfl rfl) rfl rfl ?_
        refine r_nil ?_
        refine j_then ?_
        refine j_seq ?_
        refine j_seq ?_
        refine j_region ?_
        refine r_q (q_loadb_agg 0 rfl ag53 sz53 rfl rfl rfl rfl) rfl rfl ?_
        refine r_q (q_loadb_agg 15 rfl ag53 sz53 rfl rfl rfl rfl) rfl rfl ?_
        obtain ⟨v25, hb9, h⟩ := of_b1 h
        refine r_do (a_call ok40 rfl rfl rfl rfl (fun w hm => laws_eqGc.calls K v21 v22 x13.A x13.n x13.c v23 v10 v11 x7.A x7.n x7.c v12 hm x13.h (Rd.row 1 rfl) x7.h (Rd.row 14 rfl) hb9)) rfl rfl (fun x15 => ?_)
        refine r_q (q_not rfl rfl) rfl rfl ?_
        refine r_q (q_move rfl rfl) rfl rfl ?_
        rcases of_if h with ⟨c3, h⟩ | ⟨c3, h⟩
        · refine r_qon (q_move rfl rfl) rfl rfl rfl rfl (not_f c3) rfl ?_
          refine r_qon (q_move rfl rfl) rfl rfl rfl rfl (not_f c3) rfl ?_
          refine r_qon (q_bneq un4 rfl rfl rfl) rfl rfl rfl rfl (not_f c3) rfl ?_
          refine r_q (q_pick_f rfl rfl (not_f c3) rfl) rfl rfl ?_
          refine r_nil ?_
          refine j_then ?_
          rcases of_if h with ⟨c4, h⟩ | ⟨c4, h⟩
          · refine j_false rfl (bne_f c4) ?_
            refine j_skip ?_
            refine j_then ?_
            refine j_seq ?_
            refine j_seq ?_
            obtain ⟨v26, v27, v28, v29, hb10, h⟩ := of_b4 h
            obtain ⟨v30, hb11, h⟩ := of_b1 h
            refine j_draw (.box x14 53 [(i6 v21), (.slice x13.A x13.n x13.c), (i6 v23)] :: .row x13.A x13.c 3 1 (ii v22) :: .box x12 53 [(i6 v18), (.slice x11.A x11.n x11.c), (i6 v20)] :: .row x11.A x11.c 3 1 (ii v19) :: .box x10 57 [(.slice x9.1.A x9.1.n x9.1.c), (.slice x9.2.1.A x9.2.1.n x9.2.1.c), (.slice x9.2.2.1.A x9.2.2.1.n x9.2.2.1.c), (.slice x9.2.2.2.A x9.2.2.2.n x9.2.2.2.c)] :: .row x9.1.A x9.1.c 3 1 (ii v14) :: .row x9.2.1.A x9.2.1.c 3 1 (ii v15) :: .row x9.2.2.1.A x9.2.2.1.c 3 1 (ii v16) :: .row x9.2.2.2.A x9.2.2.2.c 3 1 (ii v17) :: .row x5.1.A x5.1.c 3 1 (ii v3) :: .row x5.2.1.A x5.2.1.c 3 1 (ii v4) :: .row x5.2.2.1.A x5.2.2.1.c 3 1 (ii v5) :: .row x5.2.2.2.A x5.2.2.2.c 3 1 (ii v6) :: .row x6.A x6.c 3 1 (ii v8) :: .row x7.A x7.c 3 1 (ii v11) :: .box x8 53 [(i6 v10), (.slice x7.A x7.n x7.c), (i6 v12)] :: .box x2 50 [(i6 a1_0), (.slice a1_1_A a1_1_n a1_1_c), (i6 a1_2)] :: .box x1 48 [(.slice a0_0_A a0_0_n a0_0_c), (.slice a0_1_A a0_1_n a0_1_c), (.slice a0_2_A a0_2_n a0_2_c), (.slice a0_3_A a0_3_n a0_3_c)] :: F) 5 follows_any rfl ?_
            refine d_take 0 rfl (q_loadb_agg 4 rfl ag57 sz57 rfl rfl rfl rfl) rfl rfl (by kernel_rfl) (by kernel_rfl) (by kernel_rfl) (fun w h => h) ?_
            refine d_take 1 rfl (q_loadb_agg 17 rfl ag48 sz48 rfl rfl rfl rfl) rfl rfl (by kernel_rfl) (by kernel_rfl) (by kernel_rfl) (fun w h => h) ?_
            refine d_one 2 (by kernel_rfl) ?_
            refine o_do rfl (a_call ok37 rfl rfl rfl rfl (fun w hm => laws_toStore.calls K a0_0 a0_0_A a0_0_n a0_0_c a0_1 a0_1_A a0_1_n a0_1_c a0_2 a0_2_A a0_2_n a0_2_c a0_3 a0_3_A a0_3_n a0_3_c hm a0_0_h (Rd.drop 18 a0_0_R) a0_1_h (Rd.drop 18 a0_1_R) a0_2_h (Rd.drop 18 a0_2_R) a0_3_h (Rd.drop 18 a0_3_R) hb10)) rfl rfl (fun x16 w h => (h.drop 4)) (fun x16 => ?_)
            refine d_one 3 (by kernel_rfl) ?_
            refine o_do rfl (a_call ok41 rfl rfl rfl rfl (fun w hm => laws_eqStore.calls K v14 x9.1.A x9.1.n x9.1.c v15 x9.2.1.A x9.2.1.n x9.2.1.c v16 x9.2.2.1.A x9.2.2.1.n x9.2.2.1.c v17 x9.2.2.2.A x9.2.2.2.n x9.2.2.2.c v26 x16.1.A x16.1.n x16.1.c v27 x16.2.1.A x16.2.1.n x16.2.1.c v28 x16.2.2.1.A x16.2.2.1.n x16.2.2.1.c v29 x16.2.2.2.A x16.2.2.2.n x16.2.2.2.c hm x9.1.h (Rd.row 9 rfl) x9.2.1.h (Rd.row 10 rfl) x9.2.2.1.h (Rd.row 11 rfl) x9.2.2.2.h (Rd.row 12 rfl) x16.1.h (Rd.row 0 rfl) x16.2.1.h (Rd.row 1 rfl) x16.2.2.1.h (Rd.row 2 rfl) x16.2.2.2.h (Rd.row 3 rfl) hb11)) rfl rfl (fun x17 w h => (h.drop 4)) (fun x17 => ?_)
            refine d_take 4 rfl (q_not rfl rfl) rfl rfl (by kernel_rfl) (by kernel_rfl) (by kernel_rfl) (fun w h => (h.drop 4)) ?_
            refine d_done (by kernel_rfl) ?_
            refine j_then ?_
            rcases of_if h with ⟨c5, h⟩ | ⟨c5, h⟩
            · refine j_false rfl (not_f c5) ?_
              refine j_skip ?_
              refine j_then ?_
              refine j_seq ?_
              refine j_seq ?_
              obtain ⟨v31, v32, v33, hb12, h⟩ := of_b3 h
              obtain ⟨v34, hb13, h⟩ := of_b1 h
              refine j_draw (.row x16.1.A x16.1.c 3 1 (ii v26) :: .row x16.2.1.A x16.2.1.c 3 1 (ii v27) :: .row x16.2.2.1.A x16.2.2.1.c 3 1 (ii v28) :: .row x16.2.2.2.A x16.2.2.2.c 3 1 (ii v29) :: .box x14 53 [(i6 v21), (.slice x13.A x13.n x13.c), (i6 v23)] :: .row x13.A x13.c 3 1 (ii v22) :: .box x12 53 [(i6 v18), (.slice x11.A x11.n x11.c), (i6 v20)] :: .row x11.A x11.c 3 1 (ii v19) :: .box x10 57 [(.slice x9.1.A x9.1.n x9.1.c), (.slice x9.2.1.A x9.2.1.n x9.2.1.c), (.slice x9.2.2.1.A x9.2.2.1.n x9.2.2.1.c), (.slice x9.2.2.2.A x9.2.2.2.n x9.2.2.2.c)] :: .row x9.1.A x9.1.c 3 1 (ii v14) :: .row x9.2.1.A x9.2.1.c 3 1 (ii v15) :: .row x9.2.2.1.A x9.2.2.1.c 3 1 (ii v16) :: .row x9.2.2.2.A x9.2.2.2.c 3 1 (ii v17) :: .row x5.1.A x5.1.c 3 1 (ii v3) :: .row x5.2.1.A x5.2.1.c 3 1 (ii v4) :: .row x5.2.2.1.A x5.2.2.1.c 3 1 (ii v5) :: .row x5.2.2.2.A x5.2.2.2.c 3 1 (ii v6) :: .row x6.A x6.c 3 1 (ii v8) :: .row x7.A x7.c 3 1 (ii v11) :: .box x8 53 [(i6 v10), (.slice x7.A x7.n x7.c), (i6 v12)] :: .box x2 50 [(i6 a1_0), (.slice a1_1_A a1_1_n a1_1_c), (i6 a1_2)] :: .box x1 48 [(.slice a0_0_A a0_0_n a0_0_c), (.slice a0_1_A a0_1_n a0_1_c), (.slice a0_2_A a0_2_n a0_2_c), (.slice a0_3_A a0_3_n a0_3_c)] :: F) 5 follows_any rfl ?_
              refine d_take 0 rfl (q_loadb_agg 6 rfl ag53 sz53 rfl rfl rfl rfl) rfl rfl (by kernel_rfl) (by kernel_rfl) (by kernel_rfl) (fun w h => h) ?_
              refine d_take 1 rfl (q_loadb_agg 20 rfl ag50 sz50 rfl rfl rfl rfl) rfl rfl (by kernel_rfl) (by kernel_rfl) (by kernel_rfl) (fun w h => h) ?_
              refine d_one 2 (by kernel_rfl) ?_
              refine o_do rfl (a_call ok38 rfl rfl rfl rfl (fun w hm => laws_toGc.calls K a1_0 a1_1 a1_1_A a1_1_n a1_1_c a1_2 hm a1_1_h (Rd.drop 22 a1_1_R) hb12)) rfl rfl (fun x18 w h => h.tail) (fun x18 => ?_)
              refine d_one 3 (by kernel_rfl) ?_
              refine o_do rfl (a_call ok40 rfl rfl rfl rfl (fun w hm => laws_eqGc.calls K v18 v19 x11.A x11.n x11.c v20 v31 v32 x18.A x18.n x18.c v33 hm x11.h (Rd.row 8 rfl) x18.h (Rd.row 0 rfl) hb13)) rfl rfl (fun x19 w h => h.tail) (fun x19 => ?_)
              refine d_take 4 rfl (q_not rfl rfl) rfl rfl (by kernel_rfl) (by kernel_rfl) (by kernel_rfl) (fun w h => h.tail) ?_
              refine d_done (by kernel_rfl) ?_
              refine j_then ?_
              rcases of_if h with ⟨c6, h⟩ | ⟨c6, h⟩
              · refine j_false rfl (not_f c6) ?_
                refine j_skip ?_
                refine j_then ?_
                refine j_seq ?_
                refine j_region ?_
                refine r_q (q_assign rfl rfl) rfl rfl ?_
                refine r_nil ?_
                refine j_then ?_
                refine j_seq ?_
                refine j_region ?_
                refine r_q (q_loadb_agg 9 rfl ag57 sz57 rfl rfl rfl rfl) rfl rfl ?_
                refine r_q (q_move rfl rfl) rfl rfl ?_
                obtain ⟨v35, v36, v37, v38, v39, hb14, h⟩ := of_b5 h
                refine j_rs (.row x9.1.A x9.1.c 3 1 (ii v14) :: .row x9.2.1.A x9.2.1.c 3 1 (ii v15) :: .row x9.2.2.1.A x9.2.2.1.c 3 1 (ii v16) :: .row x9.2.2.2.A x9.2.2.2.c 3 1 (ii v17) :: .row x18.A x18.c 3 1 (ii v32) :: .row x16.1.A x16.1.c 3 1 (ii v26) :: .row x16.2.1.A x16.2.1.c 3 1 (ii v27) :: .row x16.2.2.1.A x16.2.2.1.c 3 1 (ii v28) :: .row x16.2.2.2.A x16.2.2.2.c 3 1 (ii v29) :: .box x14 53 [(i6 v21), (.slice x13.A x13.n x13.c), (i6 v23)] :: .row x13.A x13.c 3 1 (ii v22) :: .box x12 53 [(i6 v18), (.slice x11.A x11.n x11.c), (i6 v20)] :: .row x11.A x11.c 3 1 (ii v19) :: .box x10 57 [(.slice x9.1.A x9.1.n x9.1.c), (.slice x9.2.1.A x9.2.1.n x9.2.1.c), (.slice x9.2.2.1.A x9.2.2.1.n x9.2.2.1.c), (.slice x9.2.2.2.A x9.2.2.2.n x9.2.2.2.c)] :: .row x5.1.A x5.1.c 3 1 (ii v3) :: .row x5.2.1.A x5.2.1.c 3 1 (ii v4) :: .row x5.2.2.1.A x5.2.2.1.c 3 1 (ii v5) :: .row x5.2.2.2.A x5.2.2.2.c 3 1 (ii v6) :: .row x6.A x6.c 3 1 (ii v8) :: .row x7.A x7.c 3 1 (ii v11) :: .box x8 53 [(i6 v10), (.slice x7.A x7.n x7.c), (i6 v12)] :: .box x2 50 [(i6 a1_0), (.slice a1_1_A a1_1_n a1_1_c), (i6 a1_2)] :: .box x1 48 [(.slice a0_0_A a0_0_n a0_0_c), (.slice a0_1_A a0_1_n a0_1_c), (.slice a0_2_A a0_2_n a0_2_c), (.slice a0_3_A a0_3_n a0_3_c)] :: F) (fun _ h => h.pick 23 [10, 11, 12, 13, 0, 1, 2, 3, 4, 5, 6, 7, 8, 9, 14, 15, 16, 17, 18, 19, 20, 21, 22] rfl) ?_
                refine r_do (a_call ok42 rfl rfl rfl rfl (fun w hm => laws_markStore.calls K v14 x9.1.A x9.1.n x9.1.c v15 x9.2.1.A x9.2.1.n x9.2.1.c v16 x9.2.2.1.A x9.2.2.1.n x9.2.2.1.c v17 x9.2.2.2.A x9.2.2.2.n x9.2.2.2.c (1:Int) hm x9.1.h x9.2.1.h x9.2.2.1.h x9.2.2.2.h hb14)) rfl rfl (fun x20 => ?_)
                refine r_q (q_assign rfl rfl) rfl rfl ?_
                refine r_nil ?_
                refine j_then ?_
                refine j_seq ?_
                refine j_region ?_
                refine r_q (q_loadb_agg 11 rfl ag53 sz53 rfl rfl rfl rfl) rfl rfl ?_
                refine r_q (q_move rfl rfl) rfl rfl ?_
                obtain ⟨v40, v41, hb15, h⟩ := of_b2 h
                refine j_rs (.row x11.A x11.c 3 1 (ii v19) :: .row x9.1.A x9.1.c 3 1 (ii v36) :: .row x9.2.1.A x9.2.1.c 3 1 (ii v37) :: .row x9.2.2.1.A x9.2.2.1.c 3 1 (ii v38) :: .row x9.2.2.2.A x9.2.2.2.c 3 1 (ii v39) :: .row x18.A x18.c 3 1 (ii v32) :: .row x16.1.A x16.1.c 3 1 (ii v26) :: .row x16.2.1.A x16.2.1.c 3 1 (ii v27) :: .row x16.2.2.1.A x16.2.2.1.c 3 1 (ii v28) :: .row x16.2.2.2.A x16.2.2.2.c 3 1 (ii v29) :: .box x14 53 [(i6 v21), (.slice x13.A x13.n x13.c), (i6 v23)] :: .row x13.A x13.c 3 1 (ii v22) :: .box x12 53 [(i6 v18), (.slice x11.A x11.n x11.c), (i6 v20)] :: .box x10 57 [(.slice x9.1.A x9.1.n x9.1.c), (.slice x9.2.1.A x9.2.1.n x9.2.1.c), (.slice x9.2.2.1.A x9.2.2.1.n x9.2.2.1.c), (.slice x9.2.2.2.A x9.2.2.2.n x9.2.2.2.c)] :: .row x5.1.A x5.1.c 3 1 (ii v3) :: .row x5.2.1.A x5.2.1.c 3 1 (ii v4) :: .row x5.2.2.1.A x5.2.2.1.c 3 1 (ii v5) :: .row x5.2.2.2.A x5.2.2.2.c 3 1 (ii v6) :: .row x6.A x6.c 3 1 (ii v8) :: .row x7.A x7.c 3 1 (ii v11) :: .box x8 53 [(i6 v10), (.slice x7.A x7.n x7.c), (i6 v12)] :: .box x2 50 [(i6 a1_0), (.slice a1_1_A a1_1_n a1_1_c), (i6 a1_2)] :: .box x1 48 [(.slice a0_0_A a0_0_n a0_0_c), (.slice a0_1_A a0_1_n a0_1_c), (.slice a0_2_A a0_2_n a0_2_c), (.slice a0_3_A a0_3_n a0_3_c)] :: F) (fun _ h => h.pick 23 [12, 0, 1, 2, 3, 4, 5, 6, 7, 8, 9, 10, 11, 13, 14, 15, 16, 17, 18, 19, 20, 21, 22] rfl) ?_
                refine r_do (a_call ok43 rfl rfl rfl rfl (fun w hm => laws_markGc.calls K v18 v19 x11.A x11.n x11.c v20 v35 hm x11.h hb15)) rfl rfl (fun x21 => ?_)
                refine r_q (q_assign rfl rfl) rfl rfl ?_
                refine r_nil ?_
                refine j_then ?_
                refine j_seq ?_
                refine j_seq ?_
                refine j_region ?_
                refine r_q (q_move rfl rfl) rfl rfl ?_
                refine r_q (q_lss rfl rfl rfl) rfl rfl ?_
                refine r_q (q_move rfl rfl) rfl rfl ?_
                rcases of_if h with ⟨c7, h⟩ | ⟨c7, h⟩
                · refine r_off rfl rfl rfl rfl (decide_eq_true c7) rfl ?_
                  refine r_off rfl rfl rfl rfl (decide_eq_true c7) rfl ?_
                  refine r_off rfl rfl rfl rfl (decide_eq_true c7) rfl ?_
                  refine r_off rfl rfl rfl rfl (decide_eq_true c7) rfl ?_
                  refine r_q (q_pick_t rfl rfl (decide_eq_true c7) rfl) rfl rfl ?_
                  refine r_q (q_move rfl rfl) rfl rfl ?_
                  refine r_off rfl rfl rfl rfl rfl rfl ?_
                  refine r_off rfl rfl rfl rfl rfl rfl ?_
                  refine r_off rfl rfl rfl rfl rfl rfl ?_
                  refine r_q (q_pick_t rfl rfl rfl rfl) rfl rfl ?_
                  refine r_nil ?_
                  refine j_then ?_
                  refine j_true rfl rfl ?_
                  refine j_seq ?_
                  refine j_region ?_
                  refine r_q (q_assign rfl rfl) rfl rfl ?_
                  refine r_nil ?_
                  refine j_then ?_
                  refine j_ret ?_
                  refine j_then_ret ?_
                  cases h
                  exact j_return rfl (ResOf.tmp rfl ResOf.nil) rfl (fun w h => ⟨(), rfl, (h.drop 23)⟩)
                · refine r_qon (q_loadb_agg 10 rfl ag53 sz53 rfl rfl rfl rfl) rfl rfl rfl rfl (decide_eq_false c7) rfl ?_
                  refine r_qon (q_loadb_agg 20 rfl ag53 sz53 rfl rfl rfl rfl) rfl rfl rfl rfl (decide_eq_false c7) rfl ?_
                  obtain ⟨v42, hb16, h⟩ := of_b1 h
                  refine r_on (a_call ok40 rfl rfl rfl rfl (fun w hm => laws_eqGc.calls K v21 v22 x13.A x13.n x13.c v23 v10 v11 x7.A x7.n x7.c v12 hm x13.h (Rd.row 11 rfl) x7.h (Rd.row 19 rfl) hb16)) rfl rfl rfl rfl (decide_eq_false c7) rfl (fun x22 => ?_)
                  refine r_qon (q_not rfl rfl) rfl rfl rfl rfl (decide_eq_false c7) rfl ?_
                  refine r_q (q_pick_f rfl rfl (decide_eq_false c7) rfl) rfl rfl ?_
                  refine r_q (q_move rfl rfl) rfl rfl ?_
                  rcases of_if h with ⟨c8, h⟩ | ⟨c8, h⟩
                  · refine r_qon (q_move rfl rfl) rfl rfl rfl rfl (not_f c8) rfl ?_
                    refine r_qon (q_move rfl rfl) rfl rfl rfl rfl (not_f c8) rfl ?_
                    refine r_qon (q_bneq un4 rfl rfl rfl) rfl rfl rfl rfl (not_f c8) rfl ?_
                    refine r_q (q_pick_f rfl rfl (not_f c8) rfl) rfl rfl ?_
                    refine r_nil ?_
                    refine j_then ?_
                    refine j_false rfl (bne_f c4) ?_
                    refine j_skip ?_
                    refine j_then ?_
                    refine j_seq ?_
                    refine j_region ?_
                    refine r_q (q_assign rfl rfl) rfl rfl ?_
                    refine r_nil ?_
                    refine j_then ?_
                    refine j_seq ?_
                    refine j_region ?_
                    refine r_q (q_loadb_agg 10 rfl ag53 sz53 rfl rfl rfl rfl) rfl rfl ?_
                    refine r_q (q_move rfl rfl) rfl rfl ?_
                    obtain ⟨v43, v44, hb17, h⟩ := of_b2 h
                    refine j_rs (.row x13.A x13.c 3 1 (ii v22) :: .row x11.A x11.c 3 1 (ii v41) :: .row x9.1.A x9.1.c 3 1 (ii v36) :: .row x9.2.1.A x9.2.1.c 3 1 (ii v37) :: .row x9.2.2.1.A x9.2.2.1.c 3 1 (ii v38) :: .row x9.2.2.2.A x9.2.2.2.c 3 1 (ii v39) :: .row x18.A x18.c 3 1 (ii v32) :: .row x16.1.A x16.1.c 3 1 (ii v26) :: .row x16.2.1.A x16.2.1.c 3 1 (ii v27) :: .row x16.2.2.1.A x16.2.2.1.c 3 1 (ii v28) :: .row x16.2.2.2.A x16.2.2.2.c 3 1 (ii v29) :: .box x14 53 [(i6 v21), (.slice x13.A x13.n x13.c), (i6 v23)] :: .box x12 53 [(i6 v18), (.slice x11.A x11.n x11.c), (i6 v20)] :: .box x10 57 [(.slice x9.1.A x9.1.n x9.1.c), (.slice x9.2.1.A x9.2.1.n x9.2.1.c), (.slice x9.2.2.1.A x9.2.2.1.n x9.2.2.1.c), (.slice x9.2.2.2.A x9.2.2.2.n x9.2.2.2.c)] :: .row x5.1.A x5.1.c 3 1 (ii v3) :: .row x5.2.1.A x5.2.1.c 3 1 (ii v4) :: .row x5.2.2.1.A x5.2.2.1.c 3 1 (ii v5) :: .row x5.2.2.2.A x5.2.2.2.c 3 1 (ii v6) :: .row x6.A x6.c 3 1 (ii v8) :: .row x7.A x7.c 3 1 (ii v11) :: .box x8 53 [(i6 v10), (.slice x7.A x7.n x7.c), (i6 v12)] :: .box x2 50 [(i6 a1_0), (.slice a1_1_A a1_1_n a1_1_c), (i6 a1_2)] :: .box x1 48 [(.slice a0_0_A a0_0_n a0_0_c), (.slice a0_1_A a0_1_n a0_1_c), (.slice a0_2_A a0_2_n a0_2_c), (.slice a0_3_A a0_3_n a0_3_c)] :: F) (fun _ h => h.pick 23 [11, 0, 1, 2, 3, 4, 5, 6, 7, 8, 9, 10, 12, 13, 14, 15, 16, 17, 18, 19, 20, 21, 22] rfl) ?_
                    refine r_do (a_call ok43 rfl rfl rfl rfl (fun w hm => laws_markGc.calls K v21 v22 x13.A x13.n x13.c v23 (1:Int) hm x13.h hb17)) rfl rfl (fun x23 => ?_)
                    refine r_q (q_assign rfl rfl) rfl rfl ?_
                    refine r_nil ?_
                    refine j_then ?_
                    refine j_seq ?_
                    refine j_region ?_
                    refine r_q (q_assign rfl rfl) rfl rfl ?_
                    refine r_nil ?_
                    refine j_then ?_
                    refine j_seq ?_
                    refine j_region ?_
                    refine r_q (q_loadb_agg 11 rfl ag53 sz53 rfl rfl rfl rfl) rfl rfl ?_
                    refine r_q (q_move rfl rfl) rfl rfl ?_
                    obtain ⟨v45, hb18, h⟩ := of_b1 h
                    refine r_do (a_call ok44 rfl rfl rfl rfl (fun w hm => laws_heldGc.calls K v21 v44 x13.A x13.n x13.c v23 (1:Int) hm (x23.h.trans x13.h) (Rd.row 0 rfl) hb18)) rfl rfl (fun x24 => ?_)
                    refine r_q (q_assign rfl rfl) rfl rfl ?_
                    refine r_nil ?_
                    refine j_then ?_
                    refine j_seq ?_
                    refine j_seq ?_
                    refine j_region ?_
                    refine r_q (q_move rfl rfl) rfl rfl ?_
                    refine r_q (q_lss rfl rfl rfl) rfl rfl ?_
                    refine r_nil ?_
                    refine j_then ?_
                    rcases of_if h with ⟨c9, h⟩ | ⟨c9, h⟩
                    · refine j_true rfl (decide_eq_true c9) ?_
                      refine j_seq ?_
                      refine j_region ?_
                      refine r_q (q_assign rfl rfl) rfl rfl ?_
                      refine r_nil ?_
                      refine j_then ?_
                      refine j_ret ?_
                      refine j_then_ret ?_
                      cases h
                      exact j_return rfl (ResOf.tmp rfl ResOf.nil) rfl (fun w h => ⟨(), rfl, (h.drop 23)⟩)
                    · refine j_false rfl (decide_eq_false c9) ?_
                      refine j_skip ?_
                      refine j_then ?_
                      refine j_seq ?_
                      refine j_seq ?_
                      refine j_region ?_
                      refine r_q (q_move rfl rfl) rfl rfl ?_
                      refine r_q (q_move rfl rfl) rfl rfl ?_
                      refine r_q (q_neq rfl rfl rfl) rfl rfl ?_
                      refine r_nil ?_
                      refine j_then ?_
                      rcases of_if h with ⟨c10, h⟩ | ⟨c10, h⟩
                      · refine j_false rfl (bne_f c10) ?_
                        refine j_skip ?_
                        refine j_then ?_
                        refine j_seq ?_
                        obtain ⟨v46, v47, v48, v49, hb19, h⟩ := of_b4 h
                        obtain ⟨v50, v51, v52, hb20, h⟩ := of_b3 h
                        obtain ⟨v53, v54, v55, v56, hb21, h⟩ := of_b4 h
                        refine j_draw (.row x13.A x13.c 3 1 (ii v44) :: .row x11.A x11.c 3 1 (ii v41) :: .row x9.1.A x9.1.c 3 1 (ii v36) :: .row x9.2.1.A x9.2.1.c 3 1 (ii v37) :: .row x9.2.2.1.A x9.2.2.1.c 3 1 (ii v38) :: .row x9.2.2.2.A x9.2.2.2.c 3 1 (ii v39) :: .row x18.A x18.c 3 1 (ii v32) :: .row x16.1.A x16.1.c 3 1 (ii v26) :: .row x16.2.1.A x16.2.1.c 3 1 (ii v27) :: .row x16.2.2.1.A x16.2.2.1.c 3 1 (ii v28) :: .row x16.2.2.2.A x16.2.2.2.c 3 1 (ii v29) :: .box x14 53 [(i6 v21), (.slice x13.A x13.n x13.c), (i6 v23)] :: .box x12 53 [(i6 v18), (.slice x11.A x11.n x11.c), (i6 v20)] :: .box x10 57 [(.slice x9.1.A x9.1.n x9.1.c), (.slice x9.2.1.A x9.2.1.n x9.2.1.c), (.slice x9.2.2.1.A x9.2.2.1.n x9.2.2.1.c), (.slice x9.2.2.2.A x9.2.2.2.n x9.2.2.2.c)] :: .row x5.1.A x5.1.c 3 1 (ii v3) :: .row x5.2.1.A x5.2.1.c 3 1 (ii v4) :: .row x5.2.2.1.A x5.2.2.1.c 3 1 (ii v5) :: .row x5.2.2.2.A x5.2.2.2.c 3 1 (ii v6) :: .row x6.A x6.c 3 1 (ii v8) :: .row x7.A x7.c 3 1 (ii v11) :: .box x8 53 [(i6 v10), (.slice x7.A x7.n x7.c), (i6 v12)] :: .box x2 50 [(i6 a1_0), (.slice a1_1_A a1_1_n a1_1_c), (i6 a1_2)] :: .box x1 48 [(.slice a0_0_A a0_0_n a0_0_c), (.slice a0_1_A a0_1_n a0_1_c), (.slice a0_2_A a0_2_n a0_2_c), (.slice a0_3_A a0_3_n a0_3_c)] :: F) 12 follows_any rfl ?_
                        refine d_take 0 rfl (q_loadb_agg 22 rfl ag48 sz48 rfl rfl rfl rfl) rfl rfl (by kernel_rfl) (by kernel_rfl) (by kernel_rfl) (fun w h => h) ?_
                        refine d_take 2 rfl (q_loadb_agg 21 rfl ag50 sz50 rfl rfl rfl rfl) rfl rfl (by kernel_rfl) (by kernel_rfl) (by kernel_rfl) (fun w h => h) ?_
                        refine d_take 4 rfl (q_move rfl rfl) rfl rfl (by kernel_rfl) (by kernel_rfl) (by kernel_rfl) (fun w h => h) ?_
                        refine d_join (σ := ((Sl v46.length) × (Sl v47.length) × (Sl v48.length) × (Sl v49.length)) × ((Sl v51.length)) × ((Sl v54.length)) × Nat) 0 #[true, true, true, true, true, true, true, true, true, true, true, true] (fun s => [(8, (pt x8)), (9, (.bool v13)), (12, (pt x14)), (15, (i6 v43)), (17, (pt s.2.2.2)), (18, (.bool v56))]) (fun s => .row s.1.1.A s.1.1.c 3 1 (ii v46) :: .row s.1.2.1.A s.1.2.1.c 3 1 (ii v47) :: .row s.1.2.2.1.A s.1.2.2.1.c 3 1 (ii v48) :: .row s.1.2.2.2.A s.1.2.2.2.c 3 1 (ii v49) :: .row s.2.1.A s.2.1.c 3 1 (ii v51) :: .row s.2.2.1.A s.2.2.1.c 3 1 (ii v54) :: .box s.2.2.2 53 [(i6 v53), (.slice s.2.2.1.A s.2.2.1.n s.2.2.1.c), (i6 v55)] :: .row x13.A x13.c 3 1 (ii v44) :: .row x11.A x11.c 3 1 (ii v41) :: .row x9.1.A x9.1.c 3 1 (ii v36) :: .row x9.2.1.A x9.2.1.c 3 1 (ii v37) :: .row x9.2.2.1.A x9.2.2.1.c 3 1 (ii v38) :: .row x9.2.2.2.A x9.2.2.2.c 3 1 (ii v39) :: .row x18.A x18.c 3 1 (ii v32) :: .row x16.1.A x16.1.c 3 1 (ii v26) :: .row x16.2.1.A x16.2.1.c 3 1 (ii v27) :: .row x16.2.2.1.A x16.2.2.1.c 3 1 (ii v28) :: .row x16.2.2.2.A x16.2.2.2.c 3 1 (ii v29) :: .box x14 53 [(i6 v21), (.slice x13.A x13.n x13.c), (i6 v23)] :: .box x12 53 [(i6 v18), (.slice x11.A x11.n x11.c), (i6 v20)] :: .box x10 57 [(.slice x9.1.A x9.1.n x9.1.c), (.slice x9.2.1.A x9.2.1.n x9.2.1.c), (.slice x9.2.2.1.A x9.2.2.1.n x9.2.2.1.c), (.slice x9.2.2.2.A x9.2.2.2.n x9.2.2.2.c)] :: .row x5.1.A x5.1.c 3 1 (ii v3) :: .row x5.2.1.A x5.2.1.c 3 1 (ii v4) :: .row x5.2.2.1.A x5.2.2.1.c 3 1 (ii v5) :: .row x5.2.2.2.A x5.2.2.2.c 3 1 (ii v6) :: .row x6.A x6.c 3 1 (ii v8) :: .row x7.A x7.c 3 1 (ii v11) :: .box x8 53 [(i6 v10), (.slice x7.A x7.n x7.c), (i6 v12)] :: .box x2 50 [(i6 a1_0), (.slice a1_1_A a1_1_n a1_1_c), (i6 a1_2)] :: .box x1 48 [(.slice a0_0_A a0_0_n a0_0_c), (.slice a0_1_A a0_1_n a0_1_c), (.slice a0_2_A a0_2_n a0_2_c), (.slice a0_3_A a0_3_n a0_3_c)] :: F) ?_ (fun hD4095 => ?_)
                        · rintro ⟨x25, x26, x27, x28⟩
                          show J _ _ [(8, (pt x8)), (9, (.bool v13)), (12, (pt x14)), (15, (i6 v43)), (17, (pt x28)), (18, (.bool v56))] _ (.row x25.1.A x25.1.c 3 1 (ii v46) :: .row x25.2.1.A x25.2.1.c 3 1 (ii v47) :: .row x25.2.2.1.A x25.2.2.1.c 3 1 (ii v48) :: .row x25.2.2.2.A x25.2.2.2.c 3 1 (ii v49) :: .row x26.A x26.c 3 1 (ii v51) :: .row x27.A x27.c 3 1 (ii v54) :: .box x28 53 [(i6 v53), (.slice x27.A x27.n x27.c), (i6 v55)] :: .row x13.A x13.c 3 1 (ii v44) :: .row x11.A x11.c 3 1 (ii v41) :: .row x9.1.A x9.1.c 3 1 (ii v36) :: .row x9.2.1.A x9.2.1.c 3 1 (ii v37) :: .row x9.2.2.1.A x9.2.2.1.c 3 1 (ii v38) :: .row x9.2.2.2.A x9.2.2.2.c 3 1 (ii v39) :: .row x18.A x18.c 3 1 (ii v32) :: .row x16.1.A x16.1.c 3 1 (ii v26) :: .row x16.2.1.A x16.2.1.c 3 1 (ii v27) :: .row x16.2.2.1.A x16.2.2.1.c 3 1 (ii v28) :: .row x16.2.2.2.A x16.2.2.2.c 3 1 (ii v29) :: .box x14 53 [(i6 v21), (.slice x13.A x13.n x13.c), (i6 v23)] :: .box x12 53 [(i6 v18), (.slice x11.A x11.n x11.c), (i6 v20)] :: .box x10 57 [(.slice x9.1.A x9.1.n x9.1.c), (.slice x9.2.1.A x9.2.1.n x9.2.1.c), (.slice x9.2.2.1.A x9.2.2.1.n x9.2.2.1.c), (.slice x9.2.2.2.A x9.2.2.2.n x9.2.2.2.c)] :: .row x5.1.A x5.1.c 3 1 (ii v3) :: .row x5.2.1.A x5.2.1.c 3 1 (ii v4) :: .row x5.2.2.1.A x5.2.2.1.c 3 1 (ii v5) :: .row x5.2.2.2.A x5.2.2.2.c 3 1 (ii v6) :: .row x6.A x6.c 3 1 (ii v8) :: .row x7.A x7.c 3 1 (ii v11) :: .box x8 53 [(i6 v10), (.slice x7.A x7.n x7.c), (i6 v12)] :: .box x2 50 [(i6 a1_0), (.slice a1_1_A a1_1_n a1_1_c), (i6 a1_2)] :: .box x1 48 [(.slice a0_0_A a0_0_n a0_0_c), (.slice a0_1_A a0_1_n a0_1_c), (.slice a0_2_A a0_2_n a0_2_c), (.slice a0_3_A a0_3_n a0_3_c)] :: F)
                          refine d_done (by kernel_rfl) ?_
                          refine j_then ?_
                          refine j_seq ?_
                          refine j_seq ?_
                          refine j_region ?_
                          refine r_q (q_loadb_agg 6 rfl ag53 sz53 rfl rfl rfl rfl) rfl rfl ?_
                          refine r_q (q_loadb_agg 27 rfl ag53 sz53 rfl rfl rfl rfl) rfl rfl ?_
                          obtain ⟨v57, hb22, h⟩ := of_b1 h
                          refine r_do (a_call ok40 rfl rfl rfl rfl (fun w hm => laws_eqGc.calls K v53 v54 x27.A x27.n x27.c v55 v10 v11 x7.A x7.n x7.c v12 hm x27.h (Rd.row 5 rfl) x7.h (Rd.row 26 rfl) hb22)) rfl rfl (fun x29 => ?_)
                          refine r_q (q_not rfl rfl) rfl rfl ?_
                          refine r_q (q_move rfl rfl) rfl rfl ?_
                          rcases of_if h with ⟨c11, h⟩ | ⟨c11, h⟩
                          · refine r_qon (q_move rfl rfl) rfl rfl rfl rfl (not_f c11) rfl ?_
                            refine r_qon (q_move rfl rfl) rfl rfl rfl rfl (not_f c11) rfl ?_
                            refine r_qon (q_bneq un4 rfl rfl rfl) rfl rfl rfl rfl (not_f c11) rfl ?_
                            refine r_q (q_pick_f rfl rfl (not_f c11) rfl) rfl rfl ?_
                            refine r_nil ?_
                            refine j_then ?_
                            rcases of_if h with ⟨c12, h⟩ | ⟨c12, h⟩
                            · refine j_false rfl (bne_f c12) ?_
                              refine j_skip ?_
                              refine j_then ?_
                              refine j_seq ?_
                              refine j_region ?_
                              refine r_q (q_assign rfl rfl) rfl rfl ?_
                              refine r_nil ?_
                              refine j_then ?_
                              refine j_seq ?_
                              refine j_region ?_
                              refine r_q (q_loadb_agg 18 rfl ag53 sz53 rfl rfl rfl rfl) rfl rfl ?_
                              refine r_q (q_move rfl rfl) rfl rfl ?_
                              obtain ⟨v58, hb23, h⟩ := of_b1 h
                              refine r_do (a_call ok44 rfl rfl rfl rfl (fun w hm => laws_heldGc.calls K v21 v44 x13.A x13.n x13.c v23 (1:Int) hm (x23.h.trans x13.h) (Rd.row 7 rfl) hb23)) rfl rfl (fun x30 => ?_)
                              refine r_q (q_assign rfl rfl) rfl rfl ?_
                              refine r_nil ?_
                              refine j_then ?_
                              refine j_seq ?_
                              refine j_seq ?_
                              refine j_region ?_
                              refine r_q (q_move rfl rfl) rfl rfl ?_
                              refine r_q (q_lss rfl rfl rfl) rfl rfl ?_
                              refine r_nil ?_
                              refine j_then ?_
                              rcases of_if h with ⟨c13, h⟩ | ⟨c13, h⟩
                              · refine j_true rfl (decide_eq_true c13) ?_
                                refine j_seq ?_
                                refine j_region ?_
                                refine r_q (q_assign rfl rfl) rfl rfl ?_
                                refine r_nil ?_
                                refine j_then ?_
                                refine j_ret ?_
                                refine j_then_ret ?_
                                cases h
                                exact j_return rfl (ResOf.tmp rfl ResOf.nil) rfl (fun w h => ⟨(), rfl, (h.drop 30)⟩)
                              · refine j_false rfl (decide_eq_false c13) ?_
                                refine j_skip ?_
                                refine j_then ?_
                                refine j_seq ?_
                                refine j_seq ?_
                                refine j_region ?_
                                refine r_q (q_move rfl rfl) rfl rfl ?_
                                refine r_q (q_move rfl rfl) rfl rfl ?_
                                refine r_q (q_neq rfl rfl rfl) rfl rfl ?_
                                refine r_nil ?_
                                refine j_then ?_
                                rcases of_if h with ⟨c14, h⟩ | ⟨c14, h⟩
                                · refine j_false rfl (bne_f c14) ?_
                                  refine j_skip ?_
                                  refine j_then ?_
                                  refine j_seq ?_
                                  refine j_region ?_
                                  refine r_q (q_assign rfl rfl) rfl rfl ?_
                                  refine r_nil ?_
                                  refine j_then ?_
                                  refine j_ret ?_
                                  cases h
                                  exact j_return rfl (ResOf.tmp rfl ResOf.nil) rfl (fun w h => ⟨(), rfl, (h.drop 30)⟩)
                                · refine j_true rfl (bne_t c14) ?_
                                  refine j_seq ?_
                                  refine j_region ?_
                                  refine r_q (q_assign rfl rfl) rfl rfl ?_
                                  refine r_nil ?_
                                  refine j_then ?_
                                  refine j_ret ?_
                                  refine j_then_ret ?_
                                  cases h
                                  exact j_return rfl (ResOf.tmp rfl ResOf.nil) rfl (fun w h => ⟨(), rfl, (h.drop 30)⟩)
                            · refine j_true rfl (bne_t c12) ?_
                              refine j_seq ?_
                              refine j_region ?_
                              refine r_q (q_assign rfl rfl) rfl rfl ?_
                              refine r_nil ?_
                              refine j_then ?_
                              refine j_ret ?_
                              refine j_then_ret ?_
                              cases h
                              exact j_return rfl (ResOf.tmp rfl ResOf.nil) rfl (fun w h => ⟨(), rfl, (h.drop 30)⟩)
                          · refine r_off rfl rfl rfl rfl (not_t (var_f c11)) rfl ?_
                            refine r_off rfl rfl rfl rfl (not_t (var_f c11)) rfl ?_
                            refine r_off rfl rfl rfl rfl (not_t (var_f c11)) rfl ?_
                            refine r_q (q_pick_t rfl rfl (not_t (var_f c11)) rfl) rfl rfl ?_
                            refine r_nil ?_
                            refine j_then ?_
                            refine j_true rfl rfl ?_
                            refine j_seq ?_
                            refine j_region ?_
                            refine r_q (q_assign rfl rfl) rfl rfl ?_
                            refine r_nil ?_
                            refine j_then ?_
                            refine j_ret ?_
                            refine j_then_ret ?_
                            cases h
                            exact j_return rfl (ResOf.tmp rfl ResOf.nil) rfl (fun w h => ⟨(), rfl, (h.drop 30)⟩)
                        refine d_join (σ := ((Sl v46.length) × (Sl v47.length) × (Sl v48.length) × (Sl v49.length)) × ((Sl v51.length)) × ((Sl v54.length)) × Nat) 2 #[true, true, true, true, true, true, true, true, true, true, false, false] (fun s => [(8, (pt x8)), (9, (.bool v13)), (12, (pt x14)), (15, (i6 v43)), (17, (pt s.2.2.2)), (105, (.agg (List.toArray [(i6 v53), (.slice s.2.2.1.A s.2.2.1.n s.2.2.1.c), (i6 v55)]))), (106, (.bool v56))]) (fun s => .row s.1.1.A s.1.1.c 3 1 (ii v46) :: .row s.1.2.1.A s.1.2.1.c 3 1 (ii v47) :: .row s.1.2.2.1.A s.1.2.2.1.c 3 1 (ii v48) :: .row s.1.2.2.2.A s.1.2.2.2.c 3 1 (ii v49) :: .row s.2.1.A s.2.1.c 3 1 (ii v51) :: .row s.2.2.1.A s.2.2.1.c 3 1 (ii v54) :: .box s.2.2.2 53 [(i6 (0:Int)), (.slice none 0 0), (i6 (0:Int))] :: .row x13.A x13.c 3 1 (ii v44) :: .row x11.A x11.c 3 1 (ii v41) :: .row x9.1.A x9.1.c 3 1 (ii v36) :: .row x9.2.1.A x9.2.1.c 3 1 (ii v37) :: .row x9.2.2.1.A x9.2.2.1.c 3 1 (ii v38) :: .row x9.2.2.2.A x9.2.2.2.c 3 1 (ii v39) :: .row x18.A x18.c 3 1 (ii v32) :: .row x16.1.A x16.1.c 3 1 (ii v26) :: .row x16.2.1.A x16.2.1.c 3 1 (ii v27) :: .row x16.2.2.1.A x16.2.2.1.c 3 1 (ii v28) :: .row x16.2.2.2.A x16.2.2.2.c 3 1 (ii v29) :: .box x14 53 [(i6 v21), (.slice x13.A x13.n x13.c), (i6 v23)] :: .box x12 53 [(i6 v18), (.slice x11.A x11.n x11.c), (i6 v20)] :: .box x10 57 [(.slice x9.1.A x9.1.n x9.1.c), (.slice x9.2.1.A x9.2.1.n x9.2.1.c), (.slice x9.2.2.1.A x9.2.2.1.n x9.2.2.1.c), (.slice x9.2.2.2.A x9.2.2.2.n x9.2.2.2.c)] :: .row x5.1.A x5.1.c 3 1 (ii v3) :: .row x5.2.1.A x5.2.1.c 3 1 (ii v4) :: .row x5.2.2.1.A x5.2.2.1.c 3 1 (ii v5) :: .row x5.2.2.2.A x5.2.2.2.c 3 1 (ii v6) :: .row x6.A x6.c 3 1 (ii v8) :: .row x7.A x7.c 3 1 (ii v11) :: .box x8 53 [(i6 v10), (.slice x7.A x7.n x7.c), (i6 v12)] :: .box x2 50 [(i6 a1_0), (.slice a1_1_A a1_1_n a1_1_c), (i6 a1_2)] :: .box x1 48 [(.slice a0_0_A a0_0_n a0_0_c), (.slice a0_1_A a0_1_n a0_1_c), (.slice a0_2_A a0_2_n a0_2_c), (.slice a0_3_A a0_3_n a0_3_c)] :: F) ?_ (fun hD1023 => ?_)
                        · rintro ⟨x25, x26, x27, x28⟩
                          show J _ _ [(8, (pt x8)), (9, (.bool v13)), (12, (pt x14)), (15, (i6 v43)), (17, (pt x28)), (105, (.agg (List.toArray [(i6 v53), (.slice x27.A x27.n x27.c), (i6 v55)]))), (106, (.bool v56))] _ (.row x25.1.A x25.1.c 3 1 (ii v46) :: .row x25.2.1.A x25.2.1.c 3 1 (ii v47) :: .row x25.2.2.1.A x25.2.2.1.c 3 1 (ii v48) :: .row x25.2.2.2.A x25.2.2.2.c 3 1 (ii v49) :: .row x26.A x26.c 3 1 (ii v51) :: .row x27.A x27.c 3 1 (ii v54) :: .box x28 53 [(i6 (0:Int)), (.slice none 0 0), (i6 (0:Int))] :: .row x13.A x13.c 3 1 (ii v44) :: .row x11.A x11.c 3 1 (ii v41) :: .row x9.1.A x9.1.c 3 1 (ii v36) :: .row x9.2.1.A x9.2.1.c 3 1 (ii v37) :: .row x9.2.2.1.A x9.2.2.1.c 3 1 (ii v38) :: .row x9.2.2.2.A x9.2.2.2.c 3 1 (ii v39) :: .row x18.A x18.c 3 1 (ii v32) :: .row x16.1.A x16.1.c 3 1 (ii v26) :: .row x16.2.1.A x16.2.1.c 3 1 (ii v27) :: .row x16.2.2.1.A x16.2.2.1.c 3 1 (ii v28) :: .row x16.2.2.2.A x16.2.2.2.c 3 1 (ii v29) :: .box x14 53 [(i6 v21), (.slice x13.A x13.n x13.c), (i6 v23)] :: .box x12 53 [(i6 v18), (.slice x11.A x11.n x11.c), (i6 v20)] :: .box x10 57 [(.slice x9.1.A x9.1.n x9.1.c), (.slice x9.2.1.A x9.2.1.n x9.2.1.c), (.slice x9.2.2.1.A x9.2.2.1.n x9.2.2.1.c), (.slice x9.2.2.2.A x9.2.2.2.n x9.2.2.2.c)] :: .row x5.1.A x5.1.c 3 1 (ii v3) :: .row x5.2.1.A x5.2.1.c 3 1 (ii v4) :: .row x5.2.2.1.A x5.2.2.1.c 3 1 (ii v5) :: .row x5.2.2.2.A x5.2.2.2.c 3 1 (ii v6) :: .row x6.A x6.c 3 1 (ii v8) :: .row x7.A x7.c 3 1 (ii v11) :: .box x8 53 [(i6 v10), (.slice x7.A x7.n x7.c), (i6 v12)] :: .box x2 50 [(i6 a1_0), (.slice a1_1_A a1_1_n a1_1_c), (i6 a1_2)] :: .box x1 48 [(.slice a0_0_A a0_0_n a0_0_c), (.slice a0_1_A a0_1_n a0_1_c), (.slice a0_2_A a0_2_n a0_2_c), (.slice a0_3_A a0_3_n a0_3_c)] :: F)
                          refine d_one 10 (by kernel_rfl) ?_
                          · refine o_do rfl (a_storeb 6 rfl sz53 rfl rfl rfl rfl (Nat.le_of_ble_eq_true rfl) rfl) rfl rfl (fun _ w h => (h.drop 7)) (fun _ => ?_)
                            refine j_b6 [(i6 v53), (.slice x27.A x27.n x27.c), (i6 v55)] rfl ?_
                            refine d_take 11 rfl (q_assign rfl rfl) rfl rfl (by kernel_rfl) (by kernel_rfl) (by kernel_rfl) (fun w h => (h.drop 7)) ?_
                            refine j_rs (.row x25.1.A x25.1.c 3 1 (ii v46) :: .row x25.2.1.A x25.2.1.c 3 1 (ii v47) :: .row x25.2.2.1.A x25.2.2.1.c 3 1 (ii v48) :: .row x25.2.2.2.A x25.2.2.2.c 3 1 (ii v49) :: .row x26.A x26.c 3 1 (ii v51) :: .row x27.A x27.c 3 1 (ii v54) :: .box x28 53 [(i6 v53), (.slice x27.A x27.n x27.c), (i6 v55)] :: .row x13.A x13.c 3 1 (ii v44) :: .row x11.A x11.c 3 1 (ii v41) :: .row x9.1.A x9.1.c 3 1 (ii v36) :: .row x9.2.1.A x9.2.1.c 3 1 (ii v37) :: .row x9.2.2.1.A x9.2.2.1.c 3 1 (ii v38) :: .row x9.2.2.2.A x9.2.2.2.c 3 1 (ii v39) :: .row x18.A x18.c 3 1 (ii v32) :: .row x16.1.A x16.1.c 3 1 (ii v26) :: .row x16.2.1.A x16.2.1.c 3 1 (ii v27) :: .row x16.2.2.1.A x16.2.2.1.c 3 1 (ii v28) :: .row x16.2.2.2.A x16.2.2.2.c 3 1 (ii v29) :: .box x14 53 [(i6 v21), (.slice x13.A x13.n x13.c), (i6 v23)] :: .box x12 53 [(i6 v18), (.slice x11.A x11.n x11.c), (i6 v20)] :: .box x10 57 [(.slice x9.1.A x9.1.n x9.1.c), (.slice x9.2.1.A x9.2.1.n x9.2.1.c), (.slice x9.2.2.1.A x9.2.2.1.n x9.2.2.1.c), (.slice x9.2.2.2.A x9.2.2.2.n x9.2.2.2.c)] :: .row x5.1.A x5.1.c 3 1 (ii v3) :: .row x5.2.1.A x5.2.1.c 3 1 (ii v4) :: .row x5.2.2.1.A x5.2.2.1.c 3 1 (ii v5) :: .row x5.2.2.2.A x5.2.2.2.c 3 1 (ii v6) :: .row x6.A x6.c 3 1 (ii v8) :: .row x7.A x7.c 3 1 (ii v11) :: .box x8 53 [(i6 v10), (.slice x7.A x7.n x7.c), (i6 v12)] :: .box x2 50 [(i6 a1_0), (.slice a1_1_A a1_1_n a1_1_c), (i6 a1_2)] :: .box x1 48 [(.slice a0_0_A a0_0_n a0_0_c), (.slice a0_1_A a0_1_n a0_1_c), (.slice a0_2_A a0_2_n a0_2_c), (.slice a0_3_A a0_3_n a0_3_c)] :: F) (fun _ h => h) ?_
                            refine j_env [(8, (pt x8)), (9, (.bool v13)), (12, (pt x14)), (15, (i6 v43)), (17, (pt x28)), (18, (.bool v56))] ⟨rfl, rfl, rfl, rfl, rfl, rfl, trivial⟩ ?_
                            exact hD4095 (x25, x26, x27, x28)
                        refine d_join (σ := ((Sl v46.length) × (Sl v47.length) × (Sl v48.length) × (Sl v49.length)) × ((Sl v51.length)) × ((Sl v54.length))) 3 #[true, true, true, true, true, true, true, true, true, false, false, false] (fun s => [(8, (pt x8)), (9, (.bool v13)), (12, (pt x14)), (15, (i6 v43)), (105, (.agg (List.toArray [(i6 v53), (.slice s.2.2.A s.2.2.n s.2.2.c), (i6 v55)]))), (106, (.bool v56))]) (fun s => .row s.1.1.A s.1.1.c 3 1 (ii v46) :: .row s.1.2.1.A s.1.2.1.c 3 1 (ii v47) :: .row s.1.2.2.1.A s.1.2.2.1.c 3 1 (ii v48) :: .row s.1.2.2.2.A s.1.2.2.2.c 3 1 (ii v49) :: .row s.2.1.A s.2.1.c 3 1 (ii v51) :: .row s.2.2.A s.2.2.c 3 1 (ii v54) :: .row x13.A x13.c 3 1 (ii v44) :: .row x11.A x11.c 3 1 (ii v41) :: .row x9.1.A x9.1.c 3 1 (ii v36) :: .row x9.2.1.A x9.2.1.c 3 1 (ii v37) :: .row x9.2.2.1.A x9.2.2.1.c 3 1 (ii v38) :: .row x9.2.2.2.A x9.2.2.2.c 3 1 (ii v39) :: .row x18.A x18.c 3 1 (ii v32) :: .row x16.1.A x16.1.c 3 1 (ii v26) :: .row x16.2.1.A x16.2.1.c 3 1 (ii v27) :: .row x16.2.2.1.A x16.2.2.1.c 3 1 (ii v28) :: .row x16.2.2.2.A x16.2.2.2.c 3 1 (ii v29) :: .box x14 53 [(i6 v21), (.slice x13.A x13.n x13.c), (i6 v23)] :: .box x12 53 [(i6 v18), (.slice x11.A x11.n x11.c), (i6 v20)] :: .box x10 57 [(.slice x9.1.A x9.1.n x9.1.c), (.slice x9.2.1.A x9.2.1.n x9.2.1.c), (.slice x9.2.2.1.A x9.2.2.1.n x9.2.2.1.c), (.slice x9.2.2.2.A x9.2.2.2.n x9.2.2.2.c)] :: .row x5.1.A x5.1.c 3 1 (ii v3) :: .row x5.2.1.A x5.2.1.c 3 1 (ii v4) :: .row x5.2.2.1.A x5.2.2.1.c 3 1 (ii v5) :: .row x5.2.2.2.A x5.2.2.2.c 3 1 (ii v6) :: .row x6.A x6.c 3 1 (ii v8) :: .row x7.A x7.c 3 1 (ii v11) :: .box x8 53 [(i6 v10), (.slice x7.A x7.n x7.c), (i6 v12)] :: .box x2 50 [(i6 a1_0), (.slice a1_1_A a1_1_n a1_1_c), (i6 a1_2)] :: .box x1 48 [(.slice a0_0_A a0_0_n a0_0_c), (.slice a0_1_A a0_1_n a0_1_c), (.slice a0_2_A a0_2_n a0_2_c), (.slice a0_3_A a0_3_n a0_3_c)] :: F) ?_ (fun hD511 => ?_)
                        · rintro ⟨x25, x26, x27⟩
                          show J _ _ [(8, (pt x8)), (9, (.bool v13)), (12, (pt x14)), (15, (i6 v43)), (105, (.agg (List.toArray [(i6 v53), (.slice x27.A x27.n x27.c), (i6 v55)]))), (106, (.bool v56))] _ (.row x25.1.A x25.1.c 3 1 (ii v46) :: .row x25.2.1.A x25.2.1.c 3 1 (ii v47) :: .row x25.2.2.1.A x25.2.2.1.c 3 1 (ii v48) :: .row x25.2.2.2.A x25.2.2.2.c 3 1 (ii v49) :: .row x26.A x26.c 3 1 (ii v51) :: .row x27.A x27.c 3 1 (ii v54) :: .row x13.A x13.c 3 1 (ii v44) :: .row x11.A x11.c 3 1 (ii v41) :: .row x9.1.A x9.1.c 3 1 (ii v36) :: .row x9.2.1.A x9.2.1.c 3 1 (ii v37) :: .row x9.2.2.1.A x9.2.2.1.c 3 1 (ii v38) :: .row x9.2.2.2.A x9.2.2.2.c 3 1 (ii v39) :: .row x18.A x18.c 3 1 (ii v32) :: .row x16.1.A x16.1.c 3 1 (ii v26) :: .row x16.2.1.A x16.2.1.c 3 1 (ii v27) :: .row x16.2.2.1.A x16.2.2.1.c 3 1 (ii v28) :: .row x16.2.2.2.A x16.2.2.2.c 3 1 (ii v29) :: .box x14 53 [(i6 v21), (.slice x13.A x13.n x13.c), (i6 v23)] :: .box x12 53 [(i6 v18), (.slice x11.A x11.n x11.c), (i6 v20)] :: .box x10 57 [(.slice x9.1.A x9.1.n x9.1.c), (.slice x9.2.1.A x9.2.1.n x9.2.1.c), (.slice x9.2.2.1.A x9.2.2.1.n x9.2.2.1.c), (.slice x9.2.2.2.A x9.2.2.2.n x9.2.2.2.c)] :: .row x5.1.A x5.1.c 3 1 (ii v3) :: .row x5.2.1.A x5.2.1.c 3 1 (ii v4) :: .row x5.2.2.1.A x5.2.2.1.c 3 1 (ii v5) :: .row x5.2.2.2.A x5.2.2.2.c 3 1 (ii v6) :: .row x6.A x6.c 3 1 (ii v8) :: .row x7.A x7.c 3 1 (ii v11) :: .box x8 53 [(i6 v10), (.slice x7.A x7.n x7.c), (i6 v12)] :: .box x2 50 [(i6 a1_0), (.slice a1_1_A a1_1_n a1_1_c), (i6 a1_2)] :: .box x1 48 [(.slice a0_0_A a0_0_n a0_0_c), (.slice a0_1_A a0_1_n a0_1_c), (.slice a0_2_A a0_2_n a0_2_c), (.slice a0_3_A a0_3_n a0_3_c)] :: F)
                          refine d_one 9 (by kernel_rfl) ?_
                          · refine o_do rfl (a_alloc zr53 rfl) rfl rfl (fun x28 w h => (h.drop 7)) (fun x28 => ?_)
                            refine j_rs (.row x25.1.A x25.1.c 3 1 (ii v46) :: .row x25.2.1.A x25.2.1.c 3 1 (ii v47) :: .row x25.2.2.1.A x25.2.2.1.c 3 1 (ii v48) :: .row x25.2.2.2.A x25.2.2.2.c 3 1 (ii v49) :: .row x26.A x26.c 3 1 (ii v51) :: .row x27.A x27.c 3 1 (ii v54) :: .box x28 53 [(i6 (0:Int)), (.slice none 0 0), (i6 (0:Int))] :: .row x13.A x13.c 3 1 (ii v44) :: .row x11.A x11.c 3 1 (ii v41) :: .row x9.1.A x9.1.c 3 1 (ii v36) :: .row x9.2.1.A x9.2.1.c 3 1 (ii v37) :: .row x9.2.2.1.A x9.2.2.1.c 3 1 (ii v38) :: .row x9.2.2.2.A x9.2.2.2.c 3 1 (ii v39) :: .row x18.A x18.c 3 1 (ii v32) :: .row x16.1.A x16.1.c 3 1 (ii v26) :: .row x16.2.1.A x16.2.1.c 3 1 (ii v27) :: .row x16.2.2.1.A x16.2.2.1.c 3 1 (ii v28) :: .row x16.2.2.2.A x16.2.2.2.c 3 1 (ii v29) :: .box x14 53 [(i6 v21), (.slice x13.A x13.n x13.c), (i6 v23)] :: .box x12 53 [(i6 v18), (.slice x11.A x11.n x11.c), (i6 v20)] :: .box x10 57 [(.slice x9.1.A x9.1.n x9.1.c), (.slice x9.2.1.A x9.2.1.n x9.2.1.c), (.slice x9.2.2.1.A x9.2.2.1.n x9.2.2.1.c), (.slice x9.2.2.2.A x9.2.2.2.n x9.2.2.2.c)] :: .row x5.1.A x5.1.c 3 1 (ii v3) :: .row x5.2.1.A x5.2.1.c 3 1 (ii v4) :: .row x5.2.2.1.A x5.2.2.1.c 3 1 (ii v5) :: .row x5.2.2.2.A x5.2.2.2.c 3 1 (ii v6) :: .row x6.A x6.c 3 1 (ii v8) :: .row x7.A x7.c 3 1 (ii v11) :: .box x8 53 [(i6 v10), (.slice x7.A x7.n x7.c), (i6 v12)] :: .box x2 50 [(i6 a1_0), (.slice a1_1_A a1_1_n a1_1_c), (i6 a1_2)] :: .box x1 48 [(.slice a0_0_A a0_0_n a0_0_c), (.slice a0_1_A a0_1_n a0_1_c), (.slice a0_2_A a0_2_n a0_2_c), (.slice a0_3_A a0_3_n a0_3_c)] :: F) (fun _ h => h.pick 30 [1, 2, 3, 4, 5, 6, 0, 7, 8, 9, 10, 11, 12, 13, 14, 15, 16, 17, 18, 19, 20, 21, 22, 23, 24, 25, 26, 27, 28, 29] rfl) ?_
                            refine j_env [(8, (pt x8)), (9, (.bool v13)), (12, (pt x14)), (15, (i6 v43)), (17, (pt x28)), (105, (.agg (List.toArray [(i6 v53), (.slice x27.A x27.n x27.c), (i6 v55)]))), (106, (.bool v56))] ⟨rfl, rfl, rfl, rfl, rfl, rfl, rfl, trivial⟩ ?_
                            exact hD1023 (x25, x26, x27, x28)
                        refine d_join (σ := ((Sl v46.length) × (Sl v47.length) × (Sl v48.length) × (Sl v49.length)) × ((Sl v51.length)) × Nat) 6 #[true, true, true, true, true, false, false, false, false, true, false, false] (fun s => [(8, (pt x8)), (9, (.bool v13)), (12, (pt x14)), (15, (i6 v43)), (17, (pt s.2.2)), (100, (.agg (List.toArray [(.slice s.1.1.A s.1.1.n s.1.1.c), (.slice s.1.2.1.A s.1.2.1.n s.1.2.1.c), (.slice s.1.2.2.1.A s.1.2.2.1.n s.1.2.2.1.c), (.slice s.1.2.2.2.A s.1.2.2.2.n s.1.2.2.2.c)]))), (102, (.agg (List.toArray [(i6 v50), (.slice s.2.1.A s.2.1.n s.2.1.c), (i6 v52)]))), (103, (i6 a2))]) (fun s => .row s.1.1.A s.1.1.c 3 1 (ii v46) :: .row s.1.2.1.A s.1.2.1.c 3 1 (ii v47) :: .row s.1.2.2.1.A s.1.2.2.1.c 3 1 (ii v48) :: .row s.1.2.2.2.A s.1.2.2.2.c 3 1 (ii v49) :: .row s.2.1.A s.2.1.c 3 1 (ii v51) :: .box s.2.2 53 [(i6 (0:Int)), (.slice none 0 0), (i6 (0:Int))] :: .row x13.A x13.c 3 1 (ii v44) :: .row x11.A x11.c 3 1 (ii v41) :: .row x9.1.A x9.1.c 3 1 (ii v36) :: .row x9.2.1.A x9.2.1.c 3 1 (ii v37) :: .row x9.2.2.1.A x9.2.2.1.c 3 1 (ii v38) :: .row x9.2.2.2.A x9.2.2.2.c 3 1 (ii v39) :: .row x18.A x18.c 3 1 (ii v32) :: .row x16.1.A x16.1.c 3 1 (ii v26) :: .row x16.2.1.A x16.2.1.c 3 1 (ii v27) :: .row x16.2.2.1.A x16.2.2.1.c 3 1 (ii v28) :: .row x16.2.2.2.A x16.2.2.2.c 3 1 (ii v29) :: .box x14 53 [(i6 v21), (.slice x13.A x13.n x13.c), (i6 v23)] :: .box x12 53 [(i6 v18), (.slice x11.A x11.n x11.c), (i6 v20)] :: .box x10 57 [(.slice x9.1.A x9.1.n x9.1.c), (.slice x9.2.1.A x9.2.1.n x9.2.1.c), (.slice x9.2.2.1.A x9.2.2.1.n x9.2.2.1.c), (.slice x9.2.2.2.A x9.2.2.2.n x9.2.2.2.c)] :: .row x5.1.A x5.1.c 3 1 (ii v3) :: .row x5.2.1.A x5.2.1.c 3 1 (ii v4) :: .row x5.2.2.1.A x5.2.2.1.c 3 1 (ii v5) :: .row x5.2.2.2.A x5.2.2.2.c 3 1 (ii v6) :: .row x6.A x6.c 3 1 (ii v8) :: .row x7.A x7.c 3 1 (ii v11) :: .box x8 53 [(i6 v10), (.slice x7.A x7.n x7.c), (i6 v12)] :: .box x2 50 [(i6 a1_0), (.slice a1_1_A a1_1_n a1_1_c), (i6 a1_2)] :: .box x1 48 [(.slice a0_0_A a0_0_n a0_0_c), (.slice a0_1_A a0_1_n a0_1_c), (.slice a0_2_A a0_2_n a0_2_c), (.slice a0_3_A a0_3_n a0_3_c)] :: F) ?_ (fun hD543 => ?_)
                        · rintro ⟨x25, x26, x28⟩
                          show J _ _ [(8, (pt x8)), (9, (.bool v13)), (12, (pt x14)), (15, (i6 v43)), (17, (pt x28)), (100, (.agg (List.toArray [(.slice x25.1.A x25.1.n x25.1.c), (.slice x25.2.1.A x25.2.1.n x25.2.1.c), (.slice x25.2.2.1.A x25.2.2.1.n x25.2.2.1.c), (.slice x25.2.2.2.A x25.2.2.2.n x25.2.2.2.c)]))), (102, (.agg (List.toArray [(i6 v50), (.slice x26.A x26.n x26.c), (i6 v52)]))), (103, (i6 a2))] _ (.row x25.1.A x25.1.c 3 1 (ii v46) :: .row x25.2.1.A x25.2.1.c 3 1 (ii v47) :: .row x25.2.2.1.A x25.2.2.1.c 3 1 (ii v48) :: .row x25.2.2.2.A x25.2.2.2.c 3 1 (ii v49) :: .row x26.A x26.c 3 1 (ii v51) :: .box x28 53 [(i6 (0:Int)), (.slice none 0 0), (i6 (0:Int))] :: .row x13.A x13.c 3 1 (ii v44) :: .row x11.A x11.c 3 1 (ii v41) :: .row x9.1.A x9.1.c 3 1 (ii v36) :: .row x9.2.1.A x9.2.1.c 3 1 (ii v37) :: .row x9.2.2.1.A x9.2.2.1.c 3 1 (ii v38) :: .row x9.2.2.2.A x9.2.2.2.c 3 1 (ii v39) :: .row x18.A x18.c 3 1 (ii v32) :: .row x16.1.A x16.1.c 3 1 (ii v26) :: .row x16.2.1.A x16.2.1.c 3 1 (ii v27) :: .row x16.2.2.1.A x16.2.2.1.c 3 1 (ii v28) :: .row x16.2.2.2.A x16.2.2.2.c 3 1 (ii v29) :: .box x14 53 [(i6 v21), (.slice x13.A x13.n x13.c), (i6 v23)] :: .box x12 53 [(i6 v18), (.slice x11.A x11.n x11.c), (i6 v20)] :: .box x10 57 [(.slice x9.1.A x9.1.n x9.1.c), (.slice x9.2.1.A x9.2.1.n x9.2.1.c), (.slice x9.2.2.1.A x9.2.2.1.n x9.2.2.1.c), (.slice x9.2.2.2.A x9.2.2.2.n x9.2.2.2.c)] :: .row x5.1.A x5.1.c 3 1 (ii v3) :: .row x5.2.1.A x5.2.1.c 3 1 (ii v4) :: .row x5.2.2.1.A x5.2.2.1.c 3 1 (ii v5) :: .row x5.2.2.2.A x5.2.2.2.c 3 1 (ii v6) :: .row x6.A x6.c 3 1 (ii v8) :: .row x7.A x7.c 3 1 (ii v11) :: .box x8 53 [(i6 v10), (.slice x7.A x7.n x7.c), (i6 v12)] :: .box x2 50 [(i6 a1_0), (.slice a1_1_A a1_1_n a1_1_c), (i6 a1_2)] :: .box x1 48 [(.slice a0_0_A a0_0_n a0_0_c), (.slice a0_1_A a0_1_n a0_1_c), (.slice a0_2_A a0_2_n a0_2_c), (.slice a0_3_A a0_3_n a0_3_c)] :: F)
                          refine d_one 5 (by kernel_rfl) ?_
                          · refine o_do rfl (a_call ok46 rfl rfl rfl rfl (fun w hm => impl_ShadeGc.calls K v46 x25.1.A x25.1.n x25.1.c v47 x25.2.1.A x25.2.1.n x25.2.1.c v48 x25.2.2.1.A x25.2.2.1.n x25.2.2.1.c v49 x25.2.2.2.A x25.2.2.2.n x25.2.2.2.c v50 v51 x26.A x26.n x26.c v52 a2 hm x25.1.h (Rd.row 0 rfl) x25.2.1.h (Rd.row 1 rfl) x25.2.2.1.h (Rd.row 2 rfl) x25.2.2.2.h (Rd.row 3 rfl) (hm.roomI 3 rfl) x26.h (Rd.row 4 rfl) hb21)) rfl rfl (fun x27 w h => (h.drop 7)) (fun x27 => ?_)
                            refine d_take 6 rfl (q_move rfl rfl) rfl rfl (by kernel_rfl) (by kernel_rfl) (by kernel_rfl) (fun w h => (h.drop 7)) ?_
                            refine d_take 7 rfl (q_extract rfl rfl rfl) rfl rfl (by kernel_rfl) (by kernel_rfl) (by kernel_rfl) (fun w h => (h.drop 7)) ?_
                            refine d_take 8 rfl (q_extract rfl rfl rfl) rfl rfl (by kernel_rfl) (by kernel_rfl) (by kernel_rfl) (fun w h => (h.drop 7)) ?_
                            refine j_rs (.row x25.1.A x25.1.c 3 1 (ii v46) :: .row x25.2.1.A x25.2.1.c 3 1 (ii v47) :: .row x25.2.2.1.A x25.2.2.1.c 3 1 (ii v48) :: .row x25.2.2.2.A x25.2.2.2.c 3 1 (ii v49) :: .row x26.A x26.c 3 1 (ii v51) :: .row x27.A x27.c 3 1 (ii v54) :: .box x28 53 [(i6 (0:Int)), (.slice none 0 0), (i6 (0:Int))] :: .row x13.A x13.c 3 1 (ii v44) :: .row x11.A x11.c 3 1 (ii v41) :: .row x9.1.A x9.1.c 3 1 (ii v36) :: .row x9.2.1.A x9.2.1.c 3 1 (ii v37) :: .row x9.2.2.1.A x9.2.2.1.c 3 1 (ii v38) :: .row x9.2.2.2.A x9.2.2.2.c 3 1 (ii v39) :: .row x18.A x18.c 3 1 (ii v32) :: .row x16.1.A x16.1.c 3 1 (ii v26) :: .row x16.2.1.A x16.2.1.c 3 1 (ii v27) :: .row x16.2.2.1.A x16.2.2.1.c 3 1 (ii v28) :: .row x16.2.2.2.A x16.2.2.2.c 3 1 (ii v29) :: .box x14 53 [(i6 v21), (.slice x13.A x13.n x13.c), (i6 v23)] :: .box x12 53 [(i6 v18), (.slice x11.A x11.n x11.c), (i6 v20)] :: .box x10 57 [(.slice x9.1.A x9.1.n x9.1.c), (.slice x9.2.1.A x9.2.1.n x9.2.1.c), (.slice x9.2.2.1.A x9.2.2.1.n x9.2.2.1.c), (.slice x9.2.2.2.A x9.2.2.2.n x9.2.2.2.c)] :: .row x5.1.A x5.1.c 3 1 (ii v3) :: .row x5.2.1.A x5.2.1.c 3 1 (ii v4) :: .row x5.2.2.1.A x5.2.2.1.c 3 1 (ii v5) :: .row x5.2.2.2.A x5.2.2.2.c 3 1 (ii v6) :: .row x6.A x6.c 3 1 (ii v8) :: .row x7.A x7.c 3 1 (ii v11) :: .box x8 53 [(i6 v10), (.slice x7.A x7.n x7.c), (i6 v12)] :: .box x2 50 [(i6 a1_0), (.slice a1_1_A a1_1_n a1_1_c), (i6 a1_2)] :: .box x1 48 [(.slice a0_0_A a0_0_n a0_0_c), (.slice a0_1_A a0_1_n a0_1_c), (.slice a0_2_A a0_2_n a0_2_c), (.slice a0_3_A a0_3_n a0_3_c)] :: F) (fun _ h => h.pick 30 [1, 2, 3, 4, 5, 0, 6, 7, 8, 9, 10, 11, 12, 13, 14, 15, 16, 17, 18, 19, 20, 21, 22, 23, 24, 25, 26, 27, 28, 29] rfl) ?_
                            refine j_env [(8, (pt x8)), (9, (.bool v13)), (12, (pt x14)), (15, (i6 v43)), (17, (pt x28)), (105, (.agg (List.toArray [(i6 v53), (.slice x27.A x27.n x27.c), (i6 v55)]))), (106, (.bool v56))] ⟨rfl, rfl, rfl, rfl, rfl, rfl, rfl, trivial⟩ ?_
                            exact hD1023 (x25, x26, x27, x28)
                        refine d_join (σ := ((Sl v46.length) × (Sl v47.length) × (Sl v48.length) × (Sl v49.length)) × ((Sl v51.length))) 7 #[true, true, true, true, true, false, false, false, false, false, false, false] (fun s => [(8, (pt x8)), (9, (.bool v13)), (12, (pt x14)), (15, (i6 v43)), (100, (.agg (List.toArray [(.slice s.1.1.A s.1.1.n s.1.1.c), (.slice s.1.2.1.A s.1.2.1.n s.1.2.1.c), (.slice s.1.2.2.1.A s.1.2.2.1.n s.1.2.2.1.c), (.slice s.1.2.2.2.A s.1.2.2.2.n s.1.2.2.2.c)]))), (102, (.agg (List.toArray [(i6 v50), (.slice s.2.A s.2.n s.2.c), (i6 v52)]))), (103, (i6 a2))]) (fun s => .row s.1.1.A s.1.1.c 3 1 (ii v46) :: .row s.1.2.1.A s.1.2.1.c 3 1 (ii v47) :: .row s.1.2.2.1.A s.1.2.2.1.c 3 1 (ii v48) :: .row s.1.2.2.2.A s.1.2.2.2.c 3 1 (ii v49) :: .row s.2.A s.2.c 3 1 (ii v51) :: .row x13.A x13.c 3 1 (ii v44) :: .row x11.A x11.c 3 1 (ii v41) :: .row x9.1.A x9.1.c 3 1 (ii v36) :: .row x9.2.1.A x9.2.1.c 3 1 (ii v37) :: .row x9.2.2.1.A x9.2.2.1.c 3 1 (ii v38) :: .row x9.2.2.2.A x9.2.2.2.c 3 1 (ii v39) :: .row x18.A x18.c 3 1 (ii v32) :: .row x16.1.A x16.1.c 3 1 (ii v26) :: .row x16.2.1.A x16.2.1.c 3 1 (ii v27) :: .row x16.2.2.1.A x16.2.2.1.c 3 1 (ii v28) :: .row x16.2.2.2.A x16.2.2.2.c 3 1 (ii v29) :: .box x14 53 [(i6 v21), (.slice x13.A x13.n x13.c), (i6 v23)] :: .box x12 53 [(i6 v18), (.slice x11.A x11.n x11.c), (i6 v20)] :: .box x10 57 [(.slice x9.1.A x9.1.n x9.1.c), (.slice x9.2.1.A x9.2.1.n x9.2.1.c), (.slice x9.2.2.1.A x9.2.2.1.n x9.2.2.1.c), (.slice x9.2.2.2.A x9.2.2.2.n x9.2.2.2.c)] :: .row x5.1.A x5.1.c 3 1 (ii v3) :: .row x5.2.1.A x5.2.1.c 3 1 (ii v4) :: .row x5.2.2.1.A x5.2.2.1.c 3 1 (ii v5) :: .row x5.2.2.2.A x5.2.2.2.c 3 1 (ii v6) :: .row x6.A x6.c 3 1 (ii v8) :: .row x7.A x7.c 3 1 (ii v11) :: .box x8 53 [(i6 v10), (.slice x7.A x7.n x7.c), (i6 v12)] :: .box x2 50 [(i6 a1_0), (.slice a1_1_A a1_1_n a1_1_c), (i6 a1_2)] :: .box x1 48 [(.slice a0_0_A a0_0_n a0_0_c), (.slice a0_1_A a0_1_n a0_1_c), (.slice a0_2_A a0_2_n a0_2_c), (.slice a0_3_A a0_3_n a0_3_c)] :: F) ?_ (fun hD31 => ?_)
                        · rintro ⟨x25, x26⟩
                          show J _ _ [(8, (pt x8)), (9, (.bool v13)), (12, (pt x14)), (15, (i6 v43)), (100, (.agg (List.toArray [(.slice x25.1.A x25.1.n x25.1.c), (.slice x25.2.1.A x25.2.1.n x25.2.1.c), (.slice x25.2.2.1.A x25.2.2.1.n x25.2.2.1.c), (.slice x25.2.2.2.A x25.2.2.2.n x25.2.2.2.c)]))), (102, (.agg (List.toArray [(i6 v50), (.slice x26.A x26.n x26.c), (i6 v52)]))), (103, (i6 a2))] _ (.row x25.1.A x25.1.c 3 1 (ii v46) :: .row x25.2.1.A x25.2.1.c 3 1 (ii v47) :: .row x25.2.2.1.A x25.2.2.1.c 3 1 (ii v48) :: .row x25.2.2.2.A x25.2.2.2.c 3 1 (ii v49) :: .row x26.A x26.c 3 1 (ii v51) :: .row x13.A x13.c 3 1 (ii v44) :: .row x11.A x11.c 3 1 (ii v41) :: .row x9.1.A x9.1.c 3 1 (ii v36) :: .row x9.2.1.A x9.2.1.c 3 1 (ii v37) :: .row x9.2.2.1.A x9.2.2.1.c 3 1 (ii v38) :: .row x9.2.2.2.A x9.2.2.2.c 3 1 (ii v39) :: .row x18.A x18.c 3 1 (ii v32) :: .row x16.1.A x16.1.c 3 1 (ii v26) :: .row x16.2.1.A x16.2.1.c 3 1 (ii v27) :: .row x16.2.2.1.A x16.2.2.1.c 3 1 (ii v28) :: .row x16.2.2.2.A x16.2.2.2.c 3 1 (ii v29) :: .box x14 53 [(i6 v21), (.slice x13.A x13.n x13.c), (i6 v23)] :: .box x12 53 [(i6 v18), (.slice x11.A x11.n x11.c), (i6 v20)] :: .box x10 57 [(.slice x9.1.A x9.1.n x9.1.c), (.slice x9.2.1.A x9.2.1.n x9.2.1.c), (.slice x9.2.2.1.A x9.2.2.1.n x9.2.2.1.c), (.slice x9.2.2.2.A x9.2.2.2.n x9.2.2.2.c)] :: .row x5.1.A x5.1.c 3 1 (ii v3) :: .row x5.2.1.A x5.2.1.c 3 1 (ii v4) :: .row x5.2.2.1.A x5.2.2.1.c 3 1 (ii v5) :: .row x5.2.2.2.A x5.2.2.2.c 3 1 (ii v6) :: .row x6.A x6.c 3 1 (ii v8) :: .row x7.A x7.c 3 1 (ii v11) :: .box x8 53 [(i6 v10), (.slice x7.A x7.n x7.c), (i6 v12)] :: .box x2 50 [(i6 a1_0), (.slice a1_1_A a1_1_n a1_1_c), (i6 a1_2)] :: .box x1 48 [(.slice a0_0_A a0_0_n a0_0_c), (.slice a0_1_A a0_1_n a0_1_c), (.slice a0_2_A a0_2_n a0_2_c), (.slice a0_3_A a0_3_n a0_3_c)] :: F)
                          refine d_two 5 9 (by kernel_rfl) ?_ ?_
                          · refine o_do rfl (a_call ok46 rfl rfl rfl rfl (fun w hm => impl_ShadeGc.calls K v46 x25.1.A x25.1.n x25.1.c v47 x25.2.1.A x25.2.1.n x25.2.1.c v48 x25.2.2.1.A x25.2.2.1.n x25.2.2.1.c v49 x25.2.2.2.A x25.2.2.2.n x25.2.2.2.c v50 v51 x26.A x26.n x26.c v52 a2 hm x25.1.h (Rd.row 0 rfl) x25.2.1.h (Rd.row 1 rfl) x25.2.2.1.h (Rd.row 2 rfl) x25.2.2.2.h (Rd.row 3 rfl) (hm.roomI 3 rfl) x26.h (Rd.row 4 rfl) hb21)) rfl rfl (fun x27 w h => (h.drop 6)) (fun x27 => ?_)
                            refine d_take 6 rfl (q_move rfl rfl) rfl rfl (by kernel_rfl) (by kernel_rfl) (by kernel_rfl) (fun w h => (h.drop 6)) ?_
                            refine d_take 7 rfl (q_extract rfl rfl rfl) rfl rfl (by kernel_rfl) (by kernel_rfl) (by kernel_rfl) (fun w h => (h.drop 6)) ?_
                            refine d_take 8 rfl (q_extract rfl rfl rfl) rfl rfl (by kernel_rfl) (by kernel_rfl) (by kernel_rfl) (fun w h => (h.drop 6)) ?_
                            refine j_rs (.row x25.1.A x25.1.c 3 1 (ii v46) :: .row x25.2.1.A x25.2.1.c 3 1 (ii v47) :: .row x25.2.2.1.A x25.2.2.1.c 3 1 (ii v48) :: .row x25.2.2.2.A x25.2.2.2.c 3 1 (ii v49) :: .row x26.A x26.c 3 1 (ii v51) :: .row x27.A x27.c 3 1 (ii v54) :: .row x13.A x13.c 3 1 (ii v44) :: .row x11.A x11.c 3 1 (ii v41) :: .row x9.1.A x9.1.c 3 1 (ii v36) :: .row x9.2.1.A x9.2.1.c 3 1 (ii v37) :: .row x9.2.2.1.A x9.2.2.1.c 3 1 (ii v38) :: .row x9.2.2.2.A x9.2.2.2.c 3 1 (ii v39) :: .row x18.A x18.c 3 1 (ii v32) :: .row x16.1.A x16.1.c 3 1 (ii v26) :: .row x16.2.1.A x16.2.1.c 3 1 (ii v27) :: .row x16.2.2.1.A x16.2.2.1.c 3 1 (ii v28) :: .row x16.2.2.2.A x16.2.2.2.c 3 1 (ii v29) :: .box x14 53 [(i6 v21), (.slice x13.A x13.n x13.c), (i6 v23)] :: .box x12 53 [(i6 v18), (.slice x11.A x11.n x11.c), (i6 v20)] :: .box x10 57 [(.slice x9.1.A x9.1.n x9.1.c), (.slice x9.2.1.A x9.2.1.n x9.2.1.c), (.slice x9.2.2.1.A x9.2.2.1.n x9.2.2.1.c), (.slice x9.2.2.2.A x9.2.2.2.n x9.2.2.2.c)] :: .row x5.1.A x5.1.c 3 1 (ii v3) :: .row x5.2.1.A x5.2.1.c 3 1 (ii v4) :: .row x5.2.2.1.A x5.2.2.1.c 3 1 (ii v5) :: .row x5.2.2.2.A x5.2.2.2.c 3 1 (ii v6) :: .row x6.A x6.c 3 1 (ii v8) :: .row x7.A x7.c 3 1 (ii v11) :: .box x8 53 [(i6 v10), (.slice x7.A x7.n x7.c), (i6 v12)] :: .box x2 50 [(i6 a1_0), (.slice a1_1_A a1_1_n a1_1_c), (i6 a1_2)] :: .box x1 48 [(.slice a0_0_A a0_0_n a0_0_c), (.slice a0_1_A a0_1_n a0_1_c), (.slice a0_2_A a0_2_n a0_2_c), (.slice a0_3_A a0_3_n a0_3_c)] :: F) (fun _ h => h.pick 29 [1, 2, 3, 4, 5, 0, 6, 7, 8, 9, 10, 11, 12, 13, 14, 15, 16, 17, 18, 19, 20, 21, 22, 23, 24, 25, 26, 27, 28] rfl) ?_
                            refine j_env [(8, (pt x8)), (9, (.bool v13)), (12, (pt x14)), (15, (i6 v43)), (105, (.agg (List.toArray [(i6 v53), (.slice x27.A x27.n x27.c), (i6 v55)]))), (106, (.bool v56))] ⟨rfl, rfl, rfl, rfl, rfl, rfl, trivial⟩ ?_
                            exact hD511 (x25, x26, x27)
                          · refine o_do rfl (a_alloc zr53 rfl) rfl rfl (fun x28 w h => (h.drop 6)) (fun x28 => ?_)
                            refine j_rs (.row x25.1.A x25.1.c 3 1 (ii v46) :: .row x25.2.1.A x25.2.1.c 3 1 (ii v47) :: .row x25.2.2.1.A x25.2.2.1.c 3 1 (ii v48) :: .row x25.2.2.2.A x25.2.2.2.c 3 1 (ii v49) :: .row x26.A x26.c 3 1 (ii v51) :: .box x28 53 [(i6 (0:Int)), (.slice none 0 0), (i6 (0:Int))] :: .row x13.A x13.c 3 1 (ii v44) :: .row x11.A x11.c 3 1 (ii v41) :: .row x9.1.A x9.1.c 3 1 (ii v36) :: .row x9.2.1.A x9.2.1.c 3 1 (ii v37) :: .row x9.2.2.1.A x9.2.2.1.c 3 1 (ii v38) :: .row x9.2.2.2.A x9.2.2.2.c 3 1 (ii v39) :: .row x18.A x18.c 3 1 (ii v32) :: .row x16.1.A x16.1.c 3 1 (ii v26) :: .row x16.2.1.A x16.2.1.c 3 1 (ii v27) :: .row x16.2.2.1.A x16.2.2.1.c 3 1 (ii v28) :: .row x16.2.2.2.A x16.2.2.2.c 3 1 (ii v29) :: .box x14 53 [(i6 v21), (.slice x13.A x13.n x13.c), (i6 v23)] :: .box x12 53 [(i6 v18), (.slice x11.A x11.n x11.c), (i6 v20)] :: .box x10 57 [(.slice x9.1.A x9.1.n x9.1.c), (.slice x9.2.1.A x9.2.1.n x9.2.1.c), (.slice x9.2.2.1.A x9.2.2.1.n x9.2.2.1.c), (.slice x9.2.2.2.A x9.2.2.2.n x9.2.2.2.c)] :: .row x5.1.A x5.1.c 3 1 (ii v3) :: .row x5.2.1.A x5.2.1.c 3 1 (ii v4) :: .row x5.2.2.1.A x5.2.2.1.c 3 1 (ii v5) :: .row x5.2.2.2.A x5.2.2.2.c 3 1 (ii v6) :: .row x6.A x6.c 3 1 (ii v8) :: .row x7.A x7.c 3 1 (ii v11) :: .box x8 53 [(i6 v10), (.slice x7.A x7.n x7.c), (i6 v12)] :: .box x2 50 [(i6 a1_0), (.slice a1_1_A a1_1_n a1_1_c), (i6 a1_2)] :: .box x1 48 [(.slice a0_0_A a0_0_n a0_0_c), (.slice a0_1_A a0_1_n a0_1_c), (.slice a0_2_A a0_2_n a0_2_c), (.slice a0_3_A a0_3_n a0_3_c)] :: F) (fun _ h => h.pick 29 [1, 2, 3, 4, 5, 0, 6, 7, 8, 9, 10, 11, 12, 13, 14, 15, 16, 17, 18, 19, 20, 21, 22, 23, 24, 25, 26, 27, 28] rfl) ?_
                            refine j_env [(8, (pt x8)), (9, (.bool v13)), (12, (pt x14)), (15, (i6 v43)), (17, (pt x28)), (100, (.agg (List.toArray [(.slice x25.1.A x25.1.n x25.1.c), (.slice x25.2.1.A x25.2.1.n x25.2.1.c), (.slice x25.2.2.1.A x25.2.2.1.n x25.2.2.1.c), (.slice x25.2.2.2.A x25.2.2.2.n x25.2.2.2.c)]))), (102, (.agg (List.toArray [(i6 v50), (.slice x26.A x26.n x26.c), (i6 v52)]))), (103, (i6 a2))] ⟨rfl, rfl, rfl, rfl, rfl, rfl, rfl, rfl, trivial⟩ ?_
                            exact hD543 (x25, x26, x28)
                        refine d_join (σ := ((Sl v46.length) × (Sl v47.length) × (Sl v48.length) × (Sl v49.length)) × Nat) 7 #[true, true, true, false, true, false, false, false, false, true, false, false] (fun s => [(8, (pt x8)), (9, (.bool v13)), (12, (pt x14)), (15, (i6 v43)), (17, (pt s.2)), (100, (.agg (List.toArray [(.slice s.1.1.A s.1.1.n s.1.1.c), (.slice s.1.2.1.A s.1.2.1.n s.1.2.1.c), (.slice s.1.2.2.1.A s.1.2.2.1.n s.1.2.2.1.c), (.slice s.1.2.2.2.A s.1.2.2.2.n s.1.2.2.2.c)]))), (101, (.agg (List.toArray [(i6 a1_0), (.slice a1_1_A a1_1_n a1_1_c), (i6 a1_2)]))), (103, (i6 a2))]) (fun s => .row s.1.1.A s.1.1.c 3 1 (ii v46) :: .row s.1.2.1.A s.1.2.1.c 3 1 (ii v47) :: .row s.1.2.2.1.A s.1.2.2.1.c 3 1 (ii v48) :: .row s.1.2.2.2.A s.1.2.2.2.c 3 1 (ii v49) :: .box s.2 53 [(i6 (0:Int)), (.slice none 0 0), (i6 (0:Int))] :: .row x13.A x13.c 3 1 (ii v44) :: .row x11.A x11.c 3 1 (ii v41) :: .row x9.1.A x9.1.c 3 1 (ii v36) :: .row x9.2.1.A x9.2.1.c 3 1 (ii v37) :: .row x9.2.2.1.A x9.2.2.1.c 3 1 (ii v38) :: .row x9.2.2.2.A x9.2.2.2.c 3 1 (ii v39) :: .row x18.A x18.c 3 1 (ii v32) :: .row x16.1.A x16.1.c 3 1 (ii v26) :: .row x16.2.1.A x16.2.1.c 3 1 (ii v27) :: .row x16.2.2.1.A x16.2.2.1.c 3 1 (ii v28) :: .row x16.2.2.2.A x16.2.2.2.c 3 1 (ii v29) :: .box x14 53 [(i6 v21), (.slice x13.A x13.n x13.c), (i6 v23)] :: .box x12 53 [(i6 v18), (.slice x11.A x11.n x11.c), (i6 v20)] :: .box x10 57 [(.slice x9.1.A x9.1.n x9.1.c), (.slice x9.2.1.A x9.2.1.n x9.2.1.c), (.slice x9.2.2.1.A x9.2.2.1.n x9.2.2.1.c), (.slice x9.2.2.2.A x9.2.2.2.n x9.2.2.2.c)] :: .row x5.1.A x5.1.c 3 1 (ii v3) :: .row x5.2.1.A x5.2.1.c 3 1 (ii v4) :: .row x5.2.2.1.A x5.2.2.1.c 3 1 (ii v5) :: .row x5.2.2.2.A x5.2.2.2.c 3 1 (ii v6) :: .row x6.A x6.c 3 1 (ii v8) :: .row x7.A x7.c 3 1 (ii v11) :: .box x8 53 [(i6 v10), (.slice x7.A x7.n x7.c), (i6 v12)] :: .box x2 50 [(i6 a1_0), (.slice a1_1_A a1_1_n a1_1_c), (i6 a1_2)] :: .box x1 48 [(.slice a0_0_A a0_0_n a0_0_c), (.slice a0_1_A a0_1_n a0_1_c), (.slice a0_2_A a0_2_n a0_2_c), (.slice a0_3_A a0_3_n a0_3_c)] :: F) ?_ (fun hD535 => ?_)
                        · rintro ⟨x25, x28⟩
                          show J _ _ [(8, (pt x8)), (9, (.bool v13)), (12, (pt x14)), (15, (i6 v43)), (17, (pt x28)), (100, (.agg (List.toArray [(.slice x25.1.A x25.1.n x25.1.c), (.slice x25.2.1.A x25.2.1.n x25.2.1.c), (.slice x25.2.2.1.A x25.2.2.1.n x25.2.2.1.c), (.slice x25.2.2.2.A x25.2.2.2.n x25.2.2.2.c)]))), (101, (.agg (List.toArray [(i6 a1_0), (.slice a1_1_A a1_1_n a1_1_c), (i6 a1_2)]))), (103, (i6 a2))] _ (.row x25.1.A x25.1.c 3 1 (ii v46) :: .row x25.2.1.A x25.2.1.c 3 1 (ii v47) :: .row x25.2.2.1.A x25.2.2.1.c 3 1 (ii v48) :: .row x25.2.2.2.A x25.2.2.2.c 3 1 (ii v49) :: .box x28 53 [(i6 (0:Int)), (.slice none 0 0), (i6 (0:Int))] :: .row x13.A x13.c 3 1 (ii v44) :: .row x11.A x11.c 3 1 (ii v41) :: .row x9.1.A x9.1.c 3 1 (ii v36) :: .row x9.2.1.A x9.2.1.c 3 1 (ii v37) :: .row x9.2.2.1.A x9.2.2.1.c 3 1 (ii v38) :: .row x9.2.2.2.A x9.2.2.2.c 3 1 (ii v39) :: .row x18.A x18.c 3 1 (ii v32) :: .row x16.1.A x16.1.c 3 1 (ii v26) :: .row x16.2.1.A x16.2.1.c 3 1 (ii v27) :: .row x16.2.2.1.A x16.2.2.1.c 3 1 (ii v28) :: .row x16.2.2.2.A x16.2.2.2.c 3 1 (ii v29) :: .box x14 53 [(i6 v21), (.slice x13.A x13.n x13.c), (i6 v23)] :: .box x12 53 [(i6 v18), (.slice x11.A x11.n x11.c), (i6 v20)] :: .box x10 57 [(.slice x9.1.A x9.1.n x9.1.c), (.slice x9.2.1.A x9.2.1.n x9.2.1.c), (.slice x9.2.2.1.A x9.2.2.1.n x9.2.2.1.c), (.slice x9.2.2.2.A x9.2.2.2.n x9.2.2.2.c)] :: .row x5.1.A x5.1.c 3 1 (ii v3) :: .row x5.2.1.A x5.2.1.c 3 1 (ii v4) :: .row x5.2.2.1.A x5.2.2.1.c 3 1 (ii v5) :: .row x5.2.2.2.A x5.2.2.2.c 3 1 (ii v6) :: .row x6.A x6.c 3 1 (ii v8) :: .row x7.A x7.c 3 1 (ii v11) :: .box x8 53 [(i6 v10), (.slice x7.A x7.n x7.c), (i6 v12)] :: .box x2 50 [(i6 a1_0), (.slice a1_1_A a1_1_n a1_1_c), (i6 a1_2)] :: .box x1 48 [(.slice a0_0_A a0_0_n a0_0_c), (.slice a0_1_A a0_1_n a0_1_c), (.slice a0_2_A a0_2_n a0_2_c), (.slice a0_3_A a0_3_n a0_3_c)] :: F)
                          refine d_one 3 (by kernel_rfl) ?_
                          · refine o_do rfl (a_call ok38 rfl rfl rfl rfl (fun w hm => laws_toGc.calls K a1_0 a1_1 a1_1_A a1_1_n a1_1_c a1_2 hm a1_1_h (Rd.drop 28 a1_1_R) hb20)) rfl rfl (fun x26 w h => (h.drop 6)) (fun x26 => ?_)
                            refine j_rs (.row x25.1.A x25.1.c 3 1 (ii v46) :: .row x25.2.1.A x25.2.1.c 3 1 (ii v47) :: .row x25.2.2.1.A x25.2.2.1.c 3 1 (ii v48) :: .row x25.2.2.2.A x25.2.2.2.c 3 1 (ii v49) :: .row x26.A x26.c 3 1 (ii v51) :: .box x28 53 [(i6 (0:Int)), (.slice none 0 0), (i6 (0:Int))] :: .row x13.A x13.c 3 1 (ii v44) :: .row x11.A x11.c 3 1 (ii v41) :: .row x9.1.A x9.1.c 3 1 (ii v36) :: .row x9.2.1.A x9.2.1.c 3 1 (ii v37) :: .row x9.2.2.1.A x9.2.2.1.c 3 1 (ii v38) :: .row x9.2.2.2.A x9.2.2.2.c 3 1 (ii v39) :: .row x18.A x18.c 3 1 (ii v32) :: .row x16.1.A x16.1.c 3 1 (ii v26) :: .row x16.2.1.A x16.2.1.c 3 1 (ii v27) :: .row x16.2.2.1.A x16.2.2.1.c 3 1 (ii v28) :: .row x16.2.2.2.A x16.2.2.2.c 3 1 (ii v29) :: .box x14 53 [(i6 v21), (.slice x13.A x13.n x13.c), (i6 v23)] :: .box x12 53 [(i6 v18), (.slice x11.A x11.n x11.c), (i6 v20)] :: .box x10 57 [(.slice x9.1.A x9.1.n x9.1.c), (.slice x9.2.1.A x9.2.1.n x9.2.1.c), (.slice x9.2.2.1.A x9.2.2.1.n x9.2.2.1.c), (.slice x9.2.2.2.A x9.2.2.2.n x9.2.2.2.c)] :: .row x5.1.A x5.1.c 3 1 (ii v3) :: .row x5.2.1.A x5.2.1.c 3 1 (ii v4) :: .row x5.2.2.1.A x5.2.2.1.c 3 1 (ii v5) :: .row x5.2.2.2.A x5.2.2.2.c 3 1 (ii v6) :: .row x6.A x6.c 3 1 (ii v8) :: .row x7.A x7.c 3 1 (ii v11) :: .box x8 53 [(i6 v10), (.slice x7.A x7.n x7.c), (i6 v12)] :: .box x2 50 [(i6 a1_0), (.slice a1_1_A a1_1_n a1_1_c), (i6 a1_2)] :: .box x1 48 [(.slice a0_0_A a0_0_n a0_0_c), (.slice a0_1_A a0_1_n a0_1_c), (.slice a0_2_A a0_2_n a0_2_c), (.slice a0_3_A a0_3_n a0_3_c)] :: F) (fun _ h => h.pick 29 [1, 2, 3, 4, 0, 5, 6, 7, 8, 9, 10, 11, 12, 13, 14, 15, 16, 17, 18, 19, 20, 21, 22, 23, 24, 25, 26, 27, 28] rfl) ?_
                            refine j_env [(8, (pt x8)), (9, (.bool v13)), (12, (pt x14)), (15, (i6 v43)), (17, (pt x28)), (100, (.agg (List.toArray [(.slice x25.1.A x25.1.n x25.1.c), (.slice x25.2.1.A x25.2.1.n x25.2.1.c), (.slice x25.2.2.1.A x25.2.2.1.n x25.2.2.1.c), (.slice x25.2.2.2.A x25.2.2.2.n x25.2.2.2.c)]))), (102, (.agg (List.toArray [(i6 v50), (.slice x26.A x26.n x26.c), (i6 v52)]))), (103, (i6 a2))] ⟨rfl, rfl, rfl, rfl, rfl, rfl, rfl, rfl, trivial⟩ ?_
                            exact hD543 (x25, x26, x28)
                        refine d_join (σ := ((Sl v46.length) × (Sl v47.length) × (Sl v48.length) × (Sl v49.length))) 8 #[true, true, true, false, true, false, false, false, false, false, false, false] (fun s => [(8, (pt x8)), (9, (.bool v13)), (12, (pt x14)), (15, (i6 v43)), (100, (.agg (List.toArray [(.slice s.1.A s.1.n s.1.c), (.slice s.2.1.A s.2.1.n s.2.1.c), (.slice s.2.2.1.A s.2.2.1.n s.2.2.1.c), (.slice s.2.2.2.A s.2.2.2.n s.2.2.2.c)]))), (101, (.agg (List.toArray [(i6 a1_0), (.slice a1_1_A a1_1_n a1_1_c), (i6 a1_2)]))), (103, (i6 a2))]) (fun s => .row s.1.A s.1.c 3 1 (ii v46) :: .row s.2.1.A s.2.1.c 3 1 (ii v47) :: .row s.2.2.1.A s.2.2.1.c 3 1 (ii v48) :: .row s.2.2.2.A s.2.2.2.c 3 1 (ii v49) :: .row x13.A x13.c 3 1 (ii v44) :: .row x11.A x11.c 3 1 (ii v41) :: .row x9.1.A x9.1.c 3 1 (ii v36) :: .row x9.2.1.A x9.2.1.c 3 1 (ii v37) :: .row x9.2.2.1.A x9.2.2.1.c 3 1 (ii v38) :: .row x9.2.2.2.A x9.2.2.2.c 3 1 (ii v39) :: .row x18.A x18.c 3 1 (ii v32) :: .row x16.1.A x16.1.c 3 1 (ii v26) :: .row x16.2.1.A x16.2.1.c 3 1 (ii v27) :: .row x16.2.2.1.A x16.2.2.1.c 3 1 (ii v28) :: .row x16.2.2.2.A x16.2.2.2.c 3 1 (ii v29) :: .box x14 53 [(i6 v21), (.slice x13.A x13.n x13.c), (i6 v23)] :: .box x12 53 [(i6 v18), (.slice x11.A x11.n x11.c), (i6 v20)] :: .box x10 57 [(.slice x9.1.A x9.1.n x9.1.c), (.slice x9.2.1.A x9.2.1.n x9.2.1.c), (.slice x9.2.2.1.A x9.2.2.1.n x9.2.2.1.c), (.slice x9.2.2.2.A x9.2.2.2.n x9.2.2.2.c)] :: .row x5.1.A x5.1.c 3 1 (ii v3) :: .row x5.2.1.A x5.2.1.c 3 1 (ii v4) :: .row x5.2.2.1.A x5.2.2.1.c 3 1 (ii v5) :: .row x5.2.2.2.A x5.2.2.2.c 3 1 (ii v6) :: .row x6.A x6.c 3 1 (ii v8) :: .row x7.A x7.c 3 1 (ii v11) :: .box x8 53 [(i6 v10), (.slice x7.A x7.n x7.c), (i6 v12)] :: .box x2 50 [(i6 a1_0), (.slice a1_1_A a1_1_n a1_1_c), (i6 a1_2)] :: .box x1 48 [(.slice a0_0_A a0_0_n a0_0_c), (.slice a0_1_A a0_1_n a0_1_c), (.slice a0_2_A a0_2_n a0_2_c), (.slice a0_3_A a0_3_n a0_3_c)] :: F) ?_ (fun hD23 => ?_)
                        · rintro x25
                          show J _ _ [(8, (pt x8)), (9, (.bool v13)), (12, (pt x14)), (15, (i6 v43)), (100, (.agg (List.toArray [(.slice x25.1.A x25.1.n x25.1.c), (.slice x25.2.1.A x25.2.1.n x25.2.1.c), (.slice x25.2.2.1.A x25.2.2.1.n x25.2.2.1.c), (.slice x25.2.2.2.A x25.2.2.2.n x25.2.2.2.c)]))), (101, (.agg (List.toArray [(i6 a1_0), (.slice a1_1_A a1_1_n a1_1_c), (i6 a1_2)]))), (103, (i6 a2))] _ (.row x25.1.A x25.1.c 3 1 (ii v46) :: .row x25.2.1.A x25.2.1.c 3 1 (ii v47) :: .row x25.2.2.1.A x25.2.2.1.c 3 1 (ii v48) :: .row x25.2.2.2.A x25.2.2.2.c 3 1 (ii v49) :: .row x13.A x13.c 3 1 (ii v44) :: .row x11.A x11.c 3 1 (ii v41) :: .row x9.1.A x9.1.c 3 1 (ii v36) :: .row x9.2.1.A x9.2.1.c 3 1 (ii v37) :: .row x9.2.2.1.A x9.2.2.1.c 3 1 (ii v38) :: .row x9.2.2.2.A x9.2.2.2.c 3 1 (ii v39) :: .row x18.A x18.c 3 1 (ii v32) :: .row x16.1.A x16.1.c 3 1 (ii v26) :: .row x16.2.1.A x16.2.1.c 3 1 (ii v27) :: .row x16.2.2.1.A x16.2.2.1.c 3 1 (ii v28) :: .row x16.2.2.2.A x16.2.2.2.c 3 1 (ii v29) :: .box x14 53 [(i6 v21), (.slice x13.A x13.n x13.c), (i6 v23)] :: .box x12 53 [(i6 v18), (.slice x11.A x11.n x11.c), (i6 v20)] :: .box x10 57 [(.slice x9.1.A x9.1.n x9.1.c), (.slice x9.2.1.A x9.2.1.n x9.2.1.c), (.slice x9.2.2.1.A x9.2.2.1.n x9.2.2.1.c), (.slice x9.2.2.2.A x9.2.2.2.n x9.2.2.2.c)] :: .row x5.1.A x5.1.c 3 1 (ii v3) :: .row x5.2.1.A x5.2.1.c 3 1 (ii v4) :: .row x5.2.2.1.A x5.2.2.1.c 3 1 (ii v5) :: .row x5.2.2.2.A x5.2.2.2.c 3 1 (ii v6) :: .row x6.A x6.c 3 1 (ii v8) :: .row x7.A x7.c 3 1 (ii v11) :: .box x8 53 [(i6 v10), (.slice x7.A x7.n x7.c), (i6 v12)] :: .box x2 50 [(i6 a1_0), (.slice a1_1_A a1_1_n a1_1_c), (i6 a1_2)] :: .box x1 48 [(.slice a0_0_A a0_0_n a0_0_c), (.slice a0_1_A a0_1_n a0_1_c), (.slice a0_2_A a0_2_n a0_2_c), (.slice a0_3_A a0_3_n a0_3_c)] :: F)
                          refine d_two 3 9 (by kernel_rfl) ?_ ?_
                          · refine o_do rfl (a_call ok38 rfl rfl rfl rfl (fun w hm => laws_toGc.calls K a1_0 a1_1 a1_1_A a1_1_n a1_1_c a1_2 hm a1_1_h (Rd.drop 27 a1_1_R) hb20)) rfl rfl (fun x26 w h => (h.drop 5)) (fun x26 => ?_)
                            refine j_rs (.row x25.1.A x25.1.c 3 1 (ii v46) :: .row x25.2.1.A x25.2.1.c 3 1 (ii v47) :: .row x25.2.2.1.A x25.2.2.1.c 3 1 (ii v48) :: .row x25.2.2.2.A x25.2.2.2.c 3 1 (ii v49) :: .row x26.A x26.c 3 1 (ii v51) :: .row x13.A x13.c 3 1 (ii v44) :: .row x11.A x11.c 3 1 (ii v41) :: .row x9.1.A x9.1.c 3 1 (ii v36) :: .row x9.2.1.A x9.2.1.c 3 1 (ii v37) :: .row x9.2.2.1.A x9.2.2.1.c 3 1 (ii v38) :: .row x9.2.2.2.A x9.2.2.2.c 3 1 (ii v39) :: .row x18.A x18.c 3 1 (ii v32) :: .row x16.1.A x16.1.c 3 1 (ii v26) :: .row x16.2.1.A x16.2.1.c 3 1 (ii v27) :: .row x16.2.2.1.A x16.2.2.1.c 3 1 (ii v28) :: .row x16.2.2.2.A x16.2.2.2.c 3 1 (ii v29) :: .box x14 53 [(i6 v21), (.slice x13.A x13.n x13.c), (i6 v23)] :: .box x12 53 [(i6 v18), (.slice x11.A x11.n x11.c), (i6 v20)] :: .box x10 57 [(.slice x9.1.A x9.1.n x9.1.c), (.slice x9.2.1.A x9.2.1.n x9.2.1.c), (.slice x9.2.2.1.A x9.2.2.1.n x9.2.2.1.c), (.slice x9.2.2.2.A x9.2.2.2.n x9.2.2.2.c)] :: .row x5.1.A x5.1.c 3 1 (ii v3) :: .row x5.2.1.A x5.2.1.c 3 1 (ii v4) :: .row x5.2.2.1.A x5.2.2.1.c 3 1 (ii v5) :: .row x5.2.2.2.A x5.2.2.2.c 3 1 (ii v6) :: .row x6.A x6.c 3 1 (ii v8) :: .row x7.A x7.c 3 1 (ii v11) :: .box x8 53 [(i6 v10), (.slice x7.A x7.n x7.c), (i6 v12)] :: .box x2 50 [(i6 a1_0), (.slice a1_1_A a1_1_n a1_1_c), (i6 a1_2)] :: .box x1 48 [(.slice a0_0_A a0_0_n a0_0_c), (.slice a0_1_A a0_1_n a0_1_c), (.slice a0_2_A a0_2_n a0_2_c), (.slice a0_3_A a0_3_n a0_3_c)] :: F) (fun _ h => h.pick 28 [1, 2, 3, 4, 0, 5, 6, 7, 8, 9, 10, 11, 12, 13, 14, 15, 16, 17, 18, 19, 20, 21, 22, 23, 24, 25, 26, 27] rfl) ?_
                            refine j_env [(8, (pt x8)), (9, (.bool v13)), (12, (pt x14)), (15, (i6 v43)), (100, (.agg (List.toArray [(.slice x25.1.A x25.1.n x25.1.c), (.slice x25.2.1.A x25.2.1.n x25.2.1.c), (.slice x25.2.2.1.A x25.2.2.1.n x25.2.2.1.c), (.slice x25.2.2.2.A x25.2.2.2.n x25.2.2.2.c)]))), (102, (.agg (List.toArray [(i6 v50), (.slice x26.A x26.n x26.c), (i6 v52)]))), (103, (i6 a2))] ⟨rfl, rfl, rfl, rfl, rfl, rfl, rfl, trivial⟩ ?_
                            exact hD31 (x25, x26)
                          · refine o_do rfl (a_alloc zr53 rfl) rfl rfl (fun x28 w h => (h.drop 5)) (fun x28 => ?_)
                            refine j_rs (.row x25.1.A x25.1.c 3 1 (ii v46) :: .row x25.2.1.A x25.2.1.c 3 1 (ii v47) :: .row x25.2.2.1.A x25.2.2.1.c 3 1 (ii v48) :: .row x25.2.2.2.A x25.2.2.2.c 3 1 (ii v49) :: .box x28 53 [(i6 (0:Int)), (.slice none 0 0), (i6 (0:Int))] :: .row x13.A x13.c 3 1 (ii v44) :: .row x11.A x11.c 3 1 (ii v41) :: .row x9.1.A x9.1.c 3 1 (ii v36) :: .row x9.2.1.A x9.2.1.c 3 1 (ii v37) :: .row x9.2.2.1.A x9.2.2.1.c 3 1 (ii v38) :: .row x9.2.2.2.A x9.2.2.2.c 3 1 (ii v39) :: .row x18.A x18.c 3 1 (ii v32) :: .row x16.1.A x16.1.c 3 1 (ii v26) :: .row x16.2.1.A x16.2.1.c 3 1 (ii v27) :: .row x16.2.2.1.A x16.2.2.1.c 3 1 (ii v28) :: .row x16.2.2.2.A x16.2.2.2.c 3 1 (ii v29) :: .box x14 53 [(i6 v21), (.slice x13.A x13.n x13.c), (i6 v23)] :: .box x12 53 [(i6 v18), (.slice x11.A x11.n x11.c), (i6 v20)] :: .box x10 57 [(.slice x9.1.A x9.1.n x9.1.c), (.slice x9.2.1.A x9.2.1.n x9.2.1.c), (.slice x9.2.2.1.A x9.2.2.1.n x9.2.2.1.c), (.slice x9.2.2.2.A x9.2.2.2.n x9.2.2.2.c)] :: .row x5.1.A x5.1.c 3 1 (ii v3) :: .row x5.2.1.A x5.2.1.c 3 1 (ii v4) :: .row x5.2.2.1.A x5.2.2.1.c 3 1 (ii v5) :: .row x5.2.2.2.A x5.2.2.2.c 3 1 (ii v6) :: .row x6.A x6.c 3 1 (ii v8) :: .row x7.A x7.c 3 1 (ii v11) :: .box x8 53 [(i6 v10), (.slice x7.A x7.n x7.c), (i6 v12)] :: .box x2 50 [(i6 a1_0), (.slice a1_1_A a1_1_n a1_1_c), (i6 a1_2)] :: .box x1 48 [(.slice a0_0_A a0_0_n a0_0_c), (.slice a0_1_A a0_1_n a0_1_c), (.slice a0_2_A a0_2_n a0_2_c), (.slice a0_3_A a0_3_n a0_3_c)] :: F) (fun _ h => h.pick 28 [1, 2, 3, 4, 0, 5, 6, 7, 8, 9, 10, 11, 12, 13, 14, 15, 16, 17, 18, 19, 20, 21, 22, 23, 24, 25, 26, 27] rfl) ?_
                            refine j_env [(8, (pt x8)), (9, (.bool v13)), (12, (pt x14)), (15, (i6 v43)), (17, (pt x28)), (100, (.agg (List.toArray [(.slice x25.1.A x25.1.n x25.1.c), (.slice x25.2.1.A x25.2.1.n x25.2.1.c), (.slice x25.2.2.1.A x25.2.2.1.n x25.2.2.1.c), (.slice x25.2.2.2.A x25.2.2.2.n x25.2.2.2.c)]))), (101, (.agg (List.toArray [(i6 a1_0), (.slice a1_1_A a1_1_n a1_1_c), (i6 a1_2)]))), (103, (i6 a2))] ⟨rfl, rfl, rfl, rfl, rfl, rfl, rfl, rfl, trivial⟩ ?_
                            exact hD535 (x25, x28)
                        refine d_join (σ := Nat) 8 #[true, false, true, false, true, false, false, false, false, true, false, false] (fun s => [(8, (pt x8)), (9, (.bool v13)), (12, (pt x14)), (15, (i6 v43)), (17, (pt s)), (99, (.agg (List.toArray [(.slice a0_0_A a0_0_n a0_0_c), (.slice a0_1_A a0_1_n a0_1_c), (.slice a0_2_A a0_2_n a0_2_c), (.slice a0_3_A a0_3_n a0_3_c)]))), (101, (.agg (List.toArray [(i6 a1_0), (.slice a1_1_A a1_1_n a1_1_c), (i6 a1_2)]))), (103, (i6 a2))]) (fun s => .box s 53 [(i6 (0:Int)), (.slice none 0 0), (i6 (0:Int))] :: .row x13.A x13.c 3 1 (ii v44) :: .row x11.A x11.c 3 1 (ii v41) :: .row x9.1.A x9.1.c 3 1 (ii v36) :: .row x9.2.1.A x9.2.1.c 3 1 (ii v37) :: .row x9.2.2.1.A x9.2.2.1.c 3 1 (ii v38) :: .row x9.2.2.2.A x9.2.2.2.c 3 1 (ii v39) :: .row x18.A x18.c 3 1 (ii v32) :: .row x16.1.A x16.1.c 3 1 (ii v26) :: .row x16.2.1.A x16.2.1.c 3 1 (ii v27) :: .row x16.2.2.1.A x16.2.2.1.c 3 1 (ii v28) :: .row x16.2.2.2.A x16.2.2.2.c 3 1 (ii v29) :: .box x14 53 [(i6 v21), (.slice x13.A x13.n x13.c), (i6 v23)] :: .box x12 53 [(i6 v18), (.slice x11.A x11.n x11.c), (i6 v20)] :: .box x10 57 [(.slice x9.1.A x9.1.n x9.1.c), (.slice x9.2.1.A x9.2.1.n x9.2.1.c), (.slice x9.2.2.1.A x9.2.2.1.n x9.2.2.1.c), (.slice x9.2.2.2.A x9.2.2.2.n x9.2.2.2.c)] :: .row x5.1.A x5.1.c 3 1 (ii v3) :: .row x5.2.1.A x5.2.1.c 3 1 (ii v4) :: .row x5.2.2.1.A x5.2.2.1.c 3 1 (ii v5) :: .row x5.2.2.2.A x5.2.2.2.c 3 1 (ii v6) :: .row x6.A x6.c 3 1 (ii v8) :: .row x7.A x7.c 3 1 (ii v11) :: .box x8 53 [(i6 v10), (.slice x7.A x7.n x7.c), (i6 v12)] :: .box x2 50 [(i6 a1_0), (.slice a1_1_A a1_1_n a1_1_c), (i6 a1_2)] :: .box x1 48 [(.slice a0_0_A a0_0_n a0_0_c), (.slice a0_1_A a0_1_n a0_1_c), (.slice a0_2_A a0_2_n a0_2_c), (.slice a0_3_A a0_3_n a0_3_c)] :: F) ?_ (fun hD533 => ?_)
                        · rintro x28
                          show J _ _ [(8, (pt x8)), (9, (.bool v13)), (12, (pt x14)), (15, (i6 v43)), (17, (pt x28)), (99, (.agg (List.toArray [(.slice a0_0_A a0_0_n a0_0_c), (.slice a0_1_A a0_1_n a0_1_c), (.slice a0_2_A a0_2_n a0_2_c), (.slice a0_3_A a0_3_n a0_3_c)]))), (101, (.agg (List.toArray [(i6 a1_0), (.slice a1_1_A a1_1_n a1_1_c), (i6 a1_2)]))), (103, (i6 a2))] _ (.box x28 53 [(i6 (0:Int)), (.slice none 0 0), (i6 (0:Int))] :: .row x13.A x13.c 3 1 (ii v44) :: .row x11.A x11.c 3 1 (ii v41) :: .row x9.1.A x9.1.c 3 1 (ii v36) :: .row x9.2.1.A x9.2.1.c 3 1 (ii v37) :: .row x9.2.2.1.A x9.2.2.1.c 3 1 (ii v38) :: .row x9.2.2.2.A x9.2.2.2.c 3 1 (ii v39) :: .row x18.A x18.c 3 1 (ii v32) :: .row x16.1.A x16.1.c 3 1 (ii v26) :: .row x16.2.1.A x16.2.1.c 3 1 (ii v27) :: .row x16.2.2.1.A x16.2.2.1.c 3 1 (ii v28) :: .row x16.2.2.2.A x16.2.2.2.c 3 1 (ii v29) :: .box x14 53 [(i6 v21), (.slice x13.A x13.n x13.c), (i6 v23)] :: .box x12 53 [(i6 v18), (.slice x11.A x11.n x11.c), (i6 v20)] :: .box x10 57 [(.slice x9.1.A x9.1.n x9.1.c), (.slice x9.2.1.A x9.2.1.n x9.2.1.c), (.slice x9.2.2.1.A x9.2.2.1.n x9.2.2.1.c), (.slice x9.2.2.2.A x9.2.2.2.n x9.2.2.2.c)] :: .row x5.1.A x5.1.c 3 1 (ii v3) :: .row x5.2.1.A x5.2.1.c 3 1 (ii v4) :: .row x5.2.2.1.A x5.2.2.1.c 3 1 (ii v5) :: .row x5.2.2.2.A x5.2.2.2.c 3 1 (ii v6) :: .row x6.A x6.c 3 1 (ii v8) :: .row x7.A x7.c 3 1 (ii v11) :: .box x8 53 [(i6 v10), (.slice x7.A x7.n x7.c), (i6 v12)] :: .box x2 50 [(i6 a1_0), (.slice a1_1_A a1_1_n a1_1_c), (i6 a1_2)] :: .box x1 48 [(.slice a0_0_A a0_0_n a0_0_c), (.slice a0_1_A a0_1_n a0_1_c), (.slice a0_2_A a0_2_n a0_2_c), (.slice a0_3_A a0_3_n a0_3_c)] :: F)
                          refine d_one 1 (by kernel_rfl) ?_
                          · refine o_do rfl (a_call ok37 rfl rfl rfl rfl (fun w hm => laws_toStore.calls K a0_0 a0_0_A a0_0_n a0_0_c a0_1 a0_1_A a0_1_n a0_1_c a0_2 a0_2_A a0_2_n a0_2_c a0_3 a0_3_A a0_3_n a0_3_c hm a0_0_h (Rd.drop 24 a0_0_R) a0_1_h (Rd.drop 24 a0_1_R) a0_2_h (Rd.drop 24 a0_2_R) a0_3_h (Rd.drop 24 a0_3_R) hb19)) rfl rfl (fun x25 w h => (h.drop 5)) (fun x25 => ?_)
                            refine j_rs (.row x25.1.A x25.1.c 3 1 (ii v46) :: .row x25.2.1.A x25.2.1.c 3 1 (ii v47) :: .row x25.2.2.1.A x25.2.2.1.c 3 1 (ii v48) :: .row x25.2.2.2.A x25.2.2.2.c 3 1 (ii v49) :: .box x28 53 [(i6 (0:Int)), (.slice none 0 0), (i6 (0:Int))] :: .row x13.A x13.c 3 1 (ii v44) :: .row x11.A x11.c 3 1 (ii v41) :: .row x9.1.A x9.1.c 3 1 (ii v36) :: .row x9.2.1.A x9.2.1.c 3 1 (ii v37) :: .row x9.2.2.1.A x9.2.2.1.c 3 1 (ii v38) :: .row x9.2.2.2.A x9.2.2.2.c 3 1 (ii v39) :: .row x18.A x18.c 3 1 (ii v32) :: .row x16.1.A x16.1.c 3 1 (ii v26) :: .row x16.2.1.A x16.2.1.c 3 1 (ii v27) :: .row x16.2.2.1.A x16.2.2.1.c 3 1 (ii v28) :: .row x16.2.2.2.A x16.2.2.2.c 3 1 (ii v29) :: .box x14 53 [(i6 v21), (.slice x13.A x13.n x13.c), (i6 v23)] :: .box x12 53 [(i6 v18), (.slice x11.A x11.n x11.c), (i6 v20)] :: .box x10 57 [(.slice x9.1.A x9.1.n x9.1.c), (.slice x9.2.1.A x9.2.1.n x9.2.1.c), (.slice x9.2.2.1.A x9.2.2.1.n x9.2.2.1.c), (.slice x9.2.2.2.A x9.2.2.2.n x9.2.2.2.c)] :: .row x5.1.A x5.1.c 3 1 (ii v3) :: .row x5.2.1.A x5.2.1.c 3 1 (ii v4) :: .row x5.2.2.1.A x5.2.2.1.c 3 1 (ii v5) :: .row x5.2.2.2.A x5.2.2.2.c 3 1 (ii v6) :: .row x6.A x6.c 3 1 (ii v8) :: .row x7.A x7.c 3 1 (ii v11) :: .box x8 53 [(i6 v10), (.slice x7.A x7.n x7.c), (i6 v12)] :: .box x2 50 [(i6 a1_0), (.slice a1_1_A a1_1_n a1_1_c), (i6 a1_2)] :: .box x1 48 [(.slice a0_0_A a0_0_n a0_0_c), (.slice a0_1_A a0_1_n a0_1_c), (.slice a0_2_A a0_2_n a0_2_c), (.slice a0_3_A a0_3_n a0_3_c)] :: F) (fun _ h => h) ?_
                            refine j_env [(8, (pt x8)), (9, (.bool v13)), (12, (pt x14)), (15, (i6 v43)), (17, (pt x28)), (100, (.agg (List.toArray [(.slice x25.1.A x25.1.n x25.1.c), (.slice x25.2.1.A x25.2.1.n x25.2.1.c), (.slice x25.2.2.1.A x25.2.2.1.n x25.2.2.1.c), (.slice x25.2.2.2.A x25.2.2.2.n x25.2.2.2.c)]))), (101, (.agg (List.toArray [(i6 a1_0), (.slice a1_1_A a1_1_n a1_1_c), (i6 a1_2)]))), (103, (i6 a2))] ⟨rfl, rfl, rfl, rfl, rfl, rfl, rfl, rfl, trivial⟩ ?_
                            exact hD535 (x25, x28)
                        refine d_two 1 9 (by kernel_rfl) ?_ ?_
                        · refine o_do rfl (a_call ok37 rfl rfl rfl rfl (fun w hm => laws_toStore.calls K a0_0 a0_0_A a0_0_n a0_0_c a0_1 a0_1_A a0_1_n a0_1_c a0_2 a0_2_A a0_2_n a0_2_c a0_3 a0_3_A a0_3_n a0_3_c hm a0_0_h (Rd.drop 23 a0_0_R) a0_1_h (Rd.drop 23 a0_1_R) a0_2_h (Rd.drop 23 a0_2_R) a0_3_h (Rd.drop 23 a0_3_R) hb19)) rfl rfl (fun x25 w h => (h.drop 4)) (fun x25 => ?_)
                          refine j_rs (.row x25.1.A x25.1.c 3 1 (ii v46) :: .row x25.2.1.A x25.2.1.c 3 1 (ii v47) :: .row x25.2.2.1.A x25.2.2.1.c 3 1 (ii v48) :: .row x25.2.2.2.A x25.2.2.2.c 3 1 (ii v49) :: .row x13.A x13.c 3 1 (ii v44) :: .row x11.A x11.c 3 1 (ii v41) :: .row x9.1.A x9.1.c 3 1 (ii v36) :: .row x9.2.1.A x9.2.1.c 3 1 (ii v37) :: .row x9.2.2.1.A x9.2.2.1.c 3 1 (ii v38) :: .row x9.2.2.2.A x9.2.2.2.c 3 1 (ii v39) :: .row x18.A x18.c 3 1 (ii v32) :: .row x16.1.A x16.1.c 3 1 (ii v26) :: .row x16.2.1.A x16.2.1.c 3 1 (ii v27) :: .row x16.2.2.1.A x16.2.2.1.c 3 1 (ii v28) :: .row x16.2.2.2.A x16.2.2.2.c 3 1 (ii v29) :: .box x14 53 [(i6 v21), (.slice x13.A x13.n x13.c), (i6 v23)] :: .box x12 53 [(i6 v18), (.slice x11.A x11.n x11.c), (i6 v20)] :: .box x10 57 [(.slice x9.1.A x9.1.n x9.1.c), (.slice x9.2.1.A x9.2.1.n x9.2.1.c), (.slice x9.2.2.1.A x9.2.2.1.n x9.2.2.1.c), (.slice x9.2.2.2.A x9.2.2.2.n x9.2.2.2.c)] :: .row x5.1.A x5.1.c 3 1 (ii v3) :: .row x5.2.1.A x5.2.1.c 3 1 (ii v4) :: .row x5.2.2.1.A x5.2.2.1.c 3 1 (ii v5) :: .row x5.2.2.2.A x5.2.2.2.c 3 1 (ii v6) :: .row x6.A x6.c 3 1 (ii v8) :: .row x7.A x7.c 3 1 (ii v11) :: .box x8 53 [(i6 v10), (.slice x7.A x7.n x7.c), (i6 v12)] :: .box x2 50 [(i6 a1_0), (.slice a1_1_A a1_1_n a1_1_c), (i6 a1_2)] :: .box x1 48 [(.slice a0_0_A a0_0_n a0_0_c), (.slice a0_1_A a0_1_n a0_1_c), (.slice a0_2_A a0_2_n a0_2_c), (.slice a0_3_A a0_3_n a0_3_c)] :: F) (fun _ h => h) ?_
                          refine j_env [(8, (pt x8)), (9, (.bool v13)), (12, (pt x14)), (15, (i6 v43)), (100, (.agg (List.toArray [(.slice x25.1.A x25.1.n x25.1.c), (.slice x25.2.1.A x25.2.1.n x25.2.1.c), (.slice x25.2.2.1.A x25.2.2.1.n x25.2.2.1.c), (.slice x25.2.2.2.A x25.2.2.2.n x25.2.2.2.c)]))), (101, (.agg (List.toArray [(i6 a1_0), (.slice a1_1_A a1_1_n a1_1_c), (i6 a1_2)]))), (103, (i6 a2))] ⟨rfl, rfl, rfl, rfl, rfl, rfl, rfl, trivial⟩ ?_
                          exact hD23 x25
                        · refine o_do rfl (a_alloc zr53 rfl) rfl rfl (fun x28 w h => h.tail) (fun x28 => ?_)
                          refine j_rs (.box x28 53 [(i6 (0:Int)), (.slice none 0 0), (i6 (0:Int))] :: .row x13.A x13.c 3 1 (ii v44) :: .row x11.A x11.c 3 1 (ii v41) :: .row x9.1.A x9.1.c 3 1 (ii v36) :: .row x9.2.1.A x9.2.1.c 3 1 (ii v37) :: .row x9.2.2.1.A x9.2.2.1.c 3 1 (ii v38) :: .row x9.2.2.2.A x9.2.2.2.c 3 1 (ii v39) :: .row x18.A x18.c 3 1 (ii v32) :: .row x16.1.A x16.1.c 3 1 (ii v26) :: .row x16.2.1.A x16.2.1.c 3 1 (ii v27) :: .row x16.2.2.1.A x16.2.2.1.c 3 1 (ii v28) :: .row x16.2.2.2.A x16.2.2.2.c 3 1 (ii v29) :: .box x14 53 [(i6 v21), (.slice x13.A x13.n x13.c), (i6 v23)] :: .box x12 53 [(i6 v18), (.slice x11.A x11.n x11.c), (i6 v20)] :: .box x10 57 [(.slice x9.1.A x9.1.n x9.1.c), (.slice x9.2.1.A x9.2.1.n x9.2.1.c), (.slice x9.2.2.1.A x9.2.2.1.n x9.2.2.1.c), (.slice x9.2.2.2.A x9.2.2.2.n x9.2.2.2.c)] :: .row x5.1.A x5.1.c 3 1 (ii v3) :: .row x5.2.1.A x5.2.1.c 3 1 (ii v4) :: .row x5.2.2.1.A x5.2.2.1.c 3 1 (ii v5) :: .row x5.2.2.2.A x5.2.2.2.c 3 1 (ii v6) :: .row x6.A x6.c 3 1 (ii v8) :: .row x7.A x7.c 3 1 (ii v11) :: .box x8 53 [(i6 v10), (.slice x7.A x7.n x7.c), (i6 v12)] :: .box x2 50 [(i6 a1_0), (.slice a1_1_A a1_1_n a1_1_c), (i6 a1_2)] :: .box x1 48 [(.slice a0_0_A a0_0_n a0_0_c), (.slice a0_1_A a0_1_n a0_1_c), (.slice a0_2_A a0_2_n a0_2_c), (.slice a0_3_A a0_3_n a0_3_c)] :: F) (fun _ h => h) ?_
                          refine j_env [(8, (pt x8)), (9, (.bool v13)), (12, (pt x14)), (15, (i6 v43)), (17, (pt x28)), (99, (.agg (List.toArray [(.slice a0_0_A a0_0_n a0_0_c), (.slice a0_1_A a0_1_n a0_1_c), (.slice a0_2_A a0_2_n a0_2_c), (.slice a0_3_A a0_3_n a0_3_c)]))), (101, (.agg (List.toArray [(i6 a1_0), (.slice a1_1_A a1_1_n a1_1_c), (i6 a1_2)]))), (103, (i6 a2))] ⟨rfl, rfl, rfl, rfl, rfl, rfl, rfl, rfl, trivial⟩ ?_
                          exact hD533 x28
                      · refine j_true rfl (bne_t c10) ?_
                        refine j_seq ?_
                        refine j_region ?_
                        refine r_q (q_assign rfl rfl) rfl rfl ?_
                        refine r_nil ?_
                        refine j_then ?_
                        refine j_ret ?_
                        refine j_then_ret ?_
                        cases h
                        exact j_return rfl (ResOf.tmp rfl ResOf.nil) rfl (fun w h => ⟨(), rfl, (h.drop 23)⟩)
                  · refine r_off rfl rfl rfl rfl (not_t (var_f c8)) rfl ?_
                    refine r_off rfl rfl rfl rfl (not_t (var_f c8)) rfl ?_
                    refine r_off rfl rfl rfl rfl (not_t (var_f c8)) rfl ?_
                    refine r_q (q_pick_t rfl rfl (not_t (var_f c8)) rfl) rfl rfl ?_
                    refine r_nil ?_
                    refine j_then ?_
                    refine j_true rfl rfl ?_
                    refine j_seq ?_
                    refine j_region ?_
                    refine r_q (q_assign rfl rfl) rfl rfl ?_
                    refine r_nil ?_
                    refine j_then ?_
                    refine j_ret ?_
                    refine j_then_ret ?_
                    cases h
                    exact j_return rfl (ResOf.tmp rfl ResOf.nil) rfl (fun w h => ⟨(), rfl, (h.drop 23)⟩)
              · refine j_true rfl (not_t (var_f c6)) ?_
                refine j_seq ?_
                refine j_region ?_
                refine r_q (q_assign rfl rfl) rfl rfl ?_
                refine r_nil ?_
                refine j_then ?_
                refine j_ret ?_
                refine j_then_ret ?_
                cases h
                exact j_return rfl (ResOf.tmp rfl ResOf.nil) rfl (fun w h => ⟨(), rfl, (h.drop 23)⟩)
            · refine j_true rfl (not_t (var_f c5)) ?_
              refine j_seq ?_
              refine j_region ?_
              refine r_q (q_assign rfl rfl) rfl rfl ?_
              refine r_nil ?_
              refine j_then ?_
              refine j_ret ?_
              refine j_then_ret ?_
              cases h
              exact j_return rfl (ResOf.tmp rfl ResOf.nil) rfl (fun w h => ⟨(), rfl, (h.drop 22)⟩)
          · refine j_true rfl (bne_t c4) ?_
            refine j_seq ?_
            refine j_region ?_
            refine r_q (q_assign rfl rfl) rfl rfl ?_
            refine r_nil ?_
            refine j_then ?_
            refine j_ret ?_
            refine j_then_ret ?_
            cases h
            exact j_return rfl (ResOf.tmp rfl ResOf.nil) rfl (fun w h => ⟨(), rfl, (h.drop 18)⟩)
        · refine r_off rfl rfl rfl rfl (not_t (var_f c3)) rfl ?_
          refine r_off rfl rfl rfl rfl (not_t (var_f c3)) rfl ?_
          refine r_off rfl rfl rfl rfl (not_t (var_f c3)) rfl ?_
          refine r_q (q_pick_t rfl rfl (not_t (var_f c3)) rfl) rfl rfl ?_
          refine r_nil ?_
          refine j_then ?_
          refine j_true rfl rfl ?_
          refine j_seq ?_
          refine j_region ?_
          refine r_q (q_assign rfl rfl) rfl rfl ?_
          refine r_nil ?_
          refine j_then ?_
          refine j_ret ?_
          refine j_then_ret ?_
          cases h
          exact j_return rfl (ResOf.tmp rfl ResOf.nil) rfl (fun w h => ⟨(), rfl, (h.drop 18)⟩)
      refine d_join (σ := ((Sl v3.length) × (Sl v4.length) × (Sl v5.length) × (Sl v6.length)) × ((Sl v8.length)) × ((Sl v11.length)) × Nat) 2 #[true, true, true, true, true, true, true, true, true, true, false, false] (fun s => [(2, (i6 a2)), (3, (pt x1)), (4, (pt x2)), (8, (pt s.2.2.2)), (36, (.agg (List.toArray [(i6 v10), (.slice s.2.2.1.A s.2.2.1.n s.2.2.1.c), (i6 v12)]))), (37, (.bool v13))]) (fun s => .row s.1.1.A s.1.1.c 3 1 (ii v3) :: .row s.1.2.1.A s.1.2.1.c 3 1 (ii v4) :: .row s.1.2.2.1.A s.1.2.2.1.c 3 1 (ii v5) :: .row s.1.2.2.2.A s.1.2.2.2.c 3 1 (ii v6) :: .row s.2.1.A s.2.1.c 3 1 (ii v8) :: .row s.2.2.1.A s.2.2.1.c 3 1 (ii v11) :: .box s.2.2.2 53 [(i6 (0:Int)), (.slice none 0 0), (i6 (0:Int))] :: .box x2 50 [(i6 a1_0), (.slice a1_1_A a1_1_n a1_1_c), (i6 a1_2)] :: .box x1 48 [(.slice a0_0_A a0_0_n a0_0_c), (.slice a0_1_A a0_1_n a0_1_c), (.slice a0_2_A a0_2_n a0_2_c), (.slice a0_3_A a0_3_n a0_3_c)] :: F) ?_ (fun hD1023 => ?_)
      · rintro ⟨x5, x6, x7, x8⟩
        show J _ _ [(2, (i6 a2)), (3, (pt x1)), (4, (pt x2)), (8, (pt x8)), (36, (.agg (List.toArray [(i6 v10), (.slice x7.A x7.n x7.c), (i6 v12)]))), (37, (.bool v13))] _ (.row x5.1.A x5.1.c 3 1 (ii v3) :: .row x5.2.1.A x5.2.1.c 3 1 (ii v4) :: .row x5.2.2.1.A x5.2.2.1.c 3 1 (ii v5) :: .row x5.2.2.2.A x5.2.2.2.c 3 1 (ii v6) :: .row x6.A x6.c 3 1 (ii v8) :: .row x7.A x7.c 3 1 (ii v11) :: .box x8 53 [(i6 (0:Int)), (.slice none 0 0), (i6 (0:Int))] :: .box x2 50 [(i6 a1_0), (.slice a1_1_A a1_1_n a1_1_c), (i6 a1_2)] :: .box x1 48 [(.slice a0_0_A a0_0_n a0_0_c), (.slice a0_1_A a0_1_n a0_1_c), (.slice a0_2_A a0_2_n a0_2_c), (.slice a0_3_A a0_3_n a0_3_c)] :: F)
        refine d_one 10 (by kernel_rfl) ?_
        · refine o_do rfl (a_storeb 6 rfl sz53 rfl rfl rfl rfl (Nat.le_of_ble_eq_true rfl) rfl) rfl rfl (fun _ w h => (h.drop 7)) (fun _ => ?_)
          refine j_b6 [(i6 v10), (.slice x7.A x7.n x7.c), (i6 v12)] rfl ?_
          refine d_take 11 rfl (q_assign rfl rfl) rfl rfl (by kernel_rfl) (by kernel_rfl) (by kernel_rfl) (fun w h => (h.drop 7)) ?_
          refine j_rs (.row x5.1.A x5.1.c 3 1 (ii v3) :: .row x5.2.1.A x5.2.1.c 3 1 (ii v4) :: .row x5.2.2.1.A x5.2.2.1.c 3 1 (ii v5) :: .row x5.2.2.2.A x5.2.2.2.c 3 1 (ii v6) :: .row x6.A x6.c 3 1 (ii v8) :: .row x7.A x7.c 3 1 (ii v11) :: .box x8 53 [(i6 v10), (.slice x7.A x7.n x7.c), (i6 v12)] :: .box x2 50 [(i6 a1_0), (.slice a1_1_A a1_1_n a1_1_c), (i6 a1_2)] :: .box x1 48 [(.slice a0_0_A a0_0_n a0_0_c), (.slice a0_1_A a0_1_n a0_1_c), (.slice a0_2_A a0_2_n a0_2_c), (.slice a0_3_A a0_3_n a0_3_c)] :: F) (fun _ h => h) ?_
          refine j_env [(2, (i6 a2)), (3, (pt x1)), (4, (pt x2)), (8, (pt x8)), (9, (.bool v13))] ⟨rfl, rfl, rfl, rfl, rfl, trivial⟩ ?_
          exact hD4095 (x5, x6, x7, x8)
      refine d_join (σ := ((Sl v3.length) × (Sl v4.length) × (Sl v5.length) × (Sl v6.length)) × ((Sl v8.length)) × ((Sl v11.length))) 3 #[true, true, true, true, true, true, true, true, true, false, false, false] (fun s => [(2, (i6 a2)), (3, (pt x1)), (4, (pt x2)), (36, (.agg (List.toArray [(i6 v10), (.slice s.2.2.A s.2.2.n s.2.2.c), (i6 v12)]))), (37, (.bool v13))]) (fun s => .row s.1.1.A s.1.1.c 3 1 (ii v3) :: .row s.1.2.1.A s.1.2.1.c 3 1 (ii v4) :: .row s.1.2.2.1.A s.1.2.2.1.c 3 1 (ii v5) :: .row s.1.2.2.2.A s.1.2.2.2.c 3 1 (ii v6) :: .row s.2.1.A s.2.1.c 3 1 (ii v8) :: .row s.2.2.A s.2.2.c 3 1 (ii v11) :: .box x2 50 [(i6 a1_0), (.slice a1_1_A a1_1_n a1_1_c), (i6 a1_2)] :: .box x1 48 [(.slice a0_0_A a0_0_n a0_0_c), (.slice a0_1_A a0_1_n a0_1_c), (.slice a0_2_A a0_2_n a0_2_c), (.slice a0_3_A a0_3_n a0_3_c)] :: F) ?_ (fun hD511 => ?_)
      · rintro ⟨x5, x6, x7⟩
        show J _ _ [(2, (i6 a2)), (3, (pt x1)), (4, (pt x2)), (36, (.agg (List.toArray [(i6 v10), (.slice x7.A x7.n x7.c), (i6 v12)]))), (37, (.bool v13))] _ (.row x5.1.A x5.1.c 3 1 (ii v3) :: .row x5.2.1.A x5.2.1.c 3 1 (ii v4) :: .row x5.2.2.1.A x5.2.2.1.c 3 1 (ii v5) :: .row x5.2.2.2.A x5.2.2.2.c 3 1 (ii v6) :: .row x6.A x6.c 3 1 (ii v8) :: .row x7.A x7.c 3 1 (ii v11) :: .box x2 50 [(i6 a1_0), (.slice a1_1_A a1_1_n a1_1_c), (i6 a1_2)] :: .box x1 48 [(.slice a0_0_A a0_0_n a0_0_c), (.slice a0_1_A a0_1_n a0_1_c), (.slice a0_2_A a0_2_n a0_2_c), (.slice a0_3_A a0_3_n a0_3_c)] :: F)
        refine d_one 9 (by kernel_rfl) ?_
        · refine o_do rfl (a_alloc zr53 rfl) rfl rfl (fun x8 w h => (h.drop 7)) (fun x8 => ?_)
          refine j_rs (.row x5.1.A x5.1.c 3 1 (ii v3) :: .row x5.2.1.A x5.2.1.c 3 1 (ii v4) :: .row x5.2.2.1.A x5.2.2.1.c 3 1 (ii v5) :: .row x5.2.2.2.A x5.2.2.2.c 3 1 (ii v6) :: .row x6.A x6.c 3 1 (ii v8) :: .row x7.A x7.c 3 1 (ii v11) :: .box x8 53 [(i6 (0:Int)), (.slice none 0 0), (i6 (0:Int))] :: .box x2 50 [(i6 a1_0), (.slice a1_1_A a1_1_n a1_1_c), (i6 a1_2)] :: .box x1 48 [(.slice a0_0_A a0_0_n a0_0_c), (.slice a0_1_A a0_1_n a0_1_c), (.slice a0_2_A a0_2_n a0_2_c), (.slice a0_3_A a0_3_n a0_3_c)] :: F) (fun _ h => h.pick 9 [1, 2, 3, 4, 5, 6, 0, 7, 8] rfl) ?_
          refine j_env [(2, (i6 a2)), (3, (pt x1)), (4, (pt x2)), (8, (pt x8)), (36, (.agg (List.toArray [(i6 v10), (.slice x7.A x7.n x7.c), (i6 v12)]))), (37, (.bool v13))] ⟨rfl, rfl, rfl, rfl, rfl, rfl, trivial⟩ ?_
          exact hD1023 (x5, x6, x7, x8)
      refine d_join (σ := ((Sl v3.length) × (Sl v4.length) × (Sl v5.length) × (Sl v6.length)) × ((Sl v8.length)) × Nat) 6 #[true, true, true, true, true, false, false, false, false, true, false, false] (fun s => [(2, (i6 a2)), (3, (pt x1)), (4, (pt x2)), (8, (pt s.2.2)), (31, (.agg (List.toArray [(.slice s.1.1.A s.1.1.n s.1.1.c), (.slice s.1.2.1.A s.1.2.1.n s.1.2.1.c), (.slice s.1.2.2.1.A s.1.2.2.1.n s.1.2.2.1.c), (.slice s.1.2.2.2.A s.1.2.2.2.n s.1.2.2.2.c)]))), (33, (.agg (List.toArray [(i6 v7), (.slice s.2.1.A s.2.1.n s.2.1.c), (i6 v9)]))), (34, (i6 a2))]) (fun s => .row s.1.1.A s.1.1.c 3 1 (ii v3) :: .row s.1.2.1.A s.1.2.1.c 3 1 (ii v4) :: .row s.1.2.2.1.A s.1.2.2.1.c 3 1 (ii v5) :: .row s.1.2.2.2.A s.1.2.2.2.c 3 1 (ii v6) :: .row s.2.1.A s.2.1.c 3 1 (ii v8) :: .box s.2.2 53 [(i6 (0:Int)), (.slice none 0 0), (i6 (0:Int))] :: .box x2 50 [(i6 a1_0), (.slice a1_1_A a1_1_n a1_1_c), (i6 a1_2)] :: .box x1 48 [(.slice a0_0_A a0_0_n a0_0_c), (.slice a0_1_A a0_1_n a0_1_c), (.slice a0_2_A a0_2_n a0_2_c), (.slice a0_3_A a0_3_n a0_3_c)] :: F) ?_ (fun hD543 => ?_)
      · rintro ⟨x5, x6, x8⟩
        show J _ _ [(2, (i6 a2)), (3, (pt x1)), (4, (pt x2)), (8, (pt x8)), (31, (.agg (List.toArray [(.slice x5.1.A x5.1.n x5.1.c), (.slice x5.2.1.A x5.2.1.n x5.2.1.c), (.slice x5.2.2.1.A x5.2.2.1.n x5.2.2.1.c), (.slice x5.2.2.2.A x5.2.2.2.n x5.2.2.2.c)]))), (33, (.agg (List.toArray [(i6 v7), (.slice x6.A x6.n x6.c), (i6 v9)]))), (34, (i6 a2))] _ (.row x5.1.A x5.1.c 3 1 (ii v3) :: .row x5.2.1.A x5.2.1.c 3 1 (ii v4) :: .row x5.2.2.1.A x5.2.2.1.c 3 1 (ii v5) :: .row x5.2.2.2.A x5.2.2.2.c 3 1 (ii v6) :: .row x6.A x6.c 3 1 (ii v8) :: .box x8 53 [(i6 (0:Int)), (.slice none 0 0), (i6 (0:Int))] :: .box x2 50 [(i6 a1_0), (.slice a1_1_A a1_1_n a1_1_c), (i6 a1_2)] :: .box x1 48 [(.slice a0_0_A a0_0_n a0_0_c), (.slice a0_1_A a0_1_n a0_1_c), (.slice a0_2_A a0_2_n a0_2_c), (.slice a0_3_A a0_3_n a0_3_c)] :: F)
        refine d_one 5 (by kernel_rfl) ?_
        · refine o_do rfl (a_call ok45 rfl rfl rfl rfl (fun w hm => spec_ShadeGc.calls K v3 x5.1.A x5.1.n x5.1.c v4 x5.2.1.A x5.2.1.n x5.2.1.c v5 x5.2.2.1.A x5.2.2.1.n x5.2.2.1.c v6 x5.2.2.2.A x5.2.2.2.n x5.2.2.2.c v7 v8 x6.A x6.n x6.c v9 a2 hm x5.1.h (Rd.row 0 rfl) x5.2.1.h (Rd.row 1 rfl) x5.2.2.1.h (Rd.row 2 rfl) x5.2.2.2.h (Rd.row 3 rfl) (hm.roomI 3 rfl) x6.h (Rd.row 4 rfl) hb5)) rfl rfl (fun x7 w h => (h.drop 7)) (fun x7 => ?_)
          refine d_take 6 rfl (q_move rfl rfl) rfl rfl (by kernel_rfl) (by kernel_rfl) (by kernel_rfl) (fun w h => (h.drop 7)) ?_
          refine d_take 7 rfl (q_extract rfl rfl rfl) rfl rfl (by kernel_rfl) (by kernel_rfl) (by kernel_rfl) (fun w h => (h.drop 7)) ?_
          refine d_take 8 rfl (q_extract rfl rfl rfl) rfl rfl (by kernel_rfl) (by kernel_rfl) (by kernel_rfl) (fun w h => (h.drop 7)) ?_
          refine j_rs (.row x5.1.A x5.1.c 3 1 (ii v3) :: .row x5.2.1.A x5.2.1.c 3 1 (ii v4) :: .row x5.2.2.1.A x5.2.2.1.c 3 1 (ii v5) :: .row x5.2.2.2.A x5.2.2.2.c 3 1 (ii v6) :: .row x6.A x6.c 3 1 (ii v8) :: .row x7.A x7.c 3 1 (ii v11) :: .box x8 53 [(i6 (0:Int)), (.slice none 0 0), (i6 (0:Int))] :: .box x2 50 [(i6 a1_0), (.slice a1_1_A a1_1_n a1_1_c), (i6 a1_2)] :: .box x1 48 [(.slice a0_0_A a0_0_n a0_0_c), (.slice a0_1_A a0_1_n a0_1_c), (.slice a0_2_A a0_2_n a0_2_c), (.slice a0_3_A a0_3_n a0_3_c)] :: F) (fun _ h => h.pick 9 [1, 2, 3, 4, 5, 0, 6, 7, 8] rfl) ?_
          refine j_env [(2, (i6 a2)), (3, (pt x1)), (4, (pt x2)), (8, (pt x8)), (36, (.agg (List.toArray [(i6 v10), (.slice x7.A x7.n x7.c), (i6 v12)]))), (37, (.bool v13))] ⟨rfl, rfl, rfl, rfl, rfl, rfl, trivial⟩ ?_
          exact hD1023 (x5, x6, x7, x8)
      refine d_join (σ := ((Sl v3.length) × (Sl v4.length) × (Sl v5.length) × (Sl v6.length)) × ((Sl v8.length))) 7 #[true, true, true, true, true, false, false, false, false, false, false, false] (fun s => [(2, (i6 a2)), (3, (pt x1)), (4, (pt x2)), (31, (.agg (List.toArray [(.slice s.1.1.A s.1.1.n s.1.1.c), (.slice s.1.2.1.A s.1.2.1.n s.1.2.1.c), (.slice s.1.2.2.1.A s.1.2.2.1.n s.1.2.2.1.c), (.slice s.1.2.2.2.A s.1.2.2.2.n s.1.2.2.2.c)]))), (33, (.agg (List.toArray [(i6 v7), (.slice s.2.A s.2.n s.2.c), (i6 v9)]))), (34, (i6 a2))]) (fun s => .row s.1.1.A s.1.1.c 3 1 (ii v3) :: .row s.1.2.1.A s.1.2.1.c 3 1 (ii v4) :: .row s.1.2.2.1.A s.1.2.2.1.c 3 1 (ii v5) :: .row s.1.2.2.2.A s.1.2.2.2.c 3 1 (ii v6) :: .row s.2.A s.2.c 3 1 (ii v8) :: .box x2 50 [(i6 a1_0), (.slice a1_1_A a1_1_n a1_1_c), (i6 a1_2)] :: .box x1 48 [(.slice a0_0_A a0_0_n a0_0_c), (.slice a0_1_A a0_1_n a0_1_c), (.slice a0_2_A a0_2_n a0_2_c), (.slice a0_3_A a0_3_n a0_3_c)] :: F) ?_ (fun hD31 => ?_)
      · rintro ⟨x5, x6⟩
        show J _ _ [(2, (i6 a2)), (3, (pt x1)), (4, (pt x2)), (31, (.agg (List.toArray [(.slice x5.1.A x5.1.n x5.1.c), (.slice x5.2.1.A x5.2.1.n x5.2.1.c), (.slice x5.2.2.1.A x5.2.2.1.n x5.2.2.1.c), (.slice x5.2.2.2.A x5.2.2.2.n x5.2.2.2.c)]))), (33, (.agg (List.toArray [(i6 v7), (.slice x6.A x6.n x6.c), (i6 v9)]))), (34, (i6 a2))] _ (.row x5.1.A x5.1.c 3 1 (ii v3) :: .row x5.2.1.A x5.2.1.c 3 1 (ii v4) :: .row x5.2.2.1.A x5.2.2.1.c 3 1 (ii v5) :: .row x5.2.2.2.A x5.2.2.2.c 3 1 (ii v6) :: .row x6.A x6.c 3 1 (ii v8) :: .box x2 50 [(i6 a1_0), (.slice a1_1_A a1_1_n a1_1_c), (i6 a1_2)] :: .box x1 48 [(.slice a0_0_A a0_0_n a0_0_c), (.slice a0_1_A a0_1_n a0_1_c), (.slice a0_2_A a0_2_n a0_2_c), (.slice a0_3_A a0_3_n a0_3_c)] :: F)
        refine d_two 5 9 (by kernel_rfl) ?_ ?_
        · refine o_do rfl (a_call ok45 rfl rfl rfl rfl (fun w hm => spec_ShadeGc.calls K v3 x5.1.A x5.1.n x5.1.c v4 x5.2.1.A x5.2.1.n x5.2.1.c v5 x5.2.2.1.A x5.2.2.1.n x5.2.2.1.c v6 x5.2.2.2.A x5.2.2.2.n x5.2.2.2.c v7 v8 x6.A x6.n x6.c v9 a2 hm x5.1.h (Rd.row 0 rfl) x5.2.1.h (Rd.row 1 rfl) x5.2.2.1.h (Rd.row 2 rfl) x5.2.2.2.h (Rd.row 3 rfl) (hm.roomI 3 rfl) x6.h (Rd.row 4 rfl) hb5)) rfl rfl (fun x7 w h => (h.drop 6)) (fun x7 => ?_)
          refine d_take 6 rfl (q_move rfl rfl) rfl rfl (by kernel_rfl) (by kernel_rfl) (by kernel_rfl) (fun w h => (h.drop 6)) ?_
          refine d_take 7 rfl (q_extract rfl rfl rfl) rfl rfl (by kernel_rfl) (by kernel_rfl) (by kernel_rfl) (fun w h => (h.drop 6)) ?_
          refine d_take 8 rfl (q_extract rfl rfl rfl) rfl rfl (by kernel_rfl) (by kernel_rfl) (by kernel_rfl) (fun w h => (h.drop 6)) ?_
          refine j_rs (.row x5.1.A x5.1.c 3 1 (ii v3) :: .row x5.2.1.A x5.2.1.c 3 1 (ii v4) :: .row x5.2.2.1.A x5.2.2.1.c 3 1 (ii v5) :: .row x5.2.2.2.A x5.2.2.2.c 3 1 (ii v6) :: .row x6.A x6.c 3 1 (ii v8) :: .row x7.A x7.c 3 1 (ii v11) :: .box x2 50 [(i6 a1_0), (.slice a1_1_A a1_1_n a1_1_c), (i6 a1_2)] :: .box x1 48 [(.slice a0_0_A a0_0_n a0_0_c), (.slice a0_1_A a0_1_n a0_1_c), (.slice a0_2_A a0_2_n a0_2_c), (.slice a0_3_A a0_3_n a0_3_c)] :: F) (fun _ h => h.pick 8 [1, 2, 3, 4, 5, 0, 6, 7] rfl) ?_
          refine j_env [(2, (i6 a2)), (3, (pt x1)), (4, (pt x2)), (36, (.agg (List.toArray [(i6 v10), (.slice x7.A x7.n x7.c), (i6 v12)]))), (37, (.bool v13))] ⟨rfl, rfl, rfl, rfl, rfl, trivial⟩ ?_
          exact hD511 (x5, x6, x7)
        · refine o_do rfl (a_alloc zr53 rfl) rfl rfl (fun x8 w h => (h.drop 6)) (fun x8 => ?_)
          refine j_rs (.row x5.1.A x5.1.c 3 1 (ii v3) :: .row x5.2.1.A x5.2.1.c 3 1 (ii v4) :: .row x5.2.2.1.A x5.2.2.1.c 3 1 (ii v5) :: .row x5.2.2.2.A x5.2.2.2.c 3 1 (ii v6) :: .row x6.A x6.c 3 1 (ii v8) :: .box x8 53 [(i6 (0:Int)), (.slice none 0 0), (i6 (0:Int))] :: .box x2 50 [(i6 a1_0), (.slice a1_1_A a1_1_n a1_1_c), (i6 a1_2)] :: .box x1 48 [(.slice a0_0_A a0_0_n a0_0_c), (.slice a0_1_A a0_1_n a0_1_c), (.slice a0_2_A a0_2_n a0_2_c), (.slice a0_3_A a0_3_n a0_3_c)] :: F) (fun _ h => h.pick 8 [1, 2, 3, 4, 5, 0, 6, 7] rfl) ?_
          refine j_env [(2, (i6 a2)), (3, (pt x1)), (4, (pt x2)), (8, (pt x8)), (31, (.agg (List.toArray [(.slice x5.1.A x5.1.n x5.1.c), (.slice x5.2.1.A x5.2.1.n x5.2.1.c), (.slice x5.2.2.1.A x5.2.2.1.n x5.2.2.1.c), (.slice x5.2.2.2.A x5.2.2.2.n x5.2.2.2.c)]))), (33, (.agg (List.toArray [(i6 v7), (.slice x6.A x6.n x6.c), (i6 v9)]))), (34, (i6 a2))] ⟨rfl, rfl, rfl, rfl, rfl, rfl, rfl, trivial⟩ ?_
          exact hD543 (x5, x6, x8)
      refine d_join (σ := ((Sl v3.length) × (Sl v4.length) × (Sl v5.length) × (Sl v6.length)) × Nat) 7 #[true, true, true, false, true, false, false, false, false, true, false, false] (fun s => [(2, (i6 a2)), (3, (pt x1)), (4, (pt x2)), (8, (pt s.2)), (31, (.agg (List.toArray [(.slice s.1.1.A s.1.1.n s.1.1.c), (.slice s.1.2.1.A s.1.2.1.n s.1.2.1.c), (.slice s.1.2.2.1.A s.1.2.2.1.n s.1.2.2.1.c), (.slice s.1.2.2.2.A s.1.2.2.2.n s.1.2.2.2.c)]))), (32, (.agg (List.toArray [(i6 a1_0), (.slice a1_1_A a1_1_n a1_1_c), (i6 a1_2)]))), (34, (i6 a2))]) (fun s => .row s.1.1.A s.1.1.c 3 1 (ii v3) :: .row s.1.2.1.A s.1.2.1.c 3 1 (ii v4) :: .row s.1.2.2.1.A s.1.2.2.1.c 3 1 (ii v5) :: .row s.1.2.2.2.A s.1.2.2.2.c 3 1 (ii v6) :: .box s.2 53 [(i6 (0:Int)), (.slice none 0 0), (i6 (0:Int))] :: .box x2 50 [(i6 a1_0), (.slice a1_1_A a1_1_n a1_1_c), (i6 a1_2)] :: .box x1 48 [(.slice a0_0_A a0_0_n a0_0_c), (.slice a0_1_A a0_1_n a0_1_c), (.slice a0_2_A a0_2_n a0_2_c), (.slice a0_3_A a0_3_n a0_3_c)] :: F) ?_ (fun hD535 => ?_)
      · rintro ⟨x5, x8⟩
        show J _ _ [(2, (i6 a2)), (3, (pt x1)), (4, (pt x2)), (8, (pt x8)), (31, (.agg (List.toArray [(.slice x5.1.A x5.1.n x5.1.c), (.slice x5.2.1.A x5.2.1.n x5.2.1.c), (.slice x5.2.2.1.A x5.2.2.1.n x5.2.2.1.c), (.slice x5.2.2.2.A x5.2.2.2.n x5.2.2.2.c)]))), (32, (.agg (List.toArray [(i6 a1_0), (.slice a1_1_A a1_1_n a1_1_c), (i6 a1_2)]))), (34, (i6 a2))] _ (.row x5.1.A x5.1.c 3 1 (ii v3) :: .row x5.2.1.A x5.2.1.c 3 1 (ii v4) :: .row x5.2.2.1.A x5.2.2.1.c 3 1 (ii v5) :: .row x5.2.2.2.A x5.2.2.2.c 3 1 (ii v6) :: .box x8 53 [(i6 (0:Int)), (.slice none 0 0), (i6 (0:Int))] :: .box x2 50 [(i6 a1_0), (.slice a1_1_A a1_1_n a1_1_c), (i6 a1_2)] :: .box x1 48 [(.slice a0_0_A a0_0_n a0_0_c), (.slice a0_1_A a0_1_n a0_1_c), (.slice a0_2_A a0_2_n a0_2_c), (.slice a0_3_A a0_3_n a0_3_c)] :: F)
        refine d_one 3 (by kernel_rfl) ?_
        · refine o_do rfl (a_call ok38 rfl rfl rfl rfl (fun w hm => laws_toGc.calls K a1_0 a1_1 a1_1_A a1_1_n a1_1_c a1_2 hm a1_1_h (Rd.drop 7 a1_1_R) hb4)) rfl rfl (fun x6 w h => (h.drop 6)) (fun x6 => ?_)
          refine j_rs (.row x5.1.A x5.1.c 3 1 (ii v3) :: .row x5.2.1.A x5.2.1.c 3 1 (ii v4) :: .row x5.2.2.1.A x5.2.2.1.c 3 1 (ii v5) :: .row x5.2.2.2.A x5.2.2.2.c 3 1 (ii v6) :: .row x6.A x6.c 3 1 (ii v8) :: .box x8 53 [(i6 (0:Int)), (.slice none 0 0), (i6 (0:Int))] :: .box x2 50 [(i6 a1_0), (.slice a1_1_A a1_1_n a1_1_c), (i6 a1_2)] :: .box x1 48 [(.slice a0_0_A a0_0_n a0_0_c), (.slice a0_1_A a0_1_n a0_1_c), (.slice a0_2_A a0_2_n a0_2_c), (.slice a0_3_A a0_3_n a0_3_c)] :: F) (fun _ h => h.pick 8 [1, 2, 3, 4, 0, 5, 6, 7] rfl) ?_
          refine j_env [(2, (i6 a2)), (3, (pt x1)), (4, (pt x2)), (8, (pt x8)), (31, (.agg (List.toArray [(.slice x5.1.A x5.1.n x5.1.c), (.slice x5.2.1.A x5.2.1.n x5.2.1.c), (.slice x5.2.2.1.A x5.2.2.1.n x5.2.2.1.c), (.slice x5.2.2.2.A x5.2.2.2.n x5.2.2.2.c)]))), (33, (.agg (List.toArray [(i6 v7), (.slice x6.A x6.n x6.c), (i6 v9)]))), (34, (i6 a2))] ⟨rfl, rfl, rfl, rfl, rfl, rfl, rfl, trivial⟩ ?_
          exact hD543 (x5, x6, x8)
      refine d_join (σ := ((Sl v3.length) × (Sl v4.length) × (Sl v5.length) × (Sl v6.length))) 8 #[true, true, true, false, true, false, false, false, false, false, false, false] (fun s => [(2, (i6 a2)), (3, (pt x1)), (4, (pt x2)), (31, (.agg (List.toArray [(.slice s.1.A s.1.n s.1.c), (.slice s.2.1.A s.2.1.n s.2.1.c), (.slice s.2.2.1.A s.2.2.1.n s.2.2.1.c), (.slice s.2.2.2.A s.2.2.2.n s.2.2.2.c)]))), (32, (.agg (List.toArray [(i6 a1_0), (.slice a1_1_A a1_1_n a1_1_c), (i6 a1_2)]))), (34, (i6 a2))]) (fun s => .row s.1.A s.1.c 3 1 (ii v3) :: .row s.2.1.A s.2.1.c 3 1 (ii v4) :: .row s.2.2.1.A s.2.2.1.c 3 1 (ii v5) :: .row s.2.2.2.A s.2.2.2.c 3 1 (ii v6) :: .box x2 50 [(i6 a1_0), (.slice a1_1_A a1_1_n a1_1_c), (i6 a1_2)] :: .box x1 48 [(.slice a0_0_A a0_0_n a0_0_c), (.slice a0_1_A a0_1_n a0_1_c), (.slice a0_2_A a0_2_n a0_2_c), (.slice a0_3_A a0_3_n a0_3_c)] :: F) ?_ (fun hD23 => ?_)
      · rintro x5
        show J _ _ [(2, (i6 a2)), (3, (pt x1)), (4, (pt x2)), (31, (.agg (List.toArray [(.slice x5.1.A x5.1.n x5.1.c), (.slice x5.2.1.A x5.2.1.n x5.2.1.c), (.slice x5.2.2.1.A x5.2.2.1.n x5.2.2.1.c), (.slice x5.2.2.2.A x5.2.2.2.n x5.2.2.2.c)]))), (32, (.agg (List.toArray [(i6 a1_0), (.slice a1_1_A a1_1_n a1_1_c), (i6 a1_2)]))), (34, (i6 a2))] _ (.row x5.1.A x5.1.c 3 1 (ii v3) :: .row x5.2.1.A x5.2.1.c 3 1 (ii v4) :: .row x5.2.2.1.A x5.2.2.1.c 3 1 (ii v5) :: .row x5.2.2.2.A x5.2.2.2.c 3 1 (ii v6) :: .box x2 50 [(i6 a1_0), (.slice a1_1_A a1_1_n a1_1_c), (i6 a1_2)] :: .box x1 48 [(.slice a0_0_A a0_0_n a0_0_c), (.slice a0_1_A a0_1_n a0_1_c), (.slice a0_2_A a0_2_n a0_2_c), (.slice a0_3_A a0_3_n a0_3_c)] :: F)
        refine d_two 3 9 (by kernel_rfl) ?_ ?_
        · refine o_do rfl (a_call ok38 rfl rfl rfl rfl (fun w hm => laws_toGc.calls K a1_0 a1_1 a1_1_A a1_1_n a1_1_c a1_2 hm a1_1_h (Rd.drop 6 a1_1_R) hb4)) rfl rfl (fun x6 w h => (h.drop 5)) (fun x6 => ?_)
          refine j_rs (.row x5.1.A x5.1.c 3 1 (ii v3) :: .row x5.2.1.A x5.2.1.c 3 1 (ii v4) :: .row x5.2.2.1.A x5.2.2.1.c 3 1 (ii v5) :: .row x5.2.2.2.A x5.2.2.2.c 3 1 (ii v6) :: .row x6.A x6.c 3 1 (ii v8) :: .box x2 50 [(i6 a1_0), (.slice a1_1_A a1_1_n a1_1_c), (i6 a1_2)] :: .box x1 48 [(.slice a0_0_A a0_0_n a0_0_c), (.slice a0_1_A a0_1_n a0_1_c), (.slice a0_2_A a0_2_n a0_2_c), (.slice a0_3_A a0_3_n a0_3_c)] :: F) (fun _ h => h.pick 7 [1, 2, 3, 4, 0, 5, 6] rfl) ?_
          refine j_env [(2, (i6 a2)), (3, (pt x1)), (4, (pt x2)), (31, (.agg (List.toArray [(.slice x5.1.A x5.1.n x5.1.c), (.slice x5.2.1.A x5.2.1.n x5.2.1.c), (.slice x5.2.2.1.A x5.2.2.1.n x5.2.2.1.c), (.slice x5.2.2.2.A x5.2.2.2.n x5.2.2.2.c)]))), (33, (.agg (List.toArray [(i6 v7), (.slice x6.A x6.n x6.c), (i6 v9)]))), (34, (i6 a2))] ⟨rfl, rfl, rfl, rfl, rfl, rfl, trivial⟩ ?_
          exact hD31 (x5, x6)
        · refine o_do rfl (a_alloc zr53 rfl) rfl rfl (fun x8 w h => (h.drop 5)) (fun x8 => ?_)
          refine j_rs (.row x5.1.A x5.1.c 3 1 (ii v3) :: .row x5.2.1.A x5.2.1.c 3 1 (ii v4) :: .row x5.2.2.1.A x5.2.2.1.c 3 1 (ii v5) :: .row x5.2.2.2.A x5.2.2.2.c 3 1 (ii v6) :: .box x8 53 [(i6 (0:Int)), (.slice none 0 0), (i6 (0:Int))] :: .box x2 50 [(i6 a1_0), (.slice a1_1_A a1_1_n a1_1_c), (i6 a1_2)] :: .box x1 48 [(.slice a0_0_A a0_0_n a0_0_c), (.slice a0_1_A a0_1_n a0_1_c), (.slice a0_2_A a0_2_n a0_2_c), (.slice a0_3_A a0_3_n a0_3_c)] :: F) (fun _ h => h.pick 7 [1, 2, 3, 4, 0, 5, 6] rfl) ?_
          refine j_env [(2, (i6 a2)), (3, (pt x1)), (4, (pt x2)), (8, (pt x8)), (31, (.agg (List.toArray [(.slice x5.1.A x5.1.n x5.1.c), (.slice x5.2.1.A x5.2.1.n x5.2.1.c), (.slice x5.2.2.1.A x5.2.2.1.n x5.2.2.1.c), (.slice x5.2.2.2.A x5.2.2.2.n x5.2.2.2.c)]))), (32, (.agg (List.toArray [(i6 a1_0), (.slice a1_1_A a1_1_n a1_1_c), (i6 a1_2)]))), (34, (i6 a2))] ⟨rfl, rfl, rfl, rfl, rfl, rfl, rfl, trivial⟩ ?_
          exact hD535 (x5, x8)
      refine d_join (σ := Nat) 8 #[true, false, true, false, true, false, false, false, false, true, false, false] (fun s => [(2, (i6 a2)), (3, (pt x1)), (4, (pt x2)), (8, (pt s)), (30, (.agg (List.toArray [(.slice a0_0_A a0_0_n a0_0_c), (.slice a0_1_A a0_1_n a0_1_c), (.slice a0_2_A a0_2_n a0_2_c), (.slice a0_3_A a0_3_n a0_3_c)]))), (32, (.agg (List.toArray [(i6 a1_0), (.slice a1_1_A a1_1_n a1_1_c), (i6 a1_2)]))), (34, (i6 a2))]) (fun s => .box s 53 [(i6 (0:Int)), (.slice none 0 0), (i6 (0:Int))] :: .box x2 50 [(i6 a1_0), (.slice a1_1_A a1_1_n a1_1_c), (i6 a1_2)] :: .box x1 48 [(.slice a0_0_A a0_0_n a0_0_c), (.slice a0_1_A a0_1_n a0_1_c), (.slice a0_2_A a0_2_n a0_2_c), (.slice a0_3_A a0_3_n a0_3_c)] :: F) ?_ (fun hD533 => ?_)
      · rintro x8
        show J _ _ [(2, (i6 a2)), (3, (pt x1)), (4, (pt x2)), (8, (pt x8)), (30, (.agg (List.toArray [(.slice a0_0_A a0_0_n a0_0_c), (.slice a0_1_A a0_1_n a0_1_c), (.slice a0_2_A a0_2_n a0_2_c), (.slice a0_3_A a0_3_n a0_3_c)]))), (32, (.agg (List.toArray [(i6 a1_0), (.slice a1_1_A a1_1_n a1_1_c), (i6 a1_2)]))), (34, (i6 a2))] _ (.box x8 53 [(i6 (0:Int)), (.slice none 0 0), (i6 (0:Int))] :: .box x2 50 [(i6 a1_0), (.slice a1_1_A a1_1_n a1_1_c), (i6 a1_2)] :: .box x1 48 [(.slice a0_0_A a0_0_n a0_0_c), (.slice a0_1_A a0_1_n a0_1_c), (.slice a0_2_A a0_2_n a0_2_c), (.slice a0_3_A a0_3_n a0_3_c)] :: F)
        refine d_one 1 (by kernel_rfl) ?_
        · refine o_do rfl (a_call ok37 rfl rfl rfl rfl (fun w hm => laws_toStore.calls K a0_0 a0_0_A a0_0_n a0_0_c a0_1 a0_1_A a0_1_n a0_1_c a0_2 a0_2_A a0_2_n a0_2_c a0_3 a0_3_A a0_3_n a0_3_c hm a0_0_h (Rd.drop 3 a0_0_R) a0_1_h (Rd.drop 3 a0_1_R) a0_2_h (Rd.drop 3 a0_2_R) a0_3_h (Rd.drop 3 a0_3_R) hb3)) rfl rfl (fun x5 w h => (h.drop 5)) (fun x5 => ?_)
          refine j_rs (.row x5.1.A x5.1.c 3 1 (ii v3) :: .row x5.2.1.A x5.2.1.c 3 1 (ii v4) :: .row x5.2.2.1.A x5.2.2.1.c 3 1 (ii v5) :: .row x5.2.2.2.A x5.2.2.2.c 3 1 (ii v6) :: .box x8 53 [(i6 (0:Int)), (.slice none 0 0), (i6 (0:Int))] :: .box x2 50 [(i6 a1_0), (.slice a1_1_A a1_1_n a1_1_c), (i6 a1_2)] :: .box x1 48 [(.slice a0_0_A a0_0_n a0_0_c), (.slice a0_1_A a0_1_n a0_1_c), (.slice a0_2_A a0_2_n a0_2_c), (.slice a0_3_A a0_3_n a0_3_c)] :: F) (fun _ h => h) ?_
          refine j_env [(2, (i6 a2)), (3, (pt x1)), (4, (pt x2)), (8, (pt x8)), (31, (.agg (List.toArray [(.slice x5.1.A x5.1.n x5.1.c), (.slice x5.2.1.A x5.2.1.n x5.2.1.c), (.slice x5.2.2.1.A x5.2.2.1.n x5.2.2.1.c), (.slice x5.2.2.2.A x5.2.2.2.n x5.2.2.2.c)]))), (32, (.agg (List.toArray [(i6 a1_0), (.slice a1_1_A a1_1_n a1_1_c), (i6 a1_2)]))), (34, (i6 a2))] ⟨rfl, rfl, rfl, rfl, rfl, rfl, rfl, trivial⟩ ?_
          exact hD535 (x5, x8)
      refine d_two 1 9 (by kernel_rfl) ?_ ?_
      · refine o_do rfl (a_call ok37 rfl rfl rfl rfl (fun w hm => laws_toStore.calls K a0_0 a0_0_A a0_0_n a0_0_c a0_1 a0_1_A a0_1_n a0_1_c a0_2 a0_2_A a0_2_n a0_2_c a0_3 a0_3_A a0_3_n a0_3_c hm a0_0_h (Rd.drop 2 a0_0_R) a0_1_h (Rd.drop 2 a0_1_R) a0_2_h (Rd.drop 2 a0_2_R) a0_3_h (Rd.drop 2 a0_3_R) hb3)) rfl rfl (fun x5 w h => (h.drop 4)) (fun x5 => ?_)
        refine j_rs (.row x5.1.A x5.1.c 3 1 (ii v3) :: .row x5.2.1.A x5.2.1.c 3 1 (ii v4) :: .row x5.2.2.1.A x5.2.2.1.c 3 1 (ii v5) :: .row x5.2.2.2.A x5.2.2.2.c 3 1 (ii v6) :: .box x2 50 [(i6 a1_0), (.slice a1_1_A a1_1_n a1_1_c), (i6 a1_2)] :: .box x1 48 [(.slice a0_0_A a0_0_n a0_0_c), (.slice a0_1_A a0_1_n a0_1_c), (.slice a0_2_A a0_2_n a0_2_c), (.slice a0_3_A a0_3_n a0_3_c)] :: F) (fun _ h => h) ?_
        refine j_env [(2, (i6 a2)), (3, (pt x1)), (4, (pt x2)), (31, (.agg (List.toArray [(.slice x5.1.A x5.1.n x5.1.c), (.slice x5.2.1.A x5.2.1.n x5.2.1.c), (.slice x5.2.2.1.A x5.2.2.1.n x5.2.2.1.c), (.slice x5.2.2.2.A x5.2.2.2.n x5.2.2.2.c)]))), (32, (.agg (List.toArray [(i6 a1_0), (.slice a1_1_A a1_1_n a1_1_c), (i6 a1_2)]))), (34, (i6 a2))] ⟨rfl, rfl, rfl, rfl, rfl, rfl, trivial⟩ ?_
        exact hD23 x5
      · refine o_do rfl (a_alloc zr53 rfl) rfl rfl (fun x8 w h => h.tail) (fun x8 => ?_)
        refine j_rs (.box x8 53 [(i6 (0:Int)), (.slice none 0 0), (i6 (0:Int))] :: .box x2 50 [(i6 a1_0), (.slice a1_1_A a1_1_n a1_1_c), (i6 a1_2)] :: .box x1 48 [(.slice a0_0_A a0_0_n a0_0_c), (.slice a0_1_A a0_1_n a0_1_c), (.slice a0_2_A a0_2_n a0_2_c), (.slice a0_3_A a0_3_n a0_3_c)] :: F) (fun _ h => h) ?_
        refine j_env [(2, (i6 a2)), (3, (pt x1)), (4, (pt x2)), (8, (pt x8)), (30, (.agg (List.toArray [(.slice a0_0_A a0_0_n a0_0_c), (.slice a0_1_A a0_1_n a0_1_c), (.slice a0_2_A a0_2_n a0_2_c), (.slice a0_3_A a0_3_n a0_3_c)]))), (32, (.agg (List.toArray [(i6 a1_0), (.slice a1_1_A a1_1_n a1_1_c), (i6 a1_2)]))), (34, (i6 a2))] ⟨rfl, rfl, rfl, rfl, rfl, rfl, rfl, trivial⟩ ?_
        exact hD533 x8

end Go.Proofs.Ytcdcikmphonkfaa.F
