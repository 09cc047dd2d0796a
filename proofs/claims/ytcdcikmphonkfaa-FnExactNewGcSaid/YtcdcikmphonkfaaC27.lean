/- The program computes these pure functions, printed by the generator of wip/gen. -/
import Derived.Test.YtcdcikmphonkfaaFa
import Derived.Test.YtcdcikmphonkfaaFi
import Derived.Test.YtcdcikmphonkfaaFb
import Derived.Test.YtcdcikmphonkfaaC0
import Derived.Test.YtcdcikmphonkfaaC1
import Derived.Test.YtcdcikmphonkfaaC5
import Derived.Test.YtcdcikmphonkfaaC9
import Derived.Test.YtcdcikmphonkfaaC10
import Derived.Test.YtcdcikmphonkfaaC16
namespace Go.Proofs.Ytcdcikmphonkfaa.F
open Go Go.RowKit Go.Proofs.Ytcdcikmphonkfaa.S
set_option linter.unusedVariables false
set_option maxRecDepth 100000
theorem spec_NewGc.calls (K : Nat) (a0_0 : List Int) (a0_0_A : Option Addr) (a0_0_n a0_0_c : Nat) (a0_1 : List Int) (a0_1_A : Option Addr) (a0_1_n a0_1_c : Nat) (a0_2 : List Int) (a0_2_A : Option Addr) (a0_2_n a0_2_c : Nat) (a0_3 : List Int) (a0_3_A : Option Addr) (a0_3_n a0_3_c : Nat) {w0 w : World} {F : List Res} {r1 : Int} {r2 : List Int} {r3 : Int} {r4 : Bool} (hm : Mem w0 (F) w) (a0_0_h : a0_0.length = a0_0_n) (a0_0_R : Rd w0 F a0_0_A (ii a0_0)) (a0_1_h : a0_1.length = a0_1_n) (a0_1_R : Rd w0 F a0_1_A (ii a0_1)) (a0_2_h : a0_2.length = a0_2_n) (a0_2_R : Rd w0 F a0_2_A (ii a0_2)) (a0_3_h : a0_3.length = a0_3_n) (a0_3_R : Rd w0 F a0_3_A (ii a0_3)) (a0_3_k : a0_3.length ≤ a0_3_c) (h : spec_NewGc.f K a0_0 a0_1 a0_2 a0_3 = some (r1, r2, r3, r4)) :
    Calls Try.prog 47 (List.toArray [.agg (List.toArray [.slice a0_0_A a0_0_n a0_0_c, .slice a0_1_A a0_1_n a0_1_c, .slice a0_2_A a0_2_n a0_2_c, .slice a0_3_A a0_3_n a0_3_c])]) w fun e w' => ∃ x : (Sl r2.length), e = .returned (.tuple (List.toArray [.agg (List.toArray [i6 r1, .slice x.A x.n x.c, i6 r3]), .bool r4])) ∧ Mem w0 (.row x.A x.c 3 1 (ii r2) :: F) w' := by
  unfold spec_NewGc.f at h
  refine calls_of_J (n := 14) Try.func47 rfl rfl rfl hm ?_
  refine j_seq ?_
  refine j_region ?_
  refine r_do (a_box rfl rfl) rfl rfl (fun x1 => ?_)
  refine r_do (a_alloc zr53 rfl) rfl rfl (fun x2 => ?_)
  refine r_q (q_assign rfl rfl) rfl rfl ?_
  refine r_nil ?_
  refine j_then ?_
  refine j_seq ?_
  refine j_seq ?_
  refine j_region ?_
  refine r_q (q_loadb_agg 1 rfl ag57 sz57 rfl rfl rfl rfl) rfl rfl ?_
  obtain ⟨v1, hb1, h⟩ := of_b1 h
  refine r_do (a_call ok83 rfl rfl rfl rfl (fun w hm => spec_StoreValid.calls K a0_0 a0_0_A a0_0_n a0_0_c a0_1 a0_1_A a0_1_n a0_1_c a0_2 a0_2_A a0_2_n a0_2_c a0_3 a0_3_A a0_3_n a0_3_c hm a0_0_h (Rd.drop 2 a0_0_R) a0_1_h (Rd.drop 2 a0_1_R) a0_2_h (Rd.drop 2 a0_2_R) a0_3_h (Rd.drop 2 a0_3_R) a0_3_k hb1)) rfl rfl (fun x3 => ?_)
  refine r_q (q_not rfl rfl) rfl rfl ?_
  refine r_nil ?_
  refine j_then ?_
  rcases of_if h with ⟨c1, h⟩ | ⟨c1, h⟩
  · refine j_false rfl (not_f c1) ?_
    refine j_skip ?_
    refine j_then ?_
    refine j_seq ?_
    refine j_region ?_
    refine r_q (q_fieldAddr fi57_0 sz25 rfl rfl rfl) rfl rfl ?_
    refine r_q (q_fieldAddr fi25_0 sz23 rfl rfl rfl) rfl rfl ?_
    refine r_q (q_loadb 1 rfl ag23 rfl rfl rfl) rfl rfl ?_
    refine r_q (q_lenX a0_0 a0_0_h un23 rfl rfl rfl rfl rfl) rfl rfl ?_
    obtain ⟨c2, h⟩ := of_guard h
    refine r_do (a_mkI un23 sz3 by3 zr3 rfl c2 rfl rfl rfl) rfl rfl (fun x4 => ?_)
    refine r_q (q_build (cs := [(i6 (0:Int)), (.slice x4 ((a0_0.length : Int).toNat) ((a0_0.length : Int).toNat)), (i6 (0:Int))]) zr53 pl53 rfl rfl rfl rfl) rfl rfl ?_
    refine r_do (a_storeb 1 rfl sz53 rfl rfl rfl rfl (Nat.le_of_ble_eq_true rfl) rfl) rfl rfl (fun _ => ?_)
    refine j_b1 [(i6 (0:Int)), (.slice x4 ((a0_0.length : Int).toNat) ((a0_0.length : Int).toNat)), (i6 (0:Int))] rfl ?_
    refine r_q (q_assign rfl rfl) rfl rfl ?_
    refine r_nil ?_
    refine j_then ?_
    refine j_ret ?_
    cases h
    exact j_return rfl (ResOf.cell 1 rfl rfl ag53 sz53 (ResOf.tmp rfl ResOf.nil)) rfl (fun w h => ⟨⟨x4, ((a0_0.length : Int).toNat), ((a0_0.length : Int).toNat), List.length_replicate⟩, rfl, h.pick 3 [0] rfl⟩)
  · refine j_true rfl (not_t (var_f c1)) ?_
    refine j_seq ?_
    refine j_region ?_
    refine r_q (q_build (cs := [(i6 (0:Int)), (.slice none 0 0), (i6 (0:Int))]) zr53 pl53 rfl rfl rfl rfl) rfl rfl ?_
    refine r_do (a_storeb 0 rfl sz53 rfl rfl rfl rfl (Nat.le_of_ble_eq_true rfl) rfl) rfl rfl (fun _ => ?_)
    refine j_b0 [(i6 (0:Int)), (.slice none 0 0), (i6 (0:Int))] rfl ?_
    refine r_q (q_assign rfl rfl) rfl rfl ?_
    refine r_nil ?_
    refine j_then ?_
    refine j_ret ?_
    refine j_then_ret ?_
    refine j_nil 3 1 ?_
    cases h
    exact j_return rfl (ResOf.cell 1 rfl rfl ag53 sz53 (ResOf.tmp rfl ResOf.nil)) rfl (fun w h => ⟨⟨none, 0, 0, rfl⟩, rfl, h.pick 3 [0] rfl⟩)

theorem impl_NewGc.calls (K : Nat) (a0_0 : List Int) (a0_0_A : Option Addr) (a0_0_n a0_0_c : Nat) (a0_1 : List Int) (a0_1_A : Option Addr) (a0_1_n a0_1_c : Nat) (a0_2 : List Int) (a0_2_A : Option Addr) (a0_2_n a0_2_c : Nat) (a0_3 : List Int) (a0_3_A : Option Addr) (a0_3_n a0_3_c : Nat) {w0 w : World} {F : List Res} {r1 : Int} {r2 : List Int} {r3 : Int} {r4 : Bool} (hm : Mem w0 (F) w) (a0_0_h : a0_0.length = a0_0_n) (a0_0_R : Rd w0 F a0_0_A (ii a0_0)) (a0_1_h : a0_1.length = a0_1_n) (a0_1_R : Rd w0 F a0_1_A (ii a0_1)) (a0_2_h : a0_2.length = a0_2_n) (a0_2_R : Rd w0 F a0_2_A (ii a0_2)) (a0_3_h : a0_3.length = a0_3_n) (a0_3_R : Rd w0 F a0_3_A (ii a0_3)) (a0_3_k : a0_3.length ≤ a0_3_c) (h : impl_NewGc.f K a0_0 a0_1 a0_2 a0_3 = some (r1, r2, r3, r4)) :
    Calls Try.prog 48 (List.toArray [.agg (List.toArray [.slice a0_0_A a0_0_n a0_0_c, .slice a0_1_A a0_1_n a0_1_c, .slice a0_2_A a0_2_n a0_2_c, .slice a0_3_A a0_3_n a0_3_c])]) w fun e w' => ∃ x : (Sl r2.length), e = .returned (.tuple (List.toArray [.agg (List.toArray [i6 r1, .slice x.A x.n x.c, i6 r3]), .bool r4])) ∧ Mem w0 (.row x.A x.c 3 1 (ii r2) :: F) w' := by
  unfold impl_NewGc.f at h
  refine calls_of_J (n := 14) Try.func48 rfl rfl rfl hm ?_
  refine j_seq ?_
  refine j_region ?_
  refine r_do (a_box rfl rfl) rfl rfl (fun x1 => ?_)
  refine r_do (a_alloc zr53 rfl) rfl rfl (fun x2 => ?_)
  refine r_q (q_assign rfl rfl) rfl rfl ?_
  refine r_nil ?_
  refine j_then ?_
  refine j_seq ?_
  refine j_seq ?_
  refine j_region ?_
  refine r_q (q_loadb_agg 1 rfl ag57 sz57 rfl rfl rfl rfl) rfl rfl ?_
  obtain ⟨v1, hb1, h⟩ := of_b1 h
  refine r_do (a_call ok84 rfl rfl rfl rfl (fun w hm => impl_StoreValid.calls K a0_0 a0_0_A a0_0_n a0_0_c a0_1 a0_1_A a0_1_n a0_1_c a0_2 a0_2_A a0_2_n a0_2_c a0_3 a0_3_A a0_3_n a0_3_c hm a0_0_h (Rd.drop 2 a0_0_R) a0_1_h (Rd.drop 2 a0_1_R) a0_2_h (Rd.drop 2 a0_2_R) a0_3_h (Rd.drop 2 a0_3_R) a0_3_k hb1)) rfl rfl (fun x3 => ?_)
  refine r_q (q_not rfl rfl) rfl rfl ?_
  refine r_nil ?_
  refine j_then ?_
  rcases of_if h with ⟨c1, h⟩ | ⟨c1, h⟩
  · refine j_false rfl (not_f c1) ?_
    refine j_skip ?_
    refine j_then ?_
    refine j_seq ?_
    refine j_region ?_
    refine r_q (q_fieldAddr fi57_0 sz25 rfl rfl rfl) rfl rfl ?_
    refine r_q (q_fieldAddr fi25_0 sz23 rfl rfl rfl) rfl rfl ?_
    refine r_q (q_loadb 1 rfl ag23 rfl rfl rfl) rfl rfl ?_
    refine r_q (q_lenX a0_0 a0_0_h un23 rfl rfl rfl rfl rfl) rfl rfl ?_
    obtain ⟨c2, h⟩ := of_guard h
    refine r_do (a_mkI un23 sz3 by3 zr3 rfl c2 rfl rfl rfl) rfl rfl (fun x4 => ?_)
    refine r_q (q_build (cs := [(i6 (0:Int)), (.slice x4 ((a0_0.length : Int).toNat) ((a0_0.length : Int).toNat)), (i6 (0:Int))]) zr53 pl53 rfl rfl rfl rfl) rfl rfl ?_
    refine r_do (a_storeb 1 rfl sz53 rfl rfl rfl rfl (Nat.le_of_ble_eq_true rfl) rfl) rfl rfl (fun _ => ?_)
    refine j_b1 [(i6 (0:Int)), (.slice x4 ((a0_0.length : Int).toNat) ((a0_0.length : Int).toNat)), (i6 (0:Int))] rfl ?_
    refine r_q (q_assign rfl rfl) rfl rfl ?_
    refine r_nil ?_
    refine j_then ?_
    refine j_ret ?_
    cases h
    exact j_return rfl (ResOf.cell 1 rfl rfl ag53 sz53 (ResOf.tmp rfl ResOf.nil)) rfl (fun w h => ⟨⟨x4, ((a0_0.length : Int).toNat), ((a0_0.length : Int).toNat), List.length_replicate⟩, rfl, h.pick 3 [0] rfl⟩)
  · refine j_true rfl (not_t (var_f c1)) ?_
    refine j_seq ?_
    refine j_region ?_
    refine r_q (q_build (cs := [(i6 (0:Int)), (.slice none 0 0), (i6 (0:Int))]) zr53 pl53 rfl rfl rfl rfl) rfl rfl ?_
    refine r_do (a_storeb 0 rfl sz53 rfl rfl rfl rfl (Nat.le_of_ble_eq_true rfl) rfl) rfl rfl (fun _ => ?_)
    refine j_b0 [(i6 (0:Int)), (.slice none 0 0), (i6 (0:Int))] rfl ?_
    refine r_q (q_assign rfl rfl) rfl rfl ?_
    refine r_nil ?_
    refine j_then ?_
    refine j_ret ?_
    refine j_then_ret ?_
    refine j_nil 3 1 ?_
    cases h
    exact j_return rfl (ResOf.cell 1 rfl rfl ag53 sz53 (ResOf.tmp rfl ResOf.nil)) rfl (fun w h => ⟨⟨none, 0, 0, rfl⟩, rfl, h.pick 3 [0] rfl⟩)

theorem laws_FnExactNewGc.calls (K : Nat) (a0_0 : List Int) (a0_0_A : Option Addr) (a0_0_n a0_0_c : Nat) (a0_1 : List Int) (a0_1_A : Option Addr) (a0_1_n a0_1_c : Nat) (a0_2 : List Int) (a0_2_A : Option Addr) (a0_2_n a0_2_c : Nat) (a0_3 : List Int) (a0_3_A : Option Addr) (a0_3_n a0_3_c : Nat) {w0 w : World} {F : List Res} {r1 : Bool} (hm : Mem w0 (F) w) (a0_0_h : a0_0.length = a0_0_n) (a0_0_R : Rd w0 F a0_0_A (ii a0_0)) (a0_1_h : a0_1.length = a0_1_n) (a0_1_R : Rd w0 F a0_1_A (ii a0_1)) (a0_2_h : a0_2.length = a0_2_n) (a0_2_R : Rd w0 F a0_2_A (ii a0_2)) (a0_3_h : a0_3.length = a0_3_n) (a0_3_R : Rd w0 F a0_3_A (ii a0_3)) (h : laws_FnExactNewGc.f K a0_0 a0_1 a0_2 a0_3 = some r1) :
    Calls Try.prog 12 (List.toArray [.agg (List.toArray [.slice a0_0_A a0_0_n a0_0_c, .slice a0_1_A a0_1_n a0_1_c, .slice a0_2_A a0_2_n a0_2_c, .slice a0_3_A a0_3_n a0_3_c])]) w fun e w' => ∃ x : Unit, e = .returned (.bool r1) ∧ Mem w0 (F) w' := by
  unfold laws_FnExactNewGc.f at h
  refine calls_of_J (n := 96) Try.func12 rfl rfl rfl hm ?_
  refine j_seq ?_
  refine j_region ?_
  refine r_do (a_box rfl rfl) rfl rfl (fun x1 => ?_)
  refine r_q (q_assign rfl rfl) rfl rfl ?_
  refine r_nil ?_
  refine j_then ?_
  refine j_seq ?_
  refine j_region ?_
  refine r_q (q_assign rfl rfl) rfl rfl ?_
  refine r_nil ?_
  refine j_then ?_
  refine j_seq ?_
  refine j_region ?_
  refine r_q (q_loadb_agg 0 rfl ag48 sz48 rfl rfl rfl rfl) rfl rfl ?_
  refine r_q (q_move rfl rfl) rfl rfl ?_
  obtain ⟨v1, hb1, h⟩ := of_b1 h
  refine r_do (a_call ok34 rfl rfl rfl rfl (fun w hm => laws_szStore.calls K a0_0 a0_0_A a0_0_n a0_0_c a0_1 a0_1_A a0_1_n a0_1_c a0_2 a0_2_A a0_2_n a0_2_c a0_3 a0_3_A a0_3_n a0_3_c (1048576:Int) hm a0_0_h (Rd.drop 1 a0_0_R) a0_1_h (Rd.drop 1 a0_1_R) a0_2_h (Rd.drop 1 a0_2_R) a0_3_h (Rd.drop 1 a0_3_R) hb1)) rfl rfl (fun x2 => ?_)
  refine r_q (q_assign rfl rfl) rfl rfl ?_
  refine r_nil ?_
  refine j_then ?_
  refine j_seq ?_
  refine j_seq ?_
  refine j_region ?_
  refine r_q (q_move rfl rfl) rfl rfl ?_
  refine r_q (q_lss rfl rfl rfl) rfl rfl ?_
  refine r_nil ?_
  refine j_then ?_
  rcases of_if h with ⟨c1, h⟩ | ⟨c1, h⟩
  · refine j_true rfl (decide_eq_true c1) ?_
    refine j_seq ?_
    refine j_region ?_
    refine r_q (q_assign rfl rfl) rfl rfl ?_
    refine r_nil ?_
    refine j_then ?_
    refine j_ret ?_
    refine j_then_ret ?_
    cases h
    exact j_return rfl (ResOf.tmp rfl ResOf.nil) rfl (fun w h => ⟨(), rfl, h.tail⟩)
  · refine j_false rfl (decide_eq_false c1) ?_
    refine j_skip ?_
    refine j_then ?_
    refine j_seq ?_
    refine j_region ?_
    refine r_q (q_loadb_agg 0 rfl ag48 sz48 rfl rfl rfl rfl) rfl rfl ?_
    obtain ⟨v2, v3, v4, v5, hb2, h⟩ := of_b4 h
    refine r_do (a_call ok37 rfl rfl rfl rfl (fun w hm => laws_toStore.calls K a0_0 a0_0_A a0_0_n a0_0_c a0_1 a0_1_A a0_1_n a0_1_c a0_2 a0_2_A a0_2_n a0_2_c a0_3 a0_3_A a0_3_n a0_3_c hm a0_0_h (Rd.drop 1 a0_0_R) a0_1_h (Rd.drop 1 a0_1_R) a0_2_h (Rd.drop 1 a0_2_R) a0_3_h (Rd.drop 1 a0_3_R) hb2)) rfl rfl (fun x3 => ?_)
    obtain ⟨v6, v7, v8, v9, hb3, h⟩ := of_b4 h
    refine r_do (a_call ok47 rfl rfl rfl rfl (fun w hm => spec_NewGc.calls K v2 x3.1.A x3.1.n x3.1.c v3 x3.2.1.A x3.2.1.n x3.2.1.c v4 x3.2.2.1.A x3.2.2.1.n x3.2.2.1.c v5 x3.2.2.2.A x3.2.2.2.n x3.2.2.2.c hm x3.1.h (Rd.row 0 rfl) x3.2.1.h (Rd.row 1 rfl) x3.2.2.1.h (Rd.row 2 rfl) x3.2.2.2.h (Rd.row 3 rfl) (hm.roomI 3 rfl) hb3)) rfl rfl (fun x4 => ?_)
    refine r_q (q_move rfl rfl) rfl rfl ?_
    refine r_q (q_extract rfl rfl rfl) rfl rfl ?_
    refine r_q (q_extract rfl rfl rfl) rfl rfl ?_
    refine r_do (a_alloc zr53 rfl) rfl rfl (fun x5 => ?_)
    refine r_do (a_storeb 0 rfl sz53 rfl rfl rfl rfl (Nat.le_of_ble_eq_true rfl) rfl) rfl rfl (fun _ => ?_)
    refine j_b0 [(i6 v6), (.slice x4.A x4.n x4.c), (i6 v8)] rfl ?_
    refine r_q (q_assign rfl rfl) rfl rfl ?_
    refine r_nil ?_
    refine j_then ?_
    refine j_seq ?_
    refine j_region ?_
    refine r_q (q_loadb_agg 6 rfl ag48 sz48 rfl rfl rfl rfl) rfl rfl ?_
    obtain ⟨v10, v11, v12, v13, hb4, h⟩ := of_b4 h
    refine r_do (a_call ok37 rfl rfl rfl rfl (fun w hm => laws_toStore.calls K a0_0 a0_0_A a0_0_n a0_0_c a0_1 a0_1_A a0_1_n a0_1_c a0_2 a0_2_A a0_2_n a0_2_c a0_3 a0_3_A a0_3_n a0_3_c hm a0_0_h (Rd.drop 7 a0_0_R) a0_1_h (Rd.drop 7 a0_1_R) a0_2_h (Rd.drop 7 a0_2_R) a0_3_h (Rd.drop 7 a0_3_R) hb4)) rfl rfl (fun x6 => ?_)
    refine r_do (a_alloc zr57 rfl) rfl rfl (fun x7 => ?_)
    refine r_do (a_storeb 0 rfl sz57 rfl rfl rfl rfl (Nat.le_of_ble_eq_true rfl) rfl) rfl rfl (fun _ => ?_)
    refine j_b0 [(.slice x6.1.A x6.1.n x6.1.c), (.slice x6.2.1.A x6.2.1.n x6.2.1.c), (.slice x6.2.2.1.A x6.2.2.1.n x6.2.2.1.c), (.slice x6.2.2.2.A x6.2.2.2.n x6.2.2.2.c)] rfl ?_
    refine r_nil ?_
    refine j_then ?_
    refine j_seq ?_
    refine j_region ?_
    refine r_q (q_loadb_agg 0 rfl ag57 sz57 rfl rfl rfl rfl) rfl rfl ?_
    obtain ⟨v14, v15, v16, v17, hb5, h⟩ := of_b4 h
    refine r_do (a_call ok48 rfl rfl rfl rfl (fun w hm => impl_NewGc.calls K v10 x6.1.A x6.1.n x6.1.c v11 x6.2.1.A x6.2.1.n x6.2.1.c v12 x6.2.2.1.A x6.2.2.1.n x6.2.2.1.c v13 x6.2.2.2.A x6.2.2.2.n x6.2.2.2.c hm x6.1.h (Rd.row 1 rfl) x6.2.1.h (Rd.row 2 rfl) x6.2.2.1.h (Rd.row 3 rfl) x6.2.2.2.h (Rd.row 4 rfl) (hm.roomI 4 rfl) hb5)) rfl rfl (fun x8 => ?_)
    refine r_q (q_move rfl rfl) rfl rfl ?_
    refine r_q (q_extract rfl rfl rfl) rfl rfl ?_
    refine r_q (q_extract rfl rfl rfl) rfl rfl ?_
    refine r_do (a_alloc zr53 rfl) rfl rfl (fun x9 => ?_)
    refine r_do (a_storeb 0 rfl sz53 rfl rfl rfl rfl (Nat.le_of_ble_eq_true rfl) rfl) rfl rfl (fun _ => ?_)
    refine j_b0 [(i6 v14), (.slice x8.A x8.n x8.c), (i6 v16)] rfl ?_
    refine r_q (q_assign rfl rfl) rfl rfl ?_
    refine r_nil ?_
    refine j_then ?_
    refine j_seq ?_
    refine j_seq ?_
    refine j_region ?_
    refine r_q (q_loadb_agg 0 rfl ag53 sz53 rfl rfl rfl rfl) rfl rfl ?_
    refine r_q (q_loadb_agg 7 rfl ag53 sz53 rfl rfl rfl rfl) rfl rfl ?_
    obtain ⟨v18, hb6, h⟩ := of_b1 h
    refine r_do (a_call ok40 rfl rfl rfl rfl (fun w hm => laws_eqGc.calls K v14 v15 x8.A x8.n x8.c v16 v6 v7 x4.A x4.n x4.c v8 hm x8.h (Rd.row 1 rfl) x4.h (Rd.row 8 rfl) hb6)) rfl rfl (fun x10 => ?_)
    refine r_q (q_not rfl rfl) rfl rfl ?_
    refine r_q (q_move rfl rfl) rfl rfl ?_
    rcases of_if h with ⟨c2, h⟩ | ⟨c2, h⟩
    · refine r_qon (q_move rfl rfl) rfl rfl rfl rfl (not_f c2) rfl ?_
      refine r_qon (q_move rfl rfl) rfl rfl rfl rfl (not_f c2) rfl ?_
      refine r_qon (q_bneq un4 rfl rfl rfl) rfl rfl rfl rfl (not_f c2) rfl ?_
      refine r_q (q_pick_f rfl rfl (not_f c2) rfl) rfl rfl ?_
      refine r_nil ?_
      refine j_then ?_
      rcases of_if h with ⟨c3, h⟩ | ⟨c3, h⟩
      · refine j_false rfl (bne_f c3) ?_
        refine j_skip ?_
        refine j_then ?_
        refine j_seq ?_
        refine j_seq ?_
        obtain ⟨v19, v20, v21, v22, hb7, h⟩ := of_b4 h
        obtain ⟨v23, hb8, h⟩ := of_b1 h
        refine j_draw (.box x9 53 [(i6 v14), (.slice x8.A x8.n x8.c), (i6 v16)] :: .row x8.A x8.c 3 1 (ii v15) :: .box x7 57 [(.slice x6.1.A x6.1.n x6.1.c), (.slice x6.2.1.A x6.2.1.n x6.2.1.c), (.slice x6.2.2.1.A x6.2.2.1.n x6.2.2.1.c), (.slice x6.2.2.2.A x6.2.2.2.n x6.2.2.2.c)] :: .row x6.1.A x6.1.c 3 1 (ii v10) :: .row x6.2.1.A x6.2.1.c 3 1 (ii v11) :: .row x6.2.2.1.A x6.2.2.1.c 3 1 (ii v12) :: .row x6.2.2.2.A x6.2.2.2.c 3 1 (ii v13) :: .box x5 53 [(i6 v6), (.slice x4.A x4.n x4.c), (i6 v8)] :: .row x4.A x4.c 3 1 (ii v7) :: .row x3.1.A x3.1.c 3 1 (ii v2) :: .row x3.2.1.A x3.2.1.c 3 1 (ii v3) :: .row x3.2.2.1.A x3.2.2.1.c 3 1 (ii v4) :: .row x3.2.2.2.A x3.2.2.2.c 3 1 (ii v5) :: .box x1 48 [(.slice a0_0_A a0_0_n a0_0_c), (.slice a0_1_A a0_1_n a0_1_c), (.slice a0_2_A a0_2_n a0_2_c), (.slice a0_3_A a0_3_n a0_3_c)] :: F) 5 follows_any rfl ?_
        refine d_take 0 rfl (q_loadb_agg 2 rfl ag57 sz57 rfl rfl rfl rfl) rfl rfl (by kernel_rfl) (by kernel_rfl) (by kernel_rfl) (fun w h => h) ?_
        refine d_take 1 rfl (q_loadb_agg 13 rfl ag48 sz48 rfl rfl rfl rfl) rfl rfl (by kernel_rfl) (by kernel_rfl) (by kernel_rfl) (fun w h => h) ?_
        refine d_one 2 (by kernel_rfl) ?_
        refine o_do rfl (a_call ok37 rfl rfl rfl rfl (fun w hm => laws_toStore.calls K a0_0 a0_0_A a0_0_n a0_0_c a0_1 a0_1_A a0_1_n a0_1_c a0_2 a0_2_A a0_2_n a0_2_c a0_3 a0_3_A a0_3_n a0_3_c hm a0_0_h (Rd.drop 14 a0_0_R) a0_1_h (Rd.drop 14 a0_1_R) a0_2_h (Rd.drop 14 a0_2_R) a0_3_h (Rd.drop 14 a0_3_R) hb7)) rfl rfl (fun x11 w h => (h.drop 4)) (fun x11 => ?_)
        refine d_one 3 (by kernel_rfl) ?_
        refine o_do rfl (a_call ok41 rfl rfl rfl rfl (fun w hm => laws_eqStore.calls K v10 x6.1.A x6.1.n x6.1.c v11 x6.2.1.A x6.2.1.n x6.2.1.c v12 x6.2.2.1.A x6.2.2.1.n x6.2.2.1.c v13 x6.2.2.2.A x6.2.2.2.n x6.2.2.2.c v19 x11.1.A x11.1.n x11.1.c v20 x11.2.1.A x11.2.1.n x11.2.1.c v21 x11.2.2.1.A x11.2.2.1.n x11.2.2.1.c v22 x11.2.2.2.A x11.2.2.2.n x11.2.2.2.c hm x6.1.h (Rd.row 7 rfl) x6.2.1.h (Rd.row 8 rfl) x6.2.2.1.h (Rd.row 9 rfl) x6.2.2.2.h (Rd.row 10 rfl) x11.1.h (Rd.row 0 rfl) x11.2.1.h (Rd.row 1 rfl) x11.2.2.1.h (Rd.row 2 rfl) x11.2.2.2.h (Rd.row 3 rfl) hb8)) rfl rfl (fun x12 w h => (h.drop 4)) (fun x12 => ?_)
        refine d_take 4 rfl (q_not rfl rfl) rfl rfl (by kernel_rfl) (by kernel_rfl) (by kernel_rfl) (fun w h => (h.drop 4)) ?_
        refine d_done (by kernel_rfl) ?_
        refine j_then ?_
        rcases of_if h with ⟨c4, h⟩ | ⟨c4, h⟩
        · refine j_false rfl (not_f c4) ?_
          refine j_skip ?_
          refine j_then ?_
          refine j_seq ?_
          refine j_region ?_
          refine r_q (q_assign rfl rfl) rfl rfl ?_
          refine r_nil ?_
          refine j_then ?_
          refine j_seq ?_
          refine j_region ?_
          refine r_q (q_loadb_agg 6 rfl ag57 sz57 rfl rfl rfl rfl) rfl rfl ?_
          refine r_q (q_move rfl rfl) rfl rfl ?_
          obtain ⟨v24, v25, v26, v27, v28, hb9, h⟩ := of_b5 h
          refine j_rs (.row x6.1.A x6.1.c 3 1 (ii v10) :: .row x6.2.1.A x6.2.1.c 3 1 (ii v11) :: .row x6.2.2.1.A x6.2.2.1.c 3 1 (ii v12) :: .row x6.2.2.2.A x6.2.2.2.c 3 1 (ii v13) :: .row x11.1.A x11.1.c 3 1 (ii v19) :: .row x11.2.1.A x11.2.1.c 3 1 (ii v20) :: .row x11.2.2.1.A x11.2.2.1.c 3 1 (ii v21) :: .row x11.2.2.2.A x11.2.2.2.c 3 1 (ii v22) :: .box x9 53 [(i6 v14), (.slice x8.A x8.n x8.c), (i6 v16)] :: .row x8.A x8.c 3 1 (ii v15) :: .box x7 57 [(.slice x6.1.A x6.1.n x6.1.c), (.slice x6.2.1.A x6.2.1.n x6.2.1.c), (.slice x6.2.2.1.A x6.2.2.1.n x6.2.2.1.c), (.slice x6.2.2.2.A x6.2.2.2.n x6.2.2.2.c)] :: .box x5 53 [(i6 v6), (.slice x4.A x4.n x4.c), (i6 v8)] :: .row x4.A x4.c 3 1 (ii v7) :: .row x3.1.A x3.1.c 3 1 (ii v2) :: .row x3.2.1.A x3.2.1.c 3 1 (ii v3) :: .row x3.2.2.1.A x3.2.2.1.c 3 1 (ii v4) :: .row x3.2.2.2.A x3.2.2.2.c 3 1 (ii v5) :: .box x1 48 [(.slice a0_0_A a0_0_n a0_0_c), (.slice a0_1_A a0_1_n a0_1_c), (.slice a0_2_A a0_2_n a0_2_c), (.slice a0_3_A a0_3_n a0_3_c)] :: F) (fun _ h => h.pick 18 [7, 8, 9, 10, 0, 1, 2, 3, 4, 5, 6, 11, 12, 13, 14, 15, 16, 17] rfl) ?_
          refine r_do (a_call ok42 rfl rfl rfl rfl (fun w hm => laws_markStore.calls K v10 x6.1.A x6.1.n x6.1.c v11 x6.2.1.A x6.2.1.n x6.2.1.c v12 x6.2.2.1.A x6.2.2.1.n x6.2.2.1.c v13 x6.2.2.2.A x6.2.2.2.n x6.2.2.2.c (1:Int) hm x6.1.h x6.2.1.h x6.2.2.1.h x6.2.2.2.h hb9)) rfl rfl (fun x13 => ?_)
          refine r_q (q_assign rfl rfl) rfl rfl ?_
          refine r_nil ?_
          refine j_then ?_
          refine j_seq ?_
          refine j_seq ?_
          refine j_region ?_
          refine r_q (q_move rfl rfl) rfl rfl ?_
          refine r_q (q_lss rfl rfl rfl) rfl rfl ?_
          refine r_q (q_move rfl rfl) rfl rfl ?_
          rcases of_if h with ⟨c5, h⟩ | ⟨c5, h⟩
          · refine r_off rfl rfl rfl rfl (decide_eq_true c5) rfl ?_
            refine r_off rfl rfl rfl rfl (decide_eq_true c5) rfl ?_
            refine r_off rfl rfl rfl rfl (decide_eq_true c5) rfl ?_
            refine r_off rfl rfl rfl rfl (decide_eq_true c5) rfl ?_
            refine r_q (q_pick_t rfl rfl (decide_eq_true c5) rfl) rfl rfl ?_
            refine r_q (q_move rfl rfl) rfl rfl ?_
            refine r_off rfl rfl rfl rfl rfl rfl ?_
            refine r_off rfl rfl rfl rfl rfl rfl ?_
            refine r_off rfl rfl rfl rfl rfl rfl ?_
            refine r_q (q_pick_t rfl rfl rfl rfl) rfl rfl ?_
            refine r_nil ?_
            refine j_then ?_
            refine j_true rfl rfl ?_
            refine j_seq ?_
            refine j_region ?_
            refine r_q (q_assign rfl rfl) rfl rfl ?_
            refine r_nil ?_
            refine j_then ?_
            refine j_ret ?_
            refine j_then_ret ?_
            cases h
            exact j_return rfl (ResOf.tmp rfl ResOf.nil) rfl (fun w h => ⟨(), rfl, (h.drop 18)⟩)
          · refine r_qon (q_loadb_agg 8 rfl ag53 sz53 rfl rfl rfl rfl) rfl rfl rfl rfl (decide_eq_false c5) rfl ?_
            refine r_qon (q_loadb_agg 11 rfl ag53 sz53 rfl rfl rfl rfl) rfl rfl rfl rfl (decide_eq_false c5) rfl ?_
            obtain ⟨v29, hb10, h⟩ := of_b1 h
            refine r_on (a_call ok40 rfl rfl rfl rfl (fun w hm => laws_eqGc.calls K v14 v15 x8.A x8.n x8.c v16 v6 v7 x4.A x4.n x4.c v8 hm x8.h (Rd.row 9 rfl) x4.h (Rd.row 12 rfl) hb10)) rfl rfl rfl rfl (decide_eq_false c5) rfl (fun x14 => ?_)
            refine r_qon (q_not rfl rfl) rfl rfl rfl rfl (decide_eq_false c5) rfl ?_
            refine r_q (q_pick_f rfl rfl (decide_eq_false c5) rfl) rfl rfl ?_
            refine r_q (q_move rfl rfl) rfl rfl ?_
            rcases of_if h with ⟨c6, h⟩ | ⟨c6, h⟩
            · refine r_qon (q_move rfl rfl) rfl rfl rfl rfl (not_f c6) rfl ?_
              refine r_qon (q_move rfl rfl) rfl rfl rfl rfl (not_f c6) rfl ?_
              refine r_qon (q_bneq un4 rfl rfl rfl) rfl rfl rfl rfl (not_f c6) rfl ?_
              refine r_q (q_pick_f rfl rfl (not_f c6) rfl) rfl rfl ?_
              refine r_nil ?_
              refine j_then ?_
              refine j_false rfl (bne_f c3) ?_
              refine j_skip ?_
              refine j_then ?_
              refine j_seq ?_
              refine j_region ?_
              refine r_q (q_assign rfl rfl) rfl rfl ?_
              refine r_nil ?_
              refine j_then ?_
              refine j_seq ?_
              refine j_region ?_
              refine r_q (q_loadb_agg 8 rfl ag53 sz53 rfl rfl rfl rfl) rfl rfl ?_
              refine r_q (q_move rfl rfl) rfl rfl ?_
              obtain ⟨v30, v31, hb11, h⟩ := of_b2 h
              refine j_rs (.row x8.A x8.c 3 1 (ii v15) :: .row x6.1.A x6.1.c 3 1 (ii v25) :: .row x6.2.1.A x6.2.1.c 3 1 (ii v26) :: .row x6.2.2.1.A x6.2.2.1.c 3 1 (ii v27) :: .row x6.2.2.2.A x6.2.2.2.c 3 1 (ii v28) :: .row x11.1.A x11.1.c 3 1 (ii v19) :: .row x11.2.1.A x11.2.1.c 3 1 (ii v20) :: .row x11.2.2.1.A x11.2.2.1.c 3 1 (ii v21) :: .row x11.2.2.2.A x11.2.2.2.c 3 1 (ii v22) :: .box x9 53 [(i6 v14), (.slice x8.A x8.n x8.c), (i6 v16)] :: .box x7 57 [(.slice x6.1.A x6.1.n x6.1.c), (.slice x6.2.1.A x6.2.1.n x6.2.1.c), (.slice x6.2.2.1.A x6.2.2.1.n x6.2.2.1.c), (.slice x6.2.2.2.A x6.2.2.2.n x6.2.2.2.c)] :: .box x5 53 [(i6 v6), (.slice x4.A x4.n x4.c), (i6 v8)] :: .row x4.A x4.c 3 1 (ii v7) :: .row x3.1.A x3.1.c 3 1 (ii v2) :: .row x3.2.1.A x3.2.1.c 3 1 (ii v3) :: .row x3.2.2.1.A x3.2.2.1.c 3 1 (ii v4) :: .row x3.2.2.2.A x3.2.2.2.c 3 1 (ii v5) :: .box x1 48 [(.slice a0_0_A a0_0_n a0_0_c), (.slice a0_1_A a0_1_n a0_1_c), (.slice a0_2_A a0_2_n a0_2_c), (.slice a0_3_A a0_3_n a0_3_c)] :: F) (fun _ h => h.pick 18 [9, 0, 1, 2, 3, 4, 5, 6, 7, 8, 10, 11, 12, 13, 14, 15, 16, 17] rfl) ?_
              refine r_do (a_call ok43 rfl rfl rfl rfl (fun w hm => laws_markGc.calls K v14 v15 x8.A x8.n x8.c v16 (1:Int) hm x8.h hb11)) rfl rfl (fun x15 => ?_)
              refine r_q (q_assign rfl rfl) rfl rfl ?_
              refine r_nil ?_
              refine j_then ?_
              refine j_seq ?_
              refine j_region ?_
              refine r_q (q_assign rfl rfl) rfl rfl ?_
              refine r_nil ?_
              refine j_then ?_
              refine j_seq ?_
              refine j_region ?_
              refine r_q (q_loadb_agg 9 rfl ag53 sz53 rfl rfl rfl rfl) rfl rfl ?_
              refine r_q (q_move rfl rfl) rfl rfl ?_
              obtain ⟨v32, hb12, h⟩ := of_b1 h
              refine r_do (a_call ok44 rfl rfl rfl rfl (fun w hm => laws_heldGc.calls K v14 v31 x8.A x8.n x8.c v16 (1:Int) hm (x15.h.trans x8.h) (Rd.row 0 rfl) hb12)) rfl rfl (fun x16 => ?_)
              refine r_q (q_assign rfl rfl) rfl rfl ?_
              refine r_nil ?_
              refine j_then ?_
              refine j_seq ?_
              refine j_seq ?_
              refine j_region ?_
              refine r_q (q_move rfl rfl) rfl rfl ?_
              refine r_q (q_lss rfl rfl rfl) rfl rfl ?_
              refine r_nil ?_
              refine j_then ?_
              rcases of_if h with ⟨c7, h⟩ | ⟨c7, h⟩
              · refine j_true rfl (decide_eq_true c7) ?_
                refine j_seq ?_
                refine j_region ?_
                refine r_q (q_assign rfl rfl) rfl rfl ?_
                refine r_nil ?_
                refine j_then ?_
                refine j_ret ?_
                refine j_then_ret ?_
                cases h
                exact j_return rfl (ResOf.tmp rfl ResOf.nil) rfl (fun w h => ⟨(), rfl, (h.drop 18)⟩)
              · refine j_false rfl (decide_eq_false c7) ?_
                refine j_skip ?_
                refine j_then ?_
                refine j_seq ?_
                refine j_seq ?_
                refine j_region ?_
                refine r_q (q_move rfl rfl) rfl rfl ?_
                refine r_q (q_move rfl rfl) rfl rfl ?_
                refine r_q (q_neq rfl rfl rfl) rfl rfl ?_
                refine r_nil ?_
                refine j_then ?_
                rcases of_if h with ⟨c8, h⟩ | ⟨c8, h⟩
                · refine j_false rfl (bne_f c8) ?_
                  refine j_skip ?_
                  refine j_then ?_
                  refine j_seq ?_
                  refine j_region ?_
                  refine r_q (q_loadb_agg 17 rfl ag48 sz48 rfl rfl rfl rfl) rfl rfl ?_
                  obtain ⟨v33, v34, v35, v36, hb13, h⟩ := of_b4 h
                  refine r_do (a_call ok37 rfl rfl rfl rfl (fun w hm => laws_toStore.calls K a0_0 a0_0_A a0_0_n a0_0_c a0_1 a0_1_A a0_1_n a0_1_c a0_2 a0_2_A a0_2_n a0_2_c a0_3 a0_3_A a0_3_n a0_3_c hm a0_0_h (Rd.drop 18 a0_0_R) a0_1_h (Rd.drop 18 a0_1_R) a0_2_h (Rd.drop 18 a0_2_R) a0_3_h (Rd.drop 18 a0_3_R) hb13)) rfl rfl (fun x17 => ?_)
                  obtain ⟨v37, v38, v39, v40, hb14, h⟩ := of_b4 h
                  refine r_do (a_call ok48 rfl rfl rfl rfl (fun w hm => impl_NewGc.calls K v33 x17.1.A x17.1.n x17.1.c v34 x17.2.1.A x17.2.1.n x17.2.1.c v35 x17.2.2.1.A x17.2.2.1.n x17.2.2.1.c v36 x17.2.2.2.A x17.2.2.2.n x17.2.2.2.c hm x17.1.h (Rd.row 0 rfl) x17.2.1.h (Rd.row 1 rfl) x17.2.2.1.h (Rd.row 2 rfl) x17.2.2.2.h (Rd.row 3 rfl) (hm.roomI 3 rfl) hb14)) rfl rfl (fun x18 => ?_)
                  refine r_q (q_move rfl rfl) rfl rfl ?_
                  refine r_q (q_extract rfl rfl rfl) rfl rfl ?_
                  refine r_q (q_extract rfl rfl rfl) rfl rfl ?_
                  refine r_do (a_alloc zr53 rfl) rfl rfl (fun x19 => ?_)
                  refine r_do (a_storeb 0 rfl sz53 rfl rfl rfl rfl (Nat.le_of_ble_eq_true rfl) rfl) rfl rfl (fun _ => ?_)
                  refine j_b0 [(i6 v37), (.slice x18.A x18.n x18.c), (i6 v39)] rfl ?_
                  refine r_q (q_assign rfl rfl) rfl rfl ?_
                  refine r_nil ?_
                  refine j_then ?_
                  refine j_seq ?_
                  refine j_seq ?_
                  refine j_region ?_
                  refine r_q (q_loadb_agg 0 rfl ag53 sz53 rfl rfl rfl rfl) rfl rfl ?_
                  refine r_q (q_loadb_agg 17 rfl ag53 sz53 rfl rfl rfl rfl) rfl rfl ?_
                  obtain ⟨v41, hb15, h⟩ := of_b1 h
                  refine r_do (a_call ok40 rfl rfl rfl rfl (fun w hm => laws_eqGc.calls K v37 v38 x18.A x18.n x18.c v39 v6 v7 x4.A x4.n x4.c v8 hm x18.h (Rd.row 1 rfl) x4.h (Rd.row 18 rfl) hb15)) rfl rfl (fun x20 => ?_)
                  refine r_q (q_not rfl rfl) rfl rfl ?_
                  refine r_q (q_move rfl rfl) rfl rfl ?_
                  rcases of_if h with ⟨c9, h⟩ | ⟨c9, h⟩
                  · refine r_qon (q_move rfl rfl) rfl rfl rfl rfl (not_f c9) rfl ?_
                    refine r_qon (q_move rfl rfl) rfl rfl rfl rfl (not_f c9) rfl ?_
                    refine r_qon (q_bneq un4 rfl rfl rfl) rfl rfl rfl rfl (not_f c9) rfl ?_
                    refine r_q (q_pick_f rfl rfl (not_f c9) rfl) rfl rfl ?_
                    refine r_nil ?_
                    refine j_then ?_
                    rcases of_if h with ⟨c10, h⟩ | ⟨c10, h⟩
                    · refine j_false rfl (bne_f c10) ?_
                      refine j_skip ?_
                      refine j_then ?_
                      refine j_seq ?_
                      refine j_region ?_
                      refine r_q (q_assign rfl rfl) rfl rfl ?_
                      refine r_nil ?_
                      refine j_then ?_
                      refine j_seq ?_
                      refine j_region ?_
                      refine r_q (q_loadb_agg 15 rfl ag53 sz53 rfl rfl rfl rfl) rfl rfl ?_
                      refine r_q (q_move rfl rfl) rfl rfl ?_
                      obtain ⟨v42, hb16, h⟩ := of_b1 h
                      refine r_do (a_call ok44 rfl rfl rfl rfl (fun w hm => laws_heldGc.calls K v14 v31 x8.A x8.n x8.c v16 (1:Int) hm (x15.h.trans x8.h) (Rd.row 6 rfl) hb16)) rfl rfl (fun x21 => ?_)
                      refine r_q (q_assign rfl rfl) rfl rfl ?_
                      refine r_nil ?_
                      refine j_then ?_
                      refine j_seq ?_
                      refine j_seq ?_
                      refine j_region ?_
                      refine r_q (q_move rfl rfl) rfl rfl ?_
                      refine r_q (q_lss rfl rfl rfl) rfl rfl ?_
                      refine r_nil ?_
                      refine j_then ?_
                      rcases of_if h with ⟨c11, h⟩ | ⟨c11, h⟩
                      · refine j_true rfl (decide_eq_true c11) ?_
                        refine j_seq ?_
                        refine j_region ?_
                        refine r_q (q_assign rfl rfl) rfl rfl ?_
                        refine r_nil ?_
                        refine j_then ?_
                        refine j_ret ?_
                        refine j_then_ret ?_
                        cases h
                        exact j_return rfl (ResOf.tmp rfl ResOf.nil) rfl (fun w h => ⟨(), rfl, (h.drop 24)⟩)
                      · refine j_false rfl (decide_eq_false c11) ?_
                        refine j_skip ?_
                        refine j_then ?_
                        refine j_seq ?_
                        refine j_seq ?_
                        refine j_region ?_
                        refine r_q (q_move rfl rfl) rfl rfl ?_
                        refine r_q (q_move rfl rfl) rfl rfl ?_
                        refine r_q (q_neq rfl rfl rfl) rfl rfl ?_
                        refine r_nil ?_
                        refine j_then ?_
                        rcases of_if h with ⟨c12, h⟩ | ⟨c12, h⟩
                        · refine j_false rfl (bne_f c12) ?_
                          refine j_skip ?_
                          refine j_then ?_
                          refine j_seq ?_
                          refine j_region ?_
                          refine r_q (q_assign rfl rfl) rfl rfl ?_
                          refine r_nil ?_
                          refine j_then ?_
                          refine j_ret ?_
                          cases h
                          exact j_return rfl (ResOf.tmp rfl ResOf.nil) rfl (fun w h => ⟨(), rfl, (h.drop 24)⟩)
                        · refine j_true rfl (bne_t c12) ?_
                          refine j_seq ?_
                          refine j_region ?_
                          refine r_q (q_assign rfl rfl) rfl rfl ?_
                          refine r_nil ?_
                          refine j_then ?_
                          refine j_ret ?_
                          refine j_then_ret ?_
                          cases h
                          exact j_return rfl (ResOf.tmp rfl ResOf.nil) rfl (fun w h => ⟨(), rfl, (h.drop 24)⟩)
                    · refine j_true rfl (bne_t c10) ?_
                      refine j_seq ?_
                      refine j_region ?_
                      refine r_q (q_assign rfl rfl) rfl rfl ?_
                      refine r_nil ?_
                      refine j_then ?_
                      refine j_ret ?_
                      refine j_then_ret ?_
                      cases h
                      exact j_return rfl (ResOf.tmp rfl ResOf.nil) rfl (fun w h => ⟨(), rfl, (h.drop 24)⟩)
                  · refine r_off rfl rfl rfl rfl (not_t (var_f c9)) rfl ?_
                    refine r_off rfl rfl rfl rfl (not_t (var_f c9)) rfl ?_
                    refine r_off rfl rfl rfl rfl (not_t (var_f c9)) rfl ?_
                    refine r_q (q_pick_t rfl rfl (not_t (var_f c9)) rfl) rfl rfl ?_
                    refine r_nil ?_
                    refine j_then ?_
                    refine j_true rfl rfl ?_
                    refine j_seq ?_
                    refine j_region ?_
                    refine r_q (q_assign rfl rfl) rfl rfl ?_
                    refine r_nil ?_
                    refine j_then ?_
                    refine j_ret ?_
                    refine j_then_ret ?_
                    cases h
                    exact j_return rfl (ResOf.tmp rfl ResOf.nil) rfl (fun w h => ⟨(), rfl, (h.drop 24)⟩)
                · refine j_true rfl (bne_t c8) ?_
                  refine j_seq ?_
                  refine j_region ?_
                  refine r_q (q_assign rfl rfl) rfl rfl ?_
                  refine r_nil ?_
                  refine j_then ?_
                  refine j_ret ?_
                  refine j_then_ret ?_
                  cases h
                  exact j_return rfl (ResOf.tmp rfl ResOf.nil) rfl (fun w h => ⟨(), rfl, (h.drop 18)⟩)
            · refine r_off rfl rfl rfl rfl (not_t (var_f c6)) rfl ?_
              refine r_off rfl rfl rfl rfl (not_t (var_f c6)) rfl ?_
              refine r_off rfl rfl rfl rfl (not_t (var_f c6)) rfl ?_
              refine r_q (q_pick_t rfl rfl (not_t (var_f c6)) rfl) rfl rfl ?_
              refine r_nil ?_
              refine j_then ?_
              refine j_true rfl rfl ?_
              refine j_seq ?_
              refine j_region ?_
              refine r_q (q_assign rfl rfl) rfl rfl ?_
              refine r_nil ?_
              refine j_then ?_
              refine j_ret ?_
              refine j_then_ret ?_
              cases h
              exact j_return rfl (ResOf.tmp rfl ResOf.nil) rfl (fun w h => ⟨(), rfl, (h.drop 18)⟩)
        · refine j_true rfl (not_t (var_f c4)) ?_
          refine j_seq ?_
          refine j_region ?_
          refine r_q (q_assign rfl rfl) rfl rfl ?_
          refine r_nil ?_
          refine j_then ?_
          refine j_ret ?_
          refine j_then_ret ?_
          cases h
          exact j_return rfl (ResOf.tmp rfl ResOf.nil) rfl (fun w h => ⟨(), rfl, (h.drop 18)⟩)
      · refine j_true rfl (bne_t c3) ?_
        refine j_seq ?_
        refine j_region ?_
        refine r_q (q_assign rfl rfl) rfl rfl ?_
        refine r_nil ?_
        refine j_then ?_
        refine j_ret ?_
        refine j_then_ret ?_
        cases h
        exact j_return rfl (ResOf.tmp rfl ResOf.nil) rfl (fun w h => ⟨(), rfl, (h.drop 14)⟩)
    · refine r_off rfl rfl rfl rfl (not_t (var_f c2)) rfl ?_
      refine r_off rfl rfl rfl rfl (not_t (var_f c2)) rfl ?_
      refine r_off rfl rfl rfl rfl (not_t (var_f c2)) rfl ?_
      refine r_q (q_pick_t rfl rfl (not_t (var_f c2)) rfl) rfl rfl ?_
      refine r_nil ?_
      refine j_then ?_
      refine j_true rfl rfl ?_
      refine j_seq ?_
      refine j_region ?_
      refine r_q (q_assign rfl rfl) rfl rfl ?_
      refine r_nil ?_
      refine j_then ?_
      refine j_ret ?_
      refine j_then_ret ?_
      cases h
      exact j_return rfl (ResOf.tmp rfl ResOf.nil) rfl (fun w h => ⟨(), rfl, (h.drop 14)⟩)

end Go.Proofs.Ytcdcikmphonkfaa.F
