/- The program computes these pure functions, printed by the generator of wip/gen. -/
import Derived.Test.YtnfaiojmabolmaaDoorFa
import Derived.Test.YtnfaiojmabolmaaDoorFj
import Derived.Test.YtnfaiojmabolmaaDoorFl
import Derived.Test.YtnfaiojmabolmaaDoorFm
import Derived.Test.YtnfaiojmabolmaaDoorFb
import Derived.Test.YtnfaiojmabolmaaDoorC0
import Derived.Test.YtnfaiojmabolmaaDoorC1
import Derived.Test.YtnfaiojmabolmaaDoorC2
namespace Go.Proofs.YtnfaiojmabolmaaDoor.F
open Go Go.RowKit Go.Proofs.YtnfaiojmabolmaaDoor.S
set_option linter.unusedVariables false
set_option maxRecDepth 100000
theorem laws_szOpS.calls (K : Nat) (a0 : List (Int × Int × Int)) (a0_A : Option Addr) (a0_n a0_c : Nat) (a1 : Int) {w0 w : World} {F : List Res} {r1 : Int} (hm : Mem w0 (F) w) (a0_h : a0.length = a0_n) (a0_R : Rd w0 F a0_A (trips a0)) (h : laws_szOpS.f K a0 a1 = some r1) :
    Calls Tryd.prog 29 (List.toArray [.slice a0_A a0_n a0_c, i6 a1]) w fun e w' => ∃ x : Unit, e = .returned (i6 r1) ∧ Mem w0 (F) w' := by
  unfold laws_szOpS.f at h
  refine calls_of_J (n := 12) Tryd.func29 rfl rfl rfl hm ?_
  refine j_seq ?_
  refine j_region ?_
  refine r_q (q_assign rfl rfl) rfl rfl ?_
  refine r_nil ?_
  refine j_then ?_
  refine j_seq ?_
  refine j_region ?_
  refine r_q (q_move rfl rfl) rfl rfl ?_
  refine r_q (q_move rfl rfl) rfl rfl ?_
  refine r_q (q_lenX a0 a0_h un44 rfl rfl rfl rfl rfl) rfl rfl ?_
  refine r_q (q_sub rfl rfl rfl) rfl rfl ?_
  refine r_q (q_assign rfl rfl) rfl rfl ?_
  refine r_nil ?_
  refine j_then ?_
  refine j_seq ?_
  refine j_seq ?_
  refine j_region ?_
  refine r_q (q_move rfl rfl) rfl rfl ?_
  refine r_q (q_lss rfl rfl rfl) rfl rfl ?_
  refine r_nil ?_
  refine j_then ?_
  rcases of_if h with ⟨c1, h⟩ | ⟨c1, h⟩
  · refine j_true rfl (decide_eq_true c1) ?_
    refine j_seq ?_
    refine j_region ?_
    refine r_q (q_assign rfl rfl) rfl rfl ?_
    refine r_nil ?_
    refine j_then ?_
    refine j_ret ?_
    refine j_then_ret ?_
    cases h
    exact j_return rfl (ResOf.tmp rfl ResOf.nil) rfl (fun w h => ⟨(), rfl, h⟩)
  · refine j_false rfl (decide_eq_false c1) ?_
    refine j_skip ?_
    refine j_then ?_
    refine j_seq ?_
    refine j_region ?_
    refine r_q (q_move rfl rfl) rfl rfl ?_
    refine r_q (q_assign rfl rfl) rfl rfl ?_
    refine r_nil ?_
    refine j_then ?_
    refine j_ret ?_
    cases h
    exact j_return rfl (ResOf.tmp rfl ResOf.nil) rfl (fun w h => ⟨(), rfl, h⟩)

theorem laws_toOp.calls (K : Nat) (a0_0 : Int) (a0_1 : Int) (a0_2 : Int) {w0 w : World} {F : List Res} {r1 : Int} {r2 : Int} {r3 : Int} (hm : Mem w0 (F) w)  (h : laws_toOp.f K a0_0 a0_1 a0_2 = some (r1, r2, r3)) :
    Calls Tryd.prog 11 (List.toArray [.agg (List.toArray [i6 a0_0, i6 a0_1, i6 a0_2])]) w fun e w' => ∃ x : Unit, e = .returned (.agg (List.toArray [i6 r1, i6 r2, i6 r3])) ∧ Mem w0 (F) w' := by
  unfold laws_toOp.f at h
  refine calls_of_J (n := 14) Tryd.func11 rfl rfl rfl hm ?_
  refine j_seq ?_
  refine j_region ?_
  refine r_do (a_box rfl rfl) rfl rfl (fun x1 => ?_)
  refine r_do (a_alloc zr25 rfl) rfl rfl (fun x2 => ?_)
  refine r_nil ?_
  refine j_then ?_
  refine j_seq ?_
  refine j_region ?_
  refine r_do (a_alloc zr25 rfl) rfl rfl (fun x3 => ?_)
  refine r_nil ?_
  refine j_then ?_
  refine j_seq ?_
  refine j_region ?_
  refine r_q (q_fieldAddr fi23_0 sz3 rfl rfl rfl) rfl rfl ?_
  refine r_q (q_loadb 2 rfl ag3 rfl rfl rfl) rfl rfl ?_
  refine r_q (q_fieldAddr fi25_0 sz3 rfl rfl rfl) rfl rfl ?_
  refine r_do (a_storeb 0 rfl sz3 rfl rfl rfl rfl (Nat.le_of_ble_eq_true rfl) rfl) rfl rfl (fun _ => ?_)
  refine j_b0 [(i6 a0_0), (i6 (0:Int)), (i6 (0:Int))] rfl ?_
  refine r_nil ?_
  refine j_then ?_
  refine j_seq ?_
  refine j_region ?_
  refine r_q (q_fieldAddr fi23_1 sz3 rfl rfl rfl) rfl rfl ?_
  refine r_q (q_loadb 2 rfl ag3 rfl rfl rfl) rfl rfl ?_
  refine r_q (q_fieldAddr fi25_1 sz3 rfl rfl rfl) rfl rfl ?_
  refine r_do (a_storeb 0 rfl sz3 rfl rfl rfl rfl (Nat.le_of_ble_eq_true rfl) rfl) rfl rfl (fun _ => ?_)
  refine j_b0 [(i6 a0_0), (i6 a0_1), (i6 (0:Int))] rfl ?_
  refine r_nil ?_
  refine j_then ?_
  refine j_seq ?_
  refine j_region ?_
  refine r_q (q_fieldAddr fi23_2 sz3 rfl rfl rfl) rfl rfl ?_
  refine r_q (q_loadb 2 rfl ag3 rfl rfl rfl) rfl rfl ?_
  refine r_q (q_fieldAddr fi25_2 sz3 rfl rfl rfl) rfl rfl ?_
  refine r_do (a_storeb 0 rfl sz3 rfl rfl rfl rfl (Nat.le_of_ble_eq_true rfl) rfl) rfl rfl (fun _ => ?_)
  refine j_b0 [(i6 a0_0), (i6 a0_1), (i6 a0_2)] rfl ?_
  refine r_nil ?_
  refine j_then ?_
  refine j_seq ?_
  refine j_region ?_
  refine r_q (q_loadb_agg 0 rfl ag25 sz25 rfl rfl rfl rfl) rfl rfl ?_
  refine r_do (a_storeb 1 rfl sz25 rfl rfl rfl rfl (Nat.le_of_ble_eq_true rfl) rfl) rfl rfl (fun _ => ?_)
  refine j_b1 [(i6 a0_0), (i6 a0_1), (i6 a0_2)] rfl ?_
  refine r_nil ?_
  refine j_then ?_
  refine j_ret ?_
  cases h
  exact j_return rfl (ResOf.cell 1 rfl rfl ag25 sz25 ResOf.nil) rfl (fun w h => ⟨(), rfl, (h.drop 3)⟩)

theorem laws_toOpS.calls (K : Nat) (a0 : List (Int × Int × Int)) (a0_A : Option Addr) (a0_n a0_c : Nat) {w0 w : World} {F : List Res} {r1 : List (Int × Int × Int)} (hm : Mem w0 (F) w) (a0_h : a0.length = a0_n) (a0_R : Rd w0 F a0_A (trips a0)) (h : laws_toOpS.f K a0 = some r1) :
    Calls Tryd.prog 30 (List.toArray [.slice a0_A a0_n a0_c]) w fun e w' => ∃ x : (Sl r1.length), e = .returned (.slice x.A x.n x.c) ∧ Mem w0 (.row x.A x.c 25 3 (trips r1) :: F) w' := by
  unfold laws_toOpS.f at h
  refine calls_of_J (n := 23) Tryd.func30 rfl rfl rfl hm ?_
  refine j_seq ?_
  refine j_region ?_
  refine r_q (q_assign rfl rfl) rfl rfl ?_
  refine r_nil ?_
  refine j_then ?_
  refine j_seq ?_
  refine j_region ?_
  refine r_q (q_move rfl rfl) rfl rfl ?_
  refine r_q (q_lenX a0 a0_h un44 rfl rfl rfl rfl rfl) rfl rfl ?_
  obtain ⟨c1, h⟩ := of_guard h
  refine r_do (a_mkT un28 sz25 by25 zr25 rfl c1 rfl rfl rfl) rfl rfl (fun x1 => ?_)
  refine r_q (q_assign rfl rfl) rfl rfl ?_
  refine r_nil ?_
  refine j_then ?_
  refine j_seq ?_
  refine j_seq ?_
  refine j_region ?_
  refine r_q (q_assign rfl rfl) rfl rfl ?_
  refine r_nil ?_
  refine j_then ?_
  obtain ⟨κ0, h, hκ0⟩ := ex_k (g := fun κ => laws_toOpS.loop0 K κ a0 K (0:Int) (List.replicate (a0.length : Int).toNat ((0:Int), (0:Int), (0:Int))) = some r1) h
  refine j_cut (σ := (List (Int × Int × Int))) (fun s => [(3, (.slice x1 ((a0.length : Int).toNat) ((a0.length : Int).toNat)))]) (fun s => .row x1 ((a0.length : Int).toNat) 25 3 (trips s) :: F) (fun s => κ0 s = some r1 ∧ (s.length = ((a0.length : Int).toNat))) ?_ ?_
  · refine j_block ?_
    refine j_loop (σ := Int × (List (Int × Int × Int))) (fun s => [(0, (.slice a0_A a0_n a0_c)), (3, (.slice x1 ((a0.length : Int).toNat) ((a0.length : Int).toNat))), (4, (i6 s.1))]) (fun s => .row x1 ((a0.length : Int).toNat) 25 3 (trips s.2) :: F) (fun m s => laws_toOpS.loop0 K κ0 a0 m s.1 s.2 = some r1 ∧ (s.2.length = ((a0.length : Int).toNat))) K ((0:Int), (List.replicate (a0.length : Int).toNat ((0:Int), (0:Int), (0:Int)))) ⟨h, List.length_replicate⟩ (fun a he => he.sub ⟨rfl, rfl, rfl, trivial⟩) (fun w h => h) ?_
    rintro m ⟨p2, l2⟩ ⟨h, q2⟩
    cases m with
    | zero => exact absurd h (by rw [laws_toOpS.loop0]; exact nofun)
    | succ m =>
      rw [laws_toOpS.loop0] at h
      show J _ _ [(0, (.slice a0_A a0_n a0_c)), (3, (.slice x1 ((a0.length : Int).toNat) ((a0.length : Int).toNat))), (4, (i6 p2))] _ (.row x1 ((a0.length : Int).toNat) 25 3 (trips l2) :: F)
      refine j_seq ?_
      refine j_seq ?_
      refine j_region ?_
      refine r_q (q_move rfl rfl) rfl rfl ?_
      refine r_q (q_move rfl rfl) rfl rfl ?_
      refine r_q (q_lenX a0 a0_h un44 rfl rfl rfl rfl rfl) rfl rfl ?_
      refine r_q (q_lss rfl rfl rfl) rfl rfl ?_
      refine r_nil ?_
      refine j_then ?_
      rcases of_if h with ⟨c11, h⟩ | ⟨c11, h⟩
      · refine j_true rfl (decide_eq_true c11) ?_
        refine j_skip ?_
        refine j_then ?_
        refine j_seq ?_
        refine j_block ?_
        refine j_region ?_
        refine r_q (q_move rfl rfl) rfl rfl ?_
        refine r_q (q_move rfl rfl) rfl rfl ?_
        refine r_q (q_move rfl rfl) rfl rfl ?_
        refine r_q (q_move rfl rfl) rfl rfl ?_
        obtain ⟨c12, h⟩ := of_guard h
        refine r_q (q_ix (Rd.drop 1 a0_R) (trips_len a0) (by decide) a0_h c12 un44 sz23 rfl rfl rfl) rfl rfl ?_
        refine r_q (q_ldT (Rd.drop 1 a0_R) c12 ag23 sz23 rfl rfl) rfl rfl ?_
        obtain ⟨v10, v11, v12, hb4, h⟩ := of_b3 h
        refine r_do (a_call ok11 rfl rfl rfl rfl (fun w hm => laws_toOp.calls K (rdt a0 p2).1 (rdt a0 p2).2.1 (rdt a0 p2).2.2 hm hb4)) rfl rfl (fun x2 => ?_)
        obtain ⟨c13, h⟩ := of_guard h
        refine r_q (q_ix (Rd.row 0 rfl) (trips_len l2) (by decide) q2 c13 un28 sz25 rfl rfl rfl) rfl rfl ?_
        refine r_do (a_stT (p := (v10, v11, v12)) 0 rfl c13 sz25 rfl rfl rfl) rfl rfl (fun _ => ?_)
        refine j_s0 ?_
        refine r_nil ?_
        refine j_in ?_
        refine j_then ?_
        refine j_region ?_
        refine r_q (q_move rfl rfl) rfl rfl ?_
        refine r_q (q_add rfl rfl rfl) rfl rfl ?_
        refine r_q (q_assign rfl rfl) rfl rfl ?_
        refine r_nil ?_
        refine j_then ?_
        exact j_again m ((wrap64 (p2 + (1:Int))), (l2.set p2.toNat (v10, v11, v12))) (Nat.lt_succ_self m) ⟨h, (set_len q2 _ _)⟩ (fun a he => he.sub ⟨rfl, rfl, rfl, trivial⟩) (fun w h => h)
      · refine j_false rfl (decide_eq_false c11) ?_
        refine j_exit ?_
        refine j_then_exit ?_
        refine j_then_exit ?_
        refine j_in_exit ?_
        refine j_then ?_
        exact j_meet l2 ⟨h, q2⟩ (fun a he => he.sub ⟨rfl, trivial⟩) (fun w h => h)
  · rintro l3 ⟨h, q3⟩
    subst hκ0
    show J _ _ [(3, (.slice x1 ((a0.length : Int).toNat) ((a0.length : Int).toNat)))] _ (.row x1 ((a0.length : Int).toNat) 25 3 (trips l3) :: F)
    refine j_then ?_
    refine j_seq ?_
    refine j_region ?_
    refine r_q (q_move rfl rfl) rfl rfl ?_
    refine r_q (q_assign rfl rfl) rfl rfl ?_
    refine r_nil ?_
    refine j_then ?_
    refine j_ret ?_
    cases h
    exact j_return rfl (ResOf.tmp rfl ResOf.nil) rfl (fun w h => ⟨⟨x1, ((a0.length : Int).toNat), ((a0.length : Int).toNat), q3⟩, rfl, h⟩)

theorem laws_FnExactFormatOps.calls (K : Nat) (a0 : List (Int × Int × Int)) (a0_A : Option Addr) (a0_n a0_c : Nat) {w0 w : World} {F : List Res} {r1 : Bool} (hm : Mem w0 (F) w) (a0_h : a0.length = a0_n) (a0_R : Rd w0 F a0_A (trips a0)) (gT : Rd w0 F (gA 0) (strs opTab)) (h : laws_FnExactFormatOps.f K a0 = some r1) :
    Calls Tryd.prog 8 (List.toArray [.slice a0_A a0_n a0_c]) w fun e w' => ∃ x : Unit, e = .returned (.bool r1) ∧ Mem w0 (F) w' := by
  unfold laws_FnExactFormatOps.f at h
  refine calls_of_J (n := 27) Tryd.func8 rfl rfl rfl hm ?_
  refine j_seq ?_
  refine j_region ?_
  refine r_q (q_assign rfl rfl) rfl rfl ?_
  refine r_nil ?_
  refine j_then ?_
  refine j_seq ?_
  refine j_region ?_
  refine r_q (q_assign rfl rfl) rfl rfl ?_
  refine r_nil ?_
  refine j_then ?_
  refine j_seq ?_
  refine j_region ?_
  refine r_q (q_move rfl rfl) rfl rfl ?_
  refine r_q (q_move rfl rfl) rfl rfl ?_
  obtain ⟨v1, hb1, h⟩ := of_b1 h
  refine r_do (a_call ok29 rfl rfl rfl rfl (fun w hm => laws_szOpS.calls K a0 a0_A a0_n a0_c (1048576:Int) hm a0_h a0_R hb1)) rfl rfl (fun x1 => ?_)
  refine r_q (q_assign rfl rfl) rfl rfl ?_
  refine r_nil ?_
  refine j_then ?_
  refine j_seq ?_
  refine j_seq ?_
  refine j_region ?_
  refine r_q (q_move rfl rfl) rfl rfl ?_
  refine r_q (q_lss rfl rfl rfl) rfl rfl ?_
  refine r_nil ?_
  refine j_then ?_
  rcases of_if h with ⟨c1, h⟩ | ⟨c1, h⟩
  · refine j_true rfl (decide_eq_true c1) ?_
    refine j_seq ?_
    refine j_region ?_
    refine r_q (q_assign rfl rfl) rfl rfl ?_
    refine r_nil ?_
    refine j_then ?_
    refine j_ret ?_
    refine j_then_ret ?_
    cases h
    exact j_return rfl (ResOf.tmp rfl ResOf.nil) rfl (fun w h => ⟨(), rfl, h⟩)
  · refine j_false rfl (decide_eq_false c1) ?_
    refine j_skip ?_
    refine j_then ?_
    refine j_seq ?_
    refine j_region ?_
    refine r_q (q_move rfl rfl) rfl rfl ?_
    obtain ⟨v2, hb2, h⟩ := of_b1 h
    refine r_do (a_call ok30 rfl rfl rfl rfl (fun w hm => laws_toOpS.calls K a0 a0_A a0_n a0_c hm a0_h a0_R hb2)) rfl rfl (fun x2 => ?_)
    obtain ⟨v3, hb3, h⟩ := of_b1 h
    refine r_do (a_call ok20 rfl rfl rfl rfl (fun w hm => spec_FormatOps.calls K v2 x2.A x2.n x2.c hm x2.h (Rd.row 0 rfl) hb3)) rfl rfl (fun x3 => ?_)
    refine r_q (q_assign rfl rfl) rfl rfl ?_
    refine r_nil ?_
    refine j_then ?_
    refine j_seq ?_
    refine j_region ?_
    refine r_q (q_move rfl rfl) rfl rfl ?_
    obtain ⟨v4, hb4, h⟩ := of_b1 h
    refine r_do (a_call ok30 rfl rfl rfl rfl (fun w hm => laws_toOpS.calls K a0 a0_A a0_n a0_c hm a0_h (Rd.drop 1 a0_R) hb4)) rfl rfl (fun x4 => ?_)
    refine r_q (q_assign rfl rfl) rfl rfl ?_
    refine r_nil ?_
    refine j_then ?_
    refine j_seq ?_
    refine j_region ?_
    refine r_q (q_move rfl rfl) rfl rfl ?_
    obtain ⟨v5, hb5, h⟩ := of_b1 h
    refine r_do (a_call ok19 rfl rfl rfl rfl (fun w hm => impl_FormatOps.calls K v4 x4.A x4.n x4.c hm x4.h (Rd.row 0 rfl) (Rd.drop 2 gT) hb5)) rfl rfl (fun x5 => ?_)
    refine r_q (q_assign rfl rfl) rfl rfl ?_
    refine r_nil ?_
    refine j_then ?_
    refine j_seq ?_
    refine j_seq ?_
    refine j_region ?_
    refine r_q (q_move rfl rfl) rfl rfl ?_
    refine r_q (q_move rfl rfl) rfl rfl ?_
    refine r_q (q_sneq rfl rfl rfl) rfl rfl ?_
    refine r_nil ?_
    refine j_then ?_
    rcases of_if h with ⟨c2, h⟩ | ⟨c2, h⟩
    · refine j_false rfl (not_f (beq_t c2)) ?_
      refine j_skip ?_
      refine j_then ?_
      refine j_seq ?_
      refine j_seq ?_
      refine j_region ?_
      refine r_q (q_move rfl rfl) rfl rfl ?_
      refine r_q (q_move rfl rfl) rfl rfl ?_
      obtain ⟨v6, hb6, h⟩ := of_b1 h
      refine r_do (a_call ok30 rfl rfl rfl rfl (fun w hm => laws_toOpS.calls K a0 a0_A a0_n a0_c hm a0_h (Rd.drop 2 a0_R) hb6)) rfl rfl (fun x6 => ?_)
      obtain ⟨v7, hb7, h⟩ := of_b1 h
      refine r_do (a_call ok15 rfl rfl rfl rfl (fun w hm => laws_eqOpS.calls K v4 x4.A x4.n x4.c v6 x6.A x6.n x6.c hm x4.h (Rd.row 1 rfl) x6.h (Rd.row 0 rfl) hb7)) rfl rfl (fun x7 => ?_)
      refine r_q (q_not rfl rfl) rfl rfl ?_
      refine r_nil ?_
      refine j_then ?_
      rcases of_if h with ⟨c3, h⟩ | ⟨c3, h⟩
      · refine j_false rfl (not_f c3) ?_
        refine j_skip ?_
        refine j_then ?_
        refine j_seq ?_
        refine j_region ?_
        refine r_q (q_assign rfl rfl) rfl rfl ?_
        refine r_nil ?_
        refine j_then ?_
        refine j_ret ?_
        cases h
        exact j_return rfl (ResOf.tmp rfl ResOf.nil) rfl (fun w h => ⟨(), rfl, (h.drop 3)⟩)
      · refine j_true rfl (not_t (var_f c3)) ?_
        refine j_seq ?_
        refine j_region ?_
        refine r_q (q_assign rfl rfl) rfl rfl ?_
        refine r_nil ?_
        refine j_then ?_
        refine j_ret ?_
        refine j_then_ret ?_
        cases h
        exact j_return rfl (ResOf.tmp rfl ResOf.nil) rfl (fun w h => ⟨(), rfl, (h.drop 3)⟩)
    · refine j_true rfl (not_t (beq_f c2)) ?_
      refine j_seq ?_
      refine j_region ?_
      refine r_q (q_assign rfl rfl) rfl rfl ?_
      refine r_nil ?_
      refine j_then ?_
      refine j_ret ?_
      refine j_then_ret ?_
      cases h
      exact j_return rfl (ResOf.tmp rfl ResOf.nil) rfl (fun w h => ⟨(), rfl, (h.drop 2)⟩)

end Go.Proofs.YtnfaiojmabolmaaDoor.F
