/- The program computes these pure functions, printed by the generator of wip/gen. -/
import Derived.Test.YtnfaiojmabolmaaDoorFa
import Derived.Test.YtnfaiojmabolmaaDoorFj
import Derived.Test.YtnfaiojmabolmaaDoorFl
import Derived.Test.YtnfaiojmabolmaaDoorFm
import Derived.Test.YtnfaiojmabolmaaDoorFb
import Derived.Test.YtnfaiojmabolmaaDoorDf
import Derived.Test.YtnfaiojmabolmaaDoorC0
namespace Go.Proofs.YtnfaiojmabolmaaDoor.F
open Go Go.RowKit Go.Proofs.YtnfaiojmabolmaaDoor.S
set_option linter.unusedVariables false
set_option maxRecDepth 100000
theorem spec_FormatOps.calls (K : Nat) (a0 : List (Int × Int × Int)) (a0_A : Option Addr) (a0_n a0_c : Nat) {w0 w : World} {F : List Res} {r1 : ByteArray} (hm : Mem w0 (F) w) (a0_h : a0.length = a0_n) (a0_R : Rd w0 F a0_A (trips a0)) (h : spec_FormatOps.f K a0 = some r1) :
    Calls Tryd.prog 20 (List.toArray [.slice a0_A a0_n a0_c]) w fun e w' => ∃ x : Unit, e = .returned (.string r1) ∧ Mem w0 (F) w' := by
  unfold spec_FormatOps.f at h
  refine calls_of_J (n := 34) Tryd.func20 rfl rfl rfl hm ?_
  refine j_seq ?_
  refine j_region ?_
  refine r_q (q_assign rfl rfl) rfl rfl ?_
  refine r_nil ?_
  refine j_then ?_
  refine j_seq ?_
  refine j_region ?_
  refine r_q (q_assign rfl rfl) rfl rfl ?_
  refine r_nil ?_
  refine j_then ?_
  refine j_seq ?_
  refine j_seq ?_
  refine j_region ?_
  refine r_q (q_assign rfl rfl) rfl rfl ?_
  refine r_nil ?_
  refine j_then ?_
  obtain ⟨κ0, h, hκ0⟩ := ex_k (g := fun κ => spec_FormatOps.loop0 K κ a0 K (⟨#[]⟩ : ByteArray) (0:Int) = some r1) h
  refine j_cut (σ := ByteArray) (fun s => [(3, (.string s))]) (fun s => F) (fun s => κ0 s = some r1) ?_ ?_
  · refine j_block ?_
    refine j_loop (σ := ByteArray × Int) (fun s => [(0, (.slice a0_A a0_n a0_c)), (3, (.string s.1)), (4, (i6 s.2))]) (fun s => F) (fun m s => spec_FormatOps.loop0 K κ0 a0 m s.1 s.2 = some r1) K ((⟨#[]⟩ : ByteArray), (0:Int)) h (fun a he => he.sub ⟨rfl, rfl, rfl, trivial⟩) (fun w h => h) ?_
    rintro m ⟨s2, p2⟩ h
    cases m with
    | zero => exact absurd h (by rw [spec_FormatOps.loop0]; exact nofun)
    | succ m =>
      rw [spec_FormatOps.loop0] at h
      show J _ _ [(0, (.slice a0_A a0_n a0_c)), (3, (.string s2)), (4, (i6 p2))] _ (F)
      refine j_seq ?_
      refine j_seq ?_
      refine j_region ?_
      refine r_q (q_move rfl rfl) rfl rfl ?_
      refine r_q (q_move rfl rfl) rfl rfl ?_
      refine r_q (q_lenX a0 a0_h un28 rfl rfl rfl rfl rfl) rfl rfl ?_
      refine r_q (q_lss rfl rfl rfl) rfl rfl ?_
      refine r_q (q_move rfl rfl) rfl rfl ?_
      rcases of_if h with ⟨c22, h⟩ | ⟨c22, h⟩
      · refine r_qon (q_move rfl rfl) rfl rfl rfl rfl (decide_eq_true c22) rfl ?_
        refine r_qon (q_lenX a0 a0_h un28 rfl rfl rfl rfl rfl) rfl rfl rfl rfl (decide_eq_true c22) rfl ?_
        refine r_qon (q_leq rfl rfl rfl) rfl rfl rfl rfl (decide_eq_true c22) rfl ?_
        refine r_q (q_pick_t rfl rfl (decide_eq_true c22) rfl) rfl rfl ?_
        refine r_nil ?_
        refine j_then ?_
        rcases of_if h with ⟨c23, h⟩ | ⟨c23, h⟩
        · refine j_true rfl (decide_eq_true c23) ?_
          refine j_skip ?_
          refine j_then ?_
          refine j_seq ?_
          refine j_block ?_
          refine j_seq ?_
          refine j_seq ?_
          refine j_region ?_
          refine r_q (q_move rfl rfl) rfl rfl ?_
          refine r_q (q_move rfl rfl) rfl rfl ?_
          obtain ⟨c24, h⟩ := of_guard h
          refine r_q (q_ix a0_R (trips_len a0) (by decide) a0_h c24 un28 sz25 rfl rfl rfl) rfl rfl ?_
          refine r_q (q_ldT a0_R c24 ag25 sz25 rfl rfl) rfl rfl ?_
          obtain ⟨v9, hb9, h⟩ := of_b1 h
          refine r_do (a_call ok10 rfl rfl rfl rfl (fun w hm => spec_FormatOp.calls K (rdt a0 p2).1 (rdt a0 p2).2.1 (rdt a0 p2).2.2 hm hb9)) rfl rfl (fun x1 => ?_)
          refine r_q (q_seql rfl rfl rfl) rfl rfl ?_
          refine r_nil ?_
          refine j_then ?_
          rcases of_if h with ⟨c25, h⟩ | ⟨c25, h⟩
          · refine j_true rfl (beq_t c25) ?_
            refine j_seq ?_
            refine j_region ?_
            refine r_q (q_assign rfl rfl) rfl rfl ?_
            refine r_nil ?_
            refine j_then ?_
            refine j_ret ?_
            refine j_then_ret ?_
            refine j_in_ret ?_
            refine j_then_ret ?_
            refine j_then_ret ?_
            refine j_in_ret ?_
            refine j_then_ret ?_
            refine j_then_ret ?_
            cases h
            exact j_return rfl (ResOf.tmp rfl ResOf.nil) rfl (fun w h => ⟨(), rfl, h⟩)
          · refine j_false rfl (beq_f c25) ?_
            refine j_skip ?_
            refine j_then ?_
            refine j_seq ?_
            refine j_seq ?_
            refine j_region ?_
            refine r_q (q_move rfl rfl) rfl rfl ?_
            refine r_q (q_gtr rfl rfl rfl) rfl rfl ?_
            refine r_nil ?_
            refine j_then ?_
            rcases of_if h with ⟨c26, h⟩ | ⟨c26, h⟩
            · refine j_true rfl (decide_eq_true c26) ?_
              refine j_region ?_
              refine r_q (q_move rfl rfl) rfl rfl ?_
              obtain ⟨c27, h⟩ := of_guard h
              refine r_q (q_sadd rfl rfl rfl c27) rfl rfl ?_
              refine r_q (q_assign rfl rfl) rfl rfl ?_
              refine r_nil ?_
              refine j_then ?_
              refine j_region ?_
              refine r_q (q_move rfl rfl) rfl rfl ?_
              refine r_q (q_move rfl rfl) rfl rfl ?_
              refine r_q (q_move rfl rfl) rfl rfl ?_
              refine r_q (q_ix a0_R (trips_len a0) (by decide) a0_h c24 un28 sz25 rfl rfl rfl) rfl rfl ?_
              refine r_q (q_ldT a0_R c24 ag25 sz25 rfl rfl) rfl rfl ?_
              obtain ⟨v10, hb10, h⟩ := of_b1 h
              refine r_do (a_call ok10 rfl rfl rfl rfl (fun w hm => spec_FormatOp.calls K (rdt a0 p2).1 (rdt a0 p2).2.1 (rdt a0 p2).2.2 hm hb10)) rfl rfl (fun x2 => ?_)
              obtain ⟨c28, h⟩ := of_guard h
              refine r_q (q_sadd rfl rfl rfl c28) rfl rfl ?_
              refine r_q (q_assign rfl rfl) rfl rfl ?_
              refine r_nil ?_
              refine j_in ?_
              refine j_then ?_
              refine j_region ?_
              refine r_q (q_move rfl rfl) rfl rfl ?_
              refine r_q (q_add rfl rfl rfl) rfl rfl ?_
              refine r_q (q_assign rfl rfl) rfl rfl ?_
              refine r_nil ?_
              refine j_then ?_
              exact j_again m (((s2 ++ (⟨#[44, 32]⟩ : ByteArray)) ++ v10), (wrap64 (p2 + (1:Int)))) (Nat.lt_succ_self m) h (fun a he => he.sub ⟨rfl, rfl, rfl, trivial⟩) (fun w h => h)
            · refine j_false rfl (decide_eq_false c26) ?_
              refine j_skip ?_
              refine j_then ?_
              refine j_region ?_
              refine r_q (q_move rfl rfl) rfl rfl ?_
              refine r_q (q_move rfl rfl) rfl rfl ?_
              refine r_q (q_move rfl rfl) rfl rfl ?_
              refine r_q (q_ix a0_R (trips_len a0) (by decide) a0_h c24 un28 sz25 rfl rfl rfl) rfl rfl ?_
              refine r_q (q_ldT a0_R c24 ag25 sz25 rfl rfl) rfl rfl ?_
              obtain ⟨v11, hb11, h⟩ := of_b1 h
              refine r_do (a_call ok10 rfl rfl rfl rfl (fun w hm => spec_FormatOp.calls K (rdt a0 p2).1 (rdt a0 p2).2.1 (rdt a0 p2).2.2 hm hb11)) rfl rfl (fun x2 => ?_)
              obtain ⟨c29, h⟩ := of_guard h
              refine r_q (q_sadd rfl rfl rfl c29) rfl rfl ?_
              refine r_q (q_assign rfl rfl) rfl rfl ?_
              refine r_nil ?_
              refine j_in ?_
              refine j_then ?_
              refine j_region ?_
              refine r_q (q_move rfl rfl) rfl rfl ?_
              refine r_q (q_add rfl rfl rfl) rfl rfl ?_
              refine r_q (q_assign rfl rfl) rfl rfl ?_
              refine r_nil ?_
              refine j_then ?_
              exact j_again m ((s2 ++ v11), (wrap64 (p2 + (1:Int)))) (Nat.lt_succ_self m) h (fun a he => he.sub ⟨rfl, rfl, rfl, trivial⟩) (fun w h => h)
        · refine j_false rfl (decide_eq_false c23) ?_
          refine j_exit ?_
          refine j_then_exit ?_
          refine j_then_exit ?_
          refine j_in_exit ?_
          refine j_then ?_
          exact j_meet s2 h (fun a he => he.sub ⟨rfl, trivial⟩) (fun w h => h)
      · refine r_off rfl rfl rfl rfl (decide_eq_false c22) rfl ?_
        refine r_off rfl rfl rfl rfl (decide_eq_false c22) rfl ?_
        refine r_off rfl rfl rfl rfl (decide_eq_false c22) rfl ?_
        refine r_q (q_pick_f rfl rfl (decide_eq_false c22) rfl) rfl rfl ?_
        refine r_nil ?_
        refine j_then ?_
        refine j_false rfl rfl ?_
        refine j_exit ?_
        refine j_then_exit ?_
        refine j_then_exit ?_
        refine j_in_exit ?_
        refine j_then ?_
        exact j_meet s2 h (fun a he => he.sub ⟨rfl, trivial⟩) (fun w h => h)
  · rintro s3 h
    subst hκ0
    show J _ _ [(3, (.string s3))] _ (F)
    refine j_then ?_
    refine j_seq ?_
    refine j_region ?_
    refine r_q (q_move rfl rfl) rfl rfl ?_
    refine r_q (q_assign rfl rfl) rfl rfl ?_
    refine r_nil ?_
    refine j_then ?_
    refine j_ret ?_
    cases h
    exact j_return rfl (ResOf.tmp rfl ResOf.nil) rfl (fun w h => ⟨(), rfl, h⟩)

theorem impl_opsOk.calls (K : Nat) (a0 : List (Int × Int × Int)) (a0_A : Option Addr) (a0_n a0_c : Nat) (a1 : Int) {w0 w : World} {F : List Res} {r1 : Bool} (hm : Mem w0 (F) w) (a0_h : a0.length = a0_n) (a0_R : Rd w0 F a0_A (trips a0)) (h : impl_opsOk.f K a0 a1 = some r1) :
    Calls Tryd.prog 42 (List.toArray [.slice a0_A a0_n a0_c, i6 a1]) w fun e w' => ∃ x : Unit, e = .returned (.bool r1) ∧ Mem w0 (F) w' := by
  unfold impl_opsOk.f at h
  refine calls_of_J (n := 21) Tryd.func42 rfl rfl rfl hm ?_
  refine j_seq ?_
  refine j_region ?_
  refine r_q (q_assign rfl rfl) rfl rfl ?_
  refine r_nil ?_
  refine j_then ?_
  refine j_seq ?_
  refine j_seq ?_
  refine j_region ?_
  refine r_q (q_move rfl rfl) rfl rfl ?_
  refine r_q (q_lenX a0 a0_h un28 rfl rfl rfl rfl rfl) rfl rfl ?_
  refine r_q (q_move rfl rfl) rfl rfl ?_
  refine r_nil ?_
  refine j_then ?_
  obtain ⟨κ0, h, hκ0⟩ := ex_k (g := fun κ => impl_opsOk.loop0 K κ a0 a1 K (0:Int) = some r1) h
  refine j_cut (σ := Unit) (fun s => [(0, (.slice a0_A a0_n a0_c))]) (fun s => F) (fun s => κ0 () = some r1) ?_ ?_
  · refine j_block ?_
    refine j_loop (σ := Int) (fun s => [(0, (.slice a0_A a0_n a0_c)), (1, (i6 a1)), (7, (.slice a0_A a0_n a0_c)), (8, (i6 (a0.length : Int))), (9, (i6 s))]) (fun s => F) (fun m s => impl_opsOk.loop0 K κ0 a0 a1 m s = some r1) K (0:Int) h (fun a he => he.sub ⟨rfl, rfl, rfl, rfl, rfl, trivial⟩) (fun w h => h) ?_
    rintro m p2 h
    cases m with
    | zero => exact absurd h (by rw [impl_opsOk.loop0]; exact nofun)
    | succ m =>
      rw [impl_opsOk.loop0] at h
      show J _ _ [(0, (.slice a0_A a0_n a0_c)), (1, (i6 a1)), (7, (.slice a0_A a0_n a0_c)), (8, (i6 (a0.length : Int))), (9, (i6 p2))] _ (F)
      refine j_seq ?_
      refine j_region ?_
      refine r_q (q_lss rfl rfl rfl) rfl rfl ?_
      refine r_nil ?_
      refine j_then ?_
      refine j_seq ?_
      rcases of_if h with ⟨c10, h⟩ | ⟨c10, h⟩
      · refine j_true rfl (decide_eq_true c10) ?_
        refine j_skip ?_
        refine j_then ?_
        refine j_seq ?_
        refine j_block ?_
        refine j_seq ?_
        refine j_region ?_
        obtain ⟨c11, h⟩ := of_guard h
        refine r_q (q_ix a0_R (trips_len a0) (by decide) a0_h c11 un28 sz25 rfl rfl rfl) rfl rfl ?_
        refine r_q (q_ldT a0_R c11 ag25 sz25 rfl rfl) rfl rfl ?_
        refine r_do (a_alloc zr25 rfl) rfl rfl (fun x1 => ?_)
        refine r_do (a_storeb 0 rfl sz25 rfl rfl rfl rfl (Nat.le_of_ble_eq_true rfl) rfl) rfl rfl (fun _ => ?_)
        refine j_b0 [(i6 (rdt a0 p2).1), (i6 (rdt a0 p2).2.1), (i6 (rdt a0 p2).2.2)] rfl ?_
        refine r_nil ?_
        refine j_then ?_
        refine j_seq ?_
        refine j_region ?_
        refine r_q (q_loadb_agg 0 rfl ag25 sz25 rfl rfl rfl rfl) rfl rfl ?_
        refine r_q (q_move rfl rfl) rfl rfl ?_
        obtain ⟨v4, hb4, h⟩ := of_b1 h
        refine r_do (a_call ok27 rfl rfl rfl rfl (fun w hm => impl_OpValid.calls K (rdt a0 p2).1 (rdt a0 p2).2.1 (rdt a0 p2).2.2 a1 hm hb4)) rfl rfl (fun x2 => ?_)
        refine r_q (q_not rfl rfl) rfl rfl ?_
        refine r_nil ?_
        refine j_then ?_
        rcases of_if h with ⟨c12, h⟩ | ⟨c12, h⟩
        · refine j_false rfl (not_f c12) ?_
          refine j_skip ?_
          refine j_in ?_
          refine j_then ?_
          refine j_region ?_
          refine r_q (q_add rfl rfl rfl) rfl rfl ?_
          refine r_q (q_move rfl rfl) rfl rfl ?_
          refine r_nil ?_
          refine j_then ?_
          exact j_again m (wrap64 (p2 + (1:Int))) (Nat.lt_succ_self m) h (fun a he => he.sub ⟨rfl, rfl, rfl, rfl, rfl, trivial⟩) (fun w h => h.tail)
        · refine j_true rfl (not_t (var_f c12)) ?_
          refine j_seq ?_
          refine j_region ?_
          refine r_q (q_assign rfl rfl) rfl rfl ?_
          refine r_nil ?_
          refine j_then ?_
          refine j_ret ?_
          refine j_in_ret ?_
          refine j_then_ret ?_
          refine j_then_ret ?_
          refine j_in_ret ?_
          refine j_then_ret ?_
          refine j_then_ret ?_
          cases h
          exact j_return rfl (ResOf.tmp rfl ResOf.nil) rfl (fun w h => ⟨(), rfl, h.tail⟩)
      · refine j_false rfl (decide_eq_false c10) ?_
        refine j_exit ?_
        refine j_then_exit ?_
        refine j_then_exit ?_
        refine j_in_exit ?_
        refine j_then ?_
        exact j_meet () h (fun a he => he.sub ⟨rfl, trivial⟩) (fun w h => h)
  · rintro _ h
    subst hκ0
    show J _ _ [(0, (.slice a0_A a0_n a0_c))] _ (F)
    refine j_then ?_
    refine j_seq ?_
    refine j_region ?_
    refine r_q (q_move rfl rfl) rfl rfl ?_
    refine r_q (q_lenX a0 a0_h un28 rfl rfl rfl rfl rfl) rfl rfl ?_
    refine r_q (q_leq rfl rfl rfl) rfl rfl ?_
    refine r_q (q_assign rfl rfl) rfl rfl ?_
    refine r_nil ?_
    refine j_then ?_
    refine j_ret ?_
    cases h
    exact j_return rfl (ResOf.tmp rfl ResOf.nil) rfl (fun w h => ⟨(), rfl, h⟩)

theorem strings_Join.calls (K : Nat) (a0 : List ByteArray) (a0_A : Option Addr) (a0_n a0_c : Nat) (a1 : ByteArray) {w0 w : World} {F : List Res} {r1 : ByteArray} (hm : Mem w0 (F) w) (a0_h : a0.length = a0_n) (a0_R : Rd w0 F a0_A (strs a0)) (a0_k : a0.length ≤ a0_c) (h : strings_Join.f K a0 a1 = some r1) :
    Calls Tryd.prog 43 (List.toArray [.slice a0_A a0_n a0_c, .string a1]) w fun e w' => ∃ x : Unit, e = .returned (.string r1) ∧ Mem w0 (F) w' := by
  unfold strings_Join.f at h
  obtain ⟨hc, h⟩ := of_guard h
  obtain rfl := Option.some.inj h
  exact D.join_calls hm a0_h a0_R hc.1 a0_k hc.2

theorem impl_FormatOps.calls (K : Nat) (a0 : List (Int × Int × Int)) (a0_A : Option Addr) (a0_n a0_c : Nat) {w0 w : World} {F : List Res} {r1 : ByteArray} (hm : Mem w0 (F) w) (a0_h : a0.length = a0_n) (a0_R : Rd w0 F a0_A (trips a0)) (gT : Rd w0 F (gA 0) (strs opTab)) (h : impl_FormatOps.f K a0 = some r1) :
    Calls Tryd.prog 19 (List.toArray [.slice a0_A a0_n a0_c]) w fun e w' => ∃ x : Unit, e = .returned (.string r1) ∧ Mem w0 (F) w' := by
  unfold impl_FormatOps.f at h
  refine calls_of_J (n := 24) Tryd.func19 rfl rfl rfl hm ?_
  refine j_seq ?_
  refine j_region ?_
  refine r_q (q_assign rfl rfl) rfl rfl ?_
  refine r_nil ?_
  refine j_then ?_
  refine j_seq ?_
  refine j_seq ?_
  refine j_region ?_
  refine r_q (q_move rfl rfl) rfl rfl ?_
  obtain ⟨v1, hb1, h⟩ := of_b1 h
  refine r_do (a_call ok42 rfl rfl rfl rfl (fun w hm => impl_opsOk.calls K a0 a0_A a0_n a0_c (3:Int) hm a0_h a0_R hb1)) rfl rfl (fun x1 => ?_)
  refine r_q (q_not rfl rfl) rfl rfl ?_
  refine r_nil ?_
  refine j_then ?_
  rcases of_if h with ⟨c1, h⟩ | ⟨c1, h⟩
  · refine j_false rfl (not_f c1) ?_
    refine j_skip ?_
    refine j_then ?_
    refine j_seq ?_
    refine j_region ?_
    refine r_do (a_litX (vs := []) (strs ([] : List ByteArray)) un52 sz9 zr9 rfl rfl rfl rfl rfl rfl rfl rfl rfl) rfl rfl (fun x2 => ?_)
    refine r_q (q_assign rfl rfl) rfl rfl ?_
    refine r_nil ?_
    refine j_then ?_
    refine j_seq ?_
    refine j_seq ?_
    refine j_region ?_
    refine r_q (q_move rfl rfl) rfl rfl ?_
    refine r_q (q_lenX a0 a0_h un28 rfl rfl rfl rfl rfl) rfl rfl ?_
    refine r_q (q_move rfl rfl) rfl rfl ?_
    refine r_nil ?_
    refine j_then ?_
    obtain ⟨κ0, h, hκ0⟩ := ex_k (g := fun κ => impl_FormatOps.loop0 K κ a0 K ([] : List ByteArray) (0:Int) = some r1) h
    refine j_cut (σ := (Option Addr) × Nat × Nat × (List ByteArray)) (fun s => [(3, (.slice s.1 s.2.1 s.2.2.1))]) (fun s => .row s.1 s.2.2.1 9 1 (strs s.2.2.2) :: F) (fun s => κ0 s.2.2.2 = some r1 ∧ (s.2.2.2.length = s.2.1)) ?_ ?_
    · refine j_block ?_
      refine j_loop (σ := (Option Addr) × Nat × Nat × (List ByteArray) × Int) (fun s => [(3, (.slice s.1 s.2.1 s.2.2.1)), (10, (.slice a0_A a0_n a0_c)), (11, (i6 (a0.length : Int))), (12, (i6 s.2.2.2.2))]) (fun s => .row s.1 s.2.2.1 9 1 (strs s.2.2.2.1) :: F) (fun m s => impl_FormatOps.loop0 K κ0 a0 m s.2.2.2.1 s.2.2.2.2 = some r1 ∧ (s.2.2.2.1.length = s.2.1)) K (x2, 0, 0, ([] : List ByteArray), (0:Int)) ⟨h, rfl⟩ (fun a he => he.sub ⟨rfl, rfl, rfl, rfl, trivial⟩) (fun w h => h) ?_
      rintro m ⟨A2, n2, d2, l2, p2⟩ ⟨h, q2⟩
      cases m with
      | zero => exact absurd h (by rw [impl_FormatOps.loop0]; exact nofun)
      | succ m =>
        rw [impl_FormatOps.loop0] at h
        show J _ _ [(3, (.slice A2 n2 d2)), (10, (.slice a0_A a0_n a0_c)), (11, (i6 (a0.length : Int))), (12, (i6 p2))] _ (.row A2 d2 9 1 (strs l2) :: F)
        refine j_seq ?_
        refine j_region ?_
        refine r_q (q_lss rfl rfl rfl) rfl rfl ?_
        refine r_nil ?_
        refine j_then ?_
        refine j_seq ?_
        rcases of_if h with ⟨c11, h⟩ | ⟨c11, h⟩
        · refine j_true rfl (decide_eq_true c11) ?_
          refine j_skip ?_
          refine j_then ?_
          refine j_seq ?_
          refine j_block ?_
          refine j_seq ?_
          refine j_region ?_
          obtain ⟨c12, h⟩ := of_guard h
          refine r_q (q_ix (Rd.drop 1 a0_R) (trips_len a0) (by decide) a0_h c12 un28 sz25 rfl rfl rfl) rfl rfl ?_
          refine r_q (q_ldT (Rd.drop 1 a0_R) c12 ag25 sz25 rfl rfl) rfl rfl ?_
          refine r_do (a_alloc zr25 rfl) rfl rfl (fun x3 => ?_)
          refine r_do (a_storeb 0 rfl sz25 rfl rfl rfl rfl (Nat.le_of_ble_eq_true rfl) rfl) rfl rfl (fun _ => ?_)
          refine j_b0 [(i6 (rdt a0 p2).1), (i6 (rdt a0 p2).2.1), (i6 (rdt a0 p2).2.2)] rfl ?_
          refine r_nil ?_
          refine j_then ?_
          refine j_region ?_
          refine r_q (q_move rfl rfl) rfl rfl ?_
          refine r_q (q_loadb_agg 0 rfl ag25 sz25 rfl rfl rfl rfl) rfl rfl ?_
          obtain ⟨v5, hb5, h⟩ := of_b1 h
          refine r_do (a_call ok12 rfl rfl rfl rfl (fun w hm => impl_FormatOp.calls K (rdt a0 p2).1 (rdt a0 p2).2.1 (rdt a0 p2).2.2 hm (Rd.drop 2 gT) hb5)) rfl rfl (fun x4 => ?_)
          refine r_do (a_litX (vs := [(.string v5)]) (strs ([v5] : List ByteArray)) un52 sz9 zr9 rfl rfl rfl rfl rfl rfl rfl rfl rfl) rfl rfl (fun x5 => ?_)
          obtain ⟨c13, h⟩ := of_guard h
          refine r_do (a_appS (xs := l2) (ys := ([v5] : List ByteArray)) 2 un52 un52 sz9 by9 zr9 rfl rfl rfl rfl rfl rfl rfl rfl rfl q2 rfl (Rd.row 0 rfl) c13) rfl rfl (fun x6 => ?_)
          refine j_s2 ?_
          refine r_q (q_assign rfl rfl) rfl rfl ?_
          refine r_nil ?_
          refine j_in ?_
          refine j_then ?_
          refine j_region ?_
          refine r_q (q_add rfl rfl rfl) rfl rfl ?_
          refine r_q (q_move rfl rfl) rfl rfl ?_
          refine r_nil ?_
          refine j_then ?_
          exact j_again m (x6.1, (n2 + 1), x6.2, (l2 ++ ([v5] : List ByteArray)), (wrap64 (p2 + (1:Int)))) (Nat.lt_succ_self m) ⟨h, (app_len q2 rfl)⟩ (fun a he => he.sub ⟨rfl, rfl, rfl, rfl, trivial⟩) (fun w h => (h.drop 2))
        · refine j_false rfl (decide_eq_false c11) ?_
          refine j_exit ?_
          refine j_then_exit ?_
          refine j_then_exit ?_
          refine j_in_exit ?_
          refine j_then ?_
          exact j_meet (A2, n2, d2, l2) ⟨h, q2⟩ (fun a he => he.sub ⟨rfl, trivial⟩) (fun w h => h)
    · rintro ⟨A3, n3, d3, l3⟩ ⟨h, q3⟩
      subst hκ0
      show J _ _ [(3, (.slice A3 n3 d3))] _ (.row A3 d3 9 1 (strs l3) :: F)
      refine j_then ?_
      refine j_seq ?_
      refine j_region ?_
      refine r_q (q_move rfl rfl) rfl rfl ?_
      obtain ⟨v6, hb6, h⟩ := of_b1 h
      refine r_do (a_call ok43 rfl rfl rfl rfl (fun w hm => strings_Join.calls K l3 A3 n3 d3 (⟨#[44, 32]⟩ : ByteArray) hm q3 (Rd.row 0 rfl) (hm.roomS 0 rfl) hb6)) rfl rfl (fun x7 => ?_)
      refine r_q (q_assign rfl rfl) rfl rfl ?_
      refine r_nil ?_
      refine j_then ?_
      refine j_ret ?_
      cases h
      exact j_return rfl (ResOf.tmp rfl ResOf.nil) rfl (fun w h => ⟨(), rfl, h.tail⟩)
  · refine j_true rfl (not_t (var_f c1)) ?_
    refine j_seq ?_
    refine j_region ?_
    refine r_q (q_assign rfl rfl) rfl rfl ?_
    refine r_nil ?_
    refine j_then ?_
    refine j_ret ?_
    refine j_then_ret ?_
    cases h
    exact j_return rfl (ResOf.tmp rfl ResOf.nil) rfl (fun w h => ⟨(), rfl, h⟩)

end Go.Proofs.YtnfaiojmabolmaaDoor.F
