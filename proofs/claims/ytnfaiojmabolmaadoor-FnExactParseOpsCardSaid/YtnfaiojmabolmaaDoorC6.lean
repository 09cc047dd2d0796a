/- The program computes these pure functions, printed by the generator of wip/gen. -/
import Derived.Test.YtnfaiojmabolmaaDoorFa
import Derived.Test.YtnfaiojmabolmaaDoorFj
import Derived.Test.YtnfaiojmabolmaaDoorFl
import Derived.Test.YtnfaiojmabolmaaDoorFm
import Derived.Test.YtnfaiojmabolmaaDoorFb
import Derived.Test.YtnfaiojmabolmaaDoorC0
import Derived.Test.YtnfaiojmabolmaaDoorC2
import Derived.Test.YtnfaiojmabolmaaDoorC3
namespace Go.Proofs.YtnfaiojmabolmaaDoor.F
open Go Go.RowKit Go.Proofs.YtnfaiojmabolmaaDoor.S
set_option linter.unusedVariables false
set_option maxRecDepth 100000
theorem laws_markOpS.calls (K : Nat) (a0 : List (Int × Int × Int)) (a0_A : Option Addr) (a0_n a0_c : Nat) (a1 : Int) {w0 w : World} {F : List Res} {r1 : Int} {r2 : List (Int × Int × Int)} (hm : Mem w0 (.row a0_A a0_c 25 3 (trips a0) :: F) w) (a0_h : a0.length = a0_n) (h : laws_markOpS.f K a0 a1 = some (r1, r2)) :
    Calls Tryd.prog 16 (List.toArray [.slice a0_A a0_n a0_c, i6 a1]) w fun e w' => ∃ x : (Ln r2.length a0.length), e = .returned (i6 r1) ∧ Mem w0 (.row a0_A a0_c 25 3 (trips r2) :: F) w' := by
  unfold laws_markOpS.f at h
  refine calls_of_J (n := 34) Tryd.func16 rfl rfl rfl hm ?_
  refine j_seq ?_
  refine j_region ?_
  refine r_q (q_assign rfl rfl) rfl rfl ?_
  refine r_nil ?_
  refine j_then ?_
  refine j_seq ?_
  refine j_seq ?_
  refine j_region ?_
  refine r_q (q_assign rfl rfl) rfl rfl ?_
  refine r_nil ?_
  refine j_then ?_
  obtain ⟨κ0, h, hκ0⟩ := ex_k (g := fun κ => laws_markOpS.loop0 K κ K a1 (0:Int) a0 = some (r1, r2)) h
  refine j_cut (σ := Int × (List (Int × Int × Int))) (fun s => [(1, (i6 s.1))]) (fun s => .row a0_A a0_c 25 3 (trips s.2) :: F) (fun s => κ0 s.1 s.2 = some (r1, r2) ∧ (s.2.length = a0_n)) ?_ ?_
  · refine j_block ?_
    refine j_loop (σ := Int × Int × (List (Int × Int × Int))) (fun s => [(0, (.slice a0_A a0_n a0_c)), (1, (i6 s.1)), (5, (i6 s.2.1))]) (fun s => .row a0_A a0_c 25 3 (trips s.2.2) :: F) (fun m s => laws_markOpS.loop0 K κ0 m s.1 s.2.1 s.2.2 = some (r1, r2) ∧ (s.2.2.length = a0_n)) K (a1, (0:Int), a0) ⟨h, a0_h⟩ (fun a he => he.sub ⟨rfl, rfl, rfl, trivial⟩) (fun w h => h) ?_
    rintro m ⟨p3, p4, l2⟩ ⟨h, q2⟩
    cases m with
    | zero => exact absurd h (by rw [laws_markOpS.loop0]; exact nofun)
    | succ m =>
      rw [laws_markOpS.loop0] at h
      show J _ _ [(0, (.slice a0_A a0_n a0_c)), (1, (i6 p3)), (5, (i6 p4))] _ (.row a0_A a0_c 25 3 (trips l2) :: F)
      refine j_seq ?_
      refine j_seq ?_
      refine j_region ?_
      refine r_q (q_move rfl rfl) rfl rfl ?_
      refine r_q (q_move rfl rfl) rfl rfl ?_
      refine r_q (q_lenX l2 q2 un28 rfl rfl rfl rfl rfl) rfl rfl ?_
      refine r_q (q_lss rfl rfl rfl) rfl rfl ?_
      refine r_nil ?_
      refine j_then ?_
      rcases of_if h with ⟨c13, h⟩ | ⟨c13, h⟩
      · refine j_true rfl (decide_eq_true c13) ?_
        refine j_skip ?_
        refine j_then ?_
        refine j_seq ?_
        refine j_block ?_
        refine j_seq ?_
        refine j_region ?_
        refine r_q (q_move rfl rfl) rfl rfl ?_
        refine r_q (q_move rfl rfl) rfl rfl ?_
        refine r_q (q_move rfl rfl) rfl rfl ?_
        obtain ⟨c14, h⟩ := of_guard h
        refine r_q (q_ix (Rd.row 0 rfl) (trips_len l2) (by decide) q2 c14 un28 sz25 rfl rfl rfl) rfl rfl ?_
        refine r_q (q_fieldAddrR (Rd.row 0 rfl) (pos_of (trips_len l2) (by decide) c14) fi25_0 sz3 rfl rfl) rfl rfl ?_
        refine r_do (a_stTf (xs' := l2.set p4.toNat (p3, (rdt l2 p4).2.1, (rdt l2 p4).2.2)) 0 0 rfl c14 (by decide) sz3 rfl rfl rfl rfl) rfl rfl (fun _ => ?_)
        refine j_s0 ?_
        refine r_nil ?_
        refine j_then ?_
        refine j_seq ?_
        refine j_region ?_
        refine r_q (q_move rfl rfl) rfl rfl ?_
        refine r_q (q_add rfl rfl rfl) rfl rfl ?_
        refine r_q (q_assign rfl rfl) rfl rfl ?_
        refine r_nil ?_
        refine j_then ?_
        refine j_seq ?_
        refine j_region ?_
        refine r_q (q_move rfl rfl) rfl rfl ?_
        refine r_q (q_move rfl rfl) rfl rfl ?_
        refine r_q (q_move rfl rfl) rfl rfl ?_
        obtain ⟨c15, h⟩ := of_guard h
        refine r_q (q_ix (Rd.row 0 rfl) (trips_len (l2.set p4.toNat (p3, (rdt l2 p4).2.1, (rdt l2 p4).2.2))) (by decide) (set_len q2 _ _) c15 un28 sz25 rfl rfl rfl) rfl rfl ?_
        refine r_q (q_fieldAddrR (Rd.row 0 rfl) (pos_of (trips_len (l2.set p4.toNat (p3, (rdt l2 p4).2.1, (rdt l2 p4).2.2))) (by decide) c15) fi25_1 sz3 rfl rfl) rfl rfl ?_
        refine r_do (a_stTf (xs' := (l2.set p4.toNat (p3, (rdt l2 p4).2.1, (rdt l2 p4).2.2)).set p4.toNat ((rdt (l2.set p4.toNat (p3, (rdt l2 p4).2.1, (rdt l2 p4).2.2)) p4).1, (wrap64 (p3 + (1:Int))), (rdt (l2.set p4.toNat (p3, (rdt l2 p4).2.1, (rdt l2 p4).2.2)) p4).2.2)) 0 1 rfl c15 (by decide) sz3 rfl rfl rfl rfl) rfl rfl (fun _ => ?_)
        refine j_s0 ?_
        refine r_nil ?_
        refine j_then ?_
        refine j_seq ?_
        refine j_region ?_
        refine r_q (q_move rfl rfl) rfl rfl ?_
        refine r_q (q_add rfl rfl rfl) rfl rfl ?_
        refine r_q (q_assign rfl rfl) rfl rfl ?_
        refine r_nil ?_
        refine j_then ?_
        refine j_seq ?_
        refine j_region ?_
        refine r_q (q_move rfl rfl) rfl rfl ?_
        refine r_q (q_move rfl rfl) rfl rfl ?_
        refine r_q (q_move rfl rfl) rfl rfl ?_
        obtain ⟨c16, h⟩ := of_guard h
        refine r_q (q_ix (Rd.row 0 rfl) (trips_len ((l2.set p4.toNat (p3, (rdt l2 p4).2.1, (rdt l2 p4).2.2)).set p4.toNat ((rdt (l2.set p4.toNat (p3, (rdt l2 p4).2.1, (rdt l2 p4).2.2)) p4).1, (wrap64 (p3 + (1:Int))), (rdt (l2.set p4.toNat (p3, (rdt l2 p4).2.1, (rdt l2 p4).2.2)) p4).2.2))) (by decide) (set_len (set_len q2 _ _) _ _) c16 un28 sz25 rfl rfl rfl) rfl rfl ?_
        refine r_q (q_fieldAddrR (Rd.row 0 rfl) (pos_of (trips_len ((l2.set p4.toNat (p3, (rdt l2 p4).2.1, (rdt l2 p4).2.2)).set p4.toNat ((rdt (l2.set p4.toNat (p3, (rdt l2 p4).2.1, (rdt l2 p4).2.2)) p4).1, (wrap64 (p3 + (1:Int))), (rdt (l2.set p4.toNat (p3, (rdt l2 p4).2.1, (rdt l2 p4).2.2)) p4).2.2))) (by decide) c16) fi25_2 sz3 rfl rfl) rfl rfl ?_
        refine r_do (a_stTf (xs' := ((l2.set p4.toNat (p3, (rdt l2 p4).2.1, (rdt l2 p4).2.2)).set p4.toNat ((rdt (l2.set p4.toNat (p3, (rdt l2 p4).2.1, (rdt l2 p4).2.2)) p4).1, (wrap64 (p3 + (1:Int))), (rdt (l2.set p4.toNat (p3, (rdt l2 p4).2.1, (rdt l2 p4).2.2)) p4).2.2)).set p4.toNat ((rdt ((l2.set p4.toNat (p3, (rdt l2 p4).2.1, (rdt l2 p4).2.2)).set p4.toNat ((rdt (l2.set p4.toNat (p3, (rdt l2 p4).2.1, (rdt l2 p4).2.2)) p4).1, (wrap64 (p3 + (1:Int))), (rdt (l2.set p4.toNat (p3, (rdt l2 p4).2.1, (rdt l2 p4).2.2)) p4).2.2)) p4).1, (rdt ((l2.set p4.toNat (p3, (rdt l2 p4).2.1, (rdt l2 p4).2.2)).set p4.toNat ((rdt (l2.set p4.toNat (p3, (rdt l2 p4).2.1, (rdt l2 p4).2.2)) p4).1, (wrap64 (p3 + (1:Int))), (rdt (l2.set p4.toNat (p3, (rdt l2 p4).2.1, (rdt l2 p4).2.2)) p4).2.2)) p4).2.1, (wrap64 ((wrap64 (p3 + (1:Int))) + (1:Int))))) 0 2 rfl c16 (by decide) sz3 rfl rfl rfl rfl) rfl rfl (fun _ => ?_)
        refine j_s0 ?_
        refine r_nil ?_
        refine j_then ?_
        refine j_region ?_
        refine r_q (q_move rfl rfl) rfl rfl ?_
        refine r_q (q_add rfl rfl rfl) rfl rfl ?_
        refine r_q (q_assign rfl rfl) rfl rfl ?_
        refine r_nil ?_
        refine j_in ?_
        refine j_then ?_
        refine j_region ?_
        refine r_q (q_move rfl rfl) rfl rfl ?_
        refine r_q (q_add rfl rfl rfl) rfl rfl ?_
        refine r_q (q_assign rfl rfl) rfl rfl ?_
        refine r_nil ?_
        refine j_then ?_
        exact j_again m ((wrap64 ((wrap64 ((wrap64 (p3 + (1:Int))) + (1:Int))) + (1:Int))), (wrap64 (p4 + (1:Int))), (((l2.set p4.toNat (p3, (rdt l2 p4).2.1, (rdt l2 p4).2.2)).set p4.toNat ((rdt (l2.set p4.toNat (p3, (rdt l2 p4).2.1, (rdt l2 p4).2.2)) p4).1, (wrap64 (p3 + (1:Int))), (rdt (l2.set p4.toNat (p3, (rdt l2 p4).2.1, (rdt l2 p4).2.2)) p4).2.2)).set p4.toNat ((rdt ((l2.set p4.toNat (p3, (rdt l2 p4).2.1, (rdt l2 p4).2.2)).set p4.toNat ((rdt (l2.set p4.toNat (p3, (rdt l2 p4).2.1, (rdt l2 p4).2.2)) p4).1, (wrap64 (p3 + (1:Int))), (rdt (l2.set p4.toNat (p3, (rdt l2 p4).2.1, (rdt l2 p4).2.2)) p4).2.2)) p4).1, (rdt ((l2.set p4.toNat (p3, (rdt l2 p4).2.1, (rdt l2 p4).2.2)).set p4.toNat ((rdt (l2.set p4.toNat (p3, (rdt l2 p4).2.1, (rdt l2 p4).2.2)) p4).1, (wrap64 (p3 + (1:Int))), (rdt (l2.set p4.toNat (p3, (rdt l2 p4).2.1, (rdt l2 p4).2.2)) p4).2.2)) p4).2.1, (wrap64 ((wrap64 (p3 + (1:Int))) + (1:Int)))))) (Nat.lt_succ_self m) ⟨h, (set_len (set_len (set_len q2 _ _) _ _) _ _)⟩ (fun a he => he.sub ⟨rfl, rfl, rfl, trivial⟩) (fun w h => h)
      · refine j_false rfl (decide_eq_false c13) ?_
        refine j_exit ?_
        refine j_then_exit ?_
        refine j_then_exit ?_
        refine j_in_exit ?_
        refine j_then ?_
        exact j_meet (p3, l2) ⟨h, q2⟩ (fun a he => he.sub ⟨rfl, trivial⟩) (fun w h => h)
  · rintro ⟨p5, l3⟩ ⟨h, q3⟩
    subst hκ0
    show J _ _ [(1, (i6 p5))] _ (.row a0_A a0_c 25 3 (trips l3) :: F)
    refine j_then ?_
    refine j_seq ?_
    refine j_region ?_
    refine r_q (q_move rfl rfl) rfl rfl ?_
    refine r_q (q_assign rfl rfl) rfl rfl ?_
    refine r_nil ?_
    refine j_then ?_
    refine j_ret ?_
    cases h
    exact j_return rfl (ResOf.tmp rfl ResOf.nil) rfl (fun w h => ⟨⟨Eq.trans q3 a0_h.symm⟩, rfl, h⟩)

theorem laws_heldOpS.calls (K : Nat) (a0 : List (Int × Int × Int)) (a0_A : Option Addr) (a0_n a0_c : Nat) (a1 : Int) {w0 w : World} {F : List Res} {r1 : Int} (hm : Mem w0 (F) w) (a0_h : a0.length = a0_n) (a0_R : Rd w0 F a0_A (trips a0)) (h : laws_heldOpS.f K a0 a1 = some r1) :
    Calls Tryd.prog 17 (List.toArray [.slice a0_A a0_n a0_c, i6 a1]) w fun e w' => ∃ x : Unit, e = .returned (i6 r1) ∧ Mem w0 (F) w' := by
  unfold laws_heldOpS.f at h
  refine calls_of_J (n := 40) Tryd.func17 rfl rfl rfl hm ?_
  refine j_seq ?_
  refine j_region ?_
  refine r_q (q_assign rfl rfl) rfl rfl ?_
  refine r_nil ?_
  refine j_then ?_
  refine j_seq ?_
  refine j_seq ?_
  refine j_region ?_
  refine r_q (q_assign rfl rfl) rfl rfl ?_
  refine r_nil ?_
  refine j_then ?_
  obtain ⟨κ0, h, hκ0⟩ := ex_k (g := fun κ => laws_heldOpS.loop0 K κ a0 K a1 (0:Int) = some r1) h
  refine j_cut (σ := Int) (fun s => [(1, (i6 s))]) (fun s => F) (fun s => κ0 s = some r1) ?_ ?_
  · refine j_block ?_
    refine j_loop (σ := Int × Int) (fun s => [(0, (.slice a0_A a0_n a0_c)), (1, (i6 s.1)), (5, (i6 s.2))]) (fun s => F) (fun m s => laws_heldOpS.loop0 K κ0 a0 m s.1 s.2 = some r1) K (a1, (0:Int)) h (fun a he => he.sub ⟨rfl, rfl, rfl, trivial⟩) (fun w h => h) ?_
    rintro m ⟨p3, p4⟩ h
    cases m with
    | zero => exact absurd h (by rw [laws_heldOpS.loop0]; exact nofun)
    | succ m =>
      rw [laws_heldOpS.loop0] at h
      show J _ _ [(0, (.slice a0_A a0_n a0_c)), (1, (i6 p3)), (5, (i6 p4))] _ (F)
      refine j_seq ?_
      refine j_seq ?_
      refine j_region ?_
      refine r_q (q_move rfl rfl) rfl rfl ?_
      refine r_q (q_move rfl rfl) rfl rfl ?_
      refine r_q (q_lenX a0 a0_h un28 rfl rfl rfl rfl rfl) rfl rfl ?_
      refine r_q (q_lss rfl rfl rfl) rfl rfl ?_
      refine r_nil ?_
      refine j_then ?_
      rcases of_if h with ⟨c16, h⟩ | ⟨c16, h⟩
      · refine j_true rfl (decide_eq_true c16) ?_
        refine j_skip ?_
        refine j_then ?_
        refine j_seq ?_
        refine j_block ?_
        refine j_seq ?_
        refine j_seq ?_
        refine j_region ?_
        refine r_q (q_move rfl rfl) rfl rfl ?_
        refine r_q (q_move rfl rfl) rfl rfl ?_
        obtain ⟨c17, h⟩ := of_guard h
        refine r_q (q_ix a0_R (trips_len a0) (by decide) a0_h c17 un28 sz25 rfl rfl rfl) rfl rfl ?_
        refine r_q (q_fieldAddrR a0_R (pos_of (trips_len a0) (by decide) c17) fi25_0 sz3 rfl rfl) rfl rfl ?_
        refine r_q (q_ldTf 0 a0_R c17 ag3 (by decide) rfl rfl rfl) rfl rfl ?_
        refine r_q (q_move rfl rfl) rfl rfl ?_
        refine r_q (q_neq rfl rfl rfl) rfl rfl ?_
        refine r_nil ?_
        refine j_then ?_
        rcases of_if h with ⟨c18, h⟩ | ⟨c18, h⟩
        · refine j_false rfl (bne_f c18) ?_
          refine j_skip ?_
          refine j_then ?_
          refine j_seq ?_
          refine j_region ?_
          refine r_q (q_move rfl rfl) rfl rfl ?_
          refine r_q (q_add rfl rfl rfl) rfl rfl ?_
          refine r_q (q_assign rfl rfl) rfl rfl ?_
          refine r_nil ?_
          refine j_then ?_
          refine j_seq ?_
          refine j_seq ?_
          refine j_region ?_
          refine r_q (q_move rfl rfl) rfl rfl ?_
          refine r_q (q_move rfl rfl) rfl rfl ?_
          refine r_q (q_ix a0_R (trips_len a0) (by decide) a0_h c17 un28 sz25 rfl rfl rfl) rfl rfl ?_
          refine r_q (q_fieldAddrR a0_R (pos_of (trips_len a0) (by decide) c17) fi25_1 sz3 rfl rfl) rfl rfl ?_
          refine r_q (q_ldTf 1 a0_R c17 ag3 (by decide) rfl rfl rfl) rfl rfl ?_
          refine r_q (q_move rfl rfl) rfl rfl ?_
          refine r_q (q_neq rfl rfl rfl) rfl rfl ?_
          refine r_nil ?_
          refine j_then ?_
          rcases of_if h with ⟨c19, h⟩ | ⟨c19, h⟩
          · refine j_false rfl (bne_f c19) ?_
            refine j_skip ?_
            refine j_then ?_
            refine j_seq ?_
            refine j_region ?_
            refine r_q (q_move rfl rfl) rfl rfl ?_
            refine r_q (q_add rfl rfl rfl) rfl rfl ?_
            refine r_q (q_assign rfl rfl) rfl rfl ?_
            refine r_nil ?_
            refine j_then ?_
            refine j_seq ?_
            refine j_seq ?_
            refine j_region ?_
            refine r_q (q_move rfl rfl) rfl rfl ?_
            refine r_q (q_move rfl rfl) rfl rfl ?_
            refine r_q (q_ix a0_R (trips_len a0) (by decide) a0_h c17 un28 sz25 rfl rfl rfl) rfl rfl ?_
            refine r_q (q_fieldAddrR a0_R (pos_of (trips_len a0) (by decide) c17) fi25_2 sz3 rfl rfl) rfl rfl ?_
            refine r_q (q_ldTf 2 a0_R c17 ag3 (by decide) rfl rfl rfl) rfl rfl ?_
            refine r_q (q_move rfl rfl) rfl rfl ?_
            refine r_q (q_neq rfl rfl rfl) rfl rfl ?_
            refine r_nil ?_
            refine j_then ?_
            rcases of_if h with ⟨c20, h⟩ | ⟨c20, h⟩
            · refine j_false rfl (bne_f c20) ?_
              refine j_skip ?_
              refine j_then ?_
              refine j_region ?_
              refine r_q (q_move rfl rfl) rfl rfl ?_
              refine r_q (q_add rfl rfl rfl) rfl rfl ?_
              refine r_q (q_assign rfl rfl) rfl rfl ?_
              refine r_nil ?_
              refine j_in ?_
              refine j_then ?_
              refine j_region ?_
              refine r_q (q_move rfl rfl) rfl rfl ?_
              refine r_q (q_add rfl rfl rfl) rfl rfl ?_
              refine r_q (q_assign rfl rfl) rfl rfl ?_
              refine r_nil ?_
              refine j_then ?_
              exact j_again m ((wrap64 ((wrap64 ((wrap64 (p3 + (1:Int))) + (1:Int))) + (1:Int))), (wrap64 (p4 + (1:Int)))) (Nat.lt_succ_self m) h (fun a he => he.sub ⟨rfl, rfl, rfl, trivial⟩) (fun w h => h)
            · refine j_true rfl (bne_t c20) ?_
              refine j_seq ?_
              refine j_region ?_
              refine r_q (q_assign rfl rfl) rfl rfl ?_
              refine r_nil ?_
              refine j_then ?_
              refine j_ret ?_
              refine j_then_ret ?_
              refine j_in_ret ?_
              refine j_then_ret ?_
              refine j_then_ret ?_
              refine j_in_ret ?_
              refine j_then_ret ?_
              refine j_then_ret ?_
              cases h
              exact j_return rfl (ResOf.tmp rfl ResOf.nil) rfl (fun w h => ⟨(), rfl, h⟩)
          · refine j_true rfl (bne_t c19) ?_
            refine j_seq ?_
            refine j_region ?_
            refine r_q (q_assign rfl rfl) rfl rfl ?_
            refine r_nil ?_
            refine j_then ?_
            refine j_ret ?_
            refine j_then_ret ?_
            refine j_in_ret ?_
            refine j_then_ret ?_
            refine j_then_ret ?_
            refine j_in_ret ?_
            refine j_then_ret ?_
            refine j_then_ret ?_
            cases h
            exact j_return rfl (ResOf.tmp rfl ResOf.nil) rfl (fun w h => ⟨(), rfl, h⟩)
        · refine j_true rfl (bne_t c18) ?_
          refine j_seq ?_
          refine j_region ?_
          refine r_q (q_assign rfl rfl) rfl rfl ?_
          refine r_nil ?_
          refine j_then ?_
          refine j_ret ?_
          refine j_then_ret ?_
          refine j_in_ret ?_
          refine j_then_ret ?_
          refine j_then_ret ?_
          refine j_in_ret ?_
          refine j_then_ret ?_
          refine j_then_ret ?_
          cases h
          exact j_return rfl (ResOf.tmp rfl ResOf.nil) rfl (fun w h => ⟨(), rfl, h⟩)
      · refine j_false rfl (decide_eq_false c16) ?_
        refine j_exit ?_
        refine j_then_exit ?_
        refine j_then_exit ?_
        refine j_in_exit ?_
        refine j_then ?_
        exact j_meet p3 h (fun a he => he.sub ⟨rfl, trivial⟩) (fun w h => h)
  · rintro p5 h
    subst hκ0
    show J _ _ [(1, (i6 p5))] _ (F)
    refine j_then ?_
    refine j_seq ?_
    refine j_region ?_
    refine r_q (q_move rfl rfl) rfl rfl ?_
    refine r_q (q_assign rfl rfl) rfl rfl ?_
    refine r_nil ?_
    refine j_then ?_
    refine j_ret ?_
    cases h
    exact j_return rfl (ResOf.tmp rfl ResOf.nil) rfl (fun w h => ⟨(), rfl, h⟩)

theorem laws_FnExactParseOps.calls (K : Nat) (a0 : ByteArray) {w0 w : World} {F : List Res} {r1 : Bool} (hm : Mem w0 (F) w) (gT : Rd w0 F (gA 0) (strs opTab)) (gM : ∃ m : Int, Rd w0 F (gA 2) [i6 m]) (h : laws_FnExactParseOps.f K a0 = some r1) :
    Calls Tryd.prog 4 (List.toArray [.string a0]) w fun e w' => ∃ x : Unit, e = .returned (.bool r1) ∧ Mem w0 (F) w' := by
  unfold laws_FnExactParseOps.f at h
  refine calls_of_J (n := 66) Tryd.func4 rfl rfl rfl hm ?_
  refine j_seq ?_
  refine j_region ?_
  refine r_q (q_assign rfl rfl) rfl rfl ?_
  refine r_nil ?_
  refine j_then ?_
  refine j_seq ?_
  refine j_seq ?_
  refine j_region ?_
  refine r_q (q_move rfl rfl) rfl rfl ?_
  refine r_q (q_len_str rfl rfl rfl rfl un9 rfl) rfl rfl ?_
  refine r_q (q_gtr rfl rfl rfl) rfl rfl ?_
  refine r_nil ?_
  refine j_then ?_
  rcases of_if h with ⟨c1, h⟩ | ⟨c1, h⟩
  · refine j_true rfl (decide_eq_true c1) ?_
    refine j_seq ?_
    refine j_region ?_
    refine r_q (q_assign rfl rfl) rfl rfl ?_
    refine r_nil ?_
    refine j_then ?_
    refine j_ret ?_
    refine j_then_ret ?_
    cases h
    exact j_return rfl (ResOf.tmp rfl ResOf.nil) rfl (fun w h => ⟨(), rfl, h⟩)
  · refine j_false rfl (decide_eq_false c1) ?_
    refine j_skip ?_
    refine j_then ?_
    refine j_seq ?_
    refine j_region ?_
    refine r_q (q_move rfl rfl) rfl rfl ?_
    obtain ⟨v1, v2, hb1, h⟩ := of_b2 h
    refine r_do (a_call ok13 rfl rfl rfl rfl (fun w hm => spec_ParseOps.calls K a0 hm hb1)) rfl rfl (fun x1 => ?_)
    refine r_q (q_move rfl rfl) rfl rfl ?_
    refine r_q (q_extract rfl rfl rfl) rfl rfl ?_
    refine r_q (q_extract rfl rfl rfl) rfl rfl ?_
    refine r_q (q_assign rfl rfl) rfl rfl ?_
    refine r_q (q_assign rfl rfl) rfl rfl ?_
    refine r_nil ?_
    refine j_then ?_
    refine j_seq ?_
    refine j_region ?_
    refine r_q (q_move rfl rfl) rfl rfl ?_
    obtain ⟨v3, v4, hb2, h⟩ := of_b2 h
    refine r_do (a_call ok14 rfl rfl rfl rfl (fun w hm => impl_ParseOps.calls K a0 hm (Rd.drop 1 gT) (rd_ex 1 gM) hb2)) rfl rfl (fun x2 => ?_)
    refine r_q (q_move rfl rfl) rfl rfl ?_
    refine r_q (q_extract rfl rfl rfl) rfl rfl ?_
    refine r_q (q_extract rfl rfl rfl) rfl rfl ?_
    refine r_q (q_assign rfl rfl) rfl rfl ?_
    refine r_q (q_assign rfl rfl) rfl rfl ?_
    refine r_nil ?_
    refine j_then ?_
    refine j_seq ?_
    refine j_seq ?_
    refine j_region ?_
    refine r_q (q_move rfl rfl) rfl rfl ?_
    refine r_q (q_move rfl rfl) rfl rfl ?_
    obtain ⟨v5, hb3, h⟩ := of_b1 h
    refine r_do (a_call ok15 rfl rfl rfl rfl (fun w hm => laws_eqOpS.calls K v3 x2.A x2.n x2.c v1 x1.A x1.n x1.c hm x2.h (Rd.row 0 rfl) x1.h (Rd.row 1 rfl) hb3)) rfl rfl (fun x3 => ?_)
    refine r_q (q_not rfl rfl) rfl rfl ?_
    refine r_q (q_move rfl rfl) rfl rfl ?_
    rcases of_if h with ⟨c2, h⟩ | ⟨c2, h⟩
    · refine r_qon (q_move rfl rfl) rfl rfl rfl rfl (not_f c2) rfl ?_
      refine r_qon (q_move rfl rfl) rfl rfl rfl rfl (not_f c2) rfl ?_
      refine r_qon (q_bneq un4 rfl rfl rfl) rfl rfl rfl rfl (not_f c2) rfl ?_
      refine r_q (q_pick_f rfl rfl (not_f c2) rfl) rfl rfl ?_
      refine r_nil ?_
      refine j_then ?_
      rcases of_if h with ⟨c3, h⟩ | ⟨c3, h⟩
      · refine j_false rfl (bne_f c3) ?_
        refine j_skip ?_
        refine j_then ?_
        refine j_seq ?_
        refine j_region ?_
        refine r_q (q_assign rfl rfl) rfl rfl ?_
        refine r_nil ?_
        refine j_then ?_
        refine j_seq ?_
        refine j_region ?_
        refine r_q (q_move rfl rfl) rfl rfl ?_
        refine r_q (q_move rfl rfl) rfl rfl ?_
        obtain ⟨v6, v7, hb4, h⟩ := of_b2 h
        refine r_do (a_call ok16 rfl rfl rfl rfl (fun w hm => laws_markOpS.calls K v3 x2.A x2.n x2.c (1:Int) hm x2.h hb4)) rfl rfl (fun x4 => ?_)
        refine r_q (q_assign rfl rfl) rfl rfl ?_
        refine r_nil ?_
        refine j_then ?_
        refine j_seq ?_
        refine j_region ?_
        refine r_q (q_assign rfl rfl) rfl rfl ?_
        refine r_nil ?_
        refine j_then ?_
        refine j_seq ?_
        refine j_region ?_
        refine r_q (q_move rfl rfl) rfl rfl ?_
        refine r_q (q_move rfl rfl) rfl rfl ?_
        obtain ⟨v8, hb5, h⟩ := of_b1 h
        refine r_do (a_call ok17 rfl rfl rfl rfl (fun w hm => laws_heldOpS.calls K v7 x2.A x2.n x2.c (1:Int) hm (x4.h.trans x2.h) (Rd.row 0 rfl) hb5)) rfl rfl (fun x5 => ?_)
        refine r_q (q_assign rfl rfl) rfl rfl ?_
        refine r_nil ?_
        refine j_then ?_
        refine j_seq ?_
        refine j_seq ?_
        refine j_region ?_
        refine r_q (q_move rfl rfl) rfl rfl ?_
        refine r_q (q_lss rfl rfl rfl) rfl rfl ?_
        refine r_nil ?_
        refine j_then ?_
        rcases of_if h with ⟨c4, h⟩ | ⟨c4, h⟩
        · refine j_true rfl (decide_eq_true c4) ?_
          refine j_seq ?_
          refine j_region ?_
          refine r_q (q_assign rfl rfl) rfl rfl ?_
          refine r_nil ?_
          refine j_then ?_
          refine j_ret ?_
          refine j_then_ret ?_
          cases h
          exact j_return rfl (ResOf.tmp rfl ResOf.nil) rfl (fun w h => ⟨(), rfl, (h.drop 2)⟩)
        · refine j_false rfl (decide_eq_false c4) ?_
          refine j_skip ?_
          refine j_then ?_
          refine j_seq ?_
          refine j_seq ?_
          refine j_region ?_
          refine r_q (q_move rfl rfl) rfl rfl ?_
          refine r_q (q_move rfl rfl) rfl rfl ?_
          refine r_q (q_neq rfl rfl rfl) rfl rfl ?_
          refine r_nil ?_
          refine j_then ?_
          rcases of_if h with ⟨c5, h⟩ | ⟨c5, h⟩
          · refine j_false rfl (bne_f c5) ?_
            refine j_skip ?_
            refine j_then ?_
            refine j_seq ?_
            refine j_region ?_
            refine r_q (q_move rfl rfl) rfl rfl ?_
            obtain ⟨v9, v10, hb6, h⟩ := of_b2 h
            refine r_do (a_call ok14 rfl rfl rfl rfl (fun w hm => impl_ParseOps.calls K a0 hm (Rd.drop 2 gT) (rd_ex 2 gM) hb6)) rfl rfl (fun x6 => ?_)
            refine r_q (q_move rfl rfl) rfl rfl ?_
            refine r_q (q_extract rfl rfl rfl) rfl rfl ?_
            refine r_q (q_extract rfl rfl rfl) rfl rfl ?_
            refine r_q (q_assign rfl rfl) rfl rfl ?_
            refine r_q (q_assign rfl rfl) rfl rfl ?_
            refine r_nil ?_
            refine j_then ?_
            refine j_seq ?_
            refine j_seq ?_
            refine j_region ?_
            refine r_q (q_move rfl rfl) rfl rfl ?_
            refine r_q (q_move rfl rfl) rfl rfl ?_
            obtain ⟨v11, hb7, h⟩ := of_b1 h
            refine r_do (a_call ok15 rfl rfl rfl rfl (fun w hm => laws_eqOpS.calls K v9 x6.A x6.n x6.c v1 x1.A x1.n x1.c hm x6.h (Rd.row 0 rfl) x1.h (Rd.row 2 rfl) hb7)) rfl rfl (fun x7 => ?_)
            refine r_q (q_not rfl rfl) rfl rfl ?_
            refine r_q (q_move rfl rfl) rfl rfl ?_
            rcases of_if h with ⟨c6, h⟩ | ⟨c6, h⟩
            · refine r_qon (q_move rfl rfl) rfl rfl rfl rfl (not_f c6) rfl ?_
              refine r_qon (q_move rfl rfl) rfl rfl rfl rfl (not_f c6) rfl ?_
              refine r_qon (q_bneq un4 rfl rfl rfl) rfl rfl rfl rfl (not_f c6) rfl ?_
              refine r_q (q_pick_f rfl rfl (not_f c6) rfl) rfl rfl ?_
              refine r_nil ?_
              refine j_then ?_
              rcases of_if h with ⟨c7, h⟩ | ⟨c7, h⟩
              · refine j_false rfl (bne_f c7) ?_
                refine j_skip ?_
                refine j_then ?_
                refine j_seq ?_
                refine j_region ?_
                refine r_q (q_assign rfl rfl) rfl rfl ?_
                refine r_nil ?_
                refine j_then ?_
                refine j_seq ?_
                refine j_region ?_
                refine r_q (q_move rfl rfl) rfl rfl ?_
                refine r_q (q_move rfl rfl) rfl rfl ?_
                obtain ⟨v12, hb8, h⟩ := of_b1 h
                refine r_do (a_call ok17 rfl rfl rfl rfl (fun w hm => laws_heldOpS.calls K v7 x2.A x2.n x2.c (1:Int) hm (x4.h.trans x2.h) (Rd.row 1 rfl) hb8)) rfl rfl (fun x8 => ?_)
                refine r_q (q_assign rfl rfl) rfl rfl ?_
                refine r_nil ?_
                refine j_then ?_
                refine j_seq ?_
                refine j_seq ?_
                refine j_region ?_
                refine r_q (q_move rfl rfl) rfl rfl ?_
                refine r_q (q_lss rfl rfl rfl) rfl rfl ?_
                refine r_nil ?_
                refine j_then ?_
                rcases of_if h with ⟨c8, h⟩ | ⟨c8, h⟩
                · refine j_true rfl (decide_eq_true c8) ?_
                  refine j_seq ?_
                  refine j_region ?_
                  refine r_q (q_assign rfl rfl) rfl rfl ?_
                  refine r_nil ?_
                  refine j_then ?_
                  refine j_ret ?_
                  refine j_then_ret ?_
                  cases h
                  exact j_return rfl (ResOf.tmp rfl ResOf.nil) rfl (fun w h => ⟨(), rfl, (h.drop 3)⟩)
                · refine j_false rfl (decide_eq_false c8) ?_
                  refine j_skip ?_
                  refine j_then ?_
                  refine j_seq ?_
                  refine j_seq ?_
                  refine j_region ?_
                  refine r_q (q_move rfl rfl) rfl rfl ?_
                  refine r_q (q_move rfl rfl) rfl rfl ?_
                  refine r_q (q_neq rfl rfl rfl) rfl rfl ?_
                  refine r_nil ?_
                  refine j_then ?_
                  rcases of_if h with ⟨c9, h⟩ | ⟨c9, h⟩
                  · refine j_false rfl (bne_f c9) ?_
                    refine j_skip ?_
                    refine j_then ?_
                    refine j_seq ?_
                    refine j_region ?_
                    refine r_q (q_assign rfl rfl) rfl rfl ?_
                    refine r_nil ?_
                    refine j_then ?_
                    refine j_ret ?_
                    cases h
                    exact j_return rfl (ResOf.tmp rfl ResOf.nil) rfl (fun w h => ⟨(), rfl, (h.drop 3)⟩)
                  · refine j_true rfl (bne_t c9) ?_
                    refine j_seq ?_
                    refine j_region ?_
                    refine r_q (q_assign rfl rfl) rfl rfl ?_
                    refine r_nil ?_
                    refine j_then ?_
                    refine j_ret ?_
                    refine j_then_ret ?_
                    cases h
                    exact j_return rfl (ResOf.tmp rfl ResOf.nil) rfl (fun w h => ⟨(), rfl, (h.drop 3)⟩)
              · refine j_true rfl (bne_t c7) ?_
                refine j_seq ?_
                refine j_region ?_
                refine r_q (q_assign rfl rfl) rfl rfl ?_
                refine r_nil ?_
                refine j_then ?_
                refine j_ret ?_
                refine j_then_ret ?_
                cases h
                exact j_return rfl (ResOf.tmp rfl ResOf.nil) rfl (fun w h => ⟨(), rfl, (h.drop 3)⟩)
            · refine r_off rfl rfl rfl rfl (not_t (var_f c6)) rfl ?_
              refine r_off rfl rfl rfl rfl (not_t (var_f c6)) rfl ?_
              refine r_off rfl rfl rfl rfl (not_t (var_f c6)) rfl ?_
              refine r_q (q_pick_t rfl rfl (not_t (var_f c6)) rfl) rfl rfl ?_
              refine r_nil ?_
              refine j_then ?_
              refine j_true rfl rfl ?_
              refine j_seq ?_
              refine j_region ?_
              refine r_q (q_assign rfl rfl) rfl rfl ?_
              refine r_nil ?_
              refine j_then ?_
              refine j_ret ?_
              refine j_then_ret ?_
              cases h
              exact j_return rfl (ResOf.tmp rfl ResOf.nil) rfl (fun w h => ⟨(), rfl, (h.drop 3)⟩)
          · refine j_true rfl (bne_t c5) ?_
            refine j_seq ?_
            refine j_region ?_
            refine r_q (q_assign rfl rfl) rfl rfl ?_
            refine r_nil ?_
            refine j_then ?_
            refine j_ret ?_
            refine j_then_ret ?_
            cases h
            exact j_return rfl (ResOf.tmp rfl ResOf.nil) rfl (fun w h => ⟨(), rfl, (h.drop 2)⟩)
      · refine j_true rfl (bne_t c3) ?_
        refine j_seq ?_
        refine j_region ?_
        refine r_q (q_assign rfl rfl) rfl rfl ?_
        refine r_nil ?_
        refine j_then ?_
        refine j_ret ?_
        refine j_then_ret ?_
        cases h
        exact j_return rfl (ResOf.tmp rfl ResOf.nil) rfl (fun w h => ⟨(), rfl, (h.drop 2)⟩)
    · refine r_off rfl rfl rfl rfl (not_t (var_f c2)) rfl ?_
      refine r_off rfl rfl rfl rfl (not_t (var_f c2)) rfl ?_
      refine r_off rfl rfl rfl rfl (not_t (var_f c2)) rfl ?_
      refine r_q (q_pick_t rfl rfl (not_t (var_f c2)) rfl) rfl rfl ?_
      refine r_nil ?_
      refine j_then ?_
      refine j_true rfl rfl ?_
      refine j_seq ?_
      refine j_region ?_
      refine r_q (q_assign rfl rfl) rfl rfl ?_
      refine r_nil ?_
      refine j_then ?_
      refine j_ret ?_
      refine j_then_ret ?_
      cases h
      exact j_return rfl (ResOf.tmp rfl ResOf.nil) rfl (fun w h => ⟨(), rfl, (h.drop 2)⟩)

end Go.Proofs.YtnfaiojmabolmaaDoor.F
