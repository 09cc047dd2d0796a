/- The program computes these pure functions, printed by the generator of wip/gen. -/
import Derived.Test.YtjcbalhdppmdmaaFa
import Derived.Test.YtjcbalhdppmdmaaFb
namespace Go.Proofs.Ytjcbalhdppmdmaa.F
open Go Go.RowKit Go.Proofs.Ytjcbalhdppmdmaa.S
set_option linter.unusedVariables false
set_option maxRecDepth 100000
theorem laws_szIntS.calls (K : Nat) (a0 : List Int) (a0_A : Option Addr) (a0_n a0_c : Nat) (a1 : Int) {w0 w : World} {F : List Res} {r1 : Int} (hm : Mem w0 (F) w) (a0_h : a0.length = a0_n) (a0_R : Rd w0 F a0_A (ii a0)) (h : laws_szIntS.f K a0 a1 = some r1) :
    Calls Try.prog 70 (List.toArray [.slice a0_A a0_n a0_c, i6 a1]) w fun e w' => ∃ x : Unit, e = .returned (i6 r1) ∧ Mem w0 (F) w' := by
  unfold laws_szIntS.f at h
  refine calls_of_J (n := 12) Try.func70 rfl rfl rfl hm ?_
  refine j_seq ?_
  refine j_region ?_
  refine r_q (q_assign rfl rfl) rfl rfl ?_
  refine r_nil ?_
  refine j_then ?_
  refine j_seq ?_
  refine j_region ?_
  refine r_q (q_move rfl rfl) rfl rfl ?_
  refine r_q (q_move rfl rfl) rfl rfl ?_
  refine r_q (q_lenX a0 a0_h un32 rfl rfl rfl rfl rfl) rfl rfl ?_
  refine r_q (q_sub rfl rfl rfl) rfl rfl ?_
  refine r_q (q_assign rfl rfl) rfl rfl ?_
  refine r_nil ?_
  refine j_then ?_
  refine j_seq ?_
  refine j_seq ?_
  refine j_region ?_
  refine r_q (q_move rfl rfl) rfl rfl ?_
  refine r_q (q_lss rfl rfl rfl) rfl rfl ?_
  refine r_nil ?_
  refine j_then ?_
  rcases of_if h with ⟨c1, h⟩ | ⟨c1, h⟩
  · refine j_true rfl (decide_eq_true c1) ?_
    refine j_seq ?_
    refine j_region ?_
    refine r_q (q_assign rfl rfl) rfl rfl ?_
    refine r_nil ?_
    refine j_then ?_
    refine j_ret ?_
    refine j_then_ret ?_
    cases h
    exact j_return rfl (ResOf.tmp rfl ResOf.nil) rfl (fun w h => ⟨(), rfl, h⟩)
  · refine j_false rfl (decide_eq_false c1) ?_
    refine j_skip ?_
    refine j_then ?_
    refine j_seq ?_
    refine j_region ?_
    refine r_q (q_move rfl rfl) rfl rfl ?_
    refine r_q (q_assign rfl rfl) rfl rfl ?_
    refine r_nil ?_
    refine j_then ?_
    refine j_ret ?_
    cases h
    exact j_return rfl (ResOf.tmp rfl ResOf.nil) rfl (fun w h => ⟨(), rfl, h⟩)

theorem laws_toIntS.calls (K : Nat) (a0 : List Int) (a0_A : Option Addr) (a0_n a0_c : Nat) {w0 w : World} {F : List Res} {r1 : List Int} (hm : Mem w0 (F) w) (a0_h : a0.length = a0_n) (a0_R : Rd w0 F a0_A (ii a0)) (h : laws_toIntS.f K a0 = some r1) :
    Calls Try.prog 72 (List.toArray [.slice a0_A a0_n a0_c]) w fun e w' => ∃ x : (Sl r1.length), e = .returned (.slice x.A x.n x.c) ∧ Mem w0 (.row x.A x.c 3 1 (ii r1) :: F) w' := by
  unfold laws_toIntS.f at h
  refine calls_of_J (n := 22) Try.func72 rfl rfl rfl hm ?_
  refine j_seq ?_
  refine j_region ?_
  refine r_q (q_assign rfl rfl) rfl rfl ?_
  refine r_nil ?_
  refine j_then ?_
  refine j_seq ?_
  refine j_region ?_
  refine r_q (q_move rfl rfl) rfl rfl ?_
  refine r_q (q_lenX a0 a0_h un32 rfl rfl rfl rfl rfl) rfl rfl ?_
  obtain ⟨c1, h⟩ := of_guard h
  refine r_do (a_mkI un32 sz3 by3 zr3 rfl c1 rfl rfl rfl) rfl rfl (fun x1 => ?_)
  refine r_q (q_assign rfl rfl) rfl rfl ?_
  refine j_rs (.row x1 ((a0.length : Int).toNat) 3 1 (ii (List.replicate (a0.length : Int).toNat (0:Int))) :: F) (fun _ h => h) ?_
  refine r_nil ?_
  refine j_then ?_
  refine j_seq ?_
  refine j_seq ?_
  refine j_region ?_
  refine r_q (q_assign rfl rfl) rfl rfl ?_
  refine r_nil ?_
  refine j_then ?_
  obtain ⟨κ0, h, hκ0⟩ := ex_k (g := fun κ => laws_toIntS.loop0 K κ a0 K (0:Int) (List.replicate (a0.length : Int).toNat (0:Int)) = some r1) h
  refine j_cut (σ := (List Int)) (fun s => [(3, (.slice x1 ((a0.length : Int).toNat) ((a0.length : Int).toNat)))]) (fun s => .row x1 ((a0.length : Int).toNat) 3 1 (ii s) :: F) (fun s => κ0 s = some r1 ∧ (s.length = ((a0.length : Int).toNat))) ?_ ?_
  · refine j_block ?_
    refine j_loop (σ := Int × (List Int)) (fun s => [(0, (.slice a0_A a0_n a0_c)), (3, (.slice x1 ((a0.length : Int).toNat) ((a0.length : Int).toNat))), (4, (i6 s.1))]) (fun s => .row x1 ((a0.length : Int).toNat) 3 1 (ii s.2) :: F) (fun m s => laws_toIntS.loop0 K κ0 a0 m s.1 s.2 = some r1 ∧ (s.2.length = ((a0.length : Int).toNat))) K ((0:Int), (List.replicate (a0.length : Int).toNat (0:Int))) ⟨h, List.length_replicate⟩ (fun a he => he.sub ⟨rfl, rfl, rfl, trivial⟩) (fun w h => h) ?_
    rintro m ⟨p2, l2⟩ ⟨h, q2⟩
    cases m with
    | zero => exact absurd h (by rw [laws_toIntS.loop0]; exact nofun)
    | succ m =>
      rw [laws_toIntS.loop0] at h
      show J _ _ [(0, (.slice a0_A a0_n a0_c)), (3, (.slice x1 ((a0.length : Int).toNat) ((a0.length : Int).toNat))), (4, (i6 p2))] _ (.row x1 ((a0.length : Int).toNat) 3 1 (ii l2) :: F)
      refine j_seq ?_
      refine j_seq ?_
      refine j_region ?_
      refine r_q (q_move rfl rfl) rfl rfl ?_
      refine r_q (q_move rfl rfl) rfl rfl ?_
      refine r_q (q_lenX a0 a0_h un32 rfl rfl rfl rfl rfl) rfl rfl ?_
      refine r_q (q_lss rfl rfl rfl) rfl rfl ?_
      refine r_nil ?_
      refine j_then ?_
      rcases of_if h with ⟨c11, h⟩ | ⟨c11, h⟩
      · refine j_true rfl (decide_eq_true c11) ?_
        refine j_skip ?_
        refine j_then ?_
        refine j_seq ?_
        refine j_block ?_
        refine j_region ?_
        refine r_q (q_move rfl rfl) rfl rfl ?_
        refine r_q (q_move rfl rfl) rfl rfl ?_
        refine r_q (q_move rfl rfl) rfl rfl ?_
        refine r_q (q_move rfl rfl) rfl rfl ?_
        obtain ⟨c12, h⟩ := of_guard h
        refine r_q (q_ix (Rd.drop 1 a0_R) (ints_len1 _ a0) (by decide) a0_h c12 un32 sz3 rfl rfl rfl) rfl rfl ?_
        refine r_q (q_ldI (Rd.drop 1 a0_R) c12 ag3 rfl rfl) rfl rfl ?_
        obtain ⟨c13, h⟩ := of_guard h
        refine r_q (q_ix (Rd.row 0 rfl) (ints_len1 _ l2) (by decide) q2 c13 un32 sz3 rfl rfl rfl) rfl rfl ?_
        refine r_do (a_stI 0 rfl c13 sz3 rfl rfl rfl) rfl rfl (fun _ => ?_)
        refine j_rs (.row x1 ((a0.length : Int).toNat) 3 1 (ii (l2.set p2.toNat (rd a0 p2))) :: F) (fun _ h => h) ?_
        refine r_nil ?_
        refine j_in ?_
        refine j_then ?_
        refine j_region ?_
        refine r_q (q_move rfl rfl) rfl rfl ?_
        refine r_q (q_add rfl rfl rfl) rfl rfl ?_
        refine r_q (q_assign rfl rfl) rfl rfl ?_
        refine r_nil ?_
        refine j_then ?_
        exact j_again m ((wrap64 (p2 + (1:Int))), (l2.set p2.toNat (rd a0 p2))) (Nat.lt_succ_self m) ⟨h, (set_len q2 _ _)⟩ (fun a he => he.sub ⟨rfl, rfl, rfl, trivial⟩) (fun w h => h)
      · refine j_false rfl (decide_eq_false c11) ?_
        refine j_exit ?_
        refine j_then_exit ?_
        refine j_then_exit ?_
        refine j_in_exit ?_
        refine j_then ?_
        exact j_meet l2 ⟨h, q2⟩ (fun a he => he.sub ⟨rfl, trivial⟩) (fun w h => h)
  · rintro l3 ⟨h, q3⟩
    subst hκ0
    show J _ _ [(3, (.slice x1 ((a0.length : Int).toNat) ((a0.length : Int).toNat)))] _ (.row x1 ((a0.length : Int).toNat) 3 1 (ii l3) :: F)
    refine j_then ?_
    refine j_seq ?_
    refine j_region ?_
    refine r_q (q_move rfl rfl) rfl rfl ?_
    refine r_q (q_assign rfl rfl) rfl rfl ?_
    refine r_nil ?_
    refine j_then ?_
    refine j_ret ?_
    cases h
    exact j_return rfl (ResOf.tmp rfl ResOf.nil) rfl (fun w h => ⟨⟨x1, ((a0.length : Int).toNat), ((a0.length : Int).toNat), q3⟩, rfl, h⟩)

end Go.Proofs.Ytjcbalhdppmdmaa.F
