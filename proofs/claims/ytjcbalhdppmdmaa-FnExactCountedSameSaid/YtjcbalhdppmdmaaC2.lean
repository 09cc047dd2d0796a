/- The program computes these pure functions, printed by the generator of wip/gen. -/
import Derived.Test.YtjcbalhdppmdmaaFa
import Derived.Test.YtjcbalhdppmdmaaFb
namespace Go.Proofs.Ytjcbalhdppmdmaa.F
open Go Go.RowKit Go.Proofs.Ytjcbalhdppmdmaa.S
set_option linter.unusedVariables false
set_option maxRecDepth 100000
theorem laws_szIntS.calls (K : Nat) (a0 : List Int) (a0_A : Option Addr) (a0_n a0_c : Nat) (a1 : Int) {w0 w : World} {F : List Res} {r1 : Int} (hm : Mem w0 (F) w) (a0_h : a0.length = a0_n) (a0_R : Rd w0 F a0_A (ints .i64 a0)) (h : laws_szIntS.f K a0 a1 = some r1) :
    Calls Try.prog 70 (List.toArray [.slice a0_A a0_n a0_c, .int .i64 a1]) w fun e w' => ∃ x : Unit, e = .returned (.int .i64 r1) ∧ Mem w0 (F) w' := by
  unfold laws_szIntS.f at h
  refine calls_of_J (n := 12) Try.func70 rfl rfl rfl hm ?_
  refine j_seq ?_
  refine j_region ?_
  refine r_q (q_assign rfl rfl) rfl rfl ?_
  refine r_nil ?_
  refine j_then ?_
  refine j_seq ?_
  refine j_region ?_
  refine r_q (q_move rfl rfl) rfl rfl ?_
  refine r_q (q_move rfl rfl) rfl rfl ?_
  refine r_q (q_lenX a0 a0_h un32 rfl rfl rfl rfl rfl) rfl rfl ?_
  refine r_q (q_sub rfl rfl rfl) rfl rfl ?_
  refine r_q (q_assign rfl rfl) rfl rfl ?_
  refine r_nil ?_
  refine j_then ?_
  refine j_seq ?_
  refine j_seq ?_
  refine j_region ?_
  refine r_q (q_move rfl rfl) rfl rfl ?_
  refine r_q (q_lss rfl rfl rfl) rfl rfl ?_
  refine r_nil ?_
  refine j_then ?_
  rcases of_if h with ⟨c1, h⟩ | ⟨c1, h⟩
  · refine j_true rfl (decide_eq_true c1) ?_
    refine j_seq ?_
    refine j_region ?_
    refine r_q (q_assign rfl rfl) rfl rfl ?_
    refine r_nil ?_
    refine j_then ?_
    refine j_ret ?_
    refine j_then_ret ?_
    cases h
    exact j_return rfl (ResOf.tmp rfl ResOf.nil) rfl (fun w h => ⟨(), rfl, h⟩)
  · refine j_false rfl (decide_eq_false c1) ?_
    refine j_skip ?_
    refine j_then ?_
    refine j_seq ?_
    refine j_region ?_
    refine r_q (q_move rfl rfl) rfl rfl ?_
    refine r_q (q_assign rfl rfl) rfl rfl ?_
    refine r_nil ?_
    refine j_then ?_
    refine j_ret ?_
    cases h
    exact j_return rfl (ResOf.tmp rfl ResOf.nil) rfl (fun w h => ⟨(), rfl, h⟩)

theorem laws_szGc.calls (K : Nat) (a0_0 : Int) (a0_1 : List Int) (a0_1_A : Option Addr) (a0_1_n a0_1_c : Nat) (a0_2 : Int) (a1 : Int) {w0 w : World} {F : List Res} {r1 : Int} (hm : Mem w0 (F) w) (a0_1_h : a0_1.length = a0_1_n) (a0_1_R : Rd w0 F a0_1_A (ints .i64 a0_1)) (h : laws_szGc.f K a0_0 a0_1 a0_2 a1 = some r1) :
    Calls Try.prog 19 (List.toArray [.agg (List.toArray [.int .i64 a0_0, .slice a0_1_A a0_1_n a0_1_c, .int .i64 a0_2]), .int .i64 a1]) w fun e w' => ∃ x : Unit, e = .returned (.int .i64 r1) ∧ Mem w0 (F) w' := by
  unfold laws_szGc.f at h
  refine calls_of_J (n := 12) Try.func19 rfl rfl rfl hm ?_
  refine j_seq ?_
  refine j_region ?_
  refine r_do (a_box rfl rfl) rfl rfl (fun x1 => ?_)
  refine r_q (q_assign rfl rfl) rfl rfl ?_
  refine j_rs (.box x1 34 [(.int .i64 a0_0), (.slice a0_1_A a0_1_n a0_1_c), (.int .i64 a0_2)] :: F) (fun _ h => h) ?_
  refine r_nil ?_
  refine j_then ?_
  refine j_seq ?_
  refine j_region ?_
  refine r_q (q_fieldAddr fi34_1 sz32 rfl rfl rfl) rfl rfl ?_
  refine r_q (q_loadb 0 rfl ag32 rfl rfl rfl) rfl rfl ?_
  refine r_q (q_move rfl rfl) rfl rfl ?_
  obtain ⟨v1, hb1, h⟩ := of_b1 h
  refine r_do (a_call ok70 rfl rfl rfl rfl (fun w hm => laws_szIntS.calls K a0_1 a0_1_A a0_1_n a0_1_c a1 hm a0_1_h (Rd.drop 1 a0_1_R) hb1)) rfl rfl (fun x2 => ?_)
  refine r_q (q_assign rfl rfl) rfl rfl ?_
  refine j_rs (.box x1 34 [(.int .i64 a0_0), (.slice a0_1_A a0_1_n a0_1_c), (.int .i64 a0_2)] :: F) (fun _ h => h) ?_
  refine r_nil ?_
  refine j_then ?_
  refine j_seq ?_
  refine j_seq ?_
  refine j_region ?_
  refine r_q (q_move rfl rfl) rfl rfl ?_
  refine r_q (q_lss rfl rfl rfl) rfl rfl ?_
  refine r_nil ?_
  refine j_then ?_
  rcases of_if h with ⟨c1, h⟩ | ⟨c1, h⟩
  · refine j_true rfl (decide_eq_true c1) ?_
    refine j_seq ?_
    refine j_region ?_
    refine r_q (q_assign rfl rfl) rfl rfl ?_
    refine r_nil ?_
    refine j_then ?_
    refine j_ret ?_
    refine j_then_ret ?_
    cases h
    exact j_return rfl (ResOf.tmp rfl ResOf.nil) rfl (fun w h => ⟨(), rfl, h.tail⟩)
  · refine j_false rfl (decide_eq_false c1) ?_
    refine j_skip ?_
    refine j_then ?_
    refine j_seq ?_
    refine j_region ?_
    refine r_q (q_move rfl rfl) rfl rfl ?_
    refine r_q (q_assign rfl rfl) rfl rfl ?_
    refine r_nil ?_
    refine j_then ?_
    refine j_ret ?_
    cases h
    exact j_return rfl (ResOf.tmp rfl ResOf.nil) rfl (fun w h => ⟨(), rfl, h.tail⟩)

theorem laws_toIntS.calls (K : Nat) (a0 : List Int) (a0_A : Option Addr) (a0_n a0_c : Nat) {w0 w : World} {F : List Res} {r1 : List Int} (hm : Mem w0 (F) w) (a0_h : a0.length = a0_n) (a0_R : Rd w0 F a0_A (ints .i64 a0)) (h : laws_toIntS.f K a0 = some r1) :
    Calls Try.prog 72 (List.toArray [.slice a0_A a0_n a0_c]) w fun e w' => ∃ x : (Sl r1.length), e = .returned (.slice x.A x.n x.c) ∧ Mem w0 (.row x.A x.c 3 1 (ints .i64 r1) :: F) w' := by
  unfold laws_toIntS.f at h
  refine calls_of_J (n := 22) Try.func72 rfl rfl rfl hm ?_
  refine j_seq ?_
  refine j_region ?_
  refine r_q (q_assign rfl rfl) rfl rfl ?_
  refine r_nil ?_
  refine j_then ?_
  refine j_seq ?_
  refine j_region ?_
  refine r_q (q_move rfl rfl) rfl rfl ?_
  refine r_q (q_lenX a0 a0_h un32 rfl rfl rfl rfl rfl) rfl rfl ?_
  obtain ⟨c1, h⟩ := of_guard h
  refine r_do (a_mkI un32 sz3 by3 zr3 rfl c1 rfl rfl rfl) rfl rfl (fun x1 => ?_)
  refine r_q (q_assign rfl rfl) rfl rfl ?_
  refine j_rs (.row x1 ((a0.length : Int).toNat) 3 1 (ints .i64 (List.replicate (a0.length : Int).toNat (0:Int))) :: F) (fun _ h => h) ?_
  refine r_nil ?_
  refine j_then ?_
  refine j_seq ?_
  refine j_seq ?_
  refine j_region ?_
  refine r_q (q_assign rfl rfl) rfl rfl ?_
  refine r_nil ?_
  refine j_then ?_
  obtain ⟨κ0, h, hκ0⟩ := ex_k (g := fun κ => laws_toIntS.loop0 K κ a0 K (0:Int) (List.replicate (a0.length : Int).toNat (0:Int)) = some r1) h
  refine j_cut (σ := (List Int)) (fun s => [(3, (.slice x1 ((a0.length : Int).toNat) ((a0.length : Int).toNat)))]) (fun s => .row x1 ((a0.length : Int).toNat) 3 1 (ints .i64 s) :: F) (fun s => κ0 s = some r1 ∧ (s.length = ((a0.length : Int).toNat))) ?_ ?_
  · refine j_block ?_
    refine j_loop (σ := Int × (List Int)) (fun s => [(0, (.slice a0_A a0_n a0_c)), (3, (.slice x1 ((a0.length : Int).toNat) ((a0.length : Int).toNat))), (4, (.int .i64 s.1))]) (fun s => .row x1 ((a0.length : Int).toNat) 3 1 (ints .i64 s.2) :: F) (fun m s => laws_toIntS.loop0 K κ0 a0 m s.1 s.2 = some r1 ∧ (s.2.length = ((a0.length : Int).toNat))) K ((0:Int), (List.replicate (a0.length : Int).toNat (0:Int))) ⟨h, List.length_replicate⟩ (fun a he => he.sub ⟨rfl, rfl, rfl, trivial⟩) (fun w h => h) ?_
    rintro m ⟨p2, l2⟩ ⟨h, q2⟩
    cases m with
    | zero => exact absurd h (by rw [laws_toIntS.loop0]; exact nofun)
    | succ m =>
      rw [laws_toIntS.loop0] at h
      show J _ _ [(0, (.slice a0_A a0_n a0_c)), (3, (.slice x1 ((a0.length : Int).toNat) ((a0.length : Int).toNat))), (4, (.int .i64 p2))] _ (.row x1 ((a0.length : Int).toNat) 3 1 (ints .i64 l2) :: F)
      refine j_seq ?_
      refine j_seq ?_
      refine j_region ?_
      refine r_q (q_move rfl rfl) rfl rfl ?_
      refine r_q (q_move rfl rfl) rfl rfl ?_
      refine r_q (q_lenX a0 a0_h un32 rfl rfl rfl rfl rfl) rfl rfl ?_
      refine r_q (q_lss rfl rfl rfl) rfl rfl ?_
      refine r_nil ?_
      refine j_then ?_
      rcases of_if h with ⟨c11, h⟩ | ⟨c11, h⟩
      · refine j_true rfl (decide_eq_true c11) ?_
        refine j_skip ?_
        refine j_then ?_
        refine j_seq ?_
        refine j_block ?_
        refine j_region ?_
        refine r_q (q_move rfl rfl) rfl rfl ?_
        refine r_q (q_move rfl rfl) rfl rfl ?_
        refine r_q (q_move rfl rfl) rfl rfl ?_
        refine r_q (q_move rfl rfl) rfl rfl ?_
        obtain ⟨c12, h⟩ := of_guard h
        refine r_q (q_ix (Rd.drop 1 a0_R) (ints_len1 _ a0) (by decide) a0_h c12 un32 sz3 rfl rfl rfl) rfl rfl ?_
        refine r_q (q_ldI (Rd.drop 1 a0_R) c12 ag3 rfl rfl) rfl rfl ?_
        obtain ⟨c13, h⟩ := of_guard h
        refine r_q (q_ix (Rd.row 0 rfl) (ints_len1 _ l2) (by decide) q2 c13 un32 sz3 rfl rfl rfl) rfl rfl ?_
        refine r_do (a_stI 0 rfl c13 sz3 rfl rfl rfl) rfl rfl (fun _ => ?_)
        refine j_rs (.row x1 ((a0.length : Int).toNat) 3 1 (ints .i64 (l2.set p2.toNat (rd a0 p2))) :: F) (fun _ h => h) ?_
        refine r_nil ?_
        refine j_in ?_
        refine j_then ?_
        refine j_region ?_
        refine r_q (q_move rfl rfl) rfl rfl ?_
        refine r_q (q_add rfl rfl rfl) rfl rfl ?_
        refine r_q (q_assign rfl rfl) rfl rfl ?_
        refine r_nil ?_
        refine j_then ?_
        exact j_again m ((wrap64 (p2 + (1:Int))), (l2.set p2.toNat (rd a0 p2))) (Nat.lt_succ_self m) ⟨h, (set_len q2 _ _)⟩ (fun a he => he.sub ⟨rfl, rfl, rfl, trivial⟩) (fun w h => h)
      · refine j_false rfl (decide_eq_false c11) ?_
        refine j_exit ?_
        refine j_then_exit ?_
        refine j_then_exit ?_
        refine j_in_exit ?_
        refine j_then ?_
        exact j_meet l2 ⟨h, q2⟩ (fun a he => he.sub ⟨rfl, trivial⟩) (fun w h => h)
  · rintro l3 ⟨h, q3⟩
    subst hκ0
    show J _ _ [(3, (.slice x1 ((a0.length : Int).toNat) ((a0.length : Int).toNat)))] _ (.row x1 ((a0.length : Int).toNat) 3 1 (ints .i64 l3) :: F)
    refine j_then ?_
    refine j_seq ?_
    refine j_region ?_
    refine r_q (q_move rfl rfl) rfl rfl ?_
    refine r_q (q_assign rfl rfl) rfl rfl ?_
    refine r_nil ?_
    refine j_then ?_
    refine j_ret ?_
    cases h
    exact j_return rfl (ResOf.tmp rfl ResOf.nil) rfl (fun w h => ⟨⟨x1, ((a0.length : Int).toNat), ((a0.length : Int).toNat), q3⟩, rfl, h⟩)

theorem laws_toGc.calls (K : Nat) (a0_0 : Int) (a0_1 : List Int) (a0_1_A : Option Addr) (a0_1_n a0_1_c : Nat) (a0_2 : Int) {w0 w : World} {F : List Res} {r1 : Int} {r2 : List Int} {r3 : Int} (hm : Mem w0 (F) w) (a0_1_h : a0_1.length = a0_1_n) (a0_1_R : Rd w0 F a0_1_A (ints .i64 a0_1)) (h : laws_toGc.f K a0_0 a0_1 a0_2 = some (r1, r2, r3)) :
    Calls Try.prog 21 (List.toArray [.agg (List.toArray [.int .i64 a0_0, .slice a0_1_A a0_1_n a0_1_c, .int .i64 a0_2])]) w fun e w' => ∃ x : (Sl r2.length), e = .returned (.agg (List.toArray [.int .i64 r1, .slice x.A x.n x.c, .int .i64 r3])) ∧ Mem w0 (.row x.A x.c 3 1 (ints .i64 r2) :: F) w' := by
  unfold laws_toGc.f at h
  refine calls_of_J (n := 15) Try.func21 rfl rfl rfl hm ?_
  refine j_seq ?_
  refine j_region ?_
  refine r_do (a_box rfl rfl) rfl rfl (fun x1 => ?_)
  refine r_do (a_alloc zr37 rfl) rfl rfl (fun x2 => ?_)
  refine j_rs (.box x2 37 [(.int .i64 (0:Int)), (.slice none 0 0), (.int .i64 (0:Int))] :: .box x1 34 [(.int .i64 a0_0), (.slice a0_1_A a0_1_n a0_1_c), (.int .i64 a0_2)] :: F) (fun _ h => h) ?_
  refine r_nil ?_
  refine j_then ?_
  refine j_seq ?_
  refine j_region ?_
  refine r_do (a_alloc zr37 rfl) rfl rfl (fun x3 => ?_)
  refine j_rs (.box x3 37 [(.int .i64 (0:Int)), (.slice none 0 0), (.int .i64 (0:Int))] :: .box x2 37 [(.int .i64 (0:Int)), (.slice none 0 0), (.int .i64 (0:Int))] :: .box x1 34 [(.int .i64 a0_0), (.slice a0_1_A a0_1_n a0_1_c), (.int .i64 a0_2)] :: F) (fun _ h => h) ?_
  refine r_nil ?_
  refine j_then ?_
  refine j_seq ?_
  refine j_region ?_
  refine r_q (q_fieldAddr fi34_0 sz3 rfl rfl rfl) rfl rfl ?_
  refine r_q (q_loadb 2 rfl ag3 rfl rfl rfl) rfl rfl ?_
  refine r_q (q_fieldAddr fi37_0 sz3 rfl rfl rfl) rfl rfl ?_
  refine r_do (a_storeb 0 rfl sz3 rfl rfl rfl rfl (Nat.le_of_ble_eq_true rfl) rfl) rfl rfl (fun _ => ?_)
  refine j_rs (.box x3 37 [(.int .i64 a0_0), (.slice none 0 0), (.int .i64 (0:Int))] :: .box x2 37 [(.int .i64 (0:Int)), (.slice none 0 0), (.int .i64 (0:Int))] :: .box x1 34 [(.int .i64 a0_0), (.slice a0_1_A a0_1_n a0_1_c), (.int .i64 a0_2)] :: F) (fun _ h => h) ?_
  refine r_nil ?_
  refine j_then ?_
  refine j_seq ?_
  refine j_region ?_
  refine r_q (q_fieldAddr fi34_1 sz32 rfl rfl rfl) rfl rfl ?_
  refine r_q (q_loadb 2 rfl ag32 rfl rfl rfl) rfl rfl ?_
  obtain ⟨v1, hb1, h⟩ := of_b1 h
  refine r_do (a_call ok72 rfl rfl rfl rfl (fun w hm => laws_toIntS.calls K a0_1 a0_1_A a0_1_n a0_1_c hm a0_1_h (Rd.drop 3 a0_1_R) hb1)) rfl rfl (fun x4 => ?_)
  refine r_q (q_fieldAddr fi37_1 sz32 rfl rfl rfl) rfl rfl ?_
  refine r_do (a_storeb 1 rfl sz32 rfl rfl rfl rfl (Nat.le_of_ble_eq_true rfl) rfl) rfl rfl (fun _ => ?_)
  refine j_rs (.row x4.A x4.c 3 1 (ints .i64 v1) :: .box x3 37 [(.int .i64 a0_0), (.slice x4.A x4.n x4.c), (.int .i64 (0:Int))] :: .box x2 37 [(.int .i64 (0:Int)), (.slice none 0 0), (.int .i64 (0:Int))] :: .box x1 34 [(.int .i64 a0_0), (.slice a0_1_A a0_1_n a0_1_c), (.int .i64 a0_2)] :: F) (fun _ h => h) ?_
  refine r_nil ?_
  refine j_then ?_
  refine j_seq ?_
  refine j_region ?_
  refine r_q (q_fieldAddr fi34_2 sz3 rfl rfl rfl) rfl rfl ?_
  refine r_q (q_loadb 3 rfl ag3 rfl rfl rfl) rfl rfl ?_
  refine r_q (q_fieldAddr fi37_2 sz3 rfl rfl rfl) rfl rfl ?_
  refine r_do (a_storeb 1 rfl sz3 rfl rfl rfl rfl (Nat.le_of_ble_eq_true rfl) rfl) rfl rfl (fun _ => ?_)
  refine j_rs (.row x4.A x4.c 3 1 (ints .i64 v1) :: .box x3 37 [(.int .i64 a0_0), (.slice x4.A x4.n x4.c), (.int .i64 a0_2)] :: .box x2 37 [(.int .i64 (0:Int)), (.slice none 0 0), (.int .i64 (0:Int))] :: .box x1 34 [(.int .i64 a0_0), (.slice a0_1_A a0_1_n a0_1_c), (.int .i64 a0_2)] :: F) (fun _ h => h) ?_
  refine r_nil ?_
  refine j_then ?_
  refine j_seq ?_
  refine j_region ?_
  refine r_q (q_loadb_agg 1 rfl ag37 sz37 rfl rfl rfl rfl) rfl rfl ?_
  refine r_do (a_storeb 2 rfl sz37 rfl rfl rfl rfl (Nat.le_of_ble_eq_true rfl) rfl) rfl rfl (fun _ => ?_)
  refine j_rs (.row x4.A x4.c 3 1 (ints .i64 v1) :: .box x3 37 [(.int .i64 a0_0), (.slice x4.A x4.n x4.c), (.int .i64 a0_2)] :: .box x2 37 [(.int .i64 a0_0), (.slice x4.A x4.n x4.c), (.int .i64 a0_2)] :: .box x1 34 [(.int .i64 a0_0), (.slice a0_1_A a0_1_n a0_1_c), (.int .i64 a0_2)] :: F) (fun _ h => h) ?_
  refine r_nil ?_
  refine j_then ?_
  refine j_ret ?_
  cases h
  exact j_return rfl (ResOf.cell 2 rfl rfl ag37 sz37 ResOf.nil) rfl (fun w h => ⟨⟨x4.A, x4.n, x4.c, x4.h⟩, rfl, h.pick 4 [0] rfl⟩)

theorem spec_l1Ints.calls (K : Nat) (a0 : List Int) (a0_A : Option Addr) (a0_n a0_c : Nat) (a1 : List Int) (a1_A : Option Addr) (a1_n a1_c : Nat) {w0 w : World} {F : List Res} {r1 : Bool} (hm : Mem w0 (F) w) (a0_h : a0.length = a0_n) (a0_R : Rd w0 F a0_A (ints .i64 a0)) (a1_h : a1.length = a1_n) (a1_R : Rd w0 F a1_A (ints .i64 a1)) (h : spec_l1Ints.f K a0 a1 = some r1) :
    Calls Try.prog 71 (List.toArray [.slice a0_A a0_n a0_c, .slice a1_A a1_n a1_c]) w fun e w' => ∃ x : Unit, e = .returned (.bool r1) ∧ Mem w0 (F) w' := by
  unfold spec_l1Ints.f at h
  refine calls_of_J (n := 26) Try.func71 rfl rfl rfl hm ?_
  refine j_seq ?_
  refine j_region ?_
  refine r_q (q_assign rfl rfl) rfl rfl ?_
  refine r_nil ?_
  refine j_then ?_
  refine j_seq ?_
  refine j_seq ?_
  refine j_region ?_
  refine r_q (q_move rfl rfl) rfl rfl ?_
  refine r_q (q_lenX a0 a0_h un32 rfl rfl rfl rfl rfl) rfl rfl ?_
  refine r_q (q_move rfl rfl) rfl rfl ?_
  refine r_q (q_lenX a1 a1_h un32 rfl rfl rfl rfl rfl) rfl rfl ?_
  refine r_q (q_neq rfl rfl rfl) rfl rfl ?_
  refine r_nil ?_
  refine j_then ?_
  rcases of_if h with ⟨c1, h⟩ | ⟨c1, h⟩
  · refine j_false rfl (bne_f c1) ?_
    refine j_skip ?_
    refine j_then ?_
    refine j_seq ?_
    refine j_seq ?_
    refine j_region ?_
    refine r_q (q_assign rfl rfl) rfl rfl ?_
    refine r_nil ?_
    refine j_then ?_
    obtain ⟨κ0, h, hκ0⟩ := ex_k (g := fun κ => spec_l1Ints.loop0 K κ a0 a1 K (0:Int) = some r1) h
    refine j_cut (σ := Unit) (fun s => []) (fun s => F) (fun s => κ0 () = some r1) ?_ ?_
    · refine j_block ?_
      refine j_loop (σ := Int) (fun s => [(0, (.slice a0_A a0_n a0_c)), (1, (.slice a1_A a1_n a1_c)), (5, (.int .i64 s))]) (fun s => F) (fun m s => spec_l1Ints.loop0 K κ0 a0 a1 m s = some r1) K (0:Int) h (fun a he => he.sub ⟨rfl, rfl, rfl, trivial⟩) (fun w h => h) ?_
      rintro m p2 h
      cases m with
      | zero => exact absurd h (by rw [spec_l1Ints.loop0]; exact nofun)
      | succ m =>
        rw [spec_l1Ints.loop0] at h
        show J _ _ [(0, (.slice a0_A a0_n a0_c)), (1, (.slice a1_A a1_n a1_c)), (5, (.int .i64 p2))] _ (F)
        refine j_seq ?_
        refine j_seq ?_
        refine j_region ?_
        refine r_q (q_move rfl rfl) rfl rfl ?_
        refine r_q (q_move rfl rfl) rfl rfl ?_
        refine r_q (q_lenX a0 a0_h un32 rfl rfl rfl rfl rfl) rfl rfl ?_
        refine r_q (q_lss rfl rfl rfl) rfl rfl ?_
        refine r_nil ?_
        refine j_then ?_
        rcases of_if h with ⟨c14, h⟩ | ⟨c14, h⟩
        · refine j_true rfl (decide_eq_true c14) ?_
          refine j_skip ?_
          refine j_then ?_
          refine j_seq ?_
          refine j_block ?_
          refine j_seq ?_
          obtain ⟨c15, h⟩ := of_guard h
          obtain ⟨c16, h⟩ := of_guard h
          refine j_draw (F) 9 follows_any rfl ?_
          refine d_take 0 rfl (q_move rfl rfl) rfl rfl (by kernel_rfl) (by kernel_rfl) (by kernel_rfl) (fun w h => h) ?_
          refine d_take 1 rfl (q_move rfl rfl) rfl rfl (by kernel_rfl) (by kernel_rfl) (by kernel_rfl) (fun w h => h) ?_
          refine d_take 2 rfl (q_ix a0_R (ints_len1 _ a0) (by decide) a0_h c15 un32 sz3 rfl rfl rfl) rfl rfl (by kernel_rfl) (by kernel_rfl) (by kernel_rfl) (fun w h => h) ?_
          refine d_take 3 rfl (q_ldI a0_R c15 ag3 rfl rfl) rfl rfl (by kernel_rfl) (by kernel_rfl) (by kernel_rfl) (fun w h => h) ?_
          refine d_take 4 rfl (q_move rfl rfl) rfl rfl (by kernel_rfl) (by kernel_rfl) (by kernel_rfl) (fun w h => h) ?_
          refine d_take 5 rfl (q_move rfl rfl) rfl rfl (by kernel_rfl) (by kernel_rfl) (by kernel_rfl) (fun w h => h) ?_
          refine d_take 6 rfl (q_ix a1_R (ints_len1 _ a1) (by decide) a1_h c16 un32 sz3 rfl rfl rfl) rfl rfl (by kernel_rfl) (by kernel_rfl) (by kernel_rfl) (fun w h => h) ?_
          refine d_take 7 rfl (q_ldI a1_R c16 ag3 rfl rfl) rfl rfl (by kernel_rfl) (by kernel_rfl) (by kernel_rfl) (fun w h => h) ?_
          refine d_take 8 rfl (q_neq rfl rfl rfl) rfl rfl (by kernel_rfl) (by kernel_rfl) (by kernel_rfl) (fun w h => h) ?_
          refine d_done (by kernel_rfl) ?_
          refine j_then ?_
          rcases of_if h with ⟨c17, h⟩ | ⟨c17, h⟩
          · refine j_false rfl (bne_f c17) ?_
            refine j_skip ?_
            refine j_in ?_
            refine j_then ?_
            refine j_region ?_
            refine r_q (q_move rfl rfl) rfl rfl ?_
            refine r_q (q_add rfl rfl rfl) rfl rfl ?_
            refine r_q (q_assign rfl rfl) rfl rfl ?_
            refine r_nil ?_
            refine j_then ?_
            exact j_again m (wrap64 (p2 + (1:Int))) (Nat.lt_succ_self m) h (fun a he => he.sub ⟨rfl, rfl, rfl, trivial⟩) (fun w h => h)
          · refine j_true rfl (bne_t c17) ?_
            refine j_seq ?_
            refine j_region ?_
            refine r_q (q_assign rfl rfl) rfl rfl ?_
            refine r_nil ?_
            refine j_then ?_
            refine j_ret ?_
            refine j_in_ret ?_
            refine j_then_ret ?_
            refine j_then_ret ?_
            refine j_in_ret ?_
            refine j_then_ret ?_
            refine j_then_ret ?_
            cases h
            exact j_return rfl (ResOf.tmp rfl ResOf.nil) rfl (fun w h => ⟨(), rfl, h⟩)
        · refine j_false rfl (decide_eq_false c14) ?_
          refine j_exit ?_
          refine j_then_exit ?_
          refine j_then_exit ?_
          refine j_in_exit ?_
          refine j_then ?_
          exact j_meet () h (fun a he => he.sub trivial) (fun w h => h)
    · rintro _ h
      subst hκ0
      show J _ _ [] _ (F)
      refine j_then ?_
      refine j_seq ?_
      refine j_region ?_
      refine r_q (q_assign rfl rfl) rfl rfl ?_
      refine r_nil ?_
      refine j_then ?_
      refine j_ret ?_
      cases h
      exact j_return rfl (ResOf.tmp rfl ResOf.nil) rfl (fun w h => ⟨(), rfl, h⟩)
  · refine j_true rfl (bne_t c1) ?_
    refine j_seq ?_
    refine j_region ?_
    refine r_q (q_assign rfl rfl) rfl rfl ?_
    refine r_nil ?_
    refine j_then ?_
    refine j_ret ?_
    refine j_then_ret ?_
    cases h
    exact j_return rfl (ResOf.tmp rfl ResOf.nil) rfl (fun w h => ⟨(), rfl, h⟩)

theorem spec_GcSame.calls (K : Nat) (a0_0 : Int) (a0_1 : List Int) (a0_1_A : Option Addr) (a0_1_n a0_1_c : Nat) (a0_2 : Int) (a1_0 : Int) (a1_1 : List Int) (a1_1_A : Option Addr) (a1_1_n a1_1_c : Nat) (a1_2 : Int) {w0 w : World} {F : List Res} {r1 : Bool} (hm : Mem w0 (F) w) (a0_1_h : a0_1.length = a0_1_n) (a0_1_R : Rd w0 F a0_1_A (ints .i64 a0_1)) (a1_1_h : a1_1.length = a1_1_n) (a1_1_R : Rd w0 F a1_1_A (ints .i64 a1_1)) (h : spec_GcSame.f K a0_0 a0_1 a0_2 a1_0 a1_1 a1_2 = some r1) :
    Calls Try.prog 20 (List.toArray [.agg (List.toArray [.int .i64 a0_0, .slice a0_1_A a0_1_n a0_1_c, .int .i64 a0_2]), .agg (List.toArray [.int .i64 a1_0, .slice a1_1_A a1_1_n a1_1_c, .int .i64 a1_2])]) w fun e w' => ∃ x : Unit, e = .returned (.bool r1) ∧ Mem w0 (F) w' := by
  unfold spec_GcSame.f at h
  refine calls_of_J (n := 24) Try.func20 rfl rfl rfl hm ?_
  refine j_seq ?_
  refine j_region ?_
  refine r_do (a_box rfl rfl) rfl rfl (fun x1 => ?_)
  refine r_do (a_box rfl rfl) rfl rfl (fun x2 => ?_)
  refine r_q (q_assign rfl rfl) rfl rfl ?_
  refine j_rs (.box x2 37 [(.int .i64 a1_0), (.slice a1_1_A a1_1_n a1_1_c), (.int .i64 a1_2)] :: .box x1 37 [(.int .i64 a0_0), (.slice a0_1_A a0_1_n a0_1_c), (.int .i64 a0_2)] :: F) (fun _ h => h) ?_
  refine r_nil ?_
  refine j_then ?_
  refine j_seq ?_
  refine j_region ?_
  refine r_q (q_fieldAddr fi37_0 sz3 rfl rfl rfl) rfl rfl ?_
  refine r_q (q_loadb 1 rfl ag3 rfl rfl rfl) rfl rfl ?_
  refine r_q (q_fieldAddr fi37_0 sz3 rfl rfl rfl) rfl rfl ?_
  refine r_q (q_loadb 0 rfl ag3 rfl rfl rfl) rfl rfl ?_
  refine r_q (q_eql rfl rfl rfl) rfl rfl ?_
  refine r_q (q_move rfl rfl) rfl rfl ?_
  rcases of_if h with ⟨c1, h⟩ | ⟨c1, h⟩
  · refine r_qon (q_fieldAddr fi37_2 sz3 rfl rfl rfl) rfl rfl rfl rfl (beq_t c1) rfl ?_
    refine r_qon (q_loadb 1 rfl ag3 rfl rfl rfl) rfl rfl rfl rfl (beq_t c1) rfl ?_
    refine r_qon (q_fieldAddr fi37_2 sz3 rfl rfl rfl) rfl rfl rfl rfl (beq_t c1) rfl ?_
    refine r_qon (q_loadb 0 rfl ag3 rfl rfl rfl) rfl rfl rfl rfl (beq_t c1) rfl ?_
    refine r_qon (q_eql rfl rfl rfl) rfl rfl rfl rfl (beq_t c1) rfl ?_
    refine r_q (q_pick_t rfl rfl (beq_t c1) rfl) rfl rfl ?_
    refine r_q (q_move rfl rfl) rfl rfl ?_
    rcases of_if h with ⟨c2, h⟩ | ⟨c2, h⟩
    · refine r_qon (q_fieldAddr fi37_1 sz32 rfl rfl rfl) rfl rfl rfl rfl (beq_t c2) rfl ?_
      refine r_qon (q_loadb 1 rfl ag32 rfl rfl rfl) rfl rfl rfl rfl (beq_t c2) rfl ?_
      refine r_qon (q_fieldAddr fi37_1 sz32 rfl rfl rfl) rfl rfl rfl rfl (beq_t c2) rfl ?_
      refine r_qon (q_loadb 0 rfl ag32 rfl rfl rfl) rfl rfl rfl rfl (beq_t c2) rfl ?_
      obtain ⟨v1, hb1, h⟩ := of_b1 h
      refine r_on (a_call ok71 rfl rfl rfl rfl (fun w hm => spec_l1Ints.calls K a0_1 a0_1_A a0_1_n a0_1_c a1_1 a1_1_A a1_1_n a1_1_c hm a0_1_h (Rd.drop 2 a0_1_R) a1_1_h (Rd.drop 2 a1_1_R) hb1)) rfl rfl rfl rfl (beq_t c2) rfl (fun x3 => ?_)
      refine r_q (q_pick_t rfl rfl (beq_t c2) rfl) rfl rfl ?_
      refine r_q (q_assign rfl rfl) rfl rfl ?_
      refine j_rs (.box x2 37 [(.int .i64 a1_0), (.slice a1_1_A a1_1_n a1_1_c), (.int .i64 a1_2)] :: .box x1 37 [(.int .i64 a0_0), (.slice a0_1_A a0_1_n a0_1_c), (.int .i64 a0_2)] :: F) (fun _ h => h) ?_
      refine r_nil ?_
      refine j_then ?_
      refine j_ret ?_
      cases h
      exact j_return rfl (ResOf.tmp rfl ResOf.nil) rfl (fun w h => ⟨(), rfl, (h.drop 2)⟩)
    · refine r_off rfl rfl rfl rfl (beq_f c2) rfl ?_
      refine r_off rfl rfl rfl rfl (beq_f c2) rfl ?_
      refine r_off rfl rfl rfl rfl (beq_f c2) rfl ?_
      refine r_off rfl rfl rfl rfl (beq_f c2) rfl ?_
      refine r_off rfl rfl rfl rfl (beq_f c2) rfl ?_
      refine r_q (q_pick_f rfl rfl (beq_f c2) rfl) rfl rfl ?_
      refine r_q (q_assign rfl rfl) rfl rfl ?_
      refine r_nil ?_
      refine j_then ?_
      refine j_ret ?_
      cases h
      exact j_return rfl (ResOf.tmp rfl ResOf.nil) rfl (fun w h => ⟨(), rfl, (h.drop 2)⟩)
  · refine r_off rfl rfl rfl rfl (beq_f c1) rfl ?_
    refine r_off rfl rfl rfl rfl (beq_f c1) rfl ?_
    refine r_off rfl rfl rfl rfl (beq_f c1) rfl ?_
    refine r_off rfl rfl rfl rfl (beq_f c1) rfl ?_
    refine r_off rfl rfl rfl rfl (beq_f c1) rfl ?_
    refine r_q (q_pick_f rfl rfl (beq_f c1) rfl) rfl rfl ?_
    refine r_q (q_move rfl rfl) rfl rfl ?_
    refine r_off rfl rfl rfl rfl rfl rfl ?_
    refine r_off rfl rfl rfl rfl rfl rfl ?_
    refine r_off rfl rfl rfl rfl rfl rfl ?_
    refine r_off rfl rfl rfl rfl rfl rfl ?_
    refine r_off rfl rfl rfl rfl rfl rfl ?_
    refine r_q (q_pick_f rfl rfl rfl rfl) rfl rfl ?_
    refine r_q (q_assign rfl rfl) rfl rfl ?_
    refine r_nil ?_
    refine j_then ?_
    refine j_ret ?_
    cases h
    exact j_return rfl (ResOf.tmp rfl ResOf.nil) rfl (fun w h => ⟨(), rfl, (h.drop 2)⟩)

theorem slices_Equal_int.calls (K : Nat) (a0 : List Int) (a0_A : Option Addr) (a0_n a0_c : Nat) (a1 : List Int) (a1_A : Option Addr) (a1_n a1_c : Nat) {w0 w : World} {F : List Res} {r1 : Bool} (hm : Mem w0 (F) w) (a0_h : a0.length = a0_n) (a0_R : Rd w0 F a0_A (ints .i64 a0)) (a1_h : a1.length = a1_n) (a1_R : Rd w0 F a1_A (ints .i64 a1)) (h : slices_Equal_int.f K a0 a1 = some r1) :
    Calls Try.prog 73 (List.toArray [.slice a0_A a0_n a0_c, .slice a1_A a1_n a1_c]) w fun e w' => ∃ x : Unit, e = .returned (.bool r1) ∧ Mem w0 (F) w' := by
  unfold slices_Equal_int.f at h
  refine calls_of_J (n := 26) Try.func73 rfl rfl rfl hm ?_
  refine j_seq ?_
  refine j_region ?_
  refine r_q (q_assign rfl rfl) rfl rfl ?_
  refine r_nil ?_
  refine j_then ?_
  refine j_seq ?_
  refine j_seq ?_
  refine j_region ?_
  refine r_q (q_move rfl rfl) rfl rfl ?_
  refine r_q (q_lenX a0 a0_h un32 rfl rfl rfl rfl rfl) rfl rfl ?_
  refine r_q (q_move rfl rfl) rfl rfl ?_
  refine r_q (q_lenX a1 a1_h un32 rfl rfl rfl rfl rfl) rfl rfl ?_
  refine r_q (q_neq rfl rfl rfl) rfl rfl ?_
  refine r_nil ?_
  refine j_then ?_
  rcases of_if h with ⟨c1, h⟩ | ⟨c1, h⟩
  · refine j_false rfl (bne_f c1) ?_
    refine j_skip ?_
    refine j_then ?_
    refine j_seq ?_
    refine j_seq ?_
    refine j_region ?_
    refine r_q (q_move rfl rfl) rfl rfl ?_
    refine r_q (q_lenX a0 a0_h un32 rfl rfl rfl rfl rfl) rfl rfl ?_
    refine r_q (q_move rfl rfl) rfl rfl ?_
    refine r_nil ?_
    refine j_then ?_
    obtain ⟨κ0, h, hκ0⟩ := ex_k (g := fun κ => slices_Equal_int.loop0 K κ a0 a1 K (0:Int) = some r1) h
    refine j_cut (σ := Unit) (fun s => []) (fun s => F) (fun s => κ0 () = some r1) ?_ ?_
    · refine j_block ?_
      refine j_loop (σ := Int) (fun s => [(0, (.slice a0_A a0_n a0_c)), (1, (.slice a1_A a1_n a1_c)), (12, (.int .i64 (a0.length : Int))), (13, (.int .i64 s))]) (fun s => F) (fun m s => slices_Equal_int.loop0 K κ0 a0 a1 m s = some r1) K (0:Int) h (fun a he => he.sub ⟨rfl, rfl, rfl, rfl, trivial⟩) (fun w h => h) ?_
      rintro m p2 h
      cases m with
      | zero => exact absurd h (by rw [slices_Equal_int.loop0]; exact nofun)
      | succ m =>
        rw [slices_Equal_int.loop0] at h
        show J _ _ [(0, (.slice a0_A a0_n a0_c)), (1, (.slice a1_A a1_n a1_c)), (12, (.int .i64 (a0.length : Int))), (13, (.int .i64 p2))] _ (F)
        refine j_seq ?_
        refine j_region ?_
        refine r_q (q_lss rfl rfl rfl) rfl rfl ?_
        refine r_nil ?_
        refine j_then ?_
        refine j_seq ?_
        rcases of_if h with ⟨c14, h⟩ | ⟨c14, h⟩
        · refine j_true rfl (decide_eq_true c14) ?_
          refine j_skip ?_
          refine j_then ?_
          refine j_seq ?_
          refine j_block ?_
          refine j_seq ?_
          refine j_region ?_
          refine r_q (q_move rfl rfl) rfl rfl ?_
          refine r_q (q_assign rfl rfl) rfl rfl ?_
          refine r_nil ?_
          refine j_then ?_
          refine j_seq ?_
          obtain ⟨c15, h⟩ := of_guard h
          obtain ⟨c16, h⟩ := of_guard h
          refine j_draw (F) 9 follows_any rfl ?_
          refine d_take 0 rfl (q_move rfl rfl) rfl rfl (by kernel_rfl) (by kernel_rfl) (by kernel_rfl) (fun w h => h) ?_
          refine d_take 1 rfl (q_move rfl rfl) rfl rfl (by kernel_rfl) (by kernel_rfl) (by kernel_rfl) (fun w h => h) ?_
          refine d_take 2 rfl (q_ix a0_R (ints_len1 _ a0) (by decide) a0_h c15 un32 sz3 rfl rfl rfl) rfl rfl (by kernel_rfl) (by kernel_rfl) (by kernel_rfl) (fun w h => h) ?_
          refine d_take 3 rfl (q_ldI a0_R c15 ag3 rfl rfl) rfl rfl (by kernel_rfl) (by kernel_rfl) (by kernel_rfl) (fun w h => h) ?_
          refine d_take 4 rfl (q_move rfl rfl) rfl rfl (by kernel_rfl) (by kernel_rfl) (by kernel_rfl) (fun w h => h) ?_
          refine d_take 5 rfl (q_move rfl rfl) rfl rfl (by kernel_rfl) (by kernel_rfl) (by kernel_rfl) (fun w h => h) ?_
          refine d_take 6 rfl (q_ix a1_R (ints_len1 _ a1) (by decide) a1_h c16 un32 sz3 rfl rfl rfl) rfl rfl (by kernel_rfl) (by kernel_rfl) (by kernel_rfl) (fun w h => h) ?_
          refine d_take 7 rfl (q_ldI a1_R c16 ag3 rfl rfl) rfl rfl (by kernel_rfl) (by kernel_rfl) (by kernel_rfl) (fun w h => h) ?_
          refine d_take 8 rfl (q_neq rfl rfl rfl) rfl rfl (by kernel_rfl) (by kernel_rfl) (by kernel_rfl) (fun w h => h) ?_
          refine d_done (by kernel_rfl) ?_
          refine j_then ?_
          rcases of_if h with ⟨c17, h⟩ | ⟨c17, h⟩
          · refine j_false rfl (bne_f c17) ?_
            refine j_skip ?_
            refine j_in ?_
            refine j_then ?_
            refine j_region ?_
            refine r_q (q_add rfl rfl rfl) rfl rfl ?_
            refine r_q (q_move rfl rfl) rfl rfl ?_
            refine r_nil ?_
            refine j_then ?_
            exact j_again m (wrap64 (p2 + (1:Int))) (Nat.lt_succ_self m) h (fun a he => he.sub ⟨rfl, rfl, rfl, rfl, trivial⟩) (fun w h => h)
          · refine j_true rfl (bne_t c17) ?_
            refine j_seq ?_
            refine j_region ?_
            refine r_q (q_assign rfl rfl) rfl rfl ?_
            refine r_nil ?_
            refine j_then ?_
            refine j_ret ?_
            refine j_in_ret ?_
            refine j_then_ret ?_
            refine j_then_ret ?_
            refine j_in_ret ?_
            refine j_then_ret ?_
            refine j_then_ret ?_
            cases h
            exact j_return rfl (ResOf.tmp rfl ResOf.nil) rfl (fun w h => ⟨(), rfl, h⟩)
        · refine j_false rfl (decide_eq_false c14) ?_
          refine j_exit ?_
          refine j_then_exit ?_
          refine j_then_exit ?_
          refine j_in_exit ?_
          refine j_then ?_
          exact j_meet () h (fun a he => he.sub trivial) (fun w h => h)
    · rintro _ h
      subst hκ0
      show J _ _ [] _ (F)
      refine j_then ?_
      refine j_seq ?_
      refine j_region ?_
      refine r_q (q_assign rfl rfl) rfl rfl ?_
      refine r_nil ?_
      refine j_then ?_
      refine j_ret ?_
      cases h
      exact j_return rfl (ResOf.tmp rfl ResOf.nil) rfl (fun w h => ⟨(), rfl, h⟩)
  · refine j_true rfl (bne_t c1) ?_
    refine j_seq ?_
    refine j_region ?_
    refine r_q (q_assign rfl rfl) rfl rfl ?_
    refine r_nil ?_
    refine j_then ?_
    refine j_ret ?_
    refine j_then_ret ?_
    cases h
    exact j_return rfl (ResOf.tmp rfl ResOf.nil) rfl (fun w h => ⟨(), rfl, h⟩)

theorem impl_GcSame.calls (K : Nat) (a0_0 : Int) (a0_1 : List Int) (a0_1_A : Option Addr) (a0_1_n a0_1_c : Nat) (a0_2 : Int) (a1_0 : Int) (a1_1 : List Int) (a1_1_A : Option Addr) (a1_1_n a1_1_c : Nat) (a1_2 : Int) {w0 w : World} {F : List Res} {r1 : Bool} (hm : Mem w0 (F) w) (a0_1_h : a0_1.length = a0_1_n) (a0_1_R : Rd w0 F a0_1_A (ints .i64 a0_1)) (a1_1_h : a1_1.length = a1_1_n) (a1_1_R : Rd w0 F a1_1_A (ints .i64 a1_1)) (h : impl_GcSame.f K a0_0 a0_1 a0_2 a1_0 a1_1 a1_2 = some r1) :
    Calls Try.prog 22 (List.toArray [.agg (List.toArray [.int .i64 a0_0, .slice a0_1_A a0_1_n a0_1_c, .int .i64 a0_2]), .agg (List.toArray [.int .i64 a1_0, .slice a1_1_A a1_1_n a1_1_c, .int .i64 a1_2])]) w fun e w' => ∃ x : Unit, e = .returned (.bool r1) ∧ Mem w0 (F) w' := by
  unfold impl_GcSame.f at h
  refine calls_of_J (n := 24) Try.func22 rfl rfl rfl hm ?_
  refine j_seq ?_
  refine j_region ?_
  refine r_do (a_box rfl rfl) rfl rfl (fun x1 => ?_)
  refine r_do (a_box rfl rfl) rfl rfl (fun x2 => ?_)
  refine r_q (q_assign rfl rfl) rfl rfl ?_
  refine j_rs (.box x2 37 [(.int .i64 a1_0), (.slice a1_1_A a1_1_n a1_1_c), (.int .i64 a1_2)] :: .box x1 37 [(.int .i64 a0_0), (.slice a0_1_A a0_1_n a0_1_c), (.int .i64 a0_2)] :: F) (fun _ h => h) ?_
  refine r_nil ?_
  refine j_then ?_
  refine j_seq ?_
  refine j_region ?_
  refine r_q (q_fieldAddr fi37_0 sz3 rfl rfl rfl) rfl rfl ?_
  refine r_q (q_loadb 1 rfl ag3 rfl rfl rfl) rfl rfl ?_
  refine r_q (q_fieldAddr fi37_0 sz3 rfl rfl rfl) rfl rfl ?_
  refine r_q (q_loadb 0 rfl ag3 rfl rfl rfl) rfl rfl ?_
  refine r_q (q_eql rfl rfl rfl) rfl rfl ?_
  refine r_q (q_move rfl rfl) rfl rfl ?_
  rcases of_if h with ⟨c1, h⟩ | ⟨c1, h⟩
  · refine r_qon (q_fieldAddr fi37_2 sz3 rfl rfl rfl) rfl rfl rfl rfl (beq_t c1) rfl ?_
    refine r_qon (q_loadb 1 rfl ag3 rfl rfl rfl) rfl rfl rfl rfl (beq_t c1) rfl ?_
    refine r_qon (q_fieldAddr fi37_2 sz3 rfl rfl rfl) rfl rfl rfl rfl (beq_t c1) rfl ?_
    refine r_qon (q_loadb 0 rfl ag3 rfl rfl rfl) rfl rfl rfl rfl (beq_t c1) rfl ?_
    refine r_qon (q_eql rfl rfl rfl) rfl rfl rfl rfl (beq_t c1) rfl ?_
    refine r_q (q_pick_t rfl rfl (beq_t c1) rfl) rfl rfl ?_
    refine r_q (q_move rfl rfl) rfl rfl ?_
    rcases of_if h with ⟨c2, h⟩ | ⟨c2, h⟩
    · refine r_qon (q_fieldAddr fi37_1 sz32 rfl rfl rfl) rfl rfl rfl rfl (beq_t c2) rfl ?_
      refine r_qon (q_loadb 1 rfl ag32 rfl rfl rfl) rfl rfl rfl rfl (beq_t c2) rfl ?_
      refine r_qon (q_fieldAddr fi37_1 sz32 rfl rfl rfl) rfl rfl rfl rfl (beq_t c2) rfl ?_
      refine r_qon (q_loadb 0 rfl ag32 rfl rfl rfl) rfl rfl rfl rfl (beq_t c2) rfl ?_
      obtain ⟨v1, hb1, h⟩ := of_b1 h
      refine r_on (a_call ok73 rfl rfl rfl rfl (fun w hm => slices_Equal_int.calls K a0_1 a0_1_A a0_1_n a0_1_c a1_1 a1_1_A a1_1_n a1_1_c hm a0_1_h (Rd.drop 2 a0_1_R) a1_1_h (Rd.drop 2 a1_1_R) hb1)) rfl rfl rfl rfl (beq_t c2) rfl (fun x3 => ?_)
      refine r_q (q_pick_t rfl rfl (beq_t c2) rfl) rfl rfl ?_
      refine r_q (q_assign rfl rfl) rfl rfl ?_
      refine j_rs (.box x2 37 [(.int .i64 a1_0), (.slice a1_1_A a1_1_n a1_1_c), (.int .i64 a1_2)] :: .box x1 37 [(.int .i64 a0_0), (.slice a0_1_A a0_1_n a0_1_c), (.int .i64 a0_2)] :: F) (fun _ h => h) ?_
      refine r_nil ?_
      refine j_then ?_
      refine j_ret ?_
      cases h
      exact j_return rfl (ResOf.tmp rfl ResOf.nil) rfl (fun w h => ⟨(), rfl, (h.drop 2)⟩)
    · refine r_off rfl rfl rfl rfl (beq_f c2) rfl ?_
      refine r_off rfl rfl rfl rfl (beq_f c2) rfl ?_
      refine r_off rfl rfl rfl rfl (beq_f c2) rfl ?_
      refine r_off rfl rfl rfl rfl (beq_f c2) rfl ?_
      refine r_off rfl rfl rfl rfl (beq_f c2) rfl ?_
      refine r_q (q_pick_f rfl rfl (beq_f c2) rfl) rfl rfl ?_
      refine r_q (q_assign rfl rfl) rfl rfl ?_
      refine r_nil ?_
      refine j_then ?_
      refine j_ret ?_
      cases h
      exact j_return rfl (ResOf.tmp rfl ResOf.nil) rfl (fun w h => ⟨(), rfl, (h.drop 2)⟩)
  · refine r_off rfl rfl rfl rfl (beq_f c1) rfl ?_
    refine r_off rfl rfl rfl rfl (beq_f c1) rfl ?_
    refine r_off rfl rfl rfl rfl (beq_f c1) rfl ?_
    refine r_off rfl rfl rfl rfl (beq_f c1) rfl ?_
    refine r_off rfl rfl rfl rfl (beq_f c1) rfl ?_
    refine r_q (q_pick_f rfl rfl (beq_f c1) rfl) rfl rfl ?_
    refine r_q (q_move rfl rfl) rfl rfl ?_
    refine r_off rfl rfl rfl rfl rfl rfl ?_
    refine r_off rfl rfl rfl rfl rfl rfl ?_
    refine r_off rfl rfl rfl rfl rfl rfl ?_
    refine r_off rfl rfl rfl rfl rfl rfl ?_
    refine r_off rfl rfl rfl rfl rfl rfl ?_
    refine r_q (q_pick_f rfl rfl rfl rfl) rfl rfl ?_
    refine r_q (q_assign rfl rfl) rfl rfl ?_
    refine r_nil ?_
    refine j_then ?_
    refine j_ret ?_
    cases h
    exact j_return rfl (ResOf.tmp rfl ResOf.nil) rfl (fun w h => ⟨(), rfl, (h.drop 2)⟩)

theorem laws_eqIntS.calls (K : Nat) (a0 : List Int) (a0_A : Option Addr) (a0_n a0_c : Nat) (a1 : List Int) (a1_A : Option Addr) (a1_n a1_c : Nat) {w0 w : World} {F : List Res} {r1 : Bool} (hm : Mem w0 (F) w) (a0_h : a0.length = a0_n) (a0_R : Rd w0 F a0_A (ints .i64 a0)) (a1_h : a1.length = a1_n) (a1_R : Rd w0 F a1_A (ints .i64 a1)) (h : laws_eqIntS.f K a0 a1 = some r1) :
    Calls Try.prog 38 (List.toArray [.slice a0_A a0_n a0_c, .slice a1_A a1_n a1_c]) w fun e w' => ∃ x : Unit, e = .returned (.bool r1) ∧ Mem w0 (F) w' := by
  unfold laws_eqIntS.f at h
  refine calls_of_J (n := 26) Try.func38 rfl rfl rfl hm ?_
  refine j_seq ?_
  refine j_region ?_
  refine r_q (q_assign rfl rfl) rfl rfl ?_
  refine r_nil ?_
  refine j_then ?_
  refine j_seq ?_
  refine j_seq ?_
  refine j_region ?_
  refine r_q (q_move rfl rfl) rfl rfl ?_
  refine r_q (q_lenX a0 a0_h un32 rfl rfl rfl rfl rfl) rfl rfl ?_
  refine r_q (q_move rfl rfl) rfl rfl ?_
  refine r_q (q_lenX a1 a1_h un32 rfl rfl rfl rfl rfl) rfl rfl ?_
  refine r_q (q_neq rfl rfl rfl) rfl rfl ?_
  refine r_nil ?_
  refine j_then ?_
  rcases of_if h with ⟨c1, h⟩ | ⟨c1, h⟩
  · refine j_false rfl (bne_f c1) ?_
    refine j_skip ?_
    refine j_then ?_
    refine j_seq ?_
    refine j_seq ?_
    refine j_region ?_
    refine r_q (q_assign rfl rfl) rfl rfl ?_
    refine r_nil ?_
    refine j_then ?_
    obtain ⟨κ0, h, hκ0⟩ := ex_k (g := fun κ => laws_eqIntS.loop0 K κ a0 a1 K (0:Int) = some r1) h
    refine j_cut (σ := Unit) (fun s => []) (fun s => F) (fun s => κ0 () = some r1) ?_ ?_
    · refine j_block ?_
      refine j_loop (σ := Int) (fun s => [(0, (.slice a0_A a0_n a0_c)), (1, (.slice a1_A a1_n a1_c)), (5, (.int .i64 s))]) (fun s => F) (fun m s => laws_eqIntS.loop0 K κ0 a0 a1 m s = some r1) K (0:Int) h (fun a he => he.sub ⟨rfl, rfl, rfl, trivial⟩) (fun w h => h) ?_
      rintro m p2 h
      cases m with
      | zero => exact absurd h (by rw [laws_eqIntS.loop0]; exact nofun)
      | succ m =>
        rw [laws_eqIntS.loop0] at h
        show J _ _ [(0, (.slice a0_A a0_n a0_c)), (1, (.slice a1_A a1_n a1_c)), (5, (.int .i64 p2))] _ (F)
        refine j_seq ?_
        refine j_seq ?_
        refine j_region ?_
        refine r_q (q_move rfl rfl) rfl rfl ?_
        refine r_q (q_move rfl rfl) rfl rfl ?_
        refine r_q (q_lenX a0 a0_h un32 rfl rfl rfl rfl rfl) rfl rfl ?_
        refine r_q (q_lss rfl rfl rfl) rfl rfl ?_
        refine r_nil ?_
        refine j_then ?_
        rcases of_if h with ⟨c14, h⟩ | ⟨c14, h⟩
        · refine j_true rfl (decide_eq_true c14) ?_
          refine j_skip ?_
          refine j_then ?_
          refine j_seq ?_
          refine j_block ?_
          refine j_seq ?_
          obtain ⟨c15, h⟩ := of_guard h
          obtain ⟨c16, h⟩ := of_guard h
          refine j_draw (F) 9 follows_any rfl ?_
          refine d_take 0 rfl (q_move rfl rfl) rfl rfl (by kernel_rfl) (by kernel_rfl) (by kernel_rfl) (fun w h => h) ?_
          refine d_take 1 rfl (q_move rfl rfl) rfl rfl (by kernel_rfl) (by kernel_rfl) (by kernel_rfl) (fun w h => h) ?_
          refine d_take 2 rfl (q_ix a0_R (ints_len1 _ a0) (by decide) a0_h c15 un32 sz3 rfl rfl rfl) rfl rfl (by kernel_rfl) (by kernel_rfl) (by kernel_rfl) (fun w h => h) ?_
          refine d_take 3 rfl (q_ldI a0_R c15 ag3 rfl rfl) rfl rfl (by kernel_rfl) (by kernel_rfl) (by kernel_rfl) (fun w h => h) ?_
          refine d_take 4 rfl (q_move rfl rfl) rfl rfl (by kernel_rfl) (by kernel_rfl) (by kernel_rfl) (fun w h => h) ?_
          refine d_take 5 rfl (q_move rfl rfl) rfl rfl (by kernel_rfl) (by kernel_rfl) (by kernel_rfl) (fun w h => h) ?_
          refine d_take 6 rfl (q_ix a1_R (ints_len1 _ a1) (by decide) a1_h c16 un32 sz3 rfl rfl rfl) rfl rfl (by kernel_rfl) (by kernel_rfl) (by kernel_rfl) (fun w h => h) ?_
          refine d_take 7 rfl (q_ldI a1_R c16 ag3 rfl rfl) rfl rfl (by kernel_rfl) (by kernel_rfl) (by kernel_rfl) (fun w h => h) ?_
          refine d_take 8 rfl (q_neq rfl rfl rfl) rfl rfl (by kernel_rfl) (by kernel_rfl) (by kernel_rfl) (fun w h => h) ?_
          refine d_done (by kernel_rfl) ?_
          refine j_then ?_
          rcases of_if h with ⟨c17, h⟩ | ⟨c17, h⟩
          · refine j_false rfl (bne_f c17) ?_
            refine j_skip ?_
            refine j_in ?_
            refine j_then ?_
            refine j_region ?_
            refine r_q (q_move rfl rfl) rfl rfl ?_
            refine r_q (q_add rfl rfl rfl) rfl rfl ?_
            refine r_q (q_assign rfl rfl) rfl rfl ?_
            refine r_nil ?_
            refine j_then ?_
            exact j_again m (wrap64 (p2 + (1:Int))) (Nat.lt_succ_self m) h (fun a he => he.sub ⟨rfl, rfl, rfl, trivial⟩) (fun w h => h)
          · refine j_true rfl (bne_t c17) ?_
            refine j_seq ?_
            refine j_region ?_
            refine r_q (q_assign rfl rfl) rfl rfl ?_
            refine r_nil ?_
            refine j_then ?_
            refine j_ret ?_
            refine j_in_ret ?_
            refine j_then_ret ?_
            refine j_then_ret ?_
            refine j_in_ret ?_
            refine j_then_ret ?_
            refine j_then_ret ?_
            cases h
            exact j_return rfl (ResOf.tmp rfl ResOf.nil) rfl (fun w h => ⟨(), rfl, h⟩)
        · refine j_false rfl (decide_eq_false c14) ?_
          refine j_exit ?_
          refine j_then_exit ?_
          refine j_then_exit ?_
          refine j_in_exit ?_
          refine j_then ?_
          exact j_meet () h (fun a he => he.sub trivial) (fun w h => h)
    · rintro _ h
      subst hκ0
      show J _ _ [] _ (F)
      refine j_then ?_
      refine j_seq ?_
      refine j_region ?_
      refine r_q (q_assign rfl rfl) rfl rfl ?_
      refine r_nil ?_
      refine j_then ?_
      refine j_ret ?_
      cases h
      exact j_return rfl (ResOf.tmp rfl ResOf.nil) rfl (fun w h => ⟨(), rfl, h⟩)
  · refine j_true rfl (bne_t c1) ?_
    refine j_seq ?_
    refine j_region ?_
    refine r_q (q_assign rfl rfl) rfl rfl ?_
    refine r_nil ?_
    refine j_then ?_
    refine j_ret ?_
    refine j_then_ret ?_
    cases h
    exact j_return rfl (ResOf.tmp rfl ResOf.nil) rfl (fun w h => ⟨(), rfl, h⟩)

theorem laws_eqGc.calls (K : Nat) (a0_0 : Int) (a0_1 : List Int) (a0_1_A : Option Addr) (a0_1_n a0_1_c : Nat) (a0_2 : Int) (a1_0 : Int) (a1_1 : List Int) (a1_1_A : Option Addr) (a1_1_n a1_1_c : Nat) (a1_2 : Int) {w0 w : World} {F : List Res} {r1 : Bool} (hm : Mem w0 (F) w) (a0_1_h : a0_1.length = a0_1_n) (a0_1_R : Rd w0 F a0_1_A (ints .i64 a0_1)) (a1_1_h : a1_1.length = a1_1_n) (a1_1_R : Rd w0 F a1_1_A (ints .i64 a1_1)) (h : laws_eqGc.f K a0_0 a0_1 a0_2 a1_0 a1_1 a1_2 = some r1) :
    Calls Try.prog 23 (List.toArray [.agg (List.toArray [.int .i64 a0_0, .slice a0_1_A a0_1_n a0_1_c, .int .i64 a0_2]), .agg (List.toArray [.int .i64 a1_0, .slice a1_1_A a1_1_n a1_1_c, .int .i64 a1_2])]) w fun e w' => ∃ x : Unit, e = .returned (.bool r1) ∧ Mem w0 (F) w' := by
  unfold laws_eqGc.f at h
  refine calls_of_J (n := 21) Try.func23 rfl rfl rfl hm ?_
  refine j_seq ?_
  refine j_region ?_
  refine r_do (a_box rfl rfl) rfl rfl (fun x1 => ?_)
  refine r_do (a_box rfl rfl) rfl rfl (fun x2 => ?_)
  refine r_q (q_assign rfl rfl) rfl rfl ?_
  refine j_rs (.box x2 37 [(.int .i64 a1_0), (.slice a1_1_A a1_1_n a1_1_c), (.int .i64 a1_2)] :: .box x1 37 [(.int .i64 a0_0), (.slice a0_1_A a0_1_n a0_1_c), (.int .i64 a0_2)] :: F) (fun _ h => h) ?_
  refine r_nil ?_
  refine j_then ?_
  refine j_seq ?_
  refine j_seq ?_
  refine j_region ?_
  refine r_q (q_fieldAddr fi37_0 sz3 rfl rfl rfl) rfl rfl ?_
  refine r_q (q_loadb 1 rfl ag3 rfl rfl rfl) rfl rfl ?_
  refine r_q (q_fieldAddr fi37_0 sz3 rfl rfl rfl) rfl rfl ?_
  refine r_q (q_loadb 0 rfl ag3 rfl rfl rfl) rfl rfl ?_
  refine r_q (q_neq rfl rfl rfl) rfl rfl ?_
  refine r_nil ?_
  refine j_then ?_
  rcases of_if h with ⟨c1, h⟩ | ⟨c1, h⟩
  · refine j_false rfl (bne_f c1) ?_
    refine j_skip ?_
    refine j_then ?_
    refine j_seq ?_
    refine j_seq ?_
    refine j_region ?_
    refine r_q (q_fieldAddr fi37_1 sz32 rfl rfl rfl) rfl rfl ?_
    refine r_q (q_loadb 1 rfl ag32 rfl rfl rfl) rfl rfl ?_
    refine r_q (q_fieldAddr fi37_1 sz32 rfl rfl rfl) rfl rfl ?_
    refine r_q (q_loadb 0 rfl ag32 rfl rfl rfl) rfl rfl ?_
    obtain ⟨v1, hb1, h⟩ := of_b1 h
    refine r_do (a_call ok38 rfl rfl rfl rfl (fun w hm => laws_eqIntS.calls K a0_1 a0_1_A a0_1_n a0_1_c a1_1 a1_1_A a1_1_n a1_1_c hm a0_1_h (Rd.drop 2 a0_1_R) a1_1_h (Rd.drop 2 a1_1_R) hb1)) rfl rfl (fun x3 => ?_)
    refine r_q (q_not rfl rfl) rfl rfl ?_
    refine j_rs (.box x2 37 [(.int .i64 a1_0), (.slice a1_1_A a1_1_n a1_1_c), (.int .i64 a1_2)] :: .box x1 37 [(.int .i64 a0_0), (.slice a0_1_A a0_1_n a0_1_c), (.int .i64 a0_2)] :: F) (fun _ h => h) ?_
    refine r_nil ?_
    refine j_then ?_
    rcases of_if h with ⟨c2, h⟩ | ⟨c2, h⟩
    · refine j_false rfl (not_f c2) ?_
      refine j_skip ?_
      refine j_then ?_
      refine j_seq ?_
      refine j_seq ?_
      refine j_region ?_
      refine r_q (q_fieldAddr fi37_2 sz3 rfl rfl rfl) rfl rfl ?_
      refine r_q (q_loadb 1 rfl ag3 rfl rfl rfl) rfl rfl ?_
      refine r_q (q_fieldAddr fi37_2 sz3 rfl rfl rfl) rfl rfl ?_
      refine r_q (q_loadb 0 rfl ag3 rfl rfl rfl) rfl rfl ?_
      refine r_q (q_neq rfl rfl rfl) rfl rfl ?_
      refine r_nil ?_
      refine j_then ?_
      rcases of_if h with ⟨c3, h⟩ | ⟨c3, h⟩
      · refine j_false rfl (bne_f c3) ?_
        refine j_skip ?_
        refine j_then ?_
        refine j_seq ?_
        refine j_region ?_
        refine r_q (q_assign rfl rfl) rfl rfl ?_
        refine r_nil ?_
        refine j_then ?_
        refine j_ret ?_
        cases h
        exact j_return rfl (ResOf.tmp rfl ResOf.nil) rfl (fun w h => ⟨(), rfl, (h.drop 2)⟩)
      · refine j_true rfl (bne_t c3) ?_
        refine j_seq ?_
        refine j_region ?_
        refine r_q (q_assign rfl rfl) rfl rfl ?_
        refine r_nil ?_
        refine j_then ?_
        refine j_ret ?_
        refine j_then_ret ?_
        cases h
        exact j_return rfl (ResOf.tmp rfl ResOf.nil) rfl (fun w h => ⟨(), rfl, (h.drop 2)⟩)
    · refine j_true rfl (not_t (var_f c2)) ?_
      refine j_seq ?_
      refine j_region ?_
      refine r_q (q_assign rfl rfl) rfl rfl ?_
      refine r_nil ?_
      refine j_then ?_
      refine j_ret ?_
      refine j_then_ret ?_
      cases h
      exact j_return rfl (ResOf.tmp rfl ResOf.nil) rfl (fun w h => ⟨(), rfl, (h.drop 2)⟩)
  · refine j_true rfl (bne_t c1) ?_
    refine j_seq ?_
    refine j_region ?_
    refine r_q (q_assign rfl rfl) rfl rfl ?_
    refine r_nil ?_
    refine j_then ?_
    refine j_ret ?_
    refine j_then_ret ?_
    cases h
    exact j_return rfl (ResOf.tmp rfl ResOf.nil) rfl (fun w h => ⟨(), rfl, (h.drop 2)⟩)

theorem laws_FnExactGcSame.calls (K : Nat) (a0_0 : Int) (a0_1 : List Int) (a0_1_A : Option Addr) (a0_1_n a0_1_c : Nat) (a0_2 : Int) (a1_0 : Int) (a1_1 : List Int) (a1_1_A : Option Addr) (a1_1_n a1_1_c : Nat) (a1_2 : Int) {w0 w : World} {F : List Res} {r1 : Bool} (hm : Mem w0 (F) w) (a0_1_h : a0_1.length = a0_1_n) (a0_1_R : Rd w0 F a0_1_A (ints .i64 a0_1)) (a1_1_h : a1_1.length = a1_1_n) (a1_1_R : Rd w0 F a1_1_A (ints .i64 a1_1)) (h : laws_FnExactGcSame.f K a0_0 a0_1 a0_2 a1_0 a1_1 a1_2 = some r1) :
    Calls Try.prog 5 (List.toArray [.agg (List.toArray [.int .i64 a0_0, .slice a0_1_A a0_1_n a0_1_c, .int .i64 a0_2]), .agg (List.toArray [.int .i64 a1_0, .slice a1_1_A a1_1_n a1_1_c, .int .i64 a1_2])]) w fun e w' => ∃ x : Unit, e = .returned (.bool r1) ∧ Mem w0 (F) w' := by
  unfold laws_FnExactGcSame.f at h
  refine calls_of_J (n := 45) Try.func5 rfl rfl rfl hm ?_
  refine j_seq ?_
  refine j_region ?_
  refine r_do (a_box rfl rfl) rfl rfl (fun x1 => ?_)
  refine r_do (a_box rfl rfl) rfl rfl (fun x2 => ?_)
  refine r_q (q_assign rfl rfl) rfl rfl ?_
  refine j_rs (.box x2 34 [(.int .i64 a1_0), (.slice a1_1_A a1_1_n a1_1_c), (.int .i64 a1_2)] :: .box x1 34 [(.int .i64 a0_0), (.slice a0_1_A a0_1_n a0_1_c), (.int .i64 a0_2)] :: F) (fun _ h => h) ?_
  refine r_nil ?_
  refine j_then ?_
  refine j_seq ?_
  refine j_region ?_
  refine r_q (q_assign rfl rfl) rfl rfl ?_
  refine r_nil ?_
  refine j_then ?_
  refine j_seq ?_
  refine j_region ?_
  refine r_q (q_loadb_agg 1 rfl ag34 sz34 rfl rfl rfl rfl) rfl rfl ?_
  refine r_q (q_move rfl rfl) rfl rfl ?_
  obtain ⟨v1, hb1, h⟩ := of_b1 h
  refine r_do (a_call ok19 rfl rfl rfl rfl (fun w hm => laws_szGc.calls K a0_0 a0_1 a0_1_A a0_1_n a0_1_c a0_2 (1048576:Int) hm a0_1_h (Rd.drop 2 a0_1_R) hb1)) rfl rfl (fun x3 => ?_)
  refine r_q (q_assign rfl rfl) rfl rfl ?_
  refine j_rs (.box x2 34 [(.int .i64 a1_0), (.slice a1_1_A a1_1_n a1_1_c), (.int .i64 a1_2)] :: .box x1 34 [(.int .i64 a0_0), (.slice a0_1_A a0_1_n a0_1_c), (.int .i64 a0_2)] :: F) (fun _ h => h) ?_
  refine r_nil ?_
  refine j_then ?_
  refine j_seq ?_
  refine j_seq ?_
  refine j_region ?_
  refine r_q (q_move rfl rfl) rfl rfl ?_
  refine r_q (q_lss rfl rfl rfl) rfl rfl ?_
  refine r_nil ?_
  refine j_then ?_
  rcases of_if h with ⟨c1, h⟩ | ⟨c1, h⟩
  · refine j_true rfl (decide_eq_true c1) ?_
    refine j_seq ?_
    refine j_region ?_
    refine r_q (q_assign rfl rfl) rfl rfl ?_
    refine r_nil ?_
    refine j_then ?_
    refine j_ret ?_
    refine j_then_ret ?_
    cases h
    exact j_return rfl (ResOf.tmp rfl ResOf.nil) rfl (fun w h => ⟨(), rfl, (h.drop 2)⟩)
  · refine j_false rfl (decide_eq_false c1) ?_
    refine j_skip ?_
    refine j_then ?_
    refine j_seq ?_
    refine j_region ?_
    refine r_q (q_loadb_agg 0 rfl ag34 sz34 rfl rfl rfl rfl) rfl rfl ?_
    refine r_q (q_move rfl rfl) rfl rfl ?_
    obtain ⟨v2, hb2, h⟩ := of_b1 h
    refine r_do (a_call ok19 rfl rfl rfl rfl (fun w hm => laws_szGc.calls K a1_0 a1_1 a1_1_A a1_1_n a1_1_c a1_2 v1 hm a1_1_h (Rd.drop 2 a1_1_R) hb2)) rfl rfl (fun x4 => ?_)
    refine r_q (q_assign rfl rfl) rfl rfl ?_
    refine j_rs (.box x2 34 [(.int .i64 a1_0), (.slice a1_1_A a1_1_n a1_1_c), (.int .i64 a1_2)] :: .box x1 34 [(.int .i64 a0_0), (.slice a0_1_A a0_1_n a0_1_c), (.int .i64 a0_2)] :: F) (fun _ h => h) ?_
    refine r_nil ?_
    refine j_then ?_
    refine j_seq ?_
    refine j_seq ?_
    refine j_region ?_
    refine r_q (q_move rfl rfl) rfl rfl ?_
    refine r_q (q_lss rfl rfl rfl) rfl rfl ?_
    refine r_nil ?_
    refine j_then ?_
    rcases of_if h with ⟨c2, h⟩ | ⟨c2, h⟩
    · refine j_true rfl (decide_eq_true c2) ?_
      refine j_seq ?_
      refine j_region ?_
      refine r_q (q_assign rfl rfl) rfl rfl ?_
      refine r_nil ?_
      refine j_then ?_
      refine j_ret ?_
      refine j_then_ret ?_
      cases h
      exact j_return rfl (ResOf.tmp rfl ResOf.nil) rfl (fun w h => ⟨(), rfl, (h.drop 2)⟩)
    · refine j_false rfl (decide_eq_false c2) ?_
      refine j_skip ?_
      refine j_then ?_
      refine j_seq ?_
      obtain ⟨v3, v4, v5, hb3, h⟩ := of_b3 h
      obtain ⟨v6, v7, v8, hb4, h⟩ := of_b3 h
      obtain ⟨v9, hb5, h⟩ := of_b1 h
      refine j_draw (.box x2 34 [(.int .i64 a1_0), (.slice a1_1_A a1_1_n a1_1_c), (.int .i64 a1_2)] :: .box x1 34 [(.int .i64 a0_0), (.slice a0_1_A a0_1_n a0_1_c), (.int .i64 a0_2)] :: F) 6 follows_any rfl ?_
      refine d_take 0 rfl (q_loadb_agg 1 rfl ag34 sz34 rfl rfl rfl rfl) rfl rfl (by kernel_rfl) (by kernel_rfl) (by kernel_rfl) (fun w h => h) ?_
      refine d_take 2 rfl (q_loadb_agg 0 rfl ag34 sz34 rfl rfl rfl rfl) rfl rfl (by kernel_rfl) (by kernel_rfl) (by kernel_rfl) (fun w h => h) ?_
      refine d_one 1 (by kernel_rfl) ?_
      refine o_do rfl (a_call ok21 rfl rfl rfl rfl (fun w hm => laws_toGc.calls K a0_0 a0_1 a0_1_A a0_1_n a0_1_c a0_2 hm a0_1_h (Rd.drop 2 a0_1_R) hb3)) rfl rfl (fun x5 w h => h.tail) (fun x5 => ?_)
      refine j_rs (.row x5.A x5.c 3 1 (ints .i64 v4) :: .box x2 34 [(.int .i64 a1_0), (.slice a1_1_A a1_1_n a1_1_c), (.int .i64 a1_2)] :: .box x1 34 [(.int .i64 a0_0), (.slice a0_1_A a0_1_n a0_1_c), (.int .i64 a0_2)] :: F) (fun _ h => h) ?_
      refine d_one 3 (by kernel_rfl) ?_
      refine o_do rfl (a_call ok21 rfl rfl rfl rfl (fun w hm => laws_toGc.calls K a1_0 a1_1 a1_1_A a1_1_n a1_1_c a1_2 hm a1_1_h (Rd.drop 3 a1_1_R) hb4)) rfl rfl (fun x6 w h => (h.drop 2)) (fun x6 => ?_)
      refine j_rs (.row x6.A x6.c 3 1 (ints .i64 v7) :: .row x5.A x5.c 3 1 (ints .i64 v4) :: .box x2 34 [(.int .i64 a1_0), (.slice a1_1_A a1_1_n a1_1_c), (.int .i64 a1_2)] :: .box x1 34 [(.int .i64 a0_0), (.slice a0_1_A a0_1_n a0_1_c), (.int .i64 a0_2)] :: F) (fun _ h => h) ?_
      refine d_one 4 (by kernel_rfl) ?_
      refine o_do rfl (a_call ok20 rfl rfl rfl rfl (fun w hm => spec_GcSame.calls K v3 v4 x5.A x5.n x5.c v5 v6 v7 x6.A x6.n x6.c v8 hm x5.h (Rd.row 1 rfl) x6.h (Rd.row 0 rfl) hb5)) rfl rfl (fun x7 w h => (h.drop 2)) (fun x7 => ?_)
      refine j_rs (.row x6.A x6.c 3 1 (ints .i64 v7) :: .row x5.A x5.c 3 1 (ints .i64 v4) :: .box x2 34 [(.int .i64 a1_0), (.slice a1_1_A a1_1_n a1_1_c), (.int .i64 a1_2)] :: .box x1 34 [(.int .i64 a0_0), (.slice a0_1_A a0_1_n a0_1_c), (.int .i64 a0_2)] :: F) (fun _ h => h) ?_
      refine d_take 5 rfl (q_assign rfl rfl) rfl rfl (by kernel_rfl) (by kernel_rfl) (by kernel_rfl) (fun w h => (h.drop 2)) ?_
      refine d_done (by kernel_rfl) ?_
      refine j_then ?_
      refine j_seq ?_
      refine j_region ?_
      refine r_q (q_loadb_agg 3 rfl ag34 sz34 rfl rfl rfl rfl) rfl rfl ?_
      obtain ⟨v10, v11, v12, hb6, h⟩ := of_b3 h
      refine r_do (a_call ok21 rfl rfl rfl rfl (fun w hm => laws_toGc.calls K a0_0 a0_1 a0_1_A a0_1_n a0_1_c a0_2 hm a0_1_h (Rd.drop 4 a0_1_R) hb6)) rfl rfl (fun x8 => ?_)
      refine r_do (a_alloc zr37 rfl) rfl rfl (fun x9 => ?_)
      refine r_do (a_storeb 0 rfl sz37 rfl rfl rfl rfl (Nat.le_of_ble_eq_true rfl) rfl) rfl rfl (fun _ => ?_)
      refine j_rs (.box x9 37 [(.int .i64 v10), (.slice x8.A x8.n x8.c), (.int .i64 v12)] :: .row x8.A x8.c 3 1 (ints .i64 v11) :: .row x6.A x6.c 3 1 (ints .i64 v7) :: .row x5.A x5.c 3 1 (ints .i64 v4) :: .box x2 34 [(.int .i64 a1_0), (.slice a1_1_A a1_1_n a1_1_c), (.int .i64 a1_2)] :: .box x1 34 [(.int .i64 a0_0), (.slice a0_1_A a0_1_n a0_1_c), (.int .i64 a0_2)] :: F) (fun _ h => h) ?_
      refine r_nil ?_
      refine j_then ?_
      refine j_seq ?_
      refine j_region ?_
      refine r_q (q_loadb_agg 4 rfl ag34 sz34 rfl rfl rfl rfl) rfl rfl ?_
      obtain ⟨v13, v14, v15, hb7, h⟩ := of_b3 h
      refine r_do (a_call ok21 rfl rfl rfl rfl (fun w hm => laws_toGc.calls K a1_0 a1_1 a1_1_A a1_1_n a1_1_c a1_2 hm a1_1_h (Rd.drop 6 a1_1_R) hb7)) rfl rfl (fun x10 => ?_)
      refine r_do (a_alloc zr37 rfl) rfl rfl (fun x11 => ?_)
      refine r_do (a_storeb 0 rfl sz37 rfl rfl rfl rfl (Nat.le_of_ble_eq_true rfl) rfl) rfl rfl (fun _ => ?_)
      refine j_rs (.box x11 37 [(.int .i64 v13), (.slice x10.A x10.n x10.c), (.int .i64 v15)] :: .row x10.A x10.c 3 1 (ints .i64 v14) :: .box x9 37 [(.int .i64 v10), (.slice x8.A x8.n x8.c), (.int .i64 v12)] :: .row x8.A x8.c 3 1 (ints .i64 v11) :: .row x6.A x6.c 3 1 (ints .i64 v7) :: .row x5.A x5.c 3 1 (ints .i64 v4) :: .box x2 34 [(.int .i64 a1_0), (.slice a1_1_A a1_1_n a1_1_c), (.int .i64 a1_2)] :: .box x1 34 [(.int .i64 a0_0), (.slice a0_1_A a0_1_n a0_1_c), (.int .i64 a0_2)] :: F) (fun _ h => h) ?_
      refine r_nil ?_
      refine j_then ?_
      refine j_seq ?_
      refine j_region ?_
      refine r_q (q_loadb_agg 2 rfl ag37 sz37 rfl rfl rfl rfl) rfl rfl ?_
      refine r_q (q_loadb_agg 0 rfl ag37 sz37 rfl rfl rfl rfl) rfl rfl ?_
      obtain ⟨v16, hb8, h⟩ := of_b1 h
      refine r_do (a_call ok22 rfl rfl rfl rfl (fun w hm => impl_GcSame.calls K v10 v11 x8.A x8.n x8.c v12 v13 v14 x10.A x10.n x10.c v15 hm x8.h (Rd.row 3 rfl) x10.h (Rd.row 1 rfl) hb8)) rfl rfl (fun x12 => ?_)
      refine r_q (q_assign rfl rfl) rfl rfl ?_
      refine j_rs (.box x11 37 [(.int .i64 v13), (.slice x10.A x10.n x10.c), (.int .i64 v15)] :: .row x10.A x10.c 3 1 (ints .i64 v14) :: .box x9 37 [(.int .i64 v10), (.slice x8.A x8.n x8.c), (.int .i64 v12)] :: .row x8.A x8.c 3 1 (ints .i64 v11) :: .row x6.A x6.c 3 1 (ints .i64 v7) :: .row x5.A x5.c 3 1 (ints .i64 v4) :: .box x2 34 [(.int .i64 a1_0), (.slice a1_1_A a1_1_n a1_1_c), (.int .i64 a1_2)] :: .box x1 34 [(.int .i64 a0_0), (.slice a0_1_A a0_1_n a0_1_c), (.int .i64 a0_2)] :: F) (fun _ h => h) ?_
      refine r_nil ?_
      refine j_then ?_
      refine j_seq ?_
      refine j_seq ?_
      refine j_region ?_
      refine r_q (q_move rfl rfl) rfl rfl ?_
      refine r_q (q_move rfl rfl) rfl rfl ?_
      refine r_q (q_bneq un4 rfl rfl rfl) rfl rfl ?_
      refine r_nil ?_
      refine j_then ?_
      rcases of_if h with ⟨c3, h⟩ | ⟨c3, h⟩
      · refine j_false rfl (bne_f c3) ?_
        refine j_skip ?_
        refine j_then ?_
        refine j_seq ?_
        refine j_seq ?_
        obtain ⟨v17, v18, v19, hb9, h⟩ := of_b3 h
        obtain ⟨v20, hb10, h⟩ := of_b1 h
        refine j_draw (.box x11 37 [(.int .i64 v13), (.slice x10.A x10.n x10.c), (.int .i64 v15)] :: .row x10.A x10.c 3 1 (ints .i64 v14) :: .box x9 37 [(.int .i64 v10), (.slice x8.A x8.n x8.c), (.int .i64 v12)] :: .row x8.A x8.c 3 1 (ints .i64 v11) :: .row x6.A x6.c 3 1 (ints .i64 v7) :: .row x5.A x5.c 3 1 (ints .i64 v4) :: .box x2 34 [(.int .i64 a1_0), (.slice a1_1_A a1_1_n a1_1_c), (.int .i64 a1_2)] :: .box x1 34 [(.int .i64 a0_0), (.slice a0_1_A a0_1_n a0_1_c), (.int .i64 a0_2)] :: F) 5 follows_any rfl ?_
        refine d_take 0 rfl (q_loadb_agg 2 rfl ag37 sz37 rfl rfl rfl rfl) rfl rfl (by kernel_rfl) (by kernel_rfl) (by kernel_rfl) (fun w h => h) ?_
        refine d_take 1 rfl (q_loadb_agg 7 rfl ag34 sz34 rfl rfl rfl rfl) rfl rfl (by kernel_rfl) (by kernel_rfl) (by kernel_rfl) (fun w h => h) ?_
        refine d_one 2 (by kernel_rfl) ?_
        refine o_do rfl (a_call ok21 rfl rfl rfl rfl (fun w hm => laws_toGc.calls K a0_0 a0_1 a0_1_A a0_1_n a0_1_c a0_2 hm a0_1_h (Rd.drop 8 a0_1_R) hb9)) rfl rfl (fun x13 w h => h.tail) (fun x13 => ?_)
        refine j_rs (.row x13.A x13.c 3 1 (ints .i64 v18) :: .box x11 37 [(.int .i64 v13), (.slice x10.A x10.n x10.c), (.int .i64 v15)] :: .row x10.A x10.c 3 1 (ints .i64 v14) :: .box x9 37 [(.int .i64 v10), (.slice x8.A x8.n x8.c), (.int .i64 v12)] :: .row x8.A x8.c 3 1 (ints .i64 v11) :: .row x6.A x6.c 3 1 (ints .i64 v7) :: .row x5.A x5.c 3 1 (ints .i64 v4) :: .box x2 34 [(.int .i64 a1_0), (.slice a1_1_A a1_1_n a1_1_c), (.int .i64 a1_2)] :: .box x1 34 [(.int .i64 a0_0), (.slice a0_1_A a0_1_n a0_1_c), (.int .i64 a0_2)] :: F) (fun _ h => h) ?_
        refine d_one 3 (by kernel_rfl) ?_
        refine o_do rfl (a_call ok23 rfl rfl rfl rfl (fun w hm => laws_eqGc.calls K v10 v11 x8.A x8.n x8.c v12 v17 v18 x13.A x13.n x13.c v19 hm x8.h (Rd.row 4 rfl) x13.h (Rd.row 0 rfl) hb10)) rfl rfl (fun x14 w h => h.tail) (fun x14 => ?_)
        refine j_rs (.row x13.A x13.c 3 1 (ints .i64 v18) :: .box x11 37 [(.int .i64 v13), (.slice x10.A x10.n x10.c), (.int .i64 v15)] :: .row x10.A x10.c 3 1 (ints .i64 v14) :: .box x9 37 [(.int .i64 v10), (.slice x8.A x8.n x8.c), (.int .i64 v12)] :: .row x8.A x8.c 3 1 (ints .i64 v11) :: .row x6.A x6.c 3 1 (ints .i64 v7) :: .row x5.A x5.c 3 1 (ints .i64 v4) :: .box x2 34 [(.int .i64 a1_0), (.slice a1_1_A a1_1_n a1_1_c), (.int .i64 a1_2)] :: .box x1 34 [(.int .i64 a0_0), (.slice a0_1_A a0_1_n a0_1_c), (.int .i64 a0_2)] :: F) (fun _ h => h) ?_
        refine d_take 4 rfl (q_not rfl rfl) rfl rfl (by kernel_rfl) (by kernel_rfl) (by kernel_rfl) (fun w h => h.tail) ?_
        refine d_done (by kernel_rfl) ?_
        refine j_then ?_
        rcases of_if h with ⟨c4, h⟩ | ⟨c4, h⟩
        · refine j_false rfl (not_f c4) ?_
          refine j_skip ?_
          refine j_then ?_
          refine j_seq ?_
          refine j_seq ?_
          obtain ⟨v21, v22, v23, hb11, h⟩ := of_b3 h
          obtain ⟨v24, hb12, h⟩ := of_b1 h
          refine j_draw (.row x13.A x13.c 3 1 (ints .i64 v18) :: .box x11 37 [(.int .i64 v13), (.slice x10.A x10.n x10.c), (.int .i64 v15)] :: .row x10.A x10.c 3 1 (ints .i64 v14) :: .box x9 37 [(.int .i64 v10), (.slice x8.A x8.n x8.c), (.int .i64 v12)] :: .row x8.A x8.c 3 1 (ints .i64 v11) :: .row x6.A x6.c 3 1 (ints .i64 v7) :: .row x5.A x5.c 3 1 (ints .i64 v4) :: .box x2 34 [(.int .i64 a1_0), (.slice a1_1_A a1_1_n a1_1_c), (.int .i64 a1_2)] :: .box x1 34 [(.int .i64 a0_0), (.slice a0_1_A a0_1_n a0_1_c), (.int .i64 a0_2)] :: F) 5 follows_any rfl ?_
          refine d_take 0 rfl (q_loadb_agg 1 rfl ag37 sz37 rfl rfl rfl rfl) rfl rfl (by kernel_rfl) (by kernel_rfl) (by kernel_rfl) (fun w h => h) ?_
          refine d_take 1 rfl (q_loadb_agg 7 rfl ag34 sz34 rfl rfl rfl rfl) rfl rfl (by kernel_rfl) (by kernel_rfl) (by kernel_rfl) (fun w h => h) ?_
          refine d_one 2 (by kernel_rfl) ?_
          refine o_do rfl (a_call ok21 rfl rfl rfl rfl (fun w hm => laws_toGc.calls K a1_0 a1_1 a1_1_A a1_1_n a1_1_c a1_2 hm a1_1_h (Rd.drop 9 a1_1_R) hb11)) rfl rfl (fun x15 w h => h.tail) (fun x15 => ?_)
          refine j_rs (.row x15.A x15.c 3 1 (ints .i64 v22) :: .row x13.A x13.c 3 1 (ints .i64 v18) :: .box x11 37 [(.int .i64 v13), (.slice x10.A x10.n x10.c), (.int .i64 v15)] :: .row x10.A x10.c 3 1 (ints .i64 v14) :: .box x9 37 [(.int .i64 v10), (.slice x8.A x8.n x8.c), (.int .i64 v12)] :: .row x8.A x8.c 3 1 (ints .i64 v11) :: .row x6.A x6.c 3 1 (ints .i64 v7) :: .row x5.A x5.c 3 1 (ints .i64 v4) :: .box x2 34 [(.int .i64 a1_0), (.slice a1_1_A a1_1_n a1_1_c), (.int .i64 a1_2)] :: .box x1 34 [(.int .i64 a0_0), (.slice a0_1_A a0_1_n a0_1_c), (.int .i64 a0_2)] :: F) (fun _ h => h) ?_
          refine d_one 3 (by kernel_rfl) ?_
          refine o_do rfl (a_call ok23 rfl rfl rfl rfl (fun w hm => laws_eqGc.calls K v13 v14 x10.A x10.n x10.c v15 v21 v22 x15.A x15.n x15.c v23 hm x10.h (Rd.row 3 rfl) x15.h (Rd.row 0 rfl) hb12)) rfl rfl (fun x16 w h => h.tail) (fun x16 => ?_)
          refine j_rs (.row x15.A x15.c 3 1 (ints .i64 v22) :: .row x13.A x13.c 3 1 (ints .i64 v18) :: .box x11 37 [(.int .i64 v13), (.slice x10.A x10.n x10.c), (.int .i64 v15)] :: .row x10.A x10.c 3 1 (ints .i64 v14) :: .box x9 37 [(.int .i64 v10), (.slice x8.A x8.n x8.c), (.int .i64 v12)] :: .row x8.A x8.c 3 1 (ints .i64 v11) :: .row x6.A x6.c 3 1 (ints .i64 v7) :: .row x5.A x5.c 3 1 (ints .i64 v4) :: .box x2 34 [(.int .i64 a1_0), (.slice a1_1_A a1_1_n a1_1_c), (.int .i64 a1_2)] :: .box x1 34 [(.int .i64 a0_0), (.slice a0_1_A a0_1_n a0_1_c), (.int .i64 a0_2)] :: F) (fun _ h => h) ?_
          refine d_take 4 rfl (q_not rfl rfl) rfl rfl (by kernel_rfl) (by kernel_rfl) (by kernel_rfl) (fun w h => h.tail) ?_
          refine d_done (by kernel_rfl) ?_
          refine j_then ?_
          rcases of_if h with ⟨c5, h⟩ | ⟨c5, h⟩
          · refine j_false rfl (not_f c5) ?_
            refine j_skip ?_
            refine j_then ?_
            refine j_seq ?_
            refine j_region ?_
            refine r_q (q_assign rfl rfl) rfl rfl ?_
            refine r_nil ?_
            refine j_then ?_
            refine j_ret ?_
            cases h
            exact j_return rfl (ResOf.tmp rfl ResOf.nil) rfl (fun w h => ⟨(), rfl, (h.drop 10)⟩)
          · refine j_true rfl (not_t (var_f c5)) ?_
            refine j_seq ?_
            refine j_region ?_
            refine r_q (q_assign rfl rfl) rfl rfl ?_
            refine r_nil ?_
            refine j_then ?_
            refine j_ret ?_
            refine j_then_ret ?_
            cases h
            exact j_return rfl (ResOf.tmp rfl ResOf.nil) rfl (fun w h => ⟨(), rfl, (h.drop 10)⟩)
        · refine j_true rfl (not_t (var_f c4)) ?_
          refine j_seq ?_
          refine j_region ?_
          refine r_q (q_assign rfl rfl) rfl rfl ?_
          refine r_nil ?_
          refine j_then ?_
          refine j_ret ?_
          refine j_then_ret ?_
          cases h
          exact j_return rfl (ResOf.tmp rfl ResOf.nil) rfl (fun w h => ⟨(), rfl, (h.drop 9)⟩)
      · refine j_true rfl (bne_t c3) ?_
        refine j_seq ?_
        refine j_region ?_
        refine r_q (q_assign rfl rfl) rfl rfl ?_
        refine r_nil ?_
        refine j_then ?_
        refine j_ret ?_
        refine j_then_ret ?_
        cases h
        exact j_return rfl (ResOf.tmp rfl ResOf.nil) rfl (fun w h => ⟨(), rfl, (h.drop 8)⟩)

end Go.Proofs.Ytjcbalhdppmdmaa.F
