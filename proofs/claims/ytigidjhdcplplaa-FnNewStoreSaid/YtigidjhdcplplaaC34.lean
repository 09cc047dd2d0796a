/- The program computes these pure functions, printed by the generator of wip/gen. -/
import Derived.Test.YtigidjhdcplplaaFa
import Derived.Test.YtigidjhdcplplaaFg
import Derived.Test.YtigidjhdcplplaaFb
import Derived.Test.YtigidjhdcplplaaC0
import Derived.Test.YtigidjhdcplplaaC3
import Derived.Test.YtigidjhdcplplaaC4
import Derived.Test.YtigidjhdcplplaaC5
import Derived.Test.YtigidjhdcplplaaC7
import Derived.Test.YtigidjhdcplplaaC8
import Derived.Test.YtigidjhdcplplaaC9
import Derived.Test.YtigidjhdcplplaaC12
import Derived.Test.YtigidjhdcplplaaC14
namespace Go.Proofs.Ytigidjhdcplplaa.F
open Go Go.RowKit Go.Proofs.Ytigidjhdcplplaa.S
set_option linter.unusedVariables false
set_option maxRecDepth 100000
theorem spec_DrawNewHeap.calls (K : Nat) (a0 : List Int) (a0_A : Option Addr) (a0_n a0_c : Nat) {w0 w : World} {F : List Res} {r1 : Int} {r2 : Int} (hm : Mem w0 (F) w) (a0_h : a0.length = a0_n) (a0_R : Rd w0 F a0_A (ints .u8 a0)) (a0_k : a0.length ≤ a0_c) (h : spec_DrawNewHeap.f K a0 = some (r1, r2)) :
    Calls Try.prog 50 (List.toArray [.slice a0_A a0_n a0_c]) w fun e w' => ∃ x : Unit, e = .returned (.tuple (List.toArray [i6 r1, i6 r2])) ∧ Mem w0 (F) w' := by
  unfold spec_DrawNewHeap.f at h
  refine calls_of_J (n := 13) Try.func50 rfl rfl rfl hm ?_
  refine j_seq ?_
  refine j_region ?_
  refine r_q (q_assign rfl rfl) rfl rfl ?_
  refine r_q (q_assign rfl rfl) rfl rfl ?_
  refine r_nil ?_
  refine j_then ?_
  refine j_seq ?_
  refine j_region ?_
  refine r_q (q_move rfl rfl) rfl rfl ?_
  obtain ⟨_, hb1, h⟩ := of_b1 h
  refine r_do (a_call ok58 rfl rfl rfl rfl (fun w hm => spec_l13Open.calls K a0 a0_A a0_n a0_c hm a0_h a0_R a0_k hb1)) rfl rfl (fun x1 => ?_)
  refine r_q (q_assign rfl rfl) rfl rfl ?_
  refine r_nil ?_
  refine j_then ?_
  refine j_seq ?_
  refine j_region ?_
  refine r_q (q_move rfl rfl) rfl rfl ?_
  refine r_do (a_litX (vs := [(i6 (4:Int)), (i6 (1:Int)), (i6 (8:Int)), (i6 (0:Int)), (i6 (9:Int))]) (ii ([(4:Int), (1:Int), (8:Int), (0:Int), (9:Int)] : List Int)) un25 sz3 zr3 rfl rfl rfl rfl rfl rfl rfl rfl rfl) rfl rfl (fun x2 => ?_)
  obtain ⟨v1, v2, hb2, h⟩ := of_b2 h
  refine j_rs (.box x1 89 [(.slice a0_A (a0.take 2000).length a0_c), (i6 (0:Int))] :: .row x2 5 3 1 (ii ([(4:Int), (1:Int), (8:Int), (0:Int), (9:Int)] : List Int)) :: F) (fun _ h => h.pick 2 [1, 0] rfl) ?_
  refine r_do (a_call ok78 rfl rfl rfl rfl (fun w hm => spec_l13Rd_num.calls K x1 (a0.take 2000) a0_A (a0.take 2000).length a0_c (0:Int) ([(4:Int), (1:Int), (8:Int), (0:Int), (9:Int)] : List Int) x2 5 5 hm rfl (rd_hiI (Rd.drop 1 a0_R) 2000) rfl (Rd.row 0 rfl) hb2)) rfl rfl (fun x3 => ?_)
  refine r_q (q_move rfl rfl) rfl rfl ?_
  refine r_do (a_litX (vs := [(i6 (2:Int)), (i6 (1:Int)), (i6 (3:Int)), (i6 (0:Int)), (i6 (4:Int))]) (ii ([(2:Int), (1:Int), (3:Int), (0:Int), (4:Int)] : List Int)) un25 sz3 zr3 rfl rfl rfl rfl rfl rfl rfl rfl rfl) rfl rfl (fun x4 => ?_)
  obtain ⟨v3, v4, hb3, h⟩ := of_b2 h
  refine j_rs (.box x1 89 [(.slice a0_A (a0.take 2000).length a0_c), (i6 v2)] :: .row x4 5 3 1 (ii ([(2:Int), (1:Int), (3:Int), (0:Int), (4:Int)] : List Int)) :: .row x2 5 3 1 (ii ([(4:Int), (1:Int), (8:Int), (0:Int), (9:Int)] : List Int)) :: F) (fun _ h => h.pick 3 [1, 0, 2] rfl) ?_
  refine r_do (a_call ok78 rfl rfl rfl rfl (fun w hm => spec_l13Rd_num.calls K x1 (a0.take 2000) a0_A (a0.take 2000).length a0_c v2 ([(2:Int), (1:Int), (3:Int), (0:Int), (4:Int)] : List Int) x4 5 5 hm rfl (rd_hiI (Rd.drop 2 a0_R) 2000) rfl (Rd.row 0 rfl) hb3)) rfl rfl (fun x5 => ?_)
  refine r_q (q_assign rfl rfl) rfl rfl ?_
  refine r_q (q_assign rfl rfl) rfl rfl ?_
  refine r_nil ?_
  refine j_then ?_
  refine j_ret ?_
  cases h
  exact j_return rfl (ResOf.tmp rfl (ResOf.tmp rfl ResOf.nil)) rfl (fun w h => ⟨(), rfl, (h.drop 3)⟩)

theorem spec_DrawNewStore.calls (K : Nat) (a0 : List Int) (a0_A : Option Addr) (a0_n a0_c : Nat) {w0 w : World} {F : List Res} {r1 : Int} {r2 : Int} (hm : Mem w0 (F) w) (a0_h : a0.length = a0_n) (a0_R : Rd w0 F a0_A (ints .u8 a0)) (a0_k : a0.length ≤ a0_c) (h : spec_DrawNewStore.f K a0 = some (r1, r2)) :
    Calls Try.prog 15 (List.toArray [.slice a0_A a0_n a0_c]) w fun e w' => ∃ x : Unit, e = .returned (.tuple (List.toArray [i6 r1, i6 r2])) ∧ Mem w0 (F) w' := by
  unfold spec_DrawNewStore.f at h
  refine calls_of_J (n := 8) Try.func15 rfl rfl rfl hm ?_
  refine j_seq ?_
  refine j_region ?_
  refine r_q (q_assign rfl rfl) rfl rfl ?_
  refine r_q (q_assign rfl rfl) rfl rfl ?_
  refine r_nil ?_
  refine j_then ?_
  refine j_seq ?_
  refine j_region ?_
  refine r_q (q_move rfl rfl) rfl rfl ?_
  obtain ⟨v1, v2, hb1, h⟩ := of_b2 h
  refine r_do (a_call ok50 rfl rfl rfl rfl (fun w hm => spec_DrawNewHeap.calls K a0 a0_A a0_n a0_c hm a0_h a0_R a0_k hb1)) rfl rfl (fun x1 => ?_)
  refine r_q (q_extract rfl rfl rfl) rfl rfl ?_
  refine r_q (q_extract rfl rfl rfl) rfl rfl ?_
  refine r_q (q_assign rfl rfl) rfl rfl ?_
  refine r_q (q_assign rfl rfl) rfl rfl ?_
  refine r_nil ?_
  refine j_then ?_
  refine j_ret ?_
  cases h
  exact j_return rfl (ResOf.tmp rfl (ResOf.tmp rfl ResOf.nil)) rfl (fun w h => ⟨(), rfl, h⟩)

theorem math_bits_Mul64.calls (K : Nat) (a0 : Int) (a1 : Int) {w0 w : World} {F : List Res} {r1 : Int} {r2 : Int} (hm : Mem w0 (F) w)  (h : math_bits_Mul64.f K a0 a1 = some (r1, r2)) :
    Calls Try.prog 101 (List.toArray [.int .u64 a0, .int .u64 a1]) w fun e w' => ∃ x : Unit, e = .returned (.tuple (List.toArray [.int .u64 r1, .int .u64 r2])) ∧ Mem w0 (F) w' := by
  unfold math_bits_Mul64.f at h
  refine calls_of_J (n := 51) Try.func101 rfl rfl rfl hm ?_
  refine j_seq ?_
  refine j_region ?_
  refine r_q (q_assign rfl rfl) rfl rfl ?_
  refine r_q (q_assign rfl rfl) rfl rfl ?_
  refine r_nil ?_
  refine j_then ?_
  refine j_seq ?_
  refine j_region ?_
  refine r_q (q_move rfl rfl) rfl rfl ?_
  refine r_q (q_andu rfl rfl rfl) rfl rfl ?_
  refine r_q (q_assign rfl rfl) rfl rfl ?_
  refine r_nil ?_
  refine j_then ?_
  refine j_seq ?_
  refine j_region ?_
  refine r_q (q_move rfl rfl) rfl rfl ?_
  refine r_q (q_shru rfl rfl rfl (by decide)) rfl rfl ?_
  refine r_q (q_assign rfl rfl) rfl rfl ?_
  refine r_nil ?_
  refine j_then ?_
  refine j_seq ?_
  refine j_region ?_
  refine r_q (q_move rfl rfl) rfl rfl ?_
  refine r_q (q_andu rfl rfl rfl) rfl rfl ?_
  refine r_q (q_assign rfl rfl) rfl rfl ?_
  refine r_nil ?_
  refine j_then ?_
  refine j_seq ?_
  refine j_region ?_
  refine r_q (q_move rfl rfl) rfl rfl ?_
  refine r_q (q_shru rfl rfl rfl (by decide)) rfl rfl ?_
  refine r_q (q_assign rfl rfl) rfl rfl ?_
  refine r_nil ?_
  refine j_then ?_
  refine j_seq ?_
  refine j_region ?_
  refine r_q (q_move rfl rfl) rfl rfl ?_
  refine r_q (q_move rfl rfl) rfl rfl ?_
  refine r_q (q_mulu rfl rfl rfl) rfl rfl ?_
  refine r_q (q_assign rfl rfl) rfl rfl ?_
  refine r_nil ?_
  refine j_then ?_
  refine j_seq ?_
  refine j_region ?_
  refine r_q (q_move rfl rfl) rfl rfl ?_
  refine r_q (q_move rfl rfl) rfl rfl ?_
  refine r_q (q_mulu rfl rfl rfl) rfl rfl ?_
  refine r_q (q_move rfl rfl) rfl rfl ?_
  refine r_q (q_shru rfl rfl rfl (by decide)) rfl rfl ?_
  refine r_q (q_addu rfl rfl rfl) rfl rfl ?_
  refine r_q (q_assign rfl rfl) rfl rfl ?_
  refine r_nil ?_
  refine j_then ?_
  refine j_seq ?_
  refine j_region ?_
  refine r_q (q_move rfl rfl) rfl rfl ?_
  refine r_q (q_andu rfl rfl rfl) rfl rfl ?_
  refine r_q (q_assign rfl rfl) rfl rfl ?_
  refine r_nil ?_
  refine j_then ?_
  refine j_seq ?_
  refine j_region ?_
  refine r_q (q_move rfl rfl) rfl rfl ?_
  refine r_q (q_shru rfl rfl rfl (by decide)) rfl rfl ?_
  refine r_q (q_assign rfl rfl) rfl rfl ?_
  refine r_nil ?_
  refine j_then ?_
  refine j_seq ?_
  refine j_region ?_
  refine r_q (q_move rfl rfl) rfl rfl ?_
  refine r_q (q_move rfl rfl) rfl rfl ?_
  refine r_q (q_move rfl rfl) rfl rfl ?_
  refine r_q (q_mulu rfl rfl rfl) rfl rfl ?_
  refine r_q (q_addu rfl rfl rfl) rfl rfl ?_
  refine r_q (q_assign rfl rfl) rfl rfl ?_
  refine r_nil ?_
  refine j_then ?_
  refine j_seq ?_
  refine j_region ?_
  refine r_q (q_move rfl rfl) rfl rfl ?_
  refine r_q (q_move rfl rfl) rfl rfl ?_
  refine r_q (q_mulu rfl rfl rfl) rfl rfl ?_
  refine r_q (q_move rfl rfl) rfl rfl ?_
  refine r_q (q_addu rfl rfl rfl) rfl rfl ?_
  refine r_q (q_move rfl rfl) rfl rfl ?_
  refine r_q (q_shru rfl rfl rfl (by decide)) rfl rfl ?_
  refine r_q (q_addu rfl rfl rfl) rfl rfl ?_
  refine r_q (q_assign rfl rfl) rfl rfl ?_
  refine r_nil ?_
  refine j_then ?_
  refine j_seq ?_
  refine j_region ?_
  refine r_q (q_move rfl rfl) rfl rfl ?_
  refine r_q (q_move rfl rfl) rfl rfl ?_
  refine r_q (q_mulu rfl rfl rfl) rfl rfl ?_
  refine r_q (q_assign rfl rfl) rfl rfl ?_
  refine r_nil ?_
  refine j_then ?_
  refine j_ret ?_
  cases h
  exact j_return rfl (ResOf.tmp rfl (ResOf.tmp rfl ResOf.nil)) rfl (fun w h => ⟨(), rfl, h⟩)

theorem math_bits_Mul.calls (K : Nat) (a0 : Int) (a1 : Int) {w0 w : World} {F : List Res} {r1 : Int} {r2 : Int} (hm : Mem w0 (F) w)  (h : math_bits_Mul.f K a0 a1 = some (r1, r2)) :
    Calls Try.prog 97 (List.toArray [.int .u64 a0, .int .u64 a1]) w fun e w' => ∃ x : Unit, e = .returned (.tuple (List.toArray [.int .u64 r1, .int .u64 r2])) ∧ Mem w0 (F) w' := by
  unfold math_bits_Mul.f at h
  refine calls_of_J (n := 30) Try.func97 rfl rfl rfl hm ?_
  refine j_seq ?_
  refine j_region ?_
  refine r_q (q_assign rfl rfl) rfl rfl ?_
  refine r_q (q_assign rfl rfl) rfl rfl ?_
  refine r_nil ?_
  refine j_then ?_
  refine j_seq ?_
  refine j_false rfl rfl ?_
  refine j_skip ?_
  refine j_then ?_
  refine j_seq ?_
  refine j_region ?_
  refine r_q (q_move rfl rfl) rfl rfl ?_
  refine r_q (q_move rfl rfl) rfl rfl ?_
  obtain ⟨v1, v2, hb1, h⟩ := of_b2 h
  refine r_do (a_call ok101 rfl rfl rfl rfl (fun w hm => math_bits_Mul64.calls K a0 a1 hm hb1)) rfl rfl (fun x1 => ?_)
  refine r_q (q_move rfl rfl) rfl rfl ?_
  refine r_q (q_extract rfl rfl rfl) rfl rfl ?_
  refine r_q (q_extract rfl rfl rfl) rfl rfl ?_
  refine r_q (q_assign rfl rfl) rfl rfl ?_
  refine r_q (q_assign rfl rfl) rfl rfl ?_
  refine r_nil ?_
  refine j_then ?_
  refine j_seq ?_
  refine j_region ?_
  refine r_q (q_move rfl rfl) rfl rfl ?_
  refine r_q (q_move rfl rfl) rfl rfl ?_
  refine r_q (q_assign rfl rfl) rfl rfl ?_
  refine r_q (q_assign rfl rfl) rfl rfl ?_
  refine r_nil ?_
  refine j_then ?_
  refine j_ret ?_
  cases h
  exact j_return rfl (ResOf.tmp rfl (ResOf.tmp rfl ResOf.nil)) rfl (fun w h => ⟨(), rfl, h⟩)

theorem slices_Repeat_int.calls (K : Nat) (a0 : List Int) (a0_A : Option Addr) (a0_n a0_c : Nat) (a1 : Int) {w0 w : World} {F : List Res} {r1 : List Int} (hm : Mem w0 (F) w) (a0_h : a0.length = a0_n) (a0_R : Rd w0 F a0_A (ii a0)) (h : slices_Repeat_int.f K a0 a1 = some r1) :
    Calls Try.prog 83 (List.toArray [.slice a0_A a0_n a0_c, i6 a1]) w fun e w' => ∃ x : (Sl r1.length), e = .returned (.slice x.A x.n x.c) ∧ Mem w0 (.row x.A x.c 3 1 (ii r1) :: F) w' := by
  unfold slices_Repeat_int.f at h
  refine calls_of_J (n := 48) Try.func83 rfl rfl rfl hm ?_
  refine j_seq ?_
  refine j_region ?_
  refine r_q (q_assign rfl rfl) rfl rfl ?_
  refine r_nil ?_
  refine j_then ?_
  refine j_seq ?_
  refine j_seq ?_
  refine j_region ?_
  refine r_q (q_move rfl rfl) rfl rfl ?_
  refine r_q (q_lss rfl rfl rfl) rfl rfl ?_
  refine r_nil ?_
  refine j_then ?_
  rcases of_if h with ⟨c1, h⟩ | ⟨c1, h⟩
  · refine j_true rfl (decide_eq_true c1) ?_
    refine j_region ?_
    exact absurd h nofun
  · refine j_false rfl (decide_eq_false c1) ?_
    refine j_skip ?_
    refine j_then ?_
    refine j_seq ?_
    refine j_region ?_
    refine r_q (q_move rfl rfl) rfl rfl ?_
    refine r_q (q_lenX a0 a0_h un25 rfl rfl rfl rfl rfl) rfl rfl ?_
    refine r_q (q_intu un3 un98 rfl rfl) rfl rfl ?_
    refine r_q (q_move rfl rfl) rfl rfl ?_
    refine r_q (q_intu un3 un98 rfl rfl) rfl rfl ?_
    obtain ⟨v1, v2, hb1, h⟩ := of_b2 h
    refine r_do (a_call ok97 rfl rfl rfl rfl (fun w hm => math_bits_Mul.calls K (wu (a0.length : Int)) (wu a1) hm hb1)) rfl rfl (fun x1 => ?_)
    refine r_q (q_move rfl rfl) rfl rfl ?_
    refine r_q (q_extract rfl rfl rfl) rfl rfl ?_
    refine r_q (q_extract rfl rfl rfl) rfl rfl ?_
    refine r_q (q_assign rfl rfl) rfl rfl ?_
    refine r_q (q_assign rfl rfl) rfl rfl ?_
    refine r_nil ?_
    refine j_then ?_
    refine j_seq ?_
    refine j_seq ?_
    refine j_region ?_
    refine r_q (q_move rfl rfl) rfl rfl ?_
    refine r_q (q_gtr rfl rfl rfl) rfl rfl ?_
    refine r_q (q_move rfl rfl) rfl rfl ?_
    rcases of_if h with ⟨c2, h⟩ | ⟨c2, h⟩
    · refine r_off rfl rfl rfl rfl (decide_eq_true c2) rfl ?_
      refine r_off rfl rfl rfl rfl (decide_eq_true c2) rfl ?_
      refine r_q (q_pick_t rfl rfl (decide_eq_true c2) rfl) rfl rfl ?_
      refine r_nil ?_
      refine j_then ?_
      refine j_true rfl rfl ?_
      refine j_region ?_
      exact absurd h nofun
    · refine r_qon (q_move rfl rfl) rfl rfl rfl rfl (decide_eq_false c2) rfl ?_
      refine r_qon (q_gtr rfl rfl rfl) rfl rfl rfl rfl (decide_eq_false c2) rfl ?_
      refine r_q (q_pick_f rfl rfl (decide_eq_false c2) rfl) rfl rfl ?_
      refine r_nil ?_
      refine j_then ?_
      rcases of_if h with ⟨c3, h⟩ | ⟨c3, h⟩
      · refine j_true rfl (decide_eq_true c3) ?_
        refine j_region ?_
        exact absurd h nofun
      · refine j_false rfl (decide_eq_false c3) ?_
        refine j_skip ?_
        refine j_then ?_
        refine j_seq ?_
        refine j_region ?_
        refine r_q (q_move rfl rfl) rfl rfl ?_
        refine r_q (q_int un98 un3 rfl rfl) rfl rfl ?_
        obtain ⟨c4, h⟩ := of_guard h
        refine r_do (a_mkI un25 sz3 by3 zr3 rfl c4 rfl rfl rfl) rfl rfl (fun x2 => ?_)
        refine r_q (q_assign rfl rfl) rfl rfl ?_
        refine r_nil ?_
        refine j_then ?_
        refine j_seq ?_
        refine j_region ?_
        refine r_q (q_move rfl rfl) rfl rfl ?_
        refine r_q (q_move rfl rfl) rfl rfl ?_
        refine r_do (a_cpyI 0 0 (List.replicate (wrap64 v2).toNat (0:Int)) a0 (List.replicate (wrap64 v2).toNat (0:Int)).length un25 sz3 rfl rfl rfl rfl rfl rfl rfl (cutA_zero _ _ _).symm (Nat.le_of_eq (Nat.zero_add _)) List.length_replicate a0_h (Rd.drop 1 a0_R)) rfl rfl (fun _ => ?_)
        refine j_s0 ?_
        refine r_q (q_assign rfl rfl) rfl rfl ?_
        refine r_nil ?_
        refine j_then ?_
        refine j_seq ?_
        obtain ⟨κ0, h, hκ0⟩ := ex_k (g := fun κ => slices_Repeat_int.loop0 K κ K (((min a0.length (List.replicate (wrap64 v2).toNat (0:Int)).length) : Nat) : Int) (cpy (List.replicate (wrap64 v2).toNat (0:Int)) 0 (a0.take (min a0.length (List.replicate (wrap64 v2).toNat (0:Int)).length))) = some r1) h
        refine j_cut (σ := (List Int)) (fun s => [(7, (.slice x2 ((wrap64 v2).toNat) ((wrap64 v2).toNat)))]) (fun s => .row x2 ((wrap64 v2).toNat) 3 1 (ii s) :: F) (fun s => κ0 s = some r1 ∧ (s.length = ((wrap64 v2).toNat))) ?_ ?_
        · refine j_block ?_
          refine j_loop (σ := Int × (List Int)) (fun s => [(7, (.slice x2 ((wrap64 v2).toNat) ((wrap64 v2).toNat))), (8, (i6 s.1))]) (fun s => .row x2 ((wrap64 v2).toNat) 3 1 (ii s.2) :: F) (fun m s => slices_Repeat_int.loop0 K κ0 m s.1 s.2 = some r1 ∧ (s.2.length = ((wrap64 v2).toNat))) K ((((min a0.length (List.replicate (wrap64 v2).toNat (0:Int)).length) : Nat) : Int), (cpy (List.replicate (wrap64 v2).toNat (0:Int)) 0 (a0.take (min a0.length (List.replicate (wrap64 v2).toNat (0:Int)).length)))) ⟨h, (cpy_n List.length_replicate (Nat.le_of_eq (Nat.zero_add _)))⟩ (fun a he => he.sub ⟨rfl, rfl, trivial⟩) (fun w h => h) ?_
          rintro m ⟨p2, l2⟩ ⟨h, q2⟩
          cases m with
          | zero => exact absurd h (by rw [slices_Repeat_int.loop0]; exact nofun)
          | succ m =>
            rw [slices_Repeat_int.loop0] at h
            show J _ _ [(7, (.slice x2 ((wrap64 v2).toNat) ((wrap64 v2).toNat))), (8, (i6 p2))] _ (.row x2 ((wrap64 v2).toNat) 3 1 (ii l2) :: F)
            refine j_seq ?_
            refine j_seq ?_
            refine j_region ?_
            refine r_q (q_move rfl rfl) rfl rfl ?_
            refine r_q (q_move rfl rfl) rfl rfl ?_
            refine r_q (q_lenX l2 q2 un25 rfl rfl rfl rfl rfl) rfl rfl ?_
            refine r_q (q_lss rfl rfl rfl) rfl rfl ?_
            refine r_nil ?_
            refine j_then ?_
            rcases of_if h with ⟨c11, h⟩ | ⟨c11, h⟩
            · refine j_true rfl (decide_eq_true c11) ?_
              refine j_skip ?_
              refine j_then ?_
              refine j_block ?_
              obtain ⟨c12, h⟩ := of_guard h
              refine j_draw (F) 10 follows_any rfl ?_
              refine d_take 0 rfl (q_move rfl rfl) rfl rfl (by kernel_rfl) (by kernel_rfl) (by kernel_rfl) (fun w h => h.tail) ?_
              refine d_take 1 rfl (q_move rfl rfl) rfl rfl (by kernel_rfl) (by kernel_rfl) (by kernel_rfl) (fun w h => h.tail) ?_
              refine d_take 2 rfl (q_move rfl rfl) rfl rfl (by kernel_rfl) (by kernel_rfl) (by kernel_rfl) (fun w h => h.tail) ?_
              refine j_fact (fun w hm => (hm.roomI 0 rfl)) (fun k19 => ?_)
              refine d_take 3 rfl (q_lo l2 q2 c12 un25 sz3 rfl rfl rfl) rfl rfl (by kernel_rfl) (by kernel_rfl) (by kernel_rfl) (fun w h => h.tail) ?_
              refine d_take 4 rfl (q_move rfl rfl) rfl rfl (by kernel_rfl) (by kernel_rfl) (by kernel_rfl) (fun w h => h.tail) ?_
              refine d_take 5 rfl (q_move rfl rfl) rfl rfl (by kernel_rfl) (by kernel_rfl) (by kernel_rfl) (fun w h => h.tail) ?_
              refine j_fact (fun w hm => (hm.roomI 0 rfl)) (fun k20 => ?_)
              refine d_take 6 rfl (q_hi l2 q2 k20 c12 un25 sz3 rfl rfl rfl) rfl rfl (by kernel_rfl) (by kernel_rfl) (by kernel_rfl) (fun w h => h.tail) ?_
              refine d_one 7 (by kernel_rfl) ?_
              refine o_do rfl (a_cpyI 0 p2.toNat l2 (l2.take p2.toNat) (l2.drop p2.toNat).length un25 sz3 rfl rfl rfl rfl rfl rfl rfl rfl (drop_room c12) rfl rfl (rd_hiI (Rd.row 0 rfl) p2.toNat)) rfl rfl (fun _ w h => h.tail) (fun _ => ?_)
              refine j_s0 ?_
              refine d_take 8 rfl (q_add rfl rfl rfl) rfl rfl (by kernel_rfl) (by kernel_rfl) (by kernel_rfl) (fun w h => h.tail) ?_
              refine d_take 9 rfl (q_assign rfl rfl) rfl rfl (by kernel_rfl) (by kernel_rfl) (by kernel_rfl) (fun w h => h.tail) ?_
              refine d_done (by kernel_rfl) ?_
              refine j_in ?_
              refine j_then ?_
              exact j_again m ((wrap64 (p2 + (((min (l2.take p2.toNat).length (l2.drop p2.toNat).length) : Nat) : Int))), (cpy l2 p2.toNat ((l2.take p2.toNat).take (min (l2.take p2.toNat).length (l2.drop p2.toNat).length)))) (Nat.lt_succ_self m) ⟨h, (cpy_n q2 (drop_room c12))⟩ (fun a he => he.sub ⟨rfl, rfl, trivial⟩) (fun w h => h)
            · refine j_false rfl (decide_eq_false c11) ?_
              refine j_exit ?_
              refine j_then_exit ?_
              refine j_then_exit ?_
              refine j_in_exit ?_
              refine j_then ?_
              exact j_meet l2 ⟨h, q2⟩ (fun a he => he.sub ⟨rfl, trivial⟩) (fun w h => h)
        · rintro l3 ⟨h, q3⟩
          subst hκ0
          show J _ _ [(7, (.slice x2 ((wrap64 v2).toNat) ((wrap64 v2).toNat)))] _ (.row x2 ((wrap64 v2).toNat) 3 1 (ii l3) :: F)
          refine j_then ?_
          refine j_seq ?_
          refine j_region ?_
          refine r_q (q_move rfl rfl) rfl rfl ?_
          refine r_q (q_assign rfl rfl) rfl rfl ?_
          refine r_nil ?_
          refine j_then ?_
          refine j_ret ?_
          cases h
          exact j_return rfl (ResOf.tmp rfl ResOf.nil) rfl (fun w h => ⟨⟨x2, ((wrap64 v2).toNat), ((wrap64 v2).toNat), q3⟩, rfl, h⟩)

theorem impl_NewHeap.calls (K : Nat) (a0 : Int) (a1 : Int) {w0 w : World} {F : List Res} {r1 : List Int} {r2 : List Int} {r3 : List Int} {r4 : Bool} (hm : Mem w0 (F) w)  (h : impl_NewHeap.f K a0 a1 = some (r1, r2, r3, r4)) :
    Calls Try.prog 51 (List.toArray [i6 a0, i6 a1]) w fun e w' => ∃ x : (Sl r1.length) × (Sl r2.length) × (Sl r3.length), e = .returned (.tuple (List.toArray [.agg (List.toArray [.slice x.1.A x.1.n x.1.c, .slice x.2.1.A x.2.1.n x.2.1.c, .slice x.2.2.A x.2.2.n x.2.2.c]), .bool r4])) ∧ Mem w0 (.row x.1.A x.1.c 3 1 (ii r1) :: .row x.2.1.A x.2.1.c 3 1 (ii r2) :: .row x.2.2.A x.2.2.c 3 1 (ii r3) :: F) w' := by
  unfold impl_NewHeap.f at h
  refine calls_of_J (n := 31) Try.func51 rfl rfl rfl hm ?_
  refine j_seq ?_
  refine j_region ?_
  refine r_do (a_alloc zr27 rfl) rfl rfl (fun x1 => ?_)
  refine r_q (q_assign rfl rfl) rfl rfl ?_
  refine r_nil ?_
  refine j_then ?_
  refine j_seq ?_
  refine j_seq ?_
  refine j_region ?_
  refine r_q (q_move rfl rfl) rfl rfl ?_
  refine r_q (q_lss rfl rfl rfl) rfl rfl ?_
  refine r_q (q_move rfl rfl) rfl rfl ?_
  rcases of_if h with ⟨c1, h⟩ | ⟨c1, h⟩
  · refine r_off rfl rfl rfl rfl (decide_eq_true c1) rfl ?_
    refine r_off rfl rfl rfl rfl (decide_eq_true c1) rfl ?_
    refine r_q (q_pick_t rfl rfl (decide_eq_true c1) rfl) rfl rfl ?_
    refine r_q (q_move rfl rfl) rfl rfl ?_
    refine r_off rfl rfl rfl rfl rfl rfl ?_
    refine r_off rfl rfl rfl rfl rfl rfl ?_
    refine r_q (q_pick_t rfl rfl rfl rfl) rfl rfl ?_
    refine r_q (q_move rfl rfl) rfl rfl ?_
    refine r_off rfl rfl rfl rfl rfl rfl ?_
    refine r_off rfl rfl rfl rfl rfl rfl ?_
    refine r_q (q_pick_t rfl rfl rfl rfl) rfl rfl ?_
    refine r_nil ?_
    refine j_then ?_
    refine j_true rfl rfl ?_
    refine j_seq ?_
    refine j_region ?_
    refine r_q (q_build (cs := [(.slice none 0 0), (.slice none 0 0), (.slice none 0 0)]) zr27 pl27 rfl rfl rfl rfl) rfl rfl ?_
    refine r_do (a_storeb 0 rfl sz27 rfl rfl rfl rfl (Nat.le_of_ble_eq_true rfl) rfl) rfl rfl (fun _ => ?_)
    refine j_b0 [(.slice none 0 0), (.slice none 0 0), (.slice none 0 0)] rfl ?_
    refine r_q (q_assign rfl rfl) rfl rfl ?_
    refine r_nil ?_
    refine j_then ?_
    refine j_ret ?_
    refine j_then_ret ?_
    refine j_nil 3 1 ?_
    refine j_nil 3 1 ?_
    refine j_nil 3 1 ?_
    cases h
    exact j_return rfl (ResOf.cell 3 rfl rfl ag27 sz27 (ResOf.tmp rfl ResOf.nil)) rfl (fun w h => ⟨(⟨none, 0, 0, rfl⟩, ⟨none, 0, 0, rfl⟩, ⟨none, 0, 0, rfl⟩), rfl, h.pick 4 [2, 1, 0] rfl⟩)
  · refine r_qon (q_move rfl rfl) rfl rfl rfl rfl (decide_eq_false c1) rfl ?_
    refine r_qon (q_gtr rfl rfl rfl) rfl rfl rfl rfl (decide_eq_false c1) rfl ?_
    refine r_q (q_pick_f rfl rfl (decide_eq_false c1) rfl) rfl rfl ?_
    refine r_q (q_move rfl rfl) rfl rfl ?_
    rcases of_if h with ⟨c2, h⟩ | ⟨c2, h⟩
    · refine r_off rfl rfl rfl rfl (decide_eq_true c2) rfl ?_
      refine r_off rfl rfl rfl rfl (decide_eq_true c2) rfl ?_
      refine r_q (q_pick_t rfl rfl (decide_eq_true c2) rfl) rfl rfl ?_
      refine r_q (q_move rfl rfl) rfl rfl ?_
      refine r_off rfl rfl rfl rfl rfl rfl ?_
      refine r_off rfl rfl rfl rfl rfl rfl ?_
      refine r_q (q_pick_t rfl rfl rfl rfl) rfl rfl ?_
      refine r_nil ?_
      refine j_then ?_
      refine j_true rfl rfl ?_
      refine j_seq ?_
      refine j_region ?_
      refine r_q (q_build (cs := [(.slice none 0 0), (.slice none 0 0), (.slice none 0 0)]) zr27 pl27 rfl rfl rfl rfl) rfl rfl ?_
      refine r_do (a_storeb 0 rfl sz27 rfl rfl rfl rfl (Nat.le_of_ble_eq_true rfl) rfl) rfl rfl (fun _ => ?_)
      refine j_b0 [(.slice none 0 0), (.slice none 0 0), (.slice none 0 0)] rfl ?_
      refine r_q (q_assign rfl rfl) rfl rfl ?_
      refine r_nil ?_
      refine j_then ?_
      refine j_ret ?_
      refine j_then_ret ?_
      refine j_nil 3 1 ?_
      refine j_nil 3 1 ?_
      refine j_nil 3 1 ?_
      cases h
      exact j_return rfl (ResOf.cell 3 rfl rfl ag27 sz27 (ResOf.tmp rfl ResOf.nil)) rfl (fun w h => ⟨(⟨none, 0, 0, rfl⟩, ⟨none, 0, 0, rfl⟩, ⟨none, 0, 0, rfl⟩), rfl, h.pick 4 [2, 1, 0] rfl⟩)
    · refine r_qon (q_move rfl rfl) rfl rfl rfl rfl (decide_eq_false c2) rfl ?_
      refine r_qon (q_lss rfl rfl rfl) rfl rfl rfl rfl (decide_eq_false c2) rfl ?_
      refine r_q (q_pick_f rfl rfl (decide_eq_false c2) rfl) rfl rfl ?_
      refine r_q (q_move rfl rfl) rfl rfl ?_
      rcases of_if h with ⟨c3, h⟩ | ⟨c3, h⟩
      · refine r_off rfl rfl rfl rfl (decide_eq_true c3) rfl ?_
        refine r_off rfl rfl rfl rfl (decide_eq_true c3) rfl ?_
        refine r_q (q_pick_t rfl rfl (decide_eq_true c3) rfl) rfl rfl ?_
        refine r_nil ?_
        refine j_then ?_
        refine j_true rfl rfl ?_
        refine j_seq ?_
        refine j_region ?_
        refine r_q (q_build (cs := [(.slice none 0 0), (.slice none 0 0), (.slice none 0 0)]) zr27 pl27 rfl rfl rfl rfl) rfl rfl ?_
        refine r_do (a_storeb 0 rfl sz27 rfl rfl rfl rfl (Nat.le_of_ble_eq_true rfl) rfl) rfl rfl (fun _ => ?_)
        refine j_b0 [(.slice none 0 0), (.slice none 0 0), (.slice none 0 0)] rfl ?_
        refine r_q (q_assign rfl rfl) rfl rfl ?_
        refine r_nil ?_
        refine j_then ?_
        refine j_ret ?_
        refine j_then_ret ?_
        refine j_nil 3 1 ?_
        refine j_nil 3 1 ?_
        refine j_nil 3 1 ?_
        cases h
        exact j_return rfl (ResOf.cell 3 rfl rfl ag27 sz27 (ResOf.tmp rfl ResOf.nil)) rfl (fun w h => ⟨(⟨none, 0, 0, rfl⟩, ⟨none, 0, 0, rfl⟩, ⟨none, 0, 0, rfl⟩), rfl, h.pick 4 [2, 1, 0] rfl⟩)
      · refine r_qon (q_move rfl rfl) rfl rfl rfl rfl (decide_eq_false c3) rfl ?_
        refine r_qon (q_gtr rfl rfl rfl) rfl rfl rfl rfl (decide_eq_false c3) rfl ?_
        refine r_q (q_pick_f rfl rfl (decide_eq_false c3) rfl) rfl rfl ?_
        refine r_nil ?_
        refine j_then ?_
        rcases of_if h with ⟨c4, h⟩ | ⟨c4, h⟩
        · refine j_true rfl (decide_eq_true c4) ?_
          refine j_seq ?_
          refine j_region ?_
          refine r_q (q_build (cs := [(.slice none 0 0), (.slice none 0 0), (.slice none 0 0)]) zr27 pl27 rfl rfl rfl rfl) rfl rfl ?_
          refine r_do (a_storeb 0 rfl sz27 rfl rfl rfl rfl (Nat.le_of_ble_eq_true rfl) rfl) rfl rfl (fun _ => ?_)
          refine j_b0 [(.slice none 0 0), (.slice none 0 0), (.slice none 0 0)] rfl ?_
          refine r_q (q_assign rfl rfl) rfl rfl ?_
          refine r_nil ?_
          refine j_then ?_
          refine j_ret ?_
          refine j_then_ret ?_
          refine j_nil 3 1 ?_
          refine j_nil 3 1 ?_
          refine j_nil 3 1 ?_
          cases h
          exact j_return rfl (ResOf.cell 3 rfl rfl ag27 sz27 (ResOf.tmp rfl ResOf.nil)) rfl (fun w h => ⟨(⟨none, 0, 0, rfl⟩, ⟨none, 0, 0, rfl⟩, ⟨none, 0, 0, rfl⟩), rfl, h.pick 4 [2, 1, 0] rfl⟩)
        · refine j_false rfl (decide_eq_false c4) ?_
          refine j_skip ?_
          refine j_then ?_
          refine j_seq ?_
          refine j_region ?_
          refine r_do (a_litX (vs := [(i6 (-1:Int))]) (ii ([(-1:Int)] : List Int)) un25 sz3 zr3 rfl rfl rfl rfl rfl rfl rfl rfl rfl) rfl rfl (fun x2 => ?_)
          refine r_q (q_move rfl rfl) rfl rfl ?_
          obtain ⟨v1, hb1, h⟩ := of_b1 h
          refine r_do (a_call ok83 rfl rfl rfl rfl (fun w hm => slices_Repeat_int.calls K ([(-1:Int)] : List Int) x2 1 1 a0 hm rfl (Rd.row 0 rfl) hb1)) rfl rfl (fun x3 => ?_)
          refine r_do (a_litX (vs := [(i6 (-1:Int))]) (ii ([(-1:Int)] : List Int)) un25 sz3 zr3 rfl rfl rfl rfl rfl rfl rfl rfl rfl) rfl rfl (fun x4 => ?_)
          refine r_q (q_move rfl rfl) rfl rfl ?_
          obtain ⟨v2, hb2, h⟩ := of_b1 h
          refine r_do (a_call ok83 rfl rfl rfl rfl (fun w hm => slices_Repeat_int.calls K ([(-1:Int)] : List Int) x4 1 1 a0 hm rfl (Rd.row 0 rfl) hb2)) rfl rfl (fun x5 => ?_)
          refine r_do (a_litX (vs := [(i6 (-1:Int))]) (ii ([(-1:Int)] : List Int)) un25 sz3 zr3 rfl rfl rfl rfl rfl rfl rfl rfl rfl) rfl rfl (fun x6 => ?_)
          refine r_q (q_move rfl rfl) rfl rfl ?_
          obtain ⟨v3, hb3, h⟩ := of_b1 h
          refine r_do (a_call ok83 rfl rfl rfl rfl (fun w hm => slices_Repeat_int.calls K ([(-1:Int)] : List Int) x6 1 1 a1 hm rfl (Rd.row 0 rfl) hb3)) rfl rfl (fun x7 => ?_)
          refine r_q (q_build (cs := [(.slice x3.A x3.n x3.c), (.slice x5.A x5.n x5.c), (.slice x7.A x7.n x7.c)]) zr27 pl27 rfl rfl rfl rfl) rfl rfl ?_
          refine r_do (a_storeb 6 rfl sz27 rfl rfl rfl rfl (Nat.le_of_ble_eq_true rfl) rfl) rfl rfl (fun _ => ?_)
          refine j_b6 [(.slice x3.A x3.n x3.c), (.slice x5.A x5.n x5.c), (.slice x7.A x7.n x7.c)] rfl ?_
          refine r_q (q_assign rfl rfl) rfl rfl ?_
          refine r_nil ?_
          refine j_then ?_
          refine j_ret ?_
          cases h
          exact j_return rfl (ResOf.cell 6 rfl rfl ag27 sz27 (ResOf.tmp rfl ResOf.nil)) rfl (fun w h => ⟨(⟨x3.A, x3.n, x3.c, x3.h⟩, ⟨x5.A, x5.n, x5.c, x5.h⟩, ⟨x7.A, x7.n, x7.c, x7.h⟩), rfl, h.pick 7 [4, 2, 0] rfl⟩)

theorem impl_NewStore.calls (K : Nat) (a0 : Int) (a1 : Int) {w0 w : World} {F : List Res} {r1 : List Int} {r2 : List Int} {r3 : List Int} {r4 : List Int} {r5 : Bool} (hm : Mem w0 (F) w)  (h : impl_NewStore.f K a0 a1 = some (r1, r2, r3, r4, r5)) :
    Calls Try.prog 16 (List.toArray [i6 a0, i6 a1]) w fun e w' => ∃ x : (Sl r1.length) × (Sl r2.length) × (Sl r3.length) × (Sl r4.length), e = .returned (.tuple (List.toArray [.agg (List.toArray [.slice x.1.A x.1.n x.1.c, .slice x.2.1.A x.2.1.n x.2.1.c, .slice x.2.2.1.A x.2.2.1.n x.2.2.1.c, .slice x.2.2.2.A x.2.2.2.n x.2.2.2.c]), .bool r5])) ∧ Mem w0 (.row x.1.A x.1.c 3 1 (ii r1) :: .row x.2.1.A x.2.1.c 3 1 (ii r2) :: .row x.2.2.1.A x.2.2.1.c 3 1 (ii r3) :: .row x.2.2.2.A x.2.2.2.c 3 1 (ii r4) :: F) w' := by
  unfold impl_NewStore.f at h
  refine calls_of_J (n := 33) Try.func16 rfl rfl rfl hm ?_
  refine j_seq ?_
  refine j_region ?_
  refine r_do (a_alloc zr29 rfl) rfl rfl (fun x1 => ?_)
  refine r_q (q_assign rfl rfl) rfl rfl ?_
  refine r_nil ?_
  refine j_then ?_
  refine j_seq ?_
  refine j_region ?_
  refine r_q (q_move rfl rfl) rfl rfl ?_
  refine r_q (q_move rfl rfl) rfl rfl ?_
  obtain ⟨v1, v2, v3, v4, hb1, h⟩ := of_b4 h
  refine r_do (a_call ok51 rfl rfl rfl rfl (fun w hm => impl_NewHeap.calls K a0 a1 hm hb1)) rfl rfl (fun x2 => ?_)
  refine r_q (q_move rfl rfl) rfl rfl ?_
  refine r_q (q_extract rfl rfl rfl) rfl rfl ?_
  refine r_q (q_extract rfl rfl rfl) rfl rfl ?_
  refine r_do (a_alloc zr27 rfl) rfl rfl (fun x3 => ?_)
  refine r_do (a_storeb 0 rfl sz27 rfl rfl rfl rfl (Nat.le_of_ble_eq_true rfl) rfl) rfl rfl (fun _ => ?_)
  refine j_b0 [(.slice x2.1.A x2.1.n x2.1.c), (.slice x2.2.1.A x2.2.1.n x2.2.1.c), (.slice x2.2.2.A x2.2.2.n x2.2.2.c)] rfl ?_
  refine r_q (q_assign rfl rfl) rfl rfl ?_
  refine r_nil ?_
  refine j_then ?_
  refine j_seq ?_
  refine j_seq ?_
  refine j_region ?_
  refine r_q (q_move rfl rfl) rfl rfl ?_
  refine r_q (q_not rfl rfl) rfl rfl ?_
  refine r_nil ?_
  refine j_then ?_
  rcases of_if h with ⟨c1, h⟩ | ⟨c1, h⟩
  · refine j_false rfl (not_f c1) ?_
    refine j_skip ?_
    refine j_then ?_
    refine j_seq ?_
    refine j_region ?_
    refine r_q (q_loadb_agg 0 rfl ag27 sz27 rfl rfl rfl rfl) rfl rfl ?_
    refine r_q (q_build (cs := [(.slice x2.1.A x2.1.n x2.1.c), (.slice x2.2.1.A x2.2.1.n x2.2.1.c), (.slice x2.2.2.A x2.2.2.n x2.2.2.c), (.slice none 0 0)]) zr29 pl29 rfl rfl rfl rfl) rfl rfl ?_
    refine r_do (a_alloc zr29 rfl) rfl rfl (fun x4 => ?_)
    refine r_do (a_storeb 0 rfl sz29 rfl rfl rfl rfl (Nat.le_of_ble_eq_true rfl) rfl) rfl rfl (fun _ => ?_)
    refine j_b0 [(.slice x2.1.A x2.1.n x2.1.c), (.slice x2.2.1.A x2.2.1.n x2.2.1.c), (.slice x2.2.2.A x2.2.2.n x2.2.2.c), (.slice none 0 0)] rfl ?_
    refine r_nil ?_
    refine j_then ?_
    refine j_seq ?_
    refine j_seq ?_
    refine j_region ?_
    refine r_q (q_move rfl rfl) rfl rfl ?_
    refine r_q (q_move rfl rfl) rfl rfl ?_
    refine r_nil ?_
    refine j_then ?_
    refine j_nil 3 1 ?_
    obtain ⟨κ0, h, hκ0⟩ := ex_k (g := fun κ => impl_NewStore.loop0 K κ a0 K (0:Int) ([] : List Int) = some (r1, r2, r3, r4, r5)) h
    refine j_cut (σ := (Option Addr) × Nat × Nat × (List Int)) (fun s => [(4, (pt x1)), (8, (pt x4))]) (fun s => .box x1 29 [(.slice none 0 0), (.slice none 0 0), (.slice none 0 0), (.slice none 0 0)] :: .box x4 29 [(.slice x2.1.A x2.1.n x2.1.c), (.slice x2.2.1.A x2.2.1.n x2.2.1.c), (.slice x2.2.2.A x2.2.2.n x2.2.2.c), (.slice s.1 s.2.1 s.2.2.1)] :: .row x2.1.A x2.1.c 3 1 (ii v1) :: .row x2.2.1.A x2.2.1.c 3 1 (ii v2) :: .row x2.2.2.A x2.2.2.c 3 1 (ii v3) :: .row s.1 s.2.2.1 3 1 (ii s.2.2.2) :: F) (fun s => κ0 s.2.2.2 = some (r1, r2, r3, r4, r5) ∧ (s.2.2.2.length = s.2.1)) ?_ ?_
    · refine j_block ?_
      refine j_loop (σ := Int × (Option Addr) × Nat × Nat × (List Int)) (fun s => [(4, (pt x1)), (8, (pt x4)), (21, (i6 a0)), (22, (i6 s.1))]) (fun s => .box x1 29 [(.slice none 0 0), (.slice none 0 0), (.slice none 0 0), (.slice none 0 0)] :: .box x4 29 [(.slice x2.1.A x2.1.n x2.1.c), (.slice x2.2.1.A x2.2.1.n x2.2.1.c), (.slice x2.2.2.A x2.2.2.n x2.2.2.c), (.slice s.2.1 s.2.2.1 s.2.2.2.1)] :: .row x2.1.A x2.1.c 3 1 (ii v1) :: .row x2.2.1.A x2.2.1.c 3 1 (ii v2) :: .row x2.2.2.A x2.2.2.c 3 1 (ii v3) :: .row s.2.1 s.2.2.2.1 3 1 (ii s.2.2.2.2) :: F) (fun m s => impl_NewStore.loop0 K κ0 a0 m s.1 s.2.2.2.2 = some (r1, r2, r3, r4, r5) ∧ (s.2.2.2.2.length = s.2.2.1)) K ((0:Int), none, 0, 0, ([] : List Int)) ⟨h, rfl⟩ (fun a he => he.sub ⟨rfl, rfl, rfl, rfl, trivial⟩) (fun w h => h.pick 7 [6, 1, 3, 4, 5, 0] rfl) ?_
      rintro m ⟨p2, A2, n2, d2, l2⟩ ⟨h, q2⟩
      cases m with
      | zero => exact absurd h (by rw [impl_NewStore.loop0]; exact nofun)
      | succ m =>
        rw [impl_NewStore.loop0] at h
        show J _ _ [(4, (pt x1)), (8, (pt x4)), (21, (i6 a0)), (22, (i6 p2))] _ (.box x1 29 [(.slice none 0 0), (.slice none 0 0), (.slice none 0 0), (.slice none 0 0)] :: .box x4 29 [(.slice x2.1.A x2.1.n x2.1.c), (.slice x2.2.1.A x2.2.1.n x2.2.1.c), (.slice x2.2.2.A x2.2.2.n x2.2.2.c), (.slice A2 n2 d2)] :: .row x2.1.A x2.1.c 3 1 (ii v1) :: .row x2.2.1.A x2.2.1.c 3 1 (ii v2) :: .row x2.2.2.A x2.2.2.c 3 1 (ii v3) :: .row A2 d2 3 1 (ii l2) :: F)
        refine j_seq ?_
        refine j_region ?_
        refine r_q (q_lss rfl rfl rfl) rfl rfl ?_
        refine r_nil ?_
        refine j_then ?_
        refine j_seq ?_
        rcases of_if h with ⟨c8, h⟩ | ⟨c8, h⟩
        · refine j_true rfl (decide_eq_true c8) ?_
          refine j_skip ?_
          refine j_then ?_
          refine j_seq ?_
          refine j_block ?_
          refine j_seq ?_
          refine j_region ?_
          refine r_q (q_move rfl rfl) rfl rfl ?_
          refine r_q (q_assign rfl rfl) rfl rfl ?_
          refine r_nil ?_
          refine j_then ?_
          refine j_region ?_
          refine r_q (q_fieldAddr fi29_1 sz25 rfl rfl rfl) rfl rfl ?_
          refine r_q (q_loadb 1 rfl ag25 rfl rfl rfl) rfl rfl ?_
          refine r_q (q_move rfl rfl) rfl rfl ?_
          refine r_do (a_litX (vs := [(i6 p2)]) (ii ([p2] : List Int)) un25 sz3 zr3 rfl rfl rfl rfl rfl rfl rfl rfl rfl) rfl rfl (fun x5 => ?_)
          obtain ⟨c9, h⟩ := of_guard h
          refine r_do (a_appI (xs := l2) (ys := ([p2] : List Int)) 6 un25 un25 sz3 by3 zr3 rfl rfl rfl rfl rfl rfl rfl rfl rfl q2 rfl (Rd.row 0 rfl) c9) rfl rfl (fun x6 => ?_)
          refine j_s6 ?_
          refine r_q (q_fieldAddr fi29_1 sz25 rfl rfl rfl) rfl rfl ?_
          refine r_do (a_storeb 2 rfl sz25 rfl rfl rfl rfl (Nat.le_of_ble_eq_true rfl) rfl) rfl rfl (fun _ => ?_)
          refine j_b2 [(.slice x2.1.A x2.1.n x2.1.c), (.slice x2.2.1.A x2.2.1.n x2.2.1.c), (.slice x2.2.2.A x2.2.2.n x2.2.2.c), (.slice x6.1 (n2 + 1) x6.2)] rfl ?_
          refine r_nil ?_
          refine j_in ?_
          refine j_then ?_
          refine j_region ?_
          refine r_q (q_add rfl rfl rfl) rfl rfl ?_
          refine r_q (q_move rfl rfl) rfl rfl ?_
          refine r_nil ?_
          refine j_then ?_
          exact j_again m ((wrap64 (p2 + (1:Int))), x6.1, (n2 + 1), x6.2, (l2 ++ ([p2] : List Int))) (Nat.lt_succ_self m) ⟨h, (app_len q2 rfl)⟩ (fun a he => he.sub ⟨rfl, rfl, rfl, rfl, trivial⟩) (fun w h => h.tail)
        · refine j_false rfl (decide_eq_false c8) ?_
          refine j_exit ?_
          refine j_then_exit ?_
          refine j_then_exit ?_
          refine j_in_exit ?_
          refine j_then ?_
          exact j_meet (A2, n2, d2, l2) ⟨h, q2⟩ (fun a he => he.sub ⟨rfl, rfl, trivial⟩) (fun w h => h)
    · rintro ⟨A3, n3, d3, l3⟩ ⟨h, q3⟩
      subst hκ0
      show J _ _ [(4, (pt x1)), (8, (pt x4))] _ (.box x1 29 [(.slice none 0 0), (.slice none 0 0), (.slice none 0 0), (.slice none 0 0)] :: .box x4 29 [(.slice x2.1.A x2.1.n x2.1.c), (.slice x2.2.1.A x2.2.1.n x2.2.1.c), (.slice x2.2.2.A x2.2.2.n x2.2.2.c), (.slice A3 n3 d3)] :: .row x2.1.A x2.1.c 3 1 (ii v1) :: .row x2.2.1.A x2.2.1.c 3 1 (ii v2) :: .row x2.2.2.A x2.2.2.c 3 1 (ii v3) :: .row A3 d3 3 1 (ii l3) :: F)
      refine j_then ?_
      refine j_seq ?_
      refine j_region ?_
      refine r_q (q_loadb_agg 1 rfl ag29 sz29 rfl rfl rfl rfl) rfl rfl ?_
      refine r_do (a_storeb 0 rfl sz29 rfl rfl rfl rfl (Nat.le_of_ble_eq_true rfl) rfl) rfl rfl (fun _ => ?_)
      refine j_b0 [(.slice x2.1.A x2.1.n x2.1.c), (.slice x2.2.1.A x2.2.1.n x2.2.1.c), (.slice x2.2.2.A x2.2.2.n x2.2.2.c), (.slice A3 n3 d3)] rfl ?_
      refine r_q (q_assign rfl rfl) rfl rfl ?_
      refine r_nil ?_
      refine j_then ?_
      refine j_ret ?_
      cases h
      exact j_return rfl (ResOf.cell 0 rfl rfl ag29 sz29 (ResOf.tmp rfl ResOf.nil)) rfl (fun w h => ⟨(⟨x2.1.A, x2.1.n, x2.1.c, x2.1.h⟩, ⟨x2.2.1.A, x2.2.1.n, x2.2.1.c, x2.2.1.h⟩, ⟨x2.2.2.A, x2.2.2.n, x2.2.2.c, x2.2.2.h⟩, ⟨A3, n3, d3, q3⟩), rfl, (h.drop 2)⟩)
  · refine j_true rfl (not_t (var_f c1)) ?_
    refine j_seq ?_
    refine j_region ?_
    refine r_q (q_build (cs := [(.slice none 0 0), (.slice none 0 0), (.slice none 0 0), (.slice none 0 0)]) zr29 pl29 rfl rfl rfl rfl) rfl rfl ?_
    refine r_do (a_storeb 4 rfl sz29 rfl rfl rfl rfl (Nat.le_of_ble_eq_true rfl) rfl) rfl rfl (fun _ => ?_)
    refine j_b4 [(.slice none 0 0), (.slice none 0 0), (.slice none 0 0), (.slice none 0 0)] rfl ?_
    refine r_q (q_assign rfl rfl) rfl rfl ?_
    refine r_nil ?_
    refine j_then ?_
    refine j_ret ?_
    refine j_then_ret ?_
    refine j_nil 3 1 ?_
    refine j_nil 3 1 ?_
    refine j_nil 3 1 ?_
    refine j_nil 3 1 ?_
    cases h
    exact j_return rfl (ResOf.cell 8 rfl rfl ag29 sz29 (ResOf.tmp rfl ResOf.nil)) rfl (fun w h => ⟨(⟨none, 0, 0, rfl⟩, ⟨none, 0, 0, rfl⟩, ⟨none, 0, 0, rfl⟩, ⟨none, 0, 0, rfl⟩), rfl, h.pick 9 [3, 2, 1, 0] rfl⟩)

theorem laws_FnNewStore.calls (K : Nat) (a0 : List Int) (a0_A : Option Addr) (a0_n a0_c : Nat) {w0 w : World} {F : List Res} {r1 : Bool} (hm : Mem w0 (F) w) (a0_h : a0.length = a0_n) (a0_R : Rd w0 F a0_A (ints .u8 a0)) (a0_k : a0.length ≤ a0_c) (h : laws_FnNewStore.f K a0 = some r1) :
    Calls Try.prog 3 (List.toArray [.slice a0_A a0_n a0_c]) w fun e w' => ∃ x : Unit, e = .returned (.bool r1) ∧ Mem w0 (F) w' := by
  unfold laws_FnNewStore.f at h
  refine calls_of_J (n := 92) Try.func3 rfl rfl rfl hm ?_
  refine j_seq ?_
  refine j_region ?_
  refine r_q (q_assign rfl rfl) rfl rfl ?_
  refine r_nil ?_
  refine j_then ?_
  refine j_seq ?_
  refine j_seq ?_
  refine j_region ?_
  refine r_q (q_move rfl rfl) rfl rfl ?_
  refine r_q (q_lenX a0 a0_h un22 rfl rfl rfl rfl rfl) rfl rfl ?_
  refine r_q (q_gtr rfl rfl rfl) rfl rfl ?_
  refine r_nil ?_
  refine j_then ?_
  rcases of_if h with ⟨c1, h⟩ | ⟨c1, h⟩
  · refine j_true rfl (decide_eq_true c1) ?_
    refine j_seq ?_
    refine j_region ?_
    refine r_q (q_assign rfl rfl) rfl rfl ?_
    refine r_nil ?_
    refine j_then ?_
    refine j_ret ?_
    refine j_then_ret ?_
    cases h
    exact j_return rfl (ResOf.tmp rfl ResOf.nil) rfl (fun w h => ⟨(), rfl, h⟩)
  · refine j_false rfl (decide_eq_false c1) ?_
    refine j_skip ?_
    refine j_then ?_
    refine j_seq ?_
    refine j_region ?_
    refine r_q (q_move rfl rfl) rfl rfl ?_
    obtain ⟨v1, v2, hb1, h⟩ := of_b2 h
    refine r_do (a_call ok15 rfl rfl rfl rfl (fun w hm => spec_DrawNewStore.calls K a0 a0_A a0_n a0_c hm a0_h a0_R a0_k hb1)) rfl rfl (fun x1 => ?_)
    refine r_q (q_move rfl rfl) rfl rfl ?_
    refine r_q (q_extract rfl rfl rfl) rfl rfl ?_
    refine r_q (q_extract rfl rfl rfl) rfl rfl ?_
    refine r_q (q_assign rfl rfl) rfl rfl ?_
    refine r_q (q_assign rfl rfl) rfl rfl ?_
    refine r_nil ?_
    refine j_then ?_
    refine j_seq ?_
    refine j_region ?_
    refine r_q (q_move rfl rfl) rfl rfl ?_
    refine r_q (q_move rfl rfl) rfl rfl ?_
    obtain ⟨v3, v4, v5, v6, v7, hb2, h⟩ := of_b5 h
    refine r_do (a_call ok16 rfl rfl rfl rfl (fun w hm => impl_NewStore.calls K v1 v2 hm hb2)) rfl rfl (fun x2 => ?_)
    refine r_q (q_move rfl rfl) rfl rfl ?_
    refine r_q (q_extract rfl rfl rfl) rfl rfl ?_
    refine r_q (q_extract rfl rfl rfl) rfl rfl ?_
    refine r_do (a_alloc zr29 rfl) rfl rfl (fun x3 => ?_)
    refine r_do (a_storeb 0 rfl sz29 rfl rfl rfl rfl (Nat.le_of_ble_eq_true rfl) rfl) rfl rfl (fun _ => ?_)
    refine j_b0 [(.slice x2.1.A x2.1.n x2.1.c), (.slice x2.2.1.A x2.2.1.n x2.2.1.c), (.slice x2.2.2.1.A x2.2.2.1.n x2.2.2.1.c), (.slice x2.2.2.2.A x2.2.2.2.n x2.2.2.2.c)] rfl ?_
    refine r_q (q_assign rfl rfl) rfl rfl ?_
    refine r_nil ?_
    refine j_then ?_
    refine j_seq ?_
    refine j_region ?_
    refine r_q (q_move rfl rfl) rfl rfl ?_
    refine r_q (q_move rfl rfl) rfl rfl ?_
    obtain ⟨v8, v9, v10, v11, v12, hb3, h⟩ := of_b5 h
    refine r_do (a_call ok17 rfl rfl rfl rfl (fun w hm => spec_NewStore.calls K v1 v2 hm hb3)) rfl rfl (fun x4 => ?_)
    refine r_q (q_move rfl rfl) rfl rfl ?_
    refine r_q (q_extract rfl rfl rfl) rfl rfl ?_
    refine r_q (q_extract rfl rfl rfl) rfl rfl ?_
    refine r_do (a_alloc zr29 rfl) rfl rfl (fun x5 => ?_)
    refine r_do (a_storeb 0 rfl sz29 rfl rfl rfl rfl (Nat.le_of_ble_eq_true rfl) rfl) rfl rfl (fun _ => ?_)
    refine j_b0 [(.slice x4.1.A x4.1.n x4.1.c), (.slice x4.2.1.A x4.2.1.n x4.2.1.c), (.slice x4.2.2.1.A x4.2.2.1.n x4.2.2.1.c), (.slice x4.2.2.2.A x4.2.2.2.n x4.2.2.2.c)] rfl ?_
    refine r_q (q_assign rfl rfl) rfl rfl ?_
    refine r_nil ?_
    refine j_then ?_
    refine j_seq ?_
    refine j_seq ?_
    refine j_region ?_
    refine r_q (q_loadb_agg 5 rfl ag29 sz29 rfl rfl rfl rfl) rfl rfl ?_
    refine r_q (q_loadb_agg 0 rfl ag29 sz29 rfl rfl rfl rfl) rfl rfl ?_
    obtain ⟨v13, hb4, h⟩ := of_b1 h
    refine r_do (a_call ok18 rfl rfl rfl rfl (fun w hm => impl_StoreSame.calls K v3 x2.1.A x2.1.n x2.1.c v4 x2.2.1.A x2.2.1.n x2.2.1.c v5 x2.2.2.1.A x2.2.2.1.n x2.2.2.1.c v6 x2.2.2.2.A x2.2.2.2.n x2.2.2.2.c v8 x4.1.A x4.1.n x4.1.c v9 x4.2.1.A x4.2.1.n x4.2.1.c v10 x4.2.2.1.A x4.2.2.1.n x4.2.2.1.c v11 x4.2.2.2.A x4.2.2.2.n x4.2.2.2.c hm x2.1.h (Rd.row 6 rfl) x2.2.1.h (Rd.row 7 rfl) x2.2.2.1.h (Rd.row 8 rfl) x2.2.2.2.h (Rd.row 9 rfl) x4.1.h (Rd.row 1 rfl) x4.2.1.h (Rd.row 2 rfl) x4.2.2.1.h (Rd.row 3 rfl) x4.2.2.2.h (Rd.row 4 rfl) hb4)) rfl rfl (fun x6 => ?_)
    refine r_q (q_not rfl rfl) rfl rfl ?_
    refine r_q (q_move rfl rfl) rfl rfl ?_
    rcases of_if h with ⟨c2, h⟩ | ⟨c2, h⟩
    · refine r_qon (q_move rfl rfl) rfl rfl rfl rfl (not_f c2) rfl ?_
      refine r_qon (q_move rfl rfl) rfl rfl rfl rfl (not_f c2) rfl ?_
      refine r_qon (q_bneq un4 rfl rfl rfl) rfl rfl rfl rfl (not_f c2) rfl ?_
      refine r_q (q_pick_f rfl rfl (not_f c2) rfl) rfl rfl ?_
      refine r_q (q_move rfl rfl) rfl rfl ?_
      rcases of_if h with ⟨c3, h⟩ | ⟨c3, h⟩
      · refine r_qon (q_move rfl rfl) rfl rfl rfl rfl (bne_f c3) rfl ?_
        refine r_qon (q_not rfl rfl) rfl rfl rfl rfl (bne_f c3) rfl ?_
        refine r_q (q_pick_f rfl rfl (bne_f c3) rfl) rfl rfl ?_
        refine r_nil ?_
        refine j_then ?_
        rcases of_if h with ⟨c4, h⟩ | ⟨c4, h⟩
        · refine j_false rfl (not_f c4) ?_
          refine j_skip ?_
          refine j_then ?_
          refine j_seq ?_
          refine j_seq ?_
          refine j_region ?_
          refine r_q (q_assign rfl rfl) rfl rfl ?_
          refine r_nil ?_
          refine j_then ?_
          obtain ⟨κ0, h, hκ0⟩ := ex_k (g := fun κ => laws_FnNewStore.loop0 K κ v1 K (0:Int) v3 v4 v5 v6 = some r1) h
          refine j_cut (σ := (Option Addr) × Nat × Nat × (List Int) × (Option Addr) × Nat × Nat × (List Int) × (Option Addr) × Nat × Nat × (List Int) × (Option Addr) × Nat × Nat × (List Int)) (fun s => [(3, (i6 v1)), (5, (pt x3))]) (fun s => .box x3 29 [(.slice s.1 s.2.1 s.2.2.1), (.slice s.2.2.2.2.1 s.2.2.2.2.2.1 s.2.2.2.2.2.2.1), (.slice s.2.2.2.2.2.2.2.2.1 s.2.2.2.2.2.2.2.2.2.1 s.2.2.2.2.2.2.2.2.2.2.1), (.slice s.2.2.2.2.2.2.2.2.2.2.2.2.1 s.2.2.2.2.2.2.2.2.2.2.2.2.2.1 s.2.2.2.2.2.2.2.2.2.2.2.2.2.2.1)] :: .row s.1 s.2.2.1 3 1 (ii s.2.2.2.1) :: .row s.2.2.2.2.1 s.2.2.2.2.2.2.1 3 1 (ii s.2.2.2.2.2.2.2.1) :: .row s.2.2.2.2.2.2.2.2.1 s.2.2.2.2.2.2.2.2.2.2.1 3 1 (ii s.2.2.2.2.2.2.2.2.2.2.2.1) :: .row s.2.2.2.2.2.2.2.2.2.2.2.2.1 s.2.2.2.2.2.2.2.2.2.2.2.2.2.2.1 3 1 (ii s.2.2.2.2.2.2.2.2.2.2.2.2.2.2.2) :: F) (fun s => κ0 s.2.2.2.1 s.2.2.2.2.2.2.2.1 s.2.2.2.2.2.2.2.2.2.2.2.1 s.2.2.2.2.2.2.2.2.2.2.2.2.2.2.2 = some r1 ∧ (s.2.2.2.1.length = s.2.1) ∧ (s.2.2.2.2.2.2.2.1.length = s.2.2.2.2.2.1) ∧ (s.2.2.2.2.2.2.2.2.2.2.2.1.length = s.2.2.2.2.2.2.2.2.2.1) ∧ (s.2.2.2.2.2.2.2.2.2.2.2.2.2.2.2.length = s.2.2.2.2.2.2.2.2.2.2.2.2.2.1)) ?_ ?_
          · refine j_block ?_
            refine j_loop (σ := Int × (Option Addr) × Nat × Nat × (List Int) × (Option Addr) × Nat × Nat × (List Int) × (Option Addr) × Nat × Nat × (List Int) × (Option Addr) × Nat × Nat × (List Int)) (fun s => [(3, (i6 v1)), (5, (pt x3)), (9, (i6 s.1))]) (fun s => .box x3 29 [(.slice s.2.1 s.2.2.1 s.2.2.2.1), (.slice s.2.2.2.2.2.1 s.2.2.2.2.2.2.1 s.2.2.2.2.2.2.2.1), (.slice s.2.2.2.2.2.2.2.2.2.1 s.2.2.2.2.2.2.2.2.2.2.1 s.2.2.2.2.2.2.2.2.2.2.2.1), (.slice s.2.2.2.2.2.2.2.2.2.2.2.2.2.1 s.2.2.2.2.2.2.2.2.2.2.2.2.2.2.1 s.2.2.2.2.2.2.2.2.2.2.2.2.2.2.2.1)] :: .row s.2.1 s.2.2.2.1 3 1 (ii s.2.2.2.2.1) :: .row s.2.2.2.2.2.1 s.2.2.2.2.2.2.2.1 3 1 (ii s.2.2.2.2.2.2.2.2.1) :: .row s.2.2.2.2.2.2.2.2.2.1 s.2.2.2.2.2.2.2.2.2.2.2.1 3 1 (ii s.2.2.2.2.2.2.2.2.2.2.2.2.1) :: .row s.2.2.2.2.2.2.2.2.2.2.2.2.2.1 s.2.2.2.2.2.2.2.2.2.2.2.2.2.2.2.1 3 1 (ii s.2.2.2.2.2.2.2.2.2.2.2.2.2.2.2.2) :: F) (fun m s => laws_FnNewStore.loop0 K κ0 v1 m s.1 s.2.2.2.2.1 s.2.2.2.2.2.2.2.2.1 s.2.2.2.2.2.2.2.2.2.2.2.2.1 s.2.2.2.2.2.2.2.2.2.2.2.2.2.2.2.2 = some r1 ∧ (s.2.2.2.2.1.length = s.2.2.1) ∧ (s.2.2.2.2.2.2.2.2.1.length = s.2.2.2.2.2.2.1) ∧ (s.2.2.2.2.2.2.2.2.2.2.2.2.1.length = s.2.2.2.2.2.2.2.2.2.2.1) ∧ (s.2.2.2.2.2.2.2.2.2.2.2.2.2.2.2.2.length = s.2.2.2.2.2.2.2.2.2.2.2.2.2.2.1)) K ((0:Int), x2.1.A, x2.1.n, x2.1.c, v3, x2.2.1.A, x2.2.1.n, x2.2.1.c, v4, x2.2.2.1.A, x2.2.2.1.n, x2.2.2.1.c, v5, x2.2.2.2.A, x2.2.2.2.n, x2.2.2.2.c, v6) ⟨h, x2.1.h, x2.2.1.h, x2.2.2.1.h, x2.2.2.2.h⟩ (fun a he => he.sub ⟨rfl, rfl, rfl, trivial⟩) (fun w h => (h.drop 5)) ?_
            rintro m ⟨p2, A5, n5, d5, l5, A6, n6, d6, l6, A7, n7, d7, l7, A8, n8, d8, l8⟩ ⟨h, q5, q6, q7, q8⟩
            cases m with
            | zero => exact absurd h (by rw [laws_FnNewStore.loop0]; exact nofun)
            | succ m =>
              rw [laws_FnNewStore.loop0] at h
              show J _ _ [(3, (i6 v1)), (5, (pt x3)), (9, (i6 p2))] _ (.box x3 29 [(.slice A5 n5 d5), (.slice A6 n6 d6), (.slice A7 n7 d7), (.slice A8 n8 d8)] :: .row A5 d5 3 1 (ii l5) :: .row A6 d6 3 1 (ii l6) :: .row A7 d7 3 1 (ii l7) :: .row A8 d8 3 1 (ii l8) :: F)
              refine j_seq ?_
              refine j_seq ?_
              refine j_region ?_
              refine r_q (q_move rfl rfl) rfl rfl ?_
              refine r_q (q_move rfl rfl) rfl rfl ?_
              refine r_q (q_lss rfl rfl rfl) rfl rfl ?_
              refine r_nil ?_
              refine j_then ?_
              rcases of_if h with ⟨c14, h⟩ | ⟨c14, h⟩
              · refine j_true rfl (decide_eq_true c14) ?_
                refine j_skip ?_
                refine j_then ?_
                refine j_seq ?_
                refine j_block ?_
                refine j_seq ?_
                refine j_region ?_
                refine r_q (q_loadb_agg 0 rfl ag29 sz29 rfl rfl rfl rfl) rfl rfl ?_
                obtain ⟨v32, v33, v34, v35, v36, v37, hb8, h⟩ := of_b6 h
                refine r_do (a_call ok19 rfl rfl rfl rfl (fun w hm => impl_AllocCell.calls K l5 A5 n5 d5 l6 A6 n6 d6 l7 A7 n7 d7 l8 A8 n8 d8 (0:Int) hm q5 (Rd.row 1 rfl) q6 (Rd.row 2 rfl) q7 (Rd.row 3 rfl) q8 (Rd.row 4 rfl) (hm.roomI 4 rfl) hb8)) rfl rfl (fun x7 => ?_)
                refine r_q (q_move rfl rfl) rfl rfl ?_
                refine r_q (q_extract rfl rfl rfl) rfl rfl ?_
                refine r_q (q_extract rfl rfl rfl) rfl rfl ?_
                refine r_q (q_extract rfl rfl rfl) rfl rfl ?_
                refine r_do (a_alloc zr29 rfl) rfl rfl (fun x8 => ?_)
                refine r_do (a_storeb 0 rfl sz29 rfl rfl rfl rfl (Nat.le_of_ble_eq_true rfl) rfl) rfl rfl (fun _ => ?_)
                refine j_b0 [(.slice x7.1.A x7.1.n x7.1.c), (.slice x7.2.1.A x7.2.1.n x7.2.1.c), (.slice x7.2.2.1.A x7.2.2.1.n x7.2.2.1.c), (.slice x7.2.2.2.A x7.2.2.2.n x7.2.2.2.c)] rfl ?_
                refine r_q (q_assign rfl rfl) rfl rfl ?_
                refine r_q (q_assign rfl rfl) rfl rfl ?_
                refine r_nil ?_
                refine j_then ?_
                refine j_seq ?_
                refine j_seq ?_
                refine j_region ?_
                refine r_q (q_move rfl rfl) rfl rfl ?_
                refine r_q (q_not rfl rfl) rfl rfl ?_
                refine r_q (q_move rfl rfl) rfl rfl ?_
                rcases of_if h with ⟨c15, h⟩ | ⟨c15, h⟩
                · refine r_qon (q_move rfl rfl) rfl rfl rfl rfl (not_f c15) rfl ?_
                  refine r_qon (q_move rfl rfl) rfl rfl rfl rfl (not_f c15) rfl ?_
                  refine r_qon (q_neq rfl rfl rfl) rfl rfl rfl rfl (not_f c15) rfl ?_
                  refine r_q (q_pick_f rfl rfl (not_f c15) rfl) rfl rfl ?_
                  refine r_nil ?_
                  refine j_then ?_
                  rcases of_if h with ⟨c16, h⟩ | ⟨c16, h⟩
                  · refine j_false rfl (bne_f c16) ?_
                    refine j_skip ?_
                    refine j_then ?_
                    refine j_region ?_
                    refine r_q (q_loadb_agg 0 rfl ag29 sz29 rfl rfl rfl rfl) rfl rfl ?_
                    refine r_do (a_storeb 5 rfl sz29 rfl rfl rfl rfl (Nat.le_of_ble_eq_true rfl) rfl) rfl rfl (fun _ => ?_)
                    refine j_b5 [(.slice x7.1.A x7.1.n x7.1.c), (.slice x7.2.1.A x7.2.1.n x7.2.1.c), (.slice x7.2.2.1.A x7.2.2.1.n x7.2.2.1.c), (.slice x7.2.2.2.A x7.2.2.2.n x7.2.2.2.c)] rfl ?_
                    refine r_nil ?_
                    refine j_in ?_
                    refine j_then ?_
                    refine j_region ?_
                    refine r_q (q_move rfl rfl) rfl rfl ?_
                    refine r_q (q_add rfl rfl rfl) rfl rfl ?_
                    refine r_q (q_assign rfl rfl) rfl rfl ?_
                    refine r_nil ?_
                    refine j_then ?_
                    exact j_again m ((wrap64 (p2 + (1:Int))), x7.1.A, x7.1.n, x7.1.c, v32, x7.2.1.A, x7.2.1.n, x7.2.1.c, v33, x7.2.2.1.A, x7.2.2.1.n, x7.2.2.1.c, v34, x7.2.2.2.A, x7.2.2.2.n, x7.2.2.2.c, v35) (Nat.lt_succ_self m) ⟨h, x7.1.h, x7.2.1.h, x7.2.2.1.h, x7.2.2.2.h⟩ (fun a he => he.sub ⟨rfl, rfl, rfl, trivial⟩) (fun w h => h.pick 10 [5, 1, 2, 3, 4] rfl)
                  · refine j_true rfl (bne_t c16) ?_
                    refine j_seq ?_
                    refine j_region ?_
                    refine r_q (q_assign rfl rfl) rfl rfl ?_
                    refine r_nil ?_
                    refine j_then ?_
                    refine j_ret ?_
                    refine j_then_ret ?_
                    refine j_in_ret ?_
                    refine j_then_ret ?_
                    refine j_then_ret ?_
                    refine j_in_ret ?_
                    refine j_then_ret ?_
                    refine j_then_ret ?_
                    cases h
                    exact j_return rfl (ResOf.tmp rfl ResOf.nil) rfl (fun w h => ⟨(), rfl, (h.drop 10)⟩)
                · refine r_off rfl rfl rfl rfl (not_t (var_f c15)) rfl ?_
                  refine r_off rfl rfl rfl rfl (not_t (var_f c15)) rfl ?_
                  refine r_off rfl rfl rfl rfl (not_t (var_f c15)) rfl ?_
                  refine r_q (q_pick_t rfl rfl (not_t (var_f c15)) rfl) rfl rfl ?_
                  refine r_nil ?_
                  refine j_then ?_
                  refine j_true rfl rfl ?_
                  refine j_seq ?_
                  refine j_region ?_
                  refine r_q (q_assign rfl rfl) rfl rfl ?_
                  refine r_nil ?_
                  refine j_then ?_
                  refine j_ret ?_
                  refine j_then_ret ?_
                  refine j_in_ret ?_
                  refine j_then_ret ?_
                  refine j_then_ret ?_
                  refine j_in_ret ?_
                  refine j_then_ret ?_
                  refine j_then_ret ?_
                  cases h
                  exact j_return rfl (ResOf.tmp rfl ResOf.nil) rfl (fun w h => ⟨(), rfl, (h.drop 10)⟩)
              · refine j_false rfl (decide_eq_false c14) ?_
                refine j_exit ?_
                refine j_then_exit ?_
                refine j_then_exit ?_
                refine j_in_exit ?_
                refine j_then ?_
                exact j_meet (A5, n5, d5, l5, A6, n6, d6, l6, A7, n7, d7, l7, A8, n8, d8, l8) ⟨h, q5, q6, q7, q8⟩ (fun a he => he.sub ⟨rfl, rfl, trivial⟩) (fun w h => h)
          · rintro ⟨A9, n9, d9, l9, A10, n10, d10, l10, A11, n11, d11, l11, A12, n12, d12, l12⟩ ⟨h, q9, q10, q11, q12⟩
            subst hκ0
            show J _ _ [(3, (i6 v1)), (5, (pt x3))] _ (.box x3 29 [(.slice A9 n9 d9), (.slice A10 n10 d10), (.slice A11 n11 d11), (.slice A12 n12 d12)] :: .row A9 d9 3 1 (ii l9) :: .row A10 d10 3 1 (ii l10) :: .row A11 d11 3 1 (ii l11) :: .row A12 d12 3 1 (ii l12) :: F)
            refine j_then ?_
            refine j_seq ?_
            refine j_region ?_
            refine r_q (q_loadb_agg 0 rfl ag29 sz29 rfl rfl rfl rfl) rfl rfl ?_
            obtain ⟨v38, v39, v40, v41, v42, v43, hb9, h⟩ := of_b6 h
            refine r_do (a_call ok19 rfl rfl rfl rfl (fun w hm => impl_AllocCell.calls K l9 A9 n9 d9 l10 A10 n10 d10 l11 A11 n11 d11 l12 A12 n12 d12 (0:Int) hm q9 (Rd.row 1 rfl) q10 (Rd.row 2 rfl) q11 (Rd.row 3 rfl) q12 (Rd.row 4 rfl) (hm.roomI 4 rfl) hb9)) rfl rfl (fun x9 => ?_)
            refine r_q (q_move rfl rfl) rfl rfl ?_
            refine r_q (q_extract rfl rfl rfl) rfl rfl ?_
            refine r_q (q_extract rfl rfl rfl) rfl rfl ?_
            refine r_q (q_extract rfl rfl rfl) rfl rfl ?_
            refine r_do (a_alloc zr29 rfl) rfl rfl (fun x10 => ?_)
            refine r_do (a_storeb 0 rfl sz29 rfl rfl rfl rfl (Nat.le_of_ble_eq_true rfl) rfl) rfl rfl (fun _ => ?_)
            refine j_b0 [(.slice x9.1.A x9.1.n x9.1.c), (.slice x9.2.1.A x9.2.1.n x9.2.1.c), (.slice x9.2.2.1.A x9.2.2.1.n x9.2.2.1.c), (.slice x9.2.2.2.A x9.2.2.2.n x9.2.2.2.c)] rfl ?_
            refine r_q (q_assign rfl rfl) rfl rfl ?_
            refine r_q (q_assign rfl rfl) rfl rfl ?_
            refine r_nil ?_
            refine j_then ?_
            refine j_seq ?_
            refine j_region ?_
            refine r_q (q_move rfl rfl) rfl rfl ?_
            refine r_q (q_not rfl rfl) rfl rfl ?_
            refine r_q (q_move rfl rfl) rfl rfl ?_
            rcases of_if h with ⟨c17, h⟩ | ⟨c17, h⟩
            · refine r_off rfl rfl rfl rfl (not_f c17) rfl ?_
              refine r_off rfl rfl rfl rfl (not_f c17) rfl ?_
              refine r_off rfl rfl rfl rfl (not_f c17) rfl ?_
              refine r_off rfl rfl rfl rfl (not_f c17) rfl ?_
              refine r_off rfl rfl rfl rfl (not_f c17) rfl ?_
              refine r_off rfl rfl rfl rfl (not_f c17) rfl ?_
              refine r_q (q_pick_f rfl rfl (not_f c17) rfl) rfl rfl ?_
              refine r_q (q_assign rfl rfl) rfl rfl ?_
              refine r_nil ?_
              refine j_then ?_
              refine j_ret ?_
              cases h
              exact j_return rfl (ResOf.tmp rfl ResOf.nil) rfl (fun w h => ⟨(), rfl, (h.drop 10)⟩)
            · refine r_qon (q_loadb_agg 5 rfl ag29 sz29 rfl rfl rfl rfl) rfl rfl rfl rfl (not_t (var_f c17)) rfl ?_
              obtain ⟨v44, hb10, h⟩ := of_b1 h
              refine r_on (a_call ok20 rfl rfl rfl rfl (fun w hm => impl_LeakedOf.calls K l9 A9 n9 d9 l10 A10 n10 d10 l11 A11 n11 d11 l12 A12 n12 d12 hm q9 (Rd.row 6 rfl) q10 (Rd.row 7 rfl) q11 (Rd.row 8 rfl) q12 (Rd.row 9 rfl) (hm.roomI 9 rfl) hb10)) rfl rfl rfl rfl (not_t (var_f c17)) rfl (fun x11 => ?_)
              refine r_qon (q_lenX v44 x11.h un25 rfl rfl rfl rfl rfl) rfl rfl rfl rfl (not_t (var_f c17)) rfl ?_
              refine r_qon (q_move rfl rfl) rfl rfl rfl rfl (not_t (var_f c17)) rfl ?_
              refine r_qon (q_sub rfl rfl rfl) rfl rfl rfl rfl (not_t (var_f c17)) rfl ?_
              refine r_qon (q_eql rfl rfl rfl) rfl rfl rfl rfl (not_t (var_f c17)) rfl ?_
              refine r_q (q_pick_t rfl rfl (not_t (var_f c17)) rfl) rfl rfl ?_
              refine r_q (q_assign rfl rfl) rfl rfl ?_
              refine r_nil ?_
              refine j_then ?_
              refine j_ret ?_
              cases h
              exact j_return rfl (ResOf.tmp rfl ResOf.nil) rfl (fun w h => ⟨(), rfl, (h.drop 11)⟩)
        · refine j_true rfl (not_t (var_f c4)) ?_
          refine j_seq ?_
          refine j_region ?_
          refine r_q (q_loadb_agg 5 rfl ag29 sz29 rfl rfl rfl rfl) rfl rfl ?_
          refine r_q (q_loadb_agg 0 rfl ag29 sz29 rfl rfl rfl rfl) rfl rfl ?_
          obtain ⟨v45, hb11, h⟩ := of_b1 h
          refine r_do (a_call ok18 rfl rfl rfl rfl (fun w hm => impl_StoreSame.calls K v3 x2.1.A x2.1.n x2.1.c v4 x2.2.1.A x2.2.1.n x2.2.1.c v5 x2.2.2.1.A x2.2.2.1.n x2.2.2.1.c v6 x2.2.2.2.A x2.2.2.2.n x2.2.2.2.c v8 x4.1.A x4.1.n x4.1.c v9 x4.2.1.A x4.2.1.n x4.2.1.c v10 x4.2.2.1.A x4.2.2.1.n x4.2.2.1.c v11 x4.2.2.2.A x4.2.2.2.n x4.2.2.2.c hm x2.1.h (Rd.row 6 rfl) x2.2.1.h (Rd.row 7 rfl) x2.2.2.1.h (Rd.row 8 rfl) x2.2.2.2.h (Rd.row 9 rfl) x4.1.h (Rd.row 1 rfl) x4.2.1.h (Rd.row 2 rfl) x4.2.2.1.h (Rd.row 3 rfl) x4.2.2.2.h (Rd.row 4 rfl) hb11)) rfl rfl (fun x12 => ?_)
          refine r_q (q_move rfl rfl) rfl rfl ?_
          rcases of_if h with ⟨c18, h⟩ | ⟨c18, h⟩
          · refine r_qon (q_move rfl rfl) rfl rfl rfl rfl c18 rfl ?_
            refine r_qon (q_move rfl rfl) rfl rfl rfl rfl c18 rfl ?_
            refine r_qon (q_beql un4 rfl rfl rfl) rfl rfl rfl rfl c18 rfl ?_
            refine r_q (q_pick_t rfl rfl c18 rfl) rfl rfl ?_
            refine r_q (q_assign rfl rfl) rfl rfl ?_
            refine r_nil ?_
            refine j_then ?_
            refine j_ret ?_
            refine j_then_ret ?_
            cases h
            exact j_return rfl (ResOf.tmp rfl ResOf.nil) rfl (fun w h => ⟨(), rfl, (h.drop 10)⟩)
          · refine r_off rfl rfl rfl rfl (var_f c18) rfl ?_
            refine r_off rfl rfl rfl rfl (var_f c18) rfl ?_
            refine r_off rfl rfl rfl rfl (var_f c18) rfl ?_
            refine r_q (q_pick_f rfl rfl (var_f c18) rfl) rfl rfl ?_
            refine r_q (q_assign rfl rfl) rfl rfl ?_
            refine r_nil ?_
            refine j_then ?_
            refine j_ret ?_
            refine j_then_ret ?_
            cases h
            exact j_return rfl (ResOf.tmp rfl ResOf.nil) rfl (fun w h => ⟨(), rfl, (h.drop 10)⟩)
      · refine r_off rfl rfl rfl rfl (bne_t c3) rfl ?_
        refine r_off rfl rfl rfl rfl (bne_t c3) rfl ?_
        refine r_q (q_pick_t rfl rfl (bne_t c3) rfl) rfl rfl ?_
        refine r_nil ?_
        refine j_then ?_
        refine j_true rfl rfl ?_
        refine j_seq ?_
        refine j_region ?_
        refine r_q (q_loadb_agg 5 rfl ag29 sz29 rfl rfl rfl rfl) rfl rfl ?_
        refine r_q (q_loadb_agg 0 rfl ag29 sz29 rfl rfl rfl rfl) rfl rfl ?_
        obtain ⟨v46, hb12, h⟩ := of_b1 h
        refine r_do (a_call ok18 rfl rfl rfl rfl (fun w hm => impl_StoreSame.calls K v3 x2.1.A x2.1.n x2.1.c v4 x2.2.1.A x2.2.1.n x2.2.1.c v5 x2.2.2.1.A x2.2.2.1.n x2.2.2.1.c v6 x2.2.2.2.A x2.2.2.2.n x2.2.2.2.c v8 x4.1.A x4.1.n x4.1.c v9 x4.2.1.A x4.2.1.n x4.2.1.c v10 x4.2.2.1.A x4.2.2.1.n x4.2.2.1.c v11 x4.2.2.2.A x4.2.2.2.n x4.2.2.2.c hm x2.1.h (Rd.row 6 rfl) x2.2.1.h (Rd.row 7 rfl) x2.2.2.1.h (Rd.row 8 rfl) x2.2.2.2.h (Rd.row 9 rfl) x4.1.h (Rd.row 1 rfl) x4.2.1.h (Rd.row 2 rfl) x4.2.2.1.h (Rd.row 3 rfl) x4.2.2.2.h (Rd.row 4 rfl) hb12)) rfl rfl (fun x12 => ?_)
        refine r_q (q_move rfl rfl) rfl rfl ?_
        rcases of_if h with ⟨c19, h⟩ | ⟨c19, h⟩
        · refine r_qon (q_move rfl rfl) rfl rfl rfl rfl c19 rfl ?_
          refine r_qon (q_move rfl rfl) rfl rfl rfl rfl c19 rfl ?_
          refine r_qon (q_beql un4 rfl rfl rfl) rfl rfl rfl rfl c19 rfl ?_
          refine r_q (q_pick_t rfl rfl c19 rfl) rfl rfl ?_
          refine r_q (q_assign rfl rfl) rfl rfl ?_
          refine r_nil ?_
          refine j_then ?_
          refine j_ret ?_
          refine j_then_ret ?_
          cases h
          exact j_return rfl (ResOf.tmp rfl ResOf.nil) rfl (fun w h => ⟨(), rfl, (h.drop 10)⟩)
        · refine r_off rfl rfl rfl rfl (var_f c19) rfl ?_
          refine r_off rfl rfl rfl rfl (var_f c19) rfl ?_
          refine r_off rfl rfl rfl rfl (var_f c19) rfl ?_
          refine r_q (q_pick_f rfl rfl (var_f c19) rfl) rfl rfl ?_
          refine r_q (q_assign rfl rfl) rfl rfl ?_
          refine r_nil ?_
          refine j_then ?_
          refine j_ret ?_
          refine j_then_ret ?_
          cases h
          exact j_return rfl (ResOf.tmp rfl ResOf.nil) rfl (fun w h => ⟨(), rfl, (h.drop 10)⟩)
    · refine r_off rfl rfl rfl rfl (not_t (var_f c2)) rfl ?_
      refine r_off rfl rfl rfl rfl (not_t (var_f c2)) rfl ?_
      refine r_off rfl rfl rfl rfl (not_t (var_f c2)) rfl ?_
      refine r_q (q_pick_t rfl rfl (not_t (var_f c2)) rfl) rfl rfl ?_
      refine r_q (q_move rfl rfl) rfl rfl ?_
      refine r_off rfl rfl rfl rfl rfl rfl ?_
      refine r_off rfl rfl rfl rfl rfl rfl ?_
      refine r_q (q_pick_t rfl rfl rfl rfl) rfl rfl ?_
      refine r_nil ?_
      refine j_then ?_
      refine j_true rfl rfl ?_
      refine j_seq ?_
      refine j_region ?_
      refine r_q (q_loadb_agg 5 rfl ag29 sz29 rfl rfl rfl rfl) rfl rfl ?_
      refine r_q (q_loadb_agg 0 rfl ag29 sz29 rfl rfl rfl rfl) rfl rfl ?_
      obtain ⟨v47, hb13, h⟩ := of_b1 h
      refine r_do (a_call ok18 rfl rfl rfl rfl (fun w hm => impl_StoreSame.calls K v3 x2.1.A x2.1.n x2.1.c v4 x2.2.1.A x2.2.1.n x2.2.1.c v5 x2.2.2.1.A x2.2.2.1.n x2.2.2.1.c v6 x2.2.2.2.A x2.2.2.2.n x2.2.2.2.c v8 x4.1.A x4.1.n x4.1.c v9 x4.2.1.A x4.2.1.n x4.2.1.c v10 x4.2.2.1.A x4.2.2.1.n x4.2.2.1.c v11 x4.2.2.2.A x4.2.2.2.n x4.2.2.2.c hm x2.1.h (Rd.row 6 rfl) x2.2.1.h (Rd.row 7 rfl) x2.2.2.1.h (Rd.row 8 rfl) x2.2.2.2.h (Rd.row 9 rfl) x4.1.h (Rd.row 1 rfl) x4.2.1.h (Rd.row 2 rfl) x4.2.2.1.h (Rd.row 3 rfl) x4.2.2.2.h (Rd.row 4 rfl) hb13)) rfl rfl (fun x12 => ?_)
      refine r_q (q_move rfl rfl) rfl rfl ?_
      rcases of_if h with ⟨c20, h⟩ | ⟨c20, h⟩
      · refine r_qon (q_move rfl rfl) rfl rfl rfl rfl c20 rfl ?_
        refine r_qon (q_move rfl rfl) rfl rfl rfl rfl c20 rfl ?_
        refine r_qon (q_beql un4 rfl rfl rfl) rfl rfl rfl rfl c20 rfl ?_
        refine r_q (q_pick_t rfl rfl c20 rfl) rfl rfl ?_
        refine r_q (q_assign rfl rfl) rfl rfl ?_
        refine r_nil ?_
        refine j_then ?_
        refine j_ret ?_
        refine j_then_ret ?_
        cases h
        exact j_return rfl (ResOf.tmp rfl ResOf.nil) rfl (fun w h => ⟨(), rfl, (h.drop 10)⟩)
      · refine r_off rfl rfl rfl rfl (var_f c20) rfl ?_
        refine r_off rfl rfl rfl rfl (var_f c20) rfl ?_
        refine r_off rfl rfl rfl rfl (var_f c20) rfl ?_
        refine r_q (q_pick_f rfl rfl (var_f c20) rfl) rfl rfl ?_
        refine r_q (q_assign rfl rfl) rfl rfl ?_
        refine r_nil ?_
        refine j_then ?_
        refine j_ret ?_
        refine j_then_ret ?_
        cases h
        exact j_return rfl (ResOf.tmp rfl ResOf.nil) rfl (fun w h => ⟨(), rfl, (h.drop 10)⟩)

end Go.Proofs.Ytigidjhdcplplaa.F
