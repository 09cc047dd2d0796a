/- The program computes these pure functions, printed by the generator of wip/gen. -/
import Derived.Test.YtjcbalhdppmdmaaFa
import Derived.Test.YtjcbalhdppmdmaaFb
import Derived.Test.YtjcbalhdppmdmaaC1
namespace Go.Proofs.Ytjcbalhdppmdmaa.F
open Go Go.RowKit Go.Proofs.Ytjcbalhdppmdmaa.S
set_option linter.unusedVariables false
set_option maxRecDepth 100000
theorem spec_CountsOf.calls (K : Nat) (a0_0 : List Int) (a0_0_A : Option Addr) (a0_0_n a0_0_c : Nat) (a0_1 : List Int) (a0_1_A : Option Addr) (a0_1_n a0_1_c : Nat) (a0_2 : List Int) (a0_2_A : Option Addr) (a0_2_n a0_2_c : Nat) {w0 w : World} {F : List Res} {r1 : List Int} (hm : Mem w0 (F) w) (a0_0_h : a0_0.length = a0_0_n) (a0_0_R : Rd w0 F a0_0_A (ii a0_0)) (a0_1_h : a0_1.length = a0_1_n) (a0_1_R : Rd w0 F a0_1_A (ii a0_1)) (a0_2_h : a0_2.length = a0_2_n) (a0_2_R : Rd w0 F a0_2_A (ii a0_2)) (h : spec_CountsOf.f K a0_0 a0_1 a0_2 = some r1) :
    Calls Try.prog 35 (List.toArray [.agg (List.toArray [.slice a0_0_A a0_0_n a0_0_c, .slice a0_1_A a0_1_n a0_1_c, .slice a0_2_A a0_2_n a0_2_c])]) w fun e w' => ∃ x : (Sl r1.length), e = .returned (.slice x.A x.n x.c) ∧ Mem w0 (.row x.A x.c 3 1 (ii r1) :: F) w' := by
  unfold spec_CountsOf.f at h
  refine calls_of_J (n := 51) Try.func35 rfl rfl rfl hm ?_
  refine j_seq ?_
  refine j_region ?_
  refine r_do (a_box rfl rfl) rfl rfl (fun x1 => ?_)
  refine r_q (q_assign rfl rfl) rfl rfl ?_
  refine j_rs (.box x1 46 [(.slice a0_0_A a0_0_n a0_0_c), (.slice a0_1_A a0_1_n a0_1_c), (.slice a0_2_A a0_2_n a0_2_c)] :: F) (fun _ h => h) ?_
  refine r_nil ?_
  refine j_then ?_
  refine j_seq ?_
  refine j_region ?_
  refine r_do (a_litX (vs := []) (ii ([] : List Int)) un32 sz3 zr3 rfl rfl rfl rfl rfl rfl rfl rfl rfl) rfl rfl (fun x2 => ?_)
  refine r_q (q_assign rfl rfl) rfl rfl ?_
  refine j_rs (.row x2 0 3 1 (ii ([] : List Int)) :: .box x1 46 [(.slice a0_0_A a0_0_n a0_0_c), (.slice a0_1_A a0_1_n a0_1_c), (.slice a0_2_A a0_2_n a0_2_c)] :: F) (fun _ h => h) ?_
  refine r_nil ?_
  refine j_then ?_
  refine j_seq ?_
  refine j_seq ?_
  refine j_region ?_
  refine r_q (q_loadb_agg 1 rfl ag46 sz46 rfl rfl rfl rfl) rfl rfl ?_
  obtain ⟨v1, hb1, h⟩ := of_b1 h
  refine r_do (a_call ok75 rfl rfl rfl rfl (fun w hm => spec_HeapValid.calls K a0_0 a0_0_A a0_0_n a0_0_c a0_1 a0_1_A a0_1_n a0_1_c a0_2 a0_2_A a0_2_n a0_2_c hm a0_0_h (Rd.drop 2 a0_0_R) a0_1_h (Rd.drop 2 a0_1_R) a0_2_h (Rd.drop 2 a0_2_R) hb1)) rfl rfl (fun x3 => ?_)
  refine r_q (q_not rfl rfl) rfl rfl ?_
  refine j_rs (.row x2 0 3 1 (ii ([] : List Int)) :: .box x1 46 [(.slice a0_0_A a0_0_n a0_0_c), (.slice a0_1_A a0_1_n a0_1_c), (.slice a0_2_A a0_2_n a0_2_c)] :: F) (fun _ h => h) ?_
  refine r_nil ?_
  refine j_then ?_
  rcases of_if h with ⟨c1, h⟩ | ⟨c1, h⟩
  · refine j_false rfl (not_f c1) ?_
    refine j_skip ?_
    refine j_then ?_
    refine j_seq ?_
    refine j_region ?_
    refine r_q (q_fieldAddr fi46_0 sz32 rfl rfl rfl) rfl rfl ?_
    refine r_q (q_loadb 1 rfl ag32 rfl rfl rfl) rfl rfl ?_
    refine r_q (q_lenX a0_0 a0_0_h un32 rfl rfl rfl rfl rfl) rfl rfl ?_
    obtain ⟨c2, h⟩ := of_guard h
    refine r_do (a_mkI un32 sz3 by3 zr3 rfl c2 rfl rfl rfl) rfl rfl (fun x4 => ?_)
    refine r_q (q_assign rfl rfl) rfl rfl ?_
    refine j_rs (.row x4 ((a0_0.length : Int).toNat) 3 1 (ii (List.replicate (a0_0.length : Int).toNat (0:Int))) :: .row x2 0 3 1 (ii ([] : List Int)) :: .box x1 46 [(.slice a0_0_A a0_0_n a0_0_c), (.slice a0_1_A a0_1_n a0_1_c), (.slice a0_2_A a0_2_n a0_2_c)] :: F) (fun _ h => h) ?_
    refine r_nil ?_
    refine j_then ?_
    refine j_seq ?_
    obtain ⟨c3, h⟩ := of_guard h
    obtain ⟨c4, h⟩ := of_guard h
    obtain ⟨c5, h⟩ := of_guard h
    refine j_draw (.row x4 ((a0_0.length : Int).toNat) 3 1 (ii (List.replicate (a0_0.length : Int).toNat (0:Int))) :: .row x2 0 3 1 (ii ([] : List Int)) :: .box x1 46 [(.slice a0_0_A a0_0_n a0_0_c), (.slice a0_1_A a0_1_n a0_1_c), (.slice a0_2_A a0_2_n a0_2_c)] :: F) 11 follows_any rfl ?_
    refine d_take 1 rfl (q_fieldAddr fi46_0 sz32 rfl rfl rfl) rfl rfl (by kernel_rfl) (by kernel_rfl) (by kernel_rfl) (fun w h => h) ?_
    refine d_take 2 rfl (q_loadb 2 rfl ag32 rfl rfl rfl) rfl rfl (by kernel_rfl) (by kernel_rfl) (by kernel_rfl) (fun w h => h) ?_
    refine d_take 4 rfl (q_fieldAddr fi46_1 sz32 rfl rfl rfl) rfl rfl (by kernel_rfl) (by kernel_rfl) (by kernel_rfl) (fun w h => h) ?_
    refine d_take 5 rfl (q_loadb 2 rfl ag32 rfl rfl rfl) rfl rfl (by kernel_rfl) (by kernel_rfl) (by kernel_rfl) (fun w h => h) ?_
    refine d_take 7 rfl (q_fieldAddr fi46_2 sz32 rfl rfl rfl) rfl rfl (by kernel_rfl) (by kernel_rfl) (by kernel_rfl) (fun w h => h) ?_
    refine d_take 8 rfl (q_loadb 2 rfl ag32 rfl rfl rfl) rfl rfl (by kernel_rfl) (by kernel_rfl) (by kernel_rfl) (fun w h => h) ?_
    refine d_one 0 (by kernel_rfl) ?_
    refine o_do rfl (a_litX (vs := []) (ii ([] : List Int)) un32 sz3 zr3 rfl rfl rfl rfl rfl rfl rfl rfl rfl) rfl rfl (fun x5 w h => h.tail) (fun x5 => ?_)
    refine j_rs (.row x5 0 3 1 (ii ([] : List Int)) :: .row x4 ((a0_0.length : Int).toNat) 3 1 (ii (List.replicate (a0_0.length : Int).toNat (0:Int))) :: .row x2 0 3 1 (ii ([] : List Int)) :: .box x1 46 [(.slice a0_0_A a0_0_n a0_0_c), (.slice a0_1_A a0_1_n a0_1_c), (.slice a0_2_A a0_2_n a0_2_c)] :: F) (fun _ h => h) ?_
    refine d_one 3 (by kernel_rfl) ?_
    refine o_do rfl (a_appI (xs := ([] : List Int)) (ys := a0_0) 0 un32 un32 sz3 by3 zr3 rfl rfl rfl rfl rfl rfl rfl rfl rfl rfl a0_0_h (Rd.drop 4 a0_0_R) c3) rfl rfl (fun x6 w h => h.tail) (fun x6 => ?_)
    refine j_rs (.row x6.1 x6.2 3 1 (ii (([] : List Int) ++ a0_0)) :: .row x4 ((a0_0.length : Int).toNat) 3 1 (ii (List.replicate (a0_0.length : Int).toNat (0:Int))) :: .row x2 0 3 1 (ii ([] : List Int)) :: .box x1 46 [(.slice a0_0_A a0_0_n a0_0_c), (.slice a0_1_A a0_1_n a0_1_c), (.slice a0_2_A a0_2_n a0_2_c)] :: F) (fun _ h => h) ?_
    refine d_one 6 (by kernel_rfl) ?_
    refine o_do rfl (a_appI (xs := (([] : List Int) ++ a0_0)) (ys := a0_1) 0 un32 un32 sz3 by3 zr3 rfl rfl rfl rfl rfl rfl rfl rfl rfl (app_len rfl a0_0_h) a0_1_h (Rd.drop 4 a0_1_R) c4) rfl rfl (fun x7 w h => h.tail) (fun x7 => ?_)
    refine j_rs (.row x7.1 x7.2 3 1 (ii ((([] : List Int) ++ a0_0) ++ a0_1)) :: .row x4 ((a0_0.length : Int).toNat) 3 1 (ii (List.replicate (a0_0.length : Int).toNat (0:Int))) :: .row x2 0 3 1 (ii ([] : List Int)) :: .box x1 46 [(.slice a0_0_A a0_0_n a0_0_c), (.slice a0_1_A a0_1_n a0_1_c), (.slice a0_2_A a0_2_n a0_2_c)] :: F) (fun _ h => h) ?_
    refine d_one 9 (by kernel_rfl) ?_
    refine o_do rfl (a_appI (xs := ((([] : List Int) ++ a0_0) ++ a0_1)) (ys := a0_2) 0 un32 un32 sz3 by3 zr3 rfl rfl rfl rfl rfl rfl rfl rfl rfl (app_len (app_len rfl a0_0_h) a0_1_h) a0_2_h (Rd.drop 4 a0_2_R) c5) rfl rfl (fun x8 w h => h.tail) (fun x8 => ?_)
    refine j_rs (.row x8.1 x8.2 3 1 (ii (((([] : List Int) ++ a0_0) ++ a0_1) ++ a0_2)) :: .row x4 ((a0_0.length : Int).toNat) 3 1 (ii (List.replicate (a0_0.length : Int).toNat (0:Int))) :: .row x2 0 3 1 (ii ([] : List Int)) :: .box x1 46 [(.slice a0_0_A a0_0_n a0_0_c), (.slice a0_1_A a0_1_n a0_1_c), (.slice a0_2_A a0_2_n a0_2_c)] :: F) (fun _ h => h) ?_
    refine d_take 10 rfl (q_assign rfl rfl) rfl rfl (by kernel_rfl) (by kernel_rfl) (by kernel_rfl) (fun w h => h.tail) ?_
    refine d_done (by kernel_rfl) ?_
    refine j_then ?_
    refine j_seq ?_
    refine j_seq ?_
    refine j_region ?_
    refine r_q (q_assign rfl rfl) rfl rfl ?_
    refine r_nil ?_
    refine j_then ?_
    obtain ⟨κ0, h, hκ0⟩ := ex_k (g := fun κ => spec_CountsOf.loop0 K κ a0_0 a0_1 a0_2 K (0:Int) (List.replicate (a0_0.length : Int).toNat (0:Int)) = some r1) h
    refine j_cut (σ := (List Int)) (fun s => [(3, (.slice x4 ((a0_0.length : Int).toNat) ((a0_0.length : Int).toNat)))]) (fun s => .row x4 ((a0_0.length : Int).toNat) 3 1 (ii s) :: F) (fun s => κ0 s = some r1 ∧ (s.length = ((a0_0.length : Int).toNat))) ?_ ?_
    · refine j_block ?_
      refine j_loop (σ := Int × (List Int)) (fun s => [(3, (.slice x4 ((a0_0.length : Int).toNat) ((a0_0.length : Int).toNat))), (4, (.slice x8.1 (((0 + a0_0_n) + a0_1_n) + a0_2_n) x8.2)), (5, (i6 s.1))]) (fun s => .row x4 ((a0_0.length : Int).toNat) 3 1 (ii s.2) :: .row x8.1 x8.2 3 1 (ii (((([] : List Int) ++ a0_0) ++ a0_1) ++ a0_2)) :: F) (fun m s => spec_CountsOf.loop0 K κ0 a0_0 a0_1 a0_2 m s.1 s.2 = some r1 ∧ (s.2.length = ((a0_0.length : Int).toNat))) K ((0:Int), (List.replicate (a0_0.length : Int).toNat (0:Int))) ⟨h, List.length_replicate⟩ (fun a he => he.sub ⟨rfl, rfl, rfl, trivial⟩) (fun w h => h.pick 4 [1, 0] rfl) ?_
      rintro m ⟨p2, l2⟩ ⟨h, q2⟩
      cases m with
      | zero => exact absurd h (by rw [spec_CountsOf.loop0]; exact nofun)
      | succ m =>
        rw [spec_CountsOf.loop0] at h
        show J _ _ [(3, (.slice x4 ((a0_0.length : Int).toNat) ((a0_0.length : Int).toNat))), (4, (.slice x8.1 (((0 + a0_0_n) + a0_1_n) + a0_2_n) x8.2)), (5, (i6 p2))] _ (.row x4 ((a0_0.length : Int).toNat) 3 1 (ii l2) :: .row x8.1 x8.2 3 1 (ii (((([] : List Int) ++ a0_0) ++ a0_1) ++ a0_2)) :: F)
        refine j_seq ?_
        refine j_seq ?_
        refine j_region ?_
        refine r_q (q_move rfl rfl) rfl rfl ?_
        refine r_q (q_move rfl rfl) rfl rfl ?_
        refine r_q (q_lenX (((([] : List Int) ++ a0_0) ++ a0_1) ++ a0_2) (app_len (app_len (app_len rfl a0_0_h) a0_1_h) a0_2_h) un32 rfl rfl rfl rfl rfl) rfl rfl ?_
        refine r_q (q_lss rfl rfl rfl) rfl rfl ?_
        refine r_nil ?_
        refine j_then ?_
        rcases of_if h with ⟨c18, h⟩ | ⟨c18, h⟩
        · refine j_true rfl (decide_eq_true c18) ?_
          refine j_skip ?_
          refine j_then ?_
          refine j_seq ?_
          refine j_block ?_
          refine j_seq ?_
          refine j_region ?_
          refine r_q (q_move rfl rfl) rfl rfl ?_
          refine r_q (q_move rfl rfl) rfl rfl ?_
          obtain ⟨c19, h⟩ := of_guard h
          refine r_q (q_ix (Rd.row 1 rfl) (ints_len1 _ (((([] : List Int) ++ a0_0) ++ a0_1) ++ a0_2)) (by decide) (app_len (app_len (app_len rfl a0_0_h) a0_1_h) a0_2_h) c19 un32 sz3 rfl rfl rfl) rfl rfl ?_
          refine r_q (q_ldI (Rd.row 1 rfl) c19 ag3 rfl rfl) rfl rfl ?_
          refine r_q (q_neq rfl rfl rfl) rfl rfl ?_
          refine r_nil ?_
          refine j_then ?_
          rcases of_if h with ⟨c20, h⟩ | ⟨c20, h⟩
          · refine j_false rfl (bne_f c20) ?_
            refine j_skip ?_
            refine j_in ?_
            refine j_then ?_
            refine j_region ?_
            refine r_q (q_move rfl rfl) rfl rfl ?_
            refine r_q (q_add rfl rfl rfl) rfl rfl ?_
            refine r_q (q_assign rfl rfl) rfl rfl ?_
            refine r_nil ?_
            refine j_then ?_
            exact j_again m ((wrap64 (p2 + (1:Int))), l2) (Nat.lt_succ_self m) ⟨h, q2⟩ (fun a he => he.sub ⟨rfl, rfl, rfl, trivial⟩) (fun w h => h)
          · refine j_true rfl (bne_t c20) ?_
            obtain ⟨c21, h⟩ := of_guard h
            refine j_draw (.row x8.1 x8.2 3 1 (ii (((([] : List Int) ++ a0_0) ++ a0_1) ++ a0_2)) :: F) 15 follows_any rfl ?_
            refine d_take 0 rfl (q_move rfl rfl) rfl rfl (by kernel_rfl) (by kernel_rfl) (by kernel_rfl) (fun w h => h.tail) ?_
            refine d_take 1 rfl (q_move rfl rfl) rfl rfl (by kernel_rfl) (by kernel_rfl) (by kernel_rfl) (fun w h => h.tail) ?_
            refine d_take 2 rfl (q_move rfl rfl) rfl rfl (by kernel_rfl) (by kernel_rfl) (by kernel_rfl) (fun w h => h.tail) ?_
            refine d_take 3 rfl (q_ix (Rd.row 0 rfl) (ints_len1 _ (((([] : List Int) ++ a0_0) ++ a0_1) ++ a0_2)) (by decide) (app_len (app_len (app_len rfl a0_0_h) a0_1_h) a0_2_h) c19 un32 sz3 rfl rfl rfl) rfl rfl (by kernel_rfl) (by kernel_rfl) (by kernel_rfl) (fun w h => h.tail) ?_
            refine d_take 4 rfl (q_ldI (Rd.row 0 rfl) c19 ag3 rfl rfl) rfl rfl (by kernel_rfl) (by kernel_rfl) (by kernel_rfl) (fun w h => h.tail) ?_
            refine d_take 5 rfl (q_move rfl rfl) rfl rfl (by kernel_rfl) (by kernel_rfl) (by kernel_rfl) (fun w h => h.tail) ?_
            refine d_take 6 rfl (q_move rfl rfl) rfl rfl (by kernel_rfl) (by kernel_rfl) (by kernel_rfl) (fun w h => h.tail) ?_
            refine d_take 7 rfl (q_move rfl rfl) rfl rfl (by kernel_rfl) (by kernel_rfl) (by kernel_rfl) (fun w h => h.tail) ?_
            refine d_take 8 rfl (q_ix (Rd.row 0 rfl) (ints_len1 _ (((([] : List Int) ++ a0_0) ++ a0_1) ++ a0_2)) (by decide) (app_len (app_len (app_len rfl a0_0_h) a0_1_h) a0_2_h) c19 un32 sz3 rfl rfl rfl) rfl rfl (by kernel_rfl) (by kernel_rfl) (by kernel_rfl) (fun w h => h.tail) ?_
            refine d_take 9 rfl (q_ldI (Rd.row 0 rfl) c19 ag3 rfl rfl) rfl rfl (by kernel_rfl) (by kernel_rfl) (by kernel_rfl) (fun w h => h.tail) ?_
            refine d_one 10 (by kernel_rfl) ?_
            refine o_do rfl ((q_ix (Rd.row 0 rfl) (ints_len1 _ l2) (by decide) q2 c21 un32 sz3 rfl rfl rfl)).acts rfl rfl (fun _ w h => h.tail) (fun _ => ?_)
            refine d_one 11 (by kernel_rfl) ?_
            refine o_do rfl ((q_ldI (Rd.row 0 rfl) c21 ag3 rfl rfl)).acts rfl rfl (fun _ w h => h.tail) (fun _ => ?_)
            refine d_take 12 rfl (q_add rfl rfl rfl) rfl rfl (by kernel_rfl) (by kernel_rfl) (by kernel_rfl) (fun w h => h.tail) ?_
            refine d_one 13 (by kernel_rfl) ?_
            refine o_do rfl ((q_ix (Rd.row 0 rfl) (ints_len1 _ l2) (by decide) q2 c21 un32 sz3 rfl rfl rfl)).acts rfl rfl (fun _ w h => h.tail) (fun _ => ?_)
            refine d_one 14 (by kernel_rfl) ?_
            refine o_do rfl (a_stI 0 rfl c21 sz3 rfl rfl rfl) rfl rfl (fun _ w h => h.tail) (fun _ => ?_)
            refine j_rs (.row x4 ((a0_0.length : Int).toNat) 3 1 (ii (l2.set (rd (((([] : List Int) ++ a0_0) ++ a0_1) ++ a0_2) p2).toNat (wrap64 ((rd l2 (rd (((([] : List Int) ++ a0_0) ++ a0_1) ++ a0_2) p2)) + (1:Int))))) :: .row x8.1 x8.2 3 1 (ii (((([] : List Int) ++ a0_0) ++ a0_1) ++ a0_2)) :: F) (fun _ h => h) ?_
            refine d_done (by kernel_rfl) ?_
            refine j_in ?_
            refine j_then ?_
            refine j_region ?_
            refine r_q (q_move rfl rfl) rfl rfl ?_
            refine r_q (q_add rfl rfl rfl) rfl rfl ?_
            refine r_q (q_assign rfl rfl) rfl rfl ?_
            refine r_nil ?_
            refine j_then ?_
            exact j_again m ((wrap64 (p2 + (1:Int))), (l2.set (rd (((([] : List Int) ++ a0_0) ++ a0_1) ++ a0_2) p2).toNat (wrap64 ((rd l2 (rd (((([] : List Int) ++ a0_0) ++ a0_1) ++ a0_2) p2)) + (1:Int))))) (Nat.lt_succ_self m) ⟨h, (set_len q2 _ _)⟩ (fun a he => he.sub ⟨rfl, rfl, rfl, trivial⟩) (fun w h => h)
        · refine j_false rfl (decide_eq_false c18) ?_
          refine j_exit ?_
          refine j_then_exit ?_
          refine j_then_exit ?_
          refine j_in_exit ?_
          refine j_then ?_
          exact j_meet l2 ⟨h, q2⟩ (fun a he => he.sub ⟨rfl, trivial⟩) (fun w h => h.pick 2 [0] rfl)
    · rintro l3 ⟨h, q3⟩
      subst hκ0
      show J _ _ [(3, (.slice x4 ((a0_0.length : Int).toNat) ((a0_0.length : Int).toNat)))] _ (.row x4 ((a0_0.length : Int).toNat) 3 1 (ii l3) :: F)
      refine j_then ?_
      refine j_seq ?_
      refine j_region ?_
      refine r_q (q_move rfl rfl) rfl rfl ?_
      refine r_q (q_assign rfl rfl) rfl rfl ?_
      refine r_nil ?_
      refine j_then ?_
      refine j_ret ?_
      cases h
      exact j_return rfl (ResOf.tmp rfl ResOf.nil) rfl (fun w h => ⟨⟨x4, ((a0_0.length : Int).toNat), ((a0_0.length : Int).toNat), q3⟩, rfl, h⟩)
  · refine j_true rfl (not_t (var_f c1)) ?_
    refine j_seq ?_
    refine j_region ?_
    refine r_q (q_move rfl rfl) rfl rfl ?_
    refine r_q (q_assign rfl rfl) rfl rfl ?_
    refine r_nil ?_
    refine j_then ?_
    refine j_ret ?_
    refine j_then_ret ?_
    cases h
    exact j_return rfl (ResOf.tmp rfl ResOf.nil) rfl (fun w h => ⟨⟨x2, 0, 0, rfl⟩, rfl, h.pick 2 [0] rfl⟩)

end Go.Proofs.Ytjcbalhdppmdmaa.F
