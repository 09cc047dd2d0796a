/- The program computes these pure functions, printed by the generator of wip/gen. -/
import Derived.Test.YtigidjhdcplplaaFa
import Derived.Test.YtigidjhdcplplaaFb
import Derived.Test.YtigidjhdcplplaaC1
import Derived.Test.YtigidjhdcplplaaC3
namespace Go.Proofs.Ytigidjhdcplplaa.F
open Go Go.RowKit Go.Proofs.Ytigidjhdcplplaa.S
set_option linter.unusedVariables false
set_option maxRecDepth 100000
theorem spec_l2Distances.calls (K : Nat) (a0_0 : List Int) (a0_0_A : Option Addr) (a0_0_n a0_0_c : Nat) (a0_1 : List Int) (a0_1_A : Option Addr) (a0_1_n a0_1_c : Nat) (a0_2_A : Option Addr) (a0_2_n a0_2_c : Nat) (a1 : List Int) (a1_A : Option Addr) (a1_n a1_c : Nat) {w0 w : World} {F : List Res} {r1 : List Int} (hm : Mem w0 (F) w) (a0_0_h : a0_0.length = a0_0_n) (a0_0_R : Rd w0 F a0_0_A (ii a0_0)) (a0_1_h : a0_1.length = a0_1_n) (a0_1_R : Rd w0 F a0_1_A (ii a0_1)) (a1_h : a1.length = a1_n) (a1_R : Rd w0 F a1_A (ii a1)) (h : spec_l2Distances.f K a0_0 a0_1 a1 = some r1) :
    Calls Try.prog 99 (List.toArray [.agg (List.toArray [.slice a0_0_A a0_0_n a0_0_c, .slice a0_1_A a0_1_n a0_1_c, .slice a0_2_A a0_2_n a0_2_c]), .slice a1_A a1_n a1_c]) w fun e w' => ∃ x : (Sl r1.length), e = .returned (.slice x.A x.n x.c) ∧ Mem w0 (.row x.A x.c 3 1 (ii r1) :: F) w' := by
  unfold spec_l2Distances.f at h
  refine calls_of_J (n := 110) Try.func99 rfl rfl rfl hm ?_
  refine j_seq ?_
  refine j_region ?_
  refine r_do (a_box rfl rfl) rfl rfl (fun x1 => ?_)
  refine r_q (q_assign rfl rfl) rfl rfl ?_
  refine r_nil ?_
  refine j_then ?_
  refine j_seq ?_
  refine j_region ?_
  refine r_q (q_fieldAddr fi27_0 sz25 rfl rfl rfl) rfl rfl ?_
  refine r_q (q_loadb 0 rfl ag25 rfl rfl rfl) rfl rfl ?_
  refine r_q (q_lenX a0_0 a0_0_h un25 rfl rfl rfl rfl rfl) rfl rfl ?_
  obtain ⟨v1, hb1, h⟩ := of_b1 h
  refine r_do (a_call ok84 rfl rfl rfl rfl (fun w hm => spec_l1Many.calls K (a0_0.length : Int) hm hb1)) rfl rfl (fun x2 => ?_)
  refine r_q (q_assign rfl rfl) rfl rfl ?_
  refine r_nil ?_
  refine j_then ?_
  refine j_seq ?_
  refine j_region ?_
  refine r_do (a_litX (vs := []) (ii ([] : List Int)) un25 sz3 zr3 rfl rfl rfl rfl rfl rfl rfl rfl rfl) rfl rfl (fun x3 => ?_)
  refine r_q (q_assign rfl rfl) rfl rfl ?_
  refine r_nil ?_
  refine j_then ?_
  refine j_seq ?_
  refine j_seq ?_
  refine j_region ?_
  refine r_q (q_assign rfl rfl) rfl rfl ?_
  refine r_nil ?_
  refine j_then ?_
  obtain ⟨κ0, h, hκ0⟩ := ex_k (g := fun κ => spec_l2Distances.loop0 K κ a1 K ([] : List Int) (0:Int) v1 = some r1) h
  refine j_cut (σ := (Option Addr) × Nat × Nat × (List Int) × (List Int)) (fun s => [(2, (pt x1)), (5, (.slice x2.A x2.n x2.c)), (6, (.slice s.1 s.2.1 s.2.2.1))]) (fun s => .box x1 27 [(.slice a0_0_A a0_0_n a0_0_c), (.slice a0_1_A a0_1_n a0_1_c), (.slice a0_2_A a0_2_n a0_2_c)] :: .row x2.A x2.c 3 1 (ii s.2.2.2.2) :: .row s.1 s.2.2.1 3 1 (ii s.2.2.2.1) :: F) (fun s => κ0 s.2.2.2.1 s.2.2.2.2 = some r1 ∧ (s.2.2.2.1.length = s.2.1) ∧ (s.2.2.2.2.length = x2.n)) ?_ ?_
  · refine j_block ?_
    refine j_loop (σ := (Option Addr) × Nat × Nat × (List Int) × Int × (List Int)) (fun s => [(1, (.slice a1_A a1_n a1_c)), (2, (pt x1)), (5, (.slice x2.A x2.n x2.c)), (6, (.slice s.1 s.2.1 s.2.2.1)), (7, (i6 s.2.2.2.2.1))]) (fun s => .box x1 27 [(.slice a0_0_A a0_0_n a0_0_c), (.slice a0_1_A a0_1_n a0_1_c), (.slice a0_2_A a0_2_n a0_2_c)] :: .row x2.A x2.c 3 1 (ii s.2.2.2.2.2) :: .row s.1 s.2.2.1 3 1 (ii s.2.2.2.1) :: F) (fun m s => spec_l2Distances.loop0 K κ0 a1 m s.2.2.2.1 s.2.2.2.2.1 s.2.2.2.2.2 = some r1 ∧ (s.2.2.2.1.length = s.2.1) ∧ (s.2.2.2.2.2.length = x2.n)) K (x3, 0, 0, ([] : List Int), (0:Int), v1) ⟨h, rfl, x2.h⟩ (fun a he => he.sub ⟨rfl, rfl, rfl, rfl, rfl, trivial⟩) (fun w h => h.pick 3 [2, 1, 0] rfl) ?_
    rintro m ⟨A2, n2, d2, l3, p2, l4⟩ ⟨h, q3, q4⟩
    cases m with
    | zero => exact absurd h (by rw [spec_l2Distances.loop0]; exact nofun)
    | succ m =>
      rw [spec_l2Distances.loop0] at h
      show J _ _ [(1, (.slice a1_A a1_n a1_c)), (2, (pt x1)), (5, (.slice x2.A x2.n x2.c)), (6, (.slice A2 n2 d2)), (7, (i6 p2))] _ (.box x1 27 [(.slice a0_0_A a0_0_n a0_0_c), (.slice a0_1_A a0_1_n a0_1_c), (.slice a0_2_A a0_2_n a0_2_c)] :: .row x2.A x2.c 3 1 (ii l4) :: .row A2 d2 3 1 (ii l3) :: F)
      refine j_seq ?_
      refine j_seq ?_
      refine j_region ?_
      refine r_q (q_move rfl rfl) rfl rfl ?_
      refine r_q (q_move rfl rfl) rfl rfl ?_
      refine r_q (q_lenX a1 a1_h un25 rfl rfl rfl rfl rfl) rfl rfl ?_
      refine r_q (q_lss rfl rfl rfl) rfl rfl ?_
      refine r_nil ?_
      refine j_then ?_
      rcases of_if h with ⟨c19, h⟩ | ⟨c19, h⟩
      · refine j_true rfl (decide_eq_true c19) ?_
        refine j_skip ?_
        refine j_then ?_
        refine j_seq ?_
        refine j_block ?_
        refine j_seq ?_
        refine j_region ?_
        refine r_q (q_move rfl rfl) rfl rfl ?_
        refine r_q (q_move rfl rfl) rfl rfl ?_
        obtain ⟨c20, h⟩ := of_guard h
        refine r_q (q_ix (Rd.drop 3 a1_R) (ints_len1 _ a1) (by decide) a1_h c20 un25 sz3 rfl rfl rfl) rfl rfl ?_
        refine r_q (q_ldI (Rd.drop 3 a1_R) c20 ag3 rfl rfl) rfl rfl ?_
        refine r_q (q_neq rfl rfl rfl) rfl rfl ?_
        refine r_q (q_move rfl rfl) rfl rfl ?_
        rcases of_if h with ⟨c21, h⟩ | ⟨c21, h⟩
        · refine r_off rfl rfl rfl rfl (bne_f c21) rfl ?_
          refine r_off rfl rfl rfl rfl (bne_f c21) rfl ?_
          refine r_off rfl rfl rfl rfl (bne_f c21) rfl ?_
          refine r_off rfl rfl rfl rfl (bne_f c21) rfl ?_
          refine r_off rfl rfl rfl rfl (bne_f c21) rfl ?_
          refine r_off rfl rfl rfl rfl (bne_f c21) rfl ?_
          refine r_off rfl rfl rfl rfl (bne_f c21) rfl ?_
          refine r_off rfl rfl rfl rfl (bne_f c21) rfl ?_
          refine r_q (q_pick_f rfl rfl (bne_f c21) rfl) rfl rfl ?_
          refine r_nil ?_
          refine j_then ?_
          refine j_false rfl rfl ?_
          refine j_skip ?_
          refine j_in ?_
          refine j_then ?_
          refine j_region ?_
          refine r_q (q_move rfl rfl) rfl rfl ?_
          refine r_q (q_add rfl rfl rfl) rfl rfl ?_
          refine r_q (q_assign rfl rfl) rfl rfl ?_
          refine r_nil ?_
          refine j_then ?_
          exact j_again m (A2, n2, d2, l3, (wrap64 (p2 + (1:Int))), l4) (Nat.lt_succ_self m) ⟨h, q3, q4⟩ (fun a he => he.sub ⟨rfl, rfl, rfl, rfl, rfl, trivial⟩) (fun w h => h)
        · refine r_qon (q_move rfl rfl) rfl rfl rfl rfl (bne_t c21) rfl ?_
          refine r_qon (q_move rfl rfl) rfl rfl rfl rfl (bne_t c21) rfl ?_
          refine r_qon (q_move rfl rfl) rfl rfl rfl rfl (bne_t c21) rfl ?_
          refine r_qon (q_ix (Rd.drop 3 a1_R) (ints_len1 _ a1) (by decide) a1_h c20 un25 sz3 rfl rfl rfl) rfl rfl rfl rfl (bne_t c21) rfl ?_
          refine r_qon (q_ldI (Rd.drop 3 a1_R) c20 ag3 rfl rfl) rfl rfl rfl rfl (bne_t c21) rfl ?_
          obtain ⟨c22, h⟩ := of_guard h
          refine r_qon (q_ix (Rd.row 1 rfl) (ints_len1 _ l4) (by decide) q4 c22 un25 sz3 rfl rfl rfl) rfl rfl rfl rfl (bne_t c21) rfl ?_
          refine r_qon (q_ldI (Rd.row 1 rfl) c22 ag3 rfl rfl) rfl rfl rfl rfl (bne_t c21) rfl ?_
          refine r_qon (q_lss rfl rfl rfl) rfl rfl rfl rfl (bne_t c21) rfl ?_
          refine r_q (q_pick_t rfl rfl (bne_t c21) rfl) rfl rfl ?_
          refine r_nil ?_
          refine j_then ?_
          rcases of_if h with ⟨c23, h⟩ | ⟨c23, h⟩
          · refine j_true rfl (decide_eq_true c23) ?_
            refine j_seq ?_
            refine j_region ?_
            refine r_q (q_move rfl rfl) rfl rfl ?_
            refine r_q (q_move rfl rfl) rfl rfl ?_
            refine r_q (q_move rfl rfl) rfl rfl ?_
            refine r_q (q_ix (Rd.drop 3 a1_R) (ints_len1 _ a1) (by decide) a1_h c20 un25 sz3 rfl rfl rfl) rfl rfl ?_
            refine r_q (q_ldI (Rd.drop 3 a1_R) c20 ag3 rfl rfl) rfl rfl ?_
            refine r_q (q_ix (Rd.row 1 rfl) (ints_len1 _ l4) (by decide) q4 c22 un25 sz3 rfl rfl rfl) rfl rfl ?_
            refine r_do (a_stI 1 rfl c22 sz3 rfl rfl rfl) rfl rfl (fun _ => ?_)
            refine j_s1 ?_
            refine r_nil ?_
            refine j_then ?_
            refine j_region ?_
            refine r_q (q_move rfl rfl) rfl rfl ?_
            refine r_q (q_move rfl rfl) rfl rfl ?_
            refine r_q (q_move rfl rfl) rfl rfl ?_
            refine r_q (q_ix (Rd.drop 3 a1_R) (ints_len1 _ a1) (by decide) a1_h c20 un25 sz3 rfl rfl rfl) rfl rfl ?_
            refine r_q (q_ldI (Rd.drop 3 a1_R) c20 ag3 rfl rfl) rfl rfl ?_
            refine r_do (a_litX (vs := [(i6 (rd a1 p2))]) (ii ([(rd a1 p2)] : List Int)) un25 sz3 zr3 rfl rfl rfl rfl rfl rfl rfl rfl rfl) rfl rfl (fun x4 => ?_)
            obtain ⟨c24, h⟩ := of_guard h
            refine r_do (a_appI (xs := l3) (ys := ([(rd a1 p2)] : List Int)) 3 un25 un25 sz3 by3 zr3 rfl rfl rfl rfl rfl rfl rfl rfl rfl q3 rfl (Rd.row 0 rfl) c24) rfl rfl (fun x5 => ?_)
            refine j_s3 ?_
            refine r_q (q_assign rfl rfl) rfl rfl ?_
            refine r_nil ?_
            refine j_in ?_
            refine j_then ?_
            refine j_region ?_
            refine r_q (q_move rfl rfl) rfl rfl ?_
            refine r_q (q_add rfl rfl rfl) rfl rfl ?_
            refine r_q (q_assign rfl rfl) rfl rfl ?_
            refine r_nil ?_
            refine j_then ?_
            exact j_again m (x5.1, (n2 + 1), x5.2, (l3 ++ ([(rd a1 p2)] : List Int)), (wrap64 (p2 + (1:Int))), (l4.set (rd a1 p2).toNat (1:Int))) (Nat.lt_succ_self m) ⟨h, (app_len q3 rfl), (set_len q4 _ _)⟩ (fun a he => he.sub ⟨rfl, rfl, rfl, rfl, rfl, trivial⟩) (fun w h => h.tail)
          · refine j_false rfl (decide_eq_false c23) ?_
            refine j_skip ?_
            refine j_in ?_
            refine j_then ?_
            refine j_region ?_
            refine r_q (q_move rfl rfl) rfl rfl ?_
            refine r_q (q_add rfl rfl rfl) rfl rfl ?_
            refine r_q (q_assign rfl rfl) rfl rfl ?_
            refine r_nil ?_
            refine j_then ?_
            exact j_again m (A2, n2, d2, l3, (wrap64 (p2 + (1:Int))), l4) (Nat.lt_succ_self m) ⟨h, q3, q4⟩ (fun a he => he.sub ⟨rfl, rfl, rfl, rfl, rfl, trivial⟩) (fun w h => h)
      · refine j_false rfl (decide_eq_false c19) ?_
        refine j_exit ?_
        refine j_then_exit ?_
        refine j_then_exit ?_
        refine j_in_exit ?_
        refine j_then ?_
        exact j_meet (A2, n2, d2, l3, l4) ⟨h, q3, q4⟩ (fun a he => he.sub ⟨rfl, rfl, rfl, trivial⟩) (fun w h => h)
  · rintro ⟨A3, n3, d3, l5, l6⟩ ⟨h, q5, q6⟩
    subst hκ0
    show J _ _ [(2, (pt x1)), (5, (.slice x2.A x2.n x2.c)), (6, (.slice A3 n3 d3))] _ (.box x1 27 [(.slice a0_0_A a0_0_n a0_0_c), (.slice a0_1_A a0_1_n a0_1_c), (.slice a0_2_A a0_2_n a0_2_c)] :: .row x2.A x2.c 3 1 (ii l6) :: .row A3 d3 3 1 (ii l5) :: F)
    refine j_then ?_
    refine j_seq ?_
    refine j_seq ?_
    refine j_region ?_
    refine r_q (q_assign rfl rfl) rfl rfl ?_
    refine r_nil ?_
    refine j_then ?_
    obtain ⟨κ1, h, hκ1⟩ := ex_k (g := fun κ => spec_l2Distances.loop1 K κ a0_0 a0_1 K l5 (0:Int) l6 = some r1) h
    refine j_cut (σ := (List Int)) (fun s => [(5, (.slice x2.A x2.n x2.c))]) (fun s => .row x2.A x2.c 3 1 (ii s) :: F) (fun s => κ1 s = some r1 ∧ (s.length = x2.n)) ?_ ?_
    · refine j_block ?_
      refine j_loop (σ := (Option Addr) × Nat × Nat × (List Int) × Int × (List Int)) (fun s => [(2, (pt x1)), (5, (.slice x2.A x2.n x2.c)), (6, (.slice s.1 s.2.1 s.2.2.1)), (8, (i6 s.2.2.2.2.1))]) (fun s => .box x1 27 [(.slice a0_0_A a0_0_n a0_0_c), (.slice a0_1_A a0_1_n a0_1_c), (.slice a0_2_A a0_2_n a0_2_c)] :: .row x2.A x2.c 3 1 (ii s.2.2.2.2.2) :: .row s.1 s.2.2.1 3 1 (ii s.2.2.2.1) :: F) (fun m s => spec_l2Distances.loop1 K κ1 a0_0 a0_1 m s.2.2.2.1 s.2.2.2.2.1 s.2.2.2.2.2 = some r1 ∧ (s.2.2.2.1.length = s.2.1) ∧ (s.2.2.2.2.2.length = x2.n)) K (A3, n3, d3, l5, (0:Int), l6) ⟨h, q5, q6⟩ (fun a he => he.sub ⟨rfl, rfl, rfl, rfl, trivial⟩) (fun w h => h) ?_
      rintro m ⟨A11, n11, d11, l21, p8, l22⟩ ⟨h, q21, q22⟩
      cases m with
      | zero => exact absurd h (by rw [spec_l2Distances.loop1]; exact nofun)
      | succ m =>
        rw [spec_l2Distances.loop1] at h
        show J _ _ [(2, (pt x1)), (5, (.slice x2.A x2.n x2.c)), (6, (.slice A11 n11 d11)), (8, (i6 p8))] _ (.box x1 27 [(.slice a0_0_A a0_0_n a0_0_c), (.slice a0_1_A a0_1_n a0_1_c), (.slice a0_2_A a0_2_n a0_2_c)] :: .row x2.A x2.c 3 1 (ii l22) :: .row A11 d11 3 1 (ii l21) :: F)
        refine j_seq ?_
        refine j_seq ?_
        refine j_region ?_
        refine r_q (q_move rfl rfl) rfl rfl ?_
        refine r_q (q_move rfl rfl) rfl rfl ?_
        refine r_q (q_lenX l21 q21 un25 rfl rfl rfl rfl rfl) rfl rfl ?_
        refine r_q (q_lss rfl rfl rfl) rfl rfl ?_
        refine r_nil ?_
        refine j_then ?_
        rcases of_if h with ⟨c118, h⟩ | ⟨c118, h⟩
        · refine j_true rfl (decide_eq_true c118) ?_
          refine j_skip ?_
          refine j_then ?_
          refine j_seq ?_
          refine j_block ?_
          refine j_seq ?_
          refine j_region ?_
          refine r_q (q_move rfl rfl) rfl rfl ?_
          refine r_q (q_move rfl rfl) rfl rfl ?_
          obtain ⟨c119, h⟩ := of_guard h
          refine r_q (q_ix (Rd.row 2 rfl) (ints_len1 _ l21) (by decide) q21 c119 un25 sz3 rfl rfl rfl) rfl rfl ?_
          refine r_q (q_ldI (Rd.row 2 rfl) c119 ag3 rfl rfl) rfl rfl ?_
          refine r_q (q_assign rfl rfl) rfl rfl ?_
          refine r_nil ?_
          refine j_then ?_
          refine j_seq ?_
          obtain ⟨c120, h⟩ := of_guard h
          obtain ⟨c121, h⟩ := of_guard h
          refine j_draw (.box x1 27 [(.slice a0_0_A a0_0_n a0_0_c), (.slice a0_1_A a0_1_n a0_1_c), (.slice a0_2_A a0_2_n a0_2_c)] :: .row x2.A x2.c 3 1 (ii l22) :: .row A11 d11 3 1 (ii l21) :: F) 12 follows_any rfl ?_
          refine d_take 0 rfl (q_fieldAddr fi27_0 sz25 rfl rfl rfl) rfl rfl (by kernel_rfl) (by kernel_rfl) (by kernel_rfl) (fun w h => h) ?_
          refine d_take 1 rfl (q_loadb 0 rfl ag25 rfl rfl rfl) rfl rfl (by kernel_rfl) (by kernel_rfl) (by kernel_rfl) (fun w h => h) ?_
          refine d_take 2 rfl (q_move rfl rfl) rfl rfl (by kernel_rfl) (by kernel_rfl) (by kernel_rfl) (fun w h => h) ?_
          refine d_take 3 rfl (q_ix (Rd.drop 3 a0_0_R) (ints_len1 _ a0_0) (by decide) a0_0_h c120 un25 sz3 rfl rfl rfl) rfl rfl (by kernel_rfl) (by kernel_rfl) (by kernel_rfl) (fun w h => h) ?_
          refine d_take 4 rfl (q_ldI (Rd.drop 3 a0_0_R) c120 ag3 rfl rfl) rfl rfl (by kernel_rfl) (by kernel_rfl) (by kernel_rfl) (fun w h => h) ?_
          refine d_take 5 rfl (q_fieldAddr fi27_1 sz25 rfl rfl rfl) rfl rfl (by kernel_rfl) (by kernel_rfl) (by kernel_rfl) (fun w h => h) ?_
          refine d_take 6 rfl (q_loadb 0 rfl ag25 rfl rfl rfl) rfl rfl (by kernel_rfl) (by kernel_rfl) (by kernel_rfl) (fun w h => h) ?_
          refine d_take 7 rfl (q_move rfl rfl) rfl rfl (by kernel_rfl) (by kernel_rfl) (by kernel_rfl) (fun w h => h) ?_
          refine d_take 8 rfl (q_ix (Rd.drop 3 a0_1_R) (ints_len1 _ a0_1) (by decide) a0_1_h c121 un25 sz3 rfl rfl rfl) rfl rfl (by kernel_rfl) (by kernel_rfl) (by kernel_rfl) (fun w h => h) ?_
          refine d_take 9 rfl (q_ldI (Rd.drop 3 a0_1_R) c121 ag3 rfl rfl) rfl rfl (by kernel_rfl) (by kernel_rfl) (by kernel_rfl) (fun w h => h) ?_
          refine d_one 10 (by kernel_rfl) ?_
          refine o_do rfl (a_litX (vs := [(i6 (rd a0_0 (rd l21 p8))), (i6 (rd a0_1 (rd l21 p8)))]) (ii ([(rd a0_0 (rd l21 p8)), (rd a0_1 (rd l21 p8))] : List Int)) un25 sz3 zr3 rfl rfl rfl rfl rfl rfl rfl rfl rfl) rfl rfl (fun x6 w h => h.tail) (fun x6 => ?_)
          refine d_take 11 rfl (q_assign rfl rfl) rfl rfl (by kernel_rfl) (by kernel_rfl) (by kernel_rfl) (fun w h => h.tail) ?_
          refine d_done (by kernel_rfl) ?_
          refine j_then ?_
          refine j_seq ?_
          refine j_region ?_
          refine r_q (q_assign rfl rfl) rfl rfl ?_
          refine r_nil ?_
          refine j_then ?_
          obtain ⟨κ2, h, hκ2⟩ := ex_k (g := fun κ => spec_l2Distances.loop2 K κ a0_0 a0_1 l21 p8 K l21 (0:Int) l22 = some r1) h
          refine j_cut (σ := (Option Addr) × Nat × Nat × (List Int) × (List Int)) (fun s => [(2, (pt x1)), (5, (.slice x2.A x2.n x2.c)), (6, (.slice s.1 s.2.1 s.2.2.1)), (8, (i6 p8))]) (fun s => .box x1 27 [(.slice a0_0_A a0_0_n a0_0_c), (.slice a0_1_A a0_1_n a0_1_c), (.slice a0_2_A a0_2_n a0_2_c)] :: .row x2.A x2.c 3 1 (ii s.2.2.2.2) :: .row s.1 s.2.2.1 3 1 (ii s.2.2.2.1) :: F) (fun s => κ2 s.2.2.2.1 s.2.2.2.2 = some r1 ∧ (s.2.2.2.1.length = s.2.1) ∧ (s.2.2.2.2.length = x2.n)) ?_ ?_
          · refine j_block ?_
            refine j_loop (σ := (Option Addr) × Nat × Nat × (List Int) × Int × (List Int)) (fun s => [(2, (pt x1)), (5, (.slice x2.A x2.n x2.c)), (6, (.slice s.1 s.2.1 s.2.2.1)), (8, (i6 p8)), (9, (i6 (rd l21 p8))), (10, (.slice x6 2 2)), (11, (i6 s.2.2.2.2.1))]) (fun s => .box x1 27 [(.slice a0_0_A a0_0_n a0_0_c), (.slice a0_1_A a0_1_n a0_1_c), (.slice a0_2_A a0_2_n a0_2_c)] :: .row x2.A x2.c 3 1 (ii s.2.2.2.2.2) :: .row x6 2 3 1 (ii ([(rd a0_0 (rd l21 p8)), (rd a0_1 (rd l21 p8))] : List Int)) :: .row s.1 s.2.2.1 3 1 (ii s.2.2.2.1) :: F) (fun m s => spec_l2Distances.loop2 K κ2 a0_0 a0_1 l21 p8 m s.2.2.2.1 s.2.2.2.2.1 s.2.2.2.2.2 = some r1 ∧ (s.2.2.2.1.length = s.2.1) ∧ (s.2.2.2.2.2.length = x2.n)) K (A11, n11, d11, l21, (0:Int), l22) ⟨h, q21, q22⟩ (fun a he => he.sub ⟨rfl, rfl, rfl, rfl, rfl, rfl, rfl, trivial⟩) (fun w h => h.pick 4 [1, 2, 0, 3] rfl) ?_
            rintro m ⟨A16, n16, d16, l32, p12, l33⟩ ⟨h, q32, q33⟩
            cases m with
            | zero => exact absurd h (by rw [spec_l2Distances.loop2]; exact nofun)
            | succ m =>
              rw [spec_l2Distances.loop2] at h
              show J _ _ [(2, (pt x1)), (5, (.slice x2.A x2.n x2.c)), (6, (.slice A16 n16 d16)), (8, (i6 p8)), (9, (i6 (rd l21 p8))), (10, (.slice x6 2 2)), (11, (i6 p12))] _ (.box x1 27 [(.slice a0_0_A a0_0_n a0_0_c), (.slice a0_1_A a0_1_n a0_1_c), (.slice a0_2_A a0_2_n a0_2_c)] :: .row x2.A x2.c 3 1 (ii l33) :: .row x6 2 3 1 (ii ([(rd a0_0 (rd l21 p8)), (rd a0_1 (rd l21 p8))] : List Int)) :: .row A16 d16 3 1 (ii l32) :: F)
              refine j_seq ?_
              refine j_seq ?_
              refine j_region ?_
              refine r_q (q_move rfl rfl) rfl rfl ?_
              refine r_q (q_lss rfl rfl rfl) rfl rfl ?_
              refine r_nil ?_
              refine j_then ?_
              rcases of_if h with ⟨c142, h⟩ | ⟨c142, h⟩
              · refine j_true rfl (decide_eq_true c142) ?_
                refine j_skip ?_
                refine j_then ?_
                refine j_seq ?_
                refine j_block ?_
                refine j_seq ?_
                refine j_region ?_
                refine r_q (q_move rfl rfl) rfl rfl ?_
                refine r_q (q_move rfl rfl) rfl rfl ?_
                obtain ⟨c143, h⟩ := of_guard h
                refine r_q (q_ix (Rd.row 2 rfl) (ints_len1 _ ([(rd a0_0 (rd l21 p8)), (rd a0_1 (rd l21 p8))] : List Int)) (by decide) rfl c143 un25 sz3 rfl rfl rfl) rfl rfl ?_
                refine r_q (q_ldI (Rd.row 2 rfl) c143 ag3 rfl rfl) rfl rfl ?_
                refine r_q (q_neq rfl rfl rfl) rfl rfl ?_
                refine r_q (q_move rfl rfl) rfl rfl ?_
                rcases of_if h with ⟨c144, h⟩ | ⟨c144, h⟩
                · refine r_off rfl rfl rfl rfl (bne_f c144) rfl ?_
                  refine r_off rfl rfl rfl rfl (bne_f c144) rfl ?_
                  refine r_off rfl rfl rfl rfl (bne_f c144) rfl ?_
                  refine r_off rfl rfl rfl rfl (bne_f c144) rfl ?_
                  refine r_off rfl rfl rfl rfl (bne_f c144) rfl ?_
                  refine r_off rfl rfl rfl rfl (bne_f c144) rfl ?_
                  refine r_off rfl rfl rfl rfl (bne_f c144) rfl ?_
                  refine r_off rfl rfl rfl rfl (bne_f c144) rfl ?_
                  refine r_q (q_pick_f rfl rfl (bne_f c144) rfl) rfl rfl ?_
                  refine r_nil ?_
                  refine j_then ?_
                  refine j_false rfl rfl ?_
                  refine j_skip ?_
                  refine j_in ?_
                  refine j_then ?_
                  refine j_region ?_
                  refine r_q (q_move rfl rfl) rfl rfl ?_
                  refine r_q (q_add rfl rfl rfl) rfl rfl ?_
                  refine r_q (q_assign rfl rfl) rfl rfl ?_
                  refine r_nil ?_
                  refine j_then ?_
                  exact j_again m (A16, n16, d16, l32, (wrap64 (p12 + (1:Int))), l33) (Nat.lt_succ_self m) ⟨h, q32, q33⟩ (fun a he => he.sub ⟨rfl, rfl, rfl, rfl, rfl, rfl, rfl, trivial⟩) (fun w h => h)
                · refine r_qon (q_move rfl rfl) rfl rfl rfl rfl (bne_t c144) rfl ?_
                  refine r_qon (q_move rfl rfl) rfl rfl rfl rfl (bne_t c144) rfl ?_
                  refine r_qon (q_move rfl rfl) rfl rfl rfl rfl (bne_t c144) rfl ?_
                  refine r_qon (q_ix (Rd.row 2 rfl) (ints_len1 _ ([(rd a0_0 (rd l21 p8)), (rd a0_1 (rd l21 p8))] : List Int)) (by decide) rfl c143 un25 sz3 rfl rfl rfl) rfl rfl rfl rfl (bne_t c144) rfl ?_
                  refine r_qon (q_ldI (Rd.row 2 rfl) c143 ag3 rfl rfl) rfl rfl rfl rfl (bne_t c144) rfl ?_
                  obtain ⟨c145, h⟩ := of_guard h
                  refine r_qon (q_ix (Rd.row 1 rfl) (ints_len1 _ l33) (by decide) q33 c145 un25 sz3 rfl rfl rfl) rfl rfl rfl rfl (bne_t c144) rfl ?_
                  refine r_qon (q_ldI (Rd.row 1 rfl) c145 ag3 rfl rfl) rfl rfl rfl rfl (bne_t c144) rfl ?_
                  refine r_qon (q_lss rfl rfl rfl) rfl rfl rfl rfl (bne_t c144) rfl ?_
                  refine r_q (q_pick_t rfl rfl (bne_t c144) rfl) rfl rfl ?_
                  refine r_nil ?_
                  refine j_then ?_
                  rcases of_if h with ⟨c146, h⟩ | ⟨c146, h⟩
                  · refine j_true rfl (decide_eq_true c146) ?_
                    refine j_seq ?_
                    obtain ⟨c147, h⟩ := of_guard h
                    refine j_draw (.box x1 27 [(.slice a0_0_A a0_0_n a0_0_c), (.slice a0_1_A a0_1_n a0_1_c), (.slice a0_2_A a0_2_n a0_2_c)] :: .row x6 2 3 1 (ii ([(rd a0_0 (rd l21 p8)), (rd a0_1 (rd l21 p8))] : List Int)) :: .row A16 d16 3 1 (ii l32) :: F) 12 follows_any rfl ?_
                    refine d_take 0 rfl (q_move rfl rfl) rfl rfl (by kernel_rfl) (by kernel_rfl) (by kernel_rfl) (fun w h => h.pick 4 [0, 2, 3] rfl) ?_
                    refine d_take 1 rfl (q_move rfl rfl) rfl rfl (by kernel_rfl) (by kernel_rfl) (by kernel_rfl) (fun w h => h.pick 4 [0, 2, 3] rfl) ?_
                    refine d_take 2 rfl (q_move rfl rfl) rfl rfl (by kernel_rfl) (by kernel_rfl) (by kernel_rfl) (fun w h => h.pick 4 [0, 2, 3] rfl) ?_
                    refine d_take 3 rfl (q_ix (Rd.row 1 rfl) (ints_len1 _ ([(rd a0_0 (rd l21 p8)), (rd a0_1 (rd l21 p8))] : List Int)) (by decide) rfl c143 un25 sz3 rfl rfl rfl) rfl rfl (by kernel_rfl) (by kernel_rfl) (by kernel_rfl) (fun w h => h.pick 4 [0, 2, 3] rfl) ?_
                    refine d_take 4 rfl (q_ldI (Rd.row 1 rfl) c143 ag3 rfl rfl) rfl rfl (by kernel_rfl) (by kernel_rfl) (by kernel_rfl) (fun w h => h.pick 4 [0, 2, 3] rfl) ?_
                    refine d_take 5 rfl (q_move rfl rfl) rfl rfl (by kernel_rfl) (by kernel_rfl) (by kernel_rfl) (fun w h => h.pick 4 [0, 2, 3] rfl) ?_
                    refine d_take 6 rfl (q_move rfl rfl) rfl rfl (by kernel_rfl) (by kernel_rfl) (by kernel_rfl) (fun w h => h.pick 4 [0, 2, 3] rfl) ?_
                    refine d_one 7 (by kernel_rfl) ?_
                    refine o_do rfl ((q_ix (Rd.row 1 rfl) (ints_len1 _ l33) (by decide) q33 c147 un25 sz3 rfl rfl rfl)).acts rfl rfl (fun _ w h => h.pick 4 [0, 2, 3] rfl) (fun _ => ?_)
                    refine d_one 8 (by kernel_rfl) ?_
                    refine o_do rfl ((q_ldI (Rd.row 1 rfl) c147 ag3 rfl rfl)).acts rfl rfl (fun _ w h => h.pick 4 [0, 2, 3] rfl) (fun _ => ?_)
                    refine d_take 9 rfl (q_add rfl rfl rfl) rfl rfl (by kernel_rfl) (by kernel_rfl) (by kernel_rfl) (fun w h => h.pick 4 [0, 2, 3] rfl) ?_
                    refine d_one 10 (by kernel_rfl) ?_
                    refine o_do rfl ((q_ix (Rd.row 1 rfl) (ints_len1 _ l33) (by decide) q33 c145 un25 sz3 rfl rfl rfl)).acts rfl rfl (fun _ w h => h.pick 4 [0, 2, 3] rfl) (fun _ => ?_)
                    refine d_one 11 (by kernel_rfl) ?_
                    refine o_do rfl (a_stI 1 rfl c145 sz3 rfl rfl rfl) rfl rfl (fun _ w h => h.pick 4 [0, 2, 3] rfl) (fun _ => ?_)
                    refine j_s1 ?_
                    refine d_done (by kernel_rfl) ?_
                    refine j_then ?_
                    refine j_region ?_
                    refine r_q (q_move rfl rfl) rfl rfl ?_
                    refine r_q (q_move rfl rfl) rfl rfl ?_
                    refine r_q (q_move rfl rfl) rfl rfl ?_
                    refine r_q (q_ix (Rd.row 2 rfl) (ints_len1 _ ([(rd a0_0 (rd l21 p8)), (rd a0_1 (rd l21 p8))] : List Int)) (by decide) rfl c143 un25 sz3 rfl rfl rfl) rfl rfl ?_
                    refine r_q (q_ldI (Rd.row 2 rfl) c143 ag3 rfl rfl) rfl rfl ?_
                    refine r_do (a_litX (vs := [(i6 (rd ([(rd a0_0 (rd l21 p8)), (rd a0_1 (rd l21 p8))] : List Int) p12))]) (ii ([(rd ([(rd a0_0 (rd l21 p8)), (rd a0_1 (rd l21 p8))] : List Int) p12)] : List Int)) un25 sz3 zr3 rfl rfl rfl rfl rfl rfl rfl rfl rfl) rfl rfl (fun x7 => ?_)
                    obtain ⟨c148, h⟩ := of_guard h
                    refine r_do (a_appI (xs := l32) (ys := ([(rd ([(rd a0_0 (rd l21 p8)), (rd a0_1 (rd l21 p8))] : List Int) p12)] : List Int)) 4 un25 un25 sz3 by3 zr3 rfl rfl rfl rfl rfl rfl rfl rfl rfl q32 rfl (Rd.row 0 rfl) c148) rfl rfl (fun x8 => ?_)
                    refine j_s4 ?_
                    refine r_q (q_assign rfl rfl) rfl rfl ?_
                    refine r_nil ?_
                    refine j_in ?_
                    refine j_then ?_
                    refine j_region ?_
                    refine r_q (q_move rfl rfl) rfl rfl ?_
                    refine r_q (q_add rfl rfl rfl) rfl rfl ?_
                    refine r_q (q_assign rfl rfl) rfl rfl ?_
                    refine r_nil ?_
                    refine j_then ?_
                    exact j_again m (x8.1, (n16 + 1), x8.2, (l32 ++ ([(rd ([(rd a0_0 (rd l21 p8)), (rd a0_1 (rd l21 p8))] : List Int) p12)] : List Int)), (wrap64 (p12 + (1:Int))), (l33.set (rd ([(rd a0_0 (rd l21 p8)), (rd a0_1 (rd l21 p8))] : List Int) p12).toNat (wrap64 ((rd l33 (rd l21 p8)) + (1:Int))))) (Nat.lt_succ_self m) ⟨h, (app_len q32 rfl), (set_len q33 _ _)⟩ (fun a he => he.sub ⟨rfl, rfl, rfl, rfl, rfl, rfl, rfl, trivial⟩) (fun w h => h.tail)
                  · refine j_false rfl (decide_eq_false c146) ?_
                    refine j_skip ?_
                    refine j_in ?_
                    refine j_then ?_
                    refine j_region ?_
                    refine r_q (q_move rfl rfl) rfl rfl ?_
                    refine r_q (q_add rfl rfl rfl) rfl rfl ?_
                    refine r_q (q_assign rfl rfl) rfl rfl ?_
                    refine r_nil ?_
                    refine j_then ?_
                    exact j_again m (A16, n16, d16, l32, (wrap64 (p12 + (1:Int))), l33) (Nat.lt_succ_self m) ⟨h, q32, q33⟩ (fun a he => he.sub ⟨rfl, rfl, rfl, rfl, rfl, rfl, rfl, trivial⟩) (fun w h => h)
              · refine j_false rfl (decide_eq_false c142) ?_
                refine j_exit ?_
                refine j_then_exit ?_
                refine j_then_exit ?_
                refine j_in_exit ?_
                refine j_then ?_
                exact j_meet (A16, n16, d16, l32, l33) ⟨h, q32, q33⟩ (fun a he => he.sub ⟨rfl, rfl, rfl, rfl, trivial⟩) (fun w h => h.pick 4 [0, 1, 3] rfl)
          · rintro ⟨A17, n17, d17, l34, l35⟩ ⟨h, q34, q35⟩
            subst hκ2
            show J _ _ [(2, (pt x1)), (5, (.slice x2.A x2.n x2.c)), (6, (.slice A17 n17 d17)), (8, (i6 p8))] _ (.box x1 27 [(.slice a0_0_A a0_0_n a0_0_c), (.slice a0_1_A a0_1_n a0_1_c), (.slice a0_2_A a0_2_n a0_2_c)] :: .row x2.A x2.c 3 1 (ii l35) :: .row A17 d17 3 1 (ii l34) :: F)
            refine j_in ?_
            refine j_then ?_
            refine j_region ?_
            refine r_q (q_move rfl rfl) rfl rfl ?_
            refine r_q (q_add rfl rfl rfl) rfl rfl ?_
            refine r_q (q_assign rfl rfl) rfl rfl ?_
            refine r_nil ?_
            refine j_then ?_
            exact j_again m (A17, n17, d17, l34, (wrap64 (p8 + (1:Int))), l35) (Nat.lt_succ_self m) ⟨h, q34, q35⟩ (fun a he => he.sub ⟨rfl, rfl, rfl, rfl, trivial⟩) (fun w h => h)
        · refine j_false rfl (decide_eq_false c118) ?_
          refine j_exit ?_
          refine j_then_exit ?_
          refine j_then_exit ?_
          refine j_in_exit ?_
          refine j_then ?_
          exact j_meet l22 ⟨h, q22⟩ (fun a he => he.sub ⟨rfl, trivial⟩) (fun w h => h.pick 3 [1] rfl)
    · rintro l29 ⟨h, q29⟩
      subst hκ1
      show J _ _ [(5, (.slice x2.A x2.n x2.c))] _ (.row x2.A x2.c 3 1 (ii l29) :: F)
      refine j_then ?_
      refine j_seq ?_
      refine j_region ?_
      refine r_q (q_move rfl rfl) rfl rfl ?_
      refine r_q (q_assign rfl rfl) rfl rfl ?_
      refine r_nil ?_
      refine j_then ?_
      refine j_ret ?_
      cases h
      exact j_return rfl (ResOf.tmp rfl ResOf.nil) rfl (fun w h => ⟨⟨x2.A, x2.n, x2.c, q29⟩, rfl, h⟩)

theorem spec_Reachable.calls (K : Nat) (a0_0 : List Int) (a0_0_A : Option Addr) (a0_0_n a0_0_c : Nat) (a0_1 : List Int) (a0_1_A : Option Addr) (a0_1_n a0_1_c : Nat) (a0_2 : List Int) (a0_2_A : Option Addr) (a0_2_n a0_2_c : Nat) {w0 w : World} {F : List Res} {r1 : List Bool} (hm : Mem w0 (F) w) (a0_0_h : a0_0.length = a0_0_n) (a0_0_R : Rd w0 F a0_0_A (ii a0_0)) (a0_1_h : a0_1.length = a0_1_n) (a0_1_R : Rd w0 F a0_1_A (ii a0_1)) (a0_2_h : a0_2.length = a0_2_n) (a0_2_R : Rd w0 F a0_2_A (ii a0_2)) (h : spec_Reachable.f K a0_0 a0_1 a0_2 = some r1) :
    Calls Try.prog 93 (List.toArray [.agg (List.toArray [.slice a0_0_A a0_0_n a0_0_c, .slice a0_1_A a0_1_n a0_1_c, .slice a0_2_A a0_2_n a0_2_c])]) w fun e w' => ∃ x : (Sl r1.length), e = .returned (.slice x.A x.n x.c) ∧ Mem w0 (.row x.A x.c 4 1 (bls r1) :: F) w' := by
  unfold spec_Reachable.f at h
  refine calls_of_J (n := 30) Try.func93 rfl rfl rfl hm ?_
  refine j_seq ?_
  refine j_region ?_
  refine r_do (a_box rfl rfl) rfl rfl (fun x1 => ?_)
  refine r_q (q_assign rfl rfl) rfl rfl ?_
  refine r_nil ?_
  refine j_then ?_
  refine j_seq ?_
  refine j_region ?_
  refine r_do (a_litX (vs := []) (bls ([] : List Bool)) un52 sz4 zr4 rfl rfl rfl rfl rfl rfl rfl rfl rfl) rfl rfl (fun x2 => ?_)
  refine r_q (q_assign rfl rfl) rfl rfl ?_
  refine r_nil ?_
  refine j_then ?_
  refine j_seq ?_
  refine j_seq ?_
  refine j_region ?_
  refine r_q (q_loadb_agg 1 rfl ag27 sz27 rfl rfl rfl rfl) rfl rfl ?_
  obtain ⟨v1, hb1, h⟩ := of_b1 h
  refine r_do (a_call ok63 rfl rfl rfl rfl (fun w hm => spec_HeapValid.calls K a0_0 a0_0_A a0_0_n a0_0_c a0_1 a0_1_A a0_1_n a0_1_c a0_2 a0_2_A a0_2_n a0_2_c hm a0_0_h (Rd.drop 2 a0_0_R) a0_1_h (Rd.drop 2 a0_1_R) a0_2_h (Rd.drop 2 a0_2_R) hb1)) rfl rfl (fun x3 => ?_)
  refine r_q (q_not rfl rfl) rfl rfl ?_
  refine r_nil ?_
  refine j_then ?_
  rcases of_if h with ⟨c1, h⟩ | ⟨c1, h⟩
  · refine j_false rfl (not_f c1) ?_
    refine j_skip ?_
    refine j_then ?_
    refine j_seq ?_
    refine j_region ?_
    refine r_q (q_loadb_agg 1 rfl ag27 sz27 rfl rfl rfl rfl) rfl rfl ?_
    refine r_q (q_fieldAddr fi27_2 sz25 rfl rfl rfl) rfl rfl ?_
    refine r_q (q_loadb 1 rfl ag25 rfl rfl rfl) rfl rfl ?_
    obtain ⟨v2, hb2, h⟩ := of_b1 h
    refine r_do (a_call ok99 rfl rfl rfl rfl (fun w hm => spec_l2Distances.calls K a0_0 a0_0_A a0_0_n a0_0_c a0_1 a0_1_A a0_1_n a0_1_c a0_2_A a0_2_n a0_2_c a0_2 a0_2_A a0_2_n a0_2_c hm a0_0_h (Rd.drop 2 a0_0_R) a0_1_h (Rd.drop 2 a0_1_R) a0_2_h (Rd.drop 2 a0_2_R) hb2)) rfl rfl (fun x4 => ?_)
    refine r_q (q_assign rfl rfl) rfl rfl ?_
    refine r_nil ?_
    refine j_then ?_
    refine j_seq ?_
    refine j_seq ?_
    refine j_region ?_
    refine r_q (q_assign rfl rfl) rfl rfl ?_
    refine r_nil ?_
    refine j_then ?_
    obtain ⟨κ0, h, hκ0⟩ := ex_k (g := fun κ => spec_Reachable.loop0 K κ v2 K ([] : List Bool) (0:Int) = some r1) h
    refine j_cut (σ := (Option Addr) × Nat × Nat × (List Bool)) (fun s => [(3, (.slice s.1 s.2.1 s.2.2.1))]) (fun s => .row s.1 s.2.2.1 4 1 (bls s.2.2.2) :: F) (fun s => κ0 s.2.2.2 = some r1 ∧ (s.2.2.2.length = s.2.1)) ?_ ?_
    · refine j_block ?_
      refine j_loop (σ := (Option Addr) × Nat × Nat × (List Bool) × Int) (fun s => [(3, (.slice s.1 s.2.1 s.2.2.1)), (4, (.slice x4.A x4.n x4.c)), (5, (i6 s.2.2.2.2))]) (fun s => .row x4.A x4.c 3 1 (ii v2) :: .row s.1 s.2.2.1 4 1 (bls s.2.2.2.1) :: F) (fun m s => spec_Reachable.loop0 K κ0 v2 m s.2.2.2.1 s.2.2.2.2 = some r1 ∧ (s.2.2.2.1.length = s.2.1)) K (x2, 0, 0, ([] : List Bool), (0:Int)) ⟨h, rfl⟩ (fun a he => he.sub ⟨rfl, rfl, rfl, trivial⟩) (fun w h => h.pick 3 [0, 1] rfl) ?_
      rintro m ⟨A2, n2, d2, l2, p2⟩ ⟨h, q2⟩
      cases m with
      | zero => exact absurd h (by rw [spec_Reachable.loop0]; exact nofun)
      | succ m =>
        rw [spec_Reachable.loop0] at h
        show J _ _ [(3, (.slice A2 n2 d2)), (4, (.slice x4.A x4.n x4.c)), (5, (i6 p2))] _ (.row x4.A x4.c 3 1 (ii v2) :: .row A2 d2 4 1 (bls l2) :: F)
        refine j_seq ?_
        refine j_seq ?_
        refine j_region ?_
        refine r_q (q_move rfl rfl) rfl rfl ?_
        refine r_q (q_move rfl rfl) rfl rfl ?_
        refine r_q (q_lenX v2 x4.h un25 rfl rfl rfl rfl rfl) rfl rfl ?_
        refine r_q (q_lss rfl rfl rfl) rfl rfl ?_
        refine r_nil ?_
        refine j_then ?_
        rcases of_if h with ⟨c11, h⟩ | ⟨c11, h⟩
        · refine j_true rfl (decide_eq_true c11) ?_
          refine j_skip ?_
          refine j_then ?_
          refine j_seq ?_
          refine j_block ?_
          refine j_region ?_
          refine r_q (q_move rfl rfl) rfl rfl ?_
          refine r_q (q_move rfl rfl) rfl rfl ?_
          refine r_q (q_move rfl rfl) rfl rfl ?_
          obtain ⟨c12, h⟩ := of_guard h
          refine r_q (q_ix (Rd.row 0 rfl) (ints_len1 _ v2) (by decide) x4.h c12 un25 sz3 rfl rfl rfl) rfl rfl ?_
          refine r_q (q_ldI (Rd.row 0 rfl) c12 ag3 rfl rfl) rfl rfl ?_
          refine r_q (q_gtr rfl rfl rfl) rfl rfl ?_
          refine r_do (a_litX (vs := [(.bool (decide ((rd v2 p2) > (0:Int))))]) (bls ([(decide ((rd v2 p2) > (0:Int)))] : List Bool)) un52 sz4 zr4 rfl rfl rfl rfl rfl rfl rfl rfl rfl) rfl rfl (fun x5 => ?_)
          obtain ⟨c13, h⟩ := of_guard h
          refine r_do (a_appB (xs := l2) (ys := ([(decide ((rd v2 p2) > (0:Int)))] : List Bool)) 2 un52 un52 sz4 by4 zr4 rfl rfl rfl rfl rfl rfl rfl rfl rfl q2 rfl (Rd.row 0 rfl) c13) rfl rfl (fun x6 => ?_)
          refine j_s2 ?_
          refine r_q (q_assign rfl rfl) rfl rfl ?_
          refine r_nil ?_
          refine j_in ?_
          refine j_then ?_
          refine j_region ?_
          refine r_q (q_move rfl rfl) rfl rfl ?_
          refine r_q (q_add rfl rfl rfl) rfl rfl ?_
          refine r_q (q_assign rfl rfl) rfl rfl ?_
          refine r_nil ?_
          refine j_then ?_
          exact j_again m (x6.1, (n2 + 1), x6.2, (l2 ++ ([(decide ((rd v2 p2) > (0:Int)))] : List Bool)), (wrap64 (p2 + (1:Int)))) (Nat.lt_succ_self m) ⟨h, (app_len q2 rfl)⟩ (fun a he => he.sub ⟨rfl, rfl, rfl, trivial⟩) (fun w h => h.tail)
        · refine j_false rfl (decide_eq_false c11) ?_
          refine j_exit ?_
          refine j_then_exit ?_
          refine j_then_exit ?_
          refine j_in_exit ?_
          refine j_then ?_
          exact j_meet (A2, n2, d2, l2) ⟨h, q2⟩ (fun a he => he.sub ⟨rfl, trivial⟩) (fun w h => h.tail)
    · rintro ⟨A3, n3, d3, l3⟩ ⟨h, q3⟩
      subst hκ0
      show J _ _ [(3, (.slice A3 n3 d3))] _ (.row A3 d3 4 1 (bls l3) :: F)
      refine j_then ?_
      refine j_seq ?_
      refine j_region ?_
      refine r_q (q_move rfl rfl) rfl rfl ?_
      refine r_q (q_assign rfl rfl) rfl rfl ?_
      refine r_nil ?_
      refine j_then ?_
      refine j_ret ?_
      cases h
      exact j_return rfl (ResOf.tmp rfl ResOf.nil) rfl (fun w h => ⟨⟨A3, n3, d3, q3⟩, rfl, h⟩)
  · refine j_true rfl (not_t (var_f c1)) ?_
    refine j_seq ?_
    refine j_region ?_
    refine r_q (q_move rfl rfl) rfl rfl ?_
    refine r_q (q_assign rfl rfl) rfl rfl ?_
    refine r_nil ?_
    refine j_then ?_
    refine j_ret ?_
    refine j_then_ret ?_
    cases h
    exact j_return rfl (ResOf.tmp rfl ResOf.nil) rfl (fun w h => ⟨⟨x2, 0, 0, rfl⟩, rfl, h.pick 2 [0] rfl⟩)

theorem spec_GarbageOf.calls (K : Nat) (a0_0 : List Int) (a0_0_A : Option Addr) (a0_0_n a0_0_c : Nat) (a0_1 : List Int) (a0_1_A : Option Addr) (a0_1_n a0_1_c : Nat) (a0_2 : List Int) (a0_2_A : Option Addr) (a0_2_n a0_2_c : Nat) {w0 w : World} {F : List Res} {r1 : List Int} (hm : Mem w0 (F) w) (a0_0_h : a0_0.length = a0_0_n) (a0_0_R : Rd w0 F a0_0_A (ii a0_0)) (a0_1_h : a0_1.length = a0_1_n) (a0_1_R : Rd w0 F a0_1_A (ii a0_1)) (a0_2_h : a0_2.length = a0_2_n) (a0_2_R : Rd w0 F a0_2_A (ii a0_2)) (h : spec_GarbageOf.f K a0_0 a0_1 a0_2 = some r1) :
    Calls Try.prog 74 (List.toArray [.agg (List.toArray [.slice a0_0_A a0_0_n a0_0_c, .slice a0_1_A a0_1_n a0_1_c, .slice a0_2_A a0_2_n a0_2_c])]) w fun e w' => ∃ x : (Sl r1.length), e = .returned (.slice x.A x.n x.c) ∧ Mem w0 (.row x.A x.c 3 1 (ii r1) :: F) w' := by
  unfold spec_GarbageOf.f at h
  refine calls_of_J (n := 25) Try.func74 rfl rfl rfl hm ?_
  refine j_seq ?_
  refine j_region ?_
  refine r_do (a_box rfl rfl) rfl rfl (fun x1 => ?_)
  refine r_q (q_assign rfl rfl) rfl rfl ?_
  refine r_nil ?_
  refine j_then ?_
  refine j_seq ?_
  refine j_region ?_
  refine r_do (a_litX (vs := []) (ii ([] : List Int)) un25 sz3 zr3 rfl rfl rfl rfl rfl rfl rfl rfl rfl) rfl rfl (fun x2 => ?_)
  refine r_q (q_assign rfl rfl) rfl rfl ?_
  refine r_nil ?_
  refine j_then ?_
  refine j_seq ?_
  refine j_region ?_
  refine r_q (q_loadb_agg 1 rfl ag27 sz27 rfl rfl rfl rfl) rfl rfl ?_
  obtain ⟨v1, hb1, h⟩ := of_b1 h
  refine r_do (a_call ok93 rfl rfl rfl rfl (fun w hm => spec_Reachable.calls K a0_0 a0_0_A a0_0_n a0_0_c a0_1 a0_1_A a0_1_n a0_1_c a0_2 a0_2_A a0_2_n a0_2_c hm a0_0_h (Rd.drop 2 a0_0_R) a0_1_h (Rd.drop 2 a0_1_R) a0_2_h (Rd.drop 2 a0_2_R) hb1)) rfl rfl (fun x3 => ?_)
  refine r_q (q_assign rfl rfl) rfl rfl ?_
  refine r_nil ?_
  refine j_then ?_
  refine j_seq ?_
  refine j_seq ?_
  refine j_region ?_
  refine r_q (q_assign rfl rfl) rfl rfl ?_
  refine r_nil ?_
  refine j_then ?_
  obtain ⟨κ0, h, hκ0⟩ := ex_k (g := fun κ => spec_GarbageOf.loop0 K κ v1 K ([] : List Int) (0:Int) = some r1) h
  refine j_cut (σ := (Option Addr) × Nat × Nat × (List Int)) (fun s => [(3, (.slice s.1 s.2.1 s.2.2.1))]) (fun s => .row s.1 s.2.2.1 3 1 (ii s.2.2.2) :: F) (fun s => κ0 s.2.2.2 = some r1 ∧ (s.2.2.2.length = s.2.1)) ?_ ?_
  · refine j_block ?_
    refine j_loop (σ := (Option Addr) × Nat × Nat × (List Int) × Int) (fun s => [(3, (.slice s.1 s.2.1 s.2.2.1)), (4, (.slice x3.A x3.n x3.c)), (5, (i6 s.2.2.2.2))]) (fun s => .row x3.A x3.c 4 1 (bls v1) :: .row s.1 s.2.2.1 3 1 (ii s.2.2.2.1) :: F) (fun m s => spec_GarbageOf.loop0 K κ0 v1 m s.2.2.2.1 s.2.2.2.2 = some r1 ∧ (s.2.2.2.1.length = s.2.1)) K (x2, 0, 0, ([] : List Int), (0:Int)) ⟨h, rfl⟩ (fun a he => he.sub ⟨rfl, rfl, rfl, trivial⟩) (fun w h => h.pick 3 [0, 1] rfl) ?_
    rintro m ⟨A2, n2, d2, l2, p2⟩ ⟨h, q2⟩
    cases m with
    | zero => exact absurd h (by rw [spec_GarbageOf.loop0]; exact nofun)
    | succ m =>
      rw [spec_GarbageOf.loop0] at h
      show J _ _ [(3, (.slice A2 n2 d2)), (4, (.slice x3.A x3.n x3.c)), (5, (i6 p2))] _ (.row x3.A x3.c 4 1 (bls v1) :: .row A2 d2 3 1 (ii l2) :: F)
      refine j_seq ?_
      refine j_seq ?_
      refine j_region ?_
      refine r_q (q_move rfl rfl) rfl rfl ?_
      refine r_q (q_move rfl rfl) rfl rfl ?_
      refine r_q (q_lenX v1 x3.h un52 rfl rfl rfl rfl rfl) rfl rfl ?_
      refine r_q (q_lss rfl rfl rfl) rfl rfl ?_
      refine r_nil ?_
      refine j_then ?_
      rcases of_if h with ⟨c13, h⟩ | ⟨c13, h⟩
      · refine j_true rfl (decide_eq_true c13) ?_
        refine j_skip ?_
        refine j_then ?_
        refine j_seq ?_
        refine j_block ?_
        refine j_seq ?_
        refine j_region ?_
        refine r_q (q_move rfl rfl) rfl rfl ?_
        refine r_q (q_move rfl rfl) rfl rfl ?_
        obtain ⟨c14, h⟩ := of_guard h
        refine r_q (q_ix (Rd.row 0 rfl) (bls_len1 v1) (by decide) x3.h c14 un52 sz4 rfl rfl rfl) rfl rfl ?_
        refine r_q (q_ldB (Rd.row 0 rfl) c14 ag4 rfl rfl) rfl rfl ?_
        refine r_q (q_not rfl rfl) rfl rfl ?_
        refine r_nil ?_
        refine j_then ?_
        rcases of_if h with ⟨c15, h⟩ | ⟨c15, h⟩
        · refine j_false rfl (not_f c15) ?_
          refine j_skip ?_
          refine j_in ?_
          refine j_then ?_
          refine j_region ?_
          refine r_q (q_move rfl rfl) rfl rfl ?_
          refine r_q (q_add rfl rfl rfl) rfl rfl ?_
          refine r_q (q_assign rfl rfl) rfl rfl ?_
          refine r_nil ?_
          refine j_then ?_
          exact j_again m (A2, n2, d2, l2, (wrap64 (p2 + (1:Int)))) (Nat.lt_succ_self m) ⟨h, q2⟩ (fun a he => he.sub ⟨rfl, rfl, rfl, trivial⟩) (fun w h => h)
        · refine j_true rfl (not_t (var_f c15)) ?_
          refine j_region ?_
          refine r_q (q_move rfl rfl) rfl rfl ?_
          refine r_q (q_move rfl rfl) rfl rfl ?_
          refine r_do (a_litX (vs := [(i6 p2)]) (ii ([p2] : List Int)) un25 sz3 zr3 rfl rfl rfl rfl rfl rfl rfl rfl rfl) rfl rfl (fun x4 => ?_)
          obtain ⟨c16, h⟩ := of_guard h
          refine r_do (a_appI (xs := l2) (ys := ([p2] : List Int)) 2 un25 un25 sz3 by3 zr3 rfl rfl rfl rfl rfl rfl rfl rfl rfl q2 rfl (Rd.row 0 rfl) c16) rfl rfl (fun x5 => ?_)
          refine j_s2 ?_
          refine r_q (q_assign rfl rfl) rfl rfl ?_
          refine r_nil ?_
          refine j_in ?_
          refine j_then ?_
          refine j_region ?_
          refine r_q (q_move rfl rfl) rfl rfl ?_
          refine r_q (q_add rfl rfl rfl) rfl rfl ?_
          refine r_q (q_assign rfl rfl) rfl rfl ?_
          refine r_nil ?_
          refine j_then ?_
          exact j_again m (x5.1, (n2 + 1), x5.2, (l2 ++ ([p2] : List Int)), (wrap64 (p2 + (1:Int)))) (Nat.lt_succ_self m) ⟨h, (app_len q2 rfl)⟩ (fun a he => he.sub ⟨rfl, rfl, rfl, trivial⟩) (fun w h => h.tail)
      · refine j_false rfl (decide_eq_false c13) ?_
        refine j_exit ?_
        refine j_then_exit ?_
        refine j_then_exit ?_
        refine j_in_exit ?_
        refine j_then ?_
        exact j_meet (A2, n2, d2, l2) ⟨h, q2⟩ (fun a he => he.sub ⟨rfl, trivial⟩) (fun w h => h.tail)
  · rintro ⟨A3, n3, d3, l3⟩ ⟨h, q3⟩
    subst hκ0
    show J _ _ [(3, (.slice A3 n3 d3))] _ (.row A3 d3 3 1 (ii l3) :: F)
    refine j_then ?_
    refine j_seq ?_
    refine j_region ?_
    refine r_q (q_move rfl rfl) rfl rfl ?_
    refine r_q (q_assign rfl rfl) rfl rfl ?_
    refine r_nil ?_
    refine j_then ?_
    refine j_ret ?_
    cases h
    exact j_return rfl (ResOf.tmp rfl ResOf.nil) rfl (fun w h => ⟨⟨A3, n3, d3, q3⟩, rfl, h⟩)

theorem spec_LeakedOf.calls (K : Nat) (a0_0 : List Int) (a0_0_A : Option Addr) (a0_0_n a0_0_c : Nat) (a0_1 : List Int) (a0_1_A : Option Addr) (a0_1_n a0_1_c : Nat) (a0_2 : List Int) (a0_2_A : Option Addr) (a0_2_n a0_2_c : Nat) (a0_3 : List Int) (a0_3_A : Option Addr) (a0_3_n a0_3_c : Nat) {w0 w : World} {F : List Res} {r1 : List Int} (hm : Mem w0 (F) w) (a0_0_h : a0_0.length = a0_0_n) (a0_0_R : Rd w0 F a0_0_A (ii a0_0)) (a0_1_h : a0_1.length = a0_1_n) (a0_1_R : Rd w0 F a0_1_A (ii a0_1)) (a0_2_h : a0_2.length = a0_2_n) (a0_2_R : Rd w0 F a0_2_A (ii a0_2)) (a0_3_h : a0_3.length = a0_3_n) (a0_3_R : Rd w0 F a0_3_A (ii a0_3)) (a0_3_k : a0_3.length ≤ a0_3_c) (h : spec_LeakedOf.f K a0_0 a0_1 a0_2 a0_3 = some r1) :
    Calls Try.prog 30 (List.toArray [.agg (List.toArray [.slice a0_0_A a0_0_n a0_0_c, .slice a0_1_A a0_1_n a0_1_c, .slice a0_2_A a0_2_n a0_2_c, .slice a0_3_A a0_3_n a0_3_c])]) w fun e w' => ∃ x : (Sl r1.length), e = .returned (.slice x.A x.n x.c) ∧ Mem w0 (.row x.A x.c 3 1 (ii r1) :: F) w' := by
  unfold spec_LeakedOf.f at h
  refine calls_of_J (n := 36) Try.func30 rfl rfl rfl hm ?_
  refine j_seq ?_
  refine j_region ?_
  refine r_do (a_box rfl rfl) rfl rfl (fun x1 => ?_)
  refine r_q (q_assign rfl rfl) rfl rfl ?_
  refine r_nil ?_
  refine j_then ?_
  refine j_seq ?_
  refine j_region ?_
  refine r_do (a_litX (vs := []) (ii ([] : List Int)) un25 sz3 zr3 rfl rfl rfl rfl rfl rfl rfl rfl rfl) rfl rfl (fun x2 => ?_)
  refine r_q (q_assign rfl rfl) rfl rfl ?_
  refine r_nil ?_
  refine j_then ?_
  refine j_seq ?_
  refine j_seq ?_
  refine j_region ?_
  refine r_q (q_loadb_agg 1 rfl ag29 sz29 rfl rfl rfl rfl) rfl rfl ?_
  obtain ⟨v1, hb1, h⟩ := of_b1 h
  refine r_do (a_call ok23 rfl rfl rfl rfl (fun w hm => spec_StoreValid.calls K a0_0 a0_0_A a0_0_n a0_0_c a0_1 a0_1_A a0_1_n a0_1_c a0_2 a0_2_A a0_2_n a0_2_c a0_3 a0_3_A a0_3_n a0_3_c hm a0_0_h (Rd.drop 2 a0_0_R) a0_1_h (Rd.drop 2 a0_1_R) a0_2_h (Rd.drop 2 a0_2_R) a0_3_h (Rd.drop 2 a0_3_R) a0_3_k hb1)) rfl rfl (fun x3 => ?_)
  refine r_q (q_not rfl rfl) rfl rfl ?_
  refine r_nil ?_
  refine j_then ?_
  rcases of_if h with ⟨c1, h⟩ | ⟨c1, h⟩
  · refine j_false rfl (not_f c1) ?_
    refine j_skip ?_
    refine j_then ?_
    refine j_seq ?_
    refine j_region ?_
    refine r_q (q_fieldAddr fi29_0 sz27 rfl rfl rfl) rfl rfl ?_
    refine r_q (q_loadb_agg 1 rfl ag27 sz27 rfl rfl rfl rfl) rfl rfl ?_
    obtain ⟨v2, hb2, h⟩ := of_b1 h
    refine r_do (a_call ok74 rfl rfl rfl rfl (fun w hm => spec_GarbageOf.calls K a0_0 a0_0_A a0_0_n a0_0_c a0_1 a0_1_A a0_1_n a0_1_c a0_2 a0_2_A a0_2_n a0_2_c hm a0_0_h (Rd.drop 2 a0_0_R) a0_1_h (Rd.drop 2 a0_1_R) a0_2_h (Rd.drop 2 a0_2_R) hb2)) rfl rfl (fun x4 => ?_)
    refine r_q (q_assign rfl rfl) rfl rfl ?_
    refine r_nil ?_
    refine j_then ?_
    refine j_seq ?_
    refine j_seq ?_
    refine j_region ?_
    refine r_q (q_assign rfl rfl) rfl rfl ?_
    refine r_nil ?_
    refine j_then ?_
    obtain ⟨κ0, h, hκ0⟩ := ex_k (g := fun κ => spec_LeakedOf.loop0 K κ a0_3 v2 K ([] : List Int) (0:Int) = some r1) h
    refine j_cut (σ := (Option Addr) × Nat × Nat × (List Int)) (fun s => [(3, (.slice s.1 s.2.1 s.2.2.1))]) (fun s => .row s.1 s.2.2.1 3 1 (ii s.2.2.2) :: F) (fun s => κ0 s.2.2.2 = some r1 ∧ (s.2.2.2.length = s.2.1)) ?_ ?_
    · refine j_block ?_
      refine j_loop (σ := (Option Addr) × Nat × Nat × (List Int) × Int) (fun s => [(1, (pt x1)), (3, (.slice s.1 s.2.1 s.2.2.1)), (4, (.slice x4.A x4.n x4.c)), (5, (i6 s.2.2.2.2))]) (fun s => .box x1 29 [(.slice a0_0_A a0_0_n a0_0_c), (.slice a0_1_A a0_1_n a0_1_c), (.slice a0_2_A a0_2_n a0_2_c), (.slice a0_3_A a0_3_n a0_3_c)] :: .row x4.A x4.c 3 1 (ii v2) :: .row s.1 s.2.2.1 3 1 (ii s.2.2.2.1) :: F) (fun m s => spec_LeakedOf.loop0 K κ0 a0_3 v2 m s.2.2.2.1 s.2.2.2.2 = some r1 ∧ (s.2.2.2.1.length = s.2.1)) K (x2, 0, 0, ([] : List Int), (0:Int)) ⟨h, rfl⟩ (fun a he => he.sub ⟨rfl, rfl, rfl, rfl, trivial⟩) (fun w h => h.pick 3 [2, 0, 1] rfl) ?_
      rintro m ⟨A2, n2, d2, l2, p2⟩ ⟨h, q2⟩
      cases m with
      | zero => exact absurd h (by rw [spec_LeakedOf.loop0]; exact nofun)
      | succ m =>
        rw [spec_LeakedOf.loop0] at h
        show J _ _ [(1, (pt x1)), (3, (.slice A2 n2 d2)), (4, (.slice x4.A x4.n x4.c)), (5, (i6 p2))] _ (.box x1 29 [(.slice a0_0_A a0_0_n a0_0_c), (.slice a0_1_A a0_1_n a0_1_c), (.slice a0_2_A a0_2_n a0_2_c), (.slice a0_3_A a0_3_n a0_3_c)] :: .row x4.A x4.c 3 1 (ii v2) :: .row A2 d2 3 1 (ii l2) :: F)
        refine j_seq ?_
        refine j_seq ?_
        refine j_region ?_
        refine r_q (q_move rfl rfl) rfl rfl ?_
        refine r_q (q_move rfl rfl) rfl rfl ?_
        refine r_q (q_lenX v2 x4.h un25 rfl rfl rfl rfl rfl) rfl rfl ?_
        refine r_q (q_lss rfl rfl rfl) rfl rfl ?_
        refine r_nil ?_
        refine j_then ?_
        rcases of_if h with ⟨c14, h⟩ | ⟨c14, h⟩
        · refine j_true rfl (decide_eq_true c14) ?_
          refine j_skip ?_
          refine j_then ?_
          refine j_seq ?_
          refine j_block ?_
          refine j_seq ?_
          obtain ⟨c15, h⟩ := of_guard h
          obtain ⟨v6, hb6, h⟩ := of_b1 h
          refine j_draw (.box x1 29 [(.slice a0_0_A a0_0_n a0_0_c), (.slice a0_1_A a0_1_n a0_1_c), (.slice a0_2_A a0_2_n a0_2_c), (.slice a0_3_A a0_3_n a0_3_c)] :: .row x4.A x4.c 3 1 (ii v2) :: .row A2 d2 3 1 (ii l2) :: F) 8 follows_any rfl ?_
          refine d_take 0 rfl (q_fieldAddr fi29_1 sz25 rfl rfl rfl) rfl rfl (by kernel_rfl) (by kernel_rfl) (by kernel_rfl) (fun w h => h) ?_
          refine d_take 1 rfl (q_loadb 0 rfl ag25 rfl rfl rfl) rfl rfl (by kernel_rfl) (by kernel_rfl) (by kernel_rfl) (fun w h => h) ?_
          refine d_take 2 rfl (q_move rfl rfl) rfl rfl (by kernel_rfl) (by kernel_rfl) (by kernel_rfl) (fun w h => h) ?_
          refine d_take 3 rfl (q_move rfl rfl) rfl rfl (by kernel_rfl) (by kernel_rfl) (by kernel_rfl) (fun w h => h) ?_
          refine d_take 4 rfl (q_ix (Rd.row 1 rfl) (ints_len1 _ v2) (by decide) x4.h c15 un25 sz3 rfl rfl rfl) rfl rfl (by kernel_rfl) (by kernel_rfl) (by kernel_rfl) (fun w h => h) ?_
          refine d_take 5 rfl (q_ldI (Rd.row 1 rfl) c15 ag3 rfl rfl) rfl rfl (by kernel_rfl) (by kernel_rfl) (by kernel_rfl) (fun w h => h) ?_
          refine d_one 6 (by kernel_rfl) ?_
          refine o_do rfl (a_call ok65 rfl rfl rfl rfl (fun w hm => spec_l4At.calls K a0_3 a0_3_A a0_3_n a0_3_c (rd v2 p2) hm a0_3_h (Rd.drop 3 a0_3_R) hb6)) rfl rfl (fun x5 w h => h) (fun x5 => ?_)
          refine d_take 7 rfl (q_lss rfl rfl rfl) rfl rfl (by kernel_rfl) (by kernel_rfl) (by kernel_rfl) (fun w h => h) ?_
          refine d_done (by kernel_rfl) ?_
          refine j_then ?_
          rcases of_if h with ⟨c16, h⟩ | ⟨c16, h⟩
          · refine j_true rfl (decide_eq_true c16) ?_
            refine j_region ?_
            refine r_q (q_move rfl rfl) rfl rfl ?_
            refine r_q (q_move rfl rfl) rfl rfl ?_
            refine r_q (q_move rfl rfl) rfl rfl ?_
            refine r_q (q_ix (Rd.row 1 rfl) (ints_len1 _ v2) (by decide) x4.h c15 un25 sz3 rfl rfl rfl) rfl rfl ?_
            refine r_q (q_ldI (Rd.row 1 rfl) c15 ag3 rfl rfl) rfl rfl ?_
            refine r_do (a_litX (vs := [(i6 (rd v2 p2))]) (ii ([(rd v2 p2)] : List Int)) un25 sz3 zr3 rfl rfl rfl rfl rfl rfl rfl rfl rfl) rfl rfl (fun x6 => ?_)
            obtain ⟨c17, h⟩ := of_guard h
            refine r_do (a_appI (xs := l2) (ys := ([(rd v2 p2)] : List Int)) 3 un25 un25 sz3 by3 zr3 rfl rfl rfl rfl rfl rfl rfl rfl rfl q2 rfl (Rd.row 0 rfl) c17) rfl rfl (fun x7 => ?_)
            refine j_s3 ?_
            refine r_q (q_assign rfl rfl) rfl rfl ?_
            refine r_nil ?_
            refine j_in ?_
            refine j_then ?_
            refine j_region ?_
            refine r_q (q_move rfl rfl) rfl rfl ?_
            refine r_q (q_add rfl rfl rfl) rfl rfl ?_
            refine r_q (q_assign rfl rfl) rfl rfl ?_
            refine r_nil ?_
            refine j_then ?_
            exact j_again m (x7.1, (n2 + 1), x7.2, (l2 ++ ([(rd v2 p2)] : List Int)), (wrap64 (p2 + (1:Int)))) (Nat.lt_succ_self m) ⟨h, (app_len q2 rfl)⟩ (fun a he => he.sub ⟨rfl, rfl, rfl, rfl, trivial⟩) (fun w h => h.tail)
          · refine j_false rfl (decide_eq_false c16) ?_
            refine j_skip ?_
            refine j_in ?_
            refine j_then ?_
            refine j_region ?_
            refine r_q (q_move rfl rfl) rfl rfl ?_
            refine r_q (q_add rfl rfl rfl) rfl rfl ?_
            refine r_q (q_assign rfl rfl) rfl rfl ?_
            refine r_nil ?_
            refine j_then ?_
            exact j_again m (A2, n2, d2, l2, (wrap64 (p2 + (1:Int)))) (Nat.lt_succ_self m) ⟨h, q2⟩ (fun a he => he.sub ⟨rfl, rfl, rfl, rfl, trivial⟩) (fun w h => h)
        · refine j_false rfl (decide_eq_false c14) ?_
          refine j_exit ?_
          refine j_then_exit ?_
          refine j_then_exit ?_
          refine j_in_exit ?_
          refine j_then ?_
          exact j_meet (A2, n2, d2, l2) ⟨h, q2⟩ (fun a he => he.sub ⟨rfl, trivial⟩) (fun w h => (h.drop 2))
    · rintro ⟨A3, n3, d3, l3⟩ ⟨h, q3⟩
      subst hκ0
      show J _ _ [(3, (.slice A3 n3 d3))] _ (.row A3 d3 3 1 (ii l3) :: F)
      refine j_then ?_
      refine j_seq ?_
      refine j_region ?_
      refine r_q (q_move rfl rfl) rfl rfl ?_
      refine r_q (q_assign rfl rfl) rfl rfl ?_
      refine r_nil ?_
      refine j_then ?_
      refine j_ret ?_
      cases h
      exact j_return rfl (ResOf.tmp rfl ResOf.nil) rfl (fun w h => ⟨⟨A3, n3, d3, q3⟩, rfl, h⟩)
  · refine j_true rfl (not_t (var_f c1)) ?_
    refine j_seq ?_
    refine j_region ?_
    refine r_q (q_move rfl rfl) rfl rfl ?_
    refine r_q (q_assign rfl rfl) rfl rfl ?_
    refine r_nil ?_
    refine j_then ?_
    refine j_ret ?_
    refine j_then_ret ?_
    cases h
    exact j_return rfl (ResOf.tmp rfl ResOf.nil) rfl (fun w h => ⟨⟨x2, 0, 0, rfl⟩, rfl, h.pick 2 [0] rfl⟩)

end Go.Proofs.Ytigidjhdcplplaa.F
