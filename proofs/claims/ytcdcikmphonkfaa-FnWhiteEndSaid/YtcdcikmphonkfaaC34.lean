/- The program computes these pure functions, printed by the generator of wip/gen. -/
import Derived.Test.YtcdcikmphonkfaaFa
import Derived.Test.YtcdcikmphonkfaaFi
import Derived.Test.YtcdcikmphonkfaaFb
import Derived.Test.YtcdcikmphonkfaaC0
import Derived.Test.YtcdcikmphonkfaaC1
import Derived.Test.YtcdcikmphonkfaaC2
import Derived.Test.YtcdcikmphonkfaaC3
import Derived.Test.YtcdcikmphonkfaaC4
import Derived.Test.YtcdcikmphonkfaaC6
import Derived.Test.YtcdcikmphonkfaaC7
import Derived.Test.YtcdcikmphonkfaaC8
import Derived.Test.YtcdcikmphonkfaaC11
import Derived.Test.YtcdcikmphonkfaaC13
import Derived.Test.YtcdcikmphonkfaaC14
import Derived.Test.YtcdcikmphonkfaaC19
import Derived.Test.YtcdcikmphonkfaaC20
namespace Go.Proofs.Ytcdcikmphonkfaa.F
open Go Go.RowKit Go.Proofs.Ytcdcikmphonkfaa.S
set_option linter.unusedVariables false
set_option maxRecDepth 100000
theorem impl_SourcesOf.calls (K : Nat) (a0_0 : List Int) (a0_0_A : Option Addr) (a0_0_n a0_0_c : Nat) (a0_1 : List Int) (a0_1_A : Option Addr) (a0_1_n a0_1_c : Nat) (a0_2 : List Int) (a0_2_A : Option Addr) (a0_2_n a0_2_c : Nat) (a1 : Int) {w0 w : World} {F : List Res} {r1 : List Int} (hm : Mem w0 (F) w) (a0_0_h : a0_0.length = a0_0_n) (a0_0_R : Rd w0 F a0_0_A (ii a0_0)) (a0_1_h : a0_1.length = a0_1_n) (a0_1_R : Rd w0 F a0_1_A (ii a0_1)) (a0_2_h : a0_2.length = a0_2_n) (a0_2_R : Rd w0 F a0_2_A (ii a0_2)) (h : impl_SourcesOf.f K a0_0 a0_1 a0_2 a1 = some r1) :
    Calls Try.prog 33 (List.toArray [.agg (List.toArray [.slice a0_0_A a0_0_n a0_0_c, .slice a0_1_A a0_1_n a0_1_c, .slice a0_2_A a0_2_n a0_2_c]), i6 a1]) w fun e w' => ∃ x : (Sl r1.length), e = .returned (.slice x.A x.n x.c) ∧ Mem w0 (.row x.A x.c 3 1 (ii r1) :: F) w' := by
  unfold impl_SourcesOf.f at h
  refine calls_of_J (n := 40) Try.func33 rfl rfl rfl hm ?_
  refine j_seq ?_
  refine j_region ?_
  refine r_do (a_box rfl rfl) rfl rfl (fun x1 => ?_)
  refine r_q (q_assign rfl rfl) rfl rfl ?_
  refine r_nil ?_
  refine j_then ?_
  refine j_seq ?_
  refine j_seq ?_
  refine j_region ?_
  refine r_q (q_loadb_agg 0 rfl ag25 sz25 rfl rfl rfl rfl) rfl rfl ?_
  refine r_q (q_move rfl rfl) rfl rfl ?_
  obtain ⟨v1, hb1, h⟩ := of_b1 h
  refine r_do (a_call ok56 rfl rfl rfl rfl (fun w hm => impl_has.calls K a0_0 a0_0_A a0_0_n a0_0_c a0_1 a0_1_A a0_1_n a0_1_c a0_2 a0_2_A a0_2_n a0_2_c a1 hm a0_0_h (Rd.drop 1 a0_0_R) a0_1_h (Rd.drop 1 a0_1_R) a0_2_h (Rd.drop 1 a0_2_R) hb1)) rfl rfl (fun x2 => ?_)
  refine r_q (q_not rfl rfl) rfl rfl ?_
  refine r_nil ?_
  refine j_then ?_
  rcases of_if h with ⟨c1, h⟩ | ⟨c1, h⟩
  · refine j_false rfl (not_f c1) ?_
    refine j_skip ?_
    refine j_then ?_
    refine j_seq ?_
    refine j_region ?_
    refine r_do (a_litX (vs := []) (ii ([] : List Int)) un23 sz3 zr3 rfl rfl rfl rfl rfl rfl rfl rfl rfl) rfl rfl (fun x3 => ?_)
    refine r_q (q_assign rfl rfl) rfl rfl ?_
    refine r_nil ?_
    refine j_then ?_
    refine j_seq ?_
    refine j_seq ?_
    refine j_region ?_
    refine r_q (q_fieldAddr fi25_0 sz23 rfl rfl rfl) rfl rfl ?_
    refine r_q (q_loadb 1 rfl ag23 rfl rfl rfl) rfl rfl ?_
    refine r_q (q_lenX a0_0 a0_0_h un23 rfl rfl rfl rfl rfl) rfl rfl ?_
    refine r_q (q_move rfl rfl) rfl rfl ?_
    refine r_nil ?_
    refine j_then ?_
    obtain ⟨κ0, h, hκ0⟩ := ex_k (g := fun κ => impl_SourcesOf.loop0 K κ a0_0 a0_1 a1 K ([] : List Int) (0:Int) = some r1) h
    refine j_cut (σ := (Option Addr) × Nat × Nat × (List Int)) (fun s => [(5, (.slice s.1 s.2.1 s.2.2.1))]) (fun s => .row s.1 s.2.2.1 3 1 (ii s.2.2.2) :: F) (fun s => κ0 s.2.2.2 = some r1 ∧ (s.2.2.2.length = s.2.1)) ?_ ?_
    · refine j_block ?_
      refine j_loop (σ := (Option Addr) × Nat × Nat × (List Int) × Int) (fun s => [(1, (i6 a1)), (2, (pt x1)), (5, (.slice s.1 s.2.1 s.2.2.1)), (14, (i6 (a0_0.length : Int))), (15, (i6 s.2.2.2.2))]) (fun s => .box x1 25 [(.slice a0_0_A a0_0_n a0_0_c), (.slice a0_1_A a0_1_n a0_1_c), (.slice a0_2_A a0_2_n a0_2_c)] :: .row s.1 s.2.2.1 3 1 (ii s.2.2.2.1) :: F) (fun m s => impl_SourcesOf.loop0 K κ0 a0_0 a0_1 a1 m s.2.2.2.1 s.2.2.2.2 = some r1 ∧ (s.2.2.2.1.length = s.2.1)) K (x3, 0, 0, ([] : List Int), (0:Int)) ⟨h, rfl⟩ (fun a he => he.sub ⟨rfl, rfl, rfl, rfl, rfl, trivial⟩) (fun w h => h.pick 2 [1, 0] rfl) ?_
      rintro m ⟨A2, n2, d2, l2, p2⟩ ⟨h, q2⟩
      cases m with
      | zero => exact absurd h (by rw [impl_SourcesOf.loop0]; exact nofun)
      | succ m =>
        rw [impl_SourcesOf.loop0] at h
        show J _ _ [(1, (i6 a1)), (2, (pt x1)), (5, (.slice A2 n2 d2)), (14, (i6 (a0_0.length : Int))), (15, (i6 p2))] _ (.box x1 25 [(.slice a0_0_A a0_0_n a0_0_c), (.slice a0_1_A a0_1_n a0_1_c), (.slice a0_2_A a0_2_n a0_2_c)] :: .row A2 d2 3 1 (ii l2) :: F)
        refine j_seq ?_
        refine j_region ?_
        refine r_q (q_lss rfl rfl rfl) rfl rfl ?_
        refine r_nil ?_
        refine j_then ?_
        refine j_seq ?_
        rcases of_if h with ⟨c23, h⟩ | ⟨c23, h⟩
        · refine j_true rfl (decide_eq_true c23) ?_
          refine j_skip ?_
          refine j_then ?_
          refine j_seq ?_
          refine j_block ?_
          refine j_seq ?_
          refine j_region ?_
          refine r_q (q_move rfl rfl) rfl rfl ?_
          refine r_q (q_assign rfl rfl) rfl rfl ?_
          refine r_nil ?_
          refine j_then ?_
          refine j_seq ?_
          refine j_region ?_
          refine r_q (q_fieldAddr fi25_0 sz23 rfl rfl rfl) rfl rfl ?_
          refine r_q (q_loadb 0 rfl ag23 rfl rfl rfl) rfl rfl ?_
          refine r_q (q_move rfl rfl) rfl rfl ?_
          obtain ⟨c24, h⟩ := of_guard h
          refine r_q (q_ix (Rd.drop 2 a0_0_R) (ints_len1 _ a0_0) (by decide) a0_0_h c24 un23 sz3 rfl rfl rfl) rfl rfl ?_
          refine r_q (q_ldI (Rd.drop 2 a0_0_R) c24 ag3 rfl rfl) rfl rfl ?_
          refine r_q (q_move rfl rfl) rfl rfl ?_
          refine r_q (q_eql rfl rfl rfl) rfl rfl ?_
          refine r_q (q_move rfl rfl) rfl rfl ?_
          rcases of_if h with ⟨c25, h⟩ | ⟨c25, h⟩
          · refine r_off rfl rfl rfl rfl (beq_t c25) rfl ?_
            refine r_off rfl rfl rfl rfl (beq_t c25) rfl ?_
            refine r_off rfl rfl rfl rfl (beq_t c25) rfl ?_
            refine r_off rfl rfl rfl rfl (beq_t c25) rfl ?_
            refine r_off rfl rfl rfl rfl (beq_t c25) rfl ?_
            refine r_off rfl rfl rfl rfl (beq_t c25) rfl ?_
            refine r_off rfl rfl rfl rfl (beq_t c25) rfl ?_
            refine r_q (q_pick_t rfl rfl (beq_t c25) rfl) rfl rfl ?_
            refine r_nil ?_
            refine j_then ?_
            refine j_true rfl rfl ?_
            refine j_region ?_
            refine r_q (q_move rfl rfl) rfl rfl ?_
            refine r_q (q_move rfl rfl) rfl rfl ?_
            refine r_do (a_litX (vs := [(i6 p2)]) (ii ([p2] : List Int)) un23 sz3 zr3 rfl rfl rfl rfl rfl rfl rfl rfl rfl) rfl rfl (fun x4 => ?_)
            obtain ⟨c26, h⟩ := of_guard h
            refine r_do (a_appI (xs := l2) (ys := ([p2] : List Int)) 2 un23 un23 sz3 by3 zr3 rfl rfl rfl rfl rfl rfl rfl rfl rfl q2 rfl (Rd.row 0 rfl) c26) rfl rfl (fun x5 => ?_)
            refine j_s2 ?_
            refine r_q (q_assign rfl rfl) rfl rfl ?_
            refine r_nil ?_
            refine j_in ?_
            refine j_then ?_
            refine j_region ?_
            refine r_q (q_add rfl rfl rfl) rfl rfl ?_
            refine r_q (q_move rfl rfl) rfl rfl ?_
            refine r_nil ?_
            refine j_then ?_
            exact j_again m (x5.1, (n2 + 1), x5.2, (l2 ++ ([p2] : List Int)), (wrap64 (p2 + (1:Int)))) (Nat.lt_succ_self m) ⟨h, (app_len q2 rfl)⟩ (fun a he => he.sub ⟨rfl, rfl, rfl, rfl, rfl, trivial⟩) (fun w h => h.tail)
          · refine r_qon (q_fieldAddr fi25_1 sz23 rfl rfl rfl) rfl rfl rfl rfl (beq_f c25) rfl ?_
            refine r_qon (q_loadb 0 rfl ag23 rfl rfl rfl) rfl rfl rfl rfl (beq_f c25) rfl ?_
            refine r_qon (q_move rfl rfl) rfl rfl rfl rfl (beq_f c25) rfl ?_
            obtain ⟨c27, h⟩ := of_guard h
            refine r_qon (q_ix (Rd.drop 2 a0_1_R) (ints_len1 _ a0_1) (by decide) a0_1_h c27 un23 sz3 rfl rfl rfl) rfl rfl rfl rfl (beq_f c25) rfl ?_
            refine r_qon (q_ldI (Rd.drop 2 a0_1_R) c27 ag3 rfl rfl) rfl rfl rfl rfl (beq_f c25) rfl ?_
            refine r_qon (q_move rfl rfl) rfl rfl rfl rfl (beq_f c25) rfl ?_
            refine r_qon (q_eql rfl rfl rfl) rfl rfl rfl rfl (beq_f c25) rfl ?_
            refine r_q (q_pick_f rfl rfl (beq_f c25) rfl) rfl rfl ?_
            refine r_nil ?_
            refine j_then ?_
            rcases of_if h with ⟨c28, h⟩ | ⟨c28, h⟩
            · refine j_true rfl (beq_t c28) ?_
              refine j_region ?_
              refine r_q (q_move rfl rfl) rfl rfl ?_
              refine r_q (q_move rfl rfl) rfl rfl ?_
              refine r_do (a_litX (vs := [(i6 p2)]) (ii ([p2] : List Int)) un23 sz3 zr3 rfl rfl rfl rfl rfl rfl rfl rfl rfl) rfl rfl (fun x4 => ?_)
              obtain ⟨c29, h⟩ := of_guard h
              refine r_do (a_appI (xs := l2) (ys := ([p2] : List Int)) 2 un23 un23 sz3 by3 zr3 rfl rfl rfl rfl rfl rfl rfl rfl rfl q2 rfl (Rd.row 0 rfl) c29) rfl rfl (fun x5 => ?_)
              refine j_s2 ?_
              refine r_q (q_assign rfl rfl) rfl rfl ?_
              refine r_nil ?_
              refine j_in ?_
              refine j_then ?_
              refine j_region ?_
              refine r_q (q_add rfl rfl rfl) rfl rfl ?_
              refine r_q (q_move rfl rfl) rfl rfl ?_
              refine r_nil ?_
              refine j_then ?_
              exact j_again m (x5.1, (n2 + 1), x5.2, (l2 ++ ([p2] : List Int)), (wrap64 (p2 + (1:Int)))) (Nat.lt_succ_self m) ⟨h, (app_len q2 rfl)⟩ (fun a he => he.sub ⟨rfl, rfl, rfl, rfl, rfl, trivial⟩) (fun w h => h.tail)
            · refine j_false rfl (beq_f c28) ?_
              refine j_skip ?_
              refine j_in ?_
              refine j_then ?_
              refine j_region ?_
              refine r_q (q_add rfl rfl rfl) rfl rfl ?_
              refine r_q (q_move rfl rfl) rfl rfl ?_
              refine r_nil ?_
              refine j_then ?_
              exact j_again m (A2, n2, d2, l2, (wrap64 (p2 + (1:Int)))) (Nat.lt_succ_self m) ⟨h, q2⟩ (fun a he => he.sub ⟨rfl, rfl, rfl, rfl, rfl, trivial⟩) (fun w h => h)
        · refine j_false rfl (decide_eq_false c23) ?_
          refine j_exit ?_
          refine j_then_exit ?_
          refine j_then_exit ?_
          refine j_in_exit ?_
          refine j_then ?_
          exact j_meet (A2, n2, d2, l2) ⟨h, q2⟩ (fun a he => he.sub ⟨rfl, trivial⟩) (fun w h => h.tail)
    · rintro ⟨A3, n3, d3, l3⟩ ⟨h, q3⟩
      subst hκ0
      show J _ _ [(5, (.slice A3 n3 d3))] _ (.row A3 d3 3 1 (ii l3) :: F)
      refine j_then ?_
      refine j_seq ?_
      refine j_region ?_
      refine r_q (q_move rfl rfl) rfl rfl ?_
      refine r_q (q_assign rfl rfl) rfl rfl ?_
      refine r_nil ?_
      refine j_then ?_
      refine j_ret ?_
      cases h
      exact j_return rfl (ResOf.tmp rfl ResOf.nil) rfl (fun w h => ⟨⟨A3, n3, d3, q3⟩, rfl, h⟩)
  · refine j_true rfl (not_t (var_f c1)) ?_
    refine j_seq ?_
    refine j_region ?_
    refine r_q (q_assign rfl rfl) rfl rfl ?_
    refine r_nil ?_
    refine j_then ?_
    refine j_ret ?_
    refine j_then_ret ?_
    refine j_nil 3 1 ?_
    cases h
    exact j_return rfl (ResOf.tmp rfl ResOf.nil) rfl (fun w h => ⟨⟨none, 0, 0, rfl⟩, rfl, h.pick 2 [0] rfl⟩)

theorem laws_FnWhiteEnd.calls (K : Nat) (a0 : List Int) (a0_A : Option Addr) (a0_n a0_c : Nat) {w0 w : World} {F : List Res} {r1 : Bool} (hm : Mem w0 (F) w) (a0_h : a0.length = a0_n) (a0_R : Rd w0 F a0_A (ints .u8 a0)) (a0_k : a0.length ≤ a0_c) (h : laws_FnWhiteEnd.f K a0 = some r1) :
    Calls Try.prog 9 (List.toArray [.slice a0_A a0_n a0_c]) w fun e w' => ∃ x : Unit, e = .returned (.bool r1) ∧ Mem w0 (F) w' := by
  unfold laws_FnWhiteEnd.f at h
  refine calls_of_J (n := 86) Try.func9 rfl rfl rfl hm ?_
  refine j_seq ?_
  refine j_region ?_
  refine r_q (q_assign rfl rfl) rfl rfl ?_
  refine r_nil ?_
  refine j_then ?_
  refine j_seq ?_
  refine j_seq ?_
  refine j_region ?_
  refine r_q (q_move rfl rfl) rfl rfl ?_
  refine r_q (q_lenX a0 a0_h un22 rfl rfl rfl rfl rfl) rfl rfl ?_
  refine r_q (q_gtr rfl rfl rfl) rfl rfl ?_
  refine r_nil ?_
  refine j_then ?_
  rcases of_if h with ⟨c1, h⟩ | ⟨c1, h⟩
  · refine j_true rfl (decide_eq_true c1) ?_
    refine j_seq ?_
    refine j_region ?_
    refine r_q (q_assign rfl rfl) rfl rfl ?_
    refine r_nil ?_
    refine j_then ?_
    refine j_ret ?_
    refine j_then_ret ?_
    cases h
    exact j_return rfl (ResOf.tmp rfl ResOf.nil) rfl (fun w h => ⟨(), rfl, h⟩)
  · refine j_false rfl (decide_eq_false c1) ?_
    refine j_skip ?_
    refine j_then ?_
    refine j_seq ?_
    refine j_region ?_
    refine r_q (q_move rfl rfl) rfl rfl ?_
    obtain ⟨v1, v2, v3, v4, hb1, h⟩ := of_b4 h
    refine r_do (a_call ok32 rfl rfl rfl rfl (fun w hm => spec_DrawMarkAll.calls K a0 a0_A a0_n a0_c hm a0_h a0_R a0_k hb1)) rfl rfl (fun x1 => ?_)
    refine r_do (a_alloc zr27 rfl) rfl rfl (fun x2 => ?_)
    refine r_do (a_storeb 0 rfl sz27 rfl rfl rfl rfl (Nat.le_of_ble_eq_true rfl) rfl) rfl rfl (fun _ => ?_)
    refine j_b0 [(.slice x1.1.A x1.1.n x1.1.c), (.slice x1.2.1.A x1.2.1.n x1.2.1.c), (.slice x1.2.2.1.A x1.2.2.1.n x1.2.2.1.c), (.slice x1.2.2.2.A x1.2.2.2.n x1.2.2.2.c)] rfl ?_
    refine r_nil ?_
    refine j_then ?_
    refine j_seq ?_
    refine j_region ?_
    refine r_q (q_loadb_agg 0 rfl ag27 sz27 rfl rfl rfl rfl) rfl rfl ?_
    obtain ⟨v5, v6, v7, v8, v9, hb2, h⟩ := of_b5 h
    refine r_do (a_call ok28 rfl rfl rfl rfl (fun w hm => impl_MarkAll.calls K v1 x1.1.A x1.1.n x1.1.c v2 x1.2.1.A x1.2.1.n x1.2.1.c v3 x1.2.2.1.A x1.2.2.1.n x1.2.2.1.c v4 x1.2.2.2.A x1.2.2.2.n x1.2.2.2.c hm x1.1.h (Rd.row 1 rfl) x1.2.1.h (Rd.row 2 rfl) x1.2.2.1.h (Rd.row 3 rfl) x1.2.2.2.h (Rd.row 4 rfl) hb2)) rfl rfl (fun x3 => ?_)
    refine r_q (q_move rfl rfl) rfl rfl ?_
    refine r_q (q_extract rfl rfl rfl) rfl rfl ?_
    refine r_q (q_extract rfl rfl rfl) rfl rfl ?_
    refine r_do (a_alloc zr27 rfl) rfl rfl (fun x4 => ?_)
    refine r_do (a_storeb 0 rfl sz27 rfl rfl rfl rfl (Nat.le_of_ble_eq_true rfl) rfl) rfl rfl (fun _ => ?_)
    refine j_b0 [(.slice x3.1.A x3.1.n x3.1.c), (.slice x3.2.1.A x3.2.1.n x3.2.1.c), (.slice x3.2.2.1.A x3.2.2.1.n x3.2.2.1.c), (.slice x3.2.2.2.A x3.2.2.2.n x3.2.2.2.c)] rfl ?_
    refine r_q (q_assign rfl rfl) rfl rfl ?_
    refine r_nil ?_
    refine j_then ?_
    refine j_seq ?_
    refine j_region ?_
    refine r_q (q_loadb_agg 5 rfl ag27 sz27 rfl rfl rfl rfl) rfl rfl ?_
    obtain ⟨v10, v11, v12, v13, v14, hb3, h⟩ := of_b5 h
    refine r_do (a_call ok27 rfl rfl rfl rfl (fun w hm => spec_MarkAll.calls K v1 x1.1.A x1.1.n x1.1.c v2 x1.2.1.A x1.2.1.n x1.2.1.c v3 x1.2.2.1.A x1.2.2.1.n x1.2.2.1.c v4 x1.2.2.2.A x1.2.2.2.n x1.2.2.2.c hm x1.1.h (Rd.row 6 rfl) x1.2.1.h (Rd.row 7 rfl) x1.2.2.1.h (Rd.row 8 rfl) x1.2.2.2.h (Rd.row 9 rfl) hb3)) rfl rfl (fun x5 => ?_)
    refine r_q (q_move rfl rfl) rfl rfl ?_
    refine r_q (q_extract rfl rfl rfl) rfl rfl ?_
    refine r_q (q_extract rfl rfl rfl) rfl rfl ?_
    refine r_do (a_alloc zr27 rfl) rfl rfl (fun x6 => ?_)
    refine r_do (a_storeb 0 rfl sz27 rfl rfl rfl rfl (Nat.le_of_ble_eq_true rfl) rfl) rfl rfl (fun _ => ?_)
    refine j_b0 [(.slice x5.1.A x5.1.n x5.1.c), (.slice x5.2.1.A x5.2.1.n x5.2.1.c), (.slice x5.2.2.1.A x5.2.2.1.n x5.2.2.1.c), (.slice x5.2.2.2.A x5.2.2.2.n x5.2.2.2.c)] rfl ?_
    refine r_q (q_assign rfl rfl) rfl rfl ?_
    refine r_nil ?_
    refine j_then ?_
    refine j_seq ?_
    refine j_seq ?_
    refine j_region ?_
    refine r_q (q_loadb_agg 5 rfl ag27 sz27 rfl rfl rfl rfl) rfl rfl ?_
    refine r_q (q_loadb_agg 0 rfl ag27 sz27 rfl rfl rfl rfl) rfl rfl ?_
    obtain ⟨v15, hb4, h⟩ := of_b1 h
    refine r_do (a_call ok18 rfl rfl rfl rfl (fun w hm => impl_ColoredSame.calls K v5 x3.1.A x3.1.n x3.1.c v6 x3.2.1.A x3.2.1.n x3.2.1.c v7 x3.2.2.1.A x3.2.2.1.n x3.2.2.1.c v8 x3.2.2.2.A x3.2.2.2.n x3.2.2.2.c v10 x5.1.A x5.1.n x5.1.c v11 x5.2.1.A x5.2.1.n x5.2.1.c v12 x5.2.2.1.A x5.2.2.1.n x5.2.2.1.c v13 x5.2.2.2.A x5.2.2.2.n x5.2.2.2.c hm x3.1.h (Rd.row 6 rfl) x3.2.1.h (Rd.row 7 rfl) x3.2.2.1.h (Rd.row 8 rfl) x3.2.2.2.h (Rd.row 9 rfl) x5.1.h (Rd.row 1 rfl) x5.2.1.h (Rd.row 2 rfl) x5.2.2.1.h (Rd.row 3 rfl) x5.2.2.2.h (Rd.row 4 rfl) hb4)) rfl rfl (fun x7 => ?_)
    refine r_q (q_not rfl rfl) rfl rfl ?_
    refine r_q (q_move rfl rfl) rfl rfl ?_
    rcases of_if h with ⟨c2, h⟩ | ⟨c2, h⟩
    · refine r_qon (q_move rfl rfl) rfl rfl rfl rfl (not_f c2) rfl ?_
      refine r_qon (q_move rfl rfl) rfl rfl rfl rfl (not_f c2) rfl ?_
      refine r_qon (q_bneq un4 rfl rfl rfl) rfl rfl rfl rfl (not_f c2) rfl ?_
      refine r_q (q_pick_f rfl rfl (not_f c2) rfl) rfl rfl ?_
      refine r_q (q_move rfl rfl) rfl rfl ?_
      rcases of_if h with ⟨c3, h⟩ | ⟨c3, h⟩
      · refine r_qon (q_move rfl rfl) rfl rfl rfl rfl (bne_f c3) rfl ?_
        refine r_qon (q_not rfl rfl) rfl rfl rfl rfl (bne_f c3) rfl ?_
        refine r_q (q_pick_f rfl rfl (bne_f c3) rfl) rfl rfl ?_
        refine r_q (q_move rfl rfl) rfl rfl ?_
        rcases of_if h with ⟨c4, h⟩ | ⟨c4, h⟩
        · refine r_qon (q_loadb_agg 10 rfl ag27 sz27 rfl rfl rfl rfl) rfl rfl rfl rfl (not_f c4) rfl ?_
          obtain ⟨v16, hb5, h⟩ := of_b1 h
          refine r_on (a_call ok31 rfl rfl rfl rfl (fun w hm => impl_ColorHolds.calls K v1 x1.1.A x1.1.n x1.1.c v2 x1.2.1.A x1.2.1.n x1.2.1.c v3 x1.2.2.1.A x1.2.2.1.n x1.2.2.1.c v4 x1.2.2.2.A x1.2.2.2.n x1.2.2.2.c hm x1.1.h (Rd.row 11 rfl) x1.2.1.h (Rd.row 12 rfl) x1.2.2.1.h (Rd.row 13 rfl) x1.2.2.2.h (Rd.row 14 rfl) hb5)) rfl rfl rfl rfl (not_f c4) rfl (fun x8 => ?_)
          refine r_qon (q_not rfl rfl) rfl rfl rfl rfl (not_f c4) rfl ?_
          refine r_q (q_pick_f rfl rfl (not_f c4) rfl) rfl rfl ?_
          refine r_nil ?_
          refine j_then ?_
          rcases of_if h with ⟨c5, h⟩ | ⟨c5, h⟩
          · refine j_false rfl (not_f c5) ?_
            refine j_skip ?_
            refine j_then ?_
            refine j_seq ?_
            refine j_seq ?_
            refine j_region ?_
            refine r_q (q_assign rfl rfl) rfl rfl ?_
            refine r_nil ?_
            refine j_then ?_
            obtain ⟨κ0, h, hκ0⟩ := ex_k (g := fun κ => laws_FnWhiteEnd.loop0 K κ v5 v6 v7 v8 K (0:Int) = some r1) h
            refine j_cut (σ := Unit) (fun s => []) (fun s => F) (fun s => κ0 () = some r1) ?_ ?_
            · refine j_block ?_
              refine j_loop (σ := Int) (fun s => [(4, (pt x4)), (8, (i6 s))]) (fun s => .box x4 27 [(.slice x3.1.A x3.1.n x3.1.c), (.slice x3.2.1.A x3.2.1.n x3.2.1.c), (.slice x3.2.2.1.A x3.2.2.1.n x3.2.2.1.c), (.slice x3.2.2.2.A x3.2.2.2.n x3.2.2.2.c)] :: .row x3.1.A x3.1.c 3 1 (ii v5) :: .row x3.2.1.A x3.2.1.c 3 1 (ii v6) :: .row x3.2.2.1.A x3.2.2.1.c 3 1 (ii v7) :: .row x3.2.2.2.A x3.2.2.2.c 3 1 (ii v8) :: F) (fun m s => laws_FnWhiteEnd.loop0 K κ0 v5 v6 v7 v8 m s = some r1) K (0:Int) h (fun a he => he.sub ⟨rfl, rfl, trivial⟩) (fun w h => h.pick 15 [5, 6, 7, 8, 9] rfl) ?_
              rintro m p6 h
              cases m with
              | zero => exact absurd h (by rw [laws_FnWhiteEnd.loop0]; exact nofun)
              | succ m =>
                rw [laws_FnWhiteEnd.loop0] at h
                show J _ _ [(4, (pt x4)), (8, (i6 p6))] _ (.box x4 27 [(.slice x3.1.A x3.1.n x3.1.c), (.slice x3.2.1.A x3.2.1.n x3.2.1.c), (.slice x3.2.2.1.A x3.2.2.1.n x3.2.2.1.c), (.slice x3.2.2.2.A x3.2.2.2.n x3.2.2.2.c)] :: .row x3.1.A x3.1.c 3 1 (ii v5) :: .row x3.2.1.A x3.2.1.c 3 1 (ii v6) :: .row x3.2.2.1.A x3.2.2.1.c 3 1 (ii v7) :: .row x3.2.2.2.A x3.2.2.2.c 3 1 (ii v8) :: F)
                refine j_seq ?_
                refine j_seq ?_
                refine j_region ?_
                refine r_q (q_move rfl rfl) rfl rfl ?_
                refine r_q (q_fieldAddr fi27_1 sz23 rfl rfl rfl) rfl rfl ?_
                refine r_q (q_loadb 0 rfl ag23 rfl rfl rfl) rfl rfl ?_
                refine r_q (q_lenX v8 x3.2.2.2.h un23 rfl rfl rfl rfl rfl) rfl rfl ?_
                refine r_q (q_lss rfl rfl rfl) rfl rfl ?_
                refine r_nil ?_
                refine j_then ?_
                rcases of_if h with ⟨c81, h⟩ | ⟨c81, h⟩
                · refine j_true rfl (decide_eq_true c81) ?_
                  refine j_skip ?_
                  refine j_then ?_
                  refine j_seq ?_
                  refine j_block ?_
                  refine j_seq ?_
                  refine j_region ?_
                  refine r_q (q_fieldAddr fi27_0 sz25 rfl rfl rfl) rfl rfl ?_
                  refine r_q (q_loadb_agg 0 rfl ag25 sz25 rfl rfl rfl rfl) rfl rfl ?_
                  refine r_q (q_move rfl rfl) rfl rfl ?_
                  obtain ⟨v20, hb9, h⟩ := of_b1 h
                  refine r_do (a_call ok33 rfl rfl rfl rfl (fun w hm => impl_SourcesOf.calls K v5 x3.1.A x3.1.n x3.1.c v6 x3.2.1.A x3.2.1.n x3.2.1.c v7 x3.2.2.1.A x3.2.2.1.n x3.2.2.1.c p6 hm x3.1.h (Rd.row 1 rfl) x3.2.1.h (Rd.row 2 rfl) x3.2.2.1.h (Rd.row 3 rfl) hb9)) rfl rfl (fun x9 => ?_)
                  refine r_q (q_assign rfl rfl) rfl rfl ?_
                  refine r_nil ?_
                  refine j_then ?_
                  refine j_seq ?_
                  refine j_region ?_
                  refine r_q (q_assign rfl rfl) rfl rfl ?_
                  refine r_nil ?_
                  refine j_then ?_
                  obtain ⟨κ1, h, hκ1⟩ := ex_k (g := fun κ => laws_FnWhiteEnd.loop1 K κ v8 p6 v20 K (0:Int) = some r1) h
                  refine j_cut (σ := Unit) (fun s => [(4, (pt x4)), (8, (i6 p6))]) (fun s => .box x4 27 [(.slice x3.1.A x3.1.n x3.1.c), (.slice x3.2.1.A x3.2.1.n x3.2.1.c), (.slice x3.2.2.1.A x3.2.2.1.n x3.2.2.1.c), (.slice x3.2.2.2.A x3.2.2.2.n x3.2.2.2.c)] :: .row x3.1.A x3.1.c 3 1 (ii v5) :: .row x3.2.1.A x3.2.1.c 3 1 (ii v6) :: .row x3.2.2.1.A x3.2.2.1.c 3 1 (ii v7) :: .row x3.2.2.2.A x3.2.2.2.c 3 1 (ii v8) :: F) (fun s => κ1 () = some r1) ?_ ?_
                  · refine j_block ?_
                    refine j_loop (σ := Int) (fun s => [(4, (pt x4)), (8, (i6 p6)), (9, (.slice x9.A x9.n x9.c)), (10, (i6 s))]) (fun s => .box x4 27 [(.slice x3.1.A x3.1.n x3.1.c), (.slice x3.2.1.A x3.2.1.n x3.2.1.c), (.slice x3.2.2.1.A x3.2.2.1.n x3.2.2.1.c), (.slice x3.2.2.2.A x3.2.2.2.n x3.2.2.2.c)] :: .row x9.A x9.c 3 1 (ii v20) :: .row x3.1.A x3.1.c 3 1 (ii v5) :: .row x3.2.1.A x3.2.1.c 3 1 (ii v6) :: .row x3.2.2.1.A x3.2.2.1.c 3 1 (ii v7) :: .row x3.2.2.2.A x3.2.2.2.c 3 1 (ii v8) :: F) (fun m s => laws_FnWhiteEnd.loop1 K κ1 v8 p6 v20 m s = some r1) K (0:Int) h (fun a he => he.sub ⟨rfl, rfl, rfl, rfl, trivial⟩) (fun w h => h.pick 6 [1, 0, 2, 3, 4, 5] rfl) ?_
                    rintro m p10 h
                    cases m with
                    | zero => exact absurd h (by rw [laws_FnWhiteEnd.loop1]; exact nofun)
                    | succ m =>
                      rw [laws_FnWhiteEnd.loop1] at h
                      show J _ _ [(4, (pt x4)), (8, (i6 p6)), (9, (.slice x9.A x9.n x9.c)), (10, (i6 p10))] _ (.box x4 27 [(.slice x3.1.A x3.1.n x3.1.c), (.slice x3.2.1.A x3.2.1.n x3.2.1.c), (.slice x3.2.2.1.A x3.2.2.1.n x3.2.2.1.c), (.slice x3.2.2.2.A x3.2.2.2.n x3.2.2.2.c)] :: .row x9.A x9.c 3 1 (ii v20) :: .row x3.1.A x3.1.c 3 1 (ii v5) :: .row x3.2.1.A x3.2.1.c 3 1 (ii v6) :: .row x3.2.2.1.A x3.2.2.1.c 3 1 (ii v7) :: .row x3.2.2.2.A x3.2.2.2.c 3 1 (ii v8) :: F)
                      refine j_seq ?_
                      refine j_seq ?_
                      refine j_region ?_
                      refine r_q (q_move rfl rfl) rfl rfl ?_
                      refine r_q (q_move rfl rfl) rfl rfl ?_
                      refine r_q (q_lenX v20 x9.h un23 rfl rfl rfl rfl rfl) rfl rfl ?_
                      refine r_q (q_lss rfl rfl rfl) rfl rfl ?_
                      refine r_nil ?_
                      refine j_then ?_
                      rcases of_if h with ⟨c100, h⟩ | ⟨c100, h⟩
                      · refine j_true rfl (decide_eq_true c100) ?_
                        refine j_skip ?_
                        refine j_then ?_
                        refine j_seq ?_
                        refine j_block ?_
                        refine j_seq ?_
                        obtain ⟨c101, h⟩ := of_guard h
                        rcases of_if h with ⟨c102, h⟩ | ⟨c102, h⟩
                        · obtain ⟨c103, h⟩ := of_guard h
                          obtain ⟨c104, h⟩ := of_guard h
                          refine j_draw (.box x4 27 [(.slice x3.1.A x3.1.n x3.1.c), (.slice x3.2.1.A x3.2.1.n x3.2.1.c), (.slice x3.2.2.1.A x3.2.2.1.n x3.2.2.1.c), (.slice x3.2.2.2.A x3.2.2.2.n x3.2.2.2.c)] :: .row x9.A x9.c 3 1 (ii v20) :: .row x3.1.A x3.1.c 3 1 (ii v5) :: .row x3.2.1.A x3.2.1.c 3 1 (ii v6) :: .row x3.2.2.1.A x3.2.2.1.c 3 1 (ii v7) :: .row x3.2.2.2.A x3.2.2.2.c 3 1 (ii v8) :: F) 17 follows_any rfl ?_
                          refine d_take 0 rfl (q_fieldAddr fi27_1 sz23 rfl rfl rfl) rfl rfl (by kernel_rfl) (by kernel_rfl) (by kernel_rfl) (fun w h => h) ?_
                          refine d_take 1 rfl (q_loadb 0 rfl ag23 rfl rfl rfl) rfl rfl (by kernel_rfl) (by kernel_rfl) (by kernel_rfl) (fun w h => h) ?_
                          refine d_take 2 rfl (q_move rfl rfl) rfl rfl (by kernel_rfl) (by kernel_rfl) (by kernel_rfl) (fun w h => h) ?_
                          refine d_take 3 rfl (q_ix (Rd.row 5 rfl) (ints_len1 _ v8) (by decide) x3.2.2.2.h c101 un23 sz3 rfl rfl rfl) rfl rfl (by kernel_rfl) (by kernel_rfl) (by kernel_rfl) (fun w h => h) ?_
                          refine d_take 4 rfl (q_ldI (Rd.row 5 rfl) c101 ag3 rfl rfl) rfl rfl (by kernel_rfl) (by kernel_rfl) (by kernel_rfl) (fun w h => h) ?_
                          refine d_take 5 rfl (q_eql rfl rfl rfl) rfl rfl (by kernel_rfl) (by kernel_rfl) (by kernel_rfl) (fun w h => h) ?_
                          refine d_take 6 rfl (q_move rfl rfl) rfl rfl (by kernel_rfl) (by kernel_rfl) (by kernel_rfl) (fun w h => h) ?_
                          refine d_take_on 7 rfl (q_fieldAddr fi27_1 sz23 rfl rfl rfl) rfl rfl rfl rfl (beq_t c102) rfl (by kernel_rfl) (by kernel_rfl) (by kernel_rfl) (fun w h => h) ?_
                          refine d_take_on 8 rfl (q_loadb 0 rfl ag23 rfl rfl rfl) rfl rfl rfl rfl (beq_t c102) rfl (by kernel_rfl) (by kernel_rfl) (by kernel_rfl) (fun w h => h) ?_
                          refine d_take_on 9 rfl (q_move rfl rfl) rfl rfl rfl rfl (beq_t c102) rfl (by kernel_rfl) (by kernel_rfl) (by kernel_rfl) (fun w h => h) ?_
                          refine d_take_on 10 rfl (q_move rfl rfl) rfl rfl rfl rfl (beq_t c102) rfl (by kernel_rfl) (by kernel_rfl) (by kernel_rfl) (fun w h => h) ?_
                          refine d_take_on 11 rfl (q_ix (Rd.row 1 rfl) (ints_len1 _ v20) (by decide) x9.h c103 un23 sz3 rfl rfl rfl) rfl rfl rfl rfl (beq_t c102) rfl (by kernel_rfl) (by kernel_rfl) (by kernel_rfl) (fun w h => h) ?_
                          refine d_take_on 12 rfl (q_ldI (Rd.row 1 rfl) c103 ag3 rfl rfl) rfl rfl rfl rfl (beq_t c102) rfl (by kernel_rfl) (by kernel_rfl) (by kernel_rfl) (fun w h => h) ?_
                          refine d_take_on 13 rfl (q_ix (Rd.row 5 rfl) (ints_len1 _ v8) (by decide) x3.2.2.2.h c104 un23 sz3 rfl rfl rfl) rfl rfl rfl rfl (beq_t c102) rfl (by kernel_rfl) (by kernel_rfl) (by kernel_rfl) (fun w h => h) ?_
                          refine d_take_on 14 rfl (q_ldI (Rd.row 5 rfl) c104 ag3 rfl rfl) rfl rfl rfl rfl (beq_t c102) rfl (by kernel_rfl) (by kernel_rfl) (by kernel_rfl) (fun w h => h) ?_
                          refine d_take_on 15 rfl (q_neq rfl rfl rfl) rfl rfl rfl rfl (beq_t c102) rfl (by kernel_rfl) (by kernel_rfl) (by kernel_rfl) (fun w h => h) ?_
                          refine d_take 16 rfl (q_pick_t rfl rfl (beq_t c102) rfl) rfl rfl (by kernel_rfl) (by kernel_rfl) (by kernel_rfl) (fun w h => h) ?_
                          refine d_done (by kernel_rfl) ?_
                          refine j_then ?_
                          rcases of_if h with ⟨c105, h⟩ | ⟨c105, h⟩
                          · refine j_false rfl (bne_f c105) ?_
                            refine j_skip ?_
                            refine j_in ?_
                            refine j_then ?_
                            refine j_region ?_
                            refine r_q (q_move rfl rfl) rfl rfl ?_
                            refine r_q (q_add rfl rfl rfl) rfl rfl ?_
                            refine r_q (q_assign rfl rfl) rfl rfl ?_
                            refine r_nil ?_
                            refine j_then ?_
                            exact j_again m (wrap64 (p10 + (1:Int))) (Nat.lt_succ_self m) h (fun a he => he.sub ⟨rfl, rfl, rfl, rfl, trivial⟩) (fun w h => h)
                          · refine j_true rfl (bne_t c105) ?_
                            refine j_seq ?_
                            refine j_region ?_
                            refine r_q (q_assign rfl rfl) rfl rfl ?_
                            refine r_nil ?_
                            refine j_then ?_
                            refine j_ret ?_
                            refine j_in_ret ?_
                            refine j_then_ret ?_
                            refine j_then_ret ?_
                            refine j_in_ret ?_
                            refine j_then_ret ?_
                            refine j_in_ret ?_
                            refine j_then_ret ?_
                            refine j_then_ret ?_
                            refine j_in_ret ?_
                            refine j_then_ret ?_
                            refine j_then_ret ?_
                            cases h
                            exact j_return rfl (ResOf.tmp rfl ResOf.nil) rfl (fun w h => ⟨(), rfl, (h.drop 6)⟩)
                        · refine j_draw (.box x4 27 [(.slice x3.1.A x3.1.n x3.1.c), (.slice x3.2.1.A x3.2.1.n x3.2.1.c), (.slice x3.2.2.1.A x3.2.2.1.n x3.2.2.1.c), (.slice x3.2.2.2.A x3.2.2.2.n x3.2.2.2.c)] :: .row x9.A x9.c 3 1 (ii v20) :: .row x3.1.A x3.1.c 3 1 (ii v5) :: .row x3.2.1.A x3.2.1.c 3 1 (ii v6) :: .row x3.2.2.1.A x3.2.2.1.c 3 1 (ii v7) :: .row x3.2.2.2.A x3.2.2.2.c 3 1 (ii v8) :: F) 17 follows_any rfl ?_
                          refine d_take 0 rfl (q_fieldAddr fi27_1 sz23 rfl rfl rfl) rfl rfl (by kernel_rfl) (by kernel_rfl) (by kernel_rfl) (fun w h => h) ?_
                          refine d_take 1 rfl (q_loadb 0 rfl ag23 rfl rfl rfl) rfl rfl (by kernel_rfl) (by kernel_rfl) (by kernel_rfl) (fun w h => h) ?_
                          refine d_take 2 rfl (q_move rfl rfl) rfl rfl (by kernel_rfl) (by kernel_rfl) (by kernel_rfl) (fun w h => h) ?_
                          refine d_take 3 rfl (q_ix (Rd.row 5 rfl) (ints_len1 _ v8) (by decide) x3.2.2.2.h c101 un23 sz3 rfl rfl rfl) rfl rfl (by kernel_rfl) (by kernel_rfl) (by kernel_rfl) (fun w h => h) ?_
                          refine d_take 4 rfl (q_ldI (Rd.row 5 rfl) c101 ag3 rfl rfl) rfl rfl (by kernel_rfl) (by kernel_rfl) (by kernel_rfl) (fun w h => h) ?_
                          refine d_take 5 rfl (q_eql rfl rfl rfl) rfl rfl (by kernel_rfl) (by kernel_rfl) (by kernel_rfl) (fun w h => h) ?_
                          refine d_take 6 rfl (q_move rfl rfl) rfl rfl (by kernel_rfl) (by kernel_rfl) (by kernel_rfl) (fun w h => h) ?_
                          refine d_take_off 7 rfl rfl rfl rfl rfl (beq_f c102) rfl (by kernel_rfl) (by kernel_rfl) (by kernel_rfl) (fun w h => h) ?_
                          refine d_take_off 8 rfl rfl rfl rfl rfl (beq_f c102) rfl (by kernel_rfl) (by kernel_rfl) (by kernel_rfl) (fun w h => h) ?_
                          refine d_take_off 9 rfl rfl rfl rfl rfl (beq_f c102) rfl (by kernel_rfl) (by kernel_rfl) (by kernel_rfl) (fun w h => h) ?_
                          refine d_take_off 10 rfl rfl rfl rfl rfl (beq_f c102) rfl (by kernel_rfl) (by kernel_rfl) (by kernel_rfl) (fun w h => h) ?_
                          refine d_take_off 11 rfl rfl rfl rfl rfl (beq_f c102) rfl (by kernel_rfl) (by kernel_rfl) (by kernel_rfl) (fun w h => h) ?_
                          refine d_take_off 12 rfl rfl rfl rfl rfl (beq_f c102) rfl (by kernel_rfl) (by kernel_rfl) (by kernel_rfl) (fun w h => h) ?_
                          refine d_take_off 13 rfl rfl rfl rfl rfl (beq_f c102) rfl (by kernel_rfl) (by kernel_rfl) (by kernel_rfl) (fun w h => h) ?_
                          refine d_take_off 14 rfl rfl rfl rfl rfl (beq_f c102) rfl (by kernel_rfl) (by kernel_rfl) (by kernel_rfl) (fun w h => h) ?_
                          refine d_take_off 15 rfl rfl rfl rfl rfl (beq_f c102) rfl (by kernel_rfl) (by kernel_rfl) (by kernel_rfl) (fun w h => h) ?_
                          refine d_take 16 rfl (q_pick_f rfl rfl (beq_f c102) rfl) rfl rfl (by kernel_rfl) (by kernel_rfl) (by kernel_rfl) (fun w h => h) ?_
                          refine d_done (by kernel_rfl) ?_
                          refine j_then ?_
                          refine j_false rfl rfl ?_
                          refine j_skip ?_
                          refine j_in ?_
                          refine j_then ?_
                          refine j_region ?_
                          refine r_q (q_move rfl rfl) rfl rfl ?_
                          refine r_q (q_add rfl rfl rfl) rfl rfl ?_
                          refine r_q (q_assign rfl rfl) rfl rfl ?_
                          refine r_nil ?_
                          refine j_then ?_
                          exact j_again m (wrap64 (p10 + (1:Int))) (Nat.lt_succ_self m) h (fun a he => he.sub ⟨rfl, rfl, rfl, rfl, trivial⟩) (fun w h => h)
                      · refine j_false rfl (decide_eq_false c100) ?_
                        refine j_exit ?_
                        refine j_then_exit ?_
                        refine j_then_exit ?_
                        refine j_in_exit ?_
                        refine j_then ?_
                        exact j_meet () h (fun a he => he.sub ⟨rfl, rfl, trivial⟩) (fun w h => h.pick 6 [0, 2, 3, 4, 5] rfl)
                  · rintro _ h
                    subst hκ1
                    show J _ _ [(4, (pt x4)), (8, (i6 p6))] _ (.box x4 27 [(.slice x3.1.A x3.1.n x3.1.c), (.slice x3.2.1.A x3.2.1.n x3.2.1.c), (.slice x3.2.2.1.A x3.2.2.1.n x3.2.2.1.c), (.slice x3.2.2.2.A x3.2.2.2.n x3.2.2.2.c)] :: .row x3.1.A x3.1.c 3 1 (ii v5) :: .row x3.2.1.A x3.2.1.c 3 1 (ii v6) :: .row x3.2.2.1.A x3.2.2.1.c 3 1 (ii v7) :: .row x3.2.2.2.A x3.2.2.2.c 3 1 (ii v8) :: F)
                    refine j_in ?_
                    refine j_then ?_
                    refine j_region ?_
                    refine r_q (q_move rfl rfl) rfl rfl ?_
                    refine r_q (q_add rfl rfl rfl) rfl rfl ?_
                    refine r_q (q_assign rfl rfl) rfl rfl ?_
                    refine r_nil ?_
                    refine j_then ?_
                    exact j_again m (wrap64 (p6 + (1:Int))) (Nat.lt_succ_self m) h (fun a he => he.sub ⟨rfl, rfl, trivial⟩) (fun w h => h)
                · refine j_false rfl (decide_eq_false c81) ?_
                  refine j_exit ?_
                  refine j_then_exit ?_
                  refine j_then_exit ?_
                  refine j_in_exit ?_
                  refine j_then ?_
                  exact j_meet () h (fun a he => he.sub trivial) (fun w h => (h.drop 5))
            · rintro _ h
              subst hκ0
              show J _ _ [] _ (F)
              refine j_then ?_
              refine j_seq ?_
              refine j_region ?_
              refine r_q (q_assign rfl rfl) rfl rfl ?_
              refine r_nil ?_
              refine j_then ?_
              refine j_ret ?_
              cases h
              exact j_return rfl (ResOf.tmp rfl ResOf.nil) rfl (fun w h => ⟨(), rfl, h⟩)
          · refine j_true rfl (not_t (var_f c5)) ?_
            refine j_seq ?_
            refine j_region ?_
            refine r_q (q_loadb_agg 5 rfl ag27 sz27 rfl rfl rfl rfl) rfl rfl ?_
            refine r_q (q_loadb_agg 0 rfl ag27 sz27 rfl rfl rfl rfl) rfl rfl ?_
            obtain ⟨v21, hb10, h⟩ := of_b1 h
            refine r_do (a_call ok18 rfl rfl rfl rfl (fun w hm => impl_ColoredSame.calls K v5 x3.1.A x3.1.n x3.1.c v6 x3.2.1.A x3.2.1.n x3.2.1.c v7 x3.2.2.1.A x3.2.2.1.n x3.2.2.1.c v8 x3.2.2.2.A x3.2.2.2.n x3.2.2.2.c v10 x5.1.A x5.1.n x5.1.c v11 x5.2.1.A x5.2.1.n x5.2.1.c v12 x5.2.2.1.A x5.2.2.1.n x5.2.2.1.c v13 x5.2.2.2.A x5.2.2.2.n x5.2.2.2.c hm x3.1.h (Rd.row 6 rfl) x3.2.1.h (Rd.row 7 rfl) x3.2.2.1.h (Rd.row 8 rfl) x3.2.2.2.h (Rd.row 9 rfl) x5.1.h (Rd.row 1 rfl) x5.2.1.h (Rd.row 2 rfl) x5.2.2.1.h (Rd.row 3 rfl) x5.2.2.2.h (Rd.row 4 rfl) hb10)) rfl rfl (fun x10 => ?_)
            refine r_q (q_move rfl rfl) rfl rfl ?_
            rcases of_if h with ⟨c106, h⟩ | ⟨c106, h⟩
            · refine r_qon (q_move rfl rfl) rfl rfl rfl rfl c106 rfl ?_
              refine r_qon (q_move rfl rfl) rfl rfl rfl rfl c106 rfl ?_
              refine r_qon (q_beql un4 rfl rfl rfl) rfl rfl rfl rfl c106 rfl ?_
              refine r_q (q_pick_t rfl rfl c106 rfl) rfl rfl ?_
              refine r_q (q_assign rfl rfl) rfl rfl ?_
              refine r_nil ?_
              refine j_then ?_
              refine j_ret ?_
              refine j_then_ret ?_
              cases h
              exact j_return rfl (ResOf.tmp rfl ResOf.nil) rfl (fun w h => ⟨(), rfl, (h.drop 15)⟩)
            · refine r_off rfl rfl rfl rfl (var_f c106) rfl ?_
              refine r_off rfl rfl rfl rfl (var_f c106) rfl ?_
              refine r_off rfl rfl rfl rfl (var_f c106) rfl ?_
              refine r_q (q_pick_f rfl rfl (var_f c106) rfl) rfl rfl ?_
              refine r_q (q_assign rfl rfl) rfl rfl ?_
              refine r_nil ?_
              refine j_then ?_
              refine j_ret ?_
              refine j_then_ret ?_
              cases h
              exact j_return rfl (ResOf.tmp rfl ResOf.nil) rfl (fun w h => ⟨(), rfl, (h.drop 15)⟩)
        · refine r_off rfl rfl rfl rfl (not_t (var_f c4)) rfl ?_
          refine r_off rfl rfl rfl rfl (not_t (var_f c4)) rfl ?_
          refine r_off rfl rfl rfl rfl (not_t (var_f c4)) rfl ?_
          refine r_q (q_pick_t rfl rfl (not_t (var_f c4)) rfl) rfl rfl ?_
          refine r_nil ?_
          refine j_then ?_
          refine j_true rfl rfl ?_
          refine j_seq ?_
          refine j_region ?_
          refine r_q (q_loadb_agg 5 rfl ag27 sz27 rfl rfl rfl rfl) rfl rfl ?_
          refine r_q (q_loadb_agg 0 rfl ag27 sz27 rfl rfl rfl rfl) rfl rfl ?_
          obtain ⟨v22, hb11, h⟩ := of_b1 h
          refine r_do (a_call ok18 rfl rfl rfl rfl (fun w hm => impl_ColoredSame.calls K v5 x3.1.A x3.1.n x3.1.c v6 x3.2.1.A x3.2.1.n x3.2.1.c v7 x3.2.2.1.A x3.2.2.1.n x3.2.2.1.c v8 x3.2.2.2.A x3.2.2.2.n x3.2.2.2.c v10 x5.1.A x5.1.n x5.1.c v11 x5.2.1.A x5.2.1.n x5.2.1.c v12 x5.2.2.1.A x5.2.2.1.n x5.2.2.1.c v13 x5.2.2.2.A x5.2.2.2.n x5.2.2.2.c hm x3.1.h (Rd.row 6 rfl) x3.2.1.h (Rd.row 7 rfl) x3.2.2.1.h (Rd.row 8 rfl) x3.2.2.2.h (Rd.row 9 rfl) x5.1.h (Rd.row 1 rfl) x5.2.1.h (Rd.row 2 rfl) x5.2.2.1.h (Rd.row 3 rfl) x5.2.2.2.h (Rd.row 4 rfl) hb11)) rfl rfl (fun x10 => ?_)
          refine r_q (q_move rfl rfl) rfl rfl ?_
          rcases of_if h with ⟨c107, h⟩ | ⟨c107, h⟩
          · refine r_qon (q_move rfl rfl) rfl rfl rfl rfl c107 rfl ?_
            refine r_qon (q_move rfl rfl) rfl rfl rfl rfl c107 rfl ?_
            refine r_qon (q_beql un4 rfl rfl rfl) rfl rfl rfl rfl c107 rfl ?_
            refine r_q (q_pick_t rfl rfl c107 rfl) rfl rfl ?_
            refine r_q (q_assign rfl rfl) rfl rfl ?_
            refine r_nil ?_
            refine j_then ?_
            refine j_ret ?_
            refine j_then_ret ?_
            cases h
            exact j_return rfl (ResOf.tmp rfl ResOf.nil) rfl (fun w h => ⟨(), rfl, (h.drop 15)⟩)
          · refine r_off rfl rfl rfl rfl (var_f c107) rfl ?_
            refine r_off rfl rfl rfl rfl (var_f c107) rfl ?_
            refine r_off rfl rfl rfl rfl (var_f c107) rfl ?_
            refine r_q (q_pick_f rfl rfl (var_f c107) rfl) rfl rfl ?_
            refine r_q (q_assign rfl rfl) rfl rfl ?_
            refine r_nil ?_
            refine j_then ?_
            refine j_ret ?_
            refine j_then_ret ?_
            cases h
            exact j_return rfl (ResOf.tmp rfl ResOf.nil) rfl (fun w h => ⟨(), rfl, (h.drop 15)⟩)
      · refine r_off rfl rfl rfl rfl (bne_t c3) rfl ?_
        refine r_off rfl rfl rfl rfl (bne_t c3) rfl ?_
        refine r_q (q_pick_t rfl rfl (bne_t c3) rfl) rfl rfl ?_
        refine r_q (q_move rfl rfl) rfl rfl ?_
        refine r_off rfl rfl rfl rfl rfl rfl ?_
        refine r_off rfl rfl rfl rfl rfl rfl ?_
        refine r_off rfl rfl rfl rfl rfl rfl ?_
        refine r_q (q_pick_t rfl rfl rfl rfl) rfl rfl ?_
        refine r_nil ?_
        refine j_then ?_
        refine j_true rfl rfl ?_
        refine j_seq ?_
        refine j_region ?_
        refine r_q (q_loadb_agg 5 rfl ag27 sz27 rfl rfl rfl rfl) rfl rfl ?_
        refine r_q (q_loadb_agg 0 rfl ag27 sz27 rfl rfl rfl rfl) rfl rfl ?_
        obtain ⟨v23, hb12, h⟩ := of_b1 h
        refine r_do (a_call ok18 rfl rfl rfl rfl (fun w hm => impl_ColoredSame.calls K v5 x3.1.A x3.1.n x3.1.c v6 x3.2.1.A x3.2.1.n x3.2.1.c v7 x3.2.2.1.A x3.2.2.1.n x3.2.2.1.c v8 x3.2.2.2.A x3.2.2.2.n x3.2.2.2.c v10 x5.1.A x5.1.n x5.1.c v11 x5.2.1.A x5.2.1.n x5.2.1.c v12 x5.2.2.1.A x5.2.2.1.n x5.2.2.1.c v13 x5.2.2.2.A x5.2.2.2.n x5.2.2.2.c hm x3.1.h (Rd.row 6 rfl) x3.2.1.h (Rd.row 7 rfl) x3.2.2.1.h (Rd.row 8 rfl) x3.2.2.2.h (Rd.row 9 rfl) x5.1.h (Rd.row 1 rfl) x5.2.1.h (Rd.row 2 rfl) x5.2.2.1.h (Rd.row 3 rfl) x5.2.2.2.h (Rd.row 4 rfl) hb12)) rfl rfl (fun x10 => ?_)
        refine r_q (q_move rfl rfl) rfl rfl ?_
        rcases of_if h with ⟨c108, h⟩ | ⟨c108, h⟩
        · refine r_qon (q_move rfl rfl) rfl rfl rfl rfl c108 rfl ?_
          refine r_qon (q_move rfl rfl) rfl rfl rfl rfl c108 rfl ?_
          refine r_qon (q_beql un4 rfl rfl rfl) rfl rfl rfl rfl c108 rfl ?_
          refine r_q (q_pick_t rfl rfl c108 rfl) rfl rfl ?_
          refine r_q (q_assign rfl rfl) rfl rfl ?_
          refine r_nil ?_
          refine j_then ?_
          refine j_ret ?_
          refine j_then_ret ?_
          cases h
          exact j_return rfl (ResOf.tmp rfl ResOf.nil) rfl (fun w h => ⟨(), rfl, (h.drop 15)⟩)
        · refine r_off rfl rfl rfl rfl (var_f c108) rfl ?_
          refine r_off rfl rfl rfl rfl (var_f c108) rfl ?_
          refine r_off rfl rfl rfl rfl (var_f c108) rfl ?_
          refine r_q (q_pick_f rfl rfl (var_f c108) rfl) rfl rfl ?_
          refine r_q (q_assign rfl rfl) rfl rfl ?_
          refine r_nil ?_
          refine j_then ?_
          refine j_ret ?_
          refine j_then_ret ?_
          cases h
          exact j_return rfl (ResOf.tmp rfl ResOf.nil) rfl (fun w h => ⟨(), rfl, (h.drop 15)⟩)
    · refine r_off rfl rfl rfl rfl (not_t (var_f c2)) rfl ?_
      refine r_off rfl rfl rfl rfl (not_t (var_f c2)) rfl ?_
      refine r_off rfl rfl rfl rfl (not_t (var_f c2)) rfl ?_
      refine r_q (q_pick_t rfl rfl (not_t (var_f c2)) rfl) rfl rfl ?_
      refine r_q (q_move rfl rfl) rfl rfl ?_
      refine r_off rfl rfl rfl rfl rfl rfl ?_
      refine r_off rfl rfl rfl rfl rfl rfl ?_
      refine r_q (q_pick_t rfl rfl rfl rfl) rfl rfl ?_
      refine r_q (q_move rfl rfl) rfl rfl ?_
      refine r_off rfl rfl rfl rfl rfl rfl ?_
      refine r_off rfl rfl rfl rfl rfl rfl ?_
      refine r_off rfl rfl rfl rfl rfl rfl ?_
      refine r_q (q_pick_t rfl rfl rfl rfl) rfl rfl ?_
      refine r_nil ?_
      refine j_then ?_
      refine j_true rfl rfl ?_
      refine j_seq ?_
      refine j_region ?_
      refine r_q (q_loadb_agg 5 rfl ag27 sz27 rfl rfl rfl rfl) rfl rfl ?_
      refine r_q (q_loadb_agg 0 rfl ag27 sz27 rfl rfl rfl rfl) rfl rfl ?_
      obtain ⟨v24, hb13, h⟩ := of_b1 h
      refine r_do (a_call ok18 rfl rfl rfl rfl (fun w hm => impl_ColoredSame.calls K v5 x3.1.A x3.1.n x3.1.c v6 x3.2.1.A x3.2.1.n x3.2.1.c v7 x3.2.2.1.A x3.2.2.1.n x3.2.2.1.c v8 x3.2.2.2.A x3.2.2.2.n x3.2.2.2.c v10 x5.1.A x5.1.n x5.1.c v11 x5.2.1.A x5.2.1.n x5.2.1.c v12 x5.2.2.1.A x5.2.2.1.n x5.2.2.1.c v13 x5.2.2.2.A x5.2.2.2.n x5.2.2.2.c hm x3.1.h (Rd.row 6 rfl) x3.2.1.h (Rd.row 7 rfl) x3.2.2.1.h (Rd.row 8 rfl) x3.2.2.2.h (Rd.row 9 rfl) x5.1.h (Rd.row 1 rfl) x5.2.1.h (Rd.row 2 rfl) x5.2.2.1.h (Rd.row 3 rfl) x5.2.2.2.h (Rd.row 4 rfl) hb13)) rfl rfl (fun x10 => ?_)
      refine r_q (q_move rfl rfl) rfl rfl ?_
      rcases of_if h with ⟨c109, h⟩ | ⟨c109, h⟩
      · refine r_qon (q_move rfl rfl) rfl rfl rfl rfl c109 rfl ?_
        refine r_qon (q_move rfl rfl) rfl rfl rfl rfl c109 rfl ?_
        refine r_qon (q_beql un4 rfl rfl rfl) rfl rfl rfl rfl c109 rfl ?_
        refine r_q (q_pick_t rfl rfl c109 rfl) rfl rfl ?_
        refine r_q (q_assign rfl rfl) rfl rfl ?_
        refine r_nil ?_
        refine j_then ?_
        refine j_ret ?_
        refine j_then_ret ?_
        cases h
        exact j_return rfl (ResOf.tmp rfl ResOf.nil) rfl (fun w h => ⟨(), rfl, (h.drop 15)⟩)
      · refine r_off rfl rfl rfl rfl (var_f c109) rfl ?_
        refine r_off rfl rfl rfl rfl (var_f c109) rfl ?_
        refine r_off rfl rfl rfl rfl (var_f c109) rfl ?_
        refine r_q (q_pick_f rfl rfl (var_f c109) rfl) rfl rfl ?_
        refine r_q (q_assign rfl rfl) rfl rfl ?_
        refine r_nil ?_
        refine j_then ?_
        refine j_ret ?_
        refine j_then_ret ?_
        cases h
        exact j_return rfl (ResOf.tmp rfl ResOf.nil) rfl (fun w h => ⟨(), rfl, (h.drop 15)⟩)

end Go.Proofs.Ytcdcikmphonkfaa.F
