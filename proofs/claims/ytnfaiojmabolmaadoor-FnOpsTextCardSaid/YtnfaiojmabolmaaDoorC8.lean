/- The program computes these pure functions, printed by the generator of wip/gen. -/
import Derived.Test.YtnfaiojmabolmaaDoorFa
import Derived.Test.YtnfaiojmabolmaaDoorFj
import Derived.Test.YtnfaiojmabolmaaDoorFl
import Derived.Test.YtnfaiojmabolmaaDoorFm
import Derived.Test.YtnfaiojmabolmaaDoorFb
import Derived.Test.YtnfaiojmabolmaaDoorC0
import Derived.Test.YtnfaiojmabolmaaDoorC1
import Derived.Test.YtnfaiojmabolmaaDoorC3
import Derived.Test.YtnfaiojmabolmaaDoorC4
namespace Go.Proofs.YtnfaiojmabolmaaDoor.F
open Go Go.RowKit Go.Proofs.YtnfaiojmabolmaaDoor.S
set_option linter.unusedVariables false
set_option maxRecDepth 100000
theorem laws_ccOps.calls (K : Nat) (a0 : List (Int × Int × Int)) (a0_A : Option Addr) (a0_n a0_c : Nat) (a1 : List (Int × Int × Int)) (a1_A : Option Addr) (a1_n a1_c : Nat) {w0 w : World} {F : List Res} {r1 : Bool} (hm : Mem w0 (F) w) (a0_h : a0.length = a0_n) (a0_R : Rd w0 F a0_A (trips a0)) (a1_h : a1.length = a1_n) (a1_R : Rd w0 F a1_A (trips a1)) (h : laws_ccOps.f K a0 a1 = some r1) :
    Calls Tryd.prog 21 (List.toArray [.slice a0_A a0_n a0_c, .slice a1_A a1_n a1_c]) w fun e w' => ∃ x : Unit, e = .returned (.bool r1) ∧ Mem w0 (F) w' := by
  unfold laws_ccOps.f at h
  refine calls_of_J (n := 26) Tryd.func21 rfl rfl rfl hm ?_
  refine j_seq ?_
  refine j_region ?_
  refine r_q (q_assign rfl rfl) rfl rfl ?_
  refine r_nil ?_
  refine j_then ?_
  refine j_seq ?_
  refine j_seq ?_
  refine j_region ?_
  refine r_q (q_move rfl rfl) rfl rfl ?_
  refine r_q (q_lenX a0 a0_h un28 rfl rfl rfl rfl rfl) rfl rfl ?_
  refine r_q (q_move rfl rfl) rfl rfl ?_
  refine r_q (q_lenX a1 a1_h un28 rfl rfl rfl rfl rfl) rfl rfl ?_
  refine r_q (q_neq rfl rfl rfl) rfl rfl ?_
  refine r_nil ?_
  refine j_then ?_
  rcases of_if h with ⟨c1, h⟩ | ⟨c1, h⟩
  · refine j_false rfl (bne_f c1) ?_
    refine j_skip ?_
    refine j_then ?_
    refine j_seq ?_
    refine j_seq ?_
    refine j_region ?_
    refine r_q (q_assign rfl rfl) rfl rfl ?_
    refine r_nil ?_
    refine j_then ?_
    obtain ⟨κ0, h, hκ0⟩ := ex_k (g := fun κ => laws_ccOps.loop0 K κ a0 a1 K (0:Int) = some r1) h
    refine j_cut (σ := Unit) (fun s => []) (fun s => F) (fun s => κ0 () = some r1) ?_ ?_
    · refine j_block ?_
      refine j_loop (σ := Int) (fun s => [(0, (.slice a0_A a0_n a0_c)), (1, (.slice a1_A a1_n a1_c)), (5, (i6 s))]) (fun s => F) (fun m s => laws_ccOps.loop0 K κ0 a0 a1 m s = some r1) K (0:Int) h (fun a he => he.sub ⟨rfl, rfl, rfl, trivial⟩) (fun w h => h) ?_
      rintro m p2 h
      cases m with
      | zero => exact absurd h (by rw [laws_ccOps.loop0]; exact nofun)
      | succ m =>
        rw [laws_ccOps.loop0] at h
        show J _ _ [(0, (.slice a0_A a0_n a0_c)), (1, (.slice a1_A a1_n a1_c)), (5, (i6 p2))] _ (F)
        refine j_seq ?_
        refine j_seq ?_
        refine j_region ?_
        refine r_q (q_move rfl rfl) rfl rfl ?_
        refine r_q (q_move rfl rfl) rfl rfl ?_
        refine r_q (q_lenX a0 a0_h un28 rfl rfl rfl rfl rfl) rfl rfl ?_
        refine r_q (q_lss rfl rfl rfl) rfl rfl ?_
        refine r_nil ?_
        refine j_then ?_
        rcases of_if h with ⟨c14, h⟩ | ⟨c14, h⟩
        · refine j_true rfl (decide_eq_true c14) ?_
          refine j_skip ?_
          refine j_then ?_
          refine j_seq ?_
          refine j_block ?_
          refine j_seq ?_
          obtain ⟨c15, h⟩ := of_guard h
          obtain ⟨c16, h⟩ := of_guard h
          refine j_draw (F) 9 follows_any rfl ?_
          refine d_take 0 rfl (q_move rfl rfl) rfl rfl (by kernel_rfl) (by kernel_rfl) (by kernel_rfl) (fun w h => h) ?_
          refine d_take 1 rfl (q_move rfl rfl) rfl rfl (by kernel_rfl) (by kernel_rfl) (by kernel_rfl) (fun w h => h) ?_
          refine d_take 2 rfl (q_ix a0_R (trips_len a0) (by decide) a0_h c15 un28 sz25 rfl rfl rfl) rfl rfl (by kernel_rfl) (by kernel_rfl) (by kernel_rfl) (fun w h => h) ?_
          refine d_take 3 rfl (q_ldT a0_R c15 ag25 sz25 rfl rfl) rfl rfl (by kernel_rfl) (by kernel_rfl) (by kernel_rfl) (fun w h => h) ?_
          refine d_take 4 rfl (q_move rfl rfl) rfl rfl (by kernel_rfl) (by kernel_rfl) (by kernel_rfl) (fun w h => h) ?_
          refine d_take 5 rfl (q_move rfl rfl) rfl rfl (by kernel_rfl) (by kernel_rfl) (by kernel_rfl) (fun w h => h) ?_
          refine d_take 6 rfl (q_ix a1_R (trips_len a1) (by decide) a1_h c16 un28 sz25 rfl rfl rfl) rfl rfl (by kernel_rfl) (by kernel_rfl) (by kernel_rfl) (fun w h => h) ?_
          refine d_take 7 rfl (q_ldT a1_R c16 ag25 sz25 rfl rfl) rfl rfl (by kernel_rfl) (by kernel_rfl) (by kernel_rfl) (fun w h => h) ?_
          refine d_take 8 rfl (q_neT eqt25 rfl rfl rfl) rfl rfl (by kernel_rfl) (by kernel_rfl) (by kernel_rfl) (fun w h => h) ?_
          refine d_done (by kernel_rfl) ?_
          refine j_then ?_
          rcases of_if h with ⟨c17, h⟩ | ⟨c17, h⟩
          · refine j_true rfl (decide_eq_true c17) ?_
            refine j_seq ?_
            refine j_region ?_
            refine r_q (q_assign rfl rfl) rfl rfl ?_
            refine r_nil ?_
            refine j_then ?_
            refine j_ret ?_
            refine j_in_ret ?_
            refine j_then_ret ?_
            refine j_then_ret ?_
            refine j_in_ret ?_
            refine j_then_ret ?_
            refine j_then_ret ?_
            cases h
            exact j_return rfl (ResOf.tmp rfl ResOf.nil) rfl (fun w h => ⟨(), rfl, h⟩)
          · refine j_false rfl (decide_eq_false c17) ?_
            refine j_skip ?_
            refine j_in ?_
            refine j_then ?_
            refine j_region ?_
            refine r_q (q_move rfl rfl) rfl rfl ?_
            refine r_q (q_add rfl rfl rfl) rfl rfl ?_
            refine r_q (q_assign rfl rfl) rfl rfl ?_
            refine r_nil ?_
            refine j_then ?_
            exact j_again m (wrap64 (p2 + (1:Int))) (Nat.lt_succ_self m) h (fun a he => he.sub ⟨rfl, rfl, rfl, trivial⟩) (fun w h => h)
        · refine j_false rfl (decide_eq_false c14) ?_
          refine j_exit ?_
          refine j_then_exit ?_
          refine j_then_exit ?_
          refine j_in_exit ?_
          refine j_then ?_
          exact j_meet () h (fun a he => he.sub trivial) (fun w h => h)
    · rintro _ h
      subst hκ0
      show J _ _ [] _ (F)
      refine j_then ?_
      refine j_seq ?_
      refine j_region ?_
      refine r_q (q_assign rfl rfl) rfl rfl ?_
      refine r_nil ?_
      refine j_then ?_
      refine j_ret ?_
      cases h
      exact j_return rfl (ResOf.tmp rfl ResOf.nil) rfl (fun w h => ⟨(), rfl, h⟩)
  · refine j_true rfl (bne_t c1) ?_
    refine j_seq ?_
    refine j_region ?_
    refine r_q (q_assign rfl rfl) rfl rfl ?_
    refine r_nil ?_
    refine j_then ?_
    refine j_ret ?_
    refine j_then_ret ?_
    cases h
    exact j_return rfl (ResOf.tmp rfl ResOf.nil) rfl (fun w h => ⟨(), rfl, h⟩)

theorem spec_l13Rd_of.calls (K : Nat) (a0_g : Nat) (a0_0 : List Int) (a0_0_A : Option Addr) (a0_0_n a0_0_c : Nat) (a0_1 : Int) (a1 : List ByteArray) (a1_A : Option Addr) (a1_n a1_c : Nat) {w0 w : World} {F : List Res} {r1 : ByteArray} {r2 : Int} (hm : Mem w0 (.box a0_g 69 [.slice a0_0_A a0_0_n a0_0_c, i6 a0_1] :: F) w) (a0_0_h : a0_0.length = a0_0_n) (a0_0_R : Rd w0 F a0_0_A (ints .u8 a0_0)) (a1_h : a1.length = a1_n) (a1_R : Rd w0 F a1_A (strs a1)) (h : spec_l13Rd_of.f K a0_0 a0_1 a1 = some (r1, r2)) :
    Calls Tryd.prog 44 (List.toArray [pt a0_g, .slice a1_A a1_n a1_c]) w fun e w' => ∃ x : Unit, e = .returned (.string r1) ∧ Mem w0 (.box a0_g 69 [.slice a0_0_A a0_0_n a0_0_c, i6 r2] :: F) w' := by
  unfold spec_l13Rd_of.f at h
  refine calls_of_J (n := 12) Tryd.func44 rfl rfl rfl hm ?_
  refine j_seq ?_
  refine j_region ?_
  refine r_q (q_assign rfl rfl) rfl rfl ?_
  refine r_nil ?_
  refine j_then ?_
  refine j_seq ?_
  refine j_region ?_
  refine r_q (q_move rfl rfl) rfl rfl ?_
  refine r_q (q_move rfl rfl) rfl rfl ?_
  refine r_q (q_move rfl rfl) rfl rfl ?_
  refine r_q (q_lenX a1 a1_h un52 rfl rfl rfl rfl rfl) rfl rfl ?_
  obtain ⟨v1, v2, hb1, h⟩ := of_b2 h
  refine r_do (a_call ok40 rfl rfl rfl rfl (fun w hm => spec_l13Rd_pick.calls K a0_g a0_0 a0_0_A a0_0_n a0_0_c a0_1 (a1.length : Int) hm a0_0_h a0_0_R hb1)) rfl rfl (fun x1 => ?_)
  obtain ⟨c1, h⟩ := of_guard h
  refine r_q (q_ix (Rd.drop 1 a1_R) (strs_len1 a1) (by decide) a1_h c1 un52 sz9 rfl rfl rfl) rfl rfl ?_
  refine r_q (q_ldS (Rd.drop 1 a1_R) c1 ag9 rfl rfl) rfl rfl ?_
  refine r_q (q_assign rfl rfl) rfl rfl ?_
  refine r_nil ?_
  refine j_then ?_
  refine j_ret ?_
  cases h
  exact j_return rfl (ResOf.tmp rfl ResOf.nil) rfl (fun w h => ⟨(), rfl, h⟩)

theorem spec_DrawParseOps.calls (K : Nat) (a0 : List Int) (a0_A : Option Addr) (a0_n a0_c : Nat) {w0 w : World} {F : List Res} {r1 : ByteArray} (hm : Mem w0 (F) w) (a0_h : a0.length = a0_n) (a0_R : Rd w0 F a0_A (ints .u8 a0)) (a0_k : a0.length ≤ a0_c) (h : spec_DrawParseOps.f K a0 = some r1) :
    Calls Tryd.prog 22 (List.toArray [.slice a0_A a0_n a0_c]) w fun e w' => ∃ x : Unit, e = .returned (.string r1) ∧ Mem w0 (F) w' := by
  unfold spec_DrawParseOps.f at h
  refine calls_of_J (n := 38) Tryd.func22 rfl rfl rfl hm ?_
  refine j_seq ?_
  refine j_region ?_
  refine r_q (q_assign rfl rfl) rfl rfl ?_
  refine r_nil ?_
  refine j_then ?_
  refine j_seq ?_
  refine j_region ?_
  refine r_q (q_move rfl rfl) rfl rfl ?_
  obtain ⟨_, hb1, h⟩ := of_b1 h
  refine r_do (a_call ok38 rfl rfl rfl rfl (fun w hm => spec_l13Open.calls K a0 a0_A a0_n a0_c hm a0_h a0_R a0_k hb1)) rfl rfl (fun x1 => ?_)
  refine r_q (q_assign rfl rfl) rfl rfl ?_
  refine r_nil ?_
  refine j_then ?_
  refine j_seq ?_
  refine j_region ?_
  refine r_q (q_move rfl rfl) rfl rfl ?_
  obtain ⟨v1, v2, hb2, h⟩ := of_b2 h
  refine r_do (a_call ok39 rfl rfl rfl rfl (fun w hm => spec_l5Ops.calls K x1 (a0.take 2000) a0_A (a0.take 2000).length a0_c (0:Int) hm rfl (rd_hiI a0_R 2000) hb2)) rfl rfl (fun x2 => ?_)
  obtain ⟨v3, hb3, h⟩ := of_b1 h
  refine r_do (a_call ok20 rfl rfl rfl rfl (fun w hm => spec_FormatOps.calls K v1 x2.A x2.n x2.c hm x2.h (Rd.row 0 rfl) hb3)) rfl rfl (fun x3 => ?_)
  refine r_q (q_assign rfl rfl) rfl rfl ?_
  refine r_nil ?_
  refine j_then ?_
  refine j_seq ?_
  refine j_seq ?_
  refine j_region ?_
  refine r_q (q_move rfl rfl) rfl rfl ?_
  refine r_q (q_len_str rfl rfl rfl rfl un9 rfl) rfl rfl ?_
  refine r_q (q_eql rfl rfl rfl) rfl rfl ?_
  refine r_q (q_move rfl rfl) rfl rfl ?_
  rcases of_if h with ⟨c1, h⟩ | ⟨c1, h⟩
  · refine r_off rfl rfl rfl rfl (beq_t c1) rfl ?_
    refine r_off rfl rfl rfl rfl (beq_t c1) rfl ?_
    refine r_off rfl rfl rfl rfl (beq_t c1) rfl ?_
    refine r_q (q_pick_t rfl rfl (beq_t c1) rfl) rfl rfl ?_
    refine r_nil ?_
    refine j_then ?_
    refine j_true rfl rfl ?_
    refine j_seq ?_
    refine j_region ?_
    refine r_q (q_move rfl rfl) rfl rfl ?_
    refine r_q (q_assign rfl rfl) rfl rfl ?_
    refine r_nil ?_
    refine j_then ?_
    refine j_ret ?_
    refine j_then_ret ?_
    cases h
    exact j_return rfl (ResOf.tmp rfl ResOf.nil) rfl (fun w h => ⟨(), rfl, (h.drop 2)⟩)
  · refine r_qon (q_move rfl rfl) rfl rfl rfl rfl (beq_f c1) rfl ?_
    obtain ⟨v4, v5, hb4, h⟩ := of_b2 h
    refine j_rs (.box x1 69 [(.slice a0_A (a0.take 2000).length a0_c), (i6 v2)] :: .row x2.A x2.c 25 3 (trips v1) :: F) (fun _ h => h.pick 2 [1, 0] rfl) ?_
    refine r_on (a_call ok40 rfl rfl rfl rfl (fun w hm => spec_l13Rd_pick.calls K x1 (a0.take 2000) a0_A (a0.take 2000).length a0_c v2 (2:Int) hm rfl (rd_hiI (Rd.drop 1 a0_R) 2000) hb4)) rfl rfl rfl rfl (beq_f c1) rfl (fun x4 => ?_)
    refine r_qon (q_eql rfl rfl rfl) rfl rfl rfl rfl (beq_f c1) rfl ?_
    refine r_q (q_pick_f rfl rfl (beq_f c1) rfl) rfl rfl ?_
    refine r_nil ?_
    refine j_then ?_
    rcases of_if h with ⟨c2, h⟩ | ⟨c2, h⟩
    · refine j_true rfl (beq_t c2) ?_
      refine j_seq ?_
      refine j_region ?_
      refine r_q (q_move rfl rfl) rfl rfl ?_
      refine r_q (q_assign rfl rfl) rfl rfl ?_
      refine r_nil ?_
      refine j_then ?_
      refine j_ret ?_
      refine j_then_ret ?_
      cases h
      exact j_return rfl (ResOf.tmp rfl ResOf.nil) rfl (fun w h => ⟨(), rfl, (h.drop 2)⟩)
    · refine j_false rfl (beq_f c2) ?_
      refine j_skip ?_
      refine j_then ?_
      refine j_seq ?_
      refine j_region ?_
      refine r_q (q_move rfl rfl) rfl rfl ?_
      refine r_q (q_move rfl rfl) rfl rfl ?_
      refine r_q (q_len_str rfl rfl rfl rfl un9 rfl) rfl rfl ?_
      obtain ⟨v6, v7, hb5, h⟩ := of_b2 h
      refine r_do (a_call ok40 rfl rfl rfl rfl (fun w hm => spec_l13Rd_pick.calls K x1 (a0.take 2000) a0_A (a0.take 2000).length a0_c v5 (v3.size : Int) hm rfl (rd_hiI (Rd.drop 1 a0_R) 2000) hb5)) rfl rfl (fun x5 => ?_)
      refine r_q (q_assign rfl rfl) rfl rfl ?_
      refine r_nil ?_
      refine j_then ?_
      refine j_seq ?_
      obtain ⟨c3, h⟩ := of_guard h
      obtain ⟨v8, v9, hb6, h⟩ := of_b2 h
      obtain ⟨c4, h⟩ := of_guard h
      obtain ⟨v10, v11, hb7, h⟩ := of_b2 h
      obtain ⟨c5, h⟩ := of_guard h
      obtain ⟨c6, h⟩ := of_guard h
      refine j_draw (.row x2.A x2.c 25 3 (trips v1) :: F) 15 follows_any rfl ?_
      refine d_take 0 rfl (q_move rfl rfl) rfl rfl (by kernel_rfl) (by kernel_rfl) (by kernel_rfl) (fun w h => h.tail) ?_
      refine d_take 1 rfl (q_move rfl rfl) rfl rfl (by kernel_rfl) (by kernel_rfl) (by kernel_rfl) (fun w h => h.tail) ?_
      refine d_take 2 rfl (q_str_hi un9 rfl rfl rfl c3.1 c3.2) rfl rfl (by kernel_rfl) (by kernel_rfl) (by kernel_rfl) (fun w h => h.tail) ?_
      refine d_take 3 rfl (q_move rfl rfl) rfl rfl (by kernel_rfl) (by kernel_rfl) (by kernel_rfl) (fun w h => h.tail) ?_
      refine d_take 7 rfl (q_move rfl rfl) rfl rfl (by kernel_rfl) (by kernel_rfl) (by kernel_rfl) (fun w h => h.tail) ?_
      refine d_take 8 rfl (q_move rfl rfl) rfl rfl (by kernel_rfl) (by kernel_rfl) (by kernel_rfl) (fun w h => h.tail) ?_
      refine d_take 9 rfl (q_move rfl rfl) rfl rfl (by kernel_rfl) (by kernel_rfl) (by kernel_rfl) (fun w h => h.tail) ?_
      refine d_one 4 (by kernel_rfl) ?_
      refine o_do rfl (a_litX (vs := [(.string (⟨#[]⟩ : ByteArray)), (.string (⟨#[32]⟩ : ByteArray)), (.string (⟨#[44]⟩ : ByteArray)), (.string (⟨#[48]⟩ : ByteArray))]) (strs ([(⟨#[]⟩ : ByteArray), (⟨#[32]⟩ : ByteArray), (⟨#[44]⟩ : ByteArray), (⟨#[48]⟩ : ByteArray)] : List ByteArray)) un52 sz9 zr9 rfl rfl rfl rfl rfl rfl rfl rfl rfl) rfl rfl (fun x6 w h => (h.drop 2)) (fun x6 => ?_)
      refine d_one 5 (by kernel_rfl) ?_
      refine j_rs (.box x1 69 [(.slice a0_A (a0.take 2000).length a0_c), (i6 v7)] :: .row x6 4 9 1 (strs ([(⟨#[]⟩ : ByteArray), (⟨#[32]⟩ : ByteArray), (⟨#[44]⟩ : ByteArray), (⟨#[48]⟩ : ByteArray)] : List ByteArray)) :: .row x2.A x2.c 25 3 (trips v1) :: F) (fun _ h => h.pick 3 [1, 0, 2] rfl) ?_
      refine o_do rfl (a_call ok44 rfl rfl rfl rfl (fun w hm => spec_l13Rd_of.calls K x1 (a0.take 2000) a0_A (a0.take 2000).length a0_c v7 ([(⟨#[]⟩ : ByteArray), (⟨#[32]⟩ : ByteArray), (⟨#[44]⟩ : ByteArray), (⟨#[48]⟩ : ByteArray)] : List ByteArray) x6 4 4 hm rfl (rd_hiI (Rd.drop 2 a0_R) 2000) rfl (Rd.row 0 rfl) hb6)) rfl rfl (fun x7 w h => (h.drop 2)) (fun x7 => ?_)
      refine d_take 6 rfl (q_sadd rfl rfl rfl c4) rfl rfl (by kernel_rfl) (by kernel_rfl) (by kernel_rfl) (fun w h => (h.drop 2)) ?_
      refine d_one 10 (by kernel_rfl) ?_
      refine o_do rfl (a_call ok40 rfl rfl rfl rfl (fun w hm => spec_l13Rd_pick.calls K x1 (a0.take 2000) a0_A (a0.take 2000).length a0_c v9 (2:Int) hm rfl (rd_hiI (Rd.drop 2 a0_R) 2000) hb7)) rfl rfl (fun x8 w h => (h.drop 2)) (fun x8 => ?_)
      refine d_take 11 rfl (q_add rfl rfl rfl) rfl rfl (by kernel_rfl) (by kernel_rfl) (by kernel_rfl) (fun w h => (h.drop 2)) ?_
      refine d_take 12 rfl (q_str_lo un9 rfl rfl rfl c5.1 c5.2) rfl rfl (by kernel_rfl) (by kernel_rfl) (by kernel_rfl) (fun w h => (h.drop 2)) ?_
      refine d_take 13 rfl (q_sadd rfl rfl rfl c6) rfl rfl (by kernel_rfl) (by kernel_rfl) (by kernel_rfl) (fun w h => (h.drop 2)) ?_
      refine d_take 14 rfl (q_assign rfl rfl) rfl rfl (by kernel_rfl) (by kernel_rfl) (by kernel_rfl) (fun w h => (h.drop 2)) ?_
      refine d_done (by kernel_rfl) ?_
      refine j_then ?_
      refine j_ret ?_
      cases h
      exact j_return rfl (ResOf.tmp rfl ResOf.nil) rfl (fun w h => ⟨(), rfl, (h.drop 3)⟩)

theorem laws_FnOpsText.calls (K : Nat) (a0 : List Int) (a0_A : Option Addr) (a0_n a0_c : Nat) (a1 : List Int) (a1_A : Option Addr) (a1_n a1_c : Nat) {w0 w : World} {F : List Res} {r1 : Bool} (hm : Mem w0 (F) w) (a0_h : a0.length = a0_n) (a0_R : Rd w0 F a0_A (ints .u8 a0)) (a0_k : a0.length ≤ a0_c) (a1_h : a1.length = a1_n) (a1_R : Rd w0 F a1_A (ints .u8 a1)) (a1_k : a1.length ≤ a1_c) (gT : Rd w0 F (gA 0) (strs opTab)) (gM : ∃ m : Int, Rd w0 F (gA 2) [i6 m]) (h : laws_FnOpsText.f K a0 a1 = some r1) :
    Calls Tryd.prog 5 (List.toArray [.slice a0_A a0_n a0_c, .slice a1_A a1_n a1_c]) w fun e w' => ∃ x : Unit, e = .returned (.bool r1) ∧ Mem w0 (F) w' := by
  unfold laws_FnOpsText.f at h
  refine calls_of_J (n := 75) Tryd.func5 rfl rfl rfl hm ?_
  refine j_seq ?_
  refine j_region ?_
  refine r_q (q_assign rfl rfl) rfl rfl ?_
  refine r_nil ?_
  refine j_then ?_
  refine j_seq ?_
  refine j_seq ?_
  refine j_region ?_
  refine r_q (q_move rfl rfl) rfl rfl ?_
  refine r_q (q_lenX a0 a0_h un34 rfl rfl rfl rfl rfl) rfl rfl ?_
  refine r_q (q_gtr rfl rfl rfl) rfl rfl ?_
  refine r_q (q_move rfl rfl) rfl rfl ?_
  rcases of_if h with ⟨c1, h⟩ | ⟨c1, h⟩
  · refine r_off rfl rfl rfl rfl (decide_eq_true c1) rfl ?_
    refine r_off rfl rfl rfl rfl (decide_eq_true c1) rfl ?_
    refine r_off rfl rfl rfl rfl (decide_eq_true c1) rfl ?_
    refine r_q (q_pick_t rfl rfl (decide_eq_true c1) rfl) rfl rfl ?_
    refine r_nil ?_
    refine j_then ?_
    refine j_true rfl rfl ?_
    refine j_seq ?_
    refine j_region ?_
    refine r_q (q_assign rfl rfl) rfl rfl ?_
    refine r_nil ?_
    refine j_then ?_
    refine j_ret ?_
    refine j_then_ret ?_
    cases h
    exact j_return rfl (ResOf.tmp rfl ResOf.nil) rfl (fun w h => ⟨(), rfl, h⟩)
  · refine r_qon (q_move rfl rfl) rfl rfl rfl rfl (decide_eq_false c1) rfl ?_
    refine r_qon (q_lenX a1 a1_h un34 rfl rfl rfl rfl rfl) rfl rfl rfl rfl (decide_eq_false c1) rfl ?_
    refine r_qon (q_gtr rfl rfl rfl) rfl rfl rfl rfl (decide_eq_false c1) rfl ?_
    refine r_q (q_pick_f rfl rfl (decide_eq_false c1) rfl) rfl rfl ?_
    refine r_nil ?_
    refine j_then ?_
    rcases of_if h with ⟨c2, h⟩ | ⟨c2, h⟩
    · refine j_true rfl (decide_eq_true c2) ?_
      refine j_seq ?_
      refine j_region ?_
      refine r_q (q_assign rfl rfl) rfl rfl ?_
      refine r_nil ?_
      refine j_then ?_
      refine j_ret ?_
      refine j_then_ret ?_
      cases h
      exact j_return rfl (ResOf.tmp rfl ResOf.nil) rfl (fun w h => ⟨(), rfl, h⟩)
    · refine j_false rfl (decide_eq_false c2) ?_
      refine j_skip ?_
      refine j_then ?_
      refine j_seq ?_
      refine j_region ?_
      refine r_q (q_move rfl rfl) rfl rfl ?_
      obtain ⟨v1, hb1, h⟩ := of_b1 h
      refine r_do (a_call ok18 rfl rfl rfl rfl (fun w hm => spec_DrawFormatOps.calls K a0 a0_A a0_n a0_c hm a0_h a0_R a0_k hb1)) rfl rfl (fun x1 => ?_)
      refine r_q (q_assign rfl rfl) rfl rfl ?_
      refine r_nil ?_
      refine j_then ?_
      refine j_seq ?_
      refine j_region ?_
      refine r_q (q_move rfl rfl) rfl rfl ?_
      obtain ⟨v2, hb2, h⟩ := of_b1 h
      refine r_do (a_call ok19 rfl rfl rfl rfl (fun w hm => impl_FormatOps.calls K v1 x1.A x1.n x1.c hm x1.h (Rd.row 0 rfl) (Rd.drop 1 gT) hb2)) rfl rfl (fun x2 => ?_)
      refine r_q (q_assign rfl rfl) rfl rfl ?_
      refine r_nil ?_
      refine j_then ?_
      refine j_seq ?_
      refine j_seq ?_
      refine j_region ?_
      refine r_q (q_move rfl rfl) rfl rfl ?_
      refine r_q (q_move rfl rfl) rfl rfl ?_
      obtain ⟨v3, hb3, h⟩ := of_b1 h
      refine r_do (a_call ok20 rfl rfl rfl rfl (fun w hm => spec_FormatOps.calls K v1 x1.A x1.n x1.c hm x1.h (Rd.row 0 rfl) hb3)) rfl rfl (fun x3 => ?_)
      refine r_q (q_sneq rfl rfl rfl) rfl rfl ?_
      refine r_nil ?_
      refine j_then ?_
      rcases of_if h with ⟨c3, h⟩ | ⟨c3, h⟩
      · refine j_false rfl (not_f (beq_t c3)) ?_
        refine j_skip ?_
        refine j_then ?_
        refine j_seq ?_
        refine j_seq ?_
        refine j_region ?_
        refine r_q (q_move rfl rfl) rfl rfl ?_
        refine r_q (q_sneq rfl rfl rfl) rfl rfl ?_
        refine r_nil ?_
        refine j_then ?_
        rcases of_if h with ⟨c4, h⟩ | ⟨c4, h⟩
        · refine j_false rfl (not_f (beq_t c4)) ?_
          refine j_skip ?_
          refine j_then ?_
          refine j_seq ?_
          refine j_region ?_
          refine r_q (q_move rfl rfl) rfl rfl ?_
          obtain ⟨v4, hb4, h⟩ := of_b1 h
          refine r_do (a_call ok22 rfl rfl rfl rfl (fun w hm => spec_DrawParseOps.calls K a1 a1_A a1_n a1_c hm a1_h (Rd.drop 1 a1_R) a1_k hb4)) rfl rfl (fun x4 => ?_)
          refine r_q (q_assign rfl rfl) rfl rfl ?_
          refine r_nil ?_
          refine j_then ?_
          refine j_seq ?_
          refine j_region ?_
          refine r_q (q_move rfl rfl) rfl rfl ?_
          obtain ⟨v5, v6, hb5, h⟩ := of_b2 h
          refine r_do (a_call ok14 rfl rfl rfl rfl (fun w hm => impl_ParseOps.calls K v4 hm (Rd.drop 1 gT) (rd_ex 1 gM) hb5)) rfl rfl (fun x5 => ?_)
          refine r_q (q_move rfl rfl) rfl rfl ?_
          refine r_q (q_extract rfl rfl rfl) rfl rfl ?_
          refine r_q (q_extract rfl rfl rfl) rfl rfl ?_
          refine r_q (q_assign rfl rfl) rfl rfl ?_
          refine r_q (q_assign rfl rfl) rfl rfl ?_
          refine r_nil ?_
          refine j_then ?_
          refine j_seq ?_
          refine j_region ?_
          refine r_q (q_move rfl rfl) rfl rfl ?_
          obtain ⟨v7, v8, hb6, h⟩ := of_b2 h
          refine r_do (a_call ok13 rfl rfl rfl rfl (fun w hm => spec_ParseOps.calls K v4 hm hb6)) rfl rfl (fun x6 => ?_)
          refine r_q (q_move rfl rfl) rfl rfl ?_
          refine r_q (q_extract rfl rfl rfl) rfl rfl ?_
          refine r_q (q_extract rfl rfl rfl) rfl rfl ?_
          refine r_q (q_assign rfl rfl) rfl rfl ?_
          refine r_q (q_assign rfl rfl) rfl rfl ?_
          refine r_nil ?_
          refine j_then ?_
          refine j_seq ?_
          refine j_region ?_
          refine r_q (q_move rfl rfl) rfl rfl ?_
          refine r_q (q_move rfl rfl) rfl rfl ?_
          obtain ⟨v9, hb7, h⟩ := of_b1 h
          refine r_do (a_call ok21 rfl rfl rfl rfl (fun w hm => laws_ccOps.calls K v5 x5.A x5.n x5.c v7 x6.A x6.n x6.c hm x5.h (Rd.row 1 rfl) x6.h (Rd.row 0 rfl) hb7)) rfl rfl (fun x7 => ?_)
          refine r_q (q_move rfl rfl) rfl rfl ?_
          rcases of_if h with ⟨c5, h⟩ | ⟨c5, h⟩
          · refine r_qon (q_move rfl rfl) rfl rfl rfl rfl c5 rfl ?_
            refine r_qon (q_move rfl rfl) rfl rfl rfl rfl c5 rfl ?_
            refine r_qon (q_beql un4 rfl rfl rfl) rfl rfl rfl rfl c5 rfl ?_
            refine r_q (q_pick_t rfl rfl c5 rfl) rfl rfl ?_
            refine r_q (q_move rfl rfl) rfl rfl ?_
            rcases of_if h with ⟨c6, h⟩ | ⟨c6, h⟩
            · refine r_qon (q_move rfl rfl) rfl rfl rfl rfl (beq_t c6) rfl ?_
              refine r_qon (q_not rfl rfl) rfl rfl rfl rfl (beq_t c6) rfl ?_
              refine r_qon (q_move rfl rfl) rfl rfl rfl rfl (beq_t c6) rfl ?_
              rcases of_if h with ⟨c7, h⟩ | ⟨c7, h⟩
              · refine r_qon (q_move rfl rfl) rfl rfl rfl rfl (not_f c7) rfl ?_
                obtain ⟨v10, hb8, h⟩ := of_b1 h
                refine r_on (a_call ok19 rfl rfl rfl rfl (fun w hm => impl_FormatOps.calls K v5 x5.A x5.n x5.c hm x5.h (Rd.row 1 rfl) (Rd.drop 3 gT) hb8)) rfl rfl rfl rfl (not_f c7) rfl (fun x8 => ?_)
                refine r_qon (q_move rfl rfl) rfl rfl rfl rfl (not_f c7) rfl ?_
                refine r_qon (q_seql rfl rfl rfl) rfl rfl rfl rfl (not_f c7) rfl ?_
                refine r_qon (q_pick_f rfl rfl (not_f c7) rfl) rfl rfl rfl rfl (beq_t c6) rfl ?_
                refine r_q (q_pick_t rfl rfl (beq_t c6) rfl) rfl rfl ?_
                refine r_q (q_assign rfl rfl) rfl rfl ?_
                refine r_nil ?_
                refine j_then ?_
                refine j_ret ?_
                cases h
                exact j_return rfl (ResOf.tmp rfl ResOf.nil) rfl (fun w h => ⟨(), rfl, (h.drop 3)⟩)
              · refine r_off rfl rfl rfl rfl (not_t (var_f c7)) rfl ?_
                refine r_off rfl rfl rfl rfl (not_t (var_f c7)) rfl ?_
                refine r_off rfl rfl rfl rfl (not_t (var_f c7)) rfl ?_
                refine r_off rfl rfl rfl rfl (not_t (var_f c7)) rfl ?_
                refine r_qon (q_pick_t rfl rfl (not_t (var_f c7)) rfl) rfl rfl rfl rfl (beq_t c6) rfl ?_
                refine r_q (q_pick_t rfl rfl (beq_t c6) rfl) rfl rfl ?_
                refine r_q (q_assign rfl rfl) rfl rfl ?_
                refine r_nil ?_
                refine j_then ?_
                refine j_ret ?_
                cases h
                exact j_return rfl (ResOf.tmp rfl ResOf.nil) rfl (fun w h => ⟨(), rfl, (h.drop 3)⟩)
            · refine r_off rfl rfl rfl rfl (beq_f c6) rfl ?_
              refine r_off rfl rfl rfl rfl (beq_f c6) rfl ?_
              refine r_off rfl rfl rfl rfl (beq_f c6) rfl ?_
              refine r_offu rfl rfl rfl rfl rfl ?_
              refine r_offu rfl rfl rfl rfl rfl ?_
              refine r_offu rfl rfl rfl rfl rfl ?_
              refine r_offu rfl rfl rfl rfl rfl ?_
              refine r_off rfl rfl rfl rfl (beq_f c6) rfl ?_
              refine r_q (q_pick_f rfl rfl (beq_f c6) rfl) rfl rfl ?_
              refine r_q (q_assign rfl rfl) rfl rfl ?_
              refine r_nil ?_
              refine j_then ?_
              refine j_ret ?_
              cases h
              exact j_return rfl (ResOf.tmp rfl ResOf.nil) rfl (fun w h => ⟨(), rfl, (h.drop 3)⟩)
          · refine r_off rfl rfl rfl rfl (var_f c5) rfl ?_
            refine r_off rfl rfl rfl rfl (var_f c5) rfl ?_
            refine r_off rfl rfl rfl rfl (var_f c5) rfl ?_
            refine r_q (q_pick_f rfl rfl (var_f c5) rfl) rfl rfl ?_
            refine r_q (q_move rfl rfl) rfl rfl ?_
            refine r_off rfl rfl rfl rfl rfl rfl ?_
            refine r_off rfl rfl rfl rfl rfl rfl ?_
            refine r_off rfl rfl rfl rfl rfl rfl ?_
            refine r_offu rfl rfl rfl rfl rfl ?_
            refine r_offu rfl rfl rfl rfl rfl ?_
            refine r_offu rfl rfl rfl rfl rfl ?_
            refine r_offu rfl rfl rfl rfl rfl ?_
            refine r_off rfl rfl rfl rfl rfl rfl ?_
            refine r_q (q_pick_f rfl rfl rfl rfl) rfl rfl ?_
            refine r_q (q_assign rfl rfl) rfl rfl ?_
            refine r_nil ?_
            refine j_then ?_
            refine j_ret ?_
            cases h
            exact j_return rfl (ResOf.tmp rfl ResOf.nil) rfl (fun w h => ⟨(), rfl, (h.drop 3)⟩)
        · refine j_true rfl (not_t (beq_f c4)) ?_
          refine j_seq ?_
          refine j_region ?_
          refine r_q (q_move rfl rfl) rfl rfl ?_
          obtain ⟨v11, v12, hb9, h⟩ := of_b2 h
          refine r_do (a_call ok14 rfl rfl rfl rfl (fun w hm => impl_ParseOps.calls K v2 hm (Rd.drop 1 gT) (rd_ex 1 gM) hb9)) rfl rfl (fun x9 => ?_)
          refine r_q (q_move rfl rfl) rfl rfl ?_
          refine r_q (q_extract rfl rfl rfl) rfl rfl ?_
          refine r_q (q_extract rfl rfl rfl) rfl rfl ?_
          refine r_q (q_assign rfl rfl) rfl rfl ?_
          refine r_q (q_assign rfl rfl) rfl rfl ?_
          refine r_nil ?_
          refine j_then ?_
          refine j_seq ?_
          refine j_region ?_
          refine r_q (q_move rfl rfl) rfl rfl ?_
          refine r_q (q_not rfl rfl) rfl rfl ?_
          refine r_q (q_move rfl rfl) rfl rfl ?_
          rcases of_if h with ⟨c8, h⟩ | ⟨c8, h⟩
          · refine r_qon (q_move rfl rfl) rfl rfl rfl rfl (not_f c8) rfl ?_
            refine r_qon (q_move rfl rfl) rfl rfl rfl rfl (not_f c8) rfl ?_
            obtain ⟨v13, hb10, h⟩ := of_b1 h
            refine r_on (a_call ok21 rfl rfl rfl rfl (fun w hm => laws_ccOps.calls K v11 x9.A x9.n x9.c v1 x1.A x1.n x1.c hm x9.h (Rd.row 0 rfl) x1.h (Rd.row 1 rfl) hb10)) rfl rfl rfl rfl (not_f c8) rfl (fun x10 => ?_)
            refine r_qon (q_not rfl rfl) rfl rfl rfl rfl (not_f c8) rfl ?_
            refine r_q (q_pick_f rfl rfl (not_f c8) rfl) rfl rfl ?_
            refine r_nil ?_
            refine j_then ?_
            rcases of_if h with ⟨c9, h⟩ | ⟨c9, h⟩
            · refine j_false rfl (not_f c9) ?_
              refine j_skip ?_
              refine j_then ?_
              refine j_seq ?_
              refine j_region ?_
              refine r_q (q_move rfl rfl) rfl rfl ?_
              obtain ⟨v14, hb11, h⟩ := of_b1 h
              refine r_do (a_call ok22 rfl rfl rfl rfl (fun w hm => spec_DrawParseOps.calls K a1 a1_A a1_n a1_c hm a1_h (Rd.drop 2 a1_R) a1_k hb11)) rfl rfl (fun x4 => ?_)
              refine r_q (q_assign rfl rfl) rfl rfl ?_
              refine r_nil ?_
              refine j_then ?_
              refine j_seq ?_
              refine j_region ?_
              refine r_q (q_move rfl rfl) rfl rfl ?_
              obtain ⟨v15, v16, hb12, h⟩ := of_b2 h
              refine r_do (a_call ok14 rfl rfl rfl rfl (fun w hm => impl_ParseOps.calls K v14 hm (Rd.drop 2 gT) (rd_ex 2 gM) hb12)) rfl rfl (fun x5 => ?_)
              refine r_q (q_move rfl rfl) rfl rfl ?_
              refine r_q (q_extract rfl rfl rfl) rfl rfl ?_
              refine r_q (q_extract rfl rfl rfl) rfl rfl ?_
              refine r_q (q_assign rfl rfl) rfl rfl ?_
              refine r_q (q_assign rfl rfl) rfl rfl ?_
              refine r_nil ?_
              refine j_then ?_
              refine j_seq ?_
              refine j_region ?_
              refine r_q (q_move rfl rfl) rfl rfl ?_
              obtain ⟨v17, v18, hb13, h⟩ := of_b2 h
              refine r_do (a_call ok13 rfl rfl rfl rfl (fun w hm => spec_ParseOps.calls K v14 hm hb13)) rfl rfl (fun x6 => ?_)
              refine r_q (q_move rfl rfl) rfl rfl ?_
              refine r_q (q_extract rfl rfl rfl) rfl rfl ?_
              refine r_q (q_extract rfl rfl rfl) rfl rfl ?_
              refine r_q (q_assign rfl rfl) rfl rfl ?_
              refine r_q (q_assign rfl rfl) rfl rfl ?_
              refine r_nil ?_
              refine j_then ?_
              refine j_seq ?_
              refine j_region ?_
              refine r_q (q_move rfl rfl) rfl rfl ?_
              refine r_q (q_move rfl rfl) rfl rfl ?_
              obtain ⟨v19, hb14, h⟩ := of_b1 h
              refine r_do (a_call ok21 rfl rfl rfl rfl (fun w hm => laws_ccOps.calls K v15 x5.A x5.n x5.c v17 x6.A x6.n x6.c hm x5.h (Rd.row 1 rfl) x6.h (Rd.row 0 rfl) hb14)) rfl rfl (fun x7 => ?_)
              refine r_q (q_move rfl rfl) rfl rfl ?_
              rcases of_if h with ⟨c10, h⟩ | ⟨c10, h⟩
              · refine r_qon (q_move rfl rfl) rfl rfl rfl rfl c10 rfl ?_
                refine r_qon (q_move rfl rfl) rfl rfl rfl rfl c10 rfl ?_
                refine r_qon (q_beql un4 rfl rfl rfl) rfl rfl rfl rfl c10 rfl ?_
                refine r_q (q_pick_t rfl rfl c10 rfl) rfl rfl ?_
                refine r_q (q_move rfl rfl) rfl rfl ?_
                rcases of_if h with ⟨c11, h⟩ | ⟨c11, h⟩
                · refine r_qon (q_move rfl rfl) rfl rfl rfl rfl (beq_t c11) rfl ?_
                  refine r_qon (q_not rfl rfl) rfl rfl rfl rfl (beq_t c11) rfl ?_
                  refine r_qon (q_move rfl rfl) rfl rfl rfl rfl (beq_t c11) rfl ?_
                  rcases of_if h with ⟨c12, h⟩ | ⟨c12, h⟩
                  · refine r_qon (q_move rfl rfl) rfl rfl rfl rfl (not_f c12) rfl ?_
                    obtain ⟨v20, hb15, h⟩ := of_b1 h
                    refine r_on (a_call ok19 rfl rfl rfl rfl (fun w hm => impl_FormatOps.calls K v15 x5.A x5.n x5.c hm x5.h (Rd.row 1 rfl) (Rd.drop 4 gT) hb15)) rfl rfl rfl rfl (not_f c12) rfl (fun x8 => ?_)
                    refine r_qon (q_move rfl rfl) rfl rfl rfl rfl (not_f c12) rfl ?_
                    refine r_qon (q_seql rfl rfl rfl) rfl rfl rfl rfl (not_f c12) rfl ?_
                    refine r_qon (q_pick_f rfl rfl (not_f c12) rfl) rfl rfl rfl rfl (beq_t c11) rfl ?_
                    refine r_q (q_pick_t rfl rfl (beq_t c11) rfl) rfl rfl ?_
                    refine r_q (q_assign rfl rfl) rfl rfl ?_
                    refine r_nil ?_
                    refine j_then ?_
                    refine j_ret ?_
                    cases h
                    exact j_return rfl (ResOf.tmp rfl ResOf.nil) rfl (fun w h => ⟨(), rfl, (h.drop 4)⟩)
                  · refine r_off rfl rfl rfl rfl (not_t (var_f c12)) rfl ?_
                    refine r_off rfl rfl rfl rfl (not_t (var_f c12)) rfl ?_
                    refine r_off rfl rfl rfl rfl (not_t (var_f c12)) rfl ?_
                    refine r_off rfl rfl rfl rfl (not_t (var_f c12)) rfl ?_
                    refine r_qon (q_pick_t rfl rfl (not_t (var_f c12)) rfl) rfl rfl rfl rfl (beq_t c11) rfl ?_
                    refine r_q (q_pick_t rfl rfl (beq_t c11) rfl) rfl rfl ?_
                    refine r_q (q_assign rfl rfl) rfl rfl ?_
                    refine r_nil ?_
                    refine j_then ?_
                    refine j_ret ?_
                    cases h
                    exact j_return rfl (ResOf.tmp rfl ResOf.nil) rfl (fun w h => ⟨(), rfl, (h.drop 4)⟩)
                · refine r_off rfl rfl rfl rfl (beq_f c11) rfl ?_
                  refine r_off rfl rfl rfl rfl (beq_f c11) rfl ?_
                  refine r_off rfl rfl rfl rfl (beq_f c11) rfl ?_
                  refine r_offu rfl rfl rfl rfl rfl ?_
                  refine r_offu rfl rfl rfl rfl rfl ?_
                  refine r_offu rfl rfl rfl rfl rfl ?_
                  refine r_offu rfl rfl rfl rfl rfl ?_
                  refine r_off rfl rfl rfl rfl (beq_f c11) rfl ?_
                  refine r_q (q_pick_f rfl rfl (beq_f c11) rfl) rfl rfl ?_
                  refine r_q (q_assign rfl rfl) rfl rfl ?_
                  refine r_nil ?_
                  refine j_then ?_
                  refine j_ret ?_
                  cases h
                  exact j_return rfl (ResOf.tmp rfl ResOf.nil) rfl (fun w h => ⟨(), rfl, (h.drop 4)⟩)
              · refine r_off rfl rfl rfl rfl (var_f c10) rfl ?_
                refine r_off rfl rfl rfl rfl (var_f c10) rfl ?_
                refine r_off rfl rfl rfl rfl (var_f c10) rfl ?_
                refine r_q (q_pick_f rfl rfl (var_f c10) rfl) rfl rfl ?_
                refine r_q (q_move rfl rfl) rfl rfl ?_
                refine r_off rfl rfl rfl rfl rfl rfl ?_
                refine r_off rfl rfl rfl rfl rfl rfl ?_
                refine r_off rfl rfl rfl rfl rfl rfl ?_
                refine r_offu rfl rfl rfl rfl rfl ?_
                refine r_offu rfl rfl rfl rfl rfl ?_
                refine r_offu rfl rfl rfl rfl rfl ?_
                refine r_offu rfl rfl rfl rfl rfl ?_
                refine r_off rfl rfl rfl rfl rfl rfl ?_
                refine r_q (q_pick_f rfl rfl rfl rfl) rfl rfl ?_
                refine r_q (q_assign rfl rfl) rfl rfl ?_
                refine r_nil ?_
                refine j_then ?_
                refine j_ret ?_
                cases h
                exact j_return rfl (ResOf.tmp rfl ResOf.nil) rfl (fun w h => ⟨(), rfl, (h.drop 4)⟩)
            · refine j_true rfl (not_t (var_f c9)) ?_
              refine j_seq ?_
              refine j_region ?_
              refine r_q (q_assign rfl rfl) rfl rfl ?_
              refine r_nil ?_
              refine j_then ?_
              refine j_ret ?_
              refine j_then_ret ?_
              cases h
              exact j_return rfl (ResOf.tmp rfl ResOf.nil) rfl (fun w h => ⟨(), rfl, (h.drop 2)⟩)
          · refine r_off rfl rfl rfl rfl (not_t (var_f c8)) rfl ?_
            refine r_off rfl rfl rfl rfl (not_t (var_f c8)) rfl ?_
            refine r_off rfl rfl rfl rfl (not_t (var_f c8)) rfl ?_
            refine r_off rfl rfl rfl rfl (not_t (var_f c8)) rfl ?_
            refine r_q (q_pick_t rfl rfl (not_t (var_f c8)) rfl) rfl rfl ?_
            refine r_nil ?_
            refine j_then ?_
            refine j_true rfl rfl ?_
            refine j_seq ?_
            refine j_region ?_
            refine r_q (q_assign rfl rfl) rfl rfl ?_
            refine r_nil ?_
            refine j_then ?_
            refine j_ret ?_
            refine j_then_ret ?_
            cases h
            exact j_return rfl (ResOf.tmp rfl ResOf.nil) rfl (fun w h => ⟨(), rfl, (h.drop 2)⟩)
      · refine j_true rfl (not_t (beq_f c3)) ?_
        refine j_seq ?_
        refine j_region ?_
        refine r_q (q_assign rfl rfl) rfl rfl ?_
        refine r_nil ?_
        refine j_then ?_
        refine j_ret ?_
        refine j_then_ret ?_
        cases h
        exact j_return rfl (ResOf.tmp rfl ResOf.nil) rfl (fun w h => ⟨(), rfl, h.tail⟩)

end Go.Proofs.YtnfaiojmabolmaaDoor.F
