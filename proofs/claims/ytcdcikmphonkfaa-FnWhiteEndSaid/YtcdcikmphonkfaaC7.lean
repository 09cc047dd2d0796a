/- The program computes these pure functions, printed by the generator of wip/gen. -/
import Derived.Test.YtcdcikmphonkfaaFa
import Derived.Test.YtcdcikmphonkfaaFi
import Derived.Test.YtcdcikmphonkfaaFb
import Derived.Test.YtcdcikmphonkfaaC1
import Derived.Test.YtcdcikmphonkfaaC4
namespace Go.Proofs.Ytcdcikmphonkfaa.F
open Go Go.RowKit Go.Proofs.Ytcdcikmphonkfaa.S
set_option linter.unusedVariables false
set_option maxRecDepth 100000
theorem impl_look.calls (K : Nat) (a0_0 : List Int) (a0_0_A : Option Addr) (a0_0_n a0_0_c : Nat) (a0_1 : List Int) (a0_1_A : Option Addr) (a0_1_n a0_1_c : Nat) (a0_2_A : Option Addr) (a0_2_n a0_2_c : Nat) (a1 : List Int) (a1_A : Option Addr) (a1_n a1_c : Nat) {w0 w : World} {F : List Res} {r1 : Bool} {r2 : List Int} (hm : Mem w0 (.row a1_A a1_c 3 1 (ii a1) :: F) w) (a0_0_h : a0_0.length = a0_0_n) (a0_0_R : Rd w0 F a0_0_A (ii a0_0)) (a0_1_h : a0_1.length = a0_1_n) (a0_1_R : Rd w0 F a0_1_A (ii a0_1)) (a1_h : a1.length = a1_n) (h : impl_look.f K a0_0 a0_1 a1 = some (r1, r2)) :
    Calls Try.prog 71 (List.toArray [.agg (List.toArray [.slice a0_0_A a0_0_n a0_0_c, .slice a0_1_A a0_1_n a0_1_c, .slice a0_2_A a0_2_n a0_2_c]), .slice a1_A a1_n a1_c]) w fun e w' => ∃ x : (Ln r2.length a1.length), e = .returned (.bool r1) ∧ Mem w0 (.row a1_A a1_c 3 1 (ii r2) :: F) w' := by
  unfold impl_look.f at h
  refine calls_of_J (n := 27) Try.func71 rfl rfl rfl hm ?_
  refine j_seq ?_
  refine j_region ?_
  refine r_do (a_box rfl rfl) rfl rfl (fun x1 => ?_)
  refine r_q (q_assign rfl rfl) rfl rfl ?_
  refine r_nil ?_
  refine j_then ?_
  refine j_seq ?_
  refine j_region ?_
  refine r_q (q_move rfl rfl) rfl rfl ?_
  obtain ⟨v1, hb1, h⟩ := of_b1 h
  refine r_do (a_call ok93 rfl rfl rfl rfl (fun w hm => slices_Index_int.calls K a1 a1_A a1_n a1_c (1:Int) hm a1_h (Rd.row 1 rfl) hb1)) rfl rfl (fun x2 => ?_)
  refine r_q (q_assign rfl rfl) rfl rfl ?_
  refine r_nil ?_
  refine j_then ?_
  refine j_seq ?_
  refine j_seq ?_
  refine j_region ?_
  refine r_q (q_move rfl rfl) rfl rfl ?_
  refine r_q (q_lss rfl rfl rfl) rfl rfl ?_
  refine r_nil ?_
  refine j_then ?_
  rcases of_if h with ⟨c1, h⟩ | ⟨c1, h⟩
  · refine j_true rfl (decide_eq_true c1) ?_
    refine j_seq ?_
    refine j_region ?_
    refine r_q (q_assign rfl rfl) rfl rfl ?_
    refine r_nil ?_
    refine j_then ?_
    refine j_ret ?_
    refine j_then_ret ?_
    cases h
    exact j_return rfl (ResOf.tmp rfl ResOf.nil) rfl (fun w h => ⟨⟨Eq.trans a1_h a1_h.symm⟩, rfl, h.tail⟩)
  · refine j_false rfl (decide_eq_false c1) ?_
    refine j_skip ?_
    refine j_then ?_
    refine j_seq ?_
    refine j_region ?_
    refine r_q (q_move rfl rfl) rfl rfl ?_
    refine r_q (q_fieldAddr fi25_0 sz23 rfl rfl rfl) rfl rfl ?_
    refine r_q (q_loadb 0 rfl ag23 rfl rfl rfl) rfl rfl ?_
    refine r_q (q_move rfl rfl) rfl rfl ?_
    obtain ⟨c2, h⟩ := of_guard h
    refine r_q (q_ix (Rd.drop 2 a0_0_R) (ints_len1 _ a0_0) (by decide) a0_0_h c2 un23 sz3 rfl rfl rfl) rfl rfl ?_
    refine r_q (q_ldI (Rd.drop 2 a0_0_R) c2 ag3 rfl rfl) rfl rfl ?_
    obtain ⟨v2, hb2, h⟩ := of_b1 h
    refine j_rs (.row a1_A a1_c 3 1 (ii a1) :: .box x1 25 [(.slice a0_0_A a0_0_n a0_0_c), (.slice a0_1_A a0_1_n a0_1_c), (.slice a0_2_A a0_2_n a0_2_c)] :: F) (fun _ h => h.pick 2 [1, 0] rfl) ?_
    refine r_do (a_call ok58 rfl rfl rfl rfl (fun w hm => impl_shade.calls K a1 a1_A a1_n a1_c (rd a0_0 v1) hm a1_h hb2)) rfl rfl (fun x3 => ?_)
    refine r_nil ?_
    refine j_then ?_
    refine j_seq ?_
    refine j_region ?_
    refine r_q (q_move rfl rfl) rfl rfl ?_
    refine r_q (q_fieldAddr fi25_1 sz23 rfl rfl rfl) rfl rfl ?_
    refine r_q (q_loadb 1 rfl ag23 rfl rfl rfl) rfl rfl ?_
    refine r_q (q_move rfl rfl) rfl rfl ?_
    obtain ⟨c3, h⟩ := of_guard h
    refine r_q (q_ix (Rd.drop 2 a0_1_R) (ints_len1 _ a0_1) (by decide) a0_1_h c3 un23 sz3 rfl rfl rfl) rfl rfl ?_
    refine r_q (q_ldI (Rd.drop 2 a0_1_R) c3 ag3 rfl rfl) rfl rfl ?_
    obtain ⟨v3, hb3, h⟩ := of_b1 h
    refine r_do (a_call ok58 rfl rfl rfl rfl (fun w hm => impl_shade.calls K v2 a1_A a1_n a1_c (rd a0_1 v1) hm (x3.h.trans a1_h) hb3)) rfl rfl (fun x4 => ?_)
    refine r_nil ?_
    refine j_then ?_
    refine j_seq ?_
    refine j_region ?_
    refine r_q (q_move rfl rfl) rfl rfl ?_
    refine r_q (q_move rfl rfl) rfl rfl ?_
    obtain ⟨c4, h⟩ := of_guard h
    refine r_q (q_ix (Rd.row 0 rfl) (ints_len1 _ v3) (by decide) (x4.h.trans (x3.h.trans a1_h)) c4 un23 sz3 rfl rfl rfl) rfl rfl ?_
    refine r_do (a_stI 0 rfl c4 sz3 rfl rfl rfl) rfl rfl (fun _ => ?_)
    refine j_s0 ?_
    refine r_nil ?_
    refine j_then ?_
    refine j_seq ?_
    refine j_region ?_
    refine r_q (q_assign rfl rfl) rfl rfl ?_
    refine r_nil ?_
    refine j_then ?_
    refine j_ret ?_
    cases h
    exact j_return rfl (ResOf.tmp rfl ResOf.nil) rfl (fun w h => ⟨⟨Eq.trans (set_len (x4.h.trans (x3.h.trans a1_h)) _ _) a1_h.symm⟩, rfl, h.pick 2 [0] rfl⟩)

end Go.Proofs.Ytcdcikmphonkfaa.F
