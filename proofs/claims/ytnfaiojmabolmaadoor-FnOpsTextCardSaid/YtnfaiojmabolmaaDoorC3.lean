/- The program computes these pure functions, printed by the generator of wip/gen. -/
import Derived.Test.YtnfaiojmabolmaaDoorFa
import Derived.Test.YtnfaiojmabolmaaDoorFl
import Derived.Test.YtnfaiojmabolmaaDoorFm
import Derived.Test.YtnfaiojmabolmaaDoorFb
import Derived.Test.YtnfaiojmabolmaaDoorDd
import Derived.Test.YtnfaiojmabolmaaDoorC0
namespace Go.Proofs.YtnfaiojmabolmaaDoor.F
open Go Go.RowKit Go.Proofs.YtnfaiojmabolmaaDoor.S
set_option linter.unusedVariables false
set_option maxRecDepth 100000
theorem spec_l13Cut.calls (K : Nat) (a0 : ByteArray) (a1 : Int) {w0 w : World} {F : List Res} {r1 : List ByteArray} (hm : Mem w0 (F) w)  (h : spec_l13Cut.f K a0 a1 = some r1) :
    Calls Tryd.prog 36 (List.toArray [.string a0, .int .u8 a1]) w fun e w' => ∃ x : (Sl r1.length), e = .returned (.slice x.A x.n x.c) ∧ Mem w0 (.row x.A x.c 9 1 (strs r1) :: F) w' := by
  unfold spec_l13Cut.f at h
  refine calls_of_J (n := 36) Tryd.func36 rfl rfl rfl hm ?_
  refine j_seq ?_
  refine j_region ?_
  refine r_q (q_assign rfl rfl) rfl rfl ?_
  refine r_nil ?_
  refine j_then ?_
  refine j_seq ?_
  refine j_region ?_
  refine r_do (a_litX (vs := []) (strs ([] : List ByteArray)) un52 sz9 zr9 rfl rfl rfl rfl rfl rfl rfl rfl rfl) rfl rfl (fun x1 => ?_)
  refine r_q (q_assign rfl rfl) rfl rfl ?_
  refine r_nil ?_
  refine j_then ?_
  refine j_seq ?_
  refine j_region ?_
  refine r_q (q_assign rfl rfl) rfl rfl ?_
  refine r_nil ?_
  refine j_then ?_
  refine j_seq ?_
  refine j_seq ?_
  refine j_region ?_
  refine r_q (q_assign rfl rfl) rfl rfl ?_
  refine r_nil ?_
  refine j_then ?_
  obtain ⟨κ0, h, hκ0⟩ := ex_k (g := fun κ => spec_l13Cut.loop0 K κ a0 a1 K ([] : List ByteArray) (0:Int) (0:Int) = some r1) h
  refine j_cut (σ := (Option Addr) × Nat × Nat × (List ByteArray)) (fun s => [(5, (.slice s.1 s.2.1 s.2.2.1))]) (fun s => .row s.1 s.2.2.1 9 1 (strs s.2.2.2) :: F) (fun s => κ0 s.2.2.2 = some r1 ∧ (s.2.2.2.length = s.2.1)) ?_ ?_
  · refine j_block ?_
    refine j_loop (σ := (Option Addr) × Nat × Nat × (List ByteArray) × Int × Int) (fun s => [(0, (.string a0)), (1, (.int .u8 a1)), (5, (.slice s.1 s.2.1 s.2.2.1)), (6, (i6 s.2.2.2.2.1)), (7, (i6 s.2.2.2.2.2))]) (fun s => .row s.1 s.2.2.1 9 1 (strs s.2.2.2.1) :: F) (fun m s => spec_l13Cut.loop0 K κ0 a0 a1 m s.2.2.2.1 s.2.2.2.2.1 s.2.2.2.2.2 = some r1 ∧ (s.2.2.2.1.length = s.2.1)) K (x1, 0, 0, ([] : List ByteArray), (0:Int), (0:Int)) ⟨h, rfl⟩ (fun a he => he.sub ⟨rfl, rfl, rfl, rfl, rfl, trivial⟩) (fun w h => h) ?_
    rintro m ⟨A2, n2, d2, l2, p3, p4⟩ ⟨h, q2⟩
    cases m with
    | zero => exact absurd h (by rw [spec_l13Cut.loop0]; exact nofun)
    | succ m =>
      rw [spec_l13Cut.loop0] at h
      show J _ _ [(0, (.string a0)), (1, (.int .u8 a1)), (5, (.slice A2 n2 d2)), (6, (i6 p3)), (7, (i6 p4))] _ (.row A2 d2 9 1 (strs l2) :: F)
      refine j_seq ?_
      refine j_seq ?_
      refine j_region ?_
      refine r_q (q_move rfl rfl) rfl rfl ?_
      refine r_q (q_move rfl rfl) rfl rfl ?_
      refine r_q (q_len_str rfl rfl rfl rfl un9 rfl) rfl rfl ?_
      refine r_q (q_leq rfl rfl rfl) rfl rfl ?_
      refine r_nil ?_
      refine j_then ?_
      rcases of_if h with ⟨c25, h⟩ | ⟨c25, h⟩
      · refine j_true rfl (decide_eq_true c25) ?_
        refine j_skip ?_
        refine j_then ?_
        refine j_seq ?_
        refine j_block ?_
        refine j_seq ?_
        refine j_region ?_
        refine r_q (q_move rfl rfl) rfl rfl ?_
        refine r_q (q_move rfl rfl) rfl rfl ?_
        refine r_q (q_len_str rfl rfl rfl rfl un9 rfl) rfl rfl ?_
        refine r_q (q_eql rfl rfl rfl) rfl rfl ?_
        refine r_q (q_move rfl rfl) rfl rfl ?_
        rcases of_if h with ⟨c26, h⟩ | ⟨c26, h⟩
        · refine r_off rfl rfl rfl rfl (beq_t c26) rfl ?_
          refine r_off rfl rfl rfl rfl (beq_t c26) rfl ?_
          refine r_off rfl rfl rfl rfl (beq_t c26) rfl ?_
          refine r_off rfl rfl rfl rfl (beq_t c26) rfl ?_
          refine r_off rfl rfl rfl rfl (beq_t c26) rfl ?_
          refine r_q (q_pick_t rfl rfl (beq_t c26) rfl) rfl rfl ?_
          refine r_nil ?_
          refine j_then ?_
          refine j_true rfl rfl ?_
          refine j_seq ?_
          refine j_region ?_
          refine r_q (q_move rfl rfl) rfl rfl ?_
          refine r_q (q_move rfl rfl) rfl rfl ?_
          refine r_q (q_move rfl rfl) rfl rfl ?_
          refine r_q (q_move rfl rfl) rfl rfl ?_
          obtain ⟨c27, h⟩ := of_guard h
          refine r_q (q_str_cut un9 rfl rfl rfl rfl c27.1 c27.2.1 c27.2.2) rfl rfl ?_
          refine r_do (a_litX (vs := [(.string (a0.extract p3.toNat p4.toNat))]) (strs ([(a0.extract p3.toNat p4.toNat)] : List ByteArray)) un52 sz9 zr9 rfl rfl rfl rfl rfl rfl rfl rfl rfl) rfl rfl (fun x2 => ?_)
          obtain ⟨c28, h⟩ := of_guard h
          refine r_do (a_appS (xs := l2) (ys := ([(a0.extract p3.toNat p4.toNat)] : List ByteArray)) 1 un52 un52 sz9 by9 zr9 rfl rfl rfl rfl rfl rfl rfl rfl rfl q2 rfl (Rd.row 0 rfl) c28) rfl rfl (fun x3 => ?_)
          refine j_s1 ?_
          refine r_q (q_assign rfl rfl) rfl rfl ?_
          refine r_nil ?_
          refine j_then ?_
          refine j_region ?_
          refine r_q (q_move rfl rfl) rfl rfl ?_
          refine r_q (q_add rfl rfl rfl) rfl rfl ?_
          refine r_q (q_assign rfl rfl) rfl rfl ?_
          refine r_nil ?_
          refine j_in ?_
          refine j_then ?_
          refine j_region ?_
          refine r_q (q_move rfl rfl) rfl rfl ?_
          refine r_q (q_add rfl rfl rfl) rfl rfl ?_
          refine r_q (q_assign rfl rfl) rfl rfl ?_
          refine r_nil ?_
          refine j_then ?_
          exact j_again m (x3.1, (n2 + 1), x3.2, (l2 ++ ([(a0.extract p3.toNat p4.toNat)] : List ByteArray)), (wrap64 (p4 + (1:Int))), (wrap64 (p4 + (1:Int)))) (Nat.lt_succ_self m) ⟨h, (app_len q2 rfl)⟩ (fun a he => he.sub ⟨rfl, rfl, rfl, rfl, rfl, trivial⟩) (fun w h => h.tail)
        · refine r_qon (q_move rfl rfl) rfl rfl rfl rfl (beq_f c26) rfl ?_
          refine r_qon (q_move rfl rfl) rfl rfl rfl rfl (beq_f c26) rfl ?_
          obtain ⟨c29, h⟩ := of_guard h
          refine r_qon (q_sindex un9 rfl rfl rfl c29.1 c29.2) rfl rfl rfl rfl (beq_f c26) rfl ?_
          refine r_qon (q_move rfl rfl) rfl rfl rfl rfl (beq_f c26) rfl ?_
          refine r_qon (q_eql rfl rfl rfl) rfl rfl rfl rfl (beq_f c26) rfl ?_
          refine r_q (q_pick_f rfl rfl (beq_f c26) rfl) rfl rfl ?_
          refine r_nil ?_
          refine j_then ?_
          rcases of_if h with ⟨c30, h⟩ | ⟨c30, h⟩
          · refine j_true rfl (beq_t c30) ?_
            refine j_seq ?_
            refine j_region ?_
            refine r_q (q_move rfl rfl) rfl rfl ?_
            refine r_q (q_move rfl rfl) rfl rfl ?_
            refine r_q (q_move rfl rfl) rfl rfl ?_
            refine r_q (q_move rfl rfl) rfl rfl ?_
            obtain ⟨c31, h⟩ := of_guard h
            refine r_q (q_str_cut un9 rfl rfl rfl rfl c31.1 c31.2.1 c31.2.2) rfl rfl ?_
            refine r_do (a_litX (vs := [(.string (a0.extract p3.toNat p4.toNat))]) (strs ([(a0.extract p3.toNat p4.toNat)] : List ByteArray)) un52 sz9 zr9 rfl rfl rfl rfl rfl rfl rfl rfl rfl) rfl rfl (fun x2 => ?_)
            obtain ⟨c32, h⟩ := of_guard h
            refine r_do (a_appS (xs := l2) (ys := ([(a0.extract p3.toNat p4.toNat)] : List ByteArray)) 1 un52 un52 sz9 by9 zr9 rfl rfl rfl rfl rfl rfl rfl rfl rfl q2 rfl (Rd.row 0 rfl) c32) rfl rfl (fun x3 => ?_)
            refine j_s1 ?_
            refine r_q (q_assign rfl rfl) rfl rfl ?_
            refine r_nil ?_
            refine j_then ?_
            refine j_region ?_
            refine r_q (q_move rfl rfl) rfl rfl ?_
            refine r_q (q_add rfl rfl rfl) rfl rfl ?_
            refine r_q (q_assign rfl rfl) rfl rfl ?_
            refine r_nil ?_
            refine j_in ?_
            refine j_then ?_
            refine j_region ?_
            refine r_q (q_move rfl rfl) rfl rfl ?_
            refine r_q (q_add rfl rfl rfl) rfl rfl ?_
            refine r_q (q_assign rfl rfl) rfl rfl ?_
            refine r_nil ?_
            refine j_then ?_
            exact j_again m (x3.1, (n2 + 1), x3.2, (l2 ++ ([(a0.extract p3.toNat p4.toNat)] : List ByteArray)), (wrap64 (p4 + (1:Int))), (wrap64 (p4 + (1:Int)))) (Nat.lt_succ_self m) ⟨h, (app_len q2 rfl)⟩ (fun a he => he.sub ⟨rfl, rfl, rfl, rfl, rfl, trivial⟩) (fun w h => h.tail)
          · refine j_false rfl (beq_f c30) ?_
            refine j_skip ?_
            refine j_in ?_
            refine j_then ?_
            refine j_region ?_
            refine r_q (q_move rfl rfl) rfl rfl ?_
            refine r_q (q_add rfl rfl rfl) rfl rfl ?_
            refine r_q (q_assign rfl rfl) rfl rfl ?_
            refine r_nil ?_
            refine j_then ?_
            exact j_again m (A2, n2, d2, l2, p3, (wrap64 (p4 + (1:Int)))) (Nat.lt_succ_self m) ⟨h, q2⟩ (fun a he => he.sub ⟨rfl, rfl, rfl, rfl, rfl, trivial⟩) (fun w h => h)
      · refine j_false rfl (decide_eq_false c25) ?_
        refine j_exit ?_
        refine j_then_exit ?_
        refine j_then_exit ?_
        refine j_in_exit ?_
        refine j_then ?_
        exact j_meet (A2, n2, d2, l2) ⟨h, q2⟩ (fun a he => he.sub ⟨rfl, trivial⟩) (fun w h => h)
  · rintro ⟨A3, n3, d3, l3⟩ ⟨h, q3⟩
    subst hκ0
    show J _ _ [(5, (.slice A3 n3 d3))] _ (.row A3 d3 9 1 (strs l3) :: F)
    refine j_then ?_
    refine j_seq ?_
    refine j_region ?_
    refine r_q (q_move rfl rfl) rfl rfl ?_
    refine r_q (q_assign rfl rfl) rfl rfl ?_
    refine r_nil ?_
    refine j_then ?_
    refine j_ret ?_
    cases h
    exact j_return rfl (ResOf.tmp rfl ResOf.nil) rfl (fun w h => ⟨⟨A3, n3, d3, q3⟩, rfl, h⟩)

theorem spec_ParseOp.calls (K : Nat) (a0 : ByteArray) {w0 w : World} {F : List Res} {r1 : Int} {r2 : Int} {r3 : Int} {r4 : Bool} (hm : Mem w0 (F) w)  (h : spec_ParseOp.f K a0 = some (r1, r2, r3, r4)) :
    Calls Tryd.prog 23 (List.toArray [.string a0]) w fun e w' => ∃ x : Unit, e = .returned (.tuple (List.toArray [.agg (List.toArray [i6 r1, i6 r2, i6 r3]), .bool r4])) ∧ Mem w0 (F) w' := by
  unfold spec_ParseOp.f at h
  refine calls_of_J (n := 34) Tryd.func23 rfl rfl rfl hm ?_
  refine j_seq ?_
  refine j_region ?_
  refine r_do (a_alloc zr25 rfl) rfl rfl (fun x1 => ?_)
  refine r_q (q_assign rfl rfl) rfl rfl ?_
  refine r_nil ?_
  refine j_then ?_
  refine j_seq ?_
  refine j_seq ?_
  refine j_region ?_
  refine r_q (q_assign rfl rfl) rfl rfl ?_
  refine r_nil ?_
  refine j_then ?_
  obtain ⟨κ0, h, hκ0⟩ := ex_k (g := fun κ => spec_ParseOp.loop0 K κ a0 K (1:Int) = some (r1, r2, r3, r4)) h
  refine j_cut (σ := Unit) (fun s => [(2, (pt x1))]) (fun s => .box x1 25 [(i6 (0:Int)), (i6 (0:Int)), (i6 (0:Int))] :: F) (fun s => κ0 () = some (r1, r2, r3, r4)) ?_ ?_
  · refine j_block ?_
    refine j_loop (σ := Int) (fun s => [(0, (.string a0)), (2, (pt x1)), (4, (i6 s))]) (fun s => .box x1 25 [(i6 (0:Int)), (i6 (0:Int)), (i6 (0:Int))] :: F) (fun m s => spec_ParseOp.loop0 K κ0 a0 m s = some (r1, r2, r3, r4)) K (1:Int) h (fun a he => he.sub ⟨rfl, rfl, rfl, trivial⟩) (fun w h => h) ?_
    rintro m p22 h
    cases m with
    | zero => exact absurd h (by rw [spec_ParseOp.loop0]; exact nofun)
    | succ m =>
      rw [spec_ParseOp.loop0] at h
      show J _ _ [(0, (.string a0)), (2, (pt x1)), (4, (i6 p22))] _ (.box x1 25 [(i6 (0:Int)), (i6 (0:Int)), (i6 (0:Int))] :: F)
      refine j_seq ?_
      refine j_seq ?_
      refine j_region ?_
      refine r_q (q_move rfl rfl) rfl rfl ?_
      refine r_q (q_leq rfl rfl rfl) rfl rfl ?_
      refine r_nil ?_
      refine j_then ?_
      rcases of_if h with ⟨c144, h⟩ | ⟨c144, h⟩
      · refine j_true rfl (decide_eq_true c144) ?_
        refine j_skip ?_
        refine j_then ?_
        refine j_seq ?_
        refine j_block ?_
        refine j_seq ?_
        refine j_region ?_
        refine r_q (q_assign rfl rfl) rfl rfl ?_
        refine r_nil ?_
        refine j_then ?_
        obtain ⟨κ1, h, hκ1⟩ := ex_k (g := fun κ => spec_ParseOp.loop1 K κ a0 p22 K (0:Int) = some (r1, r2, r3, r4)) h
        refine j_cut (σ := Unit) (fun s => [(0, (.string a0)), (2, (pt x1)), (4, (i6 p22))]) (fun s => .box x1 25 [(i6 (0:Int)), (i6 (0:Int)), (i6 (0:Int))] :: F) (fun s => κ1 () = some (r1, r2, r3, r4)) ?_ ?_
        · refine j_block ?_
          refine j_loop (σ := Int) (fun s => [(0, (.string a0)), (2, (pt x1)), (4, (i6 p22)), (5, (i6 s))]) (fun s => .box x1 25 [(i6 (0:Int)), (i6 (0:Int)), (i6 (0:Int))] :: F) (fun m s => spec_ParseOp.loop1 K κ1 a0 p22 m s = some (r1, r2, r3, r4)) K (0:Int) h (fun a he => he.sub ⟨rfl, rfl, rfl, rfl, trivial⟩) (fun w h => h) ?_
          rintro m p38 h
          cases m with
          | zero => exact absurd h (by rw [spec_ParseOp.loop1]; exact nofun)
          | succ m =>
            rw [spec_ParseOp.loop1] at h
            show J _ _ [(0, (.string a0)), (2, (pt x1)), (4, (i6 p22)), (5, (i6 p38))] _ (.box x1 25 [(i6 (0:Int)), (i6 (0:Int)), (i6 (0:Int))] :: F)
            refine j_seq ?_
            refine j_seq ?_
            refine j_region ?_
            refine r_q (q_move rfl rfl) rfl rfl ?_
            refine r_q (q_lss rfl rfl rfl) rfl rfl ?_
            refine r_nil ?_
            refine j_then ?_
            rcases of_if h with ⟨c180, h⟩ | ⟨c180, h⟩
            · refine j_true rfl (decide_eq_true c180) ?_
              refine j_skip ?_
              refine j_then ?_
              refine j_seq ?_
              refine j_block ?_
              refine j_seq ?_
              refine j_region ?_
              refine r_q (q_assign rfl rfl) rfl rfl ?_
              refine r_nil ?_
              refine j_then ?_
              obtain ⟨κ2, h, hκ2⟩ := ex_k (g := fun κ => spec_ParseOp.loop2 K κ a0 p22 p38 K (0:Int) = some (r1, r2, r3, r4)) h
              refine j_cut (σ := Unit) (fun s => [(0, (.string a0)), (2, (pt x1)), (4, (i6 p22)), (5, (i6 p38))]) (fun s => .box x1 25 [(i6 (0:Int)), (i6 (0:Int)), (i6 (0:Int))] :: F) (fun s => κ2 () = some (r1, r2, r3, r4)) ?_ ?_
              · refine j_block ?_
                refine j_loop (σ := Int) (fun s => [(0, (.string a0)), (2, (pt x1)), (4, (i6 p22)), (5, (i6 p38)), (6, (i6 s))]) (fun s => .box x1 25 [(i6 (0:Int)), (i6 (0:Int)), (i6 (0:Int))] :: F) (fun m s => spec_ParseOp.loop2 K κ2 a0 p22 p38 m s = some (r1, r2, r3, r4)) K (0:Int) h (fun a he => he.sub ⟨rfl, rfl, rfl, rfl, rfl, trivial⟩) (fun w h => h) ?_
                rintro m p42 h
                cases m with
                | zero => exact absurd h (by rw [spec_ParseOp.loop2]; exact nofun)
                | succ m =>
                  rw [spec_ParseOp.loop2] at h
                  show J _ _ [(0, (.string a0)), (2, (pt x1)), (4, (i6 p22)), (5, (i6 p38)), (6, (i6 p42))] _ (.box x1 25 [(i6 (0:Int)), (i6 (0:Int)), (i6 (0:Int))] :: F)
                  refine j_seq ?_
                  refine j_seq ?_
                  refine j_region ?_
                  refine r_q (q_move rfl rfl) rfl rfl ?_
                  refine r_q (q_lss rfl rfl rfl) rfl rfl ?_
                  refine r_nil ?_
                  refine j_then ?_
                  rcases of_if h with ⟨c189, h⟩ | ⟨c189, h⟩
                  · refine j_true rfl (decide_eq_true c189) ?_
                    refine j_skip ?_
                    refine j_then ?_
                    refine j_seq ?_
                    refine j_block ?_
                    refine j_seq ?_
                    refine j_region ?_
                    refine r_q (q_move rfl rfl) rfl rfl ?_
                    refine r_q (q_move rfl rfl) rfl rfl ?_
                    refine r_q (q_move rfl rfl) rfl rfl ?_
                    refine r_q (q_build (cs := [(i6 p22), (i6 p38), (i6 p42)]) zr25 pl25 rfl rfl rfl rfl) rfl rfl ?_
                    refine r_do (a_alloc zr25 rfl) rfl rfl (fun x2 => ?_)
                    refine r_do (a_storeb 0 rfl sz25 rfl rfl rfl rfl (Nat.le_of_ble_eq_true rfl) rfl) rfl rfl (fun _ => ?_)
                    refine j_b0 [(i6 p22), (i6 p38), (i6 p42)] rfl ?_
                    refine r_nil ?_
                    refine j_then ?_
                    refine j_seq ?_
                    refine j_region ?_
                    refine r_q (q_move rfl rfl) rfl rfl ?_
                    refine r_q (q_sneq rfl rfl rfl) rfl rfl ?_
                    refine r_q (q_move rfl rfl) rfl rfl ?_
                    rcases of_if h with ⟨c190, h⟩ | ⟨c190, h⟩
                    · refine r_off rfl rfl rfl rfl (not_f (beq_t c190)) rfl ?_
                      refine r_off rfl rfl rfl rfl (not_f (beq_t c190)) rfl ?_
                      refine r_off rfl rfl rfl rfl (not_f (beq_t c190)) rfl ?_
                      refine r_off rfl rfl rfl rfl (not_f (beq_t c190)) rfl ?_
                      refine r_q (q_pick_f rfl rfl (not_f (beq_t c190)) rfl) rfl rfl ?_
                      refine r_nil ?_
                      refine j_then ?_
                      refine j_false rfl rfl ?_
                      refine j_skip ?_
                      refine j_in ?_
                      refine j_then ?_
                      refine j_region ?_
                      refine r_q (q_move rfl rfl) rfl rfl ?_
                      refine r_q (q_add rfl rfl rfl) rfl rfl ?_
                      refine r_q (q_assign rfl rfl) rfl rfl ?_
                      refine r_nil ?_
                      refine j_then ?_
                      exact j_again m (wrap64 (p42 + (1:Int))) (Nat.lt_succ_self m) h (fun a he => he.sub ⟨rfl, rfl, rfl, rfl, rfl, trivial⟩) (fun w h => h.tail)
                    · refine r_qon (q_loadb_agg 0 rfl ag25 sz25 rfl rfl rfl rfl) rfl rfl rfl rfl (not_t (beq_f c190)) rfl ?_
                      obtain ⟨v64, hb64, h⟩ := of_b1 h
                      refine r_on (a_call ok10 rfl rfl rfl rfl (fun w hm => spec_FormatOp.calls K p22 p38 p42 hm hb64)) rfl rfl rfl rfl (not_t (beq_f c190)) rfl (fun x3 => ?_)
                      refine r_qon (q_move rfl rfl) rfl rfl rfl rfl (not_t (beq_f c190)) rfl ?_
                      refine r_qon (q_seql rfl rfl rfl) rfl rfl rfl rfl (not_t (beq_f c190)) rfl ?_
                      refine r_q (q_pick_t rfl rfl (not_t (beq_f c190)) rfl) rfl rfl ?_
                      refine r_nil ?_
                      refine j_then ?_
                      rcases of_if h with ⟨c191, h⟩ | ⟨c191, h⟩
                      · refine j_true rfl (beq_t c191) ?_
                        refine j_seq ?_
                        refine j_region ?_
                        refine r_q (q_loadb_agg 0 rfl ag25 sz25 rfl rfl rfl rfl) rfl rfl ?_
                        refine r_do (a_storeb 1 rfl sz25 rfl rfl rfl rfl (Nat.le_of_ble_eq_true rfl) rfl) rfl rfl (fun _ => ?_)
                        refine j_b1 [(i6 p22), (i6 p38), (i6 p42)] rfl ?_
                        refine r_q (q_assign rfl rfl) rfl rfl ?_
                        refine r_nil ?_
                        refine j_then ?_
                        refine j_ret ?_
                        refine j_in_ret ?_
                        refine j_then_ret ?_
                        refine j_then_ret ?_
                        refine j_in_ret ?_
                        refine j_then_ret ?_
                        refine j_in_ret ?_
                        refine j_then_ret ?_
                        refine j_then_ret ?_
                        refine j_in_ret ?_
                        refine j_then_ret ?_
                        refine j_in_ret ?_
                        refine j_then_ret ?_
                        refine j_then_ret ?_
                        refine j_in_ret ?_
                        refine j_then_ret ?_
                        refine j_then_ret ?_
                        cases h
                        exact j_return rfl (ResOf.cell 1 rfl rfl ag25 sz25 (ResOf.tmp rfl ResOf.nil)) rfl (fun w h => ⟨(), rfl, (h.drop 2)⟩)
                      · refine j_false rfl (beq_f c191) ?_
                        refine j_skip ?_
                        refine j_in ?_
                        refine j_then ?_
                        refine j_region ?_
                        refine r_q (q_move rfl rfl) rfl rfl ?_
                        refine r_q (q_add rfl rfl rfl) rfl rfl ?_
                        refine r_q (q_assign rfl rfl) rfl rfl ?_
                        refine r_nil ?_
                        refine j_then ?_
                        exact j_again m (wrap64 (p42 + (1:Int))) (Nat.lt_succ_self m) h (fun a he => he.sub ⟨rfl, rfl, rfl, rfl, rfl, trivial⟩) (fun w h => h.tail)
                  · refine j_false rfl (decide_eq_false c189) ?_
                    refine j_exit ?_
                    refine j_then_exit ?_
                    refine j_then_exit ?_
                    refine j_in_exit ?_
                    refine j_then ?_
                    exact j_meet () h (fun a he => he.sub ⟨rfl, rfl, rfl, rfl, trivial⟩) (fun w h => h)
              · rintro _ h
                subst hκ2
                show J _ _ [(0, (.string a0)), (2, (pt x1)), (4, (i6 p22)), (5, (i6 p38))] _ (.box x1 25 [(i6 (0:Int)), (i6 (0:Int)), (i6 (0:Int))] :: F)
                refine j_in ?_
                refine j_then ?_
                refine j_region ?_
                refine r_q (q_move rfl rfl) rfl rfl ?_
                refine r_q (q_add rfl rfl rfl) rfl rfl ?_
                refine r_q (q_assign rfl rfl) rfl rfl ?_
                refine r_nil ?_
                refine j_then ?_
                exact j_again m (wrap64 (p38 + (1:Int))) (Nat.lt_succ_self m) h (fun a he => he.sub ⟨rfl, rfl, rfl, rfl, trivial⟩) (fun w h => h)
            · refine j_false rfl (decide_eq_false c180) ?_
              refine j_exit ?_
              refine j_then_exit ?_
              refine j_then_exit ?_
              refine j_in_exit ?_
              refine j_then ?_
              exact j_meet () h (fun a he => he.sub ⟨rfl, rfl, rfl, trivial⟩) (fun w h => h)
        · rintro _ h
          subst hκ1
          show J _ _ [(0, (.string a0)), (2, (pt x1)), (4, (i6 p22))] _ (.box x1 25 [(i6 (0:Int)), (i6 (0:Int)), (i6 (0:Int))] :: F)
          refine j_in ?_
          refine j_then ?_
          refine j_region ?_
          refine r_q (q_move rfl rfl) rfl rfl ?_
          refine r_q (q_add rfl rfl rfl) rfl rfl ?_
          refine r_q (q_assign rfl rfl) rfl rfl ?_
          refine r_nil ?_
          refine j_then ?_
          exact j_again m (wrap64 (p22 + (1:Int))) (Nat.lt_succ_self m) h (fun a he => he.sub ⟨rfl, rfl, rfl, trivial⟩) (fun w h => h)
      · refine j_false rfl (decide_eq_false c144) ?_
        refine j_exit ?_
        refine j_then_exit ?_
        refine j_then_exit ?_
        refine j_in_exit ?_
        refine j_then ?_
        exact j_meet () h (fun a he => he.sub ⟨rfl, trivial⟩) (fun w h => h)
  · rintro _ h
    subst hκ0
    show J _ _ [(2, (pt x1))] _ (.box x1 25 [(i6 (0:Int)), (i6 (0:Int)), (i6 (0:Int))] :: F)
    refine j_then ?_
    refine j_seq ?_
    refine j_region ?_
    refine r_q (q_build (cs := [(i6 (0:Int)), (i6 (0:Int)), (i6 (0:Int))]) zr25 pl25 rfl rfl rfl rfl) rfl rfl ?_
    refine r_do (a_storeb 0 rfl sz25 rfl rfl rfl rfl (Nat.le_of_ble_eq_true rfl) rfl) rfl rfl (fun _ => ?_)
    refine j_b0 [(i6 (0:Int)), (i6 (0:Int)), (i6 (0:Int))] rfl ?_
    refine r_q (q_assign rfl rfl) rfl rfl ?_
    refine r_nil ?_
    refine j_then ?_
    refine j_ret ?_
    cases h
    exact j_return rfl (ResOf.cell 0 rfl rfl ag25 sz25 (ResOf.tmp rfl ResOf.nil)) rfl (fun w h => ⟨(), rfl, h.tail⟩)

theorem spec_ParseOps.calls (K : Nat) (a0 : ByteArray) {w0 w : World} {F : List Res} {r1 : List (Int × Int × Int)} {r2 : Bool} (hm : Mem w0 (F) w)  (h : spec_ParseOps.f K a0 = some (r1, r2)) :
    Calls Tryd.prog 13 (List.toArray [.string a0]) w fun e w' => ∃ x : (Sl r1.length), e = .returned (.tuple (List.toArray [.slice x.A x.n x.c, .bool r2])) ∧ Mem w0 (.row x.A x.c 25 3 (trips r1) :: F) w' := by
  unfold spec_ParseOps.f at h
  refine calls_of_J (n := 63) Tryd.func13 rfl rfl rfl hm ?_
  refine j_seq ?_
  refine j_region ?_
  refine r_q (q_assign rfl rfl) rfl rfl ?_
  refine r_q (q_assign rfl rfl) rfl rfl ?_
  refine r_nil ?_
  refine j_then ?_
  refine j_seq ?_
  refine j_region ?_
  refine r_do (a_litX (vs := []) (trips ([] : List (Int × Int × Int))) un28 sz25 zr25 rfl rfl rfl rfl rfl rfl rfl rfl rfl) rfl rfl (fun x1 => ?_)
  refine r_q (q_assign rfl rfl) rfl rfl ?_
  refine r_nil ?_
  refine j_then ?_
  refine j_seq ?_
  refine j_seq ?_
  refine j_region ?_
  refine r_q (q_move rfl rfl) rfl rfl ?_
  refine r_q (q_seql rfl rfl rfl) rfl rfl ?_
  refine r_nil ?_
  refine j_then ?_
  rcases of_if h with ⟨c1, h⟩ | ⟨c1, h⟩
  · refine j_true rfl (beq_t c1) ?_
    refine j_seq ?_
    refine j_region ?_
    refine r_q (q_move rfl rfl) rfl rfl ?_
    refine r_q (q_assign rfl rfl) rfl rfl ?_
    refine r_q (q_assign rfl rfl) rfl rfl ?_
    refine r_nil ?_
    refine j_then ?_
    refine j_ret ?_
    refine j_then_ret ?_
    cases h
    exact j_return rfl (ResOf.tmp rfl (ResOf.tmp rfl ResOf.nil)) rfl (fun w h => ⟨⟨x1, 0, 0, rfl⟩, rfl, h⟩)
  · refine j_false rfl (beq_f c1) ?_
    refine j_skip ?_
    refine j_then ?_
    refine j_seq ?_
    refine j_region ?_
    refine r_q (q_move rfl rfl) rfl rfl ?_
    obtain ⟨v1, hb1, h⟩ := of_b1 h
    refine r_do (a_call ok36 rfl rfl rfl rfl (fun w hm => spec_l13Cut.calls K a0 (44:Int) hm hb1)) rfl rfl (fun x2 => ?_)
    refine r_q (q_assign rfl rfl) rfl rfl ?_
    refine r_nil ?_
    refine j_then ?_
    refine j_seq ?_
    refine j_seq ?_
    refine j_region ?_
    refine r_q (q_assign rfl rfl) rfl rfl ?_
    refine r_nil ?_
    refine j_then ?_
    obtain ⟨κ0, h, hκ0⟩ := ex_k (g := fun κ => spec_ParseOps.loop0 K κ v1 K ([] : List (Int × Int × Int)) (0:Int) = some (r1, r2)) h
    refine j_cut (σ := (Option Addr) × Nat × Nat × (List (Int × Int × Int))) (fun s => [(4, (.slice s.1 s.2.1 s.2.2.1)), (5, (.slice x2.A x2.n x2.c))]) (fun s => .row x2.A x2.c 9 1 (strs v1) :: .row s.1 s.2.2.1 25 3 (trips s.2.2.2) :: F) (fun s => κ0 s.2.2.2 = some (r1, r2) ∧ (s.2.2.2.length = s.2.1)) ?_ ?_
    · refine j_block ?_
      refine j_loop (σ := (Option Addr) × Nat × Nat × (List (Int × Int × Int)) × Int) (fun s => [(4, (.slice s.1 s.2.1 s.2.2.1)), (5, (.slice x2.A x2.n x2.c)), (6, (i6 s.2.2.2.2))]) (fun s => .row x2.A x2.c 9 1 (strs v1) :: .row s.1 s.2.2.1 25 3 (trips s.2.2.2.1) :: F) (fun m s => spec_ParseOps.loop0 K κ0 v1 m s.2.2.2.1 s.2.2.2.2 = some (r1, r2) ∧ (s.2.2.2.1.length = s.2.1)) K (x1, 0, 0, ([] : List (Int × Int × Int)), (0:Int)) ⟨h, rfl⟩ (fun a he => he.sub ⟨rfl, rfl, rfl, trivial⟩) (fun w h => h) ?_
      rintro m ⟨A2, n2, d2, l2, p2⟩ ⟨h, q2⟩
      cases m with
      | zero => exact absurd h (by rw [spec_ParseOps.loop0]; exact nofun)
      | succ m =>
        rw [spec_ParseOps.loop0] at h
        show J _ _ [(4, (.slice A2 n2 d2)), (5, (.slice x2.A x2.n x2.c)), (6, (i6 p2))] _ (.row x2.A x2.c 9 1 (strs v1) :: .row A2 d2 25 3 (trips l2) :: F)
        refine j_seq ?_
        refine j_seq ?_
        refine j_region ?_
        refine r_q (q_move rfl rfl) rfl rfl ?_
        refine r_q (q_move rfl rfl) rfl rfl ?_
        refine r_q (q_lenX v1 x2.h un52 rfl rfl rfl rfl rfl) rfl rfl ?_
        refine r_q (q_lss rfl rfl rfl) rfl rfl ?_
        refine r_q (q_move rfl rfl) rfl rfl ?_
        rcases of_if h with ⟨c30, h⟩ | ⟨c30, h⟩
        · refine r_qon (q_move rfl rfl) rfl rfl rfl rfl (decide_eq_true c30) rfl ?_
          refine r_qon (q_leq rfl rfl rfl) rfl rfl rfl rfl (decide_eq_true c30) rfl ?_
          refine r_q (q_pick_t rfl rfl (decide_eq_true c30) rfl) rfl rfl ?_
          refine r_nil ?_
          refine j_then ?_
          rcases of_if h with ⟨c31, h⟩ | ⟨c31, h⟩
          · refine j_true rfl (decide_eq_true c31) ?_
            refine j_skip ?_
            refine j_then ?_
            refine j_seq ?_
            refine j_block ?_
            refine j_seq ?_
            refine j_region ?_
            refine r_q (q_move rfl rfl) rfl rfl ?_
            refine r_q (q_move rfl rfl) rfl rfl ?_
            obtain ⟨c32, h⟩ := of_guard h
            refine r_q (q_ix (Rd.row 0 rfl) (strs_len1 v1) (by decide) x2.h c32 un52 sz9 rfl rfl rfl) rfl rfl ?_
            refine r_q (q_ldS (Rd.row 0 rfl) c32 ag9 rfl rfl) rfl rfl ?_
            refine r_q (q_assign rfl rfl) rfl rfl ?_
            refine r_nil ?_
            refine j_then ?_
            refine j_seq ?_
            refine j_seq ?_
            refine j_region ?_
            refine r_q (q_move rfl rfl) rfl rfl ?_
            refine r_q (q_gtr rfl rfl rfl) rfl rfl ?_
            refine r_q (q_move rfl rfl) rfl rfl ?_
            rcases of_if h with ⟨c33, h⟩ | ⟨c33, h⟩
            · refine r_qon (q_move rfl rfl) rfl rfl rfl rfl (decide_eq_true c33) rfl ?_
              refine r_qon (q_seql rfl rfl rfl) rfl rfl rfl rfl (decide_eq_true c33) rfl ?_
              refine r_qon (q_move rfl rfl) rfl rfl rfl rfl (decide_eq_true c33) rfl ?_
              rcases of_if h with ⟨c34, h⟩ | ⟨c34, h⟩
              · refine r_off rfl rfl rfl rfl (beq_t c34) rfl ?_
                refine r_off rfl rfl rfl rfl (beq_t c34) rfl ?_
                refine r_off rfl rfl rfl rfl (beq_t c34) rfl ?_
                refine r_qon (q_pick_t rfl rfl (beq_t c34) rfl) rfl rfl rfl rfl (decide_eq_true c33) rfl ?_
                refine r_q (q_pick_t rfl rfl (decide_eq_true c33) rfl) rfl rfl ?_
                refine r_nil ?_
                refine j_then ?_
                refine j_true rfl rfl ?_
                refine j_seq ?_
                refine j_region ?_
                refine r_do (a_litX (vs := []) (trips ([] : List (Int × Int × Int))) un28 sz25 zr25 rfl rfl rfl rfl rfl rfl rfl rfl rfl) rfl rfl (fun x8 => ?_)
                refine r_q (q_assign rfl rfl) rfl rfl ?_
                refine r_q (q_assign rfl rfl) rfl rfl ?_
                refine r_nil ?_
                refine j_then ?_
                refine j_ret ?_
                refine j_then_ret ?_
                refine j_in_ret ?_
                refine j_then_ret ?_
                refine j_then_ret ?_
                refine j_in_ret ?_
                refine j_then_ret ?_
                refine j_then_ret ?_
                cases h
                exact j_return rfl (ResOf.tmp rfl (ResOf.tmp rfl ResOf.nil)) rfl (fun w h => ⟨⟨x8, 0, 0, rfl⟩, rfl, h.pick 3 [0] rfl⟩)
              · refine r_qon (q_move rfl rfl) rfl rfl rfl rfl (beq_f c34) rfl ?_
                obtain ⟨c35, h⟩ := of_guard h
                refine r_qon (q_sindex un9 rfl rfl rfl c35.1 c35.2) rfl rfl rfl rfl (beq_f c34) rfl ?_
                refine r_qon (q_neq rfl rfl rfl) rfl rfl rfl rfl (beq_f c34) rfl ?_
                refine r_qon (q_pick_f rfl rfl (beq_f c34) rfl) rfl rfl rfl rfl (decide_eq_true c33) rfl ?_
                refine r_q (q_pick_t rfl rfl (decide_eq_true c33) rfl) rfl rfl ?_
                refine r_nil ?_
                refine j_then ?_
                rcases of_if h with ⟨c36, h⟩ | ⟨c36, h⟩
                · refine j_false rfl (bne_f c36) ?_
                  refine j_skip ?_
                  refine j_then ?_
                  refine j_seq ?_
                  refine j_seq ?_
                  refine j_region ?_
                  refine r_q (q_move rfl rfl) rfl rfl ?_
                  refine r_q (q_gtr rfl rfl rfl) rfl rfl ?_
                  refine r_nil ?_
                  refine j_then ?_
                  refine j_true rfl (decide_eq_true c33) ?_
                  refine j_region ?_
                  refine r_q (q_move rfl rfl) rfl rfl ?_
                  obtain ⟨c37, h⟩ := of_guard h
                  refine r_q (q_str_lo un9 rfl rfl rfl c37.1 c37.2) rfl rfl ?_
                  refine r_q (q_assign rfl rfl) rfl rfl ?_
                  refine r_nil ?_
                  refine j_then ?_
                  refine j_seq ?_
                  refine j_region ?_
                  refine r_q (q_move rfl rfl) rfl rfl ?_
                  obtain ⟨v22, v23, v24, v25, hb7, h⟩ := of_b4 h
                  refine r_do (a_call ok23 rfl rfl rfl rfl (fun w hm => spec_ParseOp.calls K ((rds v1 p2).extract (1:Int).toNat (rds v1 p2).size) hm hb7)) rfl rfl (fun x3 => ?_)
                  refine r_q (q_move rfl rfl) rfl rfl ?_
                  refine r_q (q_extract rfl rfl rfl) rfl rfl ?_
                  refine r_q (q_extract rfl rfl rfl) rfl rfl ?_
                  refine r_do (a_alloc zr25 rfl) rfl rfl (fun x4 => ?_)
                  refine r_do (a_storeb 0 rfl sz25 rfl rfl rfl rfl (Nat.le_of_ble_eq_true rfl) rfl) rfl rfl (fun _ => ?_)
                  refine j_b0 [(i6 v22), (i6 v23), (i6 v24)] rfl ?_
                  refine r_q (q_assign rfl rfl) rfl rfl ?_
                  refine r_nil ?_
                  refine j_then ?_
                  refine j_seq ?_
                  refine j_seq ?_
                  refine j_region ?_
                  refine r_q (q_move rfl rfl) rfl rfl ?_
                  refine r_q (q_not rfl rfl) rfl rfl ?_
                  refine r_nil ?_
                  refine j_then ?_
                  rcases of_if h with ⟨c38, h⟩ | ⟨c38, h⟩
                  · refine j_false rfl (not_f c38) ?_
                    refine j_skip ?_
                    refine j_then ?_
                    refine j_region ?_
                    refine r_q (q_move rfl rfl) rfl rfl ?_
                    refine r_q (q_loadb_agg 0 rfl ag25 sz25 rfl rfl rfl rfl) rfl rfl ?_
                    refine r_do (a_litX (vs := [(.agg (List.toArray [(i6 v22), (i6 v23), (i6 v24)]))]) (trips ([(v22, v23, v24)] : List (Int × Int × Int))) un28 sz25 zr25 rfl rfl rfl rfl rfl rfl rfl rfl rfl) rfl rfl (fun x5 => ?_)
                    obtain ⟨c39, h⟩ := of_guard h
                    refine r_do (a_appT (xs := l2) (ys := ([(v22, v23, v24)] : List (Int × Int × Int))) 3 un28 un28 sz25 by25 zr25 rfl rfl rfl rfl rfl rfl rfl rfl rfl q2 rfl (Rd.row 0 rfl) c39) rfl rfl (fun x6 => ?_)
                    refine j_s3 ?_
                    refine r_q (q_assign rfl rfl) rfl rfl ?_
                    refine r_nil ?_
                    refine j_in ?_
                    refine j_then ?_
                    refine j_region ?_
                    refine r_q (q_move rfl rfl) rfl rfl ?_
                    refine r_q (q_add rfl rfl rfl) rfl rfl ?_
                    refine r_q (q_assign rfl rfl) rfl rfl ?_
                    refine r_nil ?_
                    refine j_then ?_
                    exact j_again m (x6.1, (n2 + 1), x6.2, (l2 ++ ([(v22, v23, v24)] : List (Int × Int × Int))), (wrap64 (p2 + (1:Int)))) (Nat.lt_succ_self m) ⟨h, (app_len q2 rfl)⟩ (fun a he => he.sub ⟨rfl, rfl, rfl, trivial⟩) (fun w h => (h.drop 2))
                  · refine j_true rfl (not_t (var_f c38)) ?_
                    refine j_seq ?_
                    refine j_region ?_
                    refine r_do (a_litX (vs := []) (trips ([] : List (Int × Int × Int))) un28 sz25 zr25 rfl rfl rfl rfl rfl rfl rfl rfl rfl) rfl rfl (fun x7 => ?_)
                    refine r_q (q_assign rfl rfl) rfl rfl ?_
                    refine r_q (q_assign rfl rfl) rfl rfl ?_
                    refine r_nil ?_
                    refine j_then ?_
                    refine j_ret ?_
                    refine j_then_ret ?_
                    refine j_in_ret ?_
                    refine j_then_ret ?_
                    refine j_then_ret ?_
                    refine j_in_ret ?_
                    refine j_then_ret ?_
                    refine j_then_ret ?_
                    cases h
                    exact j_return rfl (ResOf.tmp rfl (ResOf.tmp rfl ResOf.nil)) rfl (fun w h => ⟨⟨x7, 0, 0, rfl⟩, rfl, h.pick 4 [0] rfl⟩)
                · refine j_true rfl (bne_t c36) ?_
                  refine j_seq ?_
                  refine j_region ?_
                  refine r_do (a_litX (vs := []) (trips ([] : List (Int × Int × Int))) un28 sz25 zr25 rfl rfl rfl rfl rfl rfl rfl rfl rfl) rfl rfl (fun x8 => ?_)
                  refine r_q (q_assign rfl rfl) rfl rfl ?_
                  refine r_q (q_assign rfl rfl) rfl rfl ?_
                  refine r_nil ?_
                  refine j_then ?_
                  refine j_ret ?_
                  refine j_then_ret ?_
                  refine j_in_ret ?_
                  refine j_then_ret ?_
                  refine j_then_ret ?_
                  refine j_in_ret ?_
                  refine j_then_ret ?_
                  refine j_then_ret ?_
                  cases h
                  exact j_return rfl (ResOf.tmp rfl (ResOf.tmp rfl ResOf.nil)) rfl (fun w h => ⟨⟨x8, 0, 0, rfl⟩, rfl, h.pick 3 [0] rfl⟩)
            · refine r_off rfl rfl rfl rfl (decide_eq_false c33) rfl ?_
              refine r_off rfl rfl rfl rfl (decide_eq_false c33) rfl ?_
              refine r_off rfl rfl rfl rfl (decide_eq_false c33) rfl ?_
              refine r_offu rfl rfl rfl rfl rfl ?_
              refine r_offu rfl rfl rfl rfl rfl ?_
              refine r_offu rfl rfl rfl rfl rfl ?_
              refine r_off rfl rfl rfl rfl (decide_eq_false c33) rfl ?_
              refine r_q (q_pick_f rfl rfl (decide_eq_false c33) rfl) rfl rfl ?_
              refine r_nil ?_
              refine j_then ?_
              refine j_false rfl rfl ?_
              refine j_skip ?_
              refine j_then ?_
              refine j_seq ?_
              refine j_seq ?_
              refine j_region ?_
              refine r_q (q_move rfl rfl) rfl rfl ?_
              refine r_q (q_gtr rfl rfl rfl) rfl rfl ?_
              refine r_nil ?_
              refine j_then ?_
              refine j_false rfl (decide_eq_false c33) ?_
              refine j_skip ?_
              refine j_then ?_
              refine j_seq ?_
              refine j_region ?_
              refine r_q (q_move rfl rfl) rfl rfl ?_
              obtain ⟨v26, v27, v28, v29, hb8, h⟩ := of_b4 h
              refine r_do (a_call ok23 rfl rfl rfl rfl (fun w hm => spec_ParseOp.calls K (rds v1 p2) hm hb8)) rfl rfl (fun x3 => ?_)
              refine r_q (q_move rfl rfl) rfl rfl ?_
              refine r_q (q_extract rfl rfl rfl) rfl rfl ?_
              refine r_q (q_extract rfl rfl rfl) rfl rfl ?_
              refine r_do (a_alloc zr25 rfl) rfl rfl (fun x4 => ?_)
              refine r_do (a_storeb 0 rfl sz25 rfl rfl rfl rfl (Nat.le_of_ble_eq_true rfl) rfl) rfl rfl (fun _ => ?_)
              refine j_b0 [(i6 v26), (i6 v27), (i6 v28)] rfl ?_
              refine r_q (q_assign rfl rfl) rfl rfl ?_
              refine r_nil ?_
              refine j_then ?_
              refine j_seq ?_
              refine j_seq ?_
              refine j_region ?_
              refine r_q (q_move rfl rfl) rfl rfl ?_
              refine r_q (q_not rfl rfl) rfl rfl ?_
              refine r_nil ?_
              refine j_then ?_
              rcases of_if h with ⟨c40, h⟩ | ⟨c40, h⟩
              · refine j_false rfl (not_f c40) ?_
                refine j_skip ?_
                refine j_then ?_
                refine j_region ?_
                refine r_q (q_move rfl rfl) rfl rfl ?_
                refine r_q (q_loadb_agg 0 rfl ag25 sz25 rfl rfl rfl rfl) rfl rfl ?_
                refine r_do (a_litX (vs := [(.agg (List.toArray [(i6 v26), (i6 v27), (i6 v28)]))]) (trips ([(v26, v27, v28)] : List (Int × Int × Int))) un28 sz25 zr25 rfl rfl rfl rfl rfl rfl rfl rfl rfl) rfl rfl (fun x5 => ?_)
                obtain ⟨c41, h⟩ := of_guard h
                refine r_do (a_appT (xs := l2) (ys := ([(v26, v27, v28)] : List (Int × Int × Int))) 3 un28 un28 sz25 by25 zr25 rfl rfl rfl rfl rfl rfl rfl rfl rfl q2 rfl (Rd.row 0 rfl) c41) rfl rfl (fun x6 => ?_)
                refine j_s3 ?_
                refine r_q (q_assign rfl rfl) rfl rfl ?_
                refine r_nil ?_
                refine j_in ?_
                refine j_then ?_
                refine j_region ?_
                refine r_q (q_move rfl rfl) rfl rfl ?_
                refine r_q (q_add rfl rfl rfl) rfl rfl ?_
                refine r_q (q_assign rfl rfl) rfl rfl ?_
                refine r_nil ?_
                refine j_then ?_
                exact j_again m (x6.1, (n2 + 1), x6.2, (l2 ++ ([(v26, v27, v28)] : List (Int × Int × Int))), (wrap64 (p2 + (1:Int)))) (Nat.lt_succ_self m) ⟨h, (app_len q2 rfl)⟩ (fun a he => he.sub ⟨rfl, rfl, rfl, trivial⟩) (fun w h => (h.drop 2))
              · refine j_true rfl (not_t (var_f c40)) ?_
                refine j_seq ?_
                refine j_region ?_
                refine r_do (a_litX (vs := []) (trips ([] : List (Int × Int × Int))) un28 sz25 zr25 rfl rfl rfl rfl rfl rfl rfl rfl rfl) rfl rfl (fun x7 => ?_)
                refine r_q (q_assign rfl rfl) rfl rfl ?_
                refine r_q (q_assign rfl rfl) rfl rfl ?_
                refine r_nil ?_
                refine j_then ?_
                refine j_ret ?_
                refine j_then_ret ?_
                refine j_in_ret ?_
                refine j_then_ret ?_
                refine j_then_ret ?_
                refine j_in_ret ?_
                refine j_then_ret ?_
                refine j_then_ret ?_
                cases h
                exact j_return rfl (ResOf.tmp rfl (ResOf.tmp rfl ResOf.nil)) rfl (fun w h => ⟨⟨x7, 0, 0, rfl⟩, rfl, h.pick 4 [0] rfl⟩)
          · refine j_false rfl (decide_eq_false c31) ?_
            refine j_exit ?_
            refine j_then_exit ?_
            refine j_then_exit ?_
            refine j_in_exit ?_
            refine j_then ?_
            exact j_meet (A2, n2, d2, l2) ⟨h, q2⟩ (fun a he => he.sub ⟨rfl, rfl, trivial⟩) (fun w h => h)
        · refine r_off rfl rfl rfl rfl (decide_eq_false c30) rfl ?_
          refine r_off rfl rfl rfl rfl (decide_eq_false c30) rfl ?_
          refine r_q (q_pick_f rfl rfl (decide_eq_false c30) rfl) rfl rfl ?_
          refine r_nil ?_
          refine j_then ?_
          refine j_false rfl rfl ?_
          refine j_exit ?_
          refine j_then_exit ?_
          refine j_then_exit ?_
          refine j_in_exit ?_
          refine j_then ?_
          exact j_meet (A2, n2, d2, l2) ⟨h, q2⟩ (fun a he => he.sub ⟨rfl, rfl, trivial⟩) (fun w h => h)
    · rintro ⟨A3, n3, d3, l3⟩ ⟨h, q3⟩
      subst hκ0
      show J _ _ [(4, (.slice A3 n3 d3)), (5, (.slice x2.A x2.n x2.c))] _ (.row x2.A x2.c 9 1 (strs v1) :: .row A3 d3 25 3 (trips l3) :: F)
      refine j_then ?_
      refine j_seq ?_
      refine j_seq ?_
      refine j_region ?_
      refine r_q (q_move rfl rfl) rfl rfl ?_
      refine r_q (q_lenX v1 x2.h un52 rfl rfl rfl rfl rfl) rfl rfl ?_
      refine r_q (q_gtr rfl rfl rfl) rfl rfl ?_
      refine r_nil ?_
      refine j_then ?_
      rcases of_if h with ⟨c42, h⟩ | ⟨c42, h⟩
      · refine j_true rfl (decide_eq_true c42) ?_
        refine j_seq ?_
        refine j_region ?_
        refine r_do (a_litX (vs := []) (trips ([] : List (Int × Int × Int))) un28 sz25 zr25 rfl rfl rfl rfl rfl rfl rfl rfl rfl) rfl rfl (fun x9 => ?_)
        refine r_q (q_assign rfl rfl) rfl rfl ?_
        refine r_q (q_assign rfl rfl) rfl rfl ?_
        refine r_nil ?_
        refine j_then ?_
        refine j_ret ?_
        refine j_then_ret ?_
        cases h
        exact j_return rfl (ResOf.tmp rfl (ResOf.tmp rfl ResOf.nil)) rfl (fun w h => ⟨⟨x9, 0, 0, rfl⟩, rfl, h.pick 3 [0] rfl⟩)
      · refine j_false rfl (decide_eq_false c42) ?_
        refine j_skip ?_
        refine j_then ?_
        refine j_seq ?_
        refine j_region ?_
        refine r_q (q_move rfl rfl) rfl rfl ?_
        refine r_q (q_assign rfl rfl) rfl rfl ?_
        refine r_q (q_assign rfl rfl) rfl rfl ?_
        refine r_nil ?_
        refine j_then ?_
        refine j_ret ?_
        cases h
        exact j_return rfl (ResOf.tmp rfl (ResOf.tmp rfl ResOf.nil)) rfl (fun w h => ⟨⟨A3, n3, d3, q3⟩, rfl, h.tail⟩)

theorem strings_Split.calls (K : Nat) (a0 : ByteArray) (a1 : ByteArray) {w0 w : World} {F : List Res} {r1 : List ByteArray} (hm : Mem w0 (F) w) (gM : ∃ m : Int, Rd w0 F (gA 2) [i6 m]) (h : strings_Split.f K a0 a1 = some r1) :
    Calls Tryd.prog 37 (List.toArray [.string a0, .string a1]) w fun e w' => ∃ x : (Sl r1.length), e = .returned (.slice x.A x.n x.c) ∧ Mem w0 (.row x.A x.c 9 1 (strs r1) :: F) w' := by
  unfold strings_Split.f at h
  obtain ⟨hc, h⟩ := of_guard h
  obtain rfl := Option.some.inj h
  obtain ⟨m, gM⟩ := gM
  exact D.split_calls hm gM hc.1 hc.2

theorem impl_ParseOp.calls (K : Nat) (a0 : ByteArray) {w0 w : World} {F : List Res} {r1 : Int} {r2 : Int} {r3 : Int} {r4 : Bool} (hm : Mem w0 (F) w) (gT : Rd w0 F (gA 0) (strs opTab)) (h : impl_ParseOp.f K a0 = some (r1, r2, r3, r4)) :
    Calls Tryd.prog 24 (List.toArray [.string a0]) w fun e w' => ∃ x : Unit, e = .returned (.tuple (List.toArray [.agg (List.toArray [i6 r1, i6 r2, i6 r3]), .bool r4])) ∧ Mem w0 (F) w' := by
  unfold impl_ParseOp.f at h
  refine calls_of_J (n := 34) Tryd.func24 rfl rfl rfl hm ?_
  refine j_seq ?_
  refine j_region ?_
  refine r_do (a_alloc zr25 rfl) rfl rfl (fun x1 => ?_)
  refine r_q (q_assign rfl rfl) rfl rfl ?_
  refine r_nil ?_
  refine j_then ?_
  refine j_seq ?_
  refine j_seq ?_
  refine j_region ?_
  refine r_q (q_assign rfl rfl) rfl rfl ?_
  refine r_nil ?_
  refine j_then ?_
  obtain ⟨κ0, h, hκ0⟩ := ex_k (g := fun κ => impl_ParseOp.loop0 K κ a0 K (1:Int) = some (r1, r2, r3, r4)) h
  refine j_cut (σ := Unit) (fun s => [(2, (pt x1))]) (fun s => .box x1 25 [(i6 (0:Int)), (i6 (0:Int)), (i6 (0:Int))] :: F) (fun s => κ0 () = some (r1, r2, r3, r4)) ?_ ?_
  · refine j_block ?_
    refine j_loop (σ := Int) (fun s => [(0, (.string a0)), (2, (pt x1)), (4, (i6 s))]) (fun s => .box x1 25 [(i6 (0:Int)), (i6 (0:Int)), (i6 (0:Int))] :: F) (fun m s => impl_ParseOp.loop0 K κ0 a0 m s = some (r1, r2, r3, r4)) K (1:Int) h (fun a he => he.sub ⟨rfl, rfl, rfl, trivial⟩) (fun w h => h) ?_
    rintro m p22 h
    cases m with
    | zero => exact absurd h (by rw [impl_ParseOp.loop0]; exact nofun)
    | succ m =>
      rw [impl_ParseOp.loop0] at h
      show J _ _ [(0, (.string a0)), (2, (pt x1)), (4, (i6 p22))] _ (.box x1 25 [(i6 (0:Int)), (i6 (0:Int)), (i6 (0:Int))] :: F)
      refine j_seq ?_
      refine j_seq ?_
      refine j_region ?_
      refine r_q (q_move rfl rfl) rfl rfl ?_
      refine r_q (q_leq rfl rfl rfl) rfl rfl ?_
      refine r_nil ?_
      refine j_then ?_
      rcases of_if h with ⟨c144, h⟩ | ⟨c144, h⟩
      · refine j_true rfl (decide_eq_true c144) ?_
        refine j_skip ?_
        refine j_then ?_
        refine j_seq ?_
        refine j_block ?_
        refine j_seq ?_
        refine j_region ?_
        refine r_q (q_move rfl rfl) rfl rfl ?_
        refine r_nil ?_
        refine j_then ?_
        obtain ⟨κ1, h, hκ1⟩ := ex_k (g := fun κ => impl_ParseOp.loop1 K κ a0 p22 K (0:Int) = some (r1, r2, r3, r4)) h
        refine j_cut (σ := Unit) (fun s => [(0, (.string a0)), (2, (pt x1)), (4, (i6 p22))]) (fun s => .box x1 25 [(i6 (0:Int)), (i6 (0:Int)), (i6 (0:Int))] :: F) (fun s => κ1 () = some (r1, r2, r3, r4)) ?_ ?_
        · refine j_block ?_
          refine j_loop (σ := Int) (fun s => [(0, (.string a0)), (2, (pt x1)), (4, (i6 p22)), (12, (i6 s))]) (fun s => .box x1 25 [(i6 (0:Int)), (i6 (0:Int)), (i6 (0:Int))] :: F) (fun m s => impl_ParseOp.loop1 K κ1 a0 p22 m s = some (r1, r2, r3, r4)) K (0:Int) h (fun a he => he.sub ⟨rfl, rfl, rfl, rfl, trivial⟩) (fun w h => h) ?_
          rintro m p38 h
          cases m with
          | zero => exact absurd h (by rw [impl_ParseOp.loop1]; exact nofun)
          | succ m =>
            rw [impl_ParseOp.loop1] at h
            show J _ _ [(0, (.string a0)), (2, (pt x1)), (4, (i6 p22)), (12, (i6 p38))] _ (.box x1 25 [(i6 (0:Int)), (i6 (0:Int)), (i6 (0:Int))] :: F)
            refine j_seq ?_
            refine j_region ?_
            refine r_q (q_lss rfl rfl rfl) rfl rfl ?_
            refine r_nil ?_
            refine j_then ?_
            refine j_seq ?_
            rcases of_if h with ⟨c180, h⟩ | ⟨c180, h⟩
            · refine j_true rfl (decide_eq_true c180) ?_
              refine j_skip ?_
              refine j_then ?_
              refine j_seq ?_
              refine j_block ?_
              refine j_seq ?_
              refine j_region ?_
              refine r_q (q_move rfl rfl) rfl rfl ?_
              refine r_q (q_assign rfl rfl) rfl rfl ?_
              refine r_nil ?_
              refine j_then ?_
              refine j_seq ?_
              refine j_region ?_
              refine r_q (q_move rfl rfl) rfl rfl ?_
              refine r_nil ?_
              refine j_then ?_
              obtain ⟨κ2, h, hκ2⟩ := ex_k (g := fun κ => impl_ParseOp.loop2 K κ a0 p22 p38 K (0:Int) = some (r1, r2, r3, r4)) h
              refine j_cut (σ := Unit) (fun s => [(0, (.string a0)), (2, (pt x1)), (4, (i6 p22)), (12, (i6 p38))]) (fun s => .box x1 25 [(i6 (0:Int)), (i6 (0:Int)), (i6 (0:Int))] :: F) (fun s => κ2 () = some (r1, r2, r3, r4)) ?_ ?_
              · refine j_block ?_
                refine j_loop (σ := Int) (fun s => [(0, (.string a0)), (2, (pt x1)), (4, (i6 p22)), (5, (i6 p38)), (12, (i6 p38)), (15, (i6 s))]) (fun s => .box x1 25 [(i6 (0:Int)), (i6 (0:Int)), (i6 (0:Int))] :: F) (fun m s => impl_ParseOp.loop2 K κ2 a0 p22 p38 m s = some (r1, r2, r3, r4)) K (0:Int) h (fun a he => he.sub ⟨rfl, rfl, rfl, rfl, rfl, rfl, trivial⟩) (fun w h => h) ?_
                rintro m p42 h
                cases m with
                | zero => exact absurd h (by rw [impl_ParseOp.loop2]; exact nofun)
                | succ m =>
                  rw [impl_ParseOp.loop2] at h
                  show J _ _ [(0, (.string a0)), (2, (pt x1)), (4, (i6 p22)), (5, (i6 p38)), (12, (i6 p38)), (15, (i6 p42))] _ (.box x1 25 [(i6 (0:Int)), (i6 (0:Int)), (i6 (0:Int))] :: F)
                  refine j_seq ?_
                  refine j_region ?_
                  refine r_q (q_lss rfl rfl rfl) rfl rfl ?_
                  refine r_nil ?_
                  refine j_then ?_
                  refine j_seq ?_
                  rcases of_if h with ⟨c189, h⟩ | ⟨c189, h⟩
                  · refine j_true rfl (decide_eq_true c189) ?_
                    refine j_skip ?_
                    refine j_then ?_
                    refine j_seq ?_
                    refine j_block ?_
                    refine j_seq ?_
                    refine j_region ?_
                    refine r_q (q_move rfl rfl) rfl rfl ?_
                    refine r_q (q_assign rfl rfl) rfl rfl ?_
                    refine r_nil ?_
                    refine j_then ?_
                    refine j_seq ?_
                    refine j_region ?_
                    refine r_q (q_move rfl rfl) rfl rfl ?_
                    refine r_q (q_move rfl rfl) rfl rfl ?_
                    refine r_q (q_move rfl rfl) rfl rfl ?_
                    refine r_q (q_build (cs := [(i6 p22), (i6 p38), (i6 p42)]) zr25 pl25 rfl rfl rfl rfl) rfl rfl ?_
                    refine r_do (a_alloc zr25 rfl) rfl rfl (fun x2 => ?_)
                    refine r_do (a_storeb 0 rfl sz25 rfl rfl rfl rfl (Nat.le_of_ble_eq_true rfl) rfl) rfl rfl (fun _ => ?_)
                    refine j_b0 [(i6 p22), (i6 p38), (i6 p42)] rfl ?_
                    refine r_nil ?_
                    refine j_then ?_
                    refine j_seq ?_
                    refine j_region ?_
                    refine r_q (q_move rfl rfl) rfl rfl ?_
                    refine r_q (q_sneq rfl rfl rfl) rfl rfl ?_
                    refine r_q (q_move rfl rfl) rfl rfl ?_
                    rcases of_if h with ⟨c190, h⟩ | ⟨c190, h⟩
                    · refine r_off rfl rfl rfl rfl (not_f (beq_t c190)) rfl ?_
                      refine r_off rfl rfl rfl rfl (not_f (beq_t c190)) rfl ?_
                      refine r_off rfl rfl rfl rfl (not_f (beq_t c190)) rfl ?_
                      refine r_off rfl rfl rfl rfl (not_f (beq_t c190)) rfl ?_
                      refine r_q (q_pick_f rfl rfl (not_f (beq_t c190)) rfl) rfl rfl ?_
                      refine r_nil ?_
                      refine j_then ?_
                      refine j_false rfl rfl ?_
                      refine j_skip ?_
                      refine j_in ?_
                      refine j_then ?_
                      refine j_region ?_
                      refine r_q (q_add rfl rfl rfl) rfl rfl ?_
                      refine r_q (q_move rfl rfl) rfl rfl ?_
                      refine r_nil ?_
                      refine j_then ?_
                      exact j_again m (wrap64 (p42 + (1:Int))) (Nat.lt_succ_self m) h (fun a he => he.sub ⟨rfl, rfl, rfl, rfl, rfl, rfl, trivial⟩) (fun w h => h.tail)
                    · refine r_qon (q_loadb_agg 0 rfl ag25 sz25 rfl rfl rfl rfl) rfl rfl rfl rfl (not_t (beq_f c190)) rfl ?_
                      obtain ⟨v64, hb64, h⟩ := of_b1 h
                      refine r_on (a_call ok12 rfl rfl rfl rfl (fun w hm => impl_FormatOp.calls K p22 p38 p42 hm (Rd.drop 2 gT) hb64)) rfl rfl rfl rfl (not_t (beq_f c190)) rfl (fun x3 => ?_)
                      refine r_qon (q_move rfl rfl) rfl rfl rfl rfl (not_t (beq_f c190)) rfl ?_
                      refine r_qon (q_seql rfl rfl rfl) rfl rfl rfl rfl (not_t (beq_f c190)) rfl ?_
                      refine r_q (q_pick_t rfl rfl (not_t (beq_f c190)) rfl) rfl rfl ?_
                      refine r_nil ?_
                      refine j_then ?_
                      rcases of_if h with ⟨c191, h⟩ | ⟨c191, h⟩
                      · refine j_true rfl (beq_t c191) ?_
                        refine j_seq ?_
                        refine j_region ?_
                        refine r_q (q_loadb_agg 0 rfl ag25 sz25 rfl rfl rfl rfl) rfl rfl ?_
                        refine r_do (a_storeb 1 rfl sz25 rfl rfl rfl rfl (Nat.le_of_ble_eq_true rfl) rfl) rfl rfl (fun _ => ?_)
                        refine j_b1 [(i6 p22), (i6 p38), (i6 p42)] rfl ?_
                        refine r_q (q_assign rfl rfl) rfl rfl ?_
                        refine r_nil ?_
                        refine j_then ?_
                        refine j_ret ?_
                        refine j_in_ret ?_
                        refine j_then_ret ?_
                        refine j_then_ret ?_
                        refine j_in_ret ?_
                        refine j_then_ret ?_
                        refine j_in_ret ?_
                        refine j_then_ret ?_
                        refine j_then_ret ?_
                        refine j_in_ret ?_
                        refine j_then_ret ?_
                        refine j_in_ret ?_
                        refine j_then_ret ?_
                        refine j_then_ret ?_
                        refine j_in_ret ?_
                        refine j_then_ret ?_
                        refine j_then_ret ?_
                        cases h
                        exact j_return rfl (ResOf.cell 1 rfl rfl ag25 sz25 (ResOf.tmp rfl ResOf.nil)) rfl (fun w h => ⟨(), rfl, (h.drop 2)⟩)
                      · refine j_false rfl (beq_f c191) ?_
                        refine j_skip ?_
                        refine j_in ?_
                        refine j_then ?_
                        refine j_region ?_
                        refine r_q (q_add rfl rfl rfl) rfl rfl ?_
                        refine r_q (q_move rfl rfl) rfl rfl ?_
                        refine r_nil ?_
                        refine j_then ?_
                        exact j_again m (wrap64 (p42 + (1:Int))) (Nat.lt_succ_self m) h (fun a he => he.sub ⟨rfl, rfl, rfl, rfl, rfl, rfl, trivial⟩) (fun w h => h.tail)
                  · refine j_false rfl (decide_eq_false c189) ?_
                    refine j_exit ?_
                    refine j_then_exit ?_
                    refine j_then_exit ?_
                    refine j_in_exit ?_
                    refine j_then ?_
                    exact j_meet () h (fun a he => he.sub ⟨rfl, rfl, rfl, rfl, trivial⟩) (fun w h => h)
              · rintro _ h
                subst hκ2
                show J _ _ [(0, (.string a0)), (2, (pt x1)), (4, (i6 p22)), (12, (i6 p38))] _ (.box x1 25 [(i6 (0:Int)), (i6 (0:Int)), (i6 (0:Int))] :: F)
                refine j_in ?_
                refine j_then ?_
                refine j_region ?_
                refine r_q (q_add rfl rfl rfl) rfl rfl ?_
                refine r_q (q_move rfl rfl) rfl rfl ?_
                refine r_nil ?_
                refine j_then ?_
                exact j_again m (wrap64 (p38 + (1:Int))) (Nat.lt_succ_self m) h (fun a he => he.sub ⟨rfl, rfl, rfl, rfl, trivial⟩) (fun w h => h)
            · refine j_false rfl (decide_eq_false c180) ?_
              refine j_exit ?_
              refine j_then_exit ?_
              refine j_then_exit ?_
              refine j_in_exit ?_
              refine j_then ?_
              exact j_meet () h (fun a he => he.sub ⟨rfl, rfl, rfl, trivial⟩) (fun w h => h)
        · rintro _ h
          subst hκ1
          show J _ _ [(0, (.string a0)), (2, (pt x1)), (4, (i6 p22))] _ (.box x1 25 [(i6 (0:Int)), (i6 (0:Int)), (i6 (0:Int))] :: F)
          refine j_in ?_
          refine j_then ?_
          refine j_region ?_
          refine r_q (q_move rfl rfl) rfl rfl ?_
          refine r_q (q_add rfl rfl rfl) rfl rfl ?_
          refine r_q (q_assign rfl rfl) rfl rfl ?_
          refine r_nil ?_
          refine j_then ?_
          exact j_again m (wrap64 (p22 + (1:Int))) (Nat.lt_succ_self m) h (fun a he => he.sub ⟨rfl, rfl, rfl, trivial⟩) (fun w h => h)
      · refine j_false rfl (decide_eq_false c144) ?_
        refine j_exit ?_
        refine j_then_exit ?_
        refine j_then_exit ?_
        refine j_in_exit ?_
        refine j_then ?_
        exact j_meet () h (fun a he => he.sub ⟨rfl, trivial⟩) (fun w h => h)
  · rintro _ h
    subst hκ0
    show J _ _ [(2, (pt x1))] _ (.box x1 25 [(i6 (0:Int)), (i6 (0:Int)), (i6 (0:Int))] :: F)
    refine j_then ?_
    refine j_seq ?_
    refine j_region ?_
    refine r_q (q_build (cs := [(i6 (0:Int)), (i6 (0:Int)), (i6 (0:Int))]) zr25 pl25 rfl rfl rfl rfl) rfl rfl ?_
    refine r_do (a_storeb 0 rfl sz25 rfl rfl rfl rfl (Nat.le_of_ble_eq_true rfl) rfl) rfl rfl (fun _ => ?_)
    refine j_b0 [(i6 (0:Int)), (i6 (0:Int)), (i6 (0:Int))] rfl ?_
    refine r_q (q_assign rfl rfl) rfl rfl ?_
    refine r_nil ?_
    refine j_then ?_
    refine j_ret ?_
    cases h
    exact j_return rfl (ResOf.cell 0 rfl rfl ag25 sz25 (ResOf.tmp rfl ResOf.nil)) rfl (fun w h => ⟨(), rfl, h.tail⟩)

theorem impl_ParseOps.calls (K : Nat) (a0 : ByteArray) {w0 w : World} {F : List Res} {r1 : List (Int × Int × Int)} {r2 : Bool} (hm : Mem w0 (F) w) (gT : Rd w0 F (gA 0) (strs opTab)) (gM : ∃ m : Int, Rd w0 F (gA 2) [i6 m]) (h : impl_ParseOps.f K a0 = some (r1, r2)) :
    Calls Tryd.prog 14 (List.toArray [.string a0]) w fun e w' => ∃ x : (Sl r1.length), e = .returned (.tuple (List.toArray [.slice x.A x.n x.c, .bool r2])) ∧ Mem w0 (.row x.A x.c 25 3 (trips r1) :: F) w' := by
  unfold impl_ParseOps.f at h
  refine calls_of_J (n := 38) Tryd.func14 rfl rfl rfl hm ?_
  refine j_seq ?_
  refine j_region ?_
  refine r_q (q_assign rfl rfl) rfl rfl ?_
  refine r_q (q_assign rfl rfl) rfl rfl ?_
  refine r_nil ?_
  refine j_then ?_
  refine j_seq ?_
  refine j_region ?_
  refine r_do (a_litX (vs := []) (trips ([] : List (Int × Int × Int))) un28 sz25 zr25 rfl rfl rfl rfl rfl rfl rfl rfl rfl) rfl rfl (fun x1 => ?_)
  refine r_q (q_assign rfl rfl) rfl rfl ?_
  refine r_nil ?_
  refine j_then ?_
  refine j_seq ?_
  refine j_seq ?_
  refine j_region ?_
  refine r_q (q_move rfl rfl) rfl rfl ?_
  refine r_q (q_seql rfl rfl rfl) rfl rfl ?_
  refine r_nil ?_
  refine j_then ?_
  rcases of_if h with ⟨c1, h⟩ | ⟨c1, h⟩
  · refine j_true rfl (beq_t c1) ?_
    refine j_seq ?_
    refine j_region ?_
    refine r_q (q_move rfl rfl) rfl rfl ?_
    refine r_q (q_assign rfl rfl) rfl rfl ?_
    refine r_q (q_assign rfl rfl) rfl rfl ?_
    refine r_nil ?_
    refine j_then ?_
    refine j_ret ?_
    refine j_then_ret ?_
    cases h
    exact j_return rfl (ResOf.tmp rfl (ResOf.tmp rfl ResOf.nil)) rfl (fun w h => ⟨⟨x1, 0, 0, rfl⟩, rfl, h⟩)
  · refine j_false rfl (beq_f c1) ?_
    refine j_skip ?_
    refine j_then ?_
    refine j_seq ?_
    refine j_seq ?_
    refine j_region ?_
    refine r_q (q_move rfl rfl) rfl rfl ?_
    obtain ⟨v1, hb1, h⟩ := of_b1 h
    refine r_do (a_call ok37 rfl rfl rfl rfl (fun w hm => strings_Split.calls K a0 (⟨#[44, 32]⟩ : ByteArray) hm (rd_ex 1 gM) hb1)) rfl rfl (fun x2 => ?_)
    refine r_q (q_lenX v1 x2.h un52 rfl rfl rfl rfl rfl) rfl rfl ?_
    refine r_q (q_move rfl rfl) rfl rfl ?_
    refine r_nil ?_
    refine j_then ?_
    obtain ⟨κ0, h, hκ0⟩ := ex_k (g := fun κ => impl_ParseOps.loop0 K κ v1 K ([] : List (Int × Int × Int)) (0:Int) = some (r1, r2)) h
    refine j_cut (σ := (Option Addr) × Nat × Nat × (List (Int × Int × Int))) (fun s => [(4, (.slice s.1 s.2.1 s.2.2.1))]) (fun s => .row s.1 s.2.2.1 25 3 (trips s.2.2.2) :: F) (fun s => κ0 s.2.2.2 = some (r1, r2) ∧ (s.2.2.2.length = s.2.1)) ?_ ?_
    · refine j_block ?_
      refine j_loop (σ := (Option Addr) × Nat × Nat × (List (Int × Int × Int)) × Int) (fun s => [(4, (.slice s.1 s.2.1 s.2.2.1)), (14, (.slice x2.A x2.n x2.c)), (15, (i6 (v1.length : Int))), (16, (i6 s.2.2.2.2))]) (fun s => .row x2.A x2.c 9 1 (strs v1) :: .row s.1 s.2.2.1 25 3 (trips s.2.2.2.1) :: F) (fun m s => impl_ParseOps.loop0 K κ0 v1 m s.2.2.2.1 s.2.2.2.2 = some (r1, r2) ∧ (s.2.2.2.1.length = s.2.1)) K (x1, 0, 0, ([] : List (Int × Int × Int)), (0:Int)) ⟨h, rfl⟩ (fun a he => he.sub ⟨rfl, rfl, rfl, rfl, trivial⟩) (fun w h => h) ?_
      rintro m ⟨A2, n2, d2, l2, p2⟩ ⟨h, q2⟩
      cases m with
      | zero => exact absurd h (by rw [impl_ParseOps.loop0]; exact nofun)
      | succ m =>
        rw [impl_ParseOps.loop0] at h
        show J _ _ [(4, (.slice A2 n2 d2)), (14, (.slice x2.A x2.n x2.c)), (15, (i6 (v1.length : Int))), (16, (i6 p2))] _ (.row x2.A x2.c 9 1 (strs v1) :: .row A2 d2 25 3 (trips l2) :: F)
        refine j_seq ?_
        refine j_region ?_
        refine r_q (q_lss rfl rfl rfl) rfl rfl ?_
        refine r_nil ?_
        refine j_then ?_
        refine j_seq ?_
        rcases of_if h with ⟨c17, h⟩ | ⟨c17, h⟩
        · refine j_true rfl (decide_eq_true c17) ?_
          refine j_skip ?_
          refine j_then ?_
          refine j_seq ?_
          refine j_block ?_
          refine j_seq ?_
          refine j_region ?_
          obtain ⟨c18, h⟩ := of_guard h
          refine r_q (q_ix (Rd.row 0 rfl) (strs_len1 v1) (by decide) x2.h c18 un52 sz9 rfl rfl rfl) rfl rfl ?_
          refine r_q (q_ldS (Rd.row 0 rfl) c18 ag9 rfl rfl) rfl rfl ?_
          refine r_q (q_assign rfl rfl) rfl rfl ?_
          refine r_nil ?_
          refine j_then ?_
          refine j_seq ?_
          refine j_region ?_
          refine r_q (q_move rfl rfl) rfl rfl ?_
          obtain ⟨v14, v15, v16, v17, hb5, h⟩ := of_b4 h
          refine r_do (a_call ok24 rfl rfl rfl rfl (fun w hm => impl_ParseOp.calls K (rds v1 p2) hm (Rd.drop 2 gT) hb5)) rfl rfl (fun x3 => ?_)
          refine r_q (q_move rfl rfl) rfl rfl ?_
          refine r_q (q_extract rfl rfl rfl) rfl rfl ?_
          refine r_q (q_extract rfl rfl rfl) rfl rfl ?_
          refine r_do (a_alloc zr25 rfl) rfl rfl (fun x4 => ?_)
          refine r_do (a_storeb 0 rfl sz25 rfl rfl rfl rfl (Nat.le_of_ble_eq_true rfl) rfl) rfl rfl (fun _ => ?_)
          refine j_b0 [(i6 v14), (i6 v15), (i6 v16)] rfl ?_
          refine r_q (q_assign rfl rfl) rfl rfl ?_
          refine r_nil ?_
          refine j_then ?_
          refine j_seq ?_
          refine j_seq ?_
          refine j_region ?_
          refine r_q (q_move rfl rfl) rfl rfl ?_
          refine r_q (q_not rfl rfl) rfl rfl ?_
          refine r_q (q_move rfl rfl) rfl rfl ?_
          rcases of_if h with ⟨c19, h⟩ | ⟨c19, h⟩
          · refine r_qon (q_move rfl rfl) rfl rfl rfl rfl (not_f c19) rfl ?_
            refine r_qon (q_lenX l2 q2 un28 rfl rfl rfl rfl rfl) rfl rfl rfl rfl (not_f c19) rfl ?_
            refine r_qon (q_eql rfl rfl rfl) rfl rfl rfl rfl (not_f c19) rfl ?_
            refine r_q (q_pick_f rfl rfl (not_f c19) rfl) rfl rfl ?_
            refine r_nil ?_
            refine j_then ?_
            rcases of_if h with ⟨c20, h⟩ | ⟨c20, h⟩
            · refine j_true rfl (beq_t c20) ?_
              refine j_seq ?_
              refine j_region ?_
              refine r_q (q_assign rfl rfl) rfl rfl ?_
              refine r_q (q_assign rfl rfl) rfl rfl ?_
              refine r_nil ?_
              refine j_then ?_
              refine j_ret ?_
              refine j_then_ret ?_
              refine j_in_ret ?_
              refine j_then_ret ?_
              refine j_then_ret ?_
              refine j_in_ret ?_
              refine j_then_ret ?_
              refine j_then_ret ?_
              refine j_nil 25 3 ?_
              cases h
              exact j_return rfl (ResOf.tmp rfl (ResOf.tmp rfl ResOf.nil)) rfl (fun w h => ⟨⟨none, 0, 0, rfl⟩, rfl, h.pick 4 [0] rfl⟩)
            · refine j_false rfl (beq_f c20) ?_
              refine j_skip ?_
              refine j_then ?_
              refine j_region ?_
              refine r_q (q_move rfl rfl) rfl rfl ?_
              refine r_q (q_loadb_agg 0 rfl ag25 sz25 rfl rfl rfl rfl) rfl rfl ?_
              refine r_do (a_litX (vs := [(.agg (List.toArray [(i6 v14), (i6 v15), (i6 v16)]))]) (trips ([(v14, v15, v16)] : List (Int × Int × Int))) un28 sz25 zr25 rfl rfl rfl rfl rfl rfl rfl rfl rfl) rfl rfl (fun x5 => ?_)
              obtain ⟨c21, h⟩ := of_guard h
              refine r_do (a_appT (xs := l2) (ys := ([(v14, v15, v16)] : List (Int × Int × Int))) 3 un28 un28 sz25 by25 zr25 rfl rfl rfl rfl rfl rfl rfl rfl rfl q2 rfl (Rd.row 0 rfl) c21) rfl rfl (fun x6 => ?_)
              refine j_s3 ?_
              refine r_q (q_assign rfl rfl) rfl rfl ?_
              refine r_nil ?_
              refine j_in ?_
              refine j_then ?_
              refine j_region ?_
              refine r_q (q_add rfl rfl rfl) rfl rfl ?_
              refine r_q (q_move rfl rfl) rfl rfl ?_
              refine r_nil ?_
              refine j_then ?_
              exact j_again m (x6.1, (n2 + 1), x6.2, (l2 ++ ([(v14, v15, v16)] : List (Int × Int × Int))), (wrap64 (p2 + (1:Int)))) (Nat.lt_succ_self m) ⟨h, (app_len q2 rfl)⟩ (fun a he => he.sub ⟨rfl, rfl, rfl, rfl, trivial⟩) (fun w h => (h.drop 2))
          · refine r_off rfl rfl rfl rfl (not_t (var_f c19)) rfl ?_
            refine r_off rfl rfl rfl rfl (not_t (var_f c19)) rfl ?_
            refine r_off rfl rfl rfl rfl (not_t (var_f c19)) rfl ?_
            refine r_q (q_pick_t rfl rfl (not_t (var_f c19)) rfl) rfl rfl ?_
            refine r_nil ?_
            refine j_then ?_
            refine j_true rfl rfl ?_
            refine j_seq ?_
            refine j_region ?_
            refine r_q (q_assign rfl rfl) rfl rfl ?_
            refine r_q (q_assign rfl rfl) rfl rfl ?_
            refine r_nil ?_
            refine j_then ?_
            refine j_ret ?_
            refine j_then_ret ?_
            refine j_in_ret ?_
            refine j_then_ret ?_
            refine j_then_ret ?_
            refine j_in_ret ?_
            refine j_then_ret ?_
            refine j_then_ret ?_
            refine j_nil 25 3 ?_
            cases h
            exact j_return rfl (ResOf.tmp rfl (ResOf.tmp rfl ResOf.nil)) rfl (fun w h => ⟨⟨none, 0, 0, rfl⟩, rfl, h.pick 4 [0] rfl⟩)
        · refine j_false rfl (decide_eq_false c17) ?_
          refine j_exit ?_
          refine j_then_exit ?_
          refine j_then_exit ?_
          refine j_in_exit ?_
          refine j_then ?_
          exact j_meet (A2, n2, d2, l2) ⟨h, q2⟩ (fun a he => he.sub ⟨rfl, trivial⟩) (fun w h => h.tail)
    · rintro ⟨A3, n3, d3, l3⟩ ⟨h, q3⟩
      subst hκ0
      show J _ _ [(4, (.slice A3 n3 d3))] _ (.row A3 d3 25 3 (trips l3) :: F)
      refine j_then ?_
      refine j_seq ?_
      refine j_region ?_
      refine r_q (q_move rfl rfl) rfl rfl ?_
      refine r_q (q_assign rfl rfl) rfl rfl ?_
      refine r_q (q_assign rfl rfl) rfl rfl ?_
      refine r_nil ?_
      refine j_then ?_
      refine j_ret ?_
      cases h
      exact j_return rfl (ResOf.tmp rfl (ResOf.tmp rfl ResOf.nil)) rfl (fun w h => ⟨⟨A3, n3, d3, q3⟩, rfl, h⟩)

end Go.Proofs.YtnfaiojmabolmaaDoor.F
