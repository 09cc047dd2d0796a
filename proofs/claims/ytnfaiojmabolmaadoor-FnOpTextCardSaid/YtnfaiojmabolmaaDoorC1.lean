/- The program computes these pure functions, printed by the generator of wip/gen. -/
import Derived.Test.YtnfaiojmabolmaaDoorFa
import Derived.Test.YtnfaiojmabolmaaDoorFl
import Derived.Test.YtnfaiojmabolmaaDoorFb
import Derived.Test.YtnfaiojmabolmaaDoorC0
namespace Go.Proofs.YtnfaiojmabolmaaDoor.F
open Go Go.RowKit Go.Proofs.YtnfaiojmabolmaaDoor.S
set_option linter.unusedVariables false
set_option maxRecDepth 100000
theorem spec_ParseOp.calls (K : Nat) (a0 : ByteArray) {w0 w : World} {F : List Res} {r1 : Int} {r2 : Int} {r3 : Int} {r4 : Bool} (hm : Mem w0 (F) w)  (h : spec_ParseOp.f K a0 = some (r1, r2, r3, r4)) :
    Calls Tryd.prog 23 (List.toArray [.string a0]) w fun e w' => ∃ x : Unit, e = .returned (.tuple (List.toArray [.agg (List.toArray [i6 r1, i6 r2, i6 r3]), .bool r4])) ∧ Mem w0 (F) w' := by
  unfold spec_ParseOp.f at h
  refine calls_of_J (n := 34) Tryd.func23 rfl rfl rfl hm ?_
  refine j_seq ?_
  refine j_region ?_
  refine r_do (a_alloc zr25 rfl) rfl rfl (fun x1 => ?_)
  refine r_q (q_assign rfl rfl) rfl rfl ?_
  refine r_nil ?_
  refine j_then ?_
  refine j_seq ?_
  refine j_seq ?_
  refine j_region ?_
  refine r_q (q_assign rfl rfl) rfl rfl ?_
  refine r_nil ?_
  refine j_then ?_
  obtain ⟨κ0, h, hκ0⟩ := ex_k (g := fun κ => spec_ParseOp.loop0 K κ a0 K (1:Int) = some (r1, r2, r3, r4)) h
  refine j_cut (σ := Unit) (fun s => [(2, (pt x1))]) (fun s => .box x1 25 [(i6 (0:Int)), (i6 (0:Int)), (i6 (0:Int))] :: F) (fun s => κ0 () = some (r1, r2, r3, r4)) ?_ ?_
  · refine j_block ?_
    refine j_loop (σ := Int) (fun s => [(0, (.string a0)), (2, (pt x1)), (4, (i6 s))]) (fun s => .box x1 25 [(i6 (0:Int)), (i6 (0:Int)), (i6 (0:Int))] :: F) (fun m s => spec_ParseOp.loop0 K κ0 a0 m s = some (r1, r2, r3, r4)) K (1:Int) h (fun a he => he.sub ⟨rfl, rfl, rfl, trivial⟩) (fun w h => h) ?_
    rintro m p22 h
    cases m with
    | zero => exact absurd h (by rw [spec_ParseOp.loop0]; exact nofun)
    | succ m =>
      rw [spec_ParseOp.loop0] at h
      show J _ _ [(0, (.string a0)), (2, (pt x1)), (4, (i6 p22))] _ (.box x1 25 [(i6 (0:Int)), (i6 (0:Int)), (i6 (0:Int))] :: F)
      refine j_seq ?_
      refine j_seq ?_
      refine j_region ?_
      refine r_q (q_move rfl rfl) rfl rfl ?_
      refine r_q (q_leq rfl rfl rfl) rfl rfl ?_
      refine r_nil ?_
      refine j_then ?_
      rcases of_if h with ⟨c144, h⟩ | ⟨c144, h⟩
      · refine j_true rfl (decide_eq_true c144) ?_
        refine j_skip ?_
        refine j_then ?_
        refine j_seq ?_
        refine j_block ?_
        refine j_seq ?_
        refine j_region ?_
        refine r_q (q_assign rfl rfl) rfl rfl ?_
        refine r_nil ?_
        refine j_then ?_
        obtain ⟨κ1, h, hκ1⟩ := ex_k (g := fun κ => spec_ParseOp.loop1 K κ a0 p22 K (0:Int) = some (r1, r2, r3, r4)) h
        refine j_cut (σ := Unit) (fun s => [(0, (.string a0)), (2, (pt x1)), (4, (i6 p22))]) (fun s => .box x1 25 [(i6 (0:Int)), (i6 (0:Int)), (i6 (0:Int))] :: F) (fun s => κ1 () = some (r1, r2, r3, r4)) ?_ ?_
        · refine j_block ?_
          refine j_loop (σ := Int) (fun s => [(0, (.string a0)), (2, (pt x1)), (4, (i6 p22)), (5, (i6 s))]) (fun s => .box x1 25 [(i6 (0:Int)), (i6 (0:Int)), (i6 (0:Int))] :: F) (fun m s => spec_ParseOp.loop1 K κ1 a0 p22 m s = some (r1, r2, r3, r4)) K (0:Int) h (fun a he => he.sub ⟨rfl, rfl, rfl, rfl, trivial⟩) (fun w h => h) ?_
          rintro m p38 h
          cases m with
          | zero => exact absurd h (by rw [spec_ParseOp.loop1]; exact nofun)
          | succ m =>
            rw [spec_ParseOp.loop1] at h
            show J _ _ [(0, (.string a0)), (2, (pt x1)), (4, (i6 p22)), (5, (i6 p38))] _ (.box x1 25 [(i6 (0:Int)), (i6 (0:Int)), (i6 (0:Int))] :: F)
            refine j_seq ?_
            refine j_seq ?_
            refine j_region ?_
            refine r_q (q_move rfl rfl) rfl rfl ?_
            refine r_q (q_lss rfl rfl rfl) rfl rfl ?_
            refine r_nil ?_
            refine j_then ?_
            rcases of_if h with ⟨c180, h⟩ | ⟨c180, h⟩
            · refine j_true rfl (decide_eq_true c180) ?_
              refine j_skip ?_
              refine j_then ?_
              refine j_seq ?_
              refine j_block ?_
              refine j_seq ?_
              refine j_region ?_
              refine r_q (q_assign rfl rfl) rfl rfl ?_
              refine r_nil ?_
              refine j_then ?_
              obtain ⟨κ2, h, hκ2⟩ := ex_k (g := fun κ => spec_ParseOp.loop2 K κ a0 p22 p38 K (0:Int) = some (r1, r2, r3, r4)) h
              refine j_cut (σ := Unit) (fun s => [(0, (.string a0)), (2, (pt x1)), (4, (i6 p22)), (5, (i6 p38))]) (fun s => .box x1 25 [(i6 (0:Int)), (i6 (0:Int)), (i6 (0:Int))] :: F) (fun s => κ2 () = some (r1, r2, r3, r4)) ?_ ?_
              · refine j_block ?_
                refine j_loop (σ := Int) (fun s => [(0, (.string a0)), (2, (pt x1)), (4, (i6 p22)), (5, (i6 p38)), (6, (i6 s))]) (fun s => .box x1 25 [(i6 (0:Int)), (i6 (0:Int)), (i6 (0:Int))] :: F) (fun m s => spec_ParseOp.loop2 K κ2 a0 p22 p38 m s = some (r1, r2, r3, r4)) K (0:Int) h (fun a he => he.sub ⟨rfl, rfl, rfl, rfl, rfl, trivial⟩) (fun w h => h) ?_
                rintro m p42 h
                cases m with
                | zero => exact absurd h (by rw [spec_ParseOp.loop2]; exact nofun)
                | succ m =>
                  rw [spec_ParseOp.loop2] at h
                  show J _ _ [(0, (.string a0)), (2, (pt x1)), (4, (i6 p22)), (5, (i6 p38)), (6, (i6 p42))] _ (.box x1 25 [(i6 (0:Int)), (i6 (0:Int)), (i6 (0:Int))] :: F)
                  refine j_seq ?_
                  refine j_seq ?_
                  refine j_region ?_
                  refine r_q (q_move rfl rfl) rfl rfl ?_
                  refine r_q (q_lss rfl rfl rfl) rfl rfl ?_
                  refine r_nil ?_
                  refine j_then ?_
                  rcases of_if h with ⟨c189, h⟩ | ⟨c189, h⟩
                  · refine j_true rfl (decide_eq_true c189) ?_
                    refine j_skip ?_
                    refine j_then ?_
                    refine j_seq ?_
                    refine j_block ?_
                    refine j_seq ?_
                    refine j_region ?_
                    refine r_q (q_move rfl rfl) rfl rfl ?_
                    refine r_q (q_move rfl rfl) rfl rfl ?_
                    refine r_q (q_move rfl rfl) rfl rfl ?_
                    refine r_q (q_build (cs := [(i6 p22), (i6 p38), (i6 p42)]) zr25 pl25 rfl rfl rfl rfl) rfl rfl ?_
                    refine r_do (a_alloc zr25 rfl) rfl rfl (fun x2 => ?_)
                    refine r_do (a_storeb 0 rfl sz25 rfl rfl rfl rfl (Nat.le_of_ble_eq_true rfl) rfl) rfl rfl (fun _ => ?_)
                    refine j_b0 [(i6 p22), (i6 p38), (i6 p42)] rfl ?_
                    refine r_nil ?_
                    refine j_then ?_
                    refine j_seq ?_
                    refine j_region ?_
                    refine r_q (q_move rfl rfl) rfl rfl ?_
                    refine r_q (q_sneq rfl rfl rfl) rfl rfl ?_
                    refine r_q (q_move rfl rfl) rfl rfl ?_
                    rcases of_if h with ⟨c190, h⟩ | ⟨c190, h⟩
                    · refine r_off rfl rfl rfl rfl (not_f (beq_t c190)) rfl ?_
                      refine r_off rfl rfl rfl rfl (not_f (beq_t c190)) rfl ?_
                      refine r_off rfl rfl rfl rfl (not_f (beq_t c190)) rfl ?_
                      refine r_off rfl rfl rfl rfl (not_f (beq_t c190)) rfl ?_
                      refine r_q (q_pick_f rfl rfl (not_f (beq_t c190)) rfl) rfl rfl ?_
                      refine r_nil ?_
                      refine j_then ?_
                      refine j_false rfl rfl ?_
                      refine j_skip ?_
                      refine j_in ?_
                      refine j_then ?_
                      refine j_region ?_
                      refine r_q (q_move rfl rfl) rfl rfl ?_
                      refine r_q (q_add rfl rfl rfl) rfl rfl ?_
                      refine r_q (q_assign rfl rfl) rfl rfl ?_
                      refine r_nil ?_
                      refine j_then ?_
                      exact j_again m (wrap64 (p42 + (1:Int))) (Nat.lt_succ_self m) h (fun a he => he.sub ⟨rfl, rfl, rfl, rfl, rfl, trivial⟩) (fun w h => h.tail)
                    · refine r_qon (q_loadb_agg 0 rfl ag25 sz25 rfl rfl rfl rfl) rfl rfl rfl rfl (not_t (beq_f c190)) rfl ?_
                      obtain ⟨v64, hb64, h⟩ := of_b1 h
                      refine r_on (a_call ok10 rfl rfl rfl rfl (fun w hm => spec_FormatOp.calls K p22 p38 p42 hm hb64)) rfl rfl rfl rfl (not_t (beq_f c190)) rfl (fun x3 => ?_)
                      refine r_qon (q_move rfl rfl) rfl rfl rfl rfl (not_t (beq_f c190)) rfl ?_
                      refine r_qon (q_seql rfl rfl rfl) rfl rfl rfl rfl (not_t (beq_f c190)) rfl ?_
                      refine r_q (q_pick_t rfl rfl (not_t (beq_f c190)) rfl) rfl rfl ?_
                      refine r_nil ?_
                      refine j_then ?_
                      rcases of_if h with ⟨c191, h⟩ | ⟨c191, h⟩
                      · refine j_true rfl (beq_t c191) ?_
                        refine j_seq ?_
                        refine j_region ?_
                        refine r_q (q_loadb_agg 0 rfl ag25 sz25 rfl rfl rfl rfl) rfl rfl ?_
                        refine r_do (a_storeb 1 rfl sz25 rfl rfl rfl rfl (Nat.le_of_ble_eq_true rfl) rfl) rfl rfl (fun _ => ?_)
                        refine j_b1 [(i6 p22), (i6 p38), (i6 p42)] rfl ?_
                        refine r_q (q_assign rfl rfl) rfl rfl ?_
                        refine r_nil ?_
                        refine j_then ?_
                        refine j_ret ?_
                        refine j_in_ret ?_
                        refine j_then_ret ?_
                        refine j_then_ret ?_
                        refine j_in_ret ?_
                        refine j_then_ret ?_
                        refine j_in_ret ?_
                        refine j_then_ret ?_
                        refine j_then_ret ?_
                        refine j_in_ret ?_
                        refine j_then_ret ?_
                        refine j_in_ret ?_
                        refine j_then_ret ?_
                        refine j_then_ret ?_
                        refine j_in_ret ?_
                        refine j_then_ret ?_
                        refine j_then_ret ?_
                        cases h
                        exact j_return rfl (ResOf.cell 1 rfl rfl ag25 sz25 (ResOf.tmp rfl ResOf.nil)) rfl (fun w h => ⟨(), rfl, (h.drop 2)⟩)
                      · refine j_false rfl (beq_f c191) ?_
                        refine j_skip ?_
                        refine j_in ?_
                        refine j_then ?_
                        refine j_region ?_
                        refine r_q (q_move rfl rfl) rfl rfl ?_
                        refine r_q (q_add rfl rfl rfl) rfl rfl ?_
                        refine r_q (q_assign rfl rfl) rfl rfl ?_
                        refine r_nil ?_
                        refine j_then ?_
                        exact j_again m (wrap64 (p42 + (1:Int))) (Nat.lt_succ_self m) h (fun a he => he.sub ⟨rfl, rfl, rfl, rfl, rfl, trivial⟩) (fun w h => h.tail)
                  · refine j_false rfl (decide_eq_false c189) ?_
                    refine j_exit ?_
                    refine j_then_exit ?_
                    refine j_then_exit ?_
                    refine j_in_exit ?_
                    refine j_then ?_
                    exact j_meet () h (fun a he => he.sub ⟨rfl, rfl, rfl, rfl, trivial⟩) (fun w h => h)
              · rintro _ h
                subst hκ2
                show J _ _ [(0, (.string a0)), (2, (pt x1)), (4, (i6 p22)), (5, (i6 p38))] _ (.box x1 25 [(i6 (0:Int)), (i6 (0:Int)), (i6 (0:Int))] :: F)
                refine j_in ?_
                refine j_then ?_
                refine j_region ?_
                refine r_q (q_move rfl rfl) rfl rfl ?_
                refine r_q (q_add rfl rfl rfl) rfl rfl ?_
                refine r_q (q_assign rfl rfl) rfl rfl ?_
                refine r_nil ?_
                refine j_then ?_
                exact j_again m (wrap64 (p38 + (1:Int))) (Nat.lt_succ_self m) h (fun a he => he.sub ⟨rfl, rfl, rfl, rfl, trivial⟩) (fun w h => h)
            · refine j_false rfl (decide_eq_false c180) ?_
              refine j_exit ?_
              refine j_then_exit ?_
              refine j_then_exit ?_
              refine j_in_exit ?_
              refine j_then ?_
              exact j_meet () h (fun a he => he.sub ⟨rfl, rfl, rfl, trivial⟩) (fun w h => h)
        · rintro _ h
          subst hκ1
          show J _ _ [(0, (.string a0)), (2, (pt x1)), (4, (i6 p22))] _ (.box x1 25 [(i6 (0:Int)), (i6 (0:Int)), (i6 (0:Int))] :: F)
          refine j_in ?_
          refine j_then ?_
          refine j_region ?_
          refine r_q (q_move rfl rfl) rfl rfl ?_
          refine r_q (q_add rfl rfl rfl) rfl rfl ?_
          refine r_q (q_assign rfl rfl) rfl rfl ?_
          refine r_nil ?_
          refine j_then ?_
          exact j_again m (wrap64 (p22 + (1:Int))) (Nat.lt_succ_self m) h (fun a he => he.sub ⟨rfl, rfl, rfl, trivial⟩) (fun w h => h)
      · refine j_false rfl (decide_eq_false c144) ?_
        refine j_exit ?_
        refine j_then_exit ?_
        refine j_then_exit ?_
        refine j_in_exit ?_
        refine j_then ?_
        exact j_meet () h (fun a he => he.sub ⟨rfl, trivial⟩) (fun w h => h)
  · rintro _ h
    subst hκ0
    show J _ _ [(2, (pt x1))] _ (.box x1 25 [(i6 (0:Int)), (i6 (0:Int)), (i6 (0:Int))] :: F)
    refine j_then ?_
    refine j_seq ?_
    refine j_region ?_
    refine r_q (q_build (cs := [(i6 (0:Int)), (i6 (0:Int)), (i6 (0:Int))]) zr25 pl25 rfl rfl rfl rfl) rfl rfl ?_
    refine r_do (a_storeb 0 rfl sz25 rfl rfl rfl rfl (Nat.le_of_ble_eq_true rfl) rfl) rfl rfl (fun _ => ?_)
    refine j_b0 [(i6 (0:Int)), (i6 (0:Int)), (i6 (0:Int))] rfl ?_
    refine r_q (q_assign rfl rfl) rfl rfl ?_
    refine r_nil ?_
    refine j_then ?_
    refine j_ret ?_
    cases h
    exact j_return rfl (ResOf.cell 0 rfl rfl ag25 sz25 (ResOf.tmp rfl ResOf.nil)) rfl (fun w h => ⟨(), rfl, h.tail⟩)

theorem impl_ParseOp.calls (K : Nat) (a0 : ByteArray) {w0 w : World} {F : List Res} {r1 : Int} {r2 : Int} {r3 : Int} {r4 : Bool} (hm : Mem w0 (F) w) (gT : Rd w0 F (gA 0) (strs opTab)) (h : impl_ParseOp.f K a0 = some (r1, r2, r3, r4)) :
    Calls Tryd.prog 24 (List.toArray [.string a0]) w fun e w' => ∃ x : Unit, e = .returned (.tuple (List.toArray [.agg (List.toArray [i6 r1, i6 r2, i6 r3]), .bool r4])) ∧ Mem w0 (F) w' := by
  unfold impl_ParseOp.f at h
  refine calls_of_J (n := 34) Tryd.func24 rfl rfl rfl hm ?_
  refine j_seq ?_
  refine j_region ?_
  refine r_do (a_alloc zr25 rfl) rfl rfl (fun x1 => ?_)
  refine r_q (q_assign rfl rfl) rfl rfl ?_
  refine r_nil ?_
  refine j_then ?_
  refine j_seq ?_
  refine j_seq ?_
  refine j_region ?_
  refine r_q (q_assign rfl rfl) rfl rfl ?_
  refine r_nil ?_
  refine j_then ?_
  obtain ⟨κ0, h, hκ0⟩ := ex_k (g := fun κ => impl_ParseOp.loop0 K κ a0 K (1:Int) = some (r1, r2, r3, r4)) h
  refine j_cut (σ := Unit) (fun s => [(2, (pt x1))]) (fun s => .box x1 25 [(i6 (0:Int)), (i6 (0:Int)), (i6 (0:Int))] :: F) (fun s => κ0 () = some (r1, r2, r3, r4)) ?_ ?_
  · refine j_block ?_
    refine j_loop (σ := Int) (fun s => [(0, (.string a0)), (2, (pt x1)), (4, (i6 s))]) (fun s => .box x1 25 [(i6 (0:Int)), (i6 (0:Int)), (i6 (0:Int))] :: F) (fun m s => impl_ParseOp.loop0 K κ0 a0 m s = some (r1, r2, r3, r4)) K (1:Int) h (fun a he => he.sub ⟨rfl, rfl, rfl, trivial⟩) (fun w h => h) ?_
    rintro m p22 h
    cases m with
    | zero => exact absurd h (by rw [impl_ParseOp.loop0]; exact nofun)
    | succ m =>
      rw [impl_ParseOp.loop0] at h
      show J _ _ [(0, (.string a0)), (2, (pt x1)), (4, (i6 p22))] _ (.box x1 25 [(i6 (0:Int)), (i6 (0:Int)), (i6 (0:Int))] :: F)
      refine j_seq ?_
      refine j_seq ?_
      refine j_region ?_
      refine r_q (q_move rfl rfl) rfl rfl ?_
      refine r_q (q_leq rfl rfl rfl) rfl rfl ?_
      refine r_nil ?_
      refine j_then ?_
      rcases of_if h with ⟨c144, h⟩ | ⟨c144, h⟩
      · refine j_true rfl (decide_eq_true c144) ?_
        refine j_skip ?_
        refine j_then ?_
        refine j_seq ?_
        refine j_block ?_
        refine j_seq ?_
        refine j_region ?_
        refine r_q (q_move rfl rfl) rfl rfl ?_
        refine r_nil ?_
        refine j_then ?_
        obtain ⟨κ1, h, hκ1⟩ := ex_k (g := fun κ => impl_ParseOp.loop1 K κ a0 p22 K (0:Int) = some (r1, r2, r3, r4)) h
        refine j_cut (σ := Unit) (fun s => [(0, (.string a0)), (2, (pt x1)), (4, (i6 p22))]) (fun s => .box x1 25 [(i6 (0:Int)), (i6 (0:Int)), (i6 (0:Int))] :: F) (fun s => κ1 () = some (r1, r2, r3, r4)) ?_ ?_
        · refine j_block ?_
          refine j_loop (σ := Int) (fun s => [(0, (.string a0)), (2, (pt x1)), (4, (i6 p22)), (12, (i6 s))]) (fun s => .box x1 25 [(i6 (0:Int)), (i6 (0:Int)), (i6 (0:Int))] :: F) (fun m s => impl_ParseOp.loop1 K κ1 a0 p22 m s = some (r1, r2, r3, r4)) K (0:Int) h (fun a he => he.sub ⟨rfl, rfl, rfl, rfl, trivial⟩) (fun w h => h) ?_
          rintro m p38 h
          cases m with
          | zero => exact absurd h (by rw [impl_ParseOp.loop1]; exact nofun)
          | succ m =>
            rw [impl_ParseOp.loop1] at h
            show J _ _ [(0, (.string a0)), (2, (pt x1)), (4, (i6 p22)), (12, (i6 p38))] _ (.box x1 25 [(i6 (0:Int)), (i6 (0:Int)), (i6 (0:Int))] :: F)
            refine j_seq ?_
            refine j_region ?_
            refine r_q (q_lss rfl rfl rfl) rfl rfl ?_
            refine r_nil ?_
            refine j_then ?_
            refine j_seq ?_
            rcases of_if h with ⟨c180, h⟩ | ⟨c180, h⟩
            · refine j_true rfl (decide_eq_true c180) ?_
              refine j_skip ?_
              refine j_then ?_
              refine j_seq ?_
              refine j_block ?_
              refine j_seq ?_
              refine j_region ?_
              refine r_q (q_move rfl rfl) rfl rfl ?_
              refine r_q (q_assign rfl rfl) rfl rfl ?_
              refine r_nil ?_
              refine j_then ?_
              refine j_seq ?_
              refine j_region ?_
              refine r_q (q_move rfl rfl) rfl rfl ?_
              refine r_nil ?_
              refine j_then ?_
              obtain ⟨κ2, h, hκ2⟩ := ex_k (g := fun κ => impl_ParseOp.loop2 K κ a0 p22 p38 K (0:Int) = some (r1, r2, r3, r4)) h
              refine j_cut (σ := Unit) (fun s => [(0, (.string a0)), (2, (pt x1)), (4, (i6 p22)), (12, (i6 p38))]) (fun s => .box x1 25 [(i6 (0:Int)), (i6 (0:Int)), (i6 (0:Int))] :: F) (fun s => κ2 () = some (r1, r2, r3, r4)) ?_ ?_
              · refine j_block ?_
                refine j_loop (σ := Int) (fun s => [(0, (.string a0)), (2, (pt x1)), (4, (i6 p22)), (5, (i6 p38)), (12, (i6 p38)), (15, (i6 s))]) (fun s => .box x1 25 [(i6 (0:Int)), (i6 (0:Int)), (i6 (0:Int))] :: F) (fun m s => impl_ParseOp.loop2 K κ2 a0 p22 p38 m s = some (r1, r2, r3, r4)) K (0:Int) h (fun a he => he.sub ⟨rfl, rfl, rfl, rfl, rfl, rfl, trivial⟩) (fun w h => h) ?_
                rintro m p42 h
                cases m with
                | zero => exact absurd h (by rw [impl_ParseOp.loop2]; exact nofun)
                | succ m =>
                  rw [impl_ParseOp.loop2] at h
                  show J _ _ [(0, (.string a0)), (2, (pt x1)), (4, (i6 p22)), (5, (i6 p38)), (12, (i6 p38)), (15, (i6 p42))] _ (.box x1 25 [(i6 (0:Int)), (i6 (0:Int)), (i6 (0:Int))] :: F)
                  refine j_seq ?_
                  refine j_region ?_
                  refine r_q (q_lss rfl rfl rfl) rfl rfl ?_
                  refine r_nil ?_
                  refine j_then ?_
                  refine j_seq ?_
                  rcases of_if h with ⟨c189, h⟩ | ⟨c189, h⟩
                  · refine j_true rfl (decide_eq_true c189) ?_
                    refine j_skip ?_
                    refine j_then ?_
                    refine j_seq ?_
                    refine j_block ?_
                    refine j_seq ?_
                    refine j_region ?_
                    refine r_q (q_move rfl rfl) rfl rfl ?_
                    refine r_q (q_assign rfl rfl) rfl rfl ?_
                    refine r_nil ?_
                    refine j_then ?_
                    refine j_seq ?_
                    refine j_region ?_
                    refine r_q (q_move rfl rfl) rfl rfl ?_
                    refine r_q (q_move rfl rfl) rfl rfl ?_
                    refine r_q (q_move rfl rfl) rfl rfl ?_
                    refine r_q (q_build (cs := [(i6 p22), (i6 p38), (i6 p42)]) zr25 pl25 rfl rfl rfl rfl) rfl rfl ?_
                    refine r_do (a_alloc zr25 rfl) rfl rfl (fun x2 => ?_)
                    refine r_do (a_storeb 0 rfl sz25 rfl rfl rfl rfl (Nat.le_of_ble_eq_true rfl) rfl) rfl rfl (fun _ => ?_)
                    refine j_b0 [(i6 p22), (i6 p38), (i6 p42)] rfl ?_
                    refine r_nil ?_
                    refine j_then ?_
                    refine j_seq ?_
                    refine j_region ?_
                    refine r_q (q_move rfl rfl) rfl rfl ?_
                    refine r_q (q_sneq rfl rfl rfl) rfl rfl ?_
                    refine r_q (q_move rfl rfl) rfl rfl ?_
                    rcases of_if h with ⟨c190, h⟩ | ⟨c190, h⟩
                    · refine r_off rfl rfl rfl rfl (not_f (beq_t c190)) rfl ?_
                      refine r_off rfl rfl rfl rfl (not_f (beq_t c190)) rfl ?_
                      refine r_off rfl rfl rfl rfl (not_f (beq_t c190)) rfl ?_
                      refine r_off rfl rfl rfl rfl (not_f (beq_t c190)) rfl ?_
                      refine r_q (q_pick_f rfl rfl (not_f (beq_t c190)) rfl) rfl rfl ?_
                      refine r_nil ?_
                      refine j_then ?_
                      refine j_false rfl rfl ?_
                      refine j_skip ?_
                      refine j_in ?_
                      refine j_then ?_
                      refine j_region ?_
                      refine r_q (q_add rfl rfl rfl) rfl rfl ?_
                      refine r_q (q_move rfl rfl) rfl rfl ?_
                      refine r_nil ?_
                      refine j_then ?_
                      exact j_again m (wrap64 (p42 + (1:Int))) (Nat.lt_succ_self m) h (fun a he => he.sub ⟨rfl, rfl, rfl, rfl, rfl, rfl, trivial⟩) (fun w h => h.tail)
                    · refine r_qon (q_loadb_agg 0 rfl ag25 sz25 rfl rfl rfl rfl) rfl rfl rfl rfl (not_t (beq_f c190)) rfl ?_
                      obtain ⟨v64, hb64, h⟩ := of_b1 h
                      refine r_on (a_call ok12 rfl rfl rfl rfl (fun w hm => impl_FormatOp.calls K p22 p38 p42 hm (Rd.drop 2 gT) hb64)) rfl rfl rfl rfl (not_t (beq_f c190)) rfl (fun x3 => ?_)
                      refine r_qon (q_move rfl rfl) rfl rfl rfl rfl (not_t (beq_f c190)) rfl ?_
                      refine r_qon (q_seql rfl rfl rfl) rfl rfl rfl rfl (not_t (beq_f c190)) rfl ?_
                      refine r_q (q_pick_t rfl rfl (not_t (beq_f c190)) rfl) rfl rfl ?_
                      refine r_nil ?_
                      refine j_then ?_
                      rcases of_if h with ⟨c191, h⟩ | ⟨c191, h⟩
                      · refine j_true rfl (beq_t c191) ?_
                        refine j_seq ?_
                        refine j_region ?_
                        refine r_q (q_loadb_agg 0 rfl ag25 sz25 rfl rfl rfl rfl) rfl rfl ?_
                        refine r_do (a_storeb 1 rfl sz25 rfl rfl rfl rfl (Nat.le_of_ble_eq_true rfl) rfl) rfl rfl (fun _ => ?_)
                        refine j_b1 [(i6 p22), (i6 p38), (i6 p42)] rfl ?_
                        refine r_q (q_assign rfl rfl) rfl rfl ?_
                        refine r_nil ?_
                        refine j_then ?_
                        refine j_ret ?_
                        refine j_in_ret ?_
                        refine j_then_ret ?_
                        refine j_then_ret ?_
                        refine j_in_ret ?_
                        refine j_then_ret ?_
                        refine j_in_ret ?_
                        refine j_then_ret ?_
                        refine j_then_ret ?_
                        refine j_in_ret ?_
                        refine j_then_ret ?_
                        refine j_in_ret ?_
                        refine j_then_ret ?_
                        refine j_then_ret ?_
                        refine j_in_ret ?_
                        refine j_then_ret ?_
                        refine j_then_ret ?_
                        cases h
                        exact j_return rfl (ResOf.cell 1 rfl rfl ag25 sz25 (ResOf.tmp rfl ResOf.nil)) rfl (fun w h => ⟨(), rfl, (h.drop 2)⟩)
                      · refine j_false rfl (beq_f c191) ?_
                        refine j_skip ?_
                        refine j_in ?_
                        refine j_then ?_
                        refine j_region ?_
                        refine r_q (q_add rfl rfl rfl) rfl rfl ?_
                        refine r_q (q_move rfl rfl) rfl rfl ?_
                        refine r_nil ?_
                        refine j_then ?_
                        exact j_again m (wrap64 (p42 + (1:Int))) (Nat.lt_succ_self m) h (fun a he => he.sub ⟨rfl, rfl, rfl, rfl, rfl, rfl, trivial⟩) (fun w h => h.tail)
                  · refine j_false rfl (decide_eq_false c189) ?_
                    refine j_exit ?_
                    refine j_then_exit ?_
                    refine j_then_exit ?_
                    refine j_in_exit ?_
                    refine j_then ?_
                    exact j_meet () h (fun a he => he.sub ⟨rfl, rfl, rfl, rfl, trivial⟩) (fun w h => h)
              · rintro _ h
                subst hκ2
                show J _ _ [(0, (.string a0)), (2, (pt x1)), (4, (i6 p22)), (12, (i6 p38))] _ (.box x1 25 [(i6 (0:Int)), (i6 (0:Int)), (i6 (0:Int))] :: F)
                refine j_in ?_
                refine j_then ?_
                refine j_region ?_
                refine r_q (q_add rfl rfl rfl) rfl rfl ?_
                refine r_q (q_move rfl rfl) rfl rfl ?_
                refine r_nil ?_
                refine j_then ?_
                exact j_again m (wrap64 (p38 + (1:Int))) (Nat.lt_succ_self m) h (fun a he => he.sub ⟨rfl, rfl, rfl, rfl, trivial⟩) (fun w h => h)
            · refine j_false rfl (decide_eq_false c180) ?_
              refine j_exit ?_
              refine j_then_exit ?_
              refine j_then_exit ?_
              refine j_in_exit ?_
              refine j_then ?_
              exact j_meet () h (fun a he => he.sub ⟨rfl, rfl, rfl, trivial⟩) (fun w h => h)
        · rintro _ h
          subst hκ1
          show J _ _ [(0, (.string a0)), (2, (pt x1)), (4, (i6 p22))] _ (.box x1 25 [(i6 (0:Int)), (i6 (0:Int)), (i6 (0:Int))] :: F)
          refine j_in ?_
          refine j_then ?_
          refine j_region ?_
          refine r_q (q_move rfl rfl) rfl rfl ?_
          refine r_q (q_add rfl rfl rfl) rfl rfl ?_
          refine r_q (q_assign rfl rfl) rfl rfl ?_
          refine r_nil ?_
          refine j_then ?_
          exact j_again m (wrap64 (p22 + (1:Int))) (Nat.lt_succ_self m) h (fun a he => he.sub ⟨rfl, rfl, rfl, trivial⟩) (fun w h => h)
      · refine j_false rfl (decide_eq_false c144) ?_
        refine j_exit ?_
        refine j_then_exit ?_
        refine j_then_exit ?_
        refine j_in_exit ?_
        refine j_then ?_
        exact j_meet () h (fun a he => he.sub ⟨rfl, trivial⟩) (fun w h => h)
  · rintro _ h
    subst hκ0
    show J _ _ [(2, (pt x1))] _ (.box x1 25 [(i6 (0:Int)), (i6 (0:Int)), (i6 (0:Int))] :: F)
    refine j_then ?_
    refine j_seq ?_
    refine j_region ?_
    refine r_q (q_build (cs := [(i6 (0:Int)), (i6 (0:Int)), (i6 (0:Int))]) zr25 pl25 rfl rfl rfl rfl) rfl rfl ?_
    refine r_do (a_storeb 0 rfl sz25 rfl rfl rfl rfl (Nat.le_of_ble_eq_true rfl) rfl) rfl rfl (fun _ => ?_)
    refine j_b0 [(i6 (0:Int)), (i6 (0:Int)), (i6 (0:Int))] rfl ?_
    refine r_q (q_assign rfl rfl) rfl rfl ?_
    refine r_nil ?_
    refine j_then ?_
    refine j_ret ?_
    cases h
    exact j_return rfl (ResOf.cell 0 rfl rfl ag25 sz25 (ResOf.tmp rfl ResOf.nil)) rfl (fun w h => ⟨(), rfl, h.tail⟩)

end Go.Proofs.YtnfaiojmabolmaaDoor.F
