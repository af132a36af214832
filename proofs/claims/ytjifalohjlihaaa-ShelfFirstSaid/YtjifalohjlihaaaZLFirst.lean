/- ShelfFirst returns true, whatever its argument is; the argument reads as it did. There are no conditions. -/
import Derived.Test.YtjifalohjlihaaaA6
import Derived.Below
import Derived.ChangeOld
import Derived.Deep.Slices
import Derived.Deep.Strs
import Derived.OpenShut
import Derived.ProofKit
import Derived.ShutString
import Derived.SizedLaws
import Derived.WalkKit
import Derived.Test.YtjifalohjlihaaaRows
section
namespace Go.Proofs.Ytjifalohjlihaaa.Q
set_option linter.unusedVariables false
open Go.BigFrame Go.RowKit Go.Shelf Go.Proofs.YtjifalohjlihaaaW.PrintWords Go.Proofs.YtjifalohjlihaaaW.PrintLast Go.Proofs.YtjifalohjlihaaaW.PrintMore
def RL.low (r : RL) (m : Nat) : RL := r.some (2 ^ m - 1)
theorem low_len (r : RL) (m : Nat) : (r.low m).l5.length ≤ r.l5.length := picked_le _ _ _
theorem low_sl {r : RL} {m : Nat} (hl : r.l5.length ≤ 5) (hm : m ≤ 5) : (r.low m).sl = r.sl.upTo m := some_sl hl hm
theorem some_m (x : SA) (r : RL) (m : Nat) (hm : m ≤ 5) (bits : Int) (h : bits = 2 ^ m - 1) (w : World) (hr : RRd w x r) (t5 : r.l5.length ≤ 5) :
    Calls Try.prog 51 #[.agg (r.cells x), .int .i64 bits] w fun e w' => ∃ x' : SA, e = .returned (.agg ((r.low m).cells x')) ∧ RRd w' x' (r.low m) ∧ Below w.heap.size w w' := by
  subst h
  have hb : (0 : Int) ≤ 2 ^ m - 1 ∧ (2 ^ m - 1 : Int) ≤ 1000 := by
    have e5 : m = 0 ∨ m = 1 ∨ m = 2 ∨ m = 3 ∨ m = 4 ∨ m = 5 := by omega
    rcases e5 with rfl | rfl | rfl | rfl | rfl | rfl <;> decide
  exact some_calls x r _ w hr t5 hb.1 hb.2
set_option maxRecDepth 100000 in
set_option maxHeartbeats 6400000 in
theorem ShelfFirst_calls (x : SA) (r : RL) (w : World) (hr : RRd w x r) :
    Calls Try.prog 9 #[.agg (r.cells x)] w fun e w' => e = .returned (.bool true) ∧ Below w.heap.size w w' := by
  obtain ⟨A1, c1, A2, c2, A3, c3, A4, c4, A5, c5⟩ := x
  have HB := Aside0.mk (Below.refl w.heap.size w)
  have HR := Aside0.mk hr
  obtain ⟨d, hd⟩ : ∃ d, d = decide (r.thin ∧ r.sl.fault = 0) := ⟨_, rfl⟩
  have HD := Aside0.mk hd
  clear hr hd
  go_enter Try.func9, Try.ntmps9
  cases d with
  | false =>
    go_wp2_with (first | ((with_reducible refine gate_dst (N := 1) rfl ?_); refine box_event ?hg (N := 1) ?hd (cs := #[.int .i64 r.a0, .slice A1 r.l1.length c1, .slice A2 r.l2.length c2, .slice A3 r.l3.length c3, .slice A4 r.l4.length c4, .slice A5 r.l5.length c5]) (t := 28) ?hr ?_; (case hd => rfl); (case hg => rfl); (case hr => first | (go_simp; done) | (go_simp; rfl)); intro g1 hg_ w1 hbx_ hb_; have BK1 := Aside0.mk hbx_; have g1ge : w.heap.size ≤ g1 := (by have := below_size HB.out; omega); have g1GE := Aside0.mk g1ge; clear g1ge; have HBn := Aside0.mk (below_step HB.out hb_); clear HB hg_ hb_ hbx_; have HB := HBn; clear HBn; have f0 : w1.cell? ⟨g1, 0, none⟩ = some (.int .i64 r.a0) := (blk_cell BK1.out 0).trans rfl; have f1 : w1.cell? ⟨g1, 1, none⟩ = some (.slice A1 r.l1.length c1) := (blk_cell BK1.out 1).trans rfl; have f2 : w1.cell? ⟨g1, 2, none⟩ = some (.slice A2 r.l2.length c2) := (blk_cell BK1.out 2).trans rfl; have f3 : w1.cell? ⟨g1, 3, none⟩ = some (.slice A3 r.l3.length c3) := (blk_cell BK1.out 3).trans rfl; have f4 : w1.cell? ⟨g1, 4, none⟩ = some (.slice A4 r.l4.length c4) := (blk_cell BK1.out 4).trans rfl; have f5 : w1.cell? ⟨g1, 5, none⟩ = some (.slice A5 r.l5.length c5) := (blk_cell BK1.out 5).trans rfl) | (go_at_call 43; go_must (refine (ready_calls ⟨A1, c1, A2, c2, A3, c3, A4, c4, A5, c5⟩ r _ (RRd.below HR.out HB.out)).mono ?_; rw [← HD.out]; clear f0 f1 f2 f3 f4 f5; rintro e wt ⟨rfl, hb⟩; replace BK1 := Aside0.mk (blk_below BK1.out hb); replace HB := Aside0.mk (below_step HB.out hb); clear hb; have f0 : wt.cell? ⟨g1, 0, none⟩ = some (.int .i64 r.a0) := (blk_cell BK1.out 0).trans rfl; have f1 : wt.cell? ⟨g1, 1, none⟩ = some (.slice A1 r.l1.length c1) := (blk_cell BK1.out 1).trans rfl; have f2 : wt.cell? ⟨g1, 2, none⟩ = some (.slice A2 r.l2.length c2) := (blk_cell BK1.out 2).trans rfl; have f3 : wt.cell? ⟨g1, 3, none⟩ = some (.slice A3 r.l3.length c3) := (blk_cell BK1.out 3).trans rfl; have f4 : wt.cell? ⟨g1, 4, none⟩ = some (.slice A4 r.l4.length c4) := (blk_cell BK1.out 4).trans rfl; have f5 : wt.cell? ⟨g1, 5, none⟩ = some (.slice A5 r.l5.length c5) := (blk_cell BK1.out 5).trans rfl)) | (go_at_call 20; go_must (refine (awake_calls _).mono ?_; rintro e wa ⟨rfl, hb⟩; replace HB := Aside0.mk (below_step HB.out hb); clear hb)))
    go_ret
    exact ⟨rfl, HB.out⟩
  | true =>
    have hth := (of_decide_eq_true HD.out.symm).1
    have t1 : r.l1.length ≤ 1000 := by have := hth.1; omega
    have t2 : r.l2.length ≤ 1000 := by have := hth.2.1; omega
    have t3 : r.l3.length ≤ 1000 := by have := hth.2.2.1; omega
    have t5 : r.l5.length ≤ 1000 := by have := hth.2.2.2.1; omega
    have t4 : r.l4.length ≤ 1000 := by have := hth.2.2.2.2; omega
    have HF := Aside0.mk (of_decide_eq_true HD.out.symm).2
    have w5 : r.l5.length ≤ 5 := by have := (fault_zero HF.out).2.2.2.1; unfold RL.sl at this; simpa using this
    clear hth
    rcases first_law HF.out with ⟨hE, hc⟩ | ⟨hE, m, hO, hml, hs, hc⟩
    · have HE := Aside0.mk hE
      have HCAN := Aside0.mk (show r.sl.stuckErr r.l4 = 0 ∨ r.sl.stuckErr r.l4 = 7 from hc)
      have HO := Aside0.mk (show r.sl.firstOf = 0 by unfold SL.firstOf; rw [if_neg (by rw [hE]; decide)])
      clear hE hc
      go_wp2_with (first | ((with_reducible refine gate_dst (N := 1) rfl ?_); refine box_event ?hg (N := 1) ?hd (cs := #[.int .i64 r.a0, .slice A1 r.l1.length c1, .slice A2 r.l2.length c2, .slice A3 r.l3.length c3, .slice A4 r.l4.length c4, .slice A5 r.l5.length c5]) (t := 28) ?hr ?_; (case hd => rfl); (case hg => rfl); (case hr => first | (go_simp; done) | (go_simp; rfl)); intro g1 hg_ w1 hbx_ hb_; have BK1 := Aside0.mk hbx_; have g1ge : w.heap.size ≤ g1 := (by have := below_size HB.out; omega); have g1GE := Aside0.mk g1ge; clear g1ge; have HBn := Aside0.mk (below_step HB.out hb_); clear HB hg_ hb_ hbx_; have HB := HBn; clear HBn; have f0 : w1.cell? ⟨g1, 0, none⟩ = some (.int .i64 r.a0) := (blk_cell BK1.out 0).trans rfl; have f1 : w1.cell? ⟨g1, 1, none⟩ = some (.slice A1 r.l1.length c1) := (blk_cell BK1.out 1).trans rfl; have f2 : w1.cell? ⟨g1, 2, none⟩ = some (.slice A2 r.l2.length c2) := (blk_cell BK1.out 2).trans rfl; have f3 : w1.cell? ⟨g1, 3, none⟩ = some (.slice A3 r.l3.length c3) := (blk_cell BK1.out 3).trans rfl; have f4 : w1.cell? ⟨g1, 4, none⟩ = some (.slice A4 r.l4.length c4) := (blk_cell BK1.out 4).trans rfl; have f5 : w1.cell? ⟨g1, 5, none⟩ = some (.slice A5 r.l5.length c5) := (blk_cell BK1.out 5).trans rfl) | (go_at_call 43; go_must (refine (ready_calls ⟨A1, c1, A2, c2, A3, c3, A4, c4, A5, c5⟩ r _ (RRd.below HR.out HB.out)).mono ?_; rw [← HD.out]; clear f0 f1 f2 f3 f4 f5; rintro e wt ⟨rfl, hb⟩; replace BK1 := Aside0.mk (blk_below BK1.out hb); replace HB := Aside0.mk (below_step HB.out hb); clear hb; have f0 : wt.cell? ⟨g1, 0, none⟩ = some (.int .i64 r.a0) := (blk_cell BK1.out 0).trans rfl; have f1 : wt.cell? ⟨g1, 1, none⟩ = some (.slice A1 r.l1.length c1) := (blk_cell BK1.out 1).trans rfl; have f2 : wt.cell? ⟨g1, 2, none⟩ = some (.slice A2 r.l2.length c2) := (blk_cell BK1.out 2).trans rfl; have f3 : wt.cell? ⟨g1, 3, none⟩ = some (.slice A3 r.l3.length c3) := (blk_cell BK1.out 3).trans rfl; have f4 : wt.cell? ⟨g1, 4, none⟩ = some (.slice A4 r.l4.length c4) := (blk_cell BK1.out 4).trans rfl; have f5 : wt.cell? ⟨g1, 5, none⟩ = some (.slice A5 r.l5.length c5) := (blk_cell BK1.out 5).trans rfl)) | (go_at_call 22; go_must (refine (Loft_calls ⟨A1, c1, A2, c2, A3, c3, A4, c4, A5, c5⟩ r _ (RRd.below HR.out HB.out) t1 t2 t3 t4 t5).mono ?_; clear f0 f1 f2 f3 f4 f5; rintro e wl ⟨x', rfl, hr', hb⟩; have HRL := Aside0.mk hr'; replace BK1 := Aside0.mk (blk_below BK1.out hb); replace HB := Aside0.mk (below_step HB.out hb); clear hb hr')) | (go_at_call 37; go_must (refine (First.calls x' r.sl _ HRL.out).mono ?_; rw [HO.out, HE.out]; rintro e wf ⟨rfl, hb⟩; replace BK1 := Aside0.mk (blk_below BK1.out hb); replace HB := Aside0.mk (below_step HB.out hb); clear hb HRL; have f0 : wf.cell? ⟨g1, 0, none⟩ = some (.int .i64 r.a0) := (blk_cell BK1.out 0).trans rfl; have f1 : wf.cell? ⟨g1, 1, none⟩ = some (.slice A1 r.l1.length c1) := (blk_cell BK1.out 1).trans rfl; have f2 : wf.cell? ⟨g1, 2, none⟩ = some (.slice A2 r.l2.length c2) := (blk_cell BK1.out 2).trans rfl; have f3 : wf.cell? ⟨g1, 3, none⟩ = some (.slice A3 r.l3.length c3) := (blk_cell BK1.out 3).trans rfl; have f4 : wf.cell? ⟨g1, 4, none⟩ = some (.slice A4 r.l4.length c4) := (blk_cell BK1.out 4).trans rfl; have f5 : wf.cell? ⟨g1, 5, none⟩ = some (.slice A5 r.l5.length c5) := (blk_cell BK1.out 5).trans rfl)) | (go_at_call 50; go_must (refine (can_calls ⟨A1, c1, A2, c2, A3, c3, A4, c4, A5, c5⟩ r _ (RRd.below HR.out HB.out) t1 t2 t3 t4 t5).mono ?_; rw [decide_eq_true HCAN.out]; clear f0 f1 f2 f3 f4 f5; rintro e wc ⟨rfl, hb⟩; replace HB := Aside0.mk (below_step HB.out hb); clear hb)) | (go_at_call 20; go_must (refine (awake_calls _).mono ?_; rintro e wa ⟨rfl, hb⟩; replace HB := Aside0.mk (below_step HB.out hb); clear hb)))
      go_ret
      exact ⟨rfl, HB.out⟩
    · have HE := Aside0.mk hE
      have HO := Aside0.mk hO
      have hml2 : m < r.l5.length := by unfold RL.sl at hml; simpa using hml
      have HS11 := Aside0.mk hs
      have HC := Aside0.mk hc
      have hin : decide (0 ≤ (m : Int) ∧ (m : Int) ≤ (r.l5.length : Int) - 1) = true := decide_eq_true ⟨by omega, by omega⟩
      have hwl : IntKind.i64.wrap ((r.l5.length : Int) - 1) = (r.l5.length : Int) - 1 := IntWalk.i64_in _ (by omega)
      have HIN := Aside0.mk hin
      clear hE hO hs hc hin hml
      go_upto_region 8 with (first | ((with_reducible refine gate_dst (N := 1) rfl ?_); refine box_event ?hg (N := 1) ?hd (cs := #[.int .i64 r.a0, .slice A1 r.l1.length c1, .slice A2 r.l2.length c2, .slice A3 r.l3.length c3, .slice A4 r.l4.length c4, .slice A5 r.l5.length c5]) (t := 28) ?hr ?_; (case hd => rfl); (case hg => rfl); (case hr => first | (go_simp; done) | (go_simp; rfl)); intro g1 hg_ w1 hbx_ hb_; have BK1 := Aside0.mk hbx_; have g1ge : w.heap.size ≤ g1 := (by have := below_size HB.out; omega); have g1GE := Aside0.mk g1ge; clear g1ge; have HBn := Aside0.mk (below_step HB.out hb_); clear HB hg_ hb_ hbx_; have HB := HBn; clear HBn; have f0 : w1.cell? ⟨g1, 0, none⟩ = some (.int .i64 r.a0) := (blk_cell BK1.out 0).trans rfl; have f1 : w1.cell? ⟨g1, 1, none⟩ = some (.slice A1 r.l1.length c1) := (blk_cell BK1.out 1).trans rfl; have f2 : w1.cell? ⟨g1, 2, none⟩ = some (.slice A2 r.l2.length c2) := (blk_cell BK1.out 2).trans rfl; have f3 : w1.cell? ⟨g1, 3, none⟩ = some (.slice A3 r.l3.length c3) := (blk_cell BK1.out 3).trans rfl; have f4 : w1.cell? ⟨g1, 4, none⟩ = some (.slice A4 r.l4.length c4) := (blk_cell BK1.out 4).trans rfl; have f5 : w1.cell? ⟨g1, 5, none⟩ = some (.slice A5 r.l5.length c5) := (blk_cell BK1.out 5).trans rfl) | (go_at_call 43; go_must (refine (ready_calls ⟨A1, c1, A2, c2, A3, c3, A4, c4, A5, c5⟩ r _ (RRd.below HR.out HB.out)).mono ?_; rw [← HD.out]; clear f0 f1 f2 f3 f4 f5; rintro e wt ⟨rfl, hb⟩; replace BK1 := Aside0.mk (blk_below BK1.out hb); replace HB := Aside0.mk (below_step HB.out hb); clear hb; have f0 : wt.cell? ⟨g1, 0, none⟩ = some (.int .i64 r.a0) := (blk_cell BK1.out 0).trans rfl; have f1 : wt.cell? ⟨g1, 1, none⟩ = some (.slice A1 r.l1.length c1) := (blk_cell BK1.out 1).trans rfl; have f2 : wt.cell? ⟨g1, 2, none⟩ = some (.slice A2 r.l2.length c2) := (blk_cell BK1.out 2).trans rfl; have f3 : wt.cell? ⟨g1, 3, none⟩ = some (.slice A3 r.l3.length c3) := (blk_cell BK1.out 3).trans rfl; have f4 : wt.cell? ⟨g1, 4, none⟩ = some (.slice A4 r.l4.length c4) := (blk_cell BK1.out 4).trans rfl; have f5 : wt.cell? ⟨g1, 5, none⟩ = some (.slice A5 r.l5.length c5) := (blk_cell BK1.out 5).trans rfl)) | (go_at_call 22; go_must (refine (Loft_calls ⟨A1, c1, A2, c2, A3, c3, A4, c4, A5, c5⟩ r _ (RRd.below HR.out HB.out) t1 t2 t3 t4 t5).mono ?_; clear f0 f1 f2 f3 f4 f5; rintro e wl ⟨x', rfl, hr', hb⟩; have HRL := Aside0.mk hr'; replace BK1 := Aside0.mk (blk_below BK1.out hb); replace HB := Aside0.mk (below_step HB.out hb); clear hb hr')) | (go_at_call 37; go_must (refine (First.calls x' r.sl _ HRL.out).mono ?_; rw [HO.out, HE.out]; rintro e wf ⟨rfl, hb⟩; replace BK1 := Aside0.mk (blk_below BK1.out hb); replace HB := Aside0.mk (below_step HB.out hb); clear hb HRL; have f0 : wf.cell? ⟨g1, 0, none⟩ = some (.int .i64 r.a0) := (blk_cell BK1.out 0).trans rfl; have f1 : wf.cell? ⟨g1, 1, none⟩ = some (.slice A1 r.l1.length c1) := (blk_cell BK1.out 1).trans rfl; have f2 : wf.cell? ⟨g1, 2, none⟩ = some (.slice A2 r.l2.length c2) := (blk_cell BK1.out 2).trans rfl; have f3 : wf.cell? ⟨g1, 3, none⟩ = some (.slice A3 r.l3.length c3) := (blk_cell BK1.out 3).trans rfl; have f4 : wf.cell? ⟨g1, 4, none⟩ = some (.slice A4 r.l4.length c4) := (blk_cell BK1.out 4).trans rfl; have f5 : wf.cell? ⟨g1, 5, none⟩ = some (.slice A5 r.l5.length c5) := (blk_cell BK1.out 5).trans rfl)) | (go_at_call 29; go_must (refine (In_below (m : Int) 0 ((r.l5.length : Int) - 1) _).mono ?_; rw [HIN.out]; clear f0 f1 f2 f3 f4 f5; rintro e wt ⟨rfl, hb⟩; replace BK1 := Aside0.mk (blk_below BK1.out hb); replace HB := Aside0.mk (below_step HB.out hb); clear hb; have f0 : wt.cell? ⟨g1, 0, none⟩ = some (.int .i64 r.a0) := (blk_cell BK1.out 0).trans rfl; have f1 : wt.cell? ⟨g1, 1, none⟩ = some (.slice A1 r.l1.length c1) := (blk_cell BK1.out 1).trans rfl; have f2 : wt.cell? ⟨g1, 2, none⟩ = some (.slice A2 r.l2.length c2) := (blk_cell BK1.out 2).trans rfl; have f3 : wt.cell? ⟨g1, 3, none⟩ = some (.slice A3 r.l3.length c3) := (blk_cell BK1.out 3).trans rfl; have f4 : wt.cell? ⟨g1, 4, none⟩ = some (.slice A4 r.l4.length c4) := (blk_cell BK1.out 4).trans rfl; have f5 : wt.cell? ⟨g1, 5, none⟩ = some (.slice A5 r.l5.length c5) := (blk_cell BK1.out 5).trans rfl)))
      clear f0 f1 f2 f3 f4 f5 HIN HE HO
      have m4 : m ≤ 4 := by omega
      obtain ⟨st, hst⟩ : ∃ st, st = (r.low (m + 1)).sl.stuckOf r.l4 := ⟨_, rfl⟩
      have HST := Aside0.mk hst
      clear hst
      have H11 := Aside0.mk (show (r.low (m + 1)).sl.stuckErr r.l4 = 11 by rw [low_sl w5 (by omega)]; exact HS11.out)
      have hbd := below_drew1 (Below.refl wt.heap.size wt)
      refine wp_open 15 _ (fun v => { tmps := #[.agg (r.cells ⟨A1, c1, A2, c2, A3, c3, A4, c4, A5, c5⟩), .pointer (some ⟨g1, 0, none⟩), .bool false, .int .i64 (m : Int), .int .i64 0, v 14, undef, .agg #[.int .i64 r.a0, .slice A1 r.l1.length c1, .slice A2 r.l2.length c2, .slice A3 r.l3.length c3, .slice A4 r.l4.length c4, .slice A5 r.l5.length c5], .bool true, .bool false, undef, .tuple #[.int .i64 (m : Int), .int .i64 0], .agg #[.int .i64 r.a0, .slice A1 r.l1.length c1, .slice A2 r.l2.length c2, .slice A3 r.l3.length c3, .slice A4 r.l4.length c4, .slice A5 r.l5.length c5], .agg (x'.cells r.sl), .tuple #[.int .i64 (m : Int), .int .i64 0], .int .i64 (m : Int), .int .i64 0, .int .i64 0, .bool false, undef, undef, undef, undef, undef, undef, undef, undef, undef, .int .i64 (m : Int), .pointer (some ⟨g1, 5, none⟩), .slice A5 r.l5.length c5, .int .i64 (r.l5.length : Int), .int .i64 ((r.l5.length : Int) - 1), .bool true, .bool false, v 11, v 0, v 1, v 2, v 3, v 4, v 5, v 6, v 7, v 8, v 9, v 10, v 12, v 13, undef, undef, undef, undef, undef, undef, undef, undef, undef, undef, undef, undef, undef, undef], defers := [] }) (fun _ => undef) (fun j x X => match j with
          | 0 => x = .agg (r.cells ⟨A1, c1, A2, c2, A3, c3, A4, c4, A5, c5⟩)
          | 1 => x = .int .i64 (m : Int)
          | 2 => x = .int .u64 (m : Int)
          | 3 => x = .int .i64 (2 ^ (m + 1))
          | 4 => x = .int .i64 (2 ^ (m + 1) - 1)
          | 5 => ∃ x2 : SA, x = .agg ((r.low (m + 1)).cells x2) ∧ RRd X x2 (r.low (m + 1))
          | 6 => ∃ x3 : SA, x = .agg (x3.cells (r.low (m + 1)).sl) ∧ Rd X x3 (r.low (m + 1)).sl
          | 7 => x = .pointer (some ⟨g1, 4, none⟩)
          | 8 => x = .slice A4 r.l4.length c4
          | 9 => ∃ A c, x = .slice A r.l4.length c ∧ r.l4.length ≤ c ∧ Kd.C (Kd.int .i64) X A r.l4.length r.l4
          | 10 => x = .tuple #[.int .i64 st, .int .i64 11]
          | 11 => x = .tuple #[.int .i64 st, .int .i64 11]
          | 12 => x = .int .i64 st
          | 13 => x = .int .i64 11
          | 14 => x = .int .i64 st
          | _ => True) (fun X => Below wt.drew.heap.size wt.drew X) (by kernel_rfl) rfl rfl (by kernel_rfl) rfl (Below.refl _ _) ?_ ?_ ?_
      · intro j hj x X W' hb h
        obtain rfl | rfl | rfl | rfl | rfl | rfl | rfl | rfl | rfl | rfl | rfl | rfl | rfl | rfl | rfl : j = 0 ∨ j = 1 ∨ j = 2 ∨ j = 3 ∨ j = 4 ∨ j = 5 ∨ j = 6 ∨ j = 7 ∨ j = 8 ∨ j = 9 ∨ j = 10 ∨ j = 11 ∨ j = 12 ∨ j = 13 ∨ j = 14 := by omega
        all_goals first
          | exact h
          | (obtain ⟨x', e, h1⟩ := h; exact ⟨x', e, h1.below hb⟩)
          | (obtain ⟨A, c, e, h1, h2⟩ := h; exact ⟨A, c, e, h1, Kd.C_below h2 hb⟩)
      · intro i hi
        obtain rfl | rfl | rfl | rfl | rfl | rfl | rfl | rfl | rfl | rfl | rfl | rfl | rfl | rfl | rfl : i = 0 ∨ i = 1 ∨ i = 2 ∨ i = 3 ∨ i = 4 ∨ i = 5 ∨ i = 6 ∨ i = 7 ∨ i = 8 ∨ i = 9 ∨ i = 10 ∨ i = 11 ∨ i = 12 ∨ i = 13 ∨ i = 14 := by omega
        · intro v X hB hj K hK
          have f0 : X.cell? ⟨g1, 0, none⟩ = some (.int .i64 r.a0) := (blk_cell (blk_below BK1.out (below_step hbd hB)) 0).trans rfl
          have f1 : X.cell? ⟨g1, 1, none⟩ = some (.slice A1 r.l1.length c1) := (blk_cell (blk_below BK1.out (below_step hbd hB)) 1).trans rfl
          have f2 : X.cell? ⟨g1, 2, none⟩ = some (.slice A2 r.l2.length c2) := (blk_cell (blk_below BK1.out (below_step hbd hB)) 2).trans rfl
          have f3 : X.cell? ⟨g1, 3, none⟩ = some (.slice A3 r.l3.length c3) := (blk_cell (blk_below BK1.out (below_step hbd hB)) 3).trans rfl
          have f4 : X.cell? ⟨g1, 4, none⟩ = some (.slice A4 r.l4.length c4) := (blk_cell (blk_below BK1.out (below_step hbd hB)) 4).trans rfl
          have f5 : X.cell? ⟨g1, 5, none⟩ = some (.slice A5 r.l5.length c5) := (blk_cell (blk_below BK1.out (below_step hbd hB)) 5).trans rfl
          refine wpOp_step (i := 0) (by rfl) (fun K' hK' => ?_)
          refine value_ (w1 := ?_) (v := ?_) (by rfl) rfl ?_ ?_
          rotate_left 2
          · go_simp
            constructor
            · rfl
            · rfl
          exact hK' _ _ (hK _ _ (rfl) hB (Below.refl _ _))
        · intro v X hB hj K hK
          refine wpOp_step (i := 1) (by rfl) (fun K' hK' => ?_)
          refine value_ (w1 := ?_) (v := ?_) (by rfl) rfl ?_ ?_
          rotate_left 2
          · go_simp
            constructor
            · rfl
            · rfl
          exact hK' _ _ (hK _ _ (rfl) hB (Below.refl _ _))
        · intro v X hB hj K hK
          have h1 : v 1 = .int .i64 (m : Int) := hj 1 (needs_mem (by kernel_rfl))
          have hwu : IntKind.u64.wrap (m : Int) = (m : Int) := by
            have e5 : m = 0 ∨ m = 1 ∨ m = 2 ∨ m = 3 ∨ m = 4 := by omega
            rcases e5 with rfl | rfl | rfl | rfl | rfl <;> rfl
          refine wpOp_step (i := 2) (by rfl) (fun K' hK' => ?_)
          refine value_ (w1 := ?_) (v := ?_) (by rfl) rfl ?_ ?_
          rotate_left 2
          · go_simp
            constructor
            · rfl
            · rfl
          exact hK' _ _ (hK _ _ (rfl) hB (Below.refl _ _))
        · intro v X hB hj K hK
          have h2 : v 2 = .int .u64 (m : Int) := hj 2 (needs_mem (by kernel_rfl))
          obtain rfl | rfl | rfl | rfl | rfl : m = 0 ∨ m = 1 ∨ m = 2 ∨ m = 3 ∨ m = 4 := by omega
          all_goals
            refine wpOp_step (i := 3) (by rfl) (fun K' hK' => ?_)
            refine value_ (w1 := ?_) (v := ?_) (by rfl) rfl ?_ ?_
            rotate_left 2
            · go_simp
              constructor
              · rfl
              · rfl
            exact hK' _ _ (hK _ _ (rfl) hB (Below.refl _ _))
        · intro v X hB hj K hK
          have h3 : v 3 = .int .i64 (2 ^ (m + 1)) := hj 3 (needs_mem (by kernel_rfl))
          obtain rfl | rfl | rfl | rfl | rfl : m = 0 ∨ m = 1 ∨ m = 2 ∨ m = 3 ∨ m = 4 := by omega
          all_goals
            refine wpOp_step (i := 4) (by rfl) (fun K' hK' => ?_)
            refine value_ (w1 := ?_) (v := ?_) (by rfl) rfl ?_ ?_
            rotate_left 2
            · go_simp
              constructor
              · rfl
              · rfl
            exact hK' _ _ (hK _ _ (rfl) hB (Below.refl _ _))
        · intro v X hB hj K hK
          have h0 : v 0 = .agg (r.cells ⟨A1, c1, A2, c2, A3, c3, A4, c4, A5, c5⟩) := hj 0 (needs_mem (by kernel_rfl))
          have h4 : v 4 = .int .i64 (2 ^ (m + 1) - 1) := hj 4 (needs_mem (by kernel_rfl))
          refine wpOp_step (i := 5) (by rfl) (fun K' hK' => ?_)
          refine goes_ Try.func51 (by kernel_rfl) rfl #[.agg (r.cells ⟨A1, c1, A2, c2, A3, c3, A4, c4, A5, c5⟩), .int .i64 (2 ^ (m + 1) - 1)] (by rfl) rfl rfl (by simp only [List.map_toArray, List.map_cons, List.map_nil]; show #[v 0, v 4] = _; rw [h0, h4]) ?_
          refine (some_m ⟨A1, c1, A2, c2, A3, c3, A4, c4, A5, c5⟩ r (m + 1) (by omega) _ rfl X (RRd.below HR.out (below_step HB.out (below_step hbd hB))) w5).mono ?_
          rintro e w' ⟨x2, rfl, hr', hb⟩
          exact ⟨_, rfl, hK' _ _ (hK _ _ ⟨x2, rfl, hr'⟩ (below_step hB hb) hb)⟩
        · intro v X hB hj K hK
          obtain ⟨x2, h5, hr2⟩ := hj 5 (needs_mem (by kernel_rfl))
          refine wpOp_step (i := 6) (by rfl) (fun K' hK' => ?_)
          refine goes_ Try.func22 (by kernel_rfl) rfl #[.agg ((r.low (m + 1)).cells x2)] (by rfl) rfl rfl (by simp only [List.map_toArray, List.map_cons, List.map_nil]; show #[v 5] = _; rw [h5]) ?_
          refine (Loft_calls x2 (r.low (m + 1)) X hr2 t1 t2 t3 t4 (Nat.le_trans (low_len r _) t5)).mono ?_
          rintro e w' ⟨x3, rfl, hr', hb⟩
          exact ⟨_, rfl, hK' _ _ (hK _ _ ⟨x3, rfl, hr'⟩ (below_step hB hb) hb)⟩
        · intro v X hB hj K hK
          refine wpOp_step (i := 7) (by rfl) (fun K' hK' => ?_)
          refine value_ (w1 := ?_) (v := ?_) (by rfl) rfl ?_ ?_
          rotate_left 2
          · go_simp
            constructor
            · rfl
            · rfl
          exact hK' _ _ (hK _ _ (rfl) hB (Below.refl _ _))
        · intro v X hB hj K hK
          have h7 : v 7 = .pointer (some ⟨g1, 4, none⟩) := hj 7 (needs_mem (by kernel_rfl))
          have f4 : X.cell? ⟨g1, 4, none⟩ = some (.slice A4 r.l4.length c4) := (blk_cell (blk_below BK1.out (below_step hbd hB)) 4).trans rfl
          refine wpOp_step (i := 8) (by rfl) (fun K' hK' => ?_)
          refine value_ (w1 := ?_) (v := ?_) (by rfl) rfl ?_ ?_
          rotate_left 2
          · go_simp
            constructor
            · rfl
            · rfl
          exact hK' _ _ (hK _ _ (rfl) hB (Below.refl _ _))
        · intro v X hB hj K hK
          have h8 : v 8 = .slice A4 r.l4.length c4 := hj 8 (needs_mem (by kernel_rfl))
          refine wpOp_step (i := 9) (by rfl) (fun K' hK' => ?_)
          refine goes_ Try.func23 (by kernel_rfl) rfl #[.slice A4 r.l4.length c4] (by rfl) rfl rfl (by simp only [List.map_toArray, List.map_cons, List.map_nil]; show #[v 8] = _; rw [h8]) ?_
          refine (list_at A4 c4 r.l4 X (RRd.below HR.out (below_step HB.out (below_step hbd hB))).r4 HR.out.h4 t4).mono ?_
          rintro e w' ⟨A', c', rfl, hl, hC, hb⟩
          exact ⟨_, rfl, hK' _ _ (hK _ _ ⟨A', c', rfl, hl, hC⟩ (below_step hB hb) hb)⟩
        · intro v X hB hj K hK
          obtain ⟨x3, h6, hr3⟩ := hj 6 (needs_mem (by kernel_rfl))
          obtain ⟨A, c, h9, hl, hC⟩ := hj 9 (needs_mem (by kernel_rfl))
          refine wpOp_step (i := 10) (by rfl) (fun K' hK' => ?_)
          refine goes_ Try.func34 (by kernel_rfl) rfl #[.agg (x3.cells (r.low (m + 1)).sl), .slice A r.l4.length c] (by rfl) rfl rfl (by simp only [List.map_toArray, List.map_cons, List.map_nil]; show #[v 6, v 9] = _; rw [h6, h9]) ?_
          refine (Stuck.calls x3 (r.low (m + 1)).sl A c r.l4 X hr3 hC hl).mono ?_
          rw [← HST.out, H11.out]
          rintro e w' ⟨rfl, hb⟩
          exact ⟨_, rfl, hK' _ _ (hK _ _ rfl (below_step hB hb) hb)⟩
        · intro v X hB hj K hK
          have h10 : v 10 = .tuple #[.int .i64 st, .int .i64 11] := hj 10 (needs_mem (by kernel_rfl))
          refine wpOp_step (i := 11) (by rfl) (fun K' hK' => ?_)
          refine value_ (w1 := ?_) (v := ?_) (by rfl) rfl ?_ ?_
          rotate_left 2
          · go_simp
            constructor
            · rfl
            · rfl
          exact hK' _ _ (hK _ _ (rfl) hB (Below.refl _ _))
        · intro v X hB hj K hK
          have h11 : v 11 = .tuple #[.int .i64 st, .int .i64 11] := hj 11 (needs_mem (by kernel_rfl))
          refine wpOp_step (i := 12) (by rfl) (fun K' hK' => ?_)
          refine value_ (w1 := ?_) (v := ?_) (by rfl) rfl ?_ ?_
          rotate_left 2
          · go_simp
            constructor
            · rfl
            · rfl
          exact hK' _ _ (hK _ _ (rfl) hB (Below.refl _ _))
        · intro v X hB hj K hK
          have h11 : v 11 = .tuple #[.int .i64 st, .int .i64 11] := hj 11 (needs_mem (by kernel_rfl))
          refine wpOp_step (i := 13) (by rfl) (fun K' hK' => ?_)
          refine value_ (w1 := ?_) (v := ?_) (by rfl) rfl ?_ ?_
          rotate_left 2
          · go_simp
            constructor
            · rfl
            · rfl
          exact hK' _ _ (hK _ _ (rfl) hB (Below.refl _ _))
        · intro v X hB hj K hK
          have h12 : v 12 = .int .i64 st := hj 12 (needs_mem (by kernel_rfl))
          refine wpOp_step (i := 14) (by rfl) (fun K' hK' => ?_)
          refine value_ (w1 := ?_) (v := ?_) (by rfl) rfl ?_ ?_
          rotate_left 2
          · go_simp
            constructor
            · rfl
            · rfl
          exact hK' _ _ (hK _ _ (rfl) hB (Below.refl _ _))
      · intro v X hB hj K hK
        have h13 : v 13 = .int .i64 11 := hj 13 (needs_mem (by kernel_rfl))
        refine wpOp_step (i := 15) (by rfl) (fun K' hK' => ?_)
        refine value_ (w1 := ?_) (v := ?_) (by rfl) rfl ?_ ?_
        rotate_left 2
        · go_simp
          constructor
          · rfl
          · rfl
        refine hK' _ _ (hK _ _ ?_)
        have HBW := Aside0.mk (below_step HB.out (below_step hbd hB))
        have B1W := Aside0.mk (blk_below BK1.out (below_step hbd hB))
        show Exit.then _ _ .normal ((fun v => { tmps := #[.agg (r.cells ⟨A1, c1, A2, c2, A3, c3, A4, c4, A5, c5⟩), .pointer (some ⟨g1, 0, none⟩), .bool false, .int .i64 (m : Int), .int .i64 0, v 14, .int .i64 11, .agg #[.int .i64 r.a0, .slice A1 r.l1.length c1, .slice A2 r.l2.length c2, .slice A3 r.l3.length c3, .slice A4 r.l4.length c4, .slice A5 r.l5.length c5], .bool true, .bool false, undef, .tuple #[.int .i64 (m : Int), .int .i64 0], .agg #[.int .i64 r.a0, .slice A1 r.l1.length c1, .slice A2 r.l2.length c2, .slice A3 r.l3.length c3, .slice A4 r.l4.length c4, .slice A5 r.l5.length c5], .agg (x'.cells r.sl), .tuple #[.int .i64 (m : Int), .int .i64 0], .int .i64 (m : Int), .int .i64 0, .int .i64 0, .bool false, undef, undef, undef, undef, undef, undef, undef, undef, undef, .int .i64 (m : Int), .pointer (some ⟨g1, 5, none⟩), .slice A5 r.l5.length c5, .int .i64 (r.l5.length : Int), .int .i64 ((r.l5.length : Int) - 1), .bool true, .bool false, v 11, v 0, v 1, v 2, v 3, v 4, v 5, v 6, v 7, v 8, v 9, v 10, v 12, v 13, undef, undef, undef, undef, undef, undef, undef, undef, undef, undef, undef, undef, undef, undef], defers := [] }) v) X
        dsimp only
        generalize v 0 = u0
        generalize v 1 = u1
        generalize v 2 = u2
        generalize v 3 = u3
        generalize v 4 = u4
        generalize v 5 = u5
        generalize v 6 = u6
        generalize v 7 = u7
        generalize v 8 = u8
        generalize v 9 = u9
        generalize v 10 = u10
        generalize v 11 = u11
        generalize v 12 = u12
        generalize v 13 = u13
        generalize v 14 = u14
        clear h13 hB hj hK hK' HB BK1 hbd
        have f0 : X.cell? ⟨g1, 0, none⟩ = some (.int .i64 r.a0) := (blk_cell B1W.out 0).trans rfl
        have f1 : X.cell? ⟨g1, 1, none⟩ = some (.slice A1 r.l1.length c1) := (blk_cell B1W.out 1).trans rfl
        have f2 : X.cell? ⟨g1, 2, none⟩ = some (.slice A2 r.l2.length c2) := (blk_cell B1W.out 2).trans rfl
        have f3 : X.cell? ⟨g1, 3, none⟩ = some (.slice A3 r.l3.length c3) := (blk_cell B1W.out 3).trans rfl
        have f4 : X.cell? ⟨g1, 4, none⟩ = some (.slice A4 r.l4.length c4) := (blk_cell B1W.out 4).trans rfl
        have f5 : X.cell? ⟨g1, 5, none⟩ = some (.slice A5 r.l5.length c5) := (blk_cell B1W.out 5).trans rfl
        obtain rfl | rfl | rfl | rfl | rfl : m = 0 ∨ m = 1 ∨ m = 2 ∨ m = 3 ∨ m = 4 := by omega
        · have HCM := Aside0.mk (show (r.low 0).sl.stuckErr (r.low 0).l4 = 0 ∨ (r.low 0).sl.stuckErr (r.low 0).l4 = 7 by rw [low_sl w5 (by decide)]; exact HC.out)
          go_wp2_with (first | (go_at_call 51; go_must (refine (some_m ⟨A1, c1, A2, c2, A3, c3, A4, c4, A5, c5⟩ r 0 (by decide) 0 (by decide) _ (RRd.below HR.out HBW.out) w5).mono ?_; clear f0 f1 f2 f3 f4 f5; rintro e ws ⟨x4, rfl, hr4, hb⟩; have HR4 := Aside0.mk hr4; have HBS := Aside0.mk (below_step HBW.out hb); clear hb hr4)) | (go_at_call 50; go_must (refine (can_calls x4 (r.low 0) _ HR4.out t1 t2 t3 t4 (Nat.le_trans (low_len r _) t5)).mono ?_; rw [decide_eq_true HCM.out]; rintro e wc ⟨rfl, hb⟩; have HBC := Aside0.mk (below_step HBS.out hb); clear hb)) | (go_at_call 20; go_must (refine (awake_calls _).mono ?_; rintro e wa ⟨rfl, hb⟩; have HBA := Aside0.mk (below_step HBC.out hb); clear hb)))
          go_ret
          exact ⟨rfl, HBA.out⟩
        · have HCM := Aside0.mk (show (r.low 1).sl.stuckErr (r.low 1).l4 = 0 ∨ (r.low 1).sl.stuckErr (r.low 1).l4 = 7 by rw [low_sl w5 (by decide)]; exact HC.out)
          go_wp2_with (first | (go_at_call 51; go_must (refine (some_m ⟨A1, c1, A2, c2, A3, c3, A4, c4, A5, c5⟩ r 1 (by decide) 1 (by decide) _ (RRd.below HR.out HBW.out) w5).mono ?_; clear f0 f1 f2 f3 f4 f5; rintro e ws ⟨x4, rfl, hr4, hb⟩; have HR4 := Aside0.mk hr4; have HBS := Aside0.mk (below_step HBW.out hb); clear hb hr4)) | (go_at_call 50; go_must (refine (can_calls x4 (r.low 1) _ HR4.out t1 t2 t3 t4 (Nat.le_trans (low_len r _) t5)).mono ?_; rw [decide_eq_true HCM.out]; rintro e wc ⟨rfl, hb⟩; have HBC := Aside0.mk (below_step HBS.out hb); clear hb)) | (go_at_call 20; go_must (refine (awake_calls _).mono ?_; rintro e wa ⟨rfl, hb⟩; have HBA := Aside0.mk (below_step HBC.out hb); clear hb)))
          go_ret
          exact ⟨rfl, HBA.out⟩
        · have HCM := Aside0.mk (show (r.low 2).sl.stuckErr (r.low 2).l4 = 0 ∨ (r.low 2).sl.stuckErr (r.low 2).l4 = 7 by rw [low_sl w5 (by decide)]; exact HC.out)
          go_wp2_with (first | (go_at_call 51; go_must (refine (some_m ⟨A1, c1, A2, c2, A3, c3, A4, c4, A5, c5⟩ r 2 (by decide) 3 (by decide) _ (RRd.below HR.out HBW.out) w5).mono ?_; clear f0 f1 f2 f3 f4 f5; rintro e ws ⟨x4, rfl, hr4, hb⟩; have HR4 := Aside0.mk hr4; have HBS := Aside0.mk (below_step HBW.out hb); clear hb hr4)) | (go_at_call 50; go_must (refine (can_calls x4 (r.low 2) _ HR4.out t1 t2 t3 t4 (Nat.le_trans (low_len r _) t5)).mono ?_; rw [decide_eq_true HCM.out]; rintro e wc ⟨rfl, hb⟩; have HBC := Aside0.mk (below_step HBS.out hb); clear hb)) | (go_at_call 20; go_must (refine (awake_calls _).mono ?_; rintro e wa ⟨rfl, hb⟩; have HBA := Aside0.mk (below_step HBC.out hb); clear hb)))
          go_ret
          exact ⟨rfl, HBA.out⟩
        · have HCM := Aside0.mk (show (r.low 3).sl.stuckErr (r.low 3).l4 = 0 ∨ (r.low 3).sl.stuckErr (r.low 3).l4 = 7 by rw [low_sl w5 (by decide)]; exact HC.out)
          go_wp2_with (first | (go_at_call 51; go_must (refine (some_m ⟨A1, c1, A2, c2, A3, c3, A4, c4, A5, c5⟩ r 3 (by decide) 7 (by decide) _ (RRd.below HR.out HBW.out) w5).mono ?_; clear f0 f1 f2 f3 f4 f5; rintro e ws ⟨x4, rfl, hr4, hb⟩; have HR4 := Aside0.mk hr4; have HBS := Aside0.mk (below_step HBW.out hb); clear hb hr4)) | (go_at_call 50; go_must (refine (can_calls x4 (r.low 3) _ HR4.out t1 t2 t3 t4 (Nat.le_trans (low_len r _) t5)).mono ?_; rw [decide_eq_true HCM.out]; rintro e wc ⟨rfl, hb⟩; have HBC := Aside0.mk (below_step HBS.out hb); clear hb)) | (go_at_call 20; go_must (refine (awake_calls _).mono ?_; rintro e wa ⟨rfl, hb⟩; have HBA := Aside0.mk (below_step HBC.out hb); clear hb)))
          go_ret
          exact ⟨rfl, HBA.out⟩
        · have HCM := Aside0.mk (show (r.low 4).sl.stuckErr (r.low 4).l4 = 0 ∨ (r.low 4).sl.stuckErr (r.low 4).l4 = 7 by rw [low_sl w5 (by decide)]; exact HC.out)
          go_wp2_with (first | (go_at_call 51; go_must (refine (some_m ⟨A1, c1, A2, c2, A3, c3, A4, c4, A5, c5⟩ r 4 (by decide) 15 (by decide) _ (RRd.below HR.out HBW.out) w5).mono ?_; clear f0 f1 f2 f3 f4 f5; rintro e ws ⟨x4, rfl, hr4, hb⟩; have HR4 := Aside0.mk hr4; have HBS := Aside0.mk (below_step HBW.out hb); clear hb hr4)) | (go_at_call 50; go_must (refine (can_calls x4 (r.low 4) _ HR4.out t1 t2 t3 t4 (Nat.le_trans (low_len r _) t5)).mono ?_; rw [decide_eq_true HCM.out]; rintro e wc ⟨rfl, hb⟩; have HBC := Aside0.mk (below_step HBS.out hb); clear hb)) | (go_at_call 20; go_must (refine (awake_calls _).mono ?_; rintro e wa ⟨rfl, hb⟩; have HBA := Aside0.mk (below_step HBC.out hb); clear hb)))
          go_ret
          exact ⟨rfl, HBA.out⟩
end Go.Proofs.Ytjifalohjlihaaa.Q
end
section
namespace Go.Proofs.Ytjifalohjlihaaa.Q
set_option linter.unusedVariables false
open Go.BigFrame Go.RowKit Go.Shelf Go.Proofs.YtjifalohjlihaaaW.PrintWords Go.Proofs.YtjifalohjlihaaaW.PrintLast Go.Proofs.YtjifalohjlihaaaW.PrintMore Go.ChangeShapes Go.WideShapes Go.Deep
section
variable {H : Type} {enc : TypeId × Value → H} {w : World} {base : Nat} {spare : Nat → Bool} {held : Bool}
set_option maxRecDepth 100000 in
theorem one_int {fuel : Nat} {cs : List Value} {y : DataW H × List MemPlace} (h : DataW.trod enc Try.prog w base spare held fuel 3 cs = some y) : ∃ n, cs = [.int .i64 n] := by
  cases fuel with
  | zero => simp [DataW.trod] at h
  | succ fuel =>
    unfold DataW.trod at h
    rw [Try.underlying3] at h
    rcases cs with _ | ⟨v, _ | ⟨v2, t⟩⟩
    · simp at h
    · cases v <;> simp at h
      exact ⟨_, by rw [h.1.1]⟩
    · cases v <;> simp at h
theorem field {t : TypeId} {fs : Array Field} (ht : Try.prog.underlying t = some (.struct fs)) {fuel : Nat} {cs : List Value} {y : DataW H × List MemPlace} (h : DataW.trod enc Try.prog w base spare held fuel t cs = some y) (i T o c : Nat) (hi : (fs[i]?).map (fun f => (f.type, f.offset)) = some (T, o)) (hc : Try.prog.cellsOf T = c) :
    ∃ m z, DataW.trod enc Try.prog w base spare held m T ((cs.drop o).take c) = some z := by
  obtain ⟨xs, n, _, rfl, hl, hlen, hf⟩ := DataW.trod_struct ht h
  obtain ⟨f, hfi, he⟩ := Option.map_eq_some_iff.1 hi
  simp only [Prod.mk.injEq] at he
  have h1 := hf i f hfi
  have hlt : i < xs.length := by rw [hlen]; exact (Array.getElem?_eq_some_iff.1 hfi).1
  rw [List.getElem?_eq_getElem hlt, he.1, he.2, hc] at h1
  exact ⟨n, _, h1⟩
theorem struct_len {t : TypeId} {fs : Array Field} (ht : Try.prog.underlying t = some (.struct fs)) {fuel : Nat} {cs : List Value} {y : DataW H × List MemPlace} (h : DataW.trod enc Try.prog w base spare held fuel t cs = some y) (c : Nat) (hc : Try.prog.cellsOf t = c) : cs.length = c := by
  obtain ⟨xs, n, _, rfl, hl, hlen, hf⟩ := DataW.trod_struct ht h
  rw [hl, hc]
theorem cellsA : Try.prog.cellsOf 52 = 2 := by kernel_rfl
theorem cellsB : Try.prog.cellsOf 89 = 2 := by kernel_rfl
theorem cellsC : Try.prog.cellsOf 54 = 4 := by kernel_rfl
theorem cellsW : Try.prog.cellsOf 108 = 4 := by kernel_rfl
theorem open_A {fuel : Nat} {cs : List Value} {y : DataW H × List MemPlace} (h : DataW.trod enc Try.prog w base spare held fuel 52 cs = some y) : ∃ a b, cs = [.int .i64 a, .int .i64 b] := by
  have hl := struct_len Try.underlying52 h 2 cellsA
  obtain ⟨_, _, h0⟩ := field Try.underlying52 h 0 3 0 1 rfl cells3
  obtain ⟨_, _, h1⟩ := field Try.underlying52 h 1 3 1 1 rfl cells3
  match cs, hl with
  | [v0, v1], _ =>
    obtain ⟨a, ea⟩ := one_int h0
    obtain ⟨b, eb⟩ := one_int h1
    simp at ea eb
    exact ⟨a, b, by rw [ea, eb]⟩
theorem open_B {fuel : Nat} {cs : List Value} {y : DataW H × List MemPlace} (h : DataW.trod enc Try.prog w base spare held fuel 89 cs = some y) : ∃ a b, cs = [.int .i64 a, .int .i64 b] := by
  have hl := struct_len Try.underlying89 h 2 cellsB
  obtain ⟨_, _, h0⟩ := field Try.underlying89 h 0 3 0 1 rfl cells3
  obtain ⟨_, _, h1⟩ := field Try.underlying89 h 1 3 1 1 rfl cells3
  match cs, hl with
  | [v0, v1], _ =>
    obtain ⟨a, ea⟩ := one_int h0
    obtain ⟨b, eb⟩ := one_int h1
    simp at ea eb
    exact ⟨a, b, by rw [ea, eb]⟩
theorem open_C {fuel : Nat} {cs : List Value} {y : DataW H × List MemPlace} (h : DataW.trod enc Try.prog w base spare held fuel 54 cs = some y) : ∃ a b c d, cs = [.int .i64 a, .int .i64 b, .int .i64 c, .int .i64 d] := by
  have hl := struct_len Try.underlying54 h 4 cellsC
  obtain ⟨_, _, h0⟩ := field Try.underlying54 h 0 3 0 1 rfl cells3
  obtain ⟨_, _, h1⟩ := field Try.underlying54 h 1 52 1 2 rfl cellsA
  obtain ⟨_, _, h2⟩ := field Try.underlying54 h 2 3 3 1 rfl cells3
  match cs, hl with
  | [v0, v1, v2, v3], _ =>
    obtain ⟨a, ea⟩ := one_int h0
    obtain ⟨b, c, eb⟩ := open_A h1
    obtain ⟨d, ed⟩ := one_int h2
    simp at ea eb ed
    exact ⟨a, b, c, d, by rw [ea, eb.1, eb.2, ed]⟩
theorem open_W {fuel : Nat} {cs : List Value} {y : DataW H × List MemPlace} (h : DataW.trod enc Try.prog w base spare held fuel 108 cs = some y) : ∃ a b c d, cs = [.int .i64 a, .int .i64 b, .int .i64 c, .int .i64 d] := by
  have hl := struct_len Try.underlying108 h 4 cellsW
  obtain ⟨_, _, h0⟩ := field Try.underlying108 h 0 3 0 1 rfl cells3
  obtain ⟨_, _, h1⟩ := field Try.underlying108 h 1 3 1 1 rfl cells3
  obtain ⟨_, _, h2⟩ := field Try.underlying108 h 2 52 2 2 rfl cellsA
  match cs, hl with
  | [v0, v1, v2, v3], _ =>
    obtain ⟨a, ea⟩ := one_int h0
    obtain ⟨b, eb⟩ := one_int h1
    obtain ⟨c, d, ed⟩ := open_A h2
    simp at ea eb ed
    exact ⟨a, b, c, d, by rw [ea, eb, ed.1, ed.2]⟩
theorem slice_C {α : Type} [Inhabited α] {d : Kd α} {t e : TypeId} (ht : Try.prog.underlying t = some (.slice e)) (hc : Try.prog.cellsOf e = d.sz) (hel : ∀ {fuel : Nat} {cs : List Value} {y : DataW H × List MemPlace}, DataW.trod enc Try.prog w base (fun _ => true) held fuel e cs = some y → ∃ p : α, d.K w p cs)
    {fuel : Nat} {cs : List Value} {y : DataW H × List MemPlace} (h : DataW.trod enc Try.prog w base (fun _ => true) held fuel t cs = some y) : ∃ A c xs, cs = [.slice A xs.length c] ∧ xs.length ≤ c ∧ d.C w A xs.length xs := by
  rcases open_slice ht h with ⟨rfl, _⟩ | ⟨a, len, cap, m, n, D, Pl, rfl, hb, hl, hm, hmm, rfl, hx⟩
  · exact ⟨none, 0, [], rfl, Nat.le_refl _, Kd.C_nil _ _⟩
  · rw [if_pos rfl] at hmm
    obtain ⟨f, hf⟩ := choose_lt (α := α) (n := len) (p := fun i p => ∃ cs', w.cells? base (a.add (i * Try.prog.cellsOf e)) (Try.prog.cellsOf e) = some cs' ∧ d.K w p cs') (fun i hi => by
      obtain ⟨cs', h1, h2⟩ := hx i (by omega)
      obtain ⟨p, hp⟩ := hel h2
      exact ⟨p, cs', h1, hp⟩)
    have hlen : ((List.range len).map f).length = len := by simp
    have hmax : maxLen ≤ 9223372036854775807 := by decide
    refine ⟨some a, cap, (List.range len).map f, by rw [hlen], by rw [hlen]; exact hl, rfl, by rw [hlen]; omega, fun _ => ⟨a, rfl, fun j p hj => ?_⟩⟩
    have hj1 := (List.getElem?_eq_some_iff.1 hj).1
    rw [hlen] at hj1
    rw [List.getElem?_map, List.getElem?_range hj1, Option.map_some] at hj
    obtain rfl := Option.some.inj hj
    obtain ⟨cs', h1, h2⟩ := hf j hj1
    obtain ⟨_, hl2, hcell⟩ := World.cells?_some h1
    rw [hc] at hl2 hcell
    refine ⟨cs', hl2, h2, fun i u hu => ?_⟩
    have hi := (List.getElem?_eq_some_iff.1 hu).1
    have h3 := hcell i (by omega)
    rw [hu, Deep.add_add] at h3
    exact h3
instance : Inhabited S52 := ⟨z52⟩
instance : Inhabited S89 := ⟨z89⟩
instance : Inhabited S54 := ⟨z54⟩
instance : Inhabited S108 := ⟨z108⟩
theorem cells_sl : Try.prog.cellsOf 22 = 1 ∧ Try.prog.cellsOf 23 = 1 ∧ Try.prog.cellsOf 24 = 1 ∧ Try.prog.cellsOf 25 = 1 ∧ Try.prog.cellsOf 26 = 1 := ⟨by kernel_rfl, by kernel_rfl, by kernel_rfl, by kernel_rfl, by kernel_rfl⟩
theorem cellsL : Try.prog.cellsOf 28 = 6 := by kernel_rfl
theorem open_L {fuel : Nat} {cs : List Value} {y : DataW H × List MemPlace} (h : DataW.trod enc Try.prog w base (fun _ => true) held fuel 28 cs = some y) : ∃ (x : SA) (r : RL), cs.toArray = r.cells x ∧ RRd w x r := by
  have hl := struct_len Try.underlying28 h 6 cellsL
  obtain ⟨_, _, h0⟩ := field Try.underlying28 h 0 3 0 1 rfl cells3
  obtain ⟨_, _, h1⟩ := field Try.underlying28 h 1 22 1 1 rfl cells_sl.1
  obtain ⟨_, _, h2⟩ := field Try.underlying28 h 2 23 2 1 rfl cells_sl.2.1
  obtain ⟨_, _, h3⟩ := field Try.underlying28 h 3 24 3 1 rfl cells_sl.2.2.1
  obtain ⟨_, _, h4⟩ := field Try.underlying28 h 4 25 4 1 rfl cells_sl.2.2.2.1
  obtain ⟨_, _, h5⟩ := field Try.underlying28 h 5 26 5 1 rfl cells_sl.2.2.2.2
  obtain ⟨a0, e0⟩ := one_int h0
  obtain ⟨A1, c1, l1, e1, k1, q1⟩ := slice_C (d := k52) Try.underlying22 cellsA (fun h => by obtain ⟨a, b, rfl⟩ := open_A h; exact ⟨⟨a, b⟩, k52_mk _ _⟩) h1
  obtain ⟨A2, c2, l2, e2, k2, q2⟩ := slice_C (d := k89) Try.underlying23 cellsB (fun h => by obtain ⟨a, b, rfl⟩ := open_B h; exact ⟨⟨a, b⟩, k89_mk _ _⟩) h2
  obtain ⟨A3, c3, l3, e3, k3, q3⟩ := slice_C (d := k54) Try.underlying24 cellsC (fun h => by obtain ⟨a, b, c, d, rfl⟩ := open_C h; exact ⟨⟨a, ⟨b, c⟩, d⟩, k54_mk _ _⟩) h3
  obtain ⟨A4, c4, l4, e4, k4, q4⟩ := slice_C (d := Kd.int .i64) Try.underlying25 cells3 (fun h => by obtain ⟨a, rfl⟩ := one_int h; exact ⟨a, rfl⟩) h4
  obtain ⟨A5, c5, l5, e5, k5, q5⟩ := slice_C (d := k108) Try.underlying26 cellsW (fun h => by obtain ⟨a, b, c, d, rfl⟩ := open_W h; exact ⟨⟨a, b, ⟨c, d⟩⟩, k108_mk _ _⟩) h5
  match cs, hl with
  | [v0, v1, v2, v3, v4, v5], _ =>
    simp at e0 e1 e2 e3 e4 e5
    exact ⟨⟨A1, c1, A2, c2, A3, c3, A4, c4, A5, c5⟩, ⟨a0, l1, l2, l3, l4, l5⟩, by rw [e0, e1, e2, e3, e4, e5], ⟨q1, q2, q3, q4, q5, k1, k2, k3, k4, k5⟩⟩
end
end Go.Proofs.Ytjifalohjlihaaa.Q
end
section
namespace Go.Proofs.Ytjifalohjlihaaa.shelfFirst
open Go.ChangeShapes Go.WideShapes Go.ChangeAt Go.RowKit
set_option linter.unusedVariables false
theorem own : ownKnob Try.prog.godebug = none := by kernel_rfl
theorem laidOut : laidOutB Try.prog = true := by kernel_rfl
set_option maxRecDepth 100000 in
theorem lifted (os : Os) (started : os.Started) (H : Type) (enc : TypeId × Value → H) :
    ReturnsInHanded {} Try.checked os 9 .any (Rows.shelfFirstSpec.pre6 enc Try.prog Try.f9 Rows.shelfFirstRow.domain false) (Rows.shelfFirstSpec.post enc Try.prog Try.f9 false true false false) := by
  refine returnsInHanded_of_change_sized (C := Try.checked) own started (by kernel_rfl) Try.func9
    (ChangeSpec.witness6 (enc := enc) (C := Try.checked) false ⟨#[], #[.agg #[.int .i64 0, .slice none 0 0, .slice none 0 0, .slice none 0 0, .slice none 0 0, .slice none 0 0]], []⟩ 8 (by kernel_rfl) (by kernel_rfl) (by kernel_rfl) (by kernel_rfl)) ?_
  intro W base args ds gs before hval0 hW hcnd hsz0 _
  have hval : ∀ (j : Nat) t v, Try.f9.params[j]? = some t → args[j]? = some v → Value.okWide Try.prog W .any base t v := hval0
  have hW' := hW
  obtain ⟨p, q, hA0, hV, rfl, hfz, hnd⟩ := hW
  have hA : DataW.TrodAll enc Try.prog W 0 (fun _ => true) true Try.f9.params.toList args.toList ds p := hA0
  rw [Try.params9] at hA hval
  obtain ⟨v0, vs0, d0, ds0, p0, q0, hargs, rfl, rfl, h0, r0⟩ := trodAll_cons hA
  obtain ⟨rfl, rfl, rfl⟩ := trodAll_nil r0
  obtain rfl : args = #[v0] := by cases args; simp_all
  obtain ⟨rfl, rfl⟩ := trodVars_none hV
  obtain ⟨cs, rfl, hcs⟩ := okWide_struct Try.underlying28 (hval 0 28 v0 rfl rfl)
  have k0 := h0
  have lt0 : ∀ x ∈ p0, x.block < W.heap.size := by obtain ⟨m, hm⟩ := k0; exact DataW.trod_lt m _ _ _ hm
  obtain ⟨x, r, e, hr⟩ : ∃ x r, cs = Q.RL.cells r x ∧ Q.RRd W x r := by
    obtain ⟨fuel, hf⟩ := h0
    obtain ⟨x, r, e, hr⟩ := Q.open_L hf
    exact ⟨x, r, by rw [← e]; simp [Value.cells], hr⟩
  subst e
  clear hA0 hval0 hsz0
  refine (Q.ShelfFirst_calls x r W hr).mono fun e W' ⟨he, bel⟩ => ?_
  subst he
  exact ⟨_, rfl, _, _, _, [], _, [], hW', trodAll_mk1 (shut_bool Try.underlying4 _), (trodAll_cons_mk (Below.trod laidOut (by kernel_rfl) (of_decide_eq_true (by kernel_rfl)) k0 bel lt0) trodAll_mk0), rfl, bel.frame _, fun h => by cases h⟩
theorem over : Rows.shelfFirstRow.holds Try.pinned (OpenSpec.ofChange Rows.shelfFirstSpec) :=
  OpenClaim.holds_of_wide 9 Try.f9 rfl rfl rfl rfl rfl rfl rfl ⟨rfl, rfl, rfl, rfl, rfl⟩ rfl rfl rfl rfl rfl (by kernel_rfl) Try.func9 (by kernel_rfl)
    (of_decide_eq_true (by kernel_rfl)) (by unfold Func.isWrapper; first | (rw [if_pos (by decide +kernel)]; kernel_rfl) | (rw [if_neg (by decide +kernel)]; exact ⟨rfl, rfl⟩))
    (fun os started H enc _ => lifted os started H enc)
theorem proved : Rows.ShelfFirstSaid := over
end Go.Proofs.Ytjifalohjlihaaa.shelfFirst
namespace Go.Proofs.Ytjifalohjlihaaa
theorem shelfFirst_holds : Rows.ShelfFirstSaid := shelfFirst.proved
end Go.Proofs.Ytjifalohjlihaaa
end
