-- Written by wip/tools/myprint.py, a program of this session.
import Derived.Test.YtaddopcbneggiaaQSkyReversesx0
import Derived.Test.YtaddopcbneggiaaQSkyReversesx2
import Derived.Test.YtaddopcbneggiaaQSkyReversesx5
import Derived.Test.YtaddopcbneggiaaQSkyReversesx13
namespace Go.Proofs.Ytaddopcbneggiaa.QSkyReverses
open Go.RowKit Go.Proofs.YtaddopcbneggiaaW.PrintWords Go.Proofs.YtaddopcbneggiaaW.PrintLast Go.Proofs.YtaddopcbneggiaaW.PrintMore
attribute [local go_sem] max2_int min2_int max_two min_two max_three min_three max_four min_four   -- for this text's walks alone
set_option linter.unusedVariables false
set_option linter.unusedSimpArgs false

/-! ### sky_Pull: function 10 -/
def sky_Pull.part (k : Nat) (x r : Int) : Option Int := (num_MulDiv.f k 9007199254740992 (mx x (wrap64 (-x))) r).bind fun b => if wrap64 (r * r) = 0 then none else (if x > 0 then some (wrap64 (-(wrap64 (Int.tdiv b.1 (wrap64 (r * r)))))) else some (wrap64 (Int.tdiv b.1 (wrap64 (r * r)))))
theorem sky_Pull.part_mono : ∀ x r k, LeO (sky_Pull.part k x r) (sky_Pull.part (k + 1) x r) := by
  intro x r k
  unfold sky_Pull.part
  exact LeO.bind (num_MulDiv.mono _ _ _ _) (fun _ => LeO.refl _)
def sky_Pull.f (k : Nat) (a0_0 a0_1 a0_2 : Int) : Option (Int × Int × Int) := (sky_within.f a0_0 a0_1 a0_2 4194304).bind fun t => if t = true then ((num_Sqrt.f k (wrap64 (wrap64 (wrap64 (a0_0 * a0_0) + wrap64 (a0_1 * a0_1)) + wrap64 (a0_2 * a0_2)))).bind fun r => if r < 65536 then some (0, 0, 0) else ((sky_Pull.part k a0_0 r).bind fun a => ((sky_Pull.part k a0_1 r).bind fun b => ((sky_Pull.part k a0_2 r).bind fun c => some (a, b, c))))) else some (0, 0, 0)
theorem sky_Pull.mono : ∀ a0 a1 a2 k, LeO (sky_Pull.f k a0 a1 a2) (sky_Pull.f (k + 1) a0 a1 a2) := by
  intro a0 a1 a2 k
  unfold sky_Pull.f
  refine LeO.bind (LeO.refl _) (fun _ => LeO.ite (LeO.bind (num_Sqrt.mono _ _) (fun _ => LeO.ite (LeO.refl _) ?_)) (LeO.refl _))
  exact LeO.bind (sky_Pull.part_mono _ _ _) (fun _ => LeO.bind (sky_Pull.part_mono _ _ _) (fun _ => LeO.bind (sky_Pull.part_mono _ _ _) (fun _ => LeO.refl _)))
theorem sky_Pull.cell_later {w wx : World} {a : Addr} {v : Value} (hb : Below w.heap.size w wx) (h : w.cell? a = some v) : wx.cell? a = some v := (hb.cell (World.block_lt_of_cell? _ _ h)).trans h
set_option maxHeartbeats 4000000 in
set_option maxRecDepth 100000 in
theorem sky_Pull.part_calls (k : Nat) (x r q : Int) (g : Nat) (w : World) (hg : w.cell? ⟨g, 0, none⟩ = some (.int .i64 r)) (h : sky_Pull.part k x r = some q) :
    Calls Try.prog 28 #[.int .i64 x, .pointer (some ⟨g, 0, none⟩)] w fun e w' => e = .returned (.int .i64 q) ∧ Below w.heap.size w w' := by
  have HG := Aside0.mk hg
  unfold sky_Pull.part at h
  replace h := Option.bind_eq_some_iff.mp h
  obtain ⟨⟨q0, e0⟩, h0, h⟩ := h
  have H0 := Aside0.mk h0
  clear h0
  by_cases c0 : wrap64 (r * r) = 0
  · rw [if_pos c0] at h; cases h
  · rw [if_neg c0] at h
    have c0b : (wrap64 (r * r) == 0) = false := beq_eq_false_iff_ne.mpr c0
    have c0c : (wrap64 (r * r) != 0) = true := bne_iff_ne.mpr c0
    have c0d : (wrap64 (r * r) = 0) = False := eq_false c0
    have c0c : (wrap64 (r * r) != 0) = true := bne_iff_ne.mpr c0
    have c0d : (wrap64 (r * r) = 0) = False := eq_false c0
    have c0c : (wrap64 (r * r) != 0) = true := bne_iff_ne.mpr c0
    have c0d : (wrap64 (r * r) = 0) = False := eq_false c0
    have c0c : (wrap64 (r * r) != 0) = true := bne_iff_ne.mpr c0
    have c0d : (wrap64 (r * r) = 0) = False := eq_false c0
    have c0c : (wrap64 (r * r) != 0) = true := bne_iff_ne.mpr c0
    have c0d : (wrap64 (r * r) = 0) = False := eq_false c0
    have c0c : (wrap64 (r * r) != 0) = true := bne_iff_ne.mpr c0
    have c0d : (wrap64 (r * r) = 0) = False := eq_false c0
    have c0c : (wrap64 (r * r) != 0) = true := bne_iff_ne.mpr c0
    have c0d : (wrap64 (r * r) = 0) = False := eq_false c0
    have c0c : (wrap64 (r * r) != 0) = true := bne_iff_ne.mpr c0
    have c0d : (wrap64 (r * r) = 0) = False := eq_false c0
    have c0c : (wrap64 (r * r) != 0) = true := bne_iff_ne.mpr c0
    have c0d : (wrap64 (r * r) = 0) = False := eq_false c0
    have c0c : (wrap64 (r * r) != 0) = true := bne_iff_ne.mpr c0
    have c0d : (wrap64 (r * r) = 0) = False := eq_false c0
    have c0c : (wrap64 (r * r) != 0) = true := bne_iff_ne.mpr c0
    have c0d : (wrap64 (r * r) = 0) = False := eq_false c0
    clear c0
    have hc0 := hg
    clear hg
    by_cases c1 : x > 0
    · rw [if_pos c1] at h
      have c1b : decide (0 < x) = true := decide_eq_true c1
      clear c1
      obtain rfl := Option.some.inj h
      clear h
      go_enter Try.func28, Try.ntmps28
      go_wp2_with (go_at_call 29; (refine (num_MulDiv.calls k 9007199254740992 (mx x (wrap64 (-x))) r q0 e0 _ H0.out).mono ?_); rintro e w1 ⟨rfl, hb⟩; have HB := Aside0.mk hb; have hc1 : w1.cell? ⟨g, 0, none⟩ = some (.int .i64 r) := cell_later hb HG.out; clear hb)
      all_goals (go_ret; exact ⟨rfl, HB.out⟩)
    · rw [if_neg c1] at h
      have c1b : decide (0 < x) = false := decide_eq_false c1
      clear c1
      obtain rfl := Option.some.inj h
      clear h
      go_enter Try.func28, Try.ntmps28
      go_wp2_with (go_at_call 29; (refine (num_MulDiv.calls k 9007199254740992 (mx x (wrap64 (-x))) r q0 e0 _ H0.out).mono ?_); rintro e w1 ⟨rfl, hb⟩; have HB := Aside0.mk hb; have hc1 : w1.cell? ⟨g, 0, none⟩ = some (.int .i64 r) := cell_later hb HG.out; clear hb)
      all_goals (go_ret; exact ⟨rfl, HB.out⟩)
set_option maxHeartbeats 8000000 in
set_option maxRecDepth 100000 in
theorem sky_Pull.calls (k : Nat) (a0_0 a0_1 a0_2 : Int) (r1 r2 r3 : Int) (w : World) (h : sky_Pull.f k a0_0 a0_1 a0_2 = some (r1, r2, r3)) :
    Calls Try.prog 10 #[.agg #[.int .i64 a0_0, .int .i64 a0_1, .int .i64 a0_2]] w fun e w' => e = .returned (.agg #[.int .i64 r1, .int .i64 r2, .int .i64 r3]) ∧ Below w.heap.size w w' := by
  have hu := Try.underlying23
  unfold sky_Pull.f at h
  replace h := Option.bind_eq_some_iff.mp h
  obtain ⟨t, h0, h⟩ := h
  have H0 := Aside0.mk h0
  clear h0
  cases t
  · rw [if_neg (by decide)] at h
    simp only [Option.some.injEq, Prod.mk.injEq] at h
    obtain ⟨rfl, rfl, rfl⟩ := h
    go_enter Try.func10, Try.ntmps10
    go_wp2_with (first | ((with_reducible refine gate_dst (N := 1) rfl ?_); refine box_event ?hg (N := 1) ?hd (cs := #[.int .i64 a0_0, .int .i64 a0_1, .int .i64 a0_2]) (t := 23) ?hr ?_; (case hd => rfl); (case hg => rfl); (case hr => first | (go_simp; done) | (go_simp; rfl)); intro g1 hg1 w1 hb1 hB1; have K1 := Aside0.mk hb1; have L1 := Aside0.mk hB1; have G1 := Aside0.mk (Nat.le_of_eq hg1.symm); clear hb1 hB1 hg1) | ((with_reducible refine gate_dst (N := 2) rfl ?_); refine box_event ?hg (N := 2) ?hd (cs := #[.int .i64 0, .int .i64 0, .int .i64 0]) (t := 23) ?hr ?_; (case hd => rfl); (case hg => rfl); (case hr => first | (go_simp; done) | (go_simp; rfl)); intro g2 hg2 w2 hb2 hB2; have K2 := Aside0.mk hb2; have L2 := Aside0.mk (below_step L1.out hB2); have K1' := Aside0.mk (blk_below K1.out hB2); have NE := Aside0.mk (show g1 ≠ g2 by rw [hg2]; exact Nat.ne_of_lt (blk_lt K1.out)); have G2 := Aside0.mk (show w.heap.size ≤ g2 by rw [hg2]; exact below_size L1.out); clear hb2 hB2 hg2 K1 L1; have K1 := K1'; clear K1'; have hca_0 : w2.cell? ⟨g1, 0, none⟩ = some (.int .i64 a0_0) := (blk_cell K1.out 0).trans rfl; have hca_1 : w2.cell? ⟨g1, 1, none⟩ = some (.int .i64 a0_1) := (blk_cell K1.out 1).trans rfl; have hca_2 : w2.cell? ⟨g1, 2, none⟩ = some (.int .i64 a0_2) := (blk_cell K1.out 2).trans rfl; have hfa_0 := blk_frozen K1.out 0; have hfa_1 := blk_frozen K1.out 1; have hfa_2 := blk_frozen K1.out 2) | (go_at_call 26; (refine (sky_within.calls a0_0 a0_1 a0_2 4194304 false _ H0.out).mono ?_); rintro e w3 ⟨rfl, hB3⟩; have K1' := Aside0.mk (blk_below K1.out hB3); have K2' := Aside0.mk (blk_below K2.out hB3); have L3 := Aside0.mk (below_step L2.out hB3); clear K1 K2 L2 hB3 hca_0 hca_1 hca_2 hfa_0 hfa_1 hfa_2; have K1 := K1'; have K2 := K2'; clear K1' K2'; have hca_0 : w3.cell? ⟨g1, 0, none⟩ = some (.int .i64 a0_0) := (blk_cell K1.out 0).trans rfl; have hca_1 : w3.cell? ⟨g1, 1, none⟩ = some (.int .i64 a0_1) := (blk_cell K1.out 1).trans rfl; have hca_2 : w3.cell? ⟨g1, 2, none⟩ = some (.int .i64 a0_2) := (blk_cell K1.out 2).trans rfl; have hfa_0 := blk_frozen K1.out 0; have hfa_1 := blk_frozen K1.out 1; have hfa_2 := blk_frozen K1.out 2; have hcb_0 : w3.cell? ⟨g2, 0, none⟩ = some (.int .i64 0) := (blk_cell K2.out 0).trans rfl; have hcb_1 : w3.cell? ⟨g2, 1, none⟩ = some (.int .i64 0) := (blk_cell K2.out 1).trans rfl; have hcb_2 : w3.cell? ⟨g2, 2, none⟩ = some (.int .i64 0) := (blk_cell K2.out 2).trans rfl; have hfb_0 := blk_frozen K2.out 0; have hfb_1 := blk_frozen K2.out 1; have hfb_2 := blk_frozen K2.out 2))
    refine bodyPost_ret (results_cell_row rfl _ _ g2 23 #[.int .i64 0, .int .i64 0, .int .i64 0] (0, 0) _ rfl (by (with_reducible repeat (first | refine blk_drewN ?_ _ | refine blk_drew ?_ | refine blk_alloc ?_ _)); refine blk_put (cs := #[.int .i64 0, .int .i64 0, .int .i64 0]) ?_ 2 _ rfl; (with_reducible repeat (first | refine blk_drewN ?_ _ | refine blk_drew ?_ | refine blk_alloc ?_ _)); refine blk_put (cs := #[.int .i64 0, .int .i64 0, .int .i64 0]) ?_ 1 _ rfl; (with_reducible repeat (first | refine blk_drewN ?_ _ | refine blk_drew ?_ | refine blk_alloc ?_ _)); refine blk_put (cs := #[.int .i64 0, .int .i64 0, .int .i64 0]) ?_ 0 _ rfl; (with_reducible repeat (first | refine blk_drewN ?_ _ | refine blk_drew ?_ | refine blk_alloc ?_ _)); exact K2.out) Try.underlying23 rfl (by kernel_rfl)) rfl ?_
    exact ⟨rfl, by repeat (first | (with_reducible first | exact L3.out | apply below_alloc | apply pw_below_drewN | apply below_drew1 | refine below_set ?_ G1.out | refine below_set ?_ G2.out) | exact L3.out)⟩
  · rw [if_pos rfl] at h
    replace h := Option.bind_eq_some_iff.mp h
    obtain ⟨r, h1, h⟩ := h
    have H1 := Aside0.mk h1
    clear h1
    have H := Aside0.mk h
    clear h
    go_enter Try.func10, Try.ntmps10
    go_upto_region 3 with (first | ((with_reducible refine gate_dst (N := 1) rfl ?_); refine box_event ?hg (N := 1) ?hd (cs := #[.int .i64 a0_0, .int .i64 a0_1, .int .i64 a0_2]) (t := 23) ?hr ?_; (case hd => rfl); (case hg => rfl); (case hr => first | (go_simp; done) | (go_simp; rfl)); intro g1 hg1 w1 hb1 hB1; have K1 := Aside0.mk hb1; have L1 := Aside0.mk hB1; have G1 := Aside0.mk (Nat.le_of_eq hg1.symm); clear hb1 hB1 hg1) | ((with_reducible refine gate_dst (N := 2) rfl ?_); refine box_event ?hg (N := 2) ?hd (cs := #[.int .i64 0, .int .i64 0, .int .i64 0]) (t := 23) ?hr ?_; (case hd => rfl); (case hg => rfl); (case hr => first | (go_simp; done) | (go_simp; rfl)); intro g2 hg2 w2 hb2 hB2; have K2 := Aside0.mk hb2; have L2 := Aside0.mk (below_step L1.out hB2); have K1' := Aside0.mk (blk_below K1.out hB2); have NE := Aside0.mk (show g1 ≠ g2 by rw [hg2]; exact Nat.ne_of_lt (blk_lt K1.out)); have G2 := Aside0.mk (show w.heap.size ≤ g2 by rw [hg2]; exact below_size L1.out); clear hb2 hB2 hg2 K1 L1; have K1 := K1'; clear K1'; have hca_0 : w2.cell? ⟨g1, 0, none⟩ = some (.int .i64 a0_0) := (blk_cell K1.out 0).trans rfl; have hca_1 : w2.cell? ⟨g1, 1, none⟩ = some (.int .i64 a0_1) := (blk_cell K1.out 1).trans rfl; have hca_2 : w2.cell? ⟨g1, 2, none⟩ = some (.int .i64 a0_2) := (blk_cell K1.out 2).trans rfl; have hfa_0 := blk_frozen K1.out 0; have hfa_1 := blk_frozen K1.out 1; have hfa_2 := blk_frozen K1.out 2) | (go_at_call 26; (refine (sky_within.calls a0_0 a0_1 a0_2 4194304 true _ H0.out).mono ?_); rintro e w3 ⟨rfl, hB3⟩; have K1' := Aside0.mk (blk_below K1.out hB3); have K2' := Aside0.mk (blk_below K2.out hB3); have L3 := Aside0.mk (below_step L2.out hB3); clear K1 K2 L2 hB3 hca_0 hca_1 hca_2 hfa_0 hfa_1 hfa_2; have K1 := K1'; have K2 := K2'; clear K1' K2'; have hca_0 : w3.cell? ⟨g1, 0, none⟩ = some (.int .i64 a0_0) := (blk_cell K1.out 0).trans rfl; have hca_1 : w3.cell? ⟨g1, 1, none⟩ = some (.int .i64 a0_1) := (blk_cell K1.out 1).trans rfl; have hca_2 : w3.cell? ⟨g1, 2, none⟩ = some (.int .i64 a0_2) := (blk_cell K1.out 2).trans rfl; have hfa_0 := blk_frozen K1.out 0; have hfa_1 := blk_frozen K1.out 1; have hfa_2 := blk_frozen K1.out 2; have hcb_0 : w3.cell? ⟨g2, 0, none⟩ = some (.int .i64 0) := (blk_cell K2.out 0).trans rfl; have hcb_1 : w3.cell? ⟨g2, 1, none⟩ = some (.int .i64 0) := (blk_cell K2.out 1).trans rfl; have hcb_2 : w3.cell? ⟨g2, 2, none⟩ = some (.int .i64 0) := (blk_cell K2.out 2).trans rfl; have hfb_0 := blk_frozen K2.out 0; have hfb_1 := blk_frozen K2.out 1; have hfb_2 := blk_frozen K2.out 2))
    go_cut [3] (fun v3 wc => ∃ (g3 : Nat), v3 = .pointer (some ⟨g3, 0, none⟩) ∧ Aside0 (wc.heap[g1]? = some (.cells #[.int .i64 a0_0, .int .i64 a0_1, .int .i64 a0_2] 23 (0, 0))) ∧ Aside0 (wc.heap[g2]? = some (.cells #[.int .i64 0, .int .i64 0, .int .i64 0] 23 (0, 0))) ∧ Aside0 (wc.heap[g3]? = some (.cells #[.int .i64 r] 2 (0, 0))) ∧ Aside0 (Below w.heap.size w wc) ∧ Aside0 (w.heap.size ≤ g3) ∧ Aside0 (g1 ≠ g3) ∧ Aside0 (g2 ≠ g3))
    case first =>
      clear H
      go_wp2_with (first | (go_at_call 27; (refine (num_Sqrt.calls k _ r _ H1.out).mono ?_); rintro e w4 ⟨rfl, ⟨nd, rfl⟩⟩) | ((with_reducible refine gate_dst (N := 3) rfl ?_); refine box_event ?hg (N := 3) ?hd (cs := #[.int .i64 0]) (t := 2) ?hr ?_; (case hd => rfl); (case hg => rfl); (case hr => first | (go_simp; done) | (go_simp; rfl)); intro g3 hg3 w5 hb3 hB5; have K3 := Aside0.mk hb3; have K1' := Aside0.mk (blk_below (blk_drewN K1.out nd) hB5); have K2' := Aside0.mk (blk_below (blk_drewN K2.out nd) hB5); have L5 := Aside0.mk (below_step (pw_below_drewN L3.out nd) hB5); have G3 := Aside0.mk (show w.heap.size ≤ g3 by rw [hg3]; exact below_size (pw_below_drewN L3.out nd)); have N1 := Aside0.mk (show g1 ≠ g3 by rw [hg3]; exact Nat.ne_of_lt (blk_lt K1.out)); have N2 := Aside0.mk (show g2 ≠ g3 by rw [hg3]; exact Nat.ne_of_lt (blk_lt K2.out)); clear hb3 hB5 hg3 K1 K2 L3 hca_0 hca_1 hca_2 hfa_0 hfa_1 hfa_2 hcb_0 hcb_1 hcb_2 hfb_0 hfb_1 hfb_2; have K1 := K1'; have K2 := K2'; clear K1' K2'; have hc3 : w5.cell? ⟨g3, 0, none⟩ = some (.int .i64 0) := (blk_cell K3.out 0).trans rfl; have hf3 := blk_frozen K3.out 0))
      go_meet
      case rel => exact ⟨g3, rfl, ⟨blk_far K1.out N1.out _⟩, ⟨blk_far K2.out N2.out _⟩, ⟨blk_put K3.out 0 _ rfl⟩, ⟨below_set L5.out G3.out⟩, G3, N1, N2⟩
    case rest =>
      clear K1 K2 L3 hca_0 hca_1 hca_2 hfa_0 hfa_1 hfa_2 hcb_0 hcb_1 hcb_2 hfb_0 hfb_1 hfb_2
      obtain ⟨g3, rfl, K1, K2, K3, L3, G3, N1, N2⟩ := hcut
      have h := H.out
      clear H
      have hca_0 : wc.cell? ⟨g1, 0, none⟩ = some (.int .i64 a0_0) := (blk_cell K1.out 0).trans rfl
      have hca_1 : wc.cell? ⟨g1, 1, none⟩ = some (.int .i64 a0_1) := (blk_cell K1.out 1).trans rfl
      have hca_2 : wc.cell? ⟨g1, 2, none⟩ = some (.int .i64 a0_2) := (blk_cell K1.out 2).trans rfl
      have hfa_0 := blk_frozen K1.out 0
      have hfa_1 := blk_frozen K1.out 1
      have hfa_2 := blk_frozen K1.out 2
      have hcb_0 : wc.cell? ⟨g2, 0, none⟩ = some (.int .i64 0) := (blk_cell K2.out 0).trans rfl
      have hcb_1 : wc.cell? ⟨g2, 1, none⟩ = some (.int .i64 0) := (blk_cell K2.out 1).trans rfl
      have hcb_2 : wc.cell? ⟨g2, 2, none⟩ = some (.int .i64 0) := (blk_cell K2.out 2).trans rfl
      have hfb_0 := blk_frozen K2.out 0
      have hfb_1 := blk_frozen K2.out 1
      have hfb_2 := blk_frozen K2.out 2
      have hc3 : wc.cell? ⟨g3, 0, none⟩ = some (.int .i64 r) := (blk_cell K3.out 0).trans rfl
      by_cases c : r < 65536
      · rw [if_pos c] at h
        have cb : decide (r < 65536) = true := decide_eq_true c
        clear c
        simp only [Option.some.injEq, Prod.mk.injEq] at h
        obtain ⟨rfl, rfl, rfl⟩ := h
        go_wp2
        refine bodyPost_ret (results_cell_row rfl _ _ g2 23 #[.int .i64 0, .int .i64 0, .int .i64 0] (0, 0) _ rfl (by (with_reducible repeat (first | refine blk_drewN ?_ _ | refine blk_drew ?_ | refine blk_alloc ?_ _)); refine blk_put (cs := #[.int .i64 0, .int .i64 0, .int .i64 0]) ?_ 2 _ rfl; (with_reducible repeat (first | refine blk_drewN ?_ _ | refine blk_drew ?_ | refine blk_alloc ?_ _)); refine blk_put (cs := #[.int .i64 0, .int .i64 0, .int .i64 0]) ?_ 1 _ rfl; (with_reducible repeat (first | refine blk_drewN ?_ _ | refine blk_drew ?_ | refine blk_alloc ?_ _)); refine blk_put (cs := #[.int .i64 0, .int .i64 0, .int .i64 0]) ?_ 0 _ rfl; (with_reducible repeat (first | refine blk_drewN ?_ _ | refine blk_drew ?_ | refine blk_alloc ?_ _)); exact K2.out) Try.underlying23 rfl (by kernel_rfl)) rfl ?_
        exact ⟨rfl, by repeat (first | (with_reducible first | exact L3.out | apply below_alloc | apply pw_below_drewN | apply below_drew1 | refine below_set ?_ G2.out) | exact L3.out)⟩
      · rw [if_neg c] at h
        have cb : decide (r < 65536) = false := decide_eq_false c
        clear c
        replace h := Option.bind_eq_some_iff.mp h
        obtain ⟨p1, h2, h⟩ := h
        replace h := Option.bind_eq_some_iff.mp h
        obtain ⟨p2, h3, h⟩ := h
        replace h := Option.bind_eq_some_iff.mp h
        obtain ⟨p3, h4, h⟩ := h
        simp only [Option.some.injEq, Prod.mk.injEq] at h
        obtain ⟨rfl, rfl, rfl⟩ := h
        have H2 := Aside0.mk h2
        have H3 := Aside0.mk h3
        have H4 := Aside0.mk h4
        clear h2 h3 h4
        go_wp2
        have s1 := K1.out
        have s2 := K2.out
        have s3 := K3.out
        have s4 := L3.out
        clear K1 K2 K3 L3
        have hS0 : wc.drew.cell? ⟨g1, 0, none⟩ = some (.int .i64 a0_0) ∧ wc.drew.cell? ⟨g1, 1, none⟩ = some (.int .i64 a0_1) ∧ wc.drew.cell? ⟨g1, 2, none⟩ = some (.int .i64 a0_2) ∧ wc.drew.cell? ⟨g3, 0, none⟩ = some (.int .i64 r) ∧ Below w.heap.size w wc.drew := by
          have k1 := blk_drew s1
          have k3 := blk_drew s3
          exact ⟨(blk_cell k1 0).trans rfl, (blk_cell k1 1).trans rfl, (blk_cell k1 2).trans rfl, (blk_cell k3 0).trans rfl, below_drew1 s4⟩
        have q0 := blk_drew s2
        have z0 : wc.drew.cell? ⟨g2, 0, none⟩ = some (.int .i64 0) := (blk_cell q0 0).trans rfl
        have z1 : wc.drew.cell? ⟨g2, 1, none⟩ = some (.int .i64 0) := (blk_cell q0 1).trans rfl
        have z2 : wc.drew.cell? ⟨g2, 2, none⟩ = some (.int .i64 0) := (blk_cell q0 2).trans rfl
        clear s1 s2 s3 s4 hca_0 hfa_0 hcb_0 hfb_0 hca_1 hfa_1 hcb_1 hfb_1 hca_2 hfa_2 hcb_2 hfb_2 hc3
        have n1 := NE.out
        have n2 := Ne.symm n1
        have n3 := N2.out
        have n4 := Ne.symm n3
        have hg2 := G2.out
        go_region_held3 (fun w' => w'.cell? ⟨g1, 0, none⟩ = some (.int .i64 a0_0) ∧ w'.cell? ⟨g1, 1, none⟩ = some (.int .i64 a0_1) ∧ w'.cell? ⟨g1, 2, none⟩ = some (.int .i64 a0_2) ∧ w'.cell? ⟨g3, 0, none⟩ = some (.int .i64 r) ∧ Below w.heap.size w w')
          (first | (with_reducible exact hS0) | (exact ⟨sky_Pull.cell_later hb (by simp only [*]), sky_Pull.cell_later hb (by simp only [*]), sky_Pull.cell_later hb (by simp only [*]), sky_Pull.cell_later hb (by simp only [*]), below_step (by simp only [*]) hb⟩) | (refine ⟨?_, ?_, ?_, ?_, below_set (below_set (below_set (by simp only [*]) hg2) hg2) hg2⟩ <;> (go_simp; done)))
          (first | (go_at_call 28; (with_reducible refine (sky_Pull.part_calls k a0_0 r p1 g3 _ ?hq H2.out).mono ?_); (case hq => simp only [*]); rintro e w9 ⟨rfl, hb⟩; have q2 := blk_below (g := g2) (o := .cells #[.int .i64 0, .int .i64 0, .int .i64 0] 23 (0, 0)) (by simp only [*]) hb; have := (blk_cell q2 0).trans (rfl : _ = some (Value.int .i64 0)); have := (blk_cell q2 1).trans (rfl : _ = some (Value.int .i64 0)); have := (blk_cell q2 2).trans (rfl : _ = some (Value.int .i64 0)); have := blk_frozen q2 0; have := blk_frozen q2 1; have := blk_frozen q2 2) | (go_at_call 28; (with_reducible refine (sky_Pull.part_calls k a0_1 r p2 g3 _ ?hq H3.out).mono ?_); (case hq => simp only [*]); rintro e w9 ⟨rfl, hb⟩; have q2 := blk_below (g := g2) (o := .cells #[.int .i64 0, .int .i64 0, .int .i64 0] 23 (0, 0)) (by simp only [*]) hb; have := (blk_cell q2 0).trans (rfl : _ = some (Value.int .i64 0)); have := (blk_cell q2 1).trans (rfl : _ = some (Value.int .i64 0)); have := (blk_cell q2 2).trans (rfl : _ = some (Value.int .i64 0)); have := blk_frozen q2 0; have := blk_frozen q2 1; have := blk_frozen q2 2) | (go_at_call 28; (with_reducible refine (sky_Pull.part_calls k a0_2 r p3 g3 _ ?hq H4.out).mono ?_); (case hq => simp only [*]); rintro e w9 ⟨rfl, hb⟩; have q2 := blk_below (g := g2) (o := .cells #[.int .i64 0, .int .i64 0, .int .i64 0] 23 (0, 0)) (by simp only [*]) hb; have := (blk_cell q2 0).trans (rfl : _ = some (Value.int .i64 0)); have := (blk_cell q2 1).trans (rfl : _ = some (Value.int .i64 0)); have := (blk_cell q2 2).trans (rfl : _ = some (Value.int .i64 0)); have := blk_frozen q2 0; have := blk_frozen q2 1; have := blk_frozen q2 2))
        rename_i hh
        have hL := Aside0.mk hh.2.2.2.2
        clear hh hS0 z0 z1 z2
        go_wp2
        refine bodyPost_ret (results_cell_row rfl _ _ g2 23 #[.int .i64 p1, .int .i64 p2, .int .i64 p3] (0, 0) _ rfl (by refine blk_put (cs := #[.int .i64 p1, .int .i64 p2, .int .i64 0]) ?_ 2 _ rfl; refine blk_put (cs := #[.int .i64 p1, .int .i64 0, .int .i64 0]) ?_ 1 _ rfl; refine blk_put (cs := #[.int .i64 0, .int .i64 0, .int .i64 0]) ?_ 0 _ rfl; exact q2) Try.underlying23 rfl (by kernel_rfl)) rfl ?_
        exact ⟨rfl, hL.out⟩

end Go.Proofs.Ytaddopcbneggiaa.QSkyReverses
