/- A part of the proof that the law FnInsText holds for every input: the words, functions and walks that its row needs, without a condition of their own. -/
import Derived.Test.YtkjfcmgpplapeaaDoorZFnInsTexta4
import Derived.Test.YtkjfcmgpplapeaaDoorZFnInsTexts
namespace Go.Proofs.YtkjfcmgpplapeaaDoor.PFnInsText
open Go.RowKit Go.Proofs.YtkjfcmgpplapeaaDoorW.PrintWords Go.Proofs.YtkjfcmgpplapeaaDoorW.PrintLast Go.Proofs.YtkjfcmgpplapeaaDoorW.PrintMore
attribute [local go_sem] max2_int min2_int max_two min_two max_three min_three max_four min_four   -- for this text's walks alone
set_option linter.unusedVariables false
set_option linter.unusedSimpArgs false
theorem genW {p c q a} (R : World → Prop) {W : World} (hR : R W) (h : ∀ V, R V → Code.wp p c q a V) : Code.wp p c q a W := h W hR
mutual
def spec_l2Put.j0 : Nat → List Int → Int → Bool → Int → Int → Int → Int → Int → Option (Int × Int × Int × Int × Int)
  | 0, _, _, _, _, _, _, _, _ => none
  | k + 1, x1, x8, x19, x461000, x461001, x461002, x461003, x461004 => if x19 = true then (if 0 < (x1.length : Int) then (if 1 < (x1.length : Int) then (if 2 < (x1.length : Int) then (some (x461000, rd x1 0, rd x1 1, rd x1 2, x461004)) else (none)) else (none)) else (none)) else (if x8 = 5 then (if 0 < (x1.length : Int) then (if 1 < (x1.length : Int) then (some (x461000, x461001, rd x1 1, x461003, rd x1 0)) else (none)) else (none)) else (if x8 = 6 then (spec_l2Put.j1 k x1 x8 (x8 == 6) x461000 x461001 x461002 x461003 x461004) else (spec_l2Put.j1 k x1 x8 (x8 == 8) x461000 x461001 x461002 x461003 x461004)))
def spec_l2Put.j1 : Nat → List Int → Int → Bool → Int → Int → Int → Int → Int → Option (Int × Int × Int × Int × Int)
  | 0, _, _, _, _, _, _, _, _ => none
  | k + 1, x1, x8, x45, x461000, x461001, x461002, x461003, x461004 => if x45 = true then (if 0 < (x1.length : Int) then (if 1 < (x1.length : Int) then (if 2 < (x1.length : Int) then (some (x461000, rd x1 0, x461002, rd x1 1, rd x1 2)) else (none)) else (none)) else (none)) else (if x8 = 7 then (if 0 < (x1.length : Int) then (if 1 < (x1.length : Int) then (if 2 < (x1.length : Int) then (some (x461000, rd x1 0, rd x1 2, x461003, rd x1 1)) else (none)) else (none)) else (none)) else (if x8 = 9 then (spec_l2Put.j2 k x1 x8 (x8 == 9) x461000 x461001 x461002 x461003 x461004) else (spec_l2Put.j2 k x1 x8 (x8 == 11) x461000 x461001 x461002 x461003 x461004)))
def spec_l2Put.j2 : Nat → List Int → Int → Bool → Int → Int → Int → Int → Int → Option (Int × Int × Int × Int × Int)
  | 0, _, _, _, _, _, _, _, _ => none
  | k + 1, x1, x8, x74, x461000, x461001, x461002, x461003, x461004 => if x74 = true then (if 0 < (x1.length : Int) then (some (x461000, x461001, x461002, x461003, rd x1 0)) else (none)) else (if x8 = 10 then (if 0 < (x1.length : Int) then (some (x461000, x461001, rd x1 0, x461003, x461004)) else (none)) else (if x8 = 12 then (if 0 < (x1.length : Int) then (if 1 < (x1.length : Int) then (some (x461000, x461001, rd x1 0, x461003, rd x1 1)) else (none)) else (none)) else (some (x461000, x461001, x461002, x461003, x461004))))
end
def spec_l2Put.f (k : Nat) (a0 : Int) (l1 : List Int) : Option (Int × Int × Int × Int × Int) := if a0 = 1 then (if 0 < (l1.length : Int) then (if 1 < (l1.length : Int) then (some (a0, rd l1 0, 0, 0, rd l1 1)) else (none)) else (none)) else (if a0 = 2 then (spec_l2Put.j0 k l1 a0 (a0 == 2) a0 0 0 0 0) else (if a0 = 3 then (spec_l2Put.j0 k l1 a0 (a0 == 3) a0 0 0 0 0) else (spec_l2Put.j0 k l1 a0 (a0 == 4) a0 0 0 0 0)))
set_option maxHeartbeats 8000000 in
set_option maxRecDepth 100000 in
theorem spec_l2Put.calls (k : Nat) (a0 : Int) (A1 : Option Addr) (c1 : Nat) (l1 : List Int) (r1 : Int) (r2 : Int) (r3 : Int) (r4 : Int) (r5 : Int) (w : World) (hr1 : Kd.C (Kd.int .i64) w A1 l1.length l1) (hc1 : l1.length ≤ c1) (h : spec_l2Put.f k a0 l1 = some (r1, r2, r3, r4, r5)) :
  Calls Tryd.prog 109 #[.int .i64 a0, .slice A1 l1.length c1] w fun e w' => e = .returned (.agg #[.int .i64 r1, .int .i64 r2, .int .i64 r3, .int .i64 r4, .int .i64 r5]) ∧ Below w.heap.size w w' := by
 have hu32 := Tryd.underlying32
 have HR1 := aM_ hr1
 have HC1 := aM_ hc1
 clear hr1 hc1
 have HB := aM_ (Below.refl w.heap.size w)
 have H : (if a0 = 1 then (if 0 < (l1.length : Int) then (if 1 < (l1.length : Int) then (some (a0, rd l1 0, 0, 0, rd l1 1)) else (none)) else (none)) else (if a0 = 2 then (spec_l2Put.j0 k l1 a0 (a0 == 2) a0 0 0 0 0) else (if a0 = 3 then (spec_l2Put.j0 k l1 a0 (a0 == 3) a0 0 0 0 0) else (spec_l2Put.j0 k l1 a0 (a0 == 4) a0 0 0 0 0)))) = some (r1, r2, r3, r4, r5) := h
 clear h
 by_cases c3 : a0 = 1
 ·rw [if_pos c3] at H
  have c3b0 : (a0 == 1) = true := beq_iff_eq.mpr c3
  have c3b1 : (a0 != 1) = false := bne_eq_false_iff_eq.mpr c3
  clear c3
  by_cases c4 : 0 < (l1.length : Int)
  ·rw [if_pos c4] at H
   have c4b0 : decide (0 < (l1.length : Int)) = true := decide_eq_true c4
   have c4b1 : decide (0 < l1.length) = true := decide_eq_true (by omega)
   clear c4
   by_cases c5 : 1 < (l1.length : Int)
   ·rw [if_pos c5] at H
    have c5b0 : decide (1 < (l1.length : Int)) = true := decide_eq_true c5
    have c5b1 : decide (1 < l1.length) = true := decide_eq_true (by omega)
    clear c5
    simp only [Option.some.injEq, Prod.mk.injEq] at H
    obtain ⟨rfl, rfl, rfl, rfl, rfl⟩ := H
    go_enter Tryd.func109, Tryd.ntmps109
    go_upto_region 2 with (first | ((with_reducible refine gate_dst (N := 4) rfl ?_); refine bX_ 4 (cs := #[.int .i64 0, .int .i64 0, .int .i64 0, .int .i64 0, .int .i64 0]) (t := 32) ?_; intro gb459 hg w12 hbox hb; have n0 := aM_ (sT_ HB.out hb); have n1 := aM_ (hbox); have n2 := aM_ (sZ_ hg HB.out); have n3 := aM_ (sZ_ hg HB.out); clear HB; have HB := n0; have BK459 := n1; have GW459 := n2; have GE459 := n3; clear n0 n1 n2 n3; clear hb hbox hg) | ((with_reducible refine gate_dst (N := 5) rfl ?_); refine bX_ 5 (cs := #[.int .i64 0, .int .i64 0, .int .i64 0, .int .i64 0, .int .i64 0]) (t := 32) ?_; intro gb460 hg w13 hbox hb; have n0 := aM_ (nB_ BK459.out hb); have n1 := aM_ (sT_ HB.out hb); have n2 := aM_ (hbox); have n3 := aM_ (sZ_ hg HB.out); have n4 := aM_ (sZ_ hg HB.out); have n5 := aM_ (nL_ hg BK459.out); have n6 := aM_ (nG_ hg BK459.out); clear BK459; clear HB; have BK459 := n0; have HB := n1; have BK460 := n2; have GW460 := n3; have GE460 := n4; have NB459_460 := n5; have NB460_459 := n6; clear n0 n1 n2 n3 n4 n5 n6; clear hb hbox hg; have hnb14 := NB460_459.out; have hnc14 := NB459_460.out; obtain ⟨hcz15_0, hcz15_1, hcz15_2, hcz15_3, hcz15_4, hfz15_0, hfz15_1, hfz15_2, hfz15_3, hfz15_4⟩ := bR5_ BK460.out))
    (try simp only [Act.put, List.setIfInBounds_toArray, List.set_cons_zero, List.set_cons_succ])
    refine genW (fun wc : World => Aside0 (wc.heap[gb459]? = some (.cells #[.int .i64 0, .int .i64 0, .int .i64 0, .int .i64 0, .int .i64 0] 32 (0, 0))) ∧ Aside0 (wc.heap[gb460]? = some (.cells #[.int .i64 a0, .int .i64 0, .int .i64 0, .int .i64 0, .int .i64 0] 32 (0, 0))) ∧ Aside0 (Below w.heap.size w wc)) ⟨⟨by (with_reducible repeat (first | refine bN_ ?_ _ | refine bD_ ?_ | refine bA_ ?_ _)); refine blk_far ?_ NB459_460.out _; (with_reducible repeat (first | refine bN_ ?_ _ | refine bD_ ?_ | refine bA_ ?_ _)); refine blk_far ?_ NB459_460.out _; (with_reducible repeat (first | refine bN_ ?_ _ | refine bD_ ?_ | refine bA_ ?_ _)); refine blk_far ?_ NB459_460.out _; (with_reducible repeat (first | refine bN_ ?_ _ | refine bD_ ?_ | refine bA_ ?_ _)); refine blk_far ?_ NB459_460.out _; (with_reducible repeat (first | refine bN_ ?_ _ | refine bD_ ?_ | refine bA_ ?_ _)); refine blk_far ?_ NB459_460.out _; (with_reducible repeat (first | refine bN_ ?_ _ | refine bD_ ?_ | refine bA_ ?_ _)); exact BK459.out⟩, ⟨by (with_reducible repeat (first | refine bN_ ?_ _ | refine bD_ ?_ | refine bA_ ?_ _)); refine blk_put (cs := #[.int .i64 a0, .int .i64 0, .int .i64 0, .int .i64 0, .int .i64 0]) ?_ 4 _ rfl; (with_reducible repeat (first | refine bN_ ?_ _ | refine bD_ ?_ | refine bA_ ?_ _)); refine blk_put (cs := #[.int .i64 a0, .int .i64 0, .int .i64 0, .int .i64 0, .int .i64 0]) ?_ 3 _ rfl; (with_reducible repeat (first | refine bN_ ?_ _ | refine bD_ ?_ | refine bA_ ?_ _)); refine blk_put (cs := #[.int .i64 a0, .int .i64 0, .int .i64 0, .int .i64 0, .int .i64 0]) ?_ 2 _ rfl; (with_reducible repeat (first | refine bN_ ?_ _ | refine bD_ ?_ | refine bA_ ?_ _)); refine blk_put (cs := #[.int .i64 a0, .int .i64 0, .int .i64 0, .int .i64 0, .int .i64 0]) ?_ 1 _ rfl; (with_reducible repeat (first | refine bN_ ?_ _ | refine bD_ ?_ | refine bA_ ?_ _)); refine blk_put (cs := #[.int .i64 0, .int .i64 0, .int .i64 0, .int .i64 0, .int .i64 0]) ?_ 0 _ rfl; (with_reducible repeat (first | refine bN_ ?_ _ | refine bD_ ?_ | refine bA_ ?_ _)); exact BK460.out⟩, ⟨gW_ HB.out⟩⟩ ?_
    clear BK459 BK460 HB hnb14 hnc14 hcz15_0 hcz15_1 hcz15_2 hcz15_3 hcz15_4 hfz15_0 hfz15_1 hfz15_2 hfz15_3 hfz15_4
    rintro w9 ⟨BK459, BK460, HB⟩
    have p466 : 0 ≤ (0 : Int) := (by omega)
    have q466 : 0 < (l1.length : Int) := of_decide_eq_true (by first | (with_reducible assumption) | assumption)
    obtain ⟨ad466, e466, hx466_0⟩ := Kd.at_int HR1.out 0 p466 q466
    cases e466
    have qi466 : (0 < l1.length) = True := eq_true (by omega)
    (try rw [show ((0 : Int)).toNat = 0 from rfl] at hx466_0)
    (try rw [Addr.add_zero'] at hx466_0)
    replace hx466_0 := cB_ HB.out hx466_0
    replace p466 := eq_true p466
    replace q466 := eq_true q466
    have hnb28 := NB460_459.out
    have hnc28 := NB459_460.out
    obtain ⟨hcz29_0, hcz29_1, hcz29_2, hcz29_3, hcz29_4, hfz29_0, hfz29_1, hfz29_2, hfz29_3, hfz29_4⟩ := bR5_ BK460.out
    have p467 : 0 ≤ (1 : Int) := (by omega)
    have q467 : 1 < (l1.length : Int) := of_decide_eq_true (by first | (with_reducible assumption) | assumption)
    obtain ⟨ad467, e467, hx467_0⟩ := Kd.at_int HR1.out 1 p467 q467
    obtain rfl : ad466 = ad467 := (by injection e467)
    (try simp only [show (1 : Int).toNat = 1 from rfl, Nat.reduceMul, Nat.reduceEqDiff, Go.Addr.add, ↓reduceIte] at hx467_0)
    have qi467 : (1 < l1.length) = True := eq_true (by omega)
    (try rw [show ((1 : Int)).toNat = 1 from rfl] at hx467_0)
    have hn467_0 : ad466.block ≠ gb460 := nE_ hx467_0 GW460.out
    replace hx467_0 := cB_ HB.out hx467_0
    replace hx467_0 := cF_ ⟨gb460, 1, none⟩ hn467_0 (.int .i64 (rd l1 0)) hx467_0
    clear hn467_0
    replace p467 := eq_true p467
    replace q467 := eq_true q467
    obtain ⟨hcz30_0, hcz30_1, hcz30_2, hcz30_3, hcz30_4, hfz30_0, hfz30_1, hfz30_2, hfz30_3, hfz30_4⟩ := bR5_ BK459.out
    go_wp2
    refine bodyPost_ret (results_cell_row rfl _ _ gb459 32 #[.int .i64 a0, .int .i64 (rd l1 0), .int .i64 0, .int .i64 0, .int .i64 (rd l1 1)] (0, 0) _ rfl (by (with_reducible repeat (first | refine bN_ ?_ _ | refine bD_ ?_ | refine bA_ ?_ _)); refine blk_put (cs := #[.int .i64 a0, .int .i64 (rd l1 0), .int .i64 0, .int .i64 0, .int .i64 0]) ?_ 4 _ rfl; (with_reducible repeat (first | refine bN_ ?_ _ | refine bD_ ?_ | refine bA_ ?_ _)); refine blk_put (cs := #[.int .i64 a0, .int .i64 (rd l1 0), .int .i64 0, .int .i64 0, .int .i64 0]) ?_ 3 _ rfl; (with_reducible repeat (first | refine bN_ ?_ _ | refine bD_ ?_ | refine bA_ ?_ _)); refine blk_put (cs := #[.int .i64 a0, .int .i64 (rd l1 0), .int .i64 0, .int .i64 0, .int .i64 0]) ?_ 2 _ rfl; (with_reducible repeat (first | refine bN_ ?_ _ | refine bD_ ?_ | refine bA_ ?_ _)); refine blk_put (cs := #[.int .i64 a0, .int .i64 0, .int .i64 0, .int .i64 0, .int .i64 0]) ?_ 1 _ rfl; (with_reducible repeat (first | refine bN_ ?_ _ | refine bD_ ?_ | refine bA_ ?_ _)); refine blk_put (cs := #[.int .i64 0, .int .i64 0, .int .i64 0, .int .i64 0, .int .i64 0]) ?_ 0 _ rfl; (with_reducible repeat (first | refine bN_ ?_ _ | refine bD_ ?_ | refine bA_ ?_ _)); refine blk_far ?_ NB459_460.out _; (with_reducible repeat (first | refine bN_ ?_ _ | refine bD_ ?_ | refine bA_ ?_ _)); refine blk_far ?_ NB459_460.out _; (with_reducible repeat (first | refine bN_ ?_ _ | refine bD_ ?_ | refine bA_ ?_ _)); exact BK459.out) Tryd.underlying32 rfl (by kernel_rfl)) rfl ?_
    exact fI_ HB.out
   ·rw [if_neg c5] at H
    exact absurd H (by simp)
  ·rw [if_neg c4] at H
   exact absurd H (by simp)
 ·rw [if_neg c3] at H
  have c3b0 : (a0 == 1) = false := beq_eq_false_iff_ne.mpr c3
  have c3b1 : (a0 != 1) = true := bne_iff_ne.mpr c3
  have HC11 := aM_ H
  clear H
  go_enter Tryd.func109, Tryd.ntmps109
  go_upto_if 19 with (first | ((with_reducible refine gate_dst (N := 4) rfl ?_); refine bX_ 4 (cs := #[.int .i64 0, .int .i64 0, .int .i64 0, .int .i64 0, .int .i64 0]) (t := 32) ?_; intro gb459 hg w12 hbox hb; have n0 := aM_ (sT_ HB.out hb); have n1 := aM_ (hbox); have n2 := aM_ (sZ_ hg HB.out); have n3 := aM_ (sZ_ hg HB.out); clear HB; have HB := n0; have BK459 := n1; have GW459 := n2; have GE459 := n3; clear n0 n1 n2 n3; clear hb hbox hg) | ((with_reducible refine gate_dst (N := 5) rfl ?_); refine bX_ 5 (cs := #[.int .i64 0, .int .i64 0, .int .i64 0, .int .i64 0, .int .i64 0]) (t := 32) ?_; intro gb460 hg w13 hbox hb; have n0 := aM_ (nB_ BK459.out hb); have n1 := aM_ (sT_ HB.out hb); have n2 := aM_ (hbox); have n3 := aM_ (sZ_ hg HB.out); have n4 := aM_ (sZ_ hg HB.out); have n5 := aM_ (nL_ hg BK459.out); have n6 := aM_ (nG_ hg BK459.out); clear BK459; clear HB; have BK459 := n0; have HB := n1; have BK460 := n2; have GW460 := n3; have GE460 := n4; have NB459_460 := n5; have NB460_459 := n6; clear n0 n1 n2 n3 n4 n5 n6; clear hb hbox hg; have hnb14 := NB460_459.out; have hnc14 := NB459_460.out; obtain ⟨hcz15_0, hcz15_1, hcz15_2, hcz15_3, hcz15_4, hfz15_0, hfz15_1, hfz15_2, hfz15_3, hfz15_4⟩ := bR5_ BK460.out))
  (try simp only [Act.put, List.setIfInBounds_toArray, List.set_cons_zero, List.set_cons_succ])
  go_cut [19] (fun v19 wc => ∃ (kq : Nat) (x19_10 : Bool), v19 = .bool x19_10 ∧ Aside0 (spec_l2Put.j0 kq l1 a0 x19_10 a0 0 0 0 0 = some (r1, r2, r3, r4, r5)) ∧ Aside0 (kq ≤ k) ∧ Aside0 (wc.heap[gb459]? = some (.cells #[.int .i64 0, .int .i64 0, .int .i64 0, .int .i64 0, .int .i64 0] 32 (0, 0))) ∧ Aside0 (wc.heap[gb460]? = some (.cells #[.int .i64 a0, .int .i64 0, .int .i64 0, .int .i64 0, .int .i64 0] 32 (0, 0))) ∧ Aside0 (Below w.heap.size w wc))
  case first =>
   have H := HC11.out
   clear HC11
   by_cases c16 : a0 = 2
   ·rw [if_pos c16] at H
    have c16b0 : (a0 == 2) = true := beq_iff_eq.mpr c16
    have c16b1 : (a0 != 2) = false := bne_eq_false_iff_eq.mpr c16
    clear c16
    (first | rw [c16b0] | (simp only [i64_w, i32_w]; rw [c16b0]) | skip)
    have H' := aM_ H
    clear H
    go_wp2
    go_meet
    case rel => exact ⟨_, ((a0 == 2)), (by first | rfl | (simp; done) | (simp [*]; done)), H', ⟨by first | omega | exact Nat.le_refl _⟩, ⟨by (with_reducible repeat (first | refine bN_ ?_ _ | refine bD_ ?_ | refine bA_ ?_ _)); refine blk_far ?_ NB459_460.out _; (with_reducible repeat (first | refine bN_ ?_ _ | refine bD_ ?_ | refine bA_ ?_ _)); refine blk_far ?_ NB459_460.out _; (with_reducible repeat (first | refine bN_ ?_ _ | refine bD_ ?_ | refine bA_ ?_ _)); refine blk_far ?_ NB459_460.out _; (with_reducible repeat (first | refine bN_ ?_ _ | refine bD_ ?_ | refine bA_ ?_ _)); refine blk_far ?_ NB459_460.out _; (with_reducible repeat (first | refine bN_ ?_ _ | refine bD_ ?_ | refine bA_ ?_ _)); refine blk_far ?_ NB459_460.out _; (with_reducible repeat (first | refine bN_ ?_ _ | refine bD_ ?_ | refine bA_ ?_ _)); exact BK459.out⟩, ⟨by (with_reducible repeat (first | refine bN_ ?_ _ | refine bD_ ?_ | refine bA_ ?_ _)); refine blk_put (cs := #[.int .i64 a0, .int .i64 0, .int .i64 0, .int .i64 0, .int .i64 0]) ?_ 4 _ rfl; (with_reducible repeat (first | refine bN_ ?_ _ | refine bD_ ?_ | refine bA_ ?_ _)); refine blk_put (cs := #[.int .i64 a0, .int .i64 0, .int .i64 0, .int .i64 0, .int .i64 0]) ?_ 3 _ rfl; (with_reducible repeat (first | refine bN_ ?_ _ | refine bD_ ?_ | refine bA_ ?_ _)); refine blk_put (cs := #[.int .i64 a0, .int .i64 0, .int .i64 0, .int .i64 0, .int .i64 0]) ?_ 2 _ rfl; (with_reducible repeat (first | refine bN_ ?_ _ | refine bD_ ?_ | refine bA_ ?_ _)); refine blk_put (cs := #[.int .i64 a0, .int .i64 0, .int .i64 0, .int .i64 0, .int .i64 0]) ?_ 1 _ rfl; (with_reducible repeat (first | refine bN_ ?_ _ | refine bD_ ?_ | refine bA_ ?_ _)); refine blk_put (cs := #[.int .i64 0, .int .i64 0, .int .i64 0, .int .i64 0, .int .i64 0]) ?_ 0 _ rfl; (with_reducible repeat (first | refine bN_ ?_ _ | refine bD_ ?_ | refine bA_ ?_ _)); exact BK460.out⟩, ⟨gW_ HB.out⟩⟩
   ·rw [if_neg c16] at H
    have c16b0 : (a0 == 2) = false := beq_eq_false_iff_ne.mpr c16
    have c16b1 : (a0 != 2) = true := bne_iff_ne.mpr c16
    (first | rw [c16b0] | (simp only [i64_w, i32_w]; rw [c16b0]) | skip)
    by_cases c17 : a0 = 3
    ·rw [if_pos c17] at H
     have c17b0 : (a0 == 3) = true := beq_iff_eq.mpr c17
     have c17b1 : (a0 != 3) = false := bne_eq_false_iff_eq.mpr c17
     clear c17
     have H' := aM_ H
     clear H
     go_wp2
     go_meet
     case rel => exact ⟨_, ((a0 == 3)), (by first | rfl | (simp; done) | (simp [*]; done)), H', ⟨by first | omega | exact Nat.le_refl _⟩, ⟨by (with_reducible repeat (first | refine bN_ ?_ _ | refine bD_ ?_ | refine bA_ ?_ _)); refine blk_far ?_ NB459_460.out _; (with_reducible repeat (first | refine bN_ ?_ _ | refine bD_ ?_ | refine bA_ ?_ _)); refine blk_far ?_ NB459_460.out _; (with_reducible repeat (first | refine bN_ ?_ _ | refine bD_ ?_ | refine bA_ ?_ _)); refine blk_far ?_ NB459_460.out _; (with_reducible repeat (first | refine bN_ ?_ _ | refine bD_ ?_ | refine bA_ ?_ _)); refine blk_far ?_ NB459_460.out _; (with_reducible repeat (first | refine bN_ ?_ _ | refine bD_ ?_ | refine bA_ ?_ _)); refine blk_far ?_ NB459_460.out _; (with_reducible repeat (first | refine bN_ ?_ _ | refine bD_ ?_ | refine bA_ ?_ _)); exact BK459.out⟩, ⟨by (with_reducible repeat (first | refine bN_ ?_ _ | refine bD_ ?_ | refine bA_ ?_ _)); refine blk_put (cs := #[.int .i64 a0, .int .i64 0, .int .i64 0, .int .i64 0, .int .i64 0]) ?_ 4 _ rfl; (with_reducible repeat (first | refine bN_ ?_ _ | refine bD_ ?_ | refine bA_ ?_ _)); refine blk_put (cs := #[.int .i64 a0, .int .i64 0, .int .i64 0, .int .i64 0, .int .i64 0]) ?_ 3 _ rfl; (with_reducible repeat (first | refine bN_ ?_ _ | refine bD_ ?_ | refine bA_ ?_ _)); refine blk_put (cs := #[.int .i64 a0, .int .i64 0, .int .i64 0, .int .i64 0, .int .i64 0]) ?_ 2 _ rfl; (with_reducible repeat (first | refine bN_ ?_ _ | refine bD_ ?_ | refine bA_ ?_ _)); refine blk_put (cs := #[.int .i64 a0, .int .i64 0, .int .i64 0, .int .i64 0, .int .i64 0]) ?_ 1 _ rfl; (with_reducible repeat (first | refine bN_ ?_ _ | refine bD_ ?_ | refine bA_ ?_ _)); refine blk_put (cs := #[.int .i64 0, .int .i64 0, .int .i64 0, .int .i64 0, .int .i64 0]) ?_ 0 _ rfl; (with_reducible repeat (first | refine bN_ ?_ _ | refine bD_ ?_ | refine bA_ ?_ _)); exact BK460.out⟩, ⟨gW_ HB.out⟩⟩
    ·rw [if_neg c17] at H
     have c17b0 : (a0 == 3) = false := beq_eq_false_iff_ne.mpr c17
     have c17b1 : (a0 != 3) = true := bne_iff_ne.mpr c17
     have H' := aM_ H
     clear H
     go_wp2
     go_meet
     case rel => exact ⟨_, ((a0 == 4)), (by first | rfl | (simp; done) | (simp [*]; done)), H', ⟨by first | omega | exact Nat.le_refl _⟩, ⟨by (with_reducible repeat (first | refine bN_ ?_ _ | refine bD_ ?_ | refine bA_ ?_ _)); refine blk_far ?_ NB459_460.out _; (with_reducible repeat (first | refine bN_ ?_ _ | refine bD_ ?_ | refine bA_ ?_ _)); refine blk_far ?_ NB459_460.out _; (with_reducible repeat (first | refine bN_ ?_ _ | refine bD_ ?_ | refine bA_ ?_ _)); refine blk_far ?_ NB459_460.out _; (with_reducible repeat (first | refine bN_ ?_ _ | refine bD_ ?_ | refine bA_ ?_ _)); refine blk_far ?_ NB459_460.out _; (with_reducible repeat (first | refine bN_ ?_ _ | refine bD_ ?_ | refine bA_ ?_ _)); refine blk_far ?_ NB459_460.out _; (with_reducible repeat (first | refine bN_ ?_ _ | refine bD_ ?_ | refine bA_ ?_ _)); exact BK459.out⟩, ⟨by (with_reducible repeat (first | refine bN_ ?_ _ | refine bD_ ?_ | refine bA_ ?_ _)); refine blk_put (cs := #[.int .i64 a0, .int .i64 0, .int .i64 0, .int .i64 0, .int .i64 0]) ?_ 4 _ rfl; (with_reducible repeat (first | refine bN_ ?_ _ | refine bD_ ?_ | refine bA_ ?_ _)); refine blk_put (cs := #[.int .i64 a0, .int .i64 0, .int .i64 0, .int .i64 0, .int .i64 0]) ?_ 3 _ rfl; (with_reducible repeat (first | refine bN_ ?_ _ | refine bD_ ?_ | refine bA_ ?_ _)); refine blk_put (cs := #[.int .i64 a0, .int .i64 0, .int .i64 0, .int .i64 0, .int .i64 0]) ?_ 2 _ rfl; (with_reducible repeat (first | refine bN_ ?_ _ | refine bD_ ?_ | refine bA_ ?_ _)); refine blk_put (cs := #[.int .i64 a0, .int .i64 0, .int .i64 0, .int .i64 0, .int .i64 0]) ?_ 1 _ rfl; (with_reducible repeat (first | refine bN_ ?_ _ | refine bD_ ?_ | refine bA_ ?_ _)); refine blk_put (cs := #[.int .i64 0, .int .i64 0, .int .i64 0, .int .i64 0, .int .i64 0]) ?_ 0 _ rfl; (with_reducible repeat (first | refine bN_ ?_ _ | refine bD_ ?_ | refine bA_ ?_ _)); exact BK460.out⟩, ⟨gW_ HB.out⟩⟩
  case rest =>
   clear HC11
   try clear c1
   try clear p2
   try clear c3
   try clear c3b0
   try clear c3b1
   try clear c4
   try clear c4b0
   try clear c4b1
   try clear p4
   try clear q4
   try clear hx4
   try clear qi4
   try clear c5
   try clear c5b0
   try clear c5b1
   try clear c8
   try clear c10
   try clear c14
   try clear c16
   try clear c16b0
   try clear c16b1
   try clear c17
   try clear c17b0
   try clear c17b1
   try clear hcz10_0
   try clear hcz10_1
   try clear hcz10_2
   try clear hcz10_3
   try clear hcz10_4
   try clear hcz15_0
   try clear hcz15_1
   try clear hcz15_2
   try clear hcz15_3
   try clear hcz15_4
   try clear hcz9_0
   try clear hcz9_1
   try clear hcz9_2
   try clear hcz9_3
   try clear hcz9_4
   try clear hfz10_0
   try clear hfz10_1
   try clear hfz10_2
   try clear hfz10_3
   try clear hfz10_4
   try clear hfz15_0
   try clear hfz15_1
   try clear hfz15_2
   try clear hfz15_3
   try clear hfz15_4
   try clear hfz9_0
   try clear hfz9_1
   try clear hfz9_2
   try clear hfz9_3
   try clear hfz9_4
   try clear hx461_0
   try clear hx462_0
   try clear p461
   try clear p462
   try clear q461
   try clear q462
   obtain ⟨kq, x19_10, rfl, HA, HJ10, BK459, BK460, HB⟩ := hcut
   cases kq with
   | zero => exact absurd HA.out (by simp [spec_l2Put.j0])
   | succ kj10 =>
    have H := HA.out
    clear HA
    simp only [spec_l2Put.j0] at H
    by_cases c18 : x19_10 = true
    ·subst c18
     have H1 : (if 0 < (l1.length : Int) then (if 1 < (l1.length : Int) then (if 2 < (l1.length : Int) then (some (a0, rd l1 0, rd l1 1, rd l1 2, 0)) else (none)) else (none)) else (none)) = some (r1, r2, r3, r4, r5) := by rw [if_pos rfl] at H; exact H
     clear H
     have H := H1
     clear H1
     by_cases c19 : 0 < (l1.length : Int)
     ·rw [if_pos c19] at H
      have c19b0 : decide (0 < (l1.length : Int)) = true := decide_eq_true c19
      have c19b1 : decide (0 < l1.length) = true := decide_eq_true (by omega)
      clear c19
      by_cases c20 : 1 < (l1.length : Int)
      ·rw [if_pos c20] at H
       have c20b0 : decide (1 < (l1.length : Int)) = true := decide_eq_true c20
       have c20b1 : decide (1 < l1.length) = true := decide_eq_true (by omega)
       clear c20
       by_cases c21 : 2 < (l1.length : Int)
       ·rw [if_pos c21] at H
        have c21b0 : decide (2 < (l1.length : Int)) = true := decide_eq_true c21
        have c21b1 : decide (2 < l1.length) = true := decide_eq_true (by omega)
        clear c21
        simp only [Option.some.injEq, Prod.mk.injEq] at H
        obtain ⟨rfl, rfl, rfl, rfl, rfl⟩ := H
        have p463 : 0 ≤ (0 : Int) := (by omega)
        have q463 : 0 < (l1.length : Int) := of_decide_eq_true (by first | (with_reducible assumption) | assumption)
        obtain ⟨ad463, e463, hx463_0⟩ := Kd.at_int HR1.out 0 p463 q463
        cases e463
        have qi463 : (0 < l1.length) = True := eq_true (by omega)
        (try rw [show ((0 : Int)).toNat = 0 from rfl] at hx463_0)
        (try rw [Addr.add_zero'] at hx463_0)
        replace hx463_0 := cB_ HB.out hx463_0
        replace p463 := eq_true p463
        replace q463 := eq_true q463
        have hnb22 := NB460_459.out
        have hnc22 := NB459_460.out
        obtain ⟨hcz23_0, hcz23_1, hcz23_2, hcz23_3, hcz23_4, hfz23_0, hfz23_1, hfz23_2, hfz23_3, hfz23_4⟩ := bR5_ BK460.out
        have p464 : 0 ≤ (1 : Int) := (by omega)
        have q464 : 1 < (l1.length : Int) := of_decide_eq_true (by first | (with_reducible assumption) | assumption)
        obtain ⟨ad464, e464, hx464_0⟩ := Kd.at_int HR1.out 1 p464 q464
        obtain rfl : ad463 = ad464 := (by injection e464)
        (try simp only [show (1 : Int).toNat = 1 from rfl, Nat.reduceMul, Nat.reduceEqDiff, Go.Addr.add, ↓reduceIte] at hx464_0)
        have qi464 : (1 < l1.length) = True := eq_true (by omega)
        (try rw [show ((1 : Int)).toNat = 1 from rfl] at hx464_0)
        have hn464_0 : ad463.block ≠ gb460 := nE_ hx464_0 GW460.out
        replace hx464_0 := cB_ HB.out hx464_0
        replace hx464_0 := cF_ ⟨gb460, 1, none⟩ hn464_0 (.int .i64 (rd l1 0)) hx464_0
        clear hn464_0
        replace p464 := eq_true p464
        replace q464 := eq_true q464
        have p465 : 0 ≤ (2 : Int) := (by omega)
        have q465 : 2 < (l1.length : Int) := of_decide_eq_true (by first | (with_reducible assumption) | assumption)
        obtain ⟨ad465, e465, hx465_0⟩ := Kd.at_int HR1.out 2 p465 q465
        obtain rfl : ad463 = ad465 := (by injection e465)
        (try simp only [show (2 : Int).toNat = 2 from rfl, Nat.reduceMul, Nat.reduceEqDiff, Go.Addr.add, ↓reduceIte] at hx465_0)
        have qi465 : (2 < l1.length) = True := eq_true (by omega)
        (try rw [show ((2 : Int)).toNat = 2 from rfl] at hx465_0)
        have hn465_0 : ad463.block ≠ gb460 := nE_ hx465_0 GW460.out
        have hn465_1 : ad463.block ≠ gb460 := nE_ hx465_0 GW460.out
        replace hx465_0 := cB_ HB.out hx465_0
        replace hx465_0 := cF_ ⟨gb460, 1, none⟩ hn465_0 (.int .i64 (rd l1 0)) hx465_0
        replace hx465_0 := cF_ ⟨gb460, 2, none⟩ hn465_1 (.int .i64 (rd l1 1)) hx465_0
        clear hn465_0
        clear hn465_1
        replace p465 := eq_true p465
        replace q465 := eq_true q465
        obtain ⟨hcz24_0, hcz24_1, hcz24_2, hcz24_3, hcz24_4, hfz24_0, hfz24_1, hfz24_2, hfz24_3, hfz24_4⟩ := bR5_ BK459.out
        go_wp2
        refine bodyPost_ret (results_cell_row rfl _ _ gb459 32 #[.int .i64 a0, .int .i64 (rd l1 0), .int .i64 (rd l1 1), .int .i64 (rd l1 2), .int .i64 0] (0, 0) _ rfl (by (with_reducible repeat (first | refine bN_ ?_ _ | refine bD_ ?_ | refine bA_ ?_ _)); refine blk_put (cs := #[.int .i64 a0, .int .i64 (rd l1 0), .int .i64 (rd l1 1), .int .i64 (rd l1 2), .int .i64 0]) ?_ 4 _ rfl; (with_reducible repeat (first | refine bN_ ?_ _ | refine bD_ ?_ | refine bA_ ?_ _)); refine blk_put (cs := #[.int .i64 a0, .int .i64 (rd l1 0), .int .i64 (rd l1 1), .int .i64 0, .int .i64 0]) ?_ 3 _ rfl; (with_reducible repeat (first | refine bN_ ?_ _ | refine bD_ ?_ | refine bA_ ?_ _)); refine blk_put (cs := #[.int .i64 a0, .int .i64 (rd l1 0), .int .i64 0, .int .i64 0, .int .i64 0]) ?_ 2 _ rfl; (with_reducible repeat (first | refine bN_ ?_ _ | refine bD_ ?_ | refine bA_ ?_ _)); refine blk_put (cs := #[.int .i64 a0, .int .i64 0, .int .i64 0, .int .i64 0, .int .i64 0]) ?_ 1 _ rfl; (with_reducible repeat (first | refine bN_ ?_ _ | refine bD_ ?_ | refine bA_ ?_ _)); refine blk_put (cs := #[.int .i64 0, .int .i64 0, .int .i64 0, .int .i64 0, .int .i64 0]) ?_ 0 _ rfl; (with_reducible repeat (first | refine bN_ ?_ _ | refine bD_ ?_ | refine bA_ ?_ _)); refine blk_far ?_ NB459_460.out _; (with_reducible repeat (first | refine bN_ ?_ _ | refine bD_ ?_ | refine bA_ ?_ _)); refine blk_far ?_ NB459_460.out _; (with_reducible repeat (first | refine bN_ ?_ _ | refine bD_ ?_ | refine bA_ ?_ _)); refine blk_far ?_ NB459_460.out _; (with_reducible repeat (first | refine bN_ ?_ _ | refine bD_ ?_ | refine bA_ ?_ _)); exact BK459.out) Tryd.underlying32 rfl (by kernel_rfl)) rfl ?_
        exact fI_ HB.out
       ·rw [if_neg c21] at H
        exact absurd H (by simp)
      ·rw [if_neg c20] at H
       exact absurd H (by simp)
     ·rw [if_neg c19] at H
      exact absurd H (by simp)
    ·replace c18 := Bool.eq_false_iff.mpr c18
     subst c18
     have H1 : (if a0 = 5 then (if 0 < (l1.length : Int) then (if 1 < (l1.length : Int) then (some (a0, 0, rd l1 1, 0, rd l1 0)) else (none)) else (none)) else (if a0 = 6 then (spec_l2Put.j1 kj10 l1 a0 (a0 == 6) a0 0 0 0 0) else (spec_l2Put.j1 kj10 l1 a0 (a0 == 8) a0 0 0 0 0))) = some (r1, r2, r3, r4, r5) := by rw [if_neg (show ¬ (false = true) by decide)] at H; exact H
     clear H
     have H := H1
     clear H1
     by_cases c25 : a0 = 5
     ·rw [if_pos c25] at H
      have c25b0 : (a0 == 5) = true := beq_iff_eq.mpr c25
      have c25b1 : (a0 != 5) = false := bne_eq_false_iff_eq.mpr c25
      clear c25
      by_cases c26 : 0 < (l1.length : Int)
      ·rw [if_pos c26] at H
       have c26b0 : decide (0 < (l1.length : Int)) = true := decide_eq_true c26
       have c26b1 : decide (0 < l1.length) = true := decide_eq_true (by omega)
       clear c26
       by_cases c27 : 1 < (l1.length : Int)
       ·rw [if_pos c27] at H
        have c27b0 : decide (1 < (l1.length : Int)) = true := decide_eq_true c27
        have c27b1 : decide (1 < l1.length) = true := decide_eq_true (by omega)
        clear c27
        simp only [Option.some.injEq, Prod.mk.injEq] at H
        obtain ⟨rfl, rfl, rfl, rfl, rfl⟩ := H
        have p466 : 0 ≤ (0 : Int) := (by omega)
        have q466 : 0 < (l1.length : Int) := of_decide_eq_true (by first | (with_reducible assumption) | assumption)
        obtain ⟨ad466, e466, hx466_0⟩ := Kd.at_int HR1.out 0 p466 q466
        cases e466
        have qi466 : (0 < l1.length) = True := eq_true (by omega)
        (try rw [show ((0 : Int)).toNat = 0 from rfl] at hx466_0)
        (try rw [Addr.add_zero'] at hx466_0)
        replace hx466_0 := cB_ HB.out hx466_0
        replace p466 := eq_true p466
        replace q466 := eq_true q466
        have hnb28 := NB460_459.out
        have hnc28 := NB459_460.out
        obtain ⟨hcz29_0, hcz29_1, hcz29_2, hcz29_3, hcz29_4, hfz29_0, hfz29_1, hfz29_2, hfz29_3, hfz29_4⟩ := bR5_ BK460.out
        have p467 : 0 ≤ (1 : Int) := (by omega)
        have q467 : 1 < (l1.length : Int) := of_decide_eq_true (by first | (with_reducible assumption) | assumption)
        obtain ⟨ad467, e467, hx467_0⟩ := Kd.at_int HR1.out 1 p467 q467
        obtain rfl : ad466 = ad467 := (by injection e467)
        (try simp only [show (1 : Int).toNat = 1 from rfl, Nat.reduceMul, Nat.reduceEqDiff, Go.Addr.add, ↓reduceIte] at hx467_0)
        have qi467 : (1 < l1.length) = True := eq_true (by omega)
        (try rw [show ((1 : Int)).toNat = 1 from rfl] at hx467_0)
        have hn467_0 : ad466.block ≠ gb460 := nE_ hx467_0 GW460.out
        replace hx467_0 := cB_ HB.out hx467_0
        replace hx467_0 := cF_ ⟨gb460, 4, none⟩ hn467_0 (.int .i64 (rd l1 0)) hx467_0
        clear hn467_0
        replace p467 := eq_true p467
        replace q467 := eq_true q467
        obtain ⟨hcz30_0, hcz30_1, hcz30_2, hcz30_3, hcz30_4, hfz30_0, hfz30_1, hfz30_2, hfz30_3, hfz30_4⟩ := bR5_ BK459.out
        go_wp2
        refine bodyPost_ret (results_cell_row rfl _ _ gb459 32 #[.int .i64 a0, .int .i64 0, .int .i64 (rd l1 1), .int .i64 0, .int .i64 (rd l1 0)] (0, 0) _ rfl (by (with_reducible repeat (first | refine bN_ ?_ _ | refine bD_ ?_ | refine bA_ ?_ _)); refine blk_put (cs := #[.int .i64 a0, .int .i64 0, .int .i64 (rd l1 1), .int .i64 0, .int .i64 0]) ?_ 4 _ rfl; (with_reducible repeat (first | refine bN_ ?_ _ | refine bD_ ?_ | refine bA_ ?_ _)); refine blk_put (cs := #[.int .i64 a0, .int .i64 0, .int .i64 (rd l1 1), .int .i64 0, .int .i64 0]) ?_ 3 _ rfl; (with_reducible repeat (first | refine bN_ ?_ _ | refine bD_ ?_ | refine bA_ ?_ _)); refine blk_put (cs := #[.int .i64 a0, .int .i64 0, .int .i64 0, .int .i64 0, .int .i64 0]) ?_ 2 _ rfl; (with_reducible repeat (first | refine bN_ ?_ _ | refine bD_ ?_ | refine bA_ ?_ _)); refine blk_put (cs := #[.int .i64 a0, .int .i64 0, .int .i64 0, .int .i64 0, .int .i64 0]) ?_ 1 _ rfl; (with_reducible repeat (first | refine bN_ ?_ _ | refine bD_ ?_ | refine bA_ ?_ _)); refine blk_put (cs := #[.int .i64 0, .int .i64 0, .int .i64 0, .int .i64 0, .int .i64 0]) ?_ 0 _ rfl; (with_reducible repeat (first | refine bN_ ?_ _ | refine bD_ ?_ | refine bA_ ?_ _)); refine blk_far ?_ NB459_460.out _; (with_reducible repeat (first | refine bN_ ?_ _ | refine bD_ ?_ | refine bA_ ?_ _)); refine blk_far ?_ NB459_460.out _; (with_reducible repeat (first | refine bN_ ?_ _ | refine bD_ ?_ | refine bA_ ?_ _)); exact BK459.out) Tryd.underlying32 rfl (by kernel_rfl)) rfl ?_
        exact fI_ HB.out
       ·rw [if_neg c27] at H
        exact absurd H (by simp)
      ·rw [if_neg c26] at H
       exact absurd H (by simp)
     ·rw [if_neg c25] at H
      have c25b0 : (a0 == 5) = false := beq_eq_false_iff_ne.mpr c25
      have c25b1 : (a0 != 5) = true := bne_iff_ne.mpr c25
      have HC31 := aM_ H
      clear H
      go_upto_if 45 with (fail)
      go_cut [45] (fun v45 wc => ∃ (kq : Nat) (x45_30 : Bool), v45 = .bool x45_30 ∧ Aside0 (spec_l2Put.j1 kq l1 a0 x45_30 a0 0 0 0 0 = some (r1, r2, r3, r4, r5)) ∧ Aside0 (kq ≤ kj10) ∧ Aside0 (wc.heap[gb459]? = some (.cells #[.int .i64 0, .int .i64 0, .int .i64 0, .int .i64 0, .int .i64 0] 32 (0, 0))) ∧ Aside0 (wc.heap[gb460]? = some (.cells #[.int .i64 a0, .int .i64 0, .int .i64 0, .int .i64 0, .int .i64 0] 32 (0, 0))) ∧ Aside0 (Below w.heap.size w wc))
      case first =>
       have H := HC31.out
       clear HC31
       by_cases c32 : a0 = 6
       ·rw [if_pos c32] at H
        have c32b0 : (a0 == 6) = true := beq_iff_eq.mpr c32
        have c32b1 : (a0 != 6) = false := bne_eq_false_iff_eq.mpr c32
        clear c32
        (first | rw [c32b0] | (simp only [i64_w, i32_w]; rw [c32b0]) | skip)
        have H' := aM_ H
        clear H
        go_wp2
        go_meet
        case rel => exact ⟨_, ((a0 == 6)), (by first | rfl | (simp; done) | (simp [*]; done)), H', ⟨by have := HJ10.out; first | omega | exact Nat.le_refl _⟩, ⟨rW_ BK459.out⟩, ⟨rW_ BK460.out⟩, ⟨gW_ HB.out⟩⟩
       ·rw [if_neg c32] at H
        have c32b0 : (a0 == 6) = false := beq_eq_false_iff_ne.mpr c32
        have c32b1 : (a0 != 6) = true := bne_iff_ne.mpr c32
        (first | rw [c32b0] | (simp only [i64_w, i32_w]; rw [c32b0]) | skip)
        have H' := aM_ H
        clear H
        go_wp2
        go_meet
        case rel => exact ⟨_, ((a0 == 8)), (by first | rfl | (simp; done) | (simp [*]; done)), H', ⟨by have := HJ10.out; first | omega | exact Nat.le_refl _⟩, ⟨rW_ BK459.out⟩, ⟨rW_ BK460.out⟩, ⟨gW_ HB.out⟩⟩
      case rest =>
       clear HC31
       try clear c1
       try clear c2
       try clear p2
       try clear c3
       try clear c3b0
       try clear c3b1
       try clear c4
       try clear c4b0
       try clear c4b1
       try clear p4
       try clear q4
       try clear hx4
       try clear qi4
       try clear c5
       try clear c5b0
       try clear c5b1
       try clear c8
       try clear c10
       try clear c14
       try clear c16
       try clear c16b0
       try clear c16b1
       try clear c17
       try clear c17b0
       try clear c17b1
       try clear c18
       try clear c19
       try clear c19b0
       try clear c19b1
       try clear c20
       try clear c20b0
       try clear c20b1
       try clear c21
       try clear c21b0
       try clear c21b1
       try clear c22
       try clear c25
       try clear c25b0
       try clear c25b1
       try clear c26
       try clear c26b0
       try clear c26b1
       try clear c27
       try clear c27b0
       try clear c27b1
       try clear c28
       try clear c32
       try clear c32b0
       try clear c32b1
       try clear hcz10_0
       try clear hcz10_1
       try clear hcz10_2
       try clear hcz10_3
       try clear hcz10_4
       try clear hcz15_0
       try clear hcz15_1
       try clear hcz15_2
       try clear hcz15_3
       try clear hcz15_4
       try clear hcz23_0
       try clear hcz23_1
       try clear hcz23_2
       try clear hcz23_3
       try clear hcz23_4
       try clear hcz24_0
       try clear hcz24_1
       try clear hcz24_2
       try clear hcz24_3
       try clear hcz24_4
       try clear hcz29_0
       try clear hcz29_1
       try clear hcz29_2
       try clear hcz29_3
       try clear hcz29_4
       try clear hcz30_0
       try clear hcz30_1
       try clear hcz30_2
       try clear hcz30_3
       try clear hcz30_4
       try clear hcz9_0
       try clear hcz9_1
       try clear hcz9_2
       try clear hcz9_3
       try clear hcz9_4
       try clear hfz10_0
       try clear hfz10_1
       try clear hfz10_2
       try clear hfz10_3
       try clear hfz10_4
       try clear hfz15_0
       try clear hfz15_1
       try clear hfz15_2
       try clear hfz15_3
       try clear hfz15_4
       try clear hfz23_0
       try clear hfz23_1
       try clear hfz23_2
       try clear hfz23_3
       try clear hfz23_4
       try clear hfz24_0
       try clear hfz24_1
       try clear hfz24_2
       try clear hfz24_3
       try clear hfz24_4
       try clear hfz29_0
       try clear hfz29_1
       try clear hfz29_2
       try clear hfz29_3
       try clear hfz29_4
       try clear hfz30_0
       try clear hfz30_1
       try clear hfz30_2
       try clear hfz30_3
       try clear hfz30_4
       try clear hfz9_0
       try clear hfz9_1
       try clear hfz9_2
       try clear hfz9_3
       try clear hfz9_4
       try clear hx461_0
       try clear hx462_0
       try clear hx463_0
       try clear hx464_0
       try clear hx465_0
       try clear hx466_0
       try clear hx467_0
       try clear p2
       try clear p4
       try clear p461
       try clear p462
       try clear p463
       try clear p464
       try clear p465
       try clear p466
       try clear p467
       try clear q4
       try clear q461
       try clear q462
       try clear q463
       try clear q464
       try clear q465
       try clear q466
       try clear q467
       obtain ⟨kq, x45_30, rfl, HA, HJ30, BK459, BK460, HB⟩ := hcut
       cases kq with
       | zero => exact absurd HA.out (by simp [spec_l2Put.j1])
       | succ kj30 =>
        have H := HA.out
        clear HA
        simp only [spec_l2Put.j1] at H
        by_cases c33 : x45_30 = true
        ·subst c33
         have H1 : (if 0 < (l1.length : Int) then (if 1 < (l1.length : Int) then (if 2 < (l1.length : Int) then (some (a0, rd l1 0, 0, rd l1 1, rd l1 2)) else (none)) else (none)) else (none)) = some (r1, r2, r3, r4, r5) := by rw [if_pos rfl] at H; exact H
         clear H
         have H := H1
         clear H1
         by_cases c34 : 0 < (l1.length : Int)
         ·rw [if_pos c34] at H
          have c34b0 : decide (0 < (l1.length : Int)) = true := decide_eq_true c34
          have c34b1 : decide (0 < l1.length) = true := decide_eq_true (by omega)
          clear c34
          by_cases c35 : 1 < (l1.length : Int)
          ·rw [if_pos c35] at H
           have c35b0 : decide (1 < (l1.length : Int)) = true := decide_eq_true c35
           have c35b1 : decide (1 < l1.length) = true := decide_eq_true (by omega)
           clear c35
           by_cases c36 : 2 < (l1.length : Int)
           ·rw [if_pos c36] at H
            have c36b0 : decide (2 < (l1.length : Int)) = true := decide_eq_true c36
            have c36b1 : decide (2 < l1.length) = true := decide_eq_true (by omega)
            clear c36
            simp only [Option.some.injEq, Prod.mk.injEq] at H
            obtain ⟨rfl, rfl, rfl, rfl, rfl⟩ := H
            have p468 : 0 ≤ (0 : Int) := (by omega)
            have q468 : 0 < (l1.length : Int) := of_decide_eq_true (by first | (with_reducible assumption) | assumption)
            obtain ⟨ad468, e468, hx468_0⟩ := Kd.at_int HR1.out 0 p468 q468
            cases e468
            have qi468 : (0 < l1.length) = True := eq_true (by omega)
            (try rw [show ((0 : Int)).toNat = 0 from rfl] at hx468_0)
            (try rw [Addr.add_zero'] at hx468_0)
            replace hx468_0 := cB_ HB.out hx468_0
            replace p468 := eq_true p468
            replace q468 := eq_true q468
            have hnb37 := NB460_459.out
            have hnc37 := NB459_460.out
            obtain ⟨hcz38_0, hcz38_1, hcz38_2, hcz38_3, hcz38_4, hfz38_0, hfz38_1, hfz38_2, hfz38_3, hfz38_4⟩ := bR5_ BK460.out
            have p469 : 0 ≤ (1 : Int) := (by omega)
            have q469 : 1 < (l1.length : Int) := of_decide_eq_true (by first | (with_reducible assumption) | assumption)
            obtain ⟨ad469, e469, hx469_0⟩ := Kd.at_int HR1.out 1 p469 q469
            obtain rfl : ad468 = ad469 := (by injection e469)
            (try simp only [show (1 : Int).toNat = 1 from rfl, Nat.reduceMul, Nat.reduceEqDiff, Go.Addr.add, ↓reduceIte] at hx469_0)
            have qi469 : (1 < l1.length) = True := eq_true (by omega)
            (try rw [show ((1 : Int)).toNat = 1 from rfl] at hx469_0)
            have hn469_0 : ad468.block ≠ gb460 := nE_ hx469_0 GW460.out
            replace hx469_0 := cB_ HB.out hx469_0
            replace hx469_0 := cF_ ⟨gb460, 1, none⟩ hn469_0 (.int .i64 (rd l1 0)) hx469_0
            clear hn469_0
            replace p469 := eq_true p469
            replace q469 := eq_true q469
            have p470 : 0 ≤ (2 : Int) := (by omega)
            have q470 : 2 < (l1.length : Int) := of_decide_eq_true (by first | (with_reducible assumption) | assumption)
            obtain ⟨ad470, e470, hx470_0⟩ := Kd.at_int HR1.out 2 p470 q470
            obtain rfl : ad468 = ad470 := (by injection e470)
            (try simp only [show (2 : Int).toNat = 2 from rfl, Nat.reduceMul, Nat.reduceEqDiff, Go.Addr.add, ↓reduceIte] at hx470_0)
            have qi470 : (2 < l1.length) = True := eq_true (by omega)
            (try rw [show ((2 : Int)).toNat = 2 from rfl] at hx470_0)
            have hn470_0 : ad468.block ≠ gb460 := nE_ hx470_0 GW460.out
            have hn470_1 : ad468.block ≠ gb460 := nE_ hx470_0 GW460.out
            replace hx470_0 := cB_ HB.out hx470_0
            replace hx470_0 := cF_ ⟨gb460, 1, none⟩ hn470_0 (.int .i64 (rd l1 0)) hx470_0
            replace hx470_0 := cF_ ⟨gb460, 3, none⟩ hn470_1 (.int .i64 (rd l1 1)) hx470_0
            clear hn470_0
            clear hn470_1
            replace p470 := eq_true p470
            replace q470 := eq_true q470
            obtain ⟨hcz39_0, hcz39_1, hcz39_2, hcz39_3, hcz39_4, hfz39_0, hfz39_1, hfz39_2, hfz39_3, hfz39_4⟩ := bR5_ BK459.out
            go_wp2
            refine bodyPost_ret (results_cell_row rfl _ _ gb459 32 #[.int .i64 a0, .int .i64 (rd l1 0), .int .i64 0, .int .i64 (rd l1 1), .int .i64 (rd l1 2)] (0, 0) _ rfl (by (with_reducible repeat (first | refine bN_ ?_ _ | refine bD_ ?_ | refine bA_ ?_ _)); refine blk_put (cs := #[.int .i64 a0, .int .i64 (rd l1 0), .int .i64 0, .int .i64 (rd l1 1), .int .i64 0]) ?_ 4 _ rfl; (with_reducible repeat (first | refine bN_ ?_ _ | refine bD_ ?_ | refine bA_ ?_ _)); refine blk_put (cs := #[.int .i64 a0, .int .i64 (rd l1 0), .int .i64 0, .int .i64 0, .int .i64 0]) ?_ 3 _ rfl; (with_reducible repeat (first | refine bN_ ?_ _ | refine bD_ ?_ | refine bA_ ?_ _)); refine blk_put (cs := #[.int .i64 a0, .int .i64 (rd l1 0), .int .i64 0, .int .i64 0, .int .i64 0]) ?_ 2 _ rfl; (with_reducible repeat (first | refine bN_ ?_ _ | refine bD_ ?_ | refine bA_ ?_ _)); refine blk_put (cs := #[.int .i64 a0, .int .i64 0, .int .i64 0, .int .i64 0, .int .i64 0]) ?_ 1 _ rfl; (with_reducible repeat (first | refine bN_ ?_ _ | refine bD_ ?_ | refine bA_ ?_ _)); refine blk_put (cs := #[.int .i64 0, .int .i64 0, .int .i64 0, .int .i64 0, .int .i64 0]) ?_ 0 _ rfl; (with_reducible repeat (first | refine bN_ ?_ _ | refine bD_ ?_ | refine bA_ ?_ _)); refine blk_far ?_ NB459_460.out _; (with_reducible repeat (first | refine bN_ ?_ _ | refine bD_ ?_ | refine bA_ ?_ _)); refine blk_far ?_ NB459_460.out _; (with_reducible repeat (first | refine bN_ ?_ _ | refine bD_ ?_ | refine bA_ ?_ _)); refine blk_far ?_ NB459_460.out _; (with_reducible repeat (first | refine bN_ ?_ _ | refine bD_ ?_ | refine bA_ ?_ _)); exact BK459.out) Tryd.underlying32 rfl (by kernel_rfl)) rfl ?_
            exact fI_ HB.out
           ·rw [if_neg c36] at H
            exact absurd H (by simp)
          ·rw [if_neg c35] at H
           exact absurd H (by simp)
         ·rw [if_neg c34] at H
          exact absurd H (by simp)
        ·replace c33 := Bool.eq_false_iff.mpr c33
         subst c33
         have H1 : (if a0 = 7 then (if 0 < (l1.length : Int) then (if 1 < (l1.length : Int) then (if 2 < (l1.length : Int) then (some (a0, rd l1 0, rd l1 2, 0, rd l1 1)) else (none)) else (none)) else (none)) else (if a0 = 9 then (spec_l2Put.j2 kj30 l1 a0 (a0 == 9) a0 0 0 0 0) else (spec_l2Put.j2 kj30 l1 a0 (a0 == 11) a0 0 0 0 0))) = some (r1, r2, r3, r4, r5) := by rw [if_neg (show ¬ (false = true) by decide)] at H; exact H
         clear H
         have H := H1
         clear H1
         by_cases c40 : a0 = 7
         ·rw [if_pos c40] at H
          have c40b0 : (a0 == 7) = true := beq_iff_eq.mpr c40
          have c40b1 : (a0 != 7) = false := bne_eq_false_iff_eq.mpr c40
          clear c40
          by_cases c41 : 0 < (l1.length : Int)
          ·rw [if_pos c41] at H
           have c41b0 : decide (0 < (l1.length : Int)) = true := decide_eq_true c41
           have c41b1 : decide (0 < l1.length) = true := decide_eq_true (by omega)
           clear c41
           by_cases c42 : 1 < (l1.length : Int)
           ·rw [if_pos c42] at H
            have c42b0 : decide (1 < (l1.length : Int)) = true := decide_eq_true c42
            have c42b1 : decide (1 < l1.length) = true := decide_eq_true (by omega)
            clear c42
            by_cases c43 : 2 < (l1.length : Int)
            ·rw [if_pos c43] at H
             have c43b0 : decide (2 < (l1.length : Int)) = true := decide_eq_true c43
             have c43b1 : decide (2 < l1.length) = true := decide_eq_true (by omega)
             clear c43
             simp only [Option.some.injEq, Prod.mk.injEq] at H
             obtain ⟨rfl, rfl, rfl, rfl, rfl⟩ := H
             have p471 : 0 ≤ (0 : Int) := (by omega)
             have q471 : 0 < (l1.length : Int) := of_decide_eq_true (by first | (with_reducible assumption) | assumption)
             obtain ⟨ad471, e471, hx471_0⟩ := Kd.at_int HR1.out 0 p471 q471
             cases e471
             have qi471 : (0 < l1.length) = True := eq_true (by omega)
             (try rw [show ((0 : Int)).toNat = 0 from rfl] at hx471_0)
             (try rw [Addr.add_zero'] at hx471_0)
             replace hx471_0 := cB_ HB.out hx471_0
             replace p471 := eq_true p471
             replace q471 := eq_true q471
             have hnb44 := NB460_459.out
             have hnc44 := NB459_460.out
             obtain ⟨hcz45_0, hcz45_1, hcz45_2, hcz45_3, hcz45_4, hfz45_0, hfz45_1, hfz45_2, hfz45_3, hfz45_4⟩ := bR5_ BK460.out
             have p472 : 0 ≤ (1 : Int) := (by omega)
             have q472 : 1 < (l1.length : Int) := of_decide_eq_true (by first | (with_reducible assumption) | assumption)
             obtain ⟨ad472, e472, hx472_0⟩ := Kd.at_int HR1.out 1 p472 q472
             obtain rfl : ad471 = ad472 := (by injection e472)
             (try simp only [show (1 : Int).toNat = 1 from rfl, Nat.reduceMul, Nat.reduceEqDiff, Go.Addr.add, ↓reduceIte] at hx472_0)
             have qi472 : (1 < l1.length) = True := eq_true (by omega)
             (try rw [show ((1 : Int)).toNat = 1 from rfl] at hx472_0)
             have hn472_0 : ad471.block ≠ gb460 := nE_ hx472_0 GW460.out
             replace hx472_0 := cB_ HB.out hx472_0
             replace hx472_0 := cF_ ⟨gb460, 1, none⟩ hn472_0 (.int .i64 (rd l1 0)) hx472_0
             clear hn472_0
             replace p472 := eq_true p472
             replace q472 := eq_true q472
             have p473 : 0 ≤ (2 : Int) := (by omega)
             have q473 : 2 < (l1.length : Int) := of_decide_eq_true (by first | (with_reducible assumption) | assumption)
             obtain ⟨ad473, e473, hx473_0⟩ := Kd.at_int HR1.out 2 p473 q473
             obtain rfl : ad471 = ad473 := (by injection e473)
             (try simp only [show (2 : Int).toNat = 2 from rfl, Nat.reduceMul, Nat.reduceEqDiff, Go.Addr.add, ↓reduceIte] at hx473_0)
             have qi473 : (2 < l1.length) = True := eq_true (by omega)
             (try rw [show ((2 : Int)).toNat = 2 from rfl] at hx473_0)
             have hn473_0 : ad471.block ≠ gb460 := nE_ hx473_0 GW460.out
             have hn473_1 : ad471.block ≠ gb460 := nE_ hx473_0 GW460.out
             replace hx473_0 := cB_ HB.out hx473_0
             replace hx473_0 := cF_ ⟨gb460, 1, none⟩ hn473_0 (.int .i64 (rd l1 0)) hx473_0
             replace hx473_0 := cF_ ⟨gb460, 4, none⟩ hn473_1 (.int .i64 (rd l1 1)) hx473_0
             clear hn473_0
             clear hn473_1
             replace p473 := eq_true p473
             replace q473 := eq_true q473
             obtain ⟨hcz46_0, hcz46_1, hcz46_2, hcz46_3, hcz46_4, hfz46_0, hfz46_1, hfz46_2, hfz46_3, hfz46_4⟩ := bR5_ BK459.out
             go_wp2
             refine bodyPost_ret (results_cell_row rfl _ _ gb459 32 #[.int .i64 a0, .int .i64 (rd l1 0), .int .i64 (rd l1 2), .int .i64 0, .int .i64 (rd l1 1)] (0, 0) _ rfl (by (with_reducible repeat (first | refine bN_ ?_ _ | refine bD_ ?_ | refine bA_ ?_ _)); refine blk_put (cs := #[.int .i64 a0, .int .i64 (rd l1 0), .int .i64 (rd l1 2), .int .i64 0, .int .i64 0]) ?_ 4 _ rfl; (with_reducible repeat (first | refine bN_ ?_ _ | refine bD_ ?_ | refine bA_ ?_ _)); refine blk_put (cs := #[.int .i64 a0, .int .i64 (rd l1 0), .int .i64 (rd l1 2), .int .i64 0, .int .i64 0]) ?_ 3 _ rfl; (with_reducible repeat (first | refine bN_ ?_ _ | refine bD_ ?_ | refine bA_ ?_ _)); refine blk_put (cs := #[.int .i64 a0, .int .i64 (rd l1 0), .int .i64 0, .int .i64 0, .int .i64 0]) ?_ 2 _ rfl; (with_reducible repeat (first | refine bN_ ?_ _ | refine bD_ ?_ | refine bA_ ?_ _)); refine blk_put (cs := #[.int .i64 a0, .int .i64 0, .int .i64 0, .int .i64 0, .int .i64 0]) ?_ 1 _ rfl; (with_reducible repeat (first | refine bN_ ?_ _ | refine bD_ ?_ | refine bA_ ?_ _)); refine blk_put (cs := #[.int .i64 0, .int .i64 0, .int .i64 0, .int .i64 0, .int .i64 0]) ?_ 0 _ rfl; (with_reducible repeat (first | refine bN_ ?_ _ | refine bD_ ?_ | refine bA_ ?_ _)); refine blk_far ?_ NB459_460.out _; (with_reducible repeat (first | refine bN_ ?_ _ | refine bD_ ?_ | refine bA_ ?_ _)); refine blk_far ?_ NB459_460.out _; (with_reducible repeat (first | refine bN_ ?_ _ | refine bD_ ?_ | refine bA_ ?_ _)); refine blk_far ?_ NB459_460.out _; (with_reducible repeat (first | refine bN_ ?_ _ | refine bD_ ?_ | refine bA_ ?_ _)); exact BK459.out) Tryd.underlying32 rfl (by kernel_rfl)) rfl ?_
             exact fI_ HB.out
            ·rw [if_neg c43] at H
             exact absurd H (by simp)
           ·rw [if_neg c42] at H
            exact absurd H (by simp)
          ·rw [if_neg c41] at H
           exact absurd H (by simp)
         ·rw [if_neg c40] at H
          have c40b0 : (a0 == 7) = false := beq_eq_false_iff_ne.mpr c40
          have c40b1 : (a0 != 7) = true := bne_iff_ne.mpr c40
          have HC47 := aM_ H
          clear H
          go_upto_if 74 with (fail)
          go_cut [74] (fun v74 wc => ∃ (kq : Nat) (x74_46 : Bool), v74 = .bool x74_46 ∧ Aside0 (spec_l2Put.j2 kq l1 a0 x74_46 a0 0 0 0 0 = some (r1, r2, r3, r4, r5)) ∧ Aside0 (kq ≤ kj30) ∧ Aside0 (wc.heap[gb459]? = some (.cells #[.int .i64 0, .int .i64 0, .int .i64 0, .int .i64 0, .int .i64 0] 32 (0, 0))) ∧ Aside0 (wc.heap[gb460]? = some (.cells #[.int .i64 a0, .int .i64 0, .int .i64 0, .int .i64 0, .int .i64 0] 32 (0, 0))) ∧ Aside0 (Below w.heap.size w wc))
          case first =>
           have H := HC47.out
           clear HC47
           by_cases c48 : a0 = 9
           ·rw [if_pos c48] at H
            have c48b0 : (a0 == 9) = true := beq_iff_eq.mpr c48
            have c48b1 : (a0 != 9) = false := bne_eq_false_iff_eq.mpr c48
            clear c48
            (first | rw [c48b0] | (simp only [i64_w, i32_w]; rw [c48b0]) | skip)
            have H' := aM_ H
            clear H
            go_wp2
            go_meet
            case rel => exact ⟨_, ((a0 == 9)), (by first | rfl | (simp; done) | (simp [*]; done)), H', ⟨by have := HJ10.out; have := HJ30.out; first | omega | exact Nat.le_refl _⟩, ⟨rW_ BK459.out⟩, ⟨rW_ BK460.out⟩, ⟨gW_ HB.out⟩⟩
           ·rw [if_neg c48] at H
            have c48b0 : (a0 == 9) = false := beq_eq_false_iff_ne.mpr c48
            have c48b1 : (a0 != 9) = true := bne_iff_ne.mpr c48
            (first | rw [c48b0] | (simp only [i64_w, i32_w]; rw [c48b0]) | skip)
            have H' := aM_ H
            clear H
            go_wp2
            go_meet
            case rel => exact ⟨_, ((a0 == 11)), (by first | rfl | (simp; done) | (simp [*]; done)), H', ⟨by have := HJ10.out; have := HJ30.out; first | omega | exact Nat.le_refl _⟩, ⟨rW_ BK459.out⟩, ⟨rW_ BK460.out⟩, ⟨gW_ HB.out⟩⟩
          case rest =>
           clear HC47
           try clear c1
           try clear c2
           try clear p2
           try clear c3
           try clear c3b0
           try clear c3b1
           try clear c4
           try clear c4b0
           try clear c4b1
           try clear p4
           try clear q4
           try clear hx4
           try clear qi4
           try clear c5
           try clear c5b0
           try clear c5b1
           try clear c8
           try clear c10
           try clear c14
           try clear c16
           try clear c16b0
           try clear c16b1
           try clear c17
           try clear c17b0
           try clear c17b1
           try clear c18
           try clear c19
           try clear c19b0
           try clear c19b1
           try clear c20
           try clear c20b0
           try clear c20b1
           try clear c21
           try clear c21b0
           try clear c21b1
           try clear c22
           try clear c25
           try clear c25b0
           try clear c25b1
           try clear c26
           try clear c26b0
           try clear c26b1
           try clear c27
           try clear c27b0
           try clear c27b1
           try clear c28
           try clear c32
           try clear c32b0
           try clear c32b1
           try clear c33
           try clear c34
           try clear c34b0
           try clear c34b1
           try clear c35
           try clear c35b0
           try clear c35b1
           try clear c36
           try clear c36b0
           try clear c36b1
           try clear c37
           try clear c40
           try clear c40b0
           try clear c40b1
           try clear c41
           try clear c41b0
           try clear c41b1
           try clear c42
           try clear c42b0
           try clear c42b1
           try clear c43
           try clear c43b0
           try clear c43b1
           try clear c44
           try clear p46
           try clear q46
           try clear hx46
           try clear qi46
           try clear p47
           try clear q47
           try clear hx47
           try clear qi47
           try clear c48
           try clear c48b0
           try clear c48b1
           try clear hcz10_0
           try clear hcz10_1
           try clear hcz10_2
           try clear hcz10_3
           try clear hcz10_4
           try clear hcz15_0
           try clear hcz15_1
           try clear hcz15_2
           try clear hcz15_3
           try clear hcz15_4
           try clear hcz23_0
           try clear hcz23_1
           try clear hcz23_2
           try clear hcz23_3
           try clear hcz23_4
           try clear hcz24_0
           try clear hcz24_1
           try clear hcz24_2
           try clear hcz24_3
           try clear hcz24_4
           try clear hcz29_0
           try clear hcz29_1
           try clear hcz29_2
           try clear hcz29_3
           try clear hcz29_4
           try clear hcz30_0
           try clear hcz30_1
           try clear hcz30_2
           try clear hcz30_3
           try clear hcz30_4
           try clear hcz38_0
           try clear hcz38_1
           try clear hcz38_2
           try clear hcz38_3
           try clear hcz38_4
           try clear hcz39_0
           try clear hcz39_1
           try clear hcz39_2
           try clear hcz39_3
           try clear hcz39_4
           try clear hcz45_0
           try clear hcz45_1
           try clear hcz45_2
           try clear hcz45_3
           try clear hcz45_4
           try clear hcz46_0
           try clear hcz46_1
           try clear hcz46_2
           try clear hcz46_3
           try clear hcz46_4
           try clear hcz9_0
           try clear hcz9_1
           try clear hcz9_2
           try clear hcz9_3
           try clear hcz9_4
           try clear hfz10_0
           try clear hfz10_1
           try clear hfz10_2
           try clear hfz10_3
           try clear hfz10_4
           try clear hfz15_0
           try clear hfz15_1
           try clear hfz15_2
           try clear hfz15_3
           try clear hfz15_4
           try clear hfz23_0
           try clear hfz23_1
           try clear hfz23_2
           try clear hfz23_3
           try clear hfz23_4
           try clear hfz24_0
           try clear hfz24_1
           try clear hfz24_2
           try clear hfz24_3
           try clear hfz24_4
           try clear hfz29_0
           try clear hfz29_1
           try clear hfz29_2
           try clear hfz29_3
           try clear hfz29_4
           try clear hfz30_0
           try clear hfz30_1
           try clear hfz30_2
           try clear hfz30_3
           try clear hfz30_4
           try clear hfz38_0
           try clear hfz38_1
           try clear hfz38_2
           try clear hfz38_3
           try clear hfz38_4
           try clear hfz39_0
           try clear hfz39_1
           try clear hfz39_2
           try clear hfz39_3
           try clear hfz39_4
           try clear hfz45_0
           try clear hfz45_1
           try clear hfz45_2
           try clear hfz45_3
           try clear hfz45_4
           try clear hfz46_0
           try clear hfz46_1
           try clear hfz46_2
           try clear hfz46_3
           try clear hfz46_4
           try clear hfz9_0
           try clear hfz9_1
           try clear hfz9_2
           try clear hfz9_3
           try clear hfz9_4
           try clear hx461_0
           try clear hx462_0
           try clear hx463_0
           try clear hx464_0
           try clear hx465_0
           try clear hx466_0
           try clear hx467_0
           try clear hx468_0
           try clear hx469_0
           try clear hx470_0
           try clear hx471_0
           try clear hx472_0
           try clear hx473_0
           try clear p2
           try clear p4
           try clear p461
           try clear p462
           try clear p463
           try clear p464
           try clear p465
           try clear p466
           try clear p467
           try clear p468
           try clear p469
           try clear p470
           try clear p471
           try clear p472
           try clear p473
           try clear q4
           try clear q461
           try clear q462
           try clear q463
           try clear q464
           try clear q465
           try clear q466
           try clear q467
           try clear q468
           try clear q469
           try clear q470
           try clear q471
           try clear q472
           try clear q473
           obtain ⟨kq, x74_46, rfl, HA, HJ46, BK459, BK460, HB⟩ := hcut
           cases kq with
           | zero => exact absurd HA.out (by simp [spec_l2Put.j2])
           | succ kj46 =>
            have H := HA.out
            clear HA
            simp only [spec_l2Put.j2] at H
            by_cases c49 : x74_46 = true
            ·subst c49
             have H1 : (if 0 < (l1.length : Int) then (some (a0, 0, 0, 0, rd l1 0)) else (none)) = some (r1, r2, r3, r4, r5) := by rw [if_pos rfl] at H; exact H
             clear H
             have H := H1
             clear H1
             by_cases c50 : 0 < (l1.length : Int)
             ·rw [if_pos c50] at H
              have c50b0 : decide (0 < (l1.length : Int)) = true := decide_eq_true c50
              have c50b1 : decide (0 < l1.length) = true := decide_eq_true (by omega)
              clear c50
              simp only [Option.some.injEq, Prod.mk.injEq] at H
              obtain ⟨rfl, rfl, rfl, rfl, rfl⟩ := H
              have p474 : 0 ≤ (0 : Int) := (by omega)
              have q474 : 0 < (l1.length : Int) := of_decide_eq_true (by first | (with_reducible assumption) | assumption)
              obtain ⟨ad474, e474, hx474_0⟩ := Kd.at_int HR1.out 0 p474 q474
              cases e474
              have qi474 : (0 < l1.length) = True := eq_true (by omega)
              (try rw [show ((0 : Int)).toNat = 0 from rfl] at hx474_0)
              (try rw [Addr.add_zero'] at hx474_0)
              replace hx474_0 := cB_ HB.out hx474_0
              replace p474 := eq_true p474
              replace q474 := eq_true q474
              have hnb51 := NB460_459.out
              have hnc51 := NB459_460.out
              obtain ⟨hcz52_0, hcz52_1, hcz52_2, hcz52_3, hcz52_4, hfz52_0, hfz52_1, hfz52_2, hfz52_3, hfz52_4⟩ := bR5_ BK460.out
              obtain ⟨hcz53_0, hcz53_1, hcz53_2, hcz53_3, hcz53_4, hfz53_0, hfz53_1, hfz53_2, hfz53_3, hfz53_4⟩ := bR5_ BK459.out
              go_wp2
              refine bodyPost_ret (results_cell_row rfl _ _ gb459 32 #[.int .i64 a0, .int .i64 0, .int .i64 0, .int .i64 0, .int .i64 (rd l1 0)] (0, 0) _ rfl (by (with_reducible repeat (first | refine bN_ ?_ _ | refine bD_ ?_ | refine bA_ ?_ _)); refine blk_put (cs := #[.int .i64 a0, .int .i64 0, .int .i64 0, .int .i64 0, .int .i64 0]) ?_ 4 _ rfl; (with_reducible repeat (first | refine bN_ ?_ _ | refine bD_ ?_ | refine bA_ ?_ _)); refine blk_put (cs := #[.int .i64 a0, .int .i64 0, .int .i64 0, .int .i64 0, .int .i64 0]) ?_ 3 _ rfl; (with_reducible repeat (first | refine bN_ ?_ _ | refine bD_ ?_ | refine bA_ ?_ _)); refine blk_put (cs := #[.int .i64 a0, .int .i64 0, .int .i64 0, .int .i64 0, .int .i64 0]) ?_ 2 _ rfl; (with_reducible repeat (first | refine bN_ ?_ _ | refine bD_ ?_ | refine bA_ ?_ _)); refine blk_put (cs := #[.int .i64 a0, .int .i64 0, .int .i64 0, .int .i64 0, .int .i64 0]) ?_ 1 _ rfl; (with_reducible repeat (first | refine bN_ ?_ _ | refine bD_ ?_ | refine bA_ ?_ _)); refine blk_put (cs := #[.int .i64 0, .int .i64 0, .int .i64 0, .int .i64 0, .int .i64 0]) ?_ 0 _ rfl; (with_reducible repeat (first | refine bN_ ?_ _ | refine bD_ ?_ | refine bA_ ?_ _)); refine blk_far ?_ NB459_460.out _; (with_reducible repeat (first | refine bN_ ?_ _ | refine bD_ ?_ | refine bA_ ?_ _)); exact BK459.out) Tryd.underlying32 rfl (by kernel_rfl)) rfl ?_
              exact fI_ HB.out
             ·rw [if_neg c50] at H
              exact absurd H (by simp)
            ·replace c49 := Bool.eq_false_iff.mpr c49
             subst c49
             have H1 : (if a0 = 10 then (if 0 < (l1.length : Int) then (some (a0, 0, rd l1 0, 0, 0)) else (none)) else (if a0 = 12 then (if 0 < (l1.length : Int) then (if 1 < (l1.length : Int) then (some (a0, 0, rd l1 0, 0, rd l1 1)) else (none)) else (none)) else (some (a0, 0, 0, 0, 0)))) = some (r1, r2, r3, r4, r5) := by rw [if_neg (show ¬ (false = true) by decide)] at H; exact H
             clear H
             have H := H1
             clear H1
             by_cases c54 : a0 = 10
             ·rw [if_pos c54] at H
              have c54b0 : (a0 == 10) = true := beq_iff_eq.mpr c54
              have c54b1 : (a0 != 10) = false := bne_eq_false_iff_eq.mpr c54
              clear c54
              by_cases c55 : 0 < (l1.length : Int)
              ·rw [if_pos c55] at H
               have c55b0 : decide (0 < (l1.length : Int)) = true := decide_eq_true c55
               have c55b1 : decide (0 < l1.length) = true := decide_eq_true (by omega)
               clear c55
               simp only [Option.some.injEq, Prod.mk.injEq] at H
               obtain ⟨rfl, rfl, rfl, rfl, rfl⟩ := H
               have p475 : 0 ≤ (0 : Int) := (by omega)
               have q475 : 0 < (l1.length : Int) := of_decide_eq_true (by first | (with_reducible assumption) | assumption)
               obtain ⟨ad475, e475, hx475_0⟩ := Kd.at_int HR1.out 0 p475 q475
               cases e475
               have qi475 : (0 < l1.length) = True := eq_true (by omega)
               (try rw [show ((0 : Int)).toNat = 0 from rfl] at hx475_0)
               (try rw [Addr.add_zero'] at hx475_0)
               replace hx475_0 := cB_ HB.out hx475_0
               replace p475 := eq_true p475
               replace q475 := eq_true q475
               have hnb56 := NB460_459.out
               have hnc56 := NB459_460.out
               obtain ⟨hcz57_0, hcz57_1, hcz57_2, hcz57_3, hcz57_4, hfz57_0, hfz57_1, hfz57_2, hfz57_3, hfz57_4⟩ := bR5_ BK460.out
               obtain ⟨hcz58_0, hcz58_1, hcz58_2, hcz58_3, hcz58_4, hfz58_0, hfz58_1, hfz58_2, hfz58_3, hfz58_4⟩ := bR5_ BK459.out
               go_wp2
               refine bodyPost_ret (results_cell_row rfl _ _ gb459 32 #[.int .i64 a0, .int .i64 0, .int .i64 (rd l1 0), .int .i64 0, .int .i64 0] (0, 0) _ rfl (by (with_reducible repeat (first | refine bN_ ?_ _ | refine bD_ ?_ | refine bA_ ?_ _)); refine blk_put (cs := #[.int .i64 a0, .int .i64 0, .int .i64 (rd l1 0), .int .i64 0, .int .i64 0]) ?_ 4 _ rfl; (with_reducible repeat (first | refine bN_ ?_ _ | refine bD_ ?_ | refine bA_ ?_ _)); refine blk_put (cs := #[.int .i64 a0, .int .i64 0, .int .i64 (rd l1 0), .int .i64 0, .int .i64 0]) ?_ 3 _ rfl; (with_reducible repeat (first | refine bN_ ?_ _ | refine bD_ ?_ | refine bA_ ?_ _)); refine blk_put (cs := #[.int .i64 a0, .int .i64 0, .int .i64 0, .int .i64 0, .int .i64 0]) ?_ 2 _ rfl; (with_reducible repeat (first | refine bN_ ?_ _ | refine bD_ ?_ | refine bA_ ?_ _)); refine blk_put (cs := #[.int .i64 a0, .int .i64 0, .int .i64 0, .int .i64 0, .int .i64 0]) ?_ 1 _ rfl; (with_reducible repeat (first | refine bN_ ?_ _ | refine bD_ ?_ | refine bA_ ?_ _)); refine blk_put (cs := #[.int .i64 0, .int .i64 0, .int .i64 0, .int .i64 0, .int .i64 0]) ?_ 0 _ rfl; (with_reducible repeat (first | refine bN_ ?_ _ | refine bD_ ?_ | refine bA_ ?_ _)); refine blk_far ?_ NB459_460.out _; (with_reducible repeat (first | refine bN_ ?_ _ | refine bD_ ?_ | refine bA_ ?_ _)); exact BK459.out) Tryd.underlying32 rfl (by kernel_rfl)) rfl ?_
               exact fI_ HB.out
              ·rw [if_neg c55] at H
               exact absurd H (by simp)
             ·rw [if_neg c54] at H
              have c54b0 : (a0 == 10) = false := beq_eq_false_iff_ne.mpr c54
              have c54b1 : (a0 != 10) = true := bne_iff_ne.mpr c54
              by_cases c59 : a0 = 12
              ·rw [if_pos c59] at H
               have c59b0 : (a0 == 12) = true := beq_iff_eq.mpr c59
               have c59b1 : (a0 != 12) = false := bne_eq_false_iff_eq.mpr c59
               clear c59
               by_cases c60 : 0 < (l1.length : Int)
               ·rw [if_pos c60] at H
                have c60b0 : decide (0 < (l1.length : Int)) = true := decide_eq_true c60
                have c60b1 : decide (0 < l1.length) = true := decide_eq_true (by omega)
                clear c60
                by_cases c61 : 1 < (l1.length : Int)
                ·rw [if_pos c61] at H
                 have c61b0 : decide (1 < (l1.length : Int)) = true := decide_eq_true c61
                 have c61b1 : decide (1 < l1.length) = true := decide_eq_true (by omega)
                 clear c61
                 simp only [Option.some.injEq, Prod.mk.injEq] at H
                 obtain ⟨rfl, rfl, rfl, rfl, rfl⟩ := H
                 have p476 : 0 ≤ (0 : Int) := (by omega)
                 have q476 : 0 < (l1.length : Int) := of_decide_eq_true (by first | (with_reducible assumption) | assumption)
                 obtain ⟨ad476, e476, hx476_0⟩ := Kd.at_int HR1.out 0 p476 q476
                 cases e476
                 have qi476 : (0 < l1.length) = True := eq_true (by omega)
                 (try rw [show ((0 : Int)).toNat = 0 from rfl] at hx476_0)
                 (try rw [Addr.add_zero'] at hx476_0)
                 replace hx476_0 := cB_ HB.out hx476_0
                 replace p476 := eq_true p476
                 replace q476 := eq_true q476
                 have hnb62 := NB460_459.out
                 have hnc62 := NB459_460.out
                 obtain ⟨hcz63_0, hcz63_1, hcz63_2, hcz63_3, hcz63_4, hfz63_0, hfz63_1, hfz63_2, hfz63_3, hfz63_4⟩ := bR5_ BK460.out
                 have p477 : 0 ≤ (1 : Int) := (by omega)
                 have q477 : 1 < (l1.length : Int) := of_decide_eq_true (by first | (with_reducible assumption) | assumption)
                 obtain ⟨ad477, e477, hx477_0⟩ := Kd.at_int HR1.out 1 p477 q477
                 obtain rfl : ad476 = ad477 := (by injection e477)
                 (try simp only [show (1 : Int).toNat = 1 from rfl, Nat.reduceMul, Nat.reduceEqDiff, Go.Addr.add, ↓reduceIte] at hx477_0)
                 have qi477 : (1 < l1.length) = True := eq_true (by omega)
                 (try rw [show ((1 : Int)).toNat = 1 from rfl] at hx477_0)
                 have hn477_0 : ad476.block ≠ gb460 := nE_ hx477_0 GW460.out
                 replace hx477_0 := cB_ HB.out hx477_0
                 replace hx477_0 := cF_ ⟨gb460, 2, none⟩ hn477_0 (.int .i64 (rd l1 0)) hx477_0
                 clear hn477_0
                 replace p477 := eq_true p477
                 replace q477 := eq_true q477
                 obtain ⟨hcz64_0, hcz64_1, hcz64_2, hcz64_3, hcz64_4, hfz64_0, hfz64_1, hfz64_2, hfz64_3, hfz64_4⟩ := bR5_ BK459.out
                 go_wp2
                 refine bodyPost_ret (results_cell_row rfl _ _ gb459 32 #[.int .i64 a0, .int .i64 0, .int .i64 (rd l1 0), .int .i64 0, .int .i64 (rd l1 1)] (0, 0) _ rfl (by (with_reducible repeat (first | refine bN_ ?_ _ | refine bD_ ?_ | refine bA_ ?_ _)); refine blk_put (cs := #[.int .i64 a0, .int .i64 0, .int .i64 (rd l1 0), .int .i64 0, .int .i64 0]) ?_ 4 _ rfl; (with_reducible repeat (first | refine bN_ ?_ _ | refine bD_ ?_ | refine bA_ ?_ _)); refine blk_put (cs := #[.int .i64 a0, .int .i64 0, .int .i64 (rd l1 0), .int .i64 0, .int .i64 0]) ?_ 3 _ rfl; (with_reducible repeat (first | refine bN_ ?_ _ | refine bD_ ?_ | refine bA_ ?_ _)); refine blk_put (cs := #[.int .i64 a0, .int .i64 0, .int .i64 0, .int .i64 0, .int .i64 0]) ?_ 2 _ rfl; (with_reducible repeat (first | refine bN_ ?_ _ | refine bD_ ?_ | refine bA_ ?_ _)); refine blk_put (cs := #[.int .i64 a0, .int .i64 0, .int .i64 0, .int .i64 0, .int .i64 0]) ?_ 1 _ rfl; (with_reducible repeat (first | refine bN_ ?_ _ | refine bD_ ?_ | refine bA_ ?_ _)); refine blk_put (cs := #[.int .i64 0, .int .i64 0, .int .i64 0, .int .i64 0, .int .i64 0]) ?_ 0 _ rfl; (with_reducible repeat (first | refine bN_ ?_ _ | refine bD_ ?_ | refine bA_ ?_ _)); refine blk_far ?_ NB459_460.out _; (with_reducible repeat (first | refine bN_ ?_ _ | refine bD_ ?_ | refine bA_ ?_ _)); refine blk_far ?_ NB459_460.out _; (with_reducible repeat (first | refine bN_ ?_ _ | refine bD_ ?_ | refine bA_ ?_ _)); exact BK459.out) Tryd.underlying32 rfl (by kernel_rfl)) rfl ?_
                 exact fI_ HB.out
                ·rw [if_neg c61] at H
                 exact absurd H (by simp)
               ·rw [if_neg c60] at H
                exact absurd H (by simp)
              ·rw [if_neg c59] at H
               have c59b0 : (a0 == 12) = false := beq_eq_false_iff_ne.mpr c59
               have c59b1 : (a0 != 12) = true := bne_iff_ne.mpr c59
               simp only [Option.some.injEq, Prod.mk.injEq] at H
               obtain ⟨rfl, rfl, rfl, rfl, rfl⟩ := H
               have hnb65 := NB460_459.out
               have hnc65 := NB459_460.out
               obtain ⟨hcz66_0, hcz66_1, hcz66_2, hcz66_3, hcz66_4, hfz66_0, hfz66_1, hfz66_2, hfz66_3, hfz66_4⟩ := bR5_ BK460.out
               obtain ⟨hcz67_0, hcz67_1, hcz67_2, hcz67_3, hcz67_4, hfz67_0, hfz67_1, hfz67_2, hfz67_3, hfz67_4⟩ := bR5_ BK459.out
               go_wp2
               refine bodyPost_ret (results_cell_row rfl _ _ gb459 32 #[.int .i64 a0, .int .i64 0, .int .i64 0, .int .i64 0, .int .i64 0] (0, 0) _ rfl (by (with_reducible repeat (first | refine bN_ ?_ _ | refine bD_ ?_ | refine bA_ ?_ _)); refine blk_put (cs := #[.int .i64 a0, .int .i64 0, .int .i64 0, .int .i64 0, .int .i64 0]) ?_ 4 _ rfl; (with_reducible repeat (first | refine bN_ ?_ _ | refine bD_ ?_ | refine bA_ ?_ _)); refine blk_put (cs := #[.int .i64 a0, .int .i64 0, .int .i64 0, .int .i64 0, .int .i64 0]) ?_ 3 _ rfl; (with_reducible repeat (first | refine bN_ ?_ _ | refine bD_ ?_ | refine bA_ ?_ _)); refine blk_put (cs := #[.int .i64 a0, .int .i64 0, .int .i64 0, .int .i64 0, .int .i64 0]) ?_ 2 _ rfl; (with_reducible repeat (first | refine bN_ ?_ _ | refine bD_ ?_ | refine bA_ ?_ _)); refine blk_put (cs := #[.int .i64 a0, .int .i64 0, .int .i64 0, .int .i64 0, .int .i64 0]) ?_ 1 _ rfl; (with_reducible repeat (first | refine bN_ ?_ _ | refine bD_ ?_ | refine bA_ ?_ _)); refine blk_put (cs := #[.int .i64 0, .int .i64 0, .int .i64 0, .int .i64 0, .int .i64 0]) ?_ 0 _ rfl; (with_reducible repeat (first | refine bN_ ?_ _ | refine bD_ ?_ | refine bA_ ?_ _)); exact BK459.out) Tryd.underlying32 rfl (by kernel_rfl)) rfl ?_
               exact fI_ HB.out
end Go.Proofs.YtkjfcmgpplapeaaDoor.PFnInsText
