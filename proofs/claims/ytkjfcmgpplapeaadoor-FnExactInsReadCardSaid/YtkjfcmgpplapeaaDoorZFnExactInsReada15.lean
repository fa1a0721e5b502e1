/- A part of the proof that the law FnExactInsRead holds for every input: the words, functions and walks that its row needs, without a condition of their own. -/
import Derived.Test.YtkjfcmgpplapeaaDoorZFnExactInsReada4
import Derived.Test.YtkjfcmgpplapeaaDoorZFnExactInsReads
namespace Go.Proofs.YtkjfcmgpplapeaaDoor.PFnExactInsRead
open Go.RowKit Go.Proofs.YtkjfcmgpplapeaaDoorW.PrintWords Go.Proofs.YtkjfcmgpplapeaaDoorW.PrintLast Go.Proofs.YtkjfcmgpplapeaaDoorW.PrintMore
attribute [local go_sem] max2_int min2_int max_two min_two max_three min_three max_four min_four   -- for this text's walks alone
set_option linter.unusedVariables false
set_option linter.unusedSimpArgs false
theorem genW {p c q a} (R : World → Prop) {W : World} (hR : R W) (h : ∀ V, R V → Code.wp p c q a V) : Code.wp p c q a W := h W hR
mutual
def spec_l2Put.j0 : Nat → List Int → Int → Bool → Int → Int → Int → Int → Int → Option (Int × Int × Int × Int × Int)
  | 0, _, _, _, _, _, _, _, _ => none
  | k + 1, x1, x8, x19, x320000, x320001, x320002, x320003, x320004 => if x19 = true then (if 0 < (x1.length : Int) then (if 1 < (x1.length : Int) then (if 2 < (x1.length : Int) then (some (x320000, rd x1 0, rd x1 1, rd x1 2, x320004)) else (none)) else (none)) else (none)) else (if x8 = 5 then (if 0 < (x1.length : Int) then (if 1 < (x1.length : Int) then (some (x320000, x320001, rd x1 1, x320003, rd x1 0)) else (none)) else (none)) else (if x8 = 6 then (spec_l2Put.j1 k x1 x8 (x8 == 6) x320000 x320001 x320002 x320003 x320004) else (spec_l2Put.j1 k x1 x8 (x8 == 8) x320000 x320001 x320002 x320003 x320004)))
def spec_l2Put.j1 : Nat → List Int → Int → Bool → Int → Int → Int → Int → Int → Option (Int × Int × Int × Int × Int)
  | 0, _, _, _, _, _, _, _, _ => none
  | k + 1, x1, x8, x45, x320000, x320001, x320002, x320003, x320004 => if x45 = true then (if 0 < (x1.length : Int) then (if 1 < (x1.length : Int) then (if 2 < (x1.length : Int) then (some (x320000, rd x1 0, x320002, rd x1 1, rd x1 2)) else (none)) else (none)) else (none)) else (if x8 = 7 then (if 0 < (x1.length : Int) then (if 1 < (x1.length : Int) then (if 2 < (x1.length : Int) then (some (x320000, rd x1 0, rd x1 2, x320003, rd x1 1)) else (none)) else (none)) else (none)) else (if x8 = 9 then (spec_l2Put.j2 k x1 x8 (x8 == 9) x320000 x320001 x320002 x320003 x320004) else (spec_l2Put.j2 k x1 x8 (x8 == 11) x320000 x320001 x320002 x320003 x320004)))
def spec_l2Put.j2 : Nat → List Int → Int → Bool → Int → Int → Int → Int → Int → Option (Int × Int × Int × Int × Int)
  | 0, _, _, _, _, _, _, _, _ => none
  | k + 1, x1, x8, x74, x320000, x320001, x320002, x320003, x320004 => if x74 = true then (if 0 < (x1.length : Int) then (some (x320000, x320001, x320002, x320003, rd x1 0)) else (none)) else (if x8 = 10 then (if 0 < (x1.length : Int) then (some (x320000, x320001, rd x1 0, x320003, x320004)) else (none)) else (if x8 = 12 then (if 0 < (x1.length : Int) then (if 1 < (x1.length : Int) then (some (x320000, x320001, rd x1 0, x320003, rd x1 1)) else (none)) else (none)) else (some (x320000, x320001, x320002, x320003, x320004))))
end
def spec_l2Put.f (k : Nat) (a0 : Int) (l1 : List Int) : Option (Int × Int × Int × Int × Int) := if a0 = 1 then (if 0 < (l1.length : Int) then (if 1 < (l1.length : Int) then (some (a0, rd l1 0, 0, 0, rd l1 1)) else (none)) else (none)) else (if a0 = 2 then (spec_l2Put.j0 k l1 a0 (a0 == 2) a0 0 0 0 0) else (if a0 = 3 then (spec_l2Put.j0 k l1 a0 (a0 == 3) a0 0 0 0 0) else (spec_l2Put.j0 k l1 a0 (a0 == 4) a0 0 0 0 0)))
set_option maxHeartbeats 8000000 in
set_option maxRecDepth 100000 in
theorem spec_l2Put.calls (k : Nat) (a0 : Int) (A1 : Option Addr) (c1 : Nat) (l1 : List Int) (r1 : Int) (r2 : Int) (r3 : Int) (r4 : Int) (r5 : Int) (w : World) (hr1 : Kd.C (Kd.int .i64) w A1 l1.length l1) (hc1 : l1.length ≤ c1) (h : spec_l2Put.f k a0 l1 = some (r1, r2, r3, r4, r5)) :
  Calls Tryd.prog 109 #[.int .i64 a0, .slice A1 l1.length c1] w fun e w' => e = .returned (.agg #[.int .i64 r1, .int .i64 r2, .int .i64 r3, .int .i64 r4, .int .i64 r5]) ∧ Below w.heap.size w w' := by
 have hu32 := Tryd.underlying32
 have HR1 := aM_ hr1
 have HC1 := aM_ hc1
 clear hr1 hc1
 have HB := aM_ (Below.refl w.heap.size w)
 have H : (if a0 = 1 then (if 0 < (l1.length : Int) then (if 1 < (l1.length : Int) then (some (a0, rd l1 0, 0, 0, rd l1 1)) else (none)) else (none)) else (if a0 = 2 then (spec_l2Put.j0 k l1 a0 (a0 == 2) a0 0 0 0 0) else (if a0 = 3 then (spec_l2Put.j0 k l1 a0 (a0 == 3) a0 0 0 0 0) else (spec_l2Put.j0 k l1 a0 (a0 == 4) a0 0 0 0 0)))) = some (r1, r2, r3, r4, r5) := h
 clear h
 by_cases c3 : a0 = 1
 ·rw [if_pos c3] at H
  have c3b0 : (a0 == 1) = true := beq_iff_eq.mpr c3
  have c3b1 : (a0 != 1) = false := bne_eq_false_iff_eq.mpr c3
  clear c3
  by_cases c4 : 0 < (l1.length : Int)
  ·rw [if_pos c4] at H
   have c4b0 : decide (0 < (l1.length : Int)) = true := decide_eq_true c4
   have c4b1 : decide (0 < l1.length) = true := decide_eq_true (by omega)
   clear c4
   by_cases c5 : 1 < (l1.length : Int)
   ·rw [if_pos c5] at H
    have c5b0 : decide (1 < (l1.length : Int)) = true := decide_eq_true c5
    have c5b1 : decide (1 < l1.length) = true := decide_eq_true (by omega)
    clear c5
    simp only [Option.some.injEq, Prod.mk.injEq] at H
    obtain ⟨rfl, rfl, rfl, rfl, rfl⟩ := H
    go_enter Tryd.func109, Tryd.ntmps109
    go_upto_region 2 with (first | ((with_reducible refine gate_dst (N := 4) rfl ?_); refine box_event ?hg (N := 4) ?hd (cs := #[.int .i64 0, .int .i64 0, .int .i64 0, .int .i64 0, .int .i64 0]) (t := 32) ?hr ?_; (case hd => rfl); (case hg => rfl); (case hr => first | (go_simp; done) | (go_simp; rfl)); intro gb318 hg w12 hbox hb; have n0 := aM_ (below_step (by repeat (first | (with_reducible first | exact HB.out | apply hA_ | apply hN_ | apply hD_) | exact HB.out)) hb); have n1 := aM_ (hbox); have n2 := aM_ ((by rw [hg]; exact (below_size (by repeat (first | (with_reducible first | exact HB.out | apply hA_ | apply hN_ | apply hD_) | exact HB.out))) : w.heap.size ≤ gb318)); have n3 := aM_ ((by rw [hg]; exact (below_size (by repeat (first | (with_reducible first | exact HB.out | apply hA_ | apply hN_ | apply hD_) | exact HB.out))) : w.heap.size ≤ gb318)); clear HB; have HB := n0; have BK318 := n1; have GW318 := n2; have GE318 := n3; clear n0 n1 n2 n3; clear hb hbox hg) | ((with_reducible refine gate_dst (N := 5) rfl ?_); refine box_event ?hg (N := 5) ?hd (cs := #[.int .i64 0, .int .i64 0, .int .i64 0, .int .i64 0, .int .i64 0]) (t := 32) ?hr ?_; (case hd => rfl); (case hg => rfl); (case hr => first | (go_simp; done) | (go_simp; rfl)); intro gb319 hg w13 hbox hb; have n0 := aM_ (blk_below (g := gb318) (o := .cells #[.int .i64 0, .int .i64 0, .int .i64 0, .int .i64 0, .int .i64 0] 32 (0, 0)) (by (with_reducible repeat (first | refine bN_ ?_ _ | refine bD_ ?_ | refine bA_ ?_ _)); exact BK318.out) hb); have n1 := aM_ (below_step (by repeat (first | (with_reducible first | exact HB.out | apply hA_ | apply hN_ | apply hD_ | refine below_set ?_ GE318.out) | exact HB.out)) hb); have n2 := aM_ (hbox); have n3 := aM_ ((by rw [hg]; exact (below_size (by repeat (first | (with_reducible first | exact HB.out | apply hA_ | apply hN_ | apply hD_ | refine below_set ?_ GE318.out) | exact HB.out))) : w.heap.size ≤ gb319)); have n4 := aM_ ((by rw [hg]; exact (below_size (by repeat (first | (with_reducible first | exact HB.out | apply hA_ | apply hN_ | apply hD_ | refine below_set ?_ GE318.out) | exact HB.out))) : w.heap.size ≤ gb319)); have n5 := aM_ ((by rw [hg]; exact Nat.ne_of_lt (blk_lt (g := gb318) (o := .cells #[.int .i64 0, .int .i64 0, .int .i64 0, .int .i64 0, .int .i64 0] 32 (0, 0)) (by (with_reducible repeat (first | refine bN_ ?_ _ | refine bD_ ?_ | refine bA_ ?_ _)); exact BK318.out)) : gb318 ≠ gb319)); have n6 := aM_ ((by rw [hg]; exact Nat.ne_of_gt (blk_lt (g := gb318) (o := .cells #[.int .i64 0, .int .i64 0, .int .i64 0, .int .i64 0, .int .i64 0] 32 (0, 0)) (by (with_reducible repeat (first | refine bN_ ?_ _ | refine bD_ ?_ | refine bA_ ?_ _)); exact BK318.out)) : gb319 ≠ gb318)); clear BK318; clear HB; have BK318 := n0; have HB := n1; have BK319 := n2; have GW319 := n3; have GE319 := n4; have NB318_319 := n5; have NB319_318 := n6; clear n0 n1 n2 n3 n4 n5 n6; clear hb hbox hg; have hnb14 := NB319_318.out; have hnc14 := NB318_319.out; have hcz15_0 : w13.cell? ⟨gb319, 0, none⟩ = some (.int .i64 0) := (blk_cell BK319.out 0).trans rfl; have hcz15_1 : w13.cell? ⟨gb319, 1, none⟩ = some (.int .i64 0) := (blk_cell BK319.out 1).trans rfl; have hcz15_2 : w13.cell? ⟨gb319, 2, none⟩ = some (.int .i64 0) := (blk_cell BK319.out 2).trans rfl; have hcz15_3 : w13.cell? ⟨gb319, 3, none⟩ = some (.int .i64 0) := (blk_cell BK319.out 3).trans rfl; have hcz15_4 : w13.cell? ⟨gb319, 4, none⟩ = some (.int .i64 0) := (blk_cell BK319.out 4).trans rfl; have hfz15_0 := blk_frozen BK319.out 0; have hfz15_1 := blk_frozen BK319.out 1; have hfz15_2 := blk_frozen BK319.out 2; have hfz15_3 := blk_frozen BK319.out 3; have hfz15_4 := blk_frozen BK319.out 4))
    (try simp only [Act.put, List.setIfInBounds_toArray, List.set_cons_zero, List.set_cons_succ])
    refine genW (fun wc : World => Aside0 (wc.heap[gb318]? = some (.cells #[.int .i64 0, .int .i64 0, .int .i64 0, .int .i64 0, .int .i64 0] 32 (0, 0))) ∧ Aside0 (wc.heap[gb319]? = some (.cells #[.int .i64 a0, .int .i64 0, .int .i64 0, .int .i64 0, .int .i64 0] 32 (0, 0))) ∧ Aside0 (Below w.heap.size w wc)) ⟨⟨by (with_reducible repeat (first | refine bN_ ?_ _ | refine bD_ ?_ | refine bA_ ?_ _)); refine blk_far ?_ NB318_319.out _; (with_reducible repeat (first | refine bN_ ?_ _ | refine bD_ ?_ | refine bA_ ?_ _)); refine blk_far ?_ NB318_319.out _; (with_reducible repeat (first | refine bN_ ?_ _ | refine bD_ ?_ | refine bA_ ?_ _)); refine blk_far ?_ NB318_319.out _; (with_reducible repeat (first | refine bN_ ?_ _ | refine bD_ ?_ | refine bA_ ?_ _)); refine blk_far ?_ NB318_319.out _; (with_reducible repeat (first | refine bN_ ?_ _ | refine bD_ ?_ | refine bA_ ?_ _)); refine blk_far ?_ NB318_319.out _; (with_reducible repeat (first | refine bN_ ?_ _ | refine bD_ ?_ | refine bA_ ?_ _)); exact BK318.out⟩, ⟨by (with_reducible repeat (first | refine bN_ ?_ _ | refine bD_ ?_ | refine bA_ ?_ _)); refine blk_put (cs := #[.int .i64 a0, .int .i64 0, .int .i64 0, .int .i64 0, .int .i64 0]) ?_ 4 _ rfl; (with_reducible repeat (first | refine bN_ ?_ _ | refine bD_ ?_ | refine bA_ ?_ _)); refine blk_put (cs := #[.int .i64 a0, .int .i64 0, .int .i64 0, .int .i64 0, .int .i64 0]) ?_ 3 _ rfl; (with_reducible repeat (first | refine bN_ ?_ _ | refine bD_ ?_ | refine bA_ ?_ _)); refine blk_put (cs := #[.int .i64 a0, .int .i64 0, .int .i64 0, .int .i64 0, .int .i64 0]) ?_ 2 _ rfl; (with_reducible repeat (first | refine bN_ ?_ _ | refine bD_ ?_ | refine bA_ ?_ _)); refine blk_put (cs := #[.int .i64 a0, .int .i64 0, .int .i64 0, .int .i64 0, .int .i64 0]) ?_ 1 _ rfl; (with_reducible repeat (first | refine bN_ ?_ _ | refine bD_ ?_ | refine bA_ ?_ _)); refine blk_put (cs := #[.int .i64 0, .int .i64 0, .int .i64 0, .int .i64 0, .int .i64 0]) ?_ 0 _ rfl; (with_reducible repeat (first | refine bN_ ?_ _ | refine bD_ ?_ | refine bA_ ?_ _)); exact BK319.out⟩, ⟨by repeat (first | (with_reducible first | exact HB.out | apply hA_ | apply hN_ | apply hD_ | refine below_set ?_ GE318.out | refine below_set ?_ GE319.out) | exact HB.out)⟩⟩ ?_
    clear BK318 BK319 HB hnb14 hnc14 hcz15_0 hcz15_1 hcz15_2 hcz15_3 hcz15_4 hfz15_0 hfz15_1 hfz15_2 hfz15_3 hfz15_4
    rintro w9 ⟨BK318, BK319, HB⟩
    have p420 : 0 ≤ (0 : Int) := (by omega)
    have q420 : 0 < (l1.length : Int) := of_decide_eq_true (by first | (with_reducible assumption) | assumption)
    obtain ⟨ad420, e420, hx420_0⟩ := Kd.at_int HR1.out 0 p420 q420
    cases e420
    have qi420 : (0 < l1.length) = True := eq_true (by omega)
    (try rw [show ((0 : Int)).toNat = 0 from rfl] at hx420_0)
    (try rw [Addr.add_zero'] at hx420_0)
    replace hx420_0 := (HB.out.cell (World.block_lt_of_cell? w _ hx420_0)).trans hx420_0
    replace p420 := eq_true p420
    replace q420 := eq_true q420
    have hnb8 := NB319_318.out
    have hnc8 := NB318_319.out
    have hcz9_0 : w9.cell? ⟨gb319, 0, none⟩ = some (.int .i64 a0) := (blk_cell BK319.out 0).trans rfl
    have hcz9_1 : w9.cell? ⟨gb319, 1, none⟩ = some (.int .i64 0) := (blk_cell BK319.out 1).trans rfl
    have hcz9_2 : w9.cell? ⟨gb319, 2, none⟩ = some (.int .i64 0) := (blk_cell BK319.out 2).trans rfl
    have hcz9_3 : w9.cell? ⟨gb319, 3, none⟩ = some (.int .i64 0) := (blk_cell BK319.out 3).trans rfl
    have hcz9_4 : w9.cell? ⟨gb319, 4, none⟩ = some (.int .i64 0) := (blk_cell BK319.out 4).trans rfl
    have hfz9_0 := blk_frozen BK319.out 0
    have hfz9_1 := blk_frozen BK319.out 1
    have hfz9_2 := blk_frozen BK319.out 2
    have hfz9_3 := blk_frozen BK319.out 3
    have hfz9_4 := blk_frozen BK319.out 4
    have p421 : 0 ≤ (1 : Int) := (by omega)
    have q421 : 1 < (l1.length : Int) := of_decide_eq_true (by first | (with_reducible assumption) | assumption)
    obtain ⟨ad421, e421, hx421_0⟩ := Kd.at_int HR1.out 1 p421 q421
    obtain rfl : ad420 = ad421 := (by injection e421)
    (try simp only [show (1 : Int).toNat = 1 from rfl, Nat.reduceMul, Nat.reduceEqDiff, Go.Addr.add, ↓reduceIte] at hx421_0)
    have qi421 : (1 < l1.length) = True := eq_true (by omega)
    (try rw [show ((1 : Int)).toNat = 1 from rfl] at hx421_0)
    have hn421_0 : ad420.block ≠ gb319 := Nat.ne_of_lt (Nat.lt_of_lt_of_le (by have := World.block_lt_of_cell? _ _ hx421_0; first | rwa [add_block] at this | exact this) GW319.out)
    replace hx421_0 := (HB.out.cell (World.block_lt_of_cell? w _ hx421_0)).trans hx421_0
    replace hx421_0 := (cell_far (p := ⟨gb319, 1, none⟩) (by first | (rw [add_block]; exact hn421_0) | (show (Addr.add _ _).block ≠ _; rw [add_block]; exact hn421_0) | exact hn421_0) (.int .i64 (rd l1 0))).trans hx421_0
    clear hn421_0
    replace p421 := eq_true p421
    replace q421 := eq_true q421
    have hcz10_0 : w9.cell? ⟨gb318, 0, none⟩ = some (.int .i64 0) := (blk_cell BK318.out 0).trans rfl
    have hcz10_1 : w9.cell? ⟨gb318, 1, none⟩ = some (.int .i64 0) := (blk_cell BK318.out 1).trans rfl
    have hcz10_2 : w9.cell? ⟨gb318, 2, none⟩ = some (.int .i64 0) := (blk_cell BK318.out 2).trans rfl
    have hcz10_3 : w9.cell? ⟨gb318, 3, none⟩ = some (.int .i64 0) := (blk_cell BK318.out 3).trans rfl
    have hcz10_4 : w9.cell? ⟨gb318, 4, none⟩ = some (.int .i64 0) := (blk_cell BK318.out 4).trans rfl
    have hfz10_0 := blk_frozen BK318.out 0
    have hfz10_1 := blk_frozen BK318.out 1
    have hfz10_2 := blk_frozen BK318.out 2
    have hfz10_3 := blk_frozen BK318.out 3
    have hfz10_4 := blk_frozen BK318.out 4
    go_wp2
    refine bodyPost_ret (results_cell_row rfl _ _ gb318 32 #[.int .i64 a0, .int .i64 (rd l1 0), .int .i64 0, .int .i64 0, .int .i64 (rd l1 1)] (0, 0) _ rfl (by (with_reducible repeat (first | refine bN_ ?_ _ | refine bD_ ?_ | refine bA_ ?_ _)); refine blk_put (cs := #[.int .i64 a0, .int .i64 (rd l1 0), .int .i64 0, .int .i64 0, .int .i64 0]) ?_ 4 _ rfl; (with_reducible repeat (first | refine bN_ ?_ _ | refine bD_ ?_ | refine bA_ ?_ _)); refine blk_put (cs := #[.int .i64 a0, .int .i64 (rd l1 0), .int .i64 0, .int .i64 0, .int .i64 0]) ?_ 3 _ rfl; (with_reducible repeat (first | refine bN_ ?_ _ | refine bD_ ?_ | refine bA_ ?_ _)); refine blk_put (cs := #[.int .i64 a0, .int .i64 (rd l1 0), .int .i64 0, .int .i64 0, .int .i64 0]) ?_ 2 _ rfl; (with_reducible repeat (first | refine bN_ ?_ _ | refine bD_ ?_ | refine bA_ ?_ _)); refine blk_put (cs := #[.int .i64 a0, .int .i64 0, .int .i64 0, .int .i64 0, .int .i64 0]) ?_ 1 _ rfl; (with_reducible repeat (first | refine bN_ ?_ _ | refine bD_ ?_ | refine bA_ ?_ _)); refine blk_put (cs := #[.int .i64 0, .int .i64 0, .int .i64 0, .int .i64 0, .int .i64 0]) ?_ 0 _ rfl; (with_reducible repeat (first | refine bN_ ?_ _ | refine bD_ ?_ | refine bA_ ?_ _)); refine blk_far ?_ NB318_319.out _; (with_reducible repeat (first | refine bN_ ?_ _ | refine bD_ ?_ | refine bA_ ?_ _)); refine blk_far ?_ NB318_319.out _; (with_reducible repeat (first | refine bN_ ?_ _ | refine bD_ ?_ | refine bA_ ?_ _)); exact BK318.out) Tryd.underlying32 rfl (by kernel_rfl)) rfl ?_
    exact ⟨by first | rfl | (simp [errW_none, errW_some] <;> rfl) | (simp [*, errW_none, errW_some] <;> rfl), by repeat (first | (with_reducible first | exact HB.out | apply hA_ | apply hN_ | apply hD_ | refine below_set ?_ GE318.out | refine below_set ?_ GE319.out) | exact HB.out)⟩
   ·rw [if_neg c5] at H
    exact absurd H (by simp)
  ·rw [if_neg c4] at H
   exact absurd H (by simp)
 ·rw [if_neg c3] at H
  have c3b0 : (a0 == 1) = false := beq_eq_false_iff_ne.mpr c3
  have c3b1 : (a0 != 1) = true := bne_iff_ne.mpr c3
  have HC11 := aM_ H
  clear H
  go_enter Tryd.func109, Tryd.ntmps109
  go_upto_if 19 with (first | ((with_reducible refine gate_dst (N := 4) rfl ?_); refine box_event ?hg (N := 4) ?hd (cs := #[.int .i64 0, .int .i64 0, .int .i64 0, .int .i64 0, .int .i64 0]) (t := 32) ?hr ?_; (case hd => rfl); (case hg => rfl); (case hr => first | (go_simp; done) | (go_simp; rfl)); intro gb318 hg w12 hbox hb; have n0 := aM_ (below_step (by repeat (first | (with_reducible first | exact HB.out | apply hA_ | apply hN_ | apply hD_) | exact HB.out)) hb); have n1 := aM_ (hbox); have n2 := aM_ ((by rw [hg]; exact (below_size (by repeat (first | (with_reducible first | exact HB.out | apply hA_ | apply hN_ | apply hD_) | exact HB.out))) : w.heap.size ≤ gb318)); have n3 := aM_ ((by rw [hg]; exact (below_size (by repeat (first | (with_reducible first | exact HB.out | apply hA_ | apply hN_ | apply hD_) | exact HB.out))) : w.heap.size ≤ gb318)); clear HB; have HB := n0; have BK318 := n1; have GW318 := n2; have GE318 := n3; clear n0 n1 n2 n3; clear hb hbox hg) | ((with_reducible refine gate_dst (N := 5) rfl ?_); refine box_event ?hg (N := 5) ?hd (cs := #[.int .i64 0, .int .i64 0, .int .i64 0, .int .i64 0, .int .i64 0]) (t := 32) ?hr ?_; (case hd => rfl); (case hg => rfl); (case hr => first | (go_simp; done) | (go_simp; rfl)); intro gb319 hg w13 hbox hb; have n0 := aM_ (blk_below (g := gb318) (o := .cells #[.int .i64 0, .int .i64 0, .int .i64 0, .int .i64 0, .int .i64 0] 32 (0, 0)) (by (with_reducible repeat (first | refine bN_ ?_ _ | refine bD_ ?_ | refine bA_ ?_ _)); exact BK318.out) hb); have n1 := aM_ (below_step (by repeat (first | (with_reducible first | exact HB.out | apply hA_ | apply hN_ | apply hD_ | refine below_set ?_ GE318.out) | exact HB.out)) hb); have n2 := aM_ (hbox); have n3 := aM_ ((by rw [hg]; exact (below_size (by repeat (first | (with_reducible first | exact HB.out | apply hA_ | apply hN_ | apply hD_ | refine below_set ?_ GE318.out) | exact HB.out))) : w.heap.size ≤ gb319)); have n4 := aM_ ((by rw [hg]; exact (below_size (by repeat (first | (with_reducible first | exact HB.out | apply hA_ | apply hN_ | apply hD_ | refine below_set ?_ GE318.out) | exact HB.out))) : w.heap.size ≤ gb319)); have n5 := aM_ ((by rw [hg]; exact Nat.ne_of_lt (blk_lt (g := gb318) (o := .cells #[.int .i64 0, .int .i64 0, .int .i64 0, .int .i64 0, .int .i64 0] 32 (0, 0)) (by (with_reducible repeat (first | refine bN_ ?_ _ | refine bD_ ?_ | refine bA_ ?_ _)); exact BK318.out)) : gb318 ≠ gb319)); have n6 := aM_ ((by rw [hg]; exact Nat.ne_of_gt (blk_lt (g := gb318) (o := .cells #[.int .i64 0, .int .i64 0, .int .i64 0, .int .i64 0, .int .i64 0] 32 (0, 0)) (by (with_reducible repeat (first | refine bN_ ?_ _ | refine bD_ ?_ | refine bA_ ?_ _)); exact BK318.out)) : gb319 ≠ gb318)); clear BK318; clear HB; have BK318 := n0; have HB := n1; have BK319 := n2; have GW319 := n3; have GE319 := n4; have NB318_319 := n5; have NB319_318 := n6; clear n0 n1 n2 n3 n4 n5 n6; clear hb hbox hg; have hnb14 := NB319_318.out; have hnc14 := NB318_319.out; have hcz15_0 : w13.cell? ⟨gb319, 0, none⟩ = some (.int .i64 0) := (blk_cell BK319.out 0).trans rfl; have hcz15_1 : w13.cell? ⟨gb319, 1, none⟩ = some (.int .i64 0) := (blk_cell BK319.out 1).trans rfl; have hcz15_2 : w13.cell? ⟨gb319, 2, none⟩ = some (.int .i64 0) := (blk_cell BK319.out 2).trans rfl; have hcz15_3 : w13.cell? ⟨gb319, 3, none⟩ = some (.int .i64 0) := (blk_cell BK319.out 3).trans rfl; have hcz15_4 : w13.cell? ⟨gb319, 4, none⟩ = some (.int .i64 0) := (blk_cell BK319.out 4).trans rfl; have hfz15_0 := blk_frozen BK319.out 0; have hfz15_1 := blk_frozen BK319.out 1; have hfz15_2 := blk_frozen BK319.out 2; have hfz15_3 := blk_frozen BK319.out 3; have hfz15_4 := blk_frozen BK319.out 4))
  (try simp only [Act.put, List.setIfInBounds_toArray, List.set_cons_zero, List.set_cons_succ])
  go_cut [19] (fun v19 wc => ∃ (kq : Nat) (x19_10 : Bool), v19 = .bool x19_10 ∧ Aside0 (spec_l2Put.j0 kq l1 a0 x19_10 a0 0 0 0 0 = some (r1, r2, r3, r4, r5)) ∧ Aside0 (kq ≤ k) ∧ Aside0 (wc.heap[gb318]? = some (.cells #[.int .i64 0, .int .i64 0, .int .i64 0, .int .i64 0, .int .i64 0] 32 (0, 0))) ∧ Aside0 (wc.heap[gb319]? = some (.cells #[.int .i64 a0, .int .i64 0, .int .i64 0, .int .i64 0, .int .i64 0] 32 (0, 0))) ∧ Aside0 (Below w.heap.size w wc))
  case first =>
   have H := HC11.out
   clear HC11
   by_cases c16 : a0 = 2
   ·rw [if_pos c16] at H
    have c16b0 : (a0 == 2) = true := beq_iff_eq.mpr c16
    have c16b1 : (a0 != 2) = false := bne_eq_false_iff_eq.mpr c16
    clear c16
    (first | rw [c16b0] | (simp only [i64_w, i32_w]; rw [c16b0]) | skip)
    have H' := aM_ H
    clear H
    go_wp2
    go_meet
    case rel => exact ⟨_, ((a0 == 2)), (by first | rfl | (simp; done) | (simp [*]; done)), H', ⟨by first | omega | exact Nat.le_refl _⟩, ⟨by (with_reducible repeat (first | refine bN_ ?_ _ | refine bD_ ?_ | refine bA_ ?_ _)); refine blk_far ?_ NB318_319.out _; (with_reducible repeat (first | refine bN_ ?_ _ | refine bD_ ?_ | refine bA_ ?_ _)); refine blk_far ?_ NB318_319.out _; (with_reducible repeat (first | refine bN_ ?_ _ | refine bD_ ?_ | refine bA_ ?_ _)); refine blk_far ?_ NB318_319.out _; (with_reducible repeat (first | refine bN_ ?_ _ | refine bD_ ?_ | refine bA_ ?_ _)); refine blk_far ?_ NB318_319.out _; (with_reducible repeat (first | refine bN_ ?_ _ | refine bD_ ?_ | refine bA_ ?_ _)); refine blk_far ?_ NB318_319.out _; (with_reducible repeat (first | refine bN_ ?_ _ | refine bD_ ?_ | refine bA_ ?_ _)); exact BK318.out⟩, ⟨by (with_reducible repeat (first | refine bN_ ?_ _ | refine bD_ ?_ | refine bA_ ?_ _)); refine blk_put (cs := #[.int .i64 a0, .int .i64 0, .int .i64 0, .int .i64 0, .int .i64 0]) ?_ 4 _ rfl; (with_reducible repeat (first | refine bN_ ?_ _ | refine bD_ ?_ | refine bA_ ?_ _)); refine blk_put (cs := #[.int .i64 a0, .int .i64 0, .int .i64 0, .int .i64 0, .int .i64 0]) ?_ 3 _ rfl; (with_reducible repeat (first | refine bN_ ?_ _ | refine bD_ ?_ | refine bA_ ?_ _)); refine blk_put (cs := #[.int .i64 a0, .int .i64 0, .int .i64 0, .int .i64 0, .int .i64 0]) ?_ 2 _ rfl; (with_reducible repeat (first | refine bN_ ?_ _ | refine bD_ ?_ | refine bA_ ?_ _)); refine blk_put (cs := #[.int .i64 a0, .int .i64 0, .int .i64 0, .int .i64 0, .int .i64 0]) ?_ 1 _ rfl; (with_reducible repeat (first | refine bN_ ?_ _ | refine bD_ ?_ | refine bA_ ?_ _)); refine blk_put (cs := #[.int .i64 0, .int .i64 0, .int .i64 0, .int .i64 0, .int .i64 0]) ?_ 0 _ rfl; (with_reducible repeat (first | refine bN_ ?_ _ | refine bD_ ?_ | refine bA_ ?_ _)); exact BK319.out⟩, ⟨by repeat (first | (with_reducible first | exact HB.out | apply hA_ | apply hN_ | apply hD_ | refine below_set ?_ GE318.out | refine below_set ?_ GE319.out) | exact HB.out)⟩⟩
   ·rw [if_neg c16] at H
    have c16b0 : (a0 == 2) = false := beq_eq_false_iff_ne.mpr c16
    have c16b1 : (a0 != 2) = true := bne_iff_ne.mpr c16
    (first | rw [c16b0] | (simp only [i64_w, i32_w]; rw [c16b0]) | skip)
    by_cases c17 : a0 = 3
    ·rw [if_pos c17] at H
     have c17b0 : (a0 == 3) = true := beq_iff_eq.mpr c17
     have c17b1 : (a0 != 3) = false := bne_eq_false_iff_eq.mpr c17
     clear c17
     have H' := aM_ H
     clear H
     go_wp2
     go_meet
     case rel => exact ⟨_, ((a0 == 3)), (by first | rfl | (simp; done) | (simp [*]; done)), H', ⟨by first | omega | exact Nat.le_refl _⟩, ⟨by (with_reducible repeat (first | refine bN_ ?_ _ | refine bD_ ?_ | refine bA_ ?_ _)); refine blk_far ?_ NB318_319.out _; (with_reducible repeat (first | refine bN_ ?_ _ | refine bD_ ?_ | refine bA_ ?_ _)); refine blk_far ?_ NB318_319.out _; (with_reducible repeat (first | refine bN_ ?_ _ | refine bD_ ?_ | refine bA_ ?_ _)); refine blk_far ?_ NB318_319.out _; (with_reducible repeat (first | refine bN_ ?_ _ | refine bD_ ?_ | refine bA_ ?_ _)); refine blk_far ?_ NB318_319.out _; (with_reducible repeat (first | refine bN_ ?_ _ | refine bD_ ?_ | refine bA_ ?_ _)); refine blk_far ?_ NB318_319.out _; (with_reducible repeat (first | refine bN_ ?_ _ | refine bD_ ?_ | refine bA_ ?_ _)); exact BK318.out⟩, ⟨by (with_reducible repeat (first | refine bN_ ?_ _ | refine bD_ ?_ | refine bA_ ?_ _)); refine blk_put (cs := #[.int .i64 a0, .int .i64 0, .int .i64 0, .int .i64 0, .int .i64 0]) ?_ 4 _ rfl; (with_reducible repeat (first | refine bN_ ?_ _ | refine bD_ ?_ | refine bA_ ?_ _)); refine blk_put (cs := #[.int .i64 a0, .int .i64 0, .int .i64 0, .int .i64 0, .int .i64 0]) ?_ 3 _ rfl; (with_reducible repeat (first | refine bN_ ?_ _ | refine bD_ ?_ | refine bA_ ?_ _)); refine blk_put (cs := #[.int .i64 a0, .int .i64 0, .int .i64 0, .int .i64 0, .int .i64 0]) ?_ 2 _ rfl; (with_reducible repeat (first | refine bN_ ?_ _ | refine bD_ ?_ | refine bA_ ?_ _)); refine blk_put (cs := #[.int .i64 a0, .int .i64 0, .int .i64 0, .int .i64 0, .int .i64 0]) ?_ 1 _ rfl; (with_reducible repeat (first | refine bN_ ?_ _ | refine bD_ ?_ | refine bA_ ?_ _)); refine blk_put (cs := #[.int .i64 0, .int .i64 0, .int .i64 0, .int .i64 0, .int .i64 0]) ?_ 0 _ rfl; (with_reducible repeat (first | refine bN_ ?_ _ | refine bD_ ?_ | refine bA_ ?_ _)); exact BK319.out⟩, ⟨by repeat (first | (with_reducible first | exact HB.out | apply hA_ | apply hN_ | apply hD_ | refine below_set ?_ GE318.out | refine below_set ?_ GE319.out) | exact HB.out)⟩⟩
    ·rw [if_neg c17] at H
     have c17b0 : (a0 == 3) = false := beq_eq_false_iff_ne.mpr c17
     have c17b1 : (a0 != 3) = true := bne_iff_ne.mpr c17
     have H' := aM_ H
     clear H
     go_wp2
     go_meet
     case rel => exact ⟨_, ((a0 == 4)), (by first | rfl | (simp; done) | (simp [*]; done)), H', ⟨by first | omega | exact Nat.le_refl _⟩, ⟨by (with_reducible repeat (first | refine bN_ ?_ _ | refine bD_ ?_ | refine bA_ ?_ _)); refine blk_far ?_ NB318_319.out _; (with_reducible repeat (first | refine bN_ ?_ _ | refine bD_ ?_ | refine bA_ ?_ _)); refine blk_far ?_ NB318_319.out _; (with_reducible repeat (first | refine bN_ ?_ _ | refine bD_ ?_ | refine bA_ ?_ _)); refine blk_far ?_ NB318_319.out _; (with_reducible repeat (first | refine bN_ ?_ _ | refine bD_ ?_ | refine bA_ ?_ _)); refine blk_far ?_ NB318_319.out _; (with_reducible repeat (first | refine bN_ ?_ _ | refine bD_ ?_ | refine bA_ ?_ _)); refine blk_far ?_ NB318_319.out _; (with_reducible repeat (first | refine bN_ ?_ _ | refine bD_ ?_ | refine bA_ ?_ _)); exact BK318.out⟩, ⟨by (with_reducible repeat (first | refine bN_ ?_ _ | refine bD_ ?_ | refine bA_ ?_ _)); refine blk_put (cs := #[.int .i64 a0, .int .i64 0, .int .i64 0, .int .i64 0, .int .i64 0]) ?_ 4 _ rfl; (with_reducible repeat (first | refine bN_ ?_ _ | refine bD_ ?_ | refine bA_ ?_ _)); refine blk_put (cs := #[.int .i64 a0, .int .i64 0, .int .i64 0, .int .i64 0, .int .i64 0]) ?_ 3 _ rfl; (with_reducible repeat (first | refine bN_ ?_ _ | refine bD_ ?_ | refine bA_ ?_ _)); refine blk_put (cs := #[.int .i64 a0, .int .i64 0, .int .i64 0, .int .i64 0, .int .i64 0]) ?_ 2 _ rfl; (with_reducible repeat (first | refine bN_ ?_ _ | refine bD_ ?_ | refine bA_ ?_ _)); refine blk_put (cs := #[.int .i64 a0, .int .i64 0, .int .i64 0, .int .i64 0, .int .i64 0]) ?_ 1 _ rfl; (with_reducible repeat (first | refine bN_ ?_ _ | refine bD_ ?_ | refine bA_ ?_ _)); refine blk_put (cs := #[.int .i64 0, .int .i64 0, .int .i64 0, .int .i64 0, .int .i64 0]) ?_ 0 _ rfl; (with_reducible repeat (first | refine bN_ ?_ _ | refine bD_ ?_ | refine bA_ ?_ _)); exact BK319.out⟩, ⟨by repeat (first | (with_reducible first | exact HB.out | apply hA_ | apply hN_ | apply hD_ | refine below_set ?_ GE318.out | refine below_set ?_ GE319.out) | exact HB.out)⟩⟩
  case rest =>
   clear HC11
   try clear c1
   try clear p2
   try clear c3
   try clear c3b0
   try clear c3b1
   try clear p3
   try clear q3
   try clear hx3
   try clear qi3
   try clear c4
   try clear c4b0
   try clear c4b1
   try clear c5
   try clear c5b0
   try clear c5b1
   try clear c8
   try clear c10
   try clear c14
   try clear c16
   try clear c16b0
   try clear c16b1
   try clear c17
   try clear c17b0
   try clear c17b1
   try clear hcz10_0
   try clear hcz10_1
   try clear hcz10_2
   try clear hcz10_3
   try clear hcz10_4
   try clear hcz15_0
   try clear hcz15_1
   try clear hcz15_2
   try clear hcz15_3
   try clear hcz15_4
   try clear hcz9_0
   try clear hcz9_1
   try clear hcz9_2
   try clear hcz9_3
   try clear hcz9_4
   try clear hfz10_0
   try clear hfz10_1
   try clear hfz10_2
   try clear hfz10_3
   try clear hfz10_4
   try clear hfz15_0
   try clear hfz15_1
   try clear hfz15_2
   try clear hfz15_3
   try clear hfz15_4
   try clear hfz9_0
   try clear hfz9_1
   try clear hfz9_2
   try clear hfz9_3
   try clear hfz9_4
   try clear hx320_0
   try clear hx321_0
   try clear p320
   try clear p321
   try clear q320
   try clear q321
   obtain ⟨kq, x19_10, rfl, HA, HJ10, BK318, BK319, HB⟩ := hcut
   cases kq with
   | zero => exact absurd HA.out (by simp [spec_l2Put.j0])
   | succ kj10 =>
    have H := HA.out
    clear HA
    simp only [spec_l2Put.j0] at H
    by_cases c18 : x19_10 = true
    ·subst c18
     have H1 : (if 0 < (l1.length : Int) then (if 1 < (l1.length : Int) then (if 2 < (l1.length : Int) then (some (a0, rd l1 0, rd l1 1, rd l1 2, 0)) else (none)) else (none)) else (none)) = some (r1, r2, r3, r4, r5) := by rw [if_pos rfl] at H; exact H
     clear H
     have H := H1
     clear H1
     by_cases c19 : 0 < (l1.length : Int)
     ·rw [if_pos c19] at H
      have c19b0 : decide (0 < (l1.length : Int)) = true := decide_eq_true c19
      have c19b1 : decide (0 < l1.length) = true := decide_eq_true (by omega)
      clear c19
      by_cases c20 : 1 < (l1.length : Int)
      ·rw [if_pos c20] at H
       have c20b0 : decide (1 < (l1.length : Int)) = true := decide_eq_true c20
       have c20b1 : decide (1 < l1.length) = true := decide_eq_true (by omega)
       clear c20
       by_cases c21 : 2 < (l1.length : Int)
       ·rw [if_pos c21] at H
        have c21b0 : decide (2 < (l1.length : Int)) = true := decide_eq_true c21
        have c21b1 : decide (2 < l1.length) = true := decide_eq_true (by omega)
        clear c21
        simp only [Option.some.injEq, Prod.mk.injEq] at H
        obtain ⟨rfl, rfl, rfl, rfl, rfl⟩ := H
        have p322 : 0 ≤ (0 : Int) := (by omega)
        have q322 : 0 < (l1.length : Int) := of_decide_eq_true (by first | (with_reducible assumption) | assumption)
        obtain ⟨ad322, e322, hx322_0⟩ := Kd.at_int HR1.out 0 p322 q322
        cases e322
        have qi322 : (0 < l1.length) = True := eq_true (by omega)
        (try rw [show ((0 : Int)).toNat = 0 from rfl] at hx322_0)
        (try rw [Addr.add_zero'] at hx322_0)
        replace hx322_0 := (HB.out.cell (World.block_lt_of_cell? w _ hx322_0)).trans hx322_0
        replace p322 := eq_true p322
        replace q322 := eq_true q322
        have hnb22 := NB319_318.out
        have hnc22 := NB318_319.out
        have hcz23_0 : wc.cell? ⟨gb319, 0, none⟩ = some (.int .i64 a0) := (blk_cell BK319.out 0).trans rfl
        have hcz23_1 : wc.cell? ⟨gb319, 1, none⟩ = some (.int .i64 0) := (blk_cell BK319.out 1).trans rfl
        have hcz23_2 : wc.cell? ⟨gb319, 2, none⟩ = some (.int .i64 0) := (blk_cell BK319.out 2).trans rfl
        have hcz23_3 : wc.cell? ⟨gb319, 3, none⟩ = some (.int .i64 0) := (blk_cell BK319.out 3).trans rfl
        have hcz23_4 : wc.cell? ⟨gb319, 4, none⟩ = some (.int .i64 0) := (blk_cell BK319.out 4).trans rfl
        have hfz23_0 := blk_frozen BK319.out 0
        have hfz23_1 := blk_frozen BK319.out 1
        have hfz23_2 := blk_frozen BK319.out 2
        have hfz23_3 := blk_frozen BK319.out 3
        have hfz23_4 := blk_frozen BK319.out 4
        have p323 : 0 ≤ (1 : Int) := (by omega)
        have q323 : 1 < (l1.length : Int) := of_decide_eq_true (by first | (with_reducible assumption) | assumption)
        obtain ⟨ad323, e323, hx323_0⟩ := Kd.at_int HR1.out 1 p323 q323
        obtain rfl : ad322 = ad323 := (by injection e323)
        (try simp only [show (1 : Int).toNat = 1 from rfl, Nat.reduceMul, Nat.reduceEqDiff, Go.Addr.add, ↓reduceIte] at hx323_0)
        have qi323 : (1 < l1.length) = True := eq_true (by omega)
        (try rw [show ((1 : Int)).toNat = 1 from rfl] at hx323_0)
        have hn323_0 : ad322.block ≠ gb319 := Nat.ne_of_lt (Nat.lt_of_lt_of_le (by have := World.block_lt_of_cell? _ _ hx323_0; first | rwa [add_block] at this | exact this) GW319.out)
        replace hx323_0 := (HB.out.cell (World.block_lt_of_cell? w _ hx323_0)).trans hx323_0
        replace hx323_0 := (cell_far (p := ⟨gb319, 1, none⟩) (by first | (rw [add_block]; exact hn323_0) | (show (Addr.add _ _).block ≠ _; rw [add_block]; exact hn323_0) | exact hn323_0) (.int .i64 (rd l1 0))).trans hx323_0
        clear hn323_0
        replace p323 := eq_true p323
        replace q323 := eq_true q323
        have p324 : 0 ≤ (2 : Int) := (by omega)
        have q324 : 2 < (l1.length : Int) := of_decide_eq_true (by first | (with_reducible assumption) | assumption)
        obtain ⟨ad324, e324, hx324_0⟩ := Kd.at_int HR1.out 2 p324 q324
        obtain rfl : ad322 = ad324 := (by injection e324)
        (try simp only [show (2 : Int).toNat = 2 from rfl, Nat.reduceMul, Nat.reduceEqDiff, Go.Addr.add, ↓reduceIte] at hx324_0)
        have qi324 : (2 < l1.length) = True := eq_true (by omega)
        (try rw [show ((2 : Int)).toNat = 2 from rfl] at hx324_0)
        have hn324_0 : ad322.block ≠ gb319 := Nat.ne_of_lt (Nat.lt_of_lt_of_le (by have := World.block_lt_of_cell? _ _ hx324_0; first | rwa [add_block] at this | exact this) GW319.out)
        have hn324_1 : ad322.block ≠ gb319 := Nat.ne_of_lt (Nat.lt_of_lt_of_le (by have := World.block_lt_of_cell? _ _ hx324_0; first | rwa [add_block] at this | exact this) GW319.out)
        replace hx324_0 := (HB.out.cell (World.block_lt_of_cell? w _ hx324_0)).trans hx324_0
        replace hx324_0 := (cell_far (p := ⟨gb319, 1, none⟩) (by first | (rw [add_block]; exact hn324_0) | (show (Addr.add _ _).block ≠ _; rw [add_block]; exact hn324_0) | exact hn324_0) (.int .i64 (rd l1 0))).trans hx324_0
        replace hx324_0 := (cell_far (p := ⟨gb319, 2, none⟩) (by first | (rw [add_block]; exact hn324_1) | (show (Addr.add _ _).block ≠ _; rw [add_block]; exact hn324_1) | exact hn324_1) (.int .i64 (rd l1 1))).trans hx324_0
        clear hn324_0
        clear hn324_1
        replace p324 := eq_true p324
        replace q324 := eq_true q324
        have hcz24_0 : wc.cell? ⟨gb318, 0, none⟩ = some (.int .i64 0) := (blk_cell BK318.out 0).trans rfl
        have hcz24_1 : wc.cell? ⟨gb318, 1, none⟩ = some (.int .i64 0) := (blk_cell BK318.out 1).trans rfl
        have hcz24_2 : wc.cell? ⟨gb318, 2, none⟩ = some (.int .i64 0) := (blk_cell BK318.out 2).trans rfl
        have hcz24_3 : wc.cell? ⟨gb318, 3, none⟩ = some (.int .i64 0) := (blk_cell BK318.out 3).trans rfl
        have hcz24_4 : wc.cell? ⟨gb318, 4, none⟩ = some (.int .i64 0) := (blk_cell BK318.out 4).trans rfl
        have hfz24_0 := blk_frozen BK318.out 0
        have hfz24_1 := blk_frozen BK318.out 1
        have hfz24_2 := blk_frozen BK318.out 2
        have hfz24_3 := blk_frozen BK318.out 3
        have hfz24_4 := blk_frozen BK318.out 4
        go_wp2
        refine bodyPost_ret (results_cell_row rfl _ _ gb318 32 #[.int .i64 a0, .int .i64 (rd l1 0), .int .i64 (rd l1 1), .int .i64 (rd l1 2), .int .i64 0] (0, 0) _ rfl (by (with_reducible repeat (first | refine bN_ ?_ _ | refine bD_ ?_ | refine bA_ ?_ _)); refine blk_put (cs := #[.int .i64 a0, .int .i64 (rd l1 0), .int .i64 (rd l1 1), .int .i64 (rd l1 2), .int .i64 0]) ?_ 4 _ rfl; (with_reducible repeat (first | refine bN_ ?_ _ | refine bD_ ?_ | refine bA_ ?_ _)); refine blk_put (cs := #[.int .i64 a0, .int .i64 (rd l1 0), .int .i64 (rd l1 1), .int .i64 0, .int .i64 0]) ?_ 3 _ rfl; (with_reducible repeat (first | refine bN_ ?_ _ | refine bD_ ?_ | refine bA_ ?_ _)); refine blk_put (cs := #[.int .i64 a0, .int .i64 (rd l1 0), .int .i64 0, .int .i64 0, .int .i64 0]) ?_ 2 _ rfl; (with_reducible repeat (first | refine bN_ ?_ _ | refine bD_ ?_ | refine bA_ ?_ _)); refine blk_put (cs := #[.int .i64 a0, .int .i64 0, .int .i64 0, .int .i64 0, .int .i64 0]) ?_ 1 _ rfl; (with_reducible repeat (first | refine bN_ ?_ _ | refine bD_ ?_ | refine bA_ ?_ _)); refine blk_put (cs := #[.int .i64 0, .int .i64 0, .int .i64 0, .int .i64 0, .int .i64 0]) ?_ 0 _ rfl; (with_reducible repeat (first | refine bN_ ?_ _ | refine bD_ ?_ | refine bA_ ?_ _)); refine blk_far ?_ NB318_319.out _; (with_reducible repeat (first | refine bN_ ?_ _ | refine bD_ ?_ | refine bA_ ?_ _)); refine blk_far ?_ NB318_319.out _; (with_reducible repeat (first | refine bN_ ?_ _ | refine bD_ ?_ | refine bA_ ?_ _)); refine blk_far ?_ NB318_319.out _; (with_reducible repeat (first | refine bN_ ?_ _ | refine bD_ ?_ | refine bA_ ?_ _)); exact BK318.out) Tryd.underlying32 rfl (by kernel_rfl)) rfl ?_
        exact ⟨by first | rfl | (simp [errW_none, errW_some] <;> rfl) | (simp [*, errW_none, errW_some] <;> rfl), by repeat (first | (with_reducible first | exact HB.out | apply hA_ | apply hN_ | apply hD_ | refine below_set ?_ GE318.out | refine below_set ?_ GE319.out) | exact HB.out)⟩
       ·rw [if_neg c21] at H
        exact absurd H (by simp)
      ·rw [if_neg c20] at H
       exact absurd H (by simp)
     ·rw [if_neg c19] at H
      exact absurd H (by simp)
    ·replace c18 := Bool.eq_false_iff.mpr c18
     subst c18
     have H1 : (if a0 = 5 then (if 0 < (l1.length : Int) then (if 1 < (l1.length : Int) then (some (a0, 0, rd l1 1, 0, rd l1 0)) else (none)) else (none)) else (if a0 = 6 then (spec_l2Put.j1 kj10 l1 a0 (a0 == 6) a0 0 0 0 0) else (spec_l2Put.j1 kj10 l1 a0 (a0 == 8) a0 0 0 0 0))) = some (r1, r2, r3, r4, r5) := by rw [if_neg (show ¬ (false = true) by decide)] at H; exact H
     clear H
     have H := H1
     clear H1
     by_cases c25 : a0 = 5
     ·rw [if_pos c25] at H
      have c25b0 : (a0 == 5) = true := beq_iff_eq.mpr c25
      have c25b1 : (a0 != 5) = false := bne_eq_false_iff_eq.mpr c25
      clear c25
      by_cases c26 : 0 < (l1.length : Int)
      ·rw [if_pos c26] at H
       have c26b0 : decide (0 < (l1.length : Int)) = true := decide_eq_true c26
       have c26b1 : decide (0 < l1.length) = true := decide_eq_true (by omega)
       clear c26
       by_cases c27 : 1 < (l1.length : Int)
       ·rw [if_pos c27] at H
        have c27b0 : decide (1 < (l1.length : Int)) = true := decide_eq_true c27
        have c27b1 : decide (1 < l1.length) = true := decide_eq_true (by omega)
        clear c27
        simp only [Option.some.injEq, Prod.mk.injEq] at H
        obtain ⟨rfl, rfl, rfl, rfl, rfl⟩ := H
        have p325 : 0 ≤ (0 : Int) := (by omega)
        have q325 : 0 < (l1.length : Int) := of_decide_eq_true (by first | (with_reducible assumption) | assumption)
        obtain ⟨ad325, e325, hx325_0⟩ := Kd.at_int HR1.out 0 p325 q325
        cases e325
        have qi325 : (0 < l1.length) = True := eq_true (by omega)
        (try rw [show ((0 : Int)).toNat = 0 from rfl] at hx325_0)
        (try rw [Addr.add_zero'] at hx325_0)
        replace hx325_0 := (HB.out.cell (World.block_lt_of_cell? w _ hx325_0)).trans hx325_0
        replace p325 := eq_true p325
        replace q325 := eq_true q325
        have hnb28 := NB319_318.out
        have hnc28 := NB318_319.out
        have hcz29_0 : wc.cell? ⟨gb319, 0, none⟩ = some (.int .i64 a0) := (blk_cell BK319.out 0).trans rfl
        have hcz29_1 : wc.cell? ⟨gb319, 1, none⟩ = some (.int .i64 0) := (blk_cell BK319.out 1).trans rfl
        have hcz29_2 : wc.cell? ⟨gb319, 2, none⟩ = some (.int .i64 0) := (blk_cell BK319.out 2).trans rfl
        have hcz29_3 : wc.cell? ⟨gb319, 3, none⟩ = some (.int .i64 0) := (blk_cell BK319.out 3).trans rfl
        have hcz29_4 : wc.cell? ⟨gb319, 4, none⟩ = some (.int .i64 0) := (blk_cell BK319.out 4).trans rfl
        have hfz29_0 := blk_frozen BK319.out 0
        have hfz29_1 := blk_frozen BK319.out 1
        have hfz29_2 := blk_frozen BK319.out 2
        have hfz29_3 := blk_frozen BK319.out 3
        have hfz29_4 := blk_frozen BK319.out 4
        have p326 : 0 ≤ (1 : Int) := (by omega)
        have q326 : 1 < (l1.length : Int) := of_decide_eq_true (by first | (with_reducible assumption) | assumption)
        obtain ⟨ad326, e326, hx326_0⟩ := Kd.at_int HR1.out 1 p326 q326
        obtain rfl : ad325 = ad326 := (by injection e326)
        (try simp only [show (1 : Int).toNat = 1 from rfl, Nat.reduceMul, Nat.reduceEqDiff, Go.Addr.add, ↓reduceIte] at hx326_0)
        have qi326 : (1 < l1.length) = True := eq_true (by omega)
        (try rw [show ((1 : Int)).toNat = 1 from rfl] at hx326_0)
        have hn326_0 : ad325.block ≠ gb319 := Nat.ne_of_lt (Nat.lt_of_lt_of_le (by have := World.block_lt_of_cell? _ _ hx326_0; first | rwa [add_block] at this | exact this) GW319.out)
        replace hx326_0 := (HB.out.cell (World.block_lt_of_cell? w _ hx326_0)).trans hx326_0
        replace hx326_0 := (cell_far (p := ⟨gb319, 4, none⟩) (by first | (rw [add_block]; exact hn326_0) | (show (Addr.add _ _).block ≠ _; rw [add_block]; exact hn326_0) | exact hn326_0) (.int .i64 (rd l1 0))).trans hx326_0
        clear hn326_0
        replace p326 := eq_true p326
        replace q326 := eq_true q326
        have hcz30_0 : wc.cell? ⟨gb318, 0, none⟩ = some (.int .i64 0) := (blk_cell BK318.out 0).trans rfl
        have hcz30_1 : wc.cell? ⟨gb318, 1, none⟩ = some (.int .i64 0) := (blk_cell BK318.out 1).trans rfl
        have hcz30_2 : wc.cell? ⟨gb318, 2, none⟩ = some (.int .i64 0) := (blk_cell BK318.out 2).trans rfl
        have hcz30_3 : wc.cell? ⟨gb318, 3, none⟩ = some (.int .i64 0) := (blk_cell BK318.out 3).trans rfl
        have hcz30_4 : wc.cell? ⟨gb318, 4, none⟩ = some (.int .i64 0) := (blk_cell BK318.out 4).trans rfl
        have hfz30_0 := blk_frozen BK318.out 0
        have hfz30_1 := blk_frozen BK318.out 1
        have hfz30_2 := blk_frozen BK318.out 2
        have hfz30_3 := blk_frozen BK318.out 3
        have hfz30_4 := blk_frozen BK318.out 4
        go_wp2
        refine bodyPost_ret (results_cell_row rfl _ _ gb318 32 #[.int .i64 a0, .int .i64 0, .int .i64 (rd l1 1), .int .i64 0, .int .i64 (rd l1 0)] (0, 0) _ rfl (by (with_reducible repeat (first | refine bN_ ?_ _ | refine bD_ ?_ | refine bA_ ?_ _)); refine blk_put (cs := #[.int .i64 a0, .int .i64 0, .int .i64 (rd l1 1), .int .i64 0, .int .i64 0]) ?_ 4 _ rfl; (with_reducible repeat (first | refine bN_ ?_ _ | refine bD_ ?_ | refine bA_ ?_ _)); refine blk_put (cs := #[.int .i64 a0, .int .i64 0, .int .i64 (rd l1 1), .int .i64 0, .int .i64 0]) ?_ 3 _ rfl; (with_reducible repeat (first | refine bN_ ?_ _ | refine bD_ ?_ | refine bA_ ?_ _)); refine blk_put (cs := #[.int .i64 a0, .int .i64 0, .int .i64 0, .int .i64 0, .int .i64 0]) ?_ 2 _ rfl; (with_reducible repeat (first | refine bN_ ?_ _ | refine bD_ ?_ | refine bA_ ?_ _)); refine blk_put (cs := #[.int .i64 a0, .int .i64 0, .int .i64 0, .int .i64 0, .int .i64 0]) ?_ 1 _ rfl; (with_reducible repeat (first | refine bN_ ?_ _ | refine bD_ ?_ | refine bA_ ?_ _)); refine blk_put (cs := #[.int .i64 0, .int .i64 0, .int .i64 0, .int .i64 0, .int .i64 0]) ?_ 0 _ rfl; (with_reducible repeat (first | refine bN_ ?_ _ | refine bD_ ?_ | refine bA_ ?_ _)); refine blk_far ?_ NB318_319.out _; (with_reducible repeat (first | refine bN_ ?_ _ | refine bD_ ?_ | refine bA_ ?_ _)); refine blk_far ?_ NB318_319.out _; (with_reducible repeat (first | refine bN_ ?_ _ | refine bD_ ?_ | refine bA_ ?_ _)); exact BK318.out) Tryd.underlying32 rfl (by kernel_rfl)) rfl ?_
        exact ⟨by first | rfl | (simp [errW_none, errW_some] <;> rfl) | (simp [*, errW_none, errW_some] <;> rfl), by repeat (first | (with_reducible first | exact HB.out | apply hA_ | apply hN_ | apply hD_ | refine below_set ?_ GE318.out | refine below_set ?_ GE319.out) | exact HB.out)⟩
       ·rw [if_neg c27] at H
        exact absurd H (by simp)
      ·rw [if_neg c26] at H
       exact absurd H (by simp)
     ·rw [if_neg c25] at H
      have c25b0 : (a0 == 5) = false := beq_eq_false_iff_ne.mpr c25
      have c25b1 : (a0 != 5) = true := bne_iff_ne.mpr c25
      have HC31 := aM_ H
      clear H
      go_upto_if 45 with (fail)
      go_cut [45] (fun v45 wc => ∃ (kq : Nat) (x45_30 : Bool), v45 = .bool x45_30 ∧ Aside0 (spec_l2Put.j1 kq l1 a0 x45_30 a0 0 0 0 0 = some (r1, r2, r3, r4, r5)) ∧ Aside0 (kq ≤ kj10) ∧ Aside0 (wc.heap[gb318]? = some (.cells #[.int .i64 0, .int .i64 0, .int .i64 0, .int .i64 0, .int .i64 0] 32 (0, 0))) ∧ Aside0 (wc.heap[gb319]? = some (.cells #[.int .i64 a0, .int .i64 0, .int .i64 0, .int .i64 0, .int .i64 0] 32 (0, 0))) ∧ Aside0 (Below w.heap.size w wc))
      case first =>
       have H := HC31.out
       clear HC31
       by_cases c32 : a0 = 6
       ·rw [if_pos c32] at H
        have c32b0 : (a0 == 6) = true := beq_iff_eq.mpr c32
        have c32b1 : (a0 != 6) = false := bne_eq_false_iff_eq.mpr c32
        clear c32
        (first | rw [c32b0] | (simp only [i64_w, i32_w]; rw [c32b0]) | skip)
        have H' := aM_ H
        clear H
        go_wp2
        go_meet
        case rel => exact ⟨_, ((a0 == 6)), (by first | rfl | (simp; done) | (simp [*]; done)), H', ⟨by have := HJ10.out; first | omega | exact Nat.le_refl _⟩, ⟨by (with_reducible repeat (first | refine bN_ ?_ _ | refine bD_ ?_ | refine bA_ ?_ _)); exact BK318.out⟩, ⟨by (with_reducible repeat (first | refine bN_ ?_ _ | refine bD_ ?_ | refine bA_ ?_ _)); exact BK319.out⟩, ⟨by repeat (first | (with_reducible first | exact HB.out | apply hA_ | apply hN_ | apply hD_ | refine below_set ?_ GE318.out | refine below_set ?_ GE319.out) | exact HB.out)⟩⟩
       ·rw [if_neg c32] at H
        have c32b0 : (a0 == 6) = false := beq_eq_false_iff_ne.mpr c32
        have c32b1 : (a0 != 6) = true := bne_iff_ne.mpr c32
        (first | rw [c32b0] | (simp only [i64_w, i32_w]; rw [c32b0]) | skip)
        have H' := aM_ H
        clear H
        go_wp2
        go_meet
        case rel => exact ⟨_, ((a0 == 8)), (by first | rfl | (simp; done) | (simp [*]; done)), H', ⟨by have := HJ10.out; first | omega | exact Nat.le_refl _⟩, ⟨by (with_reducible repeat (first | refine bN_ ?_ _ | refine bD_ ?_ | refine bA_ ?_ _)); exact BK318.out⟩, ⟨by (with_reducible repeat (first | refine bN_ ?_ _ | refine bD_ ?_ | refine bA_ ?_ _)); exact BK319.out⟩, ⟨by repeat (first | (with_reducible first | exact HB.out | apply hA_ | apply hN_ | apply hD_ | refine below_set ?_ GE318.out | refine below_set ?_ GE319.out) | exact HB.out)⟩⟩
      case rest =>
       clear HC31
       try clear c1
       try clear c2
       try clear p2
       try clear c3
       try clear c3b0
       try clear c3b1
       try clear p3
       try clear q3
       try clear hx3
       try clear qi3
       try clear c4
       try clear c4b0
       try clear c4b1
       try clear c5
       try clear c5b0
       try clear c5b1
       try clear c8
       try clear c10
       try clear c14
       try clear c16
       try clear c16b0
       try clear c16b1
       try clear c17
       try clear c17b0
       try clear c17b1
       try clear c18
       try clear c19
       try clear c19b0
       try clear c19b1
       try clear c20
       try clear c20b0
       try clear c20b1
       try clear c21
       try clear c21b0
       try clear c21b1
       try clear c22
       try clear c25
       try clear c25b0
       try clear c25b1
       try clear c26
       try clear c26b0
       try clear c26b1
       try clear c27
       try clear c27b0
       try clear c27b1
       try clear c28
       try clear c32
       try clear c32b0
       try clear c32b1
       try clear p32
       try clear q32
       try clear hx32
       try clear qi32
       try clear hcz10_0
       try clear hcz10_1
       try clear hcz10_2
       try clear hcz10_3
       try clear hcz10_4
       try clear hcz15_0
       try clear hcz15_1
       try clear hcz15_2
       try clear hcz15_3
       try clear hcz15_4
       try clear hcz23_0
       try clear hcz23_1
       try clear hcz23_2
       try clear hcz23_3
       try clear hcz23_4
       try clear hcz24_0
       try clear hcz24_1
       try clear hcz24_2
       try clear hcz24_3
       try clear hcz24_4
       try clear hcz29_0
       try clear hcz29_1
       try clear hcz29_2
       try clear hcz29_3
       try clear hcz29_4
       try clear hcz30_0
       try clear hcz30_1
       try clear hcz30_2
       try clear hcz30_3
       try clear hcz30_4
       try clear hcz9_0
       try clear hcz9_1
       try clear hcz9_2
       try clear hcz9_3
       try clear hcz9_4
       try clear hfz10_0
       try clear hfz10_1
       try clear hfz10_2
       try clear hfz10_3
       try clear hfz10_4
       try clear hfz15_0
       try clear hfz15_1
       try clear hfz15_2
       try clear hfz15_3
       try clear hfz15_4
       try clear hfz23_0
       try clear hfz23_1
       try clear hfz23_2
       try clear hfz23_3
       try clear hfz23_4
       try clear hfz24_0
       try clear hfz24_1
       try clear hfz24_2
       try clear hfz24_3
       try clear hfz24_4
       try clear hfz29_0
       try clear hfz29_1
       try clear hfz29_2
       try clear hfz29_3
       try clear hfz29_4
       try clear hfz30_0
       try clear hfz30_1
       try clear hfz30_2
       try clear hfz30_3
       try clear hfz30_4
       try clear hfz9_0
       try clear hfz9_1
       try clear hfz9_2
       try clear hfz9_3
       try clear hfz9_4
       try clear hx320_0
       try clear hx321_0
       try clear hx322_0
       try clear hx323_0
       try clear hx324_0
       try clear hx325_0
       try clear hx326_0
       try clear p2
       try clear p3
       try clear p320
       try clear p321
       try clear p322
       try clear p323
       try clear p324
       try clear p325
       try clear p326
       try clear q3
       try clear q320
       try clear q321
       try clear q322
       try clear q323
       try clear q324
       try clear q325
       try clear q326
       obtain ⟨kq, x45_30, rfl, HA, HJ30, BK318, BK319, HB⟩ := hcut
       cases kq with
       | zero => exact absurd HA.out (by simp [spec_l2Put.j1])
       | succ kj30 =>
        have H := HA.out
        clear HA
        simp only [spec_l2Put.j1] at H
        by_cases c33 : x45_30 = true
        ·subst c33
         have H1 : (if 0 < (l1.length : Int) then (if 1 < (l1.length : Int) then (if 2 < (l1.length : Int) then (some (a0, rd l1 0, 0, rd l1 1, rd l1 2)) else (none)) else (none)) else (none)) = some (r1, r2, r3, r4, r5) := by rw [if_pos rfl] at H; exact H
         clear H
         have H := H1
         clear H1
         by_cases c34 : 0 < (l1.length : Int)
         ·rw [if_pos c34] at H
          have c34b0 : decide (0 < (l1.length : Int)) = true := decide_eq_true c34
          have c34b1 : decide (0 < l1.length) = true := decide_eq_true (by omega)
          clear c34
          by_cases c35 : 1 < (l1.length : Int)
          ·rw [if_pos c35] at H
           have c35b0 : decide (1 < (l1.length : Int)) = true := decide_eq_true c35
           have c35b1 : decide (1 < l1.length) = true := decide_eq_true (by omega)
           clear c35
           by_cases c36 : 2 < (l1.length : Int)
           ·rw [if_pos c36] at H
            have c36b0 : decide (2 < (l1.length : Int)) = true := decide_eq_true c36
            have c36b1 : decide (2 < l1.length) = true := decide_eq_true (by omega)
            clear c36
            simp only [Option.some.injEq, Prod.mk.injEq] at H
            obtain ⟨rfl, rfl, rfl, rfl, rfl⟩ := H
            have p327 : 0 ≤ (0 : Int) := (by omega)
            have q327 : 0 < (l1.length : Int) := of_decide_eq_true (by first | (with_reducible assumption) | assumption)
            obtain ⟨ad327, e327, hx327_0⟩ := Kd.at_int HR1.out 0 p327 q327
            cases e327
            have qi327 : (0 < l1.length) = True := eq_true (by omega)
            (try rw [show ((0 : Int)).toNat = 0 from rfl] at hx327_0)
            (try rw [Addr.add_zero'] at hx327_0)
            replace hx327_0 := (HB.out.cell (World.block_lt_of_cell? w _ hx327_0)).trans hx327_0
            replace p327 := eq_true p327
            replace q327 := eq_true q327
            have hnb37 := NB319_318.out
            have hnc37 := NB318_319.out
            have hcz38_0 : wc.cell? ⟨gb319, 0, none⟩ = some (.int .i64 a0) := (blk_cell BK319.out 0).trans rfl
            have hcz38_1 : wc.cell? ⟨gb319, 1, none⟩ = some (.int .i64 0) := (blk_cell BK319.out 1).trans rfl
            have hcz38_2 : wc.cell? ⟨gb319, 2, none⟩ = some (.int .i64 0) := (blk_cell BK319.out 2).trans rfl
            have hcz38_3 : wc.cell? ⟨gb319, 3, none⟩ = some (.int .i64 0) := (blk_cell BK319.out 3).trans rfl
            have hcz38_4 : wc.cell? ⟨gb319, 4, none⟩ = some (.int .i64 0) := (blk_cell BK319.out 4).trans rfl
            have hfz38_0 := blk_frozen BK319.out 0
            have hfz38_1 := blk_frozen BK319.out 1
            have hfz38_2 := blk_frozen BK319.out 2
            have hfz38_3 := blk_frozen BK319.out 3
            have hfz38_4 := blk_frozen BK319.out 4
            have p328 : 0 ≤ (1 : Int) := (by omega)
            have q328 : 1 < (l1.length : Int) := of_decide_eq_true (by first | (with_reducible assumption) | assumption)
            obtain ⟨ad328, e328, hx328_0⟩ := Kd.at_int HR1.out 1 p328 q328
            obtain rfl : ad327 = ad328 := (by injection e328)
            (try simp only [show (1 : Int).toNat = 1 from rfl, Nat.reduceMul, Nat.reduceEqDiff, Go.Addr.add, ↓reduceIte] at hx328_0)
            have qi328 : (1 < l1.length) = True := eq_true (by omega)
            (try rw [show ((1 : Int)).toNat = 1 from rfl] at hx328_0)
            have hn328_0 : ad327.block ≠ gb319 := Nat.ne_of_lt (Nat.lt_of_lt_of_le (by have := World.block_lt_of_cell? _ _ hx328_0; first | rwa [add_block] at this | exact this) GW319.out)
            replace hx328_0 := (HB.out.cell (World.block_lt_of_cell? w _ hx328_0)).trans hx328_0
            replace hx328_0 := (cell_far (p := ⟨gb319, 1, none⟩) (by first | (rw [add_block]; exact hn328_0) | (show (Addr.add _ _).block ≠ _; rw [add_block]; exact hn328_0) | exact hn328_0) (.int .i64 (rd l1 0))).trans hx328_0
            clear hn328_0
            replace p328 := eq_true p328
            replace q328 := eq_true q328
            have p329 : 0 ≤ (2 : Int) := (by omega)
            have q329 : 2 < (l1.length : Int) := of_decide_eq_true (by first | (with_reducible assumption) | assumption)
            obtain ⟨ad329, e329, hx329_0⟩ := Kd.at_int HR1.out 2 p329 q329
            obtain rfl : ad327 = ad329 := (by injection e329)
            (try simp only [show (2 : Int).toNat = 2 from rfl, Nat.reduceMul, Nat.reduceEqDiff, Go.Addr.add, ↓reduceIte] at hx329_0)
            have qi329 : (2 < l1.length) = True := eq_true (by omega)
            (try rw [show ((2 : Int)).toNat = 2 from rfl] at hx329_0)
            have hn329_0 : ad327.block ≠ gb319 := Nat.ne_of_lt (Nat.lt_of_lt_of_le (by have := World.block_lt_of_cell? _ _ hx329_0; first | rwa [add_block] at this | exact this) GW319.out)
            have hn329_1 : ad327.block ≠ gb319 := Nat.ne_of_lt (Nat.lt_of_lt_of_le (by have := World.block_lt_of_cell? _ _ hx329_0; first | rwa [add_block] at this | exact this) GW319.out)
            replace hx329_0 := (HB.out.cell (World.block_lt_of_cell? w _ hx329_0)).trans hx329_0
            replace hx329_0 := (cell_far (p := ⟨gb319, 1, none⟩) (by first | (rw [add_block]; exact hn329_0) | (show (Addr.add _ _).block ≠ _; rw [add_block]; exact hn329_0) | exact hn329_0) (.int .i64 (rd l1 0))).trans hx329_0
            replace hx329_0 := (cell_far (p := ⟨gb319, 3, none⟩) (by first | (rw [add_block]; exact hn329_1) | (show (Addr.add _ _).block ≠ _; rw [add_block]; exact hn329_1) | exact hn329_1) (.int .i64 (rd l1 1))).trans hx329_0
            clear hn329_0
            clear hn329_1
            replace p329 := eq_true p329
            replace q329 := eq_true q329
            have hcz39_0 : wc.cell? ⟨gb318, 0, none⟩ = some (.int .i64 0) := (blk_cell BK318.out 0).trans rfl
            have hcz39_1 : wc.cell? ⟨gb318, 1, none⟩ = some (.int .i64 0) := (blk_cell BK318.out 1).trans rfl
            have hcz39_2 : wc.cell? ⟨gb318, 2, none⟩ = some (.int .i64 0) := (blk_cell BK318.out 2).trans rfl
            have hcz39_3 : wc.cell? ⟨gb318, 3, none⟩ = some (.int .i64 0) := (blk_cell BK318.out 3).trans rfl
            have hcz39_4 : wc.cell? ⟨gb318, 4, none⟩ = some (.int .i64 0) := (blk_cell BK318.out 4).trans rfl
            have hfz39_0 := blk_frozen BK318.out 0
            have hfz39_1 := blk_frozen BK318.out 1
            have hfz39_2 := blk_frozen BK318.out 2
            have hfz39_3 := blk_frozen BK318.out 3
            have hfz39_4 := blk_frozen BK318.out 4
            go_wp2
            refine bodyPost_ret (results_cell_row rfl _ _ gb318 32 #[.int .i64 a0, .int .i64 (rd l1 0), .int .i64 0, .int .i64 (rd l1 1), .int .i64 (rd l1 2)] (0, 0) _ rfl (by (with_reducible repeat (first | refine bN_ ?_ _ | refine bD_ ?_ | refine bA_ ?_ _)); refine blk_put (cs := #[.int .i64 a0, .int .i64 (rd l1 0), .int .i64 0, .int .i64 (rd l1 1), .int .i64 0]) ?_ 4 _ rfl; (with_reducible repeat (first | refine bN_ ?_ _ | refine bD_ ?_ | refine bA_ ?_ _)); refine blk_put (cs := #[.int .i64 a0, .int .i64 (rd l1 0), .int .i64 0, .int .i64 0, .int .i64 0]) ?_ 3 _ rfl; (with_reducible repeat (first | refine bN_ ?_ _ | refine bD_ ?_ | refine bA_ ?_ _)); refine blk_put (cs := #[.int .i64 a0, .int .i64 (rd l1 0), .int .i64 0, .int .i64 0, .int .i64 0]) ?_ 2 _ rfl; (with_reducible repeat (first | refine bN_ ?_ _ | refine bD_ ?_ | refine bA_ ?_ _)); refine blk_put (cs := #[.int .i64 a0, .int .i64 0, .int .i64 0, .int .i64 0, .int .i64 0]) ?_ 1 _ rfl; (with_reducible repeat (first | refine bN_ ?_ _ | refine bD_ ?_ | refine bA_ ?_ _)); refine blk_put (cs := #[.int .i64 0, .int .i64 0, .int .i64 0, .int .i64 0, .int .i64 0]) ?_ 0 _ rfl; (with_reducible repeat (first | refine bN_ ?_ _ | refine bD_ ?_ | refine bA_ ?_ _)); refine blk_far ?_ NB318_319.out _; (with_reducible repeat (first | refine bN_ ?_ _ | refine bD_ ?_ | refine bA_ ?_ _)); refine blk_far ?_ NB318_319.out _; (with_reducible repeat (first | refine bN_ ?_ _ | refine bD_ ?_ | refine bA_ ?_ _)); refine blk_far ?_ NB318_319.out _; (with_reducible repeat (first | refine bN_ ?_ _ | refine bD_ ?_ | refine bA_ ?_ _)); exact BK318.out) Tryd.underlying32 rfl (by kernel_rfl)) rfl ?_
            exact ⟨by first | rfl | (simp [errW_none, errW_some] <;> rfl) | (simp [*, errW_none, errW_some] <;> rfl), by repeat (first | (with_reducible first | exact HB.out | apply hA_ | apply hN_ | apply hD_ | refine below_set ?_ GE318.out | refine below_set ?_ GE319.out) | exact HB.out)⟩
           ·rw [if_neg c36] at H
            exact absurd H (by simp)
          ·rw [if_neg c35] at H
           exact absurd H (by simp)
         ·rw [if_neg c34] at H
          exact absurd H (by simp)
        ·replace c33 := Bool.eq_false_iff.mpr c33
         subst c33
         have H1 : (if a0 = 7 then (if 0 < (l1.length : Int) then (if 1 < (l1.length : Int) then (if 2 < (l1.length : Int) then (some (a0, rd l1 0, rd l1 2, 0, rd l1 1)) else (none)) else (none)) else (none)) else (if a0 = 9 then (spec_l2Put.j2 kj30 l1 a0 (a0 == 9) a0 0 0 0 0) else (spec_l2Put.j2 kj30 l1 a0 (a0 == 11) a0 0 0 0 0))) = some (r1, r2, r3, r4, r5) := by rw [if_neg (show ¬ (false = true) by decide)] at H; exact H
         clear H
         have H := H1
         clear H1
         by_cases c40 : a0 = 7
         ·rw [if_pos c40] at H
          have c40b0 : (a0 == 7) = true := beq_iff_eq.mpr c40
          have c40b1 : (a0 != 7) = false := bne_eq_false_iff_eq.mpr c40
          clear c40
          by_cases c41 : 0 < (l1.length : Int)
          ·rw [if_pos c41] at H
           have c41b0 : decide (0 < (l1.length : Int)) = true := decide_eq_true c41
           have c41b1 : decide (0 < l1.length) = true := decide_eq_true (by omega)
           clear c41
           by_cases c42 : 1 < (l1.length : Int)
           ·rw [if_pos c42] at H
            have c42b0 : decide (1 < (l1.length : Int)) = true := decide_eq_true c42
            have c42b1 : decide (1 < l1.length) = true := decide_eq_true (by omega)
            clear c42
            by_cases c43 : 2 < (l1.length : Int)
            ·rw [if_pos c43] at H
             have c43b0 : decide (2 < (l1.length : Int)) = true := decide_eq_true c43
             have c43b1 : decide (2 < l1.length) = true := decide_eq_true (by omega)
             clear c43
             simp only [Option.some.injEq, Prod.mk.injEq] at H
             obtain ⟨rfl, rfl, rfl, rfl, rfl⟩ := H
             have p330 : 0 ≤ (0 : Int) := (by omega)
             have q330 : 0 < (l1.length : Int) := of_decide_eq_true (by first | (with_reducible assumption) | assumption)
             obtain ⟨ad330, e330, hx330_0⟩ := Kd.at_int HR1.out 0 p330 q330
             cases e330
             have qi330 : (0 < l1.length) = True := eq_true (by omega)
             (try rw [show ((0 : Int)).toNat = 0 from rfl] at hx330_0)
             (try rw [Addr.add_zero'] at hx330_0)
             replace hx330_0 := (HB.out.cell (World.block_lt_of_cell? w _ hx330_0)).trans hx330_0
             replace p330 := eq_true p330
             replace q330 := eq_true q330
             have hnb44 := NB319_318.out
             have hnc44 := NB318_319.out
             have hcz45_0 : wc.cell? ⟨gb319, 0, none⟩ = some (.int .i64 a0) := (blk_cell BK319.out 0).trans rfl
             have hcz45_1 : wc.cell? ⟨gb319, 1, none⟩ = some (.int .i64 0) := (blk_cell BK319.out 1).trans rfl
             have hcz45_2 : wc.cell? ⟨gb319, 2, none⟩ = some (.int .i64 0) := (blk_cell BK319.out 2).trans rfl
             have hcz45_3 : wc.cell? ⟨gb319, 3, none⟩ = some (.int .i64 0) := (blk_cell BK319.out 3).trans rfl
             have hcz45_4 : wc.cell? ⟨gb319, 4, none⟩ = some (.int .i64 0) := (blk_cell BK319.out 4).trans rfl
             have hfz45_0 := blk_frozen BK319.out 0
             have hfz45_1 := blk_frozen BK319.out 1
             have hfz45_2 := blk_frozen BK319.out 2
             have hfz45_3 := blk_frozen BK319.out 3
             have hfz45_4 := blk_frozen BK319.out 4
             have p331 : 0 ≤ (1 : Int) := (by omega)
             have q331 : 1 < (l1.length : Int) := of_decide_eq_true (by first | (with_reducible assumption) | assumption)
             obtain ⟨ad331, e331, hx331_0⟩ := Kd.at_int HR1.out 1 p331 q331
             obtain rfl : ad330 = ad331 := (by injection e331)
             (try simp only [show (1 : Int).toNat = 1 from rfl, Nat.reduceMul, Nat.reduceEqDiff, Go.Addr.add, ↓reduceIte] at hx331_0)
             have qi331 : (1 < l1.length) = True := eq_true (by omega)
             (try rw [show ((1 : Int)).toNat = 1 from rfl] at hx331_0)
             have hn331_0 : ad330.block ≠ gb319 := Nat.ne_of_lt (Nat.lt_of_lt_of_le (by have := World.block_lt_of_cell? _ _ hx331_0; first | rwa [add_block] at this | exact this) GW319.out)
             replace hx331_0 := (HB.out.cell (World.block_lt_of_cell? w _ hx331_0)).trans hx331_0
             replace hx331_0 := (cell_far (p := ⟨gb319, 1, none⟩) (by first | (rw [add_block]; exact hn331_0) | (show (Addr.add _ _).block ≠ _; rw [add_block]; exact hn331_0) | exact hn331_0) (.int .i64 (rd l1 0))).trans hx331_0
             clear hn331_0
             replace p331 := eq_true p331
             replace q331 := eq_true q331
             have p332 : 0 ≤ (2 : Int) := (by omega)
             have q332 : 2 < (l1.length : Int) := of_decide_eq_true (by first | (with_reducible assumption) | assumption)
             obtain ⟨ad332, e332, hx332_0⟩ := Kd.at_int HR1.out 2 p332 q332
             obtain rfl : ad330 = ad332 := (by injection e332)
             (try simp only [show (2 : Int).toNat = 2 from rfl, Nat.reduceMul, Nat.reduceEqDiff, Go.Addr.add, ↓reduceIte] at hx332_0)
             have qi332 : (2 < l1.length) = True := eq_true (by omega)
             (try rw [show ((2 : Int)).toNat = 2 from rfl] at hx332_0)
             have hn332_0 : ad330.block ≠ gb319 := Nat.ne_of_lt (Nat.lt_of_lt_of_le (by have := World.block_lt_of_cell? _ _ hx332_0; first | rwa [add_block] at this | exact this) GW319.out)
             have hn332_1 : ad330.block ≠ gb319 := Nat.ne_of_lt (Nat.lt_of_lt_of_le (by have := World.block_lt_of_cell? _ _ hx332_0; first | rwa [add_block] at this | exact this) GW319.out)
             replace hx332_0 := (HB.out.cell (World.block_lt_of_cell? w _ hx332_0)).trans hx332_0
             replace hx332_0 := (cell_far (p := ⟨gb319, 1, none⟩) (by first | (rw [add_block]; exact hn332_0) | (show (Addr.add _ _).block ≠ _; rw [add_block]; exact hn332_0) | exact hn332_0) (.int .i64 (rd l1 0))).trans hx332_0
             replace hx332_0 := (cell_far (p := ⟨gb319, 4, none⟩) (by first | (rw [add_block]; exact hn332_1) | (show (Addr.add _ _).block ≠ _; rw [add_block]; exact hn332_1) | exact hn332_1) (.int .i64 (rd l1 1))).trans hx332_0
             clear hn332_0
             clear hn332_1
             replace p332 := eq_true p332
             replace q332 := eq_true q332
             have hcz46_0 : wc.cell? ⟨gb318, 0, none⟩ = some (.int .i64 0) := (blk_cell BK318.out 0).trans rfl
             have hcz46_1 : wc.cell? ⟨gb318, 1, none⟩ = some (.int .i64 0) := (blk_cell BK318.out 1).trans rfl
             have hcz46_2 : wc.cell? ⟨gb318, 2, none⟩ = some (.int .i64 0) := (blk_cell BK318.out 2).trans rfl
             have hcz46_3 : wc.cell? ⟨gb318, 3, none⟩ = some (.int .i64 0) := (blk_cell BK318.out 3).trans rfl
             have hcz46_4 : wc.cell? ⟨gb318, 4, none⟩ = some (.int .i64 0) := (blk_cell BK318.out 4).trans rfl
             have hfz46_0 := blk_frozen BK318.out 0
             have hfz46_1 := blk_frozen BK318.out 1
             have hfz46_2 := blk_frozen BK318.out 2
             have hfz46_3 := blk_frozen BK318.out 3
             have hfz46_4 := blk_frozen BK318.out 4
             go_wp2
             refine bodyPost_ret (results_cell_row rfl _ _ gb318 32 #[.int .i64 a0, .int .i64 (rd l1 0), .int .i64 (rd l1 2), .int .i64 0, .int .i64 (rd l1 1)] (0, 0) _ rfl (by (with_reducible repeat (first | refine bN_ ?_ _ | refine bD_ ?_ | refine bA_ ?_ _)); refine blk_put (cs := #[.int .i64 a0, .int .i64 (rd l1 0), .int .i64 (rd l1 2), .int .i64 0, .int .i64 0]) ?_ 4 _ rfl; (with_reducible repeat (first | refine bN_ ?_ _ | refine bD_ ?_ | refine bA_ ?_ _)); refine blk_put (cs := #[.int .i64 a0, .int .i64 (rd l1 0), .int .i64 (rd l1 2), .int .i64 0, .int .i64 0]) ?_ 3 _ rfl; (with_reducible repeat (first | refine bN_ ?_ _ | refine bD_ ?_ | refine bA_ ?_ _)); refine blk_put (cs := #[.int .i64 a0, .int .i64 (rd l1 0), .int .i64 0, .int .i64 0, .int .i64 0]) ?_ 2 _ rfl; (with_reducible repeat (first | refine bN_ ?_ _ | refine bD_ ?_ | refine bA_ ?_ _)); refine blk_put (cs := #[.int .i64 a0, .int .i64 0, .int .i64 0, .int .i64 0, .int .i64 0]) ?_ 1 _ rfl; (with_reducible repeat (first | refine bN_ ?_ _ | refine bD_ ?_ | refine bA_ ?_ _)); refine blk_put (cs := #[.int .i64 0, .int .i64 0, .int .i64 0, .int .i64 0, .int .i64 0]) ?_ 0 _ rfl; (with_reducible repeat (first | refine bN_ ?_ _ | refine bD_ ?_ | refine bA_ ?_ _)); refine blk_far ?_ NB318_319.out _; (with_reducible repeat (first | refine bN_ ?_ _ | refine bD_ ?_ | refine bA_ ?_ _)); refine blk_far ?_ NB318_319.out _; (with_reducible repeat (first | refine bN_ ?_ _ | refine bD_ ?_ | refine bA_ ?_ _)); refine blk_far ?_ NB318_319.out _; (with_reducible repeat (first | refine bN_ ?_ _ | refine bD_ ?_ | refine bA_ ?_ _)); exact BK318.out) Tryd.underlying32 rfl (by kernel_rfl)) rfl ?_
             exact ⟨by first | rfl | (simp [errW_none, errW_some] <;> rfl) | (simp [*, errW_none, errW_some] <;> rfl), by repeat (first | (with_reducible first | exact HB.out | apply hA_ | apply hN_ | apply hD_ | refine below_set ?_ GE318.out | refine below_set ?_ GE319.out) | exact HB.out)⟩
            ·rw [if_neg c43] at H
             exact absurd H (by simp)
           ·rw [if_neg c42] at H
            exact absurd H (by simp)
          ·rw [if_neg c41] at H
           exact absurd H (by simp)
         ·rw [if_neg c40] at H
          have c40b0 : (a0 == 7) = false := beq_eq_false_iff_ne.mpr c40
          have c40b1 : (a0 != 7) = true := bne_iff_ne.mpr c40
          have HC47 := aM_ H
          clear H
          go_upto_if 74 with (fail)
          go_cut [74] (fun v74 wc => ∃ (kq : Nat) (x74_46 : Bool), v74 = .bool x74_46 ∧ Aside0 (spec_l2Put.j2 kq l1 a0 x74_46 a0 0 0 0 0 = some (r1, r2, r3, r4, r5)) ∧ Aside0 (kq ≤ kj30) ∧ Aside0 (wc.heap[gb318]? = some (.cells #[.int .i64 0, .int .i64 0, .int .i64 0, .int .i64 0, .int .i64 0] 32 (0, 0))) ∧ Aside0 (wc.heap[gb319]? = some (.cells #[.int .i64 a0, .int .i64 0, .int .i64 0, .int .i64 0, .int .i64 0] 32 (0, 0))) ∧ Aside0 (Below w.heap.size w wc))
          case first =>
           have H := HC47.out
           clear HC47
           by_cases c48 : a0 = 9
           ·rw [if_pos c48] at H
            have c48b0 : (a0 == 9) = true := beq_iff_eq.mpr c48
            have c48b1 : (a0 != 9) = false := bne_eq_false_iff_eq.mpr c48
            clear c48
            (first | rw [c48b0] | (simp only [i64_w, i32_w]; rw [c48b0]) | skip)
            have H' := aM_ H
            clear H
            go_wp2
            go_meet
            case rel => exact ⟨_, ((a0 == 9)), (by first | rfl | (simp; done) | (simp [*]; done)), H', ⟨by have := HJ10.out; have := HJ30.out; first | omega | exact Nat.le_refl _⟩, ⟨by (with_reducible repeat (first | refine bN_ ?_ _ | refine bD_ ?_ | refine bA_ ?_ _)); exact BK318.out⟩, ⟨by (with_reducible repeat (first | refine bN_ ?_ _ | refine bD_ ?_ | refine bA_ ?_ _)); exact BK319.out⟩, ⟨by repeat (first | (with_reducible first | exact HB.out | apply hA_ | apply hN_ | apply hD_ | refine below_set ?_ GE318.out | refine below_set ?_ GE319.out) | exact HB.out)⟩⟩
           ·rw [if_neg c48] at H
            have c48b0 : (a0 == 9) = false := beq_eq_false_iff_ne.mpr c48
            have c48b1 : (a0 != 9) = true := bne_iff_ne.mpr c48
            (first | rw [c48b0] | (simp only [i64_w, i32_w]; rw [c48b0]) | skip)
            have H' := aM_ H
            clear H
            go_wp2
            go_meet
            case rel => exact ⟨_, ((a0 == 11)), (by first | rfl | (simp; done) | (simp [*]; done)), H', ⟨by have := HJ10.out; have := HJ30.out; first | omega | exact Nat.le_refl _⟩, ⟨by (with_reducible repeat (first | refine bN_ ?_ _ | refine bD_ ?_ | refine bA_ ?_ _)); exact BK318.out⟩, ⟨by (with_reducible repeat (first | refine bN_ ?_ _ | refine bD_ ?_ | refine bA_ ?_ _)); exact BK319.out⟩, ⟨by repeat (first | (with_reducible first | exact HB.out | apply hA_ | apply hN_ | apply hD_ | refine below_set ?_ GE318.out | refine below_set ?_ GE319.out) | exact HB.out)⟩⟩
          case rest =>
           clear HC47
           try clear c1
           try clear c2
           try clear p2
           try clear c3
           try clear c3b0
           try clear c3b1
           try clear p3
           try clear q3
           try clear hx3
           try clear qi3
           try clear c4
           try clear c4b0
           try clear c4b1
           try clear c5
           try clear c5b0
           try clear c5b1
           try clear c8
           try clear c10
           try clear c14
           try clear c16
           try clear c16b0
           try clear c16b1
           try clear c17
           try clear c17b0
           try clear c17b1
           try clear c18
           try clear c19
           try clear c19b0
           try clear c19b1
           try clear c20
           try clear c20b0
           try clear c20b1
           try clear c21
           try clear c21b0
           try clear c21b1
           try clear c22
           try clear c25
           try clear c25b0
           try clear c25b1
           try clear c26
           try clear c26b0
           try clear c26b1
           try clear c27
           try clear c27b0
           try clear c27b1
           try clear c28
           try clear c32
           try clear c32b0
           try clear c32b1
           try clear p32
           try clear q32
           try clear hx32
           try clear qi32
           try clear c33
           try clear p33
           try clear q33
           try clear hx33
           try clear qi33
           try clear c34
           try clear c34b0
           try clear c34b1
           try clear c35
           try clear c35b0
           try clear c35b1
           try clear c36
           try clear c36b0
           try clear c36b1
           try clear c37
           try clear c40
           try clear c40b0
           try clear c40b1
           try clear c41
           try clear c41b0
           try clear c41b1
           try clear c42
           try clear c42b0
           try clear c42b1
           try clear c43
           try clear c43b0
           try clear c43b1
           try clear c44
           try clear c48
           try clear c48b0
           try clear c48b1
           try clear hcz10_0
           try clear hcz10_1
           try clear hcz10_2
           try clear hcz10_3
           try clear hcz10_4
           try clear hcz15_0
           try clear hcz15_1
           try clear hcz15_2
           try clear hcz15_3
           try clear hcz15_4
           try clear hcz23_0
           try clear hcz23_1
           try clear hcz23_2
           try clear hcz23_3
           try clear hcz23_4
           try clear hcz24_0
           try clear hcz24_1
           try clear hcz24_2
           try clear hcz24_3
           try clear hcz24_4
           try clear hcz29_0
           try clear hcz29_1
           try clear hcz29_2
           try clear hcz29_3
           try clear hcz29_4
           try clear hcz30_0
           try clear hcz30_1
           try clear hcz30_2
           try clear hcz30_3
           try clear hcz30_4
           try clear hcz38_0
           try clear hcz38_1
           try clear hcz38_2
           try clear hcz38_3
           try clear hcz38_4
           try clear hcz39_0
           try clear hcz39_1
           try clear hcz39_2
           try clear hcz39_3
           try clear hcz39_4
           try clear hcz45_0
           try clear hcz45_1
           try clear hcz45_2
           try clear hcz45_3
           try clear hcz45_4
           try clear hcz46_0
           try clear hcz46_1
           try clear hcz46_2
           try clear hcz46_3
           try clear hcz46_4
           try clear hcz9_0
           try clear hcz9_1
           try clear hcz9_2
           try clear hcz9_3
           try clear hcz9_4
           try clear hfz10_0
           try clear hfz10_1
           try clear hfz10_2
           try clear hfz10_3
           try clear hfz10_4
           try clear hfz15_0
           try clear hfz15_1
           try clear hfz15_2
           try clear hfz15_3
           try clear hfz15_4
           try clear hfz23_0
           try clear hfz23_1
           try clear hfz23_2
           try clear hfz23_3
           try clear hfz23_4
           try clear hfz24_0
           try clear hfz24_1
           try clear hfz24_2
           try clear hfz24_3
           try clear hfz24_4
           try clear hfz29_0
           try clear hfz29_1
           try clear hfz29_2
           try clear hfz29_3
           try clear hfz29_4
           try clear hfz30_0
           try clear hfz30_1
           try clear hfz30_2
           try clear hfz30_3
           try clear hfz30_4
           try clear hfz38_0
           try clear hfz38_1
           try clear hfz38_2
           try clear hfz38_3
           try clear hfz38_4
           try clear hfz39_0
           try clear hfz39_1
           try clear hfz39_2
           try clear hfz39_3
           try clear hfz39_4
           try clear hfz45_0
           try clear hfz45_1
           try clear hfz45_2
           try clear hfz45_3
           try clear hfz45_4
           try clear hfz46_0
           try clear hfz46_1
           try clear hfz46_2
           try clear hfz46_3
           try clear hfz46_4
           try clear hfz9_0
           try clear hfz9_1
           try clear hfz9_2
           try clear hfz9_3
           try clear hfz9_4
           try clear hx320_0
           try clear hx321_0
           try clear hx322_0
           try clear hx323_0
           try clear hx324_0
           try clear hx325_0
           try clear hx326_0
           try clear hx327_0
           try clear hx328_0
           try clear hx329_0
           try clear hx330_0
           try clear hx331_0
           try clear hx332_0
           try clear p2
           try clear p3
           try clear p32
           try clear p320
           try clear p321
           try clear p322
           try clear p323
           try clear p324
           try clear p325
           try clear p326
           try clear p327
           try clear p328
           try clear p329
           try clear p330
           try clear p331
           try clear p332
           try clear q3
           try clear q32
           try clear q320
           try clear q321
           try clear q322
           try clear q323
           try clear q324
           try clear q325
           try clear q326
           try clear q327
           try clear q328
           try clear q329
           try clear q330
           try clear q331
           try clear q332
           obtain ⟨kq, x74_46, rfl, HA, HJ46, BK318, BK319, HB⟩ := hcut
           cases kq with
           | zero => exact absurd HA.out (by simp [spec_l2Put.j2])
           | succ kj46 =>
            have H := HA.out
            clear HA
            simp only [spec_l2Put.j2] at H
            by_cases c49 : x74_46 = true
            ·subst c49
             have H1 : (if 0 < (l1.length : Int) then (some (a0, 0, 0, 0, rd l1 0)) else (none)) = some (r1, r2, r3, r4, r5) := by rw [if_pos rfl] at H; exact H
             clear H
             have H := H1
             clear H1
             by_cases c50 : 0 < (l1.length : Int)
             ·rw [if_pos c50] at H
              have c50b0 : decide (0 < (l1.length : Int)) = true := decide_eq_true c50
              have c50b1 : decide (0 < l1.length) = true := decide_eq_true (by omega)
              clear c50
              simp only [Option.some.injEq, Prod.mk.injEq] at H
              obtain ⟨rfl, rfl, rfl, rfl, rfl⟩ := H
              have p333 : 0 ≤ (0 : Int) := (by omega)
              have q333 : 0 < (l1.length : Int) := of_decide_eq_true (by first | (with_reducible assumption) | assumption)
              obtain ⟨ad333, e333, hx333_0⟩ := Kd.at_int HR1.out 0 p333 q333
              cases e333
              have qi333 : (0 < l1.length) = True := eq_true (by omega)
              (try rw [show ((0 : Int)).toNat = 0 from rfl] at hx333_0)
              (try rw [Addr.add_zero'] at hx333_0)
              replace hx333_0 := (HB.out.cell (World.block_lt_of_cell? w _ hx333_0)).trans hx333_0
              replace p333 := eq_true p333
              replace q333 := eq_true q333
              have hnb51 := NB319_318.out
              have hnc51 := NB318_319.out
              have hcz52_0 : wc.cell? ⟨gb319, 0, none⟩ = some (.int .i64 a0) := (blk_cell BK319.out 0).trans rfl
              have hcz52_1 : wc.cell? ⟨gb319, 1, none⟩ = some (.int .i64 0) := (blk_cell BK319.out 1).trans rfl
              have hcz52_2 : wc.cell? ⟨gb319, 2, none⟩ = some (.int .i64 0) := (blk_cell BK319.out 2).trans rfl
              have hcz52_3 : wc.cell? ⟨gb319, 3, none⟩ = some (.int .i64 0) := (blk_cell BK319.out 3).trans rfl
              have hcz52_4 : wc.cell? ⟨gb319, 4, none⟩ = some (.int .i64 0) := (blk_cell BK319.out 4).trans rfl
              have hfz52_0 := blk_frozen BK319.out 0
              have hfz52_1 := blk_frozen BK319.out 1
              have hfz52_2 := blk_frozen BK319.out 2
              have hfz52_3 := blk_frozen BK319.out 3
              have hfz52_4 := blk_frozen BK319.out 4
              have hcz53_0 : wc.cell? ⟨gb318, 0, none⟩ = some (.int .i64 0) := (blk_cell BK318.out 0).trans rfl
              have hcz53_1 : wc.cell? ⟨gb318, 1, none⟩ = some (.int .i64 0) := (blk_cell BK318.out 1).trans rfl
              have hcz53_2 : wc.cell? ⟨gb318, 2, none⟩ = some (.int .i64 0) := (blk_cell BK318.out 2).trans rfl
              have hcz53_3 : wc.cell? ⟨gb318, 3, none⟩ = some (.int .i64 0) := (blk_cell BK318.out 3).trans rfl
              have hcz53_4 : wc.cell? ⟨gb318, 4, none⟩ = some (.int .i64 0) := (blk_cell BK318.out 4).trans rfl
              have hfz53_0 := blk_frozen BK318.out 0
              have hfz53_1 := blk_frozen BK318.out 1
              have hfz53_2 := blk_frozen BK318.out 2
              have hfz53_3 := blk_frozen BK318.out 3
              have hfz53_4 := blk_frozen BK318.out 4
              go_wp2
              refine bodyPost_ret (results_cell_row rfl _ _ gb318 32 #[.int .i64 a0, .int .i64 0, .int .i64 0, .int .i64 0, .int .i64 (rd l1 0)] (0, 0) _ rfl (by (with_reducible repeat (first | refine bN_ ?_ _ | refine bD_ ?_ | refine bA_ ?_ _)); refine blk_put (cs := #[.int .i64 a0, .int .i64 0, .int .i64 0, .int .i64 0, .int .i64 0]) ?_ 4 _ rfl; (with_reducible repeat (first | refine bN_ ?_ _ | refine bD_ ?_ | refine bA_ ?_ _)); refine blk_put (cs := #[.int .i64 a0, .int .i64 0, .int .i64 0, .int .i64 0, .int .i64 0]) ?_ 3 _ rfl; (with_reducible repeat (first | refine bN_ ?_ _ | refine bD_ ?_ | refine bA_ ?_ _)); refine blk_put (cs := #[.int .i64 a0, .int .i64 0, .int .i64 0, .int .i64 0, .int .i64 0]) ?_ 2 _ rfl; (with_reducible repeat (first | refine bN_ ?_ _ | refine bD_ ?_ | refine bA_ ?_ _)); refine blk_put (cs := #[.int .i64 a0, .int .i64 0, .int .i64 0, .int .i64 0, .int .i64 0]) ?_ 1 _ rfl; (with_reducible repeat (first | refine bN_ ?_ _ | refine bD_ ?_ | refine bA_ ?_ _)); refine blk_put (cs := #[.int .i64 0, .int .i64 0, .int .i64 0, .int .i64 0, .int .i64 0]) ?_ 0 _ rfl; (with_reducible repeat (first | refine bN_ ?_ _ | refine bD_ ?_ | refine bA_ ?_ _)); refine blk_far ?_ NB318_319.out _; (with_reducible repeat (first | refine bN_ ?_ _ | refine bD_ ?_ | refine bA_ ?_ _)); exact BK318.out) Tryd.underlying32 rfl (by kernel_rfl)) rfl ?_
              exact ⟨by first | rfl | (simp [errW_none, errW_some] <;> rfl) | (simp [*, errW_none, errW_some] <;> rfl), by repeat (first | (with_reducible first | exact HB.out | apply hA_ | apply hN_ | apply hD_ | refine below_set ?_ GE318.out | refine below_set ?_ GE319.out) | exact HB.out)⟩
             ·rw [if_neg c50] at H
              exact absurd H (by simp)
            ·replace c49 := Bool.eq_false_iff.mpr c49
             subst c49
             have H1 : (if a0 = 10 then (if 0 < (l1.length : Int) then (some (a0, 0, rd l1 0, 0, 0)) else (none)) else (if a0 = 12 then (if 0 < (l1.length : Int) then (if 1 < (l1.length : Int) then (some (a0, 0, rd l1 0, 0, rd l1 1)) else (none)) else (none)) else (some (a0, 0, 0, 0, 0)))) = some (r1, r2, r3, r4, r5) := by rw [if_neg (show ¬ (false = true) by decide)] at H; exact H
             clear H
             have H := H1
             clear H1
             by_cases c54 : a0 = 10
             ·rw [if_pos c54] at H
              have c54b0 : (a0 == 10) = true := beq_iff_eq.mpr c54
              have c54b1 : (a0 != 10) = false := bne_eq_false_iff_eq.mpr c54
              clear c54
              by_cases c55 : 0 < (l1.length : Int)
              ·rw [if_pos c55] at H
               have c55b0 : decide (0 < (l1.length : Int)) = true := decide_eq_true c55
               have c55b1 : decide (0 < l1.length) = true := decide_eq_true (by omega)
               clear c55
               simp only [Option.some.injEq, Prod.mk.injEq] at H
               obtain ⟨rfl, rfl, rfl, rfl, rfl⟩ := H
               have p334 : 0 ≤ (0 : Int) := (by omega)
               have q334 : 0 < (l1.length : Int) := of_decide_eq_true (by first | (with_reducible assumption) | assumption)
               obtain ⟨ad334, e334, hx334_0⟩ := Kd.at_int HR1.out 0 p334 q334
               cases e334
               have qi334 : (0 < l1.length) = True := eq_true (by omega)
               (try rw [show ((0 : Int)).toNat = 0 from rfl] at hx334_0)
               (try rw [Addr.add_zero'] at hx334_0)
               replace hx334_0 := (HB.out.cell (World.block_lt_of_cell? w _ hx334_0)).trans hx334_0
               replace p334 := eq_true p334
               replace q334 := eq_true q334
               have hnb56 := NB319_318.out
               have hnc56 := NB318_319.out
               have hcz57_0 : wc.cell? ⟨gb319, 0, none⟩ = some (.int .i64 a0) := (blk_cell BK319.out 0).trans rfl
               have hcz57_1 : wc.cell? ⟨gb319, 1, none⟩ = some (.int .i64 0) := (blk_cell BK319.out 1).trans rfl
               have hcz57_2 : wc.cell? ⟨gb319, 2, none⟩ = some (.int .i64 0) := (blk_cell BK319.out 2).trans rfl
               have hcz57_3 : wc.cell? ⟨gb319, 3, none⟩ = some (.int .i64 0) := (blk_cell BK319.out 3).trans rfl
               have hcz57_4 : wc.cell? ⟨gb319, 4, none⟩ = some (.int .i64 0) := (blk_cell BK319.out 4).trans rfl
               have hfz57_0 := blk_frozen BK319.out 0
               have hfz57_1 := blk_frozen BK319.out 1
               have hfz57_2 := blk_frozen BK319.out 2
               have hfz57_3 := blk_frozen BK319.out 3
               have hfz57_4 := blk_frozen BK319.out 4
               have hcz58_0 : wc.cell? ⟨gb318, 0, none⟩ = some (.int .i64 0) := (blk_cell BK318.out 0).trans rfl
               have hcz58_1 : wc.cell? ⟨gb318, 1, none⟩ = some (.int .i64 0) := (blk_cell BK318.out 1).trans rfl
               have hcz58_2 : wc.cell? ⟨gb318, 2, none⟩ = some (.int .i64 0) := (blk_cell BK318.out 2).trans rfl
               have hcz58_3 : wc.cell? ⟨gb318, 3, none⟩ = some (.int .i64 0) := (blk_cell BK318.out 3).trans rfl
               have hcz58_4 : wc.cell? ⟨gb318, 4, none⟩ = some (.int .i64 0) := (blk_cell BK318.out 4).trans rfl
               have hfz58_0 := blk_frozen BK318.out 0
               have hfz58_1 := blk_frozen BK318.out 1
               have hfz58_2 := blk_frozen BK318.out 2
               have hfz58_3 := blk_frozen BK318.out 3
               have hfz58_4 := blk_frozen BK318.out 4
               go_wp2
               refine bodyPost_ret (results_cell_row rfl _ _ gb318 32 #[.int .i64 a0, .int .i64 0, .int .i64 (rd l1 0), .int .i64 0, .int .i64 0] (0, 0) _ rfl (by (with_reducible repeat (first | refine bN_ ?_ _ | refine bD_ ?_ | refine bA_ ?_ _)); refine blk_put (cs := #[.int .i64 a0, .int .i64 0, .int .i64 (rd l1 0), .int .i64 0, .int .i64 0]) ?_ 4 _ rfl; (with_reducible repeat (first | refine bN_ ?_ _ | refine bD_ ?_ | refine bA_ ?_ _)); refine blk_put (cs := #[.int .i64 a0, .int .i64 0, .int .i64 (rd l1 0), .int .i64 0, .int .i64 0]) ?_ 3 _ rfl; (with_reducible repeat (first | refine bN_ ?_ _ | refine bD_ ?_ | refine bA_ ?_ _)); refine blk_put (cs := #[.int .i64 a0, .int .i64 0, .int .i64 0, .int .i64 0, .int .i64 0]) ?_ 2 _ rfl; (with_reducible repeat (first | refine bN_ ?_ _ | refine bD_ ?_ | refine bA_ ?_ _)); refine blk_put (cs := #[.int .i64 a0, .int .i64 0, .int .i64 0, .int .i64 0, .int .i64 0]) ?_ 1 _ rfl; (with_reducible repeat (first | refine bN_ ?_ _ | refine bD_ ?_ | refine bA_ ?_ _)); refine blk_put (cs := #[.int .i64 0, .int .i64 0, .int .i64 0, .int .i64 0, .int .i64 0]) ?_ 0 _ rfl; (with_reducible repeat (first | refine bN_ ?_ _ | refine bD_ ?_ | refine bA_ ?_ _)); refine blk_far ?_ NB318_319.out _; (with_reducible repeat (first | refine bN_ ?_ _ | refine bD_ ?_ | refine bA_ ?_ _)); exact BK318.out) Tryd.underlying32 rfl (by kernel_rfl)) rfl ?_
               exact ⟨by first | rfl | (simp [errW_none, errW_some] <;> rfl) | (simp [*, errW_none, errW_some] <;> rfl), by repeat (first | (with_reducible first | exact HB.out | apply hA_ | apply hN_ | apply hD_ | refine below_set ?_ GE318.out | refine below_set ?_ GE319.out) | exact HB.out)⟩
              ·rw [if_neg c55] at H
               exact absurd H (by simp)
             ·rw [if_neg c54] at H
              have c54b0 : (a0 == 10) = false := beq_eq_false_iff_ne.mpr c54
              have c54b1 : (a0 != 10) = true := bne_iff_ne.mpr c54
              by_cases c59 : a0 = 12
              ·rw [if_pos c59] at H
               have c59b0 : (a0 == 12) = true := beq_iff_eq.mpr c59
               have c59b1 : (a0 != 12) = false := bne_eq_false_iff_eq.mpr c59
               clear c59
               by_cases c60 : 0 < (l1.length : Int)
               ·rw [if_pos c60] at H
                have c60b0 : decide (0 < (l1.length : Int)) = true := decide_eq_true c60
                have c60b1 : decide (0 < l1.length) = true := decide_eq_true (by omega)
                clear c60
                by_cases c61 : 1 < (l1.length : Int)
                ·rw [if_pos c61] at H
                 have c61b0 : decide (1 < (l1.length : Int)) = true := decide_eq_true c61
                 have c61b1 : decide (1 < l1.length) = true := decide_eq_true (by omega)
                 clear c61
                 simp only [Option.some.injEq, Prod.mk.injEq] at H
                 obtain ⟨rfl, rfl, rfl, rfl, rfl⟩ := H
                 have p335 : 0 ≤ (0 : Int) := (by omega)
                 have q335 : 0 < (l1.length : Int) := of_decide_eq_true (by first | (with_reducible assumption) | assumption)
                 obtain ⟨ad335, e335, hx335_0⟩ := Kd.at_int HR1.out 0 p335 q335
                 cases e335
                 have qi335 : (0 < l1.length) = True := eq_true (by omega)
                 (try rw [show ((0 : Int)).toNat = 0 from rfl] at hx335_0)
                 (try rw [Addr.add_zero'] at hx335_0)
                 replace hx335_0 := (HB.out.cell (World.block_lt_of_cell? w _ hx335_0)).trans hx335_0
                 replace p335 := eq_true p335
                 replace q335 := eq_true q335
                 have hnb62 := NB319_318.out
                 have hnc62 := NB318_319.out
                 have hcz63_0 : wc.cell? ⟨gb319, 0, none⟩ = some (.int .i64 a0) := (blk_cell BK319.out 0).trans rfl
                 have hcz63_1 : wc.cell? ⟨gb319, 1, none⟩ = some (.int .i64 0) := (blk_cell BK319.out 1).trans rfl
                 have hcz63_2 : wc.cell? ⟨gb319, 2, none⟩ = some (.int .i64 0) := (blk_cell BK319.out 2).trans rfl
                 have hcz63_3 : wc.cell? ⟨gb319, 3, none⟩ = some (.int .i64 0) := (blk_cell BK319.out 3).trans rfl
                 have hcz63_4 : wc.cell? ⟨gb319, 4, none⟩ = some (.int .i64 0) := (blk_cell BK319.out 4).trans rfl
                 have hfz63_0 := blk_frozen BK319.out 0
                 have hfz63_1 := blk_frozen BK319.out 1
                 have hfz63_2 := blk_frozen BK319.out 2
                 have hfz63_3 := blk_frozen BK319.out 3
                 have hfz63_4 := blk_frozen BK319.out 4
                 have p336 : 0 ≤ (1 : Int) := (by omega)
                 have q336 : 1 < (l1.length : Int) := of_decide_eq_true (by first | (with_reducible assumption) | assumption)
                 obtain ⟨ad336, e336, hx336_0⟩ := Kd.at_int HR1.out 1 p336 q336
                 obtain rfl : ad335 = ad336 := (by injection e336)
                 (try simp only [show (1 : Int).toNat = 1 from rfl, Nat.reduceMul, Nat.reduceEqDiff, Go.Addr.add, ↓reduceIte] at hx336_0)
                 have qi336 : (1 < l1.length) = True := eq_true (by omega)
                 (try rw [show ((1 : Int)).toNat = 1 from rfl] at hx336_0)
                 have hn336_0 : ad335.block ≠ gb319 := Nat.ne_of_lt (Nat.lt_of_lt_of_le (by have := World.block_lt_of_cell? _ _ hx336_0; first | rwa [add_block] at this | exact this) GW319.out)
                 replace hx336_0 := (HB.out.cell (World.block_lt_of_cell? w _ hx336_0)).trans hx336_0
                 replace hx336_0 := (cell_far (p := ⟨gb319, 2, none⟩) (by first | (rw [add_block]; exact hn336_0) | (show (Addr.add _ _).block ≠ _; rw [add_block]; exact hn336_0) | exact hn336_0) (.int .i64 (rd l1 0))).trans hx336_0
                 clear hn336_0
                 replace p336 := eq_true p336
                 replace q336 := eq_true q336
                 have hcz64_0 : wc.cell? ⟨gb318, 0, none⟩ = some (.int .i64 0) := (blk_cell BK318.out 0).trans rfl
                 have hcz64_1 : wc.cell? ⟨gb318, 1, none⟩ = some (.int .i64 0) := (blk_cell BK318.out 1).trans rfl
                 have hcz64_2 : wc.cell? ⟨gb318, 2, none⟩ = some (.int .i64 0) := (blk_cell BK318.out 2).trans rfl
                 have hcz64_3 : wc.cell? ⟨gb318, 3, none⟩ = some (.int .i64 0) := (blk_cell BK318.out 3).trans rfl
                 have hcz64_4 : wc.cell? ⟨gb318, 4, none⟩ = some (.int .i64 0) := (blk_cell BK318.out 4).trans rfl
                 have hfz64_0 := blk_frozen BK318.out 0
                 have hfz64_1 := blk_frozen BK318.out 1
                 have hfz64_2 := blk_frozen BK318.out 2
                 have hfz64_3 := blk_frozen BK318.out 3
                 have hfz64_4 := blk_frozen BK318.out 4
                 go_wp2
                 refine bodyPost_ret (results_cell_row rfl _ _ gb318 32 #[.int .i64 a0, .int .i64 0, .int .i64 (rd l1 0), .int .i64 0, .int .i64 (rd l1 1)] (0, 0) _ rfl (by (with_reducible repeat (first | refine bN_ ?_ _ | refine bD_ ?_ | refine bA_ ?_ _)); refine blk_put (cs := #[.int .i64 a0, .int .i64 0, .int .i64 (rd l1 0), .int .i64 0, .int .i64 0]) ?_ 4 _ rfl; (with_reducible repeat (first | refine bN_ ?_ _ | refine bD_ ?_ | refine bA_ ?_ _)); refine blk_put (cs := #[.int .i64 a0, .int .i64 0, .int .i64 (rd l1 0), .int .i64 0, .int .i64 0]) ?_ 3 _ rfl; (with_reducible repeat (first | refine bN_ ?_ _ | refine bD_ ?_ | refine bA_ ?_ _)); refine blk_put (cs := #[.int .i64 a0, .int .i64 0, .int .i64 0, .int .i64 0, .int .i64 0]) ?_ 2 _ rfl; (with_reducible repeat (first | refine bN_ ?_ _ | refine bD_ ?_ | refine bA_ ?_ _)); refine blk_put (cs := #[.int .i64 a0, .int .i64 0, .int .i64 0, .int .i64 0, .int .i64 0]) ?_ 1 _ rfl; (with_reducible repeat (first | refine bN_ ?_ _ | refine bD_ ?_ | refine bA_ ?_ _)); refine blk_put (cs := #[.int .i64 0, .int .i64 0, .int .i64 0, .int .i64 0, .int .i64 0]) ?_ 0 _ rfl; (with_reducible repeat (first | refine bN_ ?_ _ | refine bD_ ?_ | refine bA_ ?_ _)); refine blk_far ?_ NB318_319.out _; (with_reducible repeat (first | refine bN_ ?_ _ | refine bD_ ?_ | refine bA_ ?_ _)); refine blk_far ?_ NB318_319.out _; (with_reducible repeat (first | refine bN_ ?_ _ | refine bD_ ?_ | refine bA_ ?_ _)); exact BK318.out) Tryd.underlying32 rfl (by kernel_rfl)) rfl ?_
                 exact ⟨by first | rfl | (simp [errW_none, errW_some] <;> rfl) | (simp [*, errW_none, errW_some] <;> rfl), by repeat (first | (with_reducible first | exact HB.out | apply hA_ | apply hN_ | apply hD_ | refine below_set ?_ GE318.out | refine below_set ?_ GE319.out) | exact HB.out)⟩
                ·rw [if_neg c61] at H
                 exact absurd H (by simp)
               ·rw [if_neg c60] at H
                exact absurd H (by simp)
              ·rw [if_neg c59] at H
               have c59b0 : (a0 == 12) = false := beq_eq_false_iff_ne.mpr c59
               have c59b1 : (a0 != 12) = true := bne_iff_ne.mpr c59
               simp only [Option.some.injEq, Prod.mk.injEq] at H
               obtain ⟨rfl, rfl, rfl, rfl, rfl⟩ := H
               have hnb65 := NB319_318.out
               have hnc65 := NB318_319.out
               have hcz66_0 : wc.cell? ⟨gb319, 0, none⟩ = some (.int .i64 a0) := (blk_cell BK319.out 0).trans rfl
               have hcz66_1 : wc.cell? ⟨gb319, 1, none⟩ = some (.int .i64 0) := (blk_cell BK319.out 1).trans rfl
               have hcz66_2 : wc.cell? ⟨gb319, 2, none⟩ = some (.int .i64 0) := (blk_cell BK319.out 2).trans rfl
               have hcz66_3 : wc.cell? ⟨gb319, 3, none⟩ = some (.int .i64 0) := (blk_cell BK319.out 3).trans rfl
               have hcz66_4 : wc.cell? ⟨gb319, 4, none⟩ = some (.int .i64 0) := (blk_cell BK319.out 4).trans rfl
               have hfz66_0 := blk_frozen BK319.out 0
               have hfz66_1 := blk_frozen BK319.out 1
               have hfz66_2 := blk_frozen BK319.out 2
               have hfz66_3 := blk_frozen BK319.out 3
               have hfz66_4 := blk_frozen BK319.out 4
               have hcz67_0 : wc.cell? ⟨gb318, 0, none⟩ = some (.int .i64 0) := (blk_cell BK318.out 0).trans rfl
               have hcz67_1 : wc.cell? ⟨gb318, 1, none⟩ = some (.int .i64 0) := (blk_cell BK318.out 1).trans rfl
               have hcz67_2 : wc.cell? ⟨gb318, 2, none⟩ = some (.int .i64 0) := (blk_cell BK318.out 2).trans rfl
               have hcz67_3 : wc.cell? ⟨gb318, 3, none⟩ = some (.int .i64 0) := (blk_cell BK318.out 3).trans rfl
               have hcz67_4 : wc.cell? ⟨gb318, 4, none⟩ = some (.int .i64 0) := (blk_cell BK318.out 4).trans rfl
               have hfz67_0 := blk_frozen BK318.out 0
               have hfz67_1 := blk_frozen BK318.out 1
               have hfz67_2 := blk_frozen BK318.out 2
               have hfz67_3 := blk_frozen BK318.out 3
               have hfz67_4 := blk_frozen BK318.out 4
               go_wp2
               refine bodyPost_ret (results_cell_row rfl _ _ gb318 32 #[.int .i64 a0, .int .i64 0, .int .i64 0, .int .i64 0, .int .i64 0] (0, 0) _ rfl (by (with_reducible repeat (first | refine bN_ ?_ _ | refine bD_ ?_ | refine bA_ ?_ _)); refine blk_put (cs := #[.int .i64 a0, .int .i64 0, .int .i64 0, .int .i64 0, .int .i64 0]) ?_ 4 _ rfl; (with_reducible repeat (first | refine bN_ ?_ _ | refine bD_ ?_ | refine bA_ ?_ _)); refine blk_put (cs := #[.int .i64 a0, .int .i64 0, .int .i64 0, .int .i64 0, .int .i64 0]) ?_ 3 _ rfl; (with_reducible repeat (first | refine bN_ ?_ _ | refine bD_ ?_ | refine bA_ ?_ _)); refine blk_put (cs := #[.int .i64 a0, .int .i64 0, .int .i64 0, .int .i64 0, .int .i64 0]) ?_ 2 _ rfl; (with_reducible repeat (first | refine bN_ ?_ _ | refine bD_ ?_ | refine bA_ ?_ _)); refine blk_put (cs := #[.int .i64 a0, .int .i64 0, .int .i64 0, .int .i64 0, .int .i64 0]) ?_ 1 _ rfl; (with_reducible repeat (first | refine bN_ ?_ _ | refine bD_ ?_ | refine bA_ ?_ _)); refine blk_put (cs := #[.int .i64 0, .int .i64 0, .int .i64 0, .int .i64 0, .int .i64 0]) ?_ 0 _ rfl; (with_reducible repeat (first | refine bN_ ?_ _ | refine bD_ ?_ | refine bA_ ?_ _)); exact BK318.out) Tryd.underlying32 rfl (by kernel_rfl)) rfl ?_
               exact ⟨by first | rfl | (simp [errW_none, errW_some] <;> rfl) | (simp [*, errW_none, errW_some] <;> rfl), by repeat (first | (with_reducible first | exact HB.out | apply hA_ | apply hN_ | apply hD_ | refine below_set ?_ GE318.out | refine below_set ?_ GE319.out) | exact HB.out)⟩
end Go.Proofs.YtkjfcmgpplapeaaDoor.PFnExactInsRead
