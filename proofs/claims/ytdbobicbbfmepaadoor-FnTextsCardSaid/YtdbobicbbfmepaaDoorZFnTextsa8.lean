/- A part of the proof that the law FnTexts holds for every input: the words, functions and walks that its row needs, without a condition of their own. -/
import Derived.Test.YtdbobicbbfmepaaDoorZFnTextsa4
import Derived.Test.YtdbobicbbfmepaaDoorZFnTextsa7
import Derived.Test.YtdbobicbbfmepaaDoorZFnTextss
namespace Go.Proofs.YtdbobicbbfmepaaDoor.PFnTexts
open Go.RowKit Go.Proofs.YtdbobicbbfmepaaDoorW.PrintWords Go.Proofs.YtdbobicbbfmepaaDoorW.PrintLast Go.Proofs.YtdbobicbbfmepaaDoorW.PrintMore
attribute [local go_sem] max2_int min2_int max_two min_two max_three min_three max_four min_four   -- for this text's walks alone
set_option linter.unusedVariables false
set_option linter.unusedSimpArgs false
mutual
def impl_stepNamed.j0 : Nat → Int → Bool → Int → Int → Int → Int → Int → Int → Int → Int → Int → Int → Option (Int × Int × Int × Int × Int)
  | 0, _, _, _, _, _, _, _, _, _, _, _, _ => none
  | k + 1, x8, x17, x356000, x356001, x356002, x356003, x356004, x358000, x358001, x358002, x358003, x358004 => if x17 = true then (some (x358000, x356001, x356002, x356003, x358004)) else (if x8 = 5 then (some (x358000, x356001, x356002, x358003, x356004)) else (if x8 = 6 then (impl_stepNamed.j1 k x8 (x8 == 6) x356000 x356001 x356002 x356003 x356004 x358000 x358001 x358002 x358003 x358004) else (impl_stepNamed.j1 k x8 (x8 == 7) x356000 x356001 x356002 x356003 x356004 x358000 x358001 x358002 x358003 x358004)))
def impl_stepNamed.j1 : Nat → Int → Bool → Int → Int → Int → Int → Int → Int → Int → Int → Int → Int → Option (Int × Int × Int × Int × Int)
  | 0, _, _, _, _, _, _, _, _, _, _, _, _ => none
  | k + 1, x8, x41, x356000, x356001, x356002, x356003, x356004, x358000, x358001, x358002, x358003, x358004 => if x41 = true then (some (x358000, x358001, x356002, x356003, x356004)) else (if x8 = 8 then (some (x358000, x356001, x358002, x356003, x356004)) else (if x8 = 9 then (some (x358000, x358001, x356002, x358003, x358004)) else (if x8 = 10 then (some (x358000, x358001, x358002, x358003, x356004)) else (if x8 = 11 then (some (x358000, x358001, x356002, x358003, x356004)) else (some (x358000, x358001, x358002, x358003, x358004))))))
end
def impl_stepNamed.f (k : Nat) (a0_0 : Int) (a0_1 : Int) (a0_2 : Int) (a0_3 : Int) (a0_4 : Int) : Option (Int × Int × Int × Int × Int) := if a0_0 = 1 then (some (a0_0, a0_1, 0, 0, a0_4)) else (if a0_0 = 2 then (impl_stepNamed.j0 k a0_0 (a0_0 == 2) a0_0 a0_1 a0_2 a0_3 a0_4 a0_0 0 0 0 0) else (if a0_0 = 3 then (impl_stepNamed.j0 k a0_0 (a0_0 == 3) a0_0 a0_1 a0_2 a0_3 a0_4 a0_0 0 0 0 0) else (impl_stepNamed.j0 k a0_0 (a0_0 == 4) a0_0 a0_1 a0_2 a0_3 a0_4 a0_0 0 0 0 0)))
def impl_stepNamed.T4 : Bool × List (List Nat × List Nat) := (true, [([], []), ([0], [0]), ([], []), ([2], [2]), ([0, 1], []), ([4, 1, 0, 1], [1, 4]), ([0, 1, 2, 3, 4, 5], []), ([6, 3, 5, 0, 1, 2, 3, 4, 5], [3, 6])])
def impl_stepNamed.B4 : List Nat := [0, 1, 0, 4, 3, 19, 63, 127]
theorem impl_stepNamed.tab4 : rtab .any (opsOf Tryd.f52 4) = impl_stepNamed.T4 := by kernel_rfl
theorem impl_stepNamed.bits4 : waitsOk impl_stepNamed.T4.2 impl_stepNamed.B4 = true := by kernel_rfl
def impl_stepNamed.T8 : Bool × List (List Nat × List Nat) := (true, [([], []), ([0], [0]), ([], []), ([2], [2]), ([], []), ([4], [4]), ([0, 1], []), ([6, 1, 0, 1], [1, 6]), ([0, 1, 2, 3, 6, 7], []), ([8, 3, 7, 0, 1, 2, 3, 6, 7], [3, 8]), ([0, 1, 2, 3, 4, 5, 6, 7, 8, 9], []), ([10, 5, 9, 0, 1, 2, 3, 4, 5, 6, 7, 8, 9], [5, 10])])
def impl_stepNamed.B8 : List Nat := [0, 1, 0, 4, 0, 16, 3, 67, 207, 463, 1023, 2047]
theorem impl_stepNamed.tab8 : rtab .any (opsOf Tryd.f52 8) = impl_stepNamed.T8 := by kernel_rfl
theorem impl_stepNamed.bits8 : waitsOk impl_stepNamed.T8.2 impl_stepNamed.B8 = true := by kernel_rfl
def impl_stepNamed.T10 : Bool × List (List Nat × List Nat) := (true, [([], []), ([0], [0]), ([], []), ([2], [2]), ([], []), ([4], [4]), ([0, 1], []), ([6, 1, 0, 1], [1, 6]), ([0, 1, 2, 3, 6, 7], []), ([8, 3, 7, 0, 1, 2, 3, 6, 7], [3, 8]), ([0, 1, 2, 3, 4, 5, 6, 7, 8, 9], []), ([10, 5, 9, 0, 1, 2, 3, 4, 5, 6, 7, 8, 9], [5, 10])])
def impl_stepNamed.B10 : List Nat := [0, 1, 0, 4, 0, 16, 3, 67, 207, 463, 1023, 2047]
theorem impl_stepNamed.tab10 : rtab .any (opsOf Tryd.f52 10) = impl_stepNamed.T10 := by kernel_rfl
theorem impl_stepNamed.bits10 : waitsOk impl_stepNamed.T10.2 impl_stepNamed.B10 = true := by kernel_rfl
def impl_stepNamed.T13 : Bool × List (List Nat × List Nat) := (true, [([], []), ([0], [0]), ([], []), ([2], [2]), ([], []), ([4], [4]), ([0, 1], []), ([6, 1, 0, 1], [1, 6]), ([0, 1, 2, 3, 6, 7], []), ([8, 3, 7, 0, 1, 2, 3, 6, 7], [3, 8]), ([0, 1, 2, 3, 4, 5, 6, 7, 8, 9], []), ([10, 5, 9, 0, 1, 2, 3, 4, 5, 6, 7, 8, 9], [5, 10])])
def impl_stepNamed.B13 : List Nat := [0, 1, 0, 4, 0, 16, 3, 67, 207, 463, 1023, 2047]
theorem impl_stepNamed.tab13 : rtab .any (opsOf Tryd.f52 13) = impl_stepNamed.T13 := by kernel_rfl
theorem impl_stepNamed.bits13 : waitsOk impl_stepNamed.T13.2 impl_stepNamed.B13 = true := by kernel_rfl
def impl_stepNamed.T15 : Bool × List (List Nat × List Nat) := (true, [([], []), ([0], [0]), ([], []), ([2], [2]), ([], []), ([4], [4]), ([0, 1], []), ([6, 1, 0, 1], [1, 6]), ([0, 1, 2, 3, 6, 7], []), ([8, 3, 7, 0, 1, 2, 3, 6, 7], [3, 8]), ([0, 1, 2, 3, 4, 5, 6, 7, 8, 9], []), ([10, 5, 9, 0, 1, 2, 3, 4, 5, 6, 7, 8, 9], [5, 10])])
def impl_stepNamed.B15 : List Nat := [0, 1, 0, 4, 0, 16, 3, 67, 207, 463, 1023, 2047]
theorem impl_stepNamed.tab15 : rtab .any (opsOf Tryd.f52 15) = impl_stepNamed.T15 := by kernel_rfl
theorem impl_stepNamed.bits15 : waitsOk impl_stepNamed.T15.2 impl_stepNamed.B15 = true := by kernel_rfl
def impl_stepNamed.T21 : Bool × List (List Nat × List Nat) := (true, [([], []), ([0], [0]), ([], []), ([2], [2]), ([0, 1], []), ([4, 1, 0, 1], [1, 4]), ([0, 1, 2, 3, 4, 5], []), ([6, 3, 5, 0, 1, 2, 3, 4, 5], [3, 6])])
def impl_stepNamed.B21 : List Nat := [0, 1, 0, 4, 3, 19, 63, 127]
theorem impl_stepNamed.tab21 : rtab .any (opsOf Tryd.f52 21) = impl_stepNamed.T21 := by kernel_rfl
theorem impl_stepNamed.bits21 : waitsOk impl_stepNamed.T21.2 impl_stepNamed.B21 = true := by kernel_rfl
set_option maxHeartbeats 8000000 in
set_option maxRecDepth 100000 in
theorem impl_stepNamed.calls (k : Nat) (a0_0 : Int) (a0_1 : Int) (a0_2 : Int) (a0_3 : Int) (a0_4 : Int) (r1 : Int) (r2 : Int) (r3 : Int) (r4 : Int) (r5 : Int) (w : World) (h : impl_stepNamed.f k a0_0 a0_1 a0_2 a0_3 a0_4 = some (r1, r2, r3, r4, r5)) :
  Calls Tryd.prog 52 #[.agg #[.int .i64 a0_0, .int .i64 a0_1, .int .i64 a0_2, .int .i64 a0_3, .int .i64 a0_4]] w fun e w' => e = .returned (.agg #[.int .i64 r1, .int .i64 r2, .int .i64 r3, .int .i64 r4, .int .i64 r5]) ∧ Below w.heap.size w w' := by
 have hu25 := Tryd.underlying25
 have HB := aM_ (Below.refl w.heap.size w)
 have H : (if a0_0 = 1 then (some (a0_0, a0_1, 0, 0, a0_4)) else (if a0_0 = 2 then (impl_stepNamed.j0 k a0_0 (a0_0 == 2) a0_0 a0_1 a0_2 a0_3 a0_4 a0_0 0 0 0 0) else (if a0_0 = 3 then (impl_stepNamed.j0 k a0_0 (a0_0 == 3) a0_0 a0_1 a0_2 a0_3 a0_4 a0_0 0 0 0 0) else (impl_stepNamed.j0 k a0_0 (a0_0 == 4) a0_0 a0_1 a0_2 a0_3 a0_4 a0_0 0 0 0 0)))) = some (r1, r2, r3, r4, r5) := h
 clear h
 by_cases c2 : a0_0 = 1
 ·rw [if_pos c2] at H
  have c2b0 : (a0_0 == 1) = true := beq_iff_eq.mpr c2
  have c2b1 : (a0_0 != 1) = false := bne_eq_false_iff_eq.mpr c2
  clear c2
  simp only [Option.some.injEq, Prod.mk.injEq] at H
  obtain ⟨rfl, rfl, rfl, rfl, rfl⟩ := H
  go_enter Tryd.func52, Tryd.ntmps52
  try go_wp2_with (first | ((with_reducible refine gate_dst (N := 1) rfl ?_); refine bX_ 1 (cs := #[.int .i64 a0_0, .int .i64 a0_1, .int .i64 a0_2, .int .i64 a0_3, .int .i64 a0_4]) (t := 25) ?_; intro gb355 hg w3 hbox hb; have n0 := aM_ (sT_ HB.out hb); have n1 := aM_ (hbox); have n2 := aM_ (sZ_ hg HB.out); have n3 := aM_ (sZ_ hg HB.out); clear HB; have HB := n0; have BK355 := n1; have GW355 := n2; have GE355 := n3; clear n0 n1 n2 n3; clear hb hbox hg) | ((with_reducible refine gate_dst (N := 2) rfl ?_); refine bX_ 2 (cs := #[.int .i64 0, .int .i64 0, .int .i64 0, .int .i64 0, .int .i64 0]) (t := 25) ?_; intro gb356 hg w4 hbox hb; have n0 := aM_ (nB_ BK355.out hb); have n1 := aM_ (sT_ HB.out hb); have n2 := aM_ (hbox); have n3 := aM_ (sZ_ hg HB.out); have n4 := aM_ (sZ_ hg HB.out); have n5 := aM_ (nL_ hg BK355.out); have n6 := aM_ (nG_ hg BK355.out); clear BK355; clear HB; have BK355 := n0; have HB := n1; have BK356 := n2; have GW356 := n3; have GE356 := n4; have NB355_356 := n5; have NB356_355 := n6; clear n0 n1 n2 n3 n4 n5 n6; clear hb hbox hg; have hnb5 := NB355_356.out; have hnc5 := NB356_355.out; obtain ⟨hcz6_0, hcz6_1, hcz6_2, hcz6_3, hcz6_4, hfz6_0, hfz6_1, hfz6_2, hfz6_3, hfz6_4⟩ := bR5_ BK355.out) | ((with_reducible refine gate_dst (N := 3) rfl ?_); refine bX_ 3 (cs := #[.int .i64 0, .int .i64 0, .int .i64 0, .int .i64 0, .int .i64 0]) (t := 25) ?_; intro gb357 hg w7 hbox hb; have n0 := aM_ (nB_ BK355.out hb); have n1 := aM_ (nB_ BK356.out hb); have n2 := aM_ (sT_ HB.out hb); have n3 := aM_ (hbox); have n4 := aM_ (sZ_ hg HB.out); have n5 := aM_ (sZ_ hg HB.out); have n6 := aM_ (nL_ hg BK355.out); have n7 := aM_ (nG_ hg BK355.out); have n8 := aM_ (nL_ hg BK356.out); have n9 := aM_ (nG_ hg BK356.out); clear BK355; clear BK356; clear HB; have BK355 := n0; have BK356 := n1; have HB := n2; have BK357 := n3; have GW357 := n4; have GE357 := n5; have NB355_357 := n6; have NB357_355 := n7; have NB356_357 := n8; have NB357_356 := n9; clear n0 n1 n2 n3 n4 n5 n6 n7 n8 n9; clear hb hbox hg; have hnb8 := NB357_355.out; have hnc8 := NB355_357.out; have hnb9 := NB357_356.out; have hnc9 := NB356_357.out; obtain ⟨hcz10_0, hcz10_1, hcz10_2, hcz10_3, hcz10_4, hfz10_0, hfz10_1, hfz10_2, hfz10_3, hfz10_4⟩ := bR5_ BK357.out; obtain ⟨hcz11_0, hcz11_1, hcz11_2, hcz11_3, hcz11_4, hfz11_0, hfz11_1, hfz11_2, hfz11_3, hfz11_4⟩ := bR5_ BK355.out))
  have n0 : Aside0 ((((((w7.setCell ⟨gb357, 0, none⟩ (.int .i64 a0_0)).setCell ⟨gb357, 1, none⟩ (.int .i64 0)).setCell ⟨gb357, 2, none⟩ (.int .i64 0)).setCell ⟨gb357, 3, none⟩ (.int .i64 0)).setCell ⟨gb357, 4, none⟩ (.int .i64 0)).heap[gb355]? = some (.cells #[.int .i64 a0_0, .int .i64 a0_1, .int .i64 a0_2, .int .i64 a0_3, .int .i64 a0_4] 25 (0, 0))) := ⟨by (with_reducible repeat (first | refine bN_ ?_ _ | refine bD_ ?_ | refine bA_ ?_ _)); refine blk_far ?_ NB355_357.out _; (with_reducible repeat (first | refine bN_ ?_ _ | refine bD_ ?_ | refine bA_ ?_ _)); refine blk_far ?_ NB355_357.out _; (with_reducible repeat (first | refine bN_ ?_ _ | refine bD_ ?_ | refine bA_ ?_ _)); refine blk_far ?_ NB355_357.out _; (with_reducible repeat (first | refine bN_ ?_ _ | refine bD_ ?_ | refine bA_ ?_ _)); refine blk_far ?_ NB355_357.out _; (with_reducible repeat (first | refine bN_ ?_ _ | refine bD_ ?_ | refine bA_ ?_ _)); refine blk_far ?_ NB355_357.out _; (with_reducible repeat (first | refine bN_ ?_ _ | refine bD_ ?_ | refine bA_ ?_ _)); exact BK355.out⟩
  have n1 : Aside0 ((((((w7.setCell ⟨gb357, 0, none⟩ (.int .i64 a0_0)).setCell ⟨gb357, 1, none⟩ (.int .i64 0)).setCell ⟨gb357, 2, none⟩ (.int .i64 0)).setCell ⟨gb357, 3, none⟩ (.int .i64 0)).setCell ⟨gb357, 4, none⟩ (.int .i64 0)).heap[gb356]? = some (.cells #[.int .i64 0, .int .i64 0, .int .i64 0, .int .i64 0, .int .i64 0] 25 (0, 0))) := ⟨by (with_reducible repeat (first | refine bN_ ?_ _ | refine bD_ ?_ | refine bA_ ?_ _)); refine blk_far ?_ NB356_357.out _; (with_reducible repeat (first | refine bN_ ?_ _ | refine bD_ ?_ | refine bA_ ?_ _)); refine blk_far ?_ NB356_357.out _; (with_reducible repeat (first | refine bN_ ?_ _ | refine bD_ ?_ | refine bA_ ?_ _)); refine blk_far ?_ NB356_357.out _; (with_reducible repeat (first | refine bN_ ?_ _ | refine bD_ ?_ | refine bA_ ?_ _)); refine blk_far ?_ NB356_357.out _; (with_reducible repeat (first | refine bN_ ?_ _ | refine bD_ ?_ | refine bA_ ?_ _)); refine blk_far ?_ NB356_357.out _; (with_reducible repeat (first | refine bN_ ?_ _ | refine bD_ ?_ | refine bA_ ?_ _)); exact BK356.out⟩
  have n2 : Aside0 ((((((w7.setCell ⟨gb357, 0, none⟩ (.int .i64 a0_0)).setCell ⟨gb357, 1, none⟩ (.int .i64 0)).setCell ⟨gb357, 2, none⟩ (.int .i64 0)).setCell ⟨gb357, 3, none⟩ (.int .i64 0)).setCell ⟨gb357, 4, none⟩ (.int .i64 0)).heap[gb357]? = some (.cells #[.int .i64 a0_0, .int .i64 0, .int .i64 0, .int .i64 0, .int .i64 0] 25 (0, 0))) := ⟨by (with_reducible repeat (first | refine bN_ ?_ _ | refine bD_ ?_ | refine bA_ ?_ _)); refine blk_put (cs := #[.int .i64 a0_0, .int .i64 0, .int .i64 0, .int .i64 0, .int .i64 0]) ?_ 4 _ rfl; (with_reducible repeat (first | refine bN_ ?_ _ | refine bD_ ?_ | refine bA_ ?_ _)); refine blk_put (cs := #[.int .i64 a0_0, .int .i64 0, .int .i64 0, .int .i64 0, .int .i64 0]) ?_ 3 _ rfl; (with_reducible repeat (first | refine bN_ ?_ _ | refine bD_ ?_ | refine bA_ ?_ _)); refine blk_put (cs := #[.int .i64 a0_0, .int .i64 0, .int .i64 0, .int .i64 0, .int .i64 0]) ?_ 2 _ rfl; (with_reducible repeat (first | refine bN_ ?_ _ | refine bD_ ?_ | refine bA_ ?_ _)); refine blk_put (cs := #[.int .i64 a0_0, .int .i64 0, .int .i64 0, .int .i64 0, .int .i64 0]) ?_ 1 _ rfl; (with_reducible repeat (first | refine bN_ ?_ _ | refine bD_ ?_ | refine bA_ ?_ _)); refine blk_put (cs := #[.int .i64 0, .int .i64 0, .int .i64 0, .int .i64 0, .int .i64 0]) ?_ 0 _ rfl; (with_reducible repeat (first | refine bN_ ?_ _ | refine bD_ ?_ | refine bA_ ?_ _)); exact BK357.out⟩
  have n3 : Aside0 (Below w.heap.size w (((((w7.setCell ⟨gb357, 0, none⟩ (.int .i64 a0_0)).setCell ⟨gb357, 1, none⟩ (.int .i64 0)).setCell ⟨gb357, 2, none⟩ (.int .i64 0)).setCell ⟨gb357, 3, none⟩ (.int .i64 0)).setCell ⟨gb357, 4, none⟩ (.int .i64 0))) := ⟨gW_ HB.out⟩
  (try clear BK355)
  (try clear BK356)
  (try clear BK357)
  (try clear HB)
  generalize (((((w7.setCell ⟨gb357, 0, none⟩ (.int .i64 a0_0)).setCell ⟨gb357, 1, none⟩ (.int .i64 0)).setCell ⟨gb357, 2, none⟩ (.int .i64 0)).setCell ⟨gb357, 3, none⟩ (.int .i64 0)).setCell ⟨gb357, 4, none⟩ (.int .i64 0)) = w12 at n0 n1 n2 n3 ⊢
  have BK355 := n0
  have BK356 := n1
  have BK357 := n2
  have HB := n3
  clear n0 n1 n2 n3
  have n0 := aM_ (blk_drew BK355.out)
  have n1 := aM_ (blk_drew BK356.out)
  have n2 := aM_ (blk_drew BK357.out)
  have n3 := aM_ (below_drew1 HB.out)
  clear BK355
  clear BK356
  clear BK357
  clear HB
  have BK355 := n0
  have BK356 := n1
  have BK357 := n2
  have HB := n3
  clear n0 n1 n2 n3
  refine start_ (n := 8) (S := fun w' => w'.cell? ⟨gb355, 0, none⟩ = some (.int .i64 a0_0) ∧ w'.cell? ⟨gb355, 1, none⟩ = some (.int .i64 a0_1) ∧ w'.cell? ⟨gb355, 2, none⟩ = some (.int .i64 a0_2) ∧ w'.cell? ⟨gb355, 3, none⟩ = some (.int .i64 a0_3) ∧ w'.cell? ⟨gb355, 4, none⟩ = some (.int .i64 a0_4)) (ds := []) (mk_ 8 0) (by kernel_rfl) rfl rfl (bC5_ BK355.out) (fun hHeld => ?_); refine with_tabW impl_stepNamed.tab4 impl_stepNamed.bits4 (fun HT_ HW_ => ?_)
  generalize w12.drew = w13 at BK355 BK356 BK357 HB hHeld ⊢
  refine pU_ 0 (some 11) (mk_ 8 1) ?_
  refine pU_ 2 (some 13) (mk_ 8 5) ?_
  refine tK5_ 1 (some 12) (mk_ 8 7) ?_
  refine pU_ 4 (some 15) (mk_ 8 23) ?_
  refine tK5_ 3 (some 14) (mk_ 8 31) ?_
  refine oN_ 5 (none) (mk_ 8 63) (fun K hK => ?_)
  have hs14 : w13.cell? ⟨gb357, 1, none⟩ = some (.int .i64 0) := (blk_cell BK357.out 1).trans rfl
  have hfs14 := blk_frozen BK357.out 1
  have hns14_0 := NB355_357.out
  have hns14_1 := NB356_357.out
  have hms14_0 := NB357_355.out
  have hms14_1 := NB357_356.out
  refine skip_ (w1 := ?_) (by rfl) rfl ?_ ?_
  rotate_left
  ·go_simp
   rfl
  refine hK.out _ _ ⟨(cf_ NB355_357.out hHeld.1), (cf_ NB355_357.out hHeld.2.1), (cf_ NB355_357.out hHeld.2.2.1), (cf_ NB355_357.out hHeld.2.2.2.1), (cf_ NB355_357.out hHeld.2.2.2.2)⟩ (fun hHeld => ?_)
  clear hK K
  refine pU_ 6 (some 16) (mk_ 8 127) ?_
  refine oN_ 7 (none) (mk_ 8 255) (fun K hK => ?_)
  have hs15 : w13.cell? ⟨gb357, 4, none⟩ = some (.int .i64 0) := (blk_cell BK357.out 4).trans rfl
  have hfs15 := blk_frozen BK357.out 4
  have hns15_0 := NB355_357.out
  have hns15_1 := NB356_357.out
  have hms15_0 := NB357_355.out
  have hms15_1 := NB357_356.out
  refine skip_ (w1 := ?_) (by rfl) rfl ?_ ?_
  rotate_left
  ·go_simp
   rfl
  refine hK.out _ _ ⟨(cf_ NB355_357.out hHeld.1), (cf_ NB355_357.out hHeld.2.1), (cf_ NB355_357.out hHeld.2.2.1), (cf_ NB355_357.out hHeld.2.2.2.1), (cf_ NB355_357.out hHeld.2.2.2.2)⟩ (fun hHeld => ?_)
  clear hK K
  refine done_ (done_of HT_.out (by kernel_rfl)) ?_
  obtain ⟨hcz16_0, hcz16_1, hcz16_2, hcz16_3, hcz16_4, hfz16_0, hfz16_1, hfz16_2, hfz16_3, hfz16_4⟩ := bR5_ BK357.out
  obtain ⟨hcz17_0, hcz17_1, hcz17_2, hcz17_3, hcz17_4, hfz17_0, hfz17_1, hfz17_2, hfz17_3, hfz17_4⟩ := bR5_ BK356.out
  try go_wp2
  refine bodyPost_ret (results_cell_row rfl _ _ gb356 25 #[.int .i64 a0_0, .int .i64 a0_1, .int .i64 0, .int .i64 0, .int .i64 a0_4] (0, 0) _ rfl (by (with_reducible repeat (first | refine bN_ ?_ _ | refine bD_ ?_ | refine bA_ ?_ _)); refine blk_put (cs := #[.int .i64 a0_0, .int .i64 a0_1, .int .i64 0, .int .i64 0, .int .i64 0]) ?_ 4 _ rfl; (with_reducible repeat (first | refine bN_ ?_ _ | refine bD_ ?_ | refine bA_ ?_ _)); refine blk_put (cs := #[.int .i64 a0_0, .int .i64 a0_1, .int .i64 0, .int .i64 0, .int .i64 0]) ?_ 3 _ rfl; (with_reducible repeat (first | refine bN_ ?_ _ | refine bD_ ?_ | refine bA_ ?_ _)); refine blk_put (cs := #[.int .i64 a0_0, .int .i64 a0_1, .int .i64 0, .int .i64 0, .int .i64 0]) ?_ 2 _ rfl; (with_reducible repeat (first | refine bN_ ?_ _ | refine bD_ ?_ | refine bA_ ?_ _)); refine blk_put (cs := #[.int .i64 a0_0, .int .i64 0, .int .i64 0, .int .i64 0, .int .i64 0]) ?_ 1 _ rfl; (with_reducible repeat (first | refine bN_ ?_ _ | refine bD_ ?_ | refine bA_ ?_ _)); refine blk_put (cs := #[.int .i64 0, .int .i64 0, .int .i64 0, .int .i64 0, .int .i64 0]) ?_ 0 _ rfl; (with_reducible repeat (first | refine bN_ ?_ _ | refine bD_ ?_ | refine bA_ ?_ _)); refine blk_far ?_ NB356_357.out _; (with_reducible repeat (first | refine bN_ ?_ _ | refine bD_ ?_ | refine bA_ ?_ _)); refine blk_far ?_ NB356_357.out _; (with_reducible repeat (first | refine bN_ ?_ _ | refine bD_ ?_ | refine bA_ ?_ _)); exact BK356.out) Tryd.underlying25 rfl (by kernel_rfl)) rfl ?_
  exact fI_ HB.out
 ·rw [if_neg c2] at H
  have c2b0 : (a0_0 == 1) = false := beq_eq_false_iff_ne.mpr c2
  have c2b1 : (a0_0 != 1) = true := bne_iff_ne.mpr c2
  have HC18 := aM_ H
  clear H
  go_enter Tryd.func52, Tryd.ntmps52
  go_upto_if 17 with (first | ((with_reducible refine gate_dst (N := 1) rfl ?_); refine bX_ 1 (cs := #[.int .i64 a0_0, .int .i64 a0_1, .int .i64 a0_2, .int .i64 a0_3, .int .i64 a0_4]) (t := 25) ?_; intro gb355 hg w19 hbox hb; have n0 := aM_ (sT_ HB.out hb); have n1 := aM_ (hbox); have n2 := aM_ (sZ_ hg HB.out); have n3 := aM_ (sZ_ hg HB.out); clear HB; have HB := n0; have BK355 := n1; have GW355 := n2; have GE355 := n3; clear n0 n1 n2 n3; clear hb hbox hg) | ((with_reducible refine gate_dst (N := 2) rfl ?_); refine bX_ 2 (cs := #[.int .i64 0, .int .i64 0, .int .i64 0, .int .i64 0, .int .i64 0]) (t := 25) ?_; intro gb356 hg w20 hbox hb; have n0 := aM_ (nB_ BK355.out hb); have n1 := aM_ (sT_ HB.out hb); have n2 := aM_ (hbox); have n3 := aM_ (sZ_ hg HB.out); have n4 := aM_ (sZ_ hg HB.out); have n5 := aM_ (nL_ hg BK355.out); have n6 := aM_ (nG_ hg BK355.out); clear BK355; clear HB; have BK355 := n0; have HB := n1; have BK356 := n2; have GW356 := n3; have GE356 := n4; have NB355_356 := n5; have NB356_355 := n6; clear n0 n1 n2 n3 n4 n5 n6; clear hb hbox hg; have hnb21 := NB355_356.out; have hnc21 := NB356_355.out; obtain ⟨hcz22_0, hcz22_1, hcz22_2, hcz22_3, hcz22_4, hfz22_0, hfz22_1, hfz22_2, hfz22_3, hfz22_4⟩ := bR5_ BK355.out) | ((with_reducible refine gate_dst (N := 3) rfl ?_); refine bX_ 3 (cs := #[.int .i64 0, .int .i64 0, .int .i64 0, .int .i64 0, .int .i64 0]) (t := 25) ?_; intro gb357 hg w23 hbox hb; have n0 := aM_ (nB_ BK355.out hb); have n1 := aM_ (nB_ BK356.out hb); have n2 := aM_ (sT_ HB.out hb); have n3 := aM_ (hbox); have n4 := aM_ (sZ_ hg HB.out); have n5 := aM_ (sZ_ hg HB.out); have n6 := aM_ (nL_ hg BK355.out); have n7 := aM_ (nG_ hg BK355.out); have n8 := aM_ (nL_ hg BK356.out); have n9 := aM_ (nG_ hg BK356.out); clear BK355; clear BK356; clear HB; have BK355 := n0; have BK356 := n1; have HB := n2; have BK357 := n3; have GW357 := n4; have GE357 := n5; have NB355_357 := n6; have NB357_355 := n7; have NB356_357 := n8; have NB357_356 := n9; clear n0 n1 n2 n3 n4 n5 n6 n7 n8 n9; clear hb hbox hg; have hnb24 := NB357_355.out; have hnc24 := NB355_357.out; have hnb25 := NB357_356.out; have hnc25 := NB356_357.out; obtain ⟨hcz26_0, hcz26_1, hcz26_2, hcz26_3, hcz26_4, hfz26_0, hfz26_1, hfz26_2, hfz26_3, hfz26_4⟩ := bR5_ BK357.out; obtain ⟨hcz27_0, hcz27_1, hcz27_2, hcz27_3, hcz27_4, hfz27_0, hfz27_1, hfz27_2, hfz27_3, hfz27_4⟩ := bR5_ BK355.out))
  (try simp only [Act.put, List.setIfInBounds_toArray, List.set_cons_zero, List.set_cons_succ])
  go_cut [17] (fun v17 wc => ∃ (kq : Nat) (x17_17 : Bool), v17 = .bool x17_17 ∧ Aside0 (impl_stepNamed.j0 kq a0_0 x17_17 a0_0 a0_1 a0_2 a0_3 a0_4 a0_0 0 0 0 0 = some (r1, r2, r3, r4, r5)) ∧ Aside0 (kq ≤ k) ∧ Aside0 (wc.heap[gb355]? = some (.cells #[.int .i64 a0_0, .int .i64 a0_1, .int .i64 a0_2, .int .i64 a0_3, .int .i64 a0_4] 25 (0, 0))) ∧ Aside0 (wc.heap[gb356]? = some (.cells #[.int .i64 0, .int .i64 0, .int .i64 0, .int .i64 0, .int .i64 0] 25 (0, 0))) ∧ Aside0 (wc.heap[gb357]? = some (.cells #[.int .i64 a0_0, .int .i64 0, .int .i64 0, .int .i64 0, .int .i64 0] 25 (0, 0))) ∧ Aside0 (Below w.heap.size w wc))
  case first =>
   have H := HC18.out
   clear HC18
   by_cases c28 : a0_0 = 2
   ·rw [if_pos c28] at H
    have c28b0 : (a0_0 == 2) = true := beq_iff_eq.mpr c28
    have c28b1 : (a0_0 != 2) = false := bne_eq_false_iff_eq.mpr c28
    clear c28
    (first | rw [c28b0] | (simp only [i64_w, i32_w]; rw [c28b0]) | skip)
    have H' := aM_ H
    clear H
    go_wp2
    go_meet
    case rel => exact ⟨_, ((a0_0 == 2)), (by first | rfl | (simp; done) | (simp [*]; done)), H', ⟨by first | omega | exact Nat.le_refl _⟩, ⟨by (with_reducible repeat (first | refine bN_ ?_ _ | refine bD_ ?_ | refine bA_ ?_ _)); refine blk_far ?_ NB355_357.out _; (with_reducible repeat (first | refine bN_ ?_ _ | refine bD_ ?_ | refine bA_ ?_ _)); refine blk_far ?_ NB355_357.out _; (with_reducible repeat (first | refine bN_ ?_ _ | refine bD_ ?_ | refine bA_ ?_ _)); refine blk_far ?_ NB355_357.out _; (with_reducible repeat (first | refine bN_ ?_ _ | refine bD_ ?_ | refine bA_ ?_ _)); refine blk_far ?_ NB355_357.out _; (with_reducible repeat (first | refine bN_ ?_ _ | refine bD_ ?_ | refine bA_ ?_ _)); refine blk_far ?_ NB355_357.out _; (with_reducible repeat (first | refine bN_ ?_ _ | refine bD_ ?_ | refine bA_ ?_ _)); exact BK355.out⟩, ⟨by (with_reducible repeat (first | refine bN_ ?_ _ | refine bD_ ?_ | refine bA_ ?_ _)); refine blk_far ?_ NB356_357.out _; (with_reducible repeat (first | refine bN_ ?_ _ | refine bD_ ?_ | refine bA_ ?_ _)); refine blk_far ?_ NB356_357.out _; (with_reducible repeat (first | refine bN_ ?_ _ | refine bD_ ?_ | refine bA_ ?_ _)); refine blk_far ?_ NB356_357.out _; (with_reducible repeat (first | refine bN_ ?_ _ | refine bD_ ?_ | refine bA_ ?_ _)); refine blk_far ?_ NB356_357.out _; (with_reducible repeat (first | refine bN_ ?_ _ | refine bD_ ?_ | refine bA_ ?_ _)); refine blk_far ?_ NB356_357.out _; (with_reducible repeat (first | refine bN_ ?_ _ | refine bD_ ?_ | refine bA_ ?_ _)); exact BK356.out⟩, ⟨by (with_reducible repeat (first | refine bN_ ?_ _ | refine bD_ ?_ | refine bA_ ?_ _)); refine blk_put (cs := #[.int .i64 a0_0, .int .i64 0, .int .i64 0, .int .i64 0, .int .i64 0]) ?_ 4 _ rfl; (with_reducible repeat (first | refine bN_ ?_ _ | refine bD_ ?_ | refine bA_ ?_ _)); refine blk_put (cs := #[.int .i64 a0_0, .int .i64 0, .int .i64 0, .int .i64 0, .int .i64 0]) ?_ 3 _ rfl; (with_reducible repeat (first | refine bN_ ?_ _ | refine bD_ ?_ | refine bA_ ?_ _)); refine blk_put (cs := #[.int .i64 a0_0, .int .i64 0, .int .i64 0, .int .i64 0, .int .i64 0]) ?_ 2 _ rfl; (with_reducible repeat (first | refine bN_ ?_ _ | refine bD_ ?_ | refine bA_ ?_ _)); refine blk_put (cs := #[.int .i64 a0_0, .int .i64 0, .int .i64 0, .int .i64 0, .int .i64 0]) ?_ 1 _ rfl; (with_reducible repeat (first | refine bN_ ?_ _ | refine bD_ ?_ | refine bA_ ?_ _)); refine blk_put (cs := #[.int .i64 0, .int .i64 0, .int .i64 0, .int .i64 0, .int .i64 0]) ?_ 0 _ rfl; (with_reducible repeat (first | refine bN_ ?_ _ | refine bD_ ?_ | refine bA_ ?_ _)); exact BK357.out⟩, ⟨gW_ HB.out⟩⟩
   ·rw [if_neg c28] at H
    have c28b0 : (a0_0 == 2) = false := beq_eq_false_iff_ne.mpr c28
    have c28b1 : (a0_0 != 2) = true := bne_iff_ne.mpr c28
    (first | rw [c28b0] | (simp only [i64_w, i32_w]; rw [c28b0]) | skip)
    by_cases c29 : a0_0 = 3
    ·rw [if_pos c29] at H
     have c29b0 : (a0_0 == 3) = true := beq_iff_eq.mpr c29
     have c29b1 : (a0_0 != 3) = false := bne_eq_false_iff_eq.mpr c29
     clear c29
     have H' := aM_ H
     clear H
     go_wp2
     go_meet
     case rel => exact ⟨_, ((a0_0 == 3)), (by first | rfl | (simp; done) | (simp [*]; done)), H', ⟨by first | omega | exact Nat.le_refl _⟩, ⟨by (with_reducible repeat (first | refine bN_ ?_ _ | refine bD_ ?_ | refine bA_ ?_ _)); refine blk_far ?_ NB355_357.out _; (with_reducible repeat (first | refine bN_ ?_ _ | refine bD_ ?_ | refine bA_ ?_ _)); refine blk_far ?_ NB355_357.out _; (with_reducible repeat (first | refine bN_ ?_ _ | refine bD_ ?_ | refine bA_ ?_ _)); refine blk_far ?_ NB355_357.out _; (with_reducible repeat (first | refine bN_ ?_ _ | refine bD_ ?_ | refine bA_ ?_ _)); refine blk_far ?_ NB355_357.out _; (with_reducible repeat (first | refine bN_ ?_ _ | refine bD_ ?_ | refine bA_ ?_ _)); refine blk_far ?_ NB355_357.out _; (with_reducible repeat (first | refine bN_ ?_ _ | refine bD_ ?_ | refine bA_ ?_ _)); exact BK355.out⟩, ⟨by (with_reducible repeat (first | refine bN_ ?_ _ | refine bD_ ?_ | refine bA_ ?_ _)); refine blk_far ?_ NB356_357.out _; (with_reducible repeat (first | refine bN_ ?_ _ | refine bD_ ?_ | refine bA_ ?_ _)); refine blk_far ?_ NB356_357.out _; (with_reducible repeat (first | refine bN_ ?_ _ | refine bD_ ?_ | refine bA_ ?_ _)); refine blk_far ?_ NB356_357.out _; (with_reducible repeat (first | refine bN_ ?_ _ | refine bD_ ?_ | refine bA_ ?_ _)); refine blk_far ?_ NB356_357.out _; (with_reducible repeat (first | refine bN_ ?_ _ | refine bD_ ?_ | refine bA_ ?_ _)); refine blk_far ?_ NB356_357.out _; (with_reducible repeat (first | refine bN_ ?_ _ | refine bD_ ?_ | refine bA_ ?_ _)); exact BK356.out⟩, ⟨by (with_reducible repeat (first | refine bN_ ?_ _ | refine bD_ ?_ | refine bA_ ?_ _)); refine blk_put (cs := #[.int .i64 a0_0, .int .i64 0, .int .i64 0, .int .i64 0, .int .i64 0]) ?_ 4 _ rfl; (with_reducible repeat (first | refine bN_ ?_ _ | refine bD_ ?_ | refine bA_ ?_ _)); refine blk_put (cs := #[.int .i64 a0_0, .int .i64 0, .int .i64 0, .int .i64 0, .int .i64 0]) ?_ 3 _ rfl; (with_reducible repeat (first | refine bN_ ?_ _ | refine bD_ ?_ | refine bA_ ?_ _)); refine blk_put (cs := #[.int .i64 a0_0, .int .i64 0, .int .i64 0, .int .i64 0, .int .i64 0]) ?_ 2 _ rfl; (with_reducible repeat (first | refine bN_ ?_ _ | refine bD_ ?_ | refine bA_ ?_ _)); refine blk_put (cs := #[.int .i64 a0_0, .int .i64 0, .int .i64 0, .int .i64 0, .int .i64 0]) ?_ 1 _ rfl; (with_reducible repeat (first | refine bN_ ?_ _ | refine bD_ ?_ | refine bA_ ?_ _)); refine blk_put (cs := #[.int .i64 0, .int .i64 0, .int .i64 0, .int .i64 0, .int .i64 0]) ?_ 0 _ rfl; (with_reducible repeat (first | refine bN_ ?_ _ | refine bD_ ?_ | refine bA_ ?_ _)); exact BK357.out⟩, ⟨gW_ HB.out⟩⟩
    ·rw [if_neg c29] at H
     have c29b0 : (a0_0 == 3) = false := beq_eq_false_iff_ne.mpr c29
     have c29b1 : (a0_0 != 3) = true := bne_iff_ne.mpr c29
     have H' := aM_ H
     clear H
     go_wp2
     go_meet
     case rel => exact ⟨_, ((a0_0 == 4)), (by first | rfl | (simp; done) | (simp [*]; done)), H', ⟨by first | omega | exact Nat.le_refl _⟩, ⟨by (with_reducible repeat (first | refine bN_ ?_ _ | refine bD_ ?_ | refine bA_ ?_ _)); refine blk_far ?_ NB355_357.out _; (with_reducible repeat (first | refine bN_ ?_ _ | refine bD_ ?_ | refine bA_ ?_ _)); refine blk_far ?_ NB355_357.out _; (with_reducible repeat (first | refine bN_ ?_ _ | refine bD_ ?_ | refine bA_ ?_ _)); refine blk_far ?_ NB355_357.out _; (with_reducible repeat (first | refine bN_ ?_ _ | refine bD_ ?_ | refine bA_ ?_ _)); refine blk_far ?_ NB355_357.out _; (with_reducible repeat (first | refine bN_ ?_ _ | refine bD_ ?_ | refine bA_ ?_ _)); refine blk_far ?_ NB355_357.out _; (with_reducible repeat (first | refine bN_ ?_ _ | refine bD_ ?_ | refine bA_ ?_ _)); exact BK355.out⟩, ⟨by (with_reducible repeat (first | refine bN_ ?_ _ | refine bD_ ?_ | refine bA_ ?_ _)); refine blk_far ?_ NB356_357.out _; (with_reducible repeat (first | refine bN_ ?_ _ | refine bD_ ?_ | refine bA_ ?_ _)); refine blk_far ?_ NB356_357.out _; (with_reducible repeat (first | refine bN_ ?_ _ | refine bD_ ?_ | refine bA_ ?_ _)); refine blk_far ?_ NB356_357.out _; (with_reducible repeat (first | refine bN_ ?_ _ | refine bD_ ?_ | refine bA_ ?_ _)); refine blk_far ?_ NB356_357.out _; (with_reducible repeat (first | refine bN_ ?_ _ | refine bD_ ?_ | refine bA_ ?_ _)); refine blk_far ?_ NB356_357.out _; (with_reducible repeat (first | refine bN_ ?_ _ | refine bD_ ?_ | refine bA_ ?_ _)); exact BK356.out⟩, ⟨by (with_reducible repeat (first | refine bN_ ?_ _ | refine bD_ ?_ | refine bA_ ?_ _)); refine blk_put (cs := #[.int .i64 a0_0, .int .i64 0, .int .i64 0, .int .i64 0, .int .i64 0]) ?_ 4 _ rfl; (with_reducible repeat (first | refine bN_ ?_ _ | refine bD_ ?_ | refine bA_ ?_ _)); refine blk_put (cs := #[.int .i64 a0_0, .int .i64 0, .int .i64 0, .int .i64 0, .int .i64 0]) ?_ 3 _ rfl; (with_reducible repeat (first | refine bN_ ?_ _ | refine bD_ ?_ | refine bA_ ?_ _)); refine blk_put (cs := #[.int .i64 a0_0, .int .i64 0, .int .i64 0, .int .i64 0, .int .i64 0]) ?_ 2 _ rfl; (with_reducible repeat (first | refine bN_ ?_ _ | refine bD_ ?_ | refine bA_ ?_ _)); refine blk_put (cs := #[.int .i64 a0_0, .int .i64 0, .int .i64 0, .int .i64 0, .int .i64 0]) ?_ 1 _ rfl; (with_reducible repeat (first | refine bN_ ?_ _ | refine bD_ ?_ | refine bA_ ?_ _)); refine blk_put (cs := #[.int .i64 0, .int .i64 0, .int .i64 0, .int .i64 0, .int .i64 0]) ?_ 0 _ rfl; (with_reducible repeat (first | refine bN_ ?_ _ | refine bD_ ?_ | refine bA_ ?_ _)); exact BK357.out⟩, ⟨gW_ HB.out⟩⟩
  case rest =>
   clear HC18
   try clear c2
   try clear c2b0
   try clear c2b1
   try clear p2
   try clear c5
   try clear c8
   try clear c9
   try clear c21
   try clear c24
   try clear c25
   try clear c28
   try clear c28b0
   try clear c28b1
   try clear c29
   try clear c29b0
   try clear c29b1
   try clear hcz10_0 hcz10_1 hcz10_2 hcz10_3 hcz10_4 hfz10_0 hfz10_1 hfz10_2 hfz10_3 hfz10_4
   try clear hcz11_0 hcz11_1 hcz11_2 hcz11_3 hcz11_4 hfz11_0 hfz11_1 hfz11_2 hfz11_3 hfz11_4
   try clear hcz16_0 hcz16_1 hcz16_2 hcz16_3 hcz16_4 hfz16_0 hfz16_1 hfz16_2 hfz16_3 hfz16_4
   try clear hcz17_0 hcz17_1 hcz17_2 hcz17_3 hcz17_4 hfz17_0 hfz17_1 hfz17_2 hfz17_3 hfz17_4
   try clear hcz22_0 hcz22_1 hcz22_2 hcz22_3 hcz22_4 hfz22_0 hfz22_1 hfz22_2 hfz22_3 hfz22_4
   try clear hcz26_0 hcz26_1 hcz26_2 hcz26_3 hcz26_4 hfz26_0 hfz26_1 hfz26_2 hfz26_3 hfz26_4
   try clear hcz27_0 hcz27_1 hcz27_2 hcz27_3 hcz27_4 hfz27_0 hfz27_1 hfz27_2 hfz27_3 hfz27_4
   try clear hcz6_0 hcz6_1 hcz6_2 hcz6_3 hcz6_4 hfz6_0 hfz6_1 hfz6_2 hfz6_3 hfz6_4
   obtain ⟨kq, x17_17, rfl, HA, HJ17, BK355, BK356, BK357, HB⟩ := hcut
   cases kq with
   | zero => exact absurd HA.out (by simp [impl_stepNamed.j0])
   | succ kj17 =>
    have H := HA.out
    clear HA
    simp only [impl_stepNamed.j0] at H
    by_cases c30 : x17_17 = true
    ·subst c30
     have H1 : (some (a0_0, a0_1, a0_2, a0_3, 0)) = some (r1, r2, r3, r4, r5) := by rw [if_pos rfl] at H; exact H
     clear H
     have H := H1
     clear H1
     simp only [Option.some.injEq, Prod.mk.injEq] at H
     obtain ⟨rfl, rfl, rfl, rfl, rfl⟩ := H
     try go_wp2
     have n0 := aM_ (blk_drew BK355.out)
     have n1 := aM_ (blk_drew BK356.out)
     have n2 := aM_ (blk_drew BK357.out)
     have n3 := aM_ (below_drew1 HB.out)
     clear BK355
     clear BK356
     clear BK357
     clear HB
     have BK355 := n0
     have BK356 := n1
     have BK357 := n2
     have HB := n3
     clear n0 n1 n2 n3
     refine start_ (n := 12) (S := fun w' => w'.cell? ⟨gb355, 0, none⟩ = some (.int .i64 a0_0) ∧ w'.cell? ⟨gb355, 1, none⟩ = some (.int .i64 a0_1) ∧ w'.cell? ⟨gb355, 2, none⟩ = some (.int .i64 a0_2) ∧ w'.cell? ⟨gb355, 3, none⟩ = some (.int .i64 a0_3) ∧ w'.cell? ⟨gb355, 4, none⟩ = some (.int .i64 a0_4)) (ds := []) (mk_ 12 0) (by kernel_rfl) rfl rfl (bC5_ BK355.out) (fun hHeld => ?_); refine with_tabW impl_stepNamed.tab8 impl_stepNamed.bits8 (fun HT_ HW_ => ?_)
     generalize wc.drew = w31 at BK355 BK356 BK357 HB hHeld ⊢
     refine pU_ 0 (some 21) (mk_ 12 1) ?_
     refine pU_ 2 (some 23) (mk_ 12 5) ?_
     refine pU_ 4 (some 25) (mk_ 12 21) ?_
     refine tK5_ 1 (some 22) (mk_ 12 23) ?_
     refine pU_ 6 (some 27) (mk_ 12 87) ?_
     refine tK5_ 3 (some 24) (mk_ 12 95) ?_
     refine tK5_ 5 (some 26) (mk_ 12 127) ?_
     refine oN_ 7 (none) (mk_ 12 255) (fun K hK => ?_)
     have hs32 : w31.cell? ⟨gb357, 1, none⟩ = some (.int .i64 0) := (blk_cell BK357.out 1).trans rfl
     have hfs32 := blk_frozen BK357.out 1
     have hns32_0 := NB355_357.out
     have hns32_1 := NB356_357.out
     have hms32_0 := NB357_355.out
     have hms32_1 := NB357_356.out
     refine skip_ (w1 := ?_) (by rfl) rfl ?_ ?_
     rotate_left
     ·go_simp
      rfl
     refine hK.out _ _ ⟨(cf_ NB355_357.out hHeld.1), (cf_ NB355_357.out hHeld.2.1), (cf_ NB355_357.out hHeld.2.2.1), (cf_ NB355_357.out hHeld.2.2.2.1), (cf_ NB355_357.out hHeld.2.2.2.2)⟩ (fun hHeld => ?_)
     clear hK K
     refine pU_ 8 (some 28) (mk_ 12 511) ?_
     refine oN_ 9 (none) (mk_ 12 1023) (fun K hK => ?_)
     have hs33 : w31.cell? ⟨gb357, 2, none⟩ = some (.int .i64 0) := (blk_cell BK357.out 2).trans rfl
     have hfs33 := blk_frozen BK357.out 2
     have hns33_0 := NB355_357.out
     have hns33_1 := NB356_357.out
     have hms33_0 := NB357_355.out
     have hms33_1 := NB357_356.out
     refine skip_ (w1 := ?_) (by rfl) rfl ?_ ?_
     rotate_left
     ·go_simp
      rfl
     refine hK.out _ _ ⟨(cf_ NB355_357.out hHeld.1), (cf_ NB355_357.out hHeld.2.1), (cf_ NB355_357.out hHeld.2.2.1), (cf_ NB355_357.out hHeld.2.2.2.1), (cf_ NB355_357.out hHeld.2.2.2.2)⟩ (fun hHeld => ?_)
     clear hK K
     refine pU_ 10 (some 29) (mk_ 12 2047) ?_
     refine oN_ 11 (none) (mk_ 12 4095) (fun K hK => ?_)
     have hs34 : w31.cell? ⟨gb357, 3, none⟩ = some (.int .i64 0) := (blk_cell BK357.out 3).trans rfl
     have hfs34 := blk_frozen BK357.out 3
     have hns34_0 := NB355_357.out
     have hns34_1 := NB356_357.out
     have hms34_0 := NB357_355.out
     have hms34_1 := NB357_356.out
     refine skip_ (w1 := ?_) (by rfl) rfl ?_ ?_
     rotate_left
     ·go_simp
      rfl
     refine hK.out _ _ ⟨(cf_ NB355_357.out hHeld.1), (cf_ NB355_357.out hHeld.2.1), (cf_ NB355_357.out hHeld.2.2.1), (cf_ NB355_357.out hHeld.2.2.2.1), (cf_ NB355_357.out hHeld.2.2.2.2)⟩ (fun hHeld => ?_)
     clear hK K
     refine done_ (done_of HT_.out (by kernel_rfl)) ?_
     have hnb35 := NB357_355.out
     have hnc35 := NB355_357.out
     have hnb36 := NB357_356.out
     have hnc36 := NB356_357.out
     obtain ⟨hcz37_0, hcz37_1, hcz37_2, hcz37_3, hcz37_4, hfz37_0, hfz37_1, hfz37_2, hfz37_3, hfz37_4⟩ := bR5_ BK357.out
     have hnb38 := NB356_355.out
     have hnc38 := NB355_356.out
     obtain ⟨hcz39_0, hcz39_1, hcz39_2, hcz39_3, hcz39_4, hfz39_0, hfz39_1, hfz39_2, hfz39_3, hfz39_4⟩ := bR5_ BK356.out
     try go_wp2
     refine bodyPost_ret (results_cell_row rfl _ _ gb356 25 #[.int .i64 a0_0, .int .i64 a0_1, .int .i64 a0_2, .int .i64 a0_3, .int .i64 0] (0, 0) _ rfl (by (with_reducible repeat (first | refine bN_ ?_ _ | refine bD_ ?_ | refine bA_ ?_ _)); refine blk_put (cs := #[.int .i64 a0_0, .int .i64 a0_1, .int .i64 a0_2, .int .i64 a0_3, .int .i64 0]) ?_ 4 _ rfl; (with_reducible repeat (first | refine bN_ ?_ _ | refine bD_ ?_ | refine bA_ ?_ _)); refine blk_put (cs := #[.int .i64 a0_0, .int .i64 a0_1, .int .i64 a0_2, .int .i64 0, .int .i64 0]) ?_ 3 _ rfl; (with_reducible repeat (first | refine bN_ ?_ _ | refine bD_ ?_ | refine bA_ ?_ _)); refine blk_put (cs := #[.int .i64 a0_0, .int .i64 a0_1, .int .i64 0, .int .i64 0, .int .i64 0]) ?_ 2 _ rfl; (with_reducible repeat (first | refine bN_ ?_ _ | refine bD_ ?_ | refine bA_ ?_ _)); refine blk_put (cs := #[.int .i64 a0_0, .int .i64 0, .int .i64 0, .int .i64 0, .int .i64 0]) ?_ 1 _ rfl; (with_reducible repeat (first | refine bN_ ?_ _ | refine bD_ ?_ | refine bA_ ?_ _)); refine blk_put (cs := #[.int .i64 0, .int .i64 0, .int .i64 0, .int .i64 0, .int .i64 0]) ?_ 0 _ rfl; (with_reducible repeat (first | refine bN_ ?_ _ | refine bD_ ?_ | refine bA_ ?_ _)); refine blk_far ?_ NB356_357.out _; (with_reducible repeat (first | refine bN_ ?_ _ | refine bD_ ?_ | refine bA_ ?_ _)); refine blk_far ?_ NB356_357.out _; (with_reducible repeat (first | refine bN_ ?_ _ | refine bD_ ?_ | refine bA_ ?_ _)); refine blk_far ?_ NB356_357.out _; (with_reducible repeat (first | refine bN_ ?_ _ | refine bD_ ?_ | refine bA_ ?_ _)); exact BK356.out) Tryd.underlying25 rfl (by kernel_rfl)) rfl ?_
     exact fI_ HB.out
    ·replace c30 := Bool.eq_false_iff.mpr c30
     subst c30
     have H1 : (if a0_0 = 5 then (some (a0_0, a0_1, a0_2, 0, a0_4)) else (if a0_0 = 6 then (impl_stepNamed.j1 kj17 a0_0 (a0_0 == 6) a0_0 a0_1 a0_2 a0_3 a0_4 a0_0 0 0 0 0) else (impl_stepNamed.j1 kj17 a0_0 (a0_0 == 7) a0_0 a0_1 a0_2 a0_3 a0_4 a0_0 0 0 0 0))) = some (r1, r2, r3, r4, r5) := by rw [if_neg (show ¬ (false = true) by decide)] at H; exact H
     clear H
     have H := H1
     clear H1
     by_cases c40 : a0_0 = 5
     ·rw [if_pos c40] at H
      have c40b0 : (a0_0 == 5) = true := beq_iff_eq.mpr c40
      have c40b1 : (a0_0 != 5) = false := bne_eq_false_iff_eq.mpr c40
      clear c40
      simp only [Option.some.injEq, Prod.mk.injEq] at H
      obtain ⟨rfl, rfl, rfl, rfl, rfl⟩ := H
      try go_wp2
      have n0 := aM_ (blk_drew BK355.out)
      have n1 := aM_ (blk_drew BK356.out)
      have n2 := aM_ (blk_drew BK357.out)
      have n3 := aM_ (below_drew1 HB.out)
      clear BK355
      clear BK356
      clear BK357
      clear HB
      have BK355 := n0
      have BK356 := n1
      have BK357 := n2
      have HB := n3
      clear n0 n1 n2 n3
      refine start_ (n := 12) (S := fun w' => w'.cell? ⟨gb355, 0, none⟩ = some (.int .i64 a0_0) ∧ w'.cell? ⟨gb355, 1, none⟩ = some (.int .i64 a0_1) ∧ w'.cell? ⟨gb355, 2, none⟩ = some (.int .i64 a0_2) ∧ w'.cell? ⟨gb355, 3, none⟩ = some (.int .i64 a0_3) ∧ w'.cell? ⟨gb355, 4, none⟩ = some (.int .i64 a0_4)) (ds := []) (mk_ 12 0) (by kernel_rfl) rfl rfl (bC5_ BK355.out) (fun hHeld => ?_); refine with_tabW impl_stepNamed.tab10 impl_stepNamed.bits10 (fun HT_ HW_ => ?_)
      generalize wc.drew = w41 at BK355 BK356 BK357 HB hHeld ⊢
      refine pU_ 0 (some 32) (mk_ 12 1) ?_
      refine pU_ 2 (some 34) (mk_ 12 5) ?_
      refine pU_ 4 (some 36) (mk_ 12 21) ?_
      refine tK5_ 1 (some 33) (mk_ 12 23) ?_
      refine pU_ 6 (some 38) (mk_ 12 87) ?_
      refine tK5_ 3 (some 35) (mk_ 12 95) ?_
      refine tK5_ 5 (some 37) (mk_ 12 127) ?_
      refine oN_ 7 (none) (mk_ 12 255) (fun K hK => ?_)
      have hs42 : w41.cell? ⟨gb357, 1, none⟩ = some (.int .i64 0) := (blk_cell BK357.out 1).trans rfl
      have hfs42 := blk_frozen BK357.out 1
      have hns42_0 := NB355_357.out
      have hns42_1 := NB356_357.out
      have hms42_0 := NB357_355.out
      have hms42_1 := NB357_356.out
      refine skip_ (w1 := ?_) (by rfl) rfl ?_ ?_
      rotate_left
      ·go_simp
       rfl
      refine hK.out _ _ ⟨(cf_ NB355_357.out hHeld.1), (cf_ NB355_357.out hHeld.2.1), (cf_ NB355_357.out hHeld.2.2.1), (cf_ NB355_357.out hHeld.2.2.2.1), (cf_ NB355_357.out hHeld.2.2.2.2)⟩ (fun hHeld => ?_)
      clear hK K
      refine pU_ 8 (some 39) (mk_ 12 511) ?_
      refine oN_ 9 (none) (mk_ 12 1023) (fun K hK => ?_)
      have hs43 : w41.cell? ⟨gb357, 2, none⟩ = some (.int .i64 0) := (blk_cell BK357.out 2).trans rfl
      have hfs43 := blk_frozen BK357.out 2
      have hns43_0 := NB355_357.out
      have hns43_1 := NB356_357.out
      have hms43_0 := NB357_355.out
      have hms43_1 := NB357_356.out
      refine skip_ (w1 := ?_) (by rfl) rfl ?_ ?_
      rotate_left
      ·go_simp
       rfl
      refine hK.out _ _ ⟨(cf_ NB355_357.out hHeld.1), (cf_ NB355_357.out hHeld.2.1), (cf_ NB355_357.out hHeld.2.2.1), (cf_ NB355_357.out hHeld.2.2.2.1), (cf_ NB355_357.out hHeld.2.2.2.2)⟩ (fun hHeld => ?_)
      clear hK K
      refine pU_ 10 (some 40) (mk_ 12 2047) ?_
      refine oN_ 11 (none) (mk_ 12 4095) (fun K hK => ?_)
      have hs44 : w41.cell? ⟨gb357, 4, none⟩ = some (.int .i64 0) := (blk_cell BK357.out 4).trans rfl
      have hfs44 := blk_frozen BK357.out 4
      have hns44_0 := NB355_357.out
      have hns44_1 := NB356_357.out
      have hms44_0 := NB357_355.out
      have hms44_1 := NB357_356.out
      refine skip_ (w1 := ?_) (by rfl) rfl ?_ ?_
      rotate_left
      ·go_simp
       rfl
      refine hK.out _ _ ⟨(cf_ NB355_357.out hHeld.1), (cf_ NB355_357.out hHeld.2.1), (cf_ NB355_357.out hHeld.2.2.1), (cf_ NB355_357.out hHeld.2.2.2.1), (cf_ NB355_357.out hHeld.2.2.2.2)⟩ (fun hHeld => ?_)
      clear hK K
      refine done_ (done_of HT_.out (by kernel_rfl)) ?_
      have hnb45 := NB357_355.out
      have hnc45 := NB355_357.out
      have hnb46 := NB357_356.out
      have hnc46 := NB356_357.out
      obtain ⟨hcz47_0, hcz47_1, hcz47_2, hcz47_3, hcz47_4, hfz47_0, hfz47_1, hfz47_2, hfz47_3, hfz47_4⟩ := bR5_ BK357.out
      have hnb48 := NB356_355.out
      have hnc48 := NB355_356.out
      obtain ⟨hcz49_0, hcz49_1, hcz49_2, hcz49_3, hcz49_4, hfz49_0, hfz49_1, hfz49_2, hfz49_3, hfz49_4⟩ := bR5_ BK356.out
      try go_wp2
      refine bodyPost_ret (results_cell_row rfl _ _ gb356 25 #[.int .i64 a0_0, .int .i64 a0_1, .int .i64 a0_2, .int .i64 0, .int .i64 a0_4] (0, 0) _ rfl (by (with_reducible repeat (first | refine bN_ ?_ _ | refine bD_ ?_ | refine bA_ ?_ _)); refine blk_put (cs := #[.int .i64 a0_0, .int .i64 a0_1, .int .i64 a0_2, .int .i64 0, .int .i64 0]) ?_ 4 _ rfl; (with_reducible repeat (first | refine bN_ ?_ _ | refine bD_ ?_ | refine bA_ ?_ _)); refine blk_put (cs := #[.int .i64 a0_0, .int .i64 a0_1, .int .i64 a0_2, .int .i64 0, .int .i64 0]) ?_ 3 _ rfl; (with_reducible repeat (first | refine bN_ ?_ _ | refine bD_ ?_ | refine bA_ ?_ _)); refine blk_put (cs := #[.int .i64 a0_0, .int .i64 a0_1, .int .i64 0, .int .i64 0, .int .i64 0]) ?_ 2 _ rfl; (with_reducible repeat (first | refine bN_ ?_ _ | refine bD_ ?_ | refine bA_ ?_ _)); refine blk_put (cs := #[.int .i64 a0_0, .int .i64 0, .int .i64 0, .int .i64 0, .int .i64 0]) ?_ 1 _ rfl; (with_reducible repeat (first | refine bN_ ?_ _ | refine bD_ ?_ | refine bA_ ?_ _)); refine blk_put (cs := #[.int .i64 0, .int .i64 0, .int .i64 0, .int .i64 0, .int .i64 0]) ?_ 0 _ rfl; (with_reducible repeat (first | refine bN_ ?_ _ | refine bD_ ?_ | refine bA_ ?_ _)); refine blk_far ?_ NB356_357.out _; (with_reducible repeat (first | refine bN_ ?_ _ | refine bD_ ?_ | refine bA_ ?_ _)); refine blk_far ?_ NB356_357.out _; (with_reducible repeat (first | refine bN_ ?_ _ | refine bD_ ?_ | refine bA_ ?_ _)); refine blk_far ?_ NB356_357.out _; (with_reducible repeat (first | refine bN_ ?_ _ | refine bD_ ?_ | refine bA_ ?_ _)); exact BK356.out) Tryd.underlying25 rfl (by kernel_rfl)) rfl ?_
      exact fI_ HB.out
     ·rw [if_neg c40] at H
      have c40b0 : (a0_0 == 5) = false := beq_eq_false_iff_ne.mpr c40
      have c40b1 : (a0_0 != 5) = true := bne_iff_ne.mpr c40
      have HC50 := aM_ H
      clear H
      go_upto_if 41 with (fail)
      go_cut [41] (fun v41 wc => ∃ (kq : Nat) (x41_49 : Bool), v41 = .bool x41_49 ∧ Aside0 (impl_stepNamed.j1 kq a0_0 x41_49 a0_0 a0_1 a0_2 a0_3 a0_4 a0_0 0 0 0 0 = some (r1, r2, r3, r4, r5)) ∧ Aside0 (kq ≤ kj17) ∧ Aside0 (wc.heap[gb355]? = some (.cells #[.int .i64 a0_0, .int .i64 a0_1, .int .i64 a0_2, .int .i64 a0_3, .int .i64 a0_4] 25 (0, 0))) ∧ Aside0 (wc.heap[gb356]? = some (.cells #[.int .i64 0, .int .i64 0, .int .i64 0, .int .i64 0, .int .i64 0] 25 (0, 0))) ∧ Aside0 (wc.heap[gb357]? = some (.cells #[.int .i64 a0_0, .int .i64 0, .int .i64 0, .int .i64 0, .int .i64 0] 25 (0, 0))) ∧ Aside0 (Below w.heap.size w wc))
      case first =>
       have H := HC50.out
       clear HC50
       by_cases c51 : a0_0 = 6
       ·rw [if_pos c51] at H
        have c51b0 : (a0_0 == 6) = true := beq_iff_eq.mpr c51
        have c51b1 : (a0_0 != 6) = false := bne_eq_false_iff_eq.mpr c51
        clear c51
        (first | rw [c51b0] | (simp only [i64_w, i32_w]; rw [c51b0]) | skip)
        have H' := aM_ H
        clear H
        go_wp2
        go_meet
        case rel => exact ⟨_, ((a0_0 == 6)), (by first | rfl | (simp; done) | (simp [*]; done)), H', ⟨by have := HJ17.out; first | omega | exact Nat.le_refl _⟩, ⟨rW_ BK355.out⟩, ⟨rW_ BK356.out⟩, ⟨rW_ BK357.out⟩, ⟨gW_ HB.out⟩⟩
       ·rw [if_neg c51] at H
        have c51b0 : (a0_0 == 6) = false := beq_eq_false_iff_ne.mpr c51
        have c51b1 : (a0_0 != 6) = true := bne_iff_ne.mpr c51
        (first | rw [c51b0] | (simp only [i64_w, i32_w]; rw [c51b0]) | skip)
        have H' := aM_ H
        clear H
        go_wp2
        go_meet
        case rel => exact ⟨_, ((a0_0 == 7)), (by first | rfl | (simp; done) | (simp [*]; done)), H', ⟨by have := HJ17.out; first | omega | exact Nat.le_refl _⟩, ⟨rW_ BK355.out⟩, ⟨rW_ BK356.out⟩, ⟨rW_ BK357.out⟩, ⟨gW_ HB.out⟩⟩
      case rest =>
       clear HC50
       try clear c2
       try clear c2b0
       try clear c2b1
       try clear p2
       try clear c3
       try clear c4
       try clear c5
       try clear c8
       try clear c9
       try clear c21
       try clear c24
       try clear c25
       try clear c28
       try clear c28b0
       try clear c28b1
       try clear c29
       try clear c29b0
       try clear c29b1
       try clear c30
       try clear c35
       try clear c36
       try clear c38
       try clear c40
       try clear c40b0
       try clear c40b1
       try clear c45
       try clear c46
       try clear c48
       try clear c51
       try clear c51b0
       try clear c51b1
       try clear hcz10_0 hcz10_1 hcz10_2 hcz10_3 hcz10_4 hfz10_0 hfz10_1 hfz10_2 hfz10_3 hfz10_4
       try clear hcz11_0 hcz11_1 hcz11_2 hcz11_3 hcz11_4 hfz11_0 hfz11_1 hfz11_2 hfz11_3 hfz11_4
       try clear hcz16_0 hcz16_1 hcz16_2 hcz16_3 hcz16_4 hfz16_0 hfz16_1 hfz16_2 hfz16_3 hfz16_4
       try clear hcz17_0 hcz17_1 hcz17_2 hcz17_3 hcz17_4 hfz17_0 hfz17_1 hfz17_2 hfz17_3 hfz17_4
       try clear hcz22_0 hcz22_1 hcz22_2 hcz22_3 hcz22_4 hfz22_0 hfz22_1 hfz22_2 hfz22_3 hfz22_4
       try clear hcz26_0 hcz26_1 hcz26_2 hcz26_3 hcz26_4 hfz26_0 hfz26_1 hfz26_2 hfz26_3 hfz26_4
       try clear hcz27_0 hcz27_1 hcz27_2 hcz27_3 hcz27_4 hfz27_0 hfz27_1 hfz27_2 hfz27_3 hfz27_4
       try clear hcz37_0 hcz37_1 hcz37_2 hcz37_3 hcz37_4 hfz37_0 hfz37_1 hfz37_2 hfz37_3 hfz37_4
       try clear hcz39_0 hcz39_1 hcz39_2 hcz39_3 hcz39_4 hfz39_0 hfz39_1 hfz39_2 hfz39_3 hfz39_4
       try clear hcz47_0 hcz47_1 hcz47_2 hcz47_3 hcz47_4 hfz47_0 hfz47_1 hfz47_2 hfz47_3 hfz47_4
       try clear hcz49_0 hcz49_1 hcz49_2 hcz49_3 hcz49_4 hfz49_0 hfz49_1 hfz49_2 hfz49_3 hfz49_4
       try clear hcz6_0 hcz6_1 hcz6_2 hcz6_3 hcz6_4 hfz6_0 hfz6_1 hfz6_2 hfz6_3 hfz6_4
       try clear p2
       obtain ⟨kq, x41_49, rfl, HA, HJ49, BK355, BK356, BK357, HB⟩ := hcut
       cases kq with
       | zero => exact absurd HA.out (by simp [impl_stepNamed.j1])
       | succ kj49 =>
        have H := HA.out
        clear HA
        simp only [impl_stepNamed.j1] at H
        by_cases c52 : x41_49 = true
        ·subst c52
         have H1 : (some (a0_0, 0, a0_2, a0_3, a0_4)) = some (r1, r2, r3, r4, r5) := by rw [if_pos rfl] at H; exact H
         clear H
         have H := H1
         clear H1
         simp only [Option.some.injEq, Prod.mk.injEq] at H
         obtain ⟨rfl, rfl, rfl, rfl, rfl⟩ := H
         try go_wp2
         have n0 := aM_ (blk_drew BK355.out)
         have n1 := aM_ (blk_drew BK356.out)
         have n2 := aM_ (blk_drew BK357.out)
         have n3 := aM_ (below_drew1 HB.out)
         clear BK355
         clear BK356
         clear BK357
         clear HB
         have BK355 := n0
         have BK356 := n1
         have BK357 := n2
         have HB := n3
         clear n0 n1 n2 n3
         refine start_ (n := 12) (S := fun w' => w'.cell? ⟨gb355, 0, none⟩ = some (.int .i64 a0_0) ∧ w'.cell? ⟨gb355, 1, none⟩ = some (.int .i64 a0_1) ∧ w'.cell? ⟨gb355, 2, none⟩ = some (.int .i64 a0_2) ∧ w'.cell? ⟨gb355, 3, none⟩ = some (.int .i64 a0_3) ∧ w'.cell? ⟨gb355, 4, none⟩ = some (.int .i64 a0_4)) (ds := []) (mk_ 12 0) (by kernel_rfl) rfl rfl (bC5_ BK355.out) (fun hHeld => ?_); refine with_tabW impl_stepNamed.tab13 impl_stepNamed.bits13 (fun HT_ HW_ => ?_)
         generalize wc.drew = w53 at BK355 BK356 BK357 HB hHeld ⊢
         refine pU_ 0 (some 44) (mk_ 12 1) ?_
         refine pU_ 2 (some 46) (mk_ 12 5) ?_
         refine pU_ 4 (some 48) (mk_ 12 21) ?_
         refine tK5_ 1 (some 45) (mk_ 12 23) ?_
         refine pU_ 6 (some 50) (mk_ 12 87) ?_
         refine tK5_ 3 (some 47) (mk_ 12 95) ?_
         refine tK5_ 5 (some 49) (mk_ 12 127) ?_
         refine oN_ 7 (none) (mk_ 12 255) (fun K hK => ?_)
         have hs54 : w53.cell? ⟨gb357, 2, none⟩ = some (.int .i64 0) := (blk_cell BK357.out 2).trans rfl
         have hfs54 := blk_frozen BK357.out 2
         have hns54_0 := NB355_357.out
         have hns54_1 := NB356_357.out
         have hms54_0 := NB357_355.out
         have hms54_1 := NB357_356.out
         refine skip_ (w1 := ?_) (by rfl) rfl ?_ ?_
         rotate_left
         ·go_simp
          rfl
         refine hK.out _ _ ⟨(cf_ NB355_357.out hHeld.1), (cf_ NB355_357.out hHeld.2.1), (cf_ NB355_357.out hHeld.2.2.1), (cf_ NB355_357.out hHeld.2.2.2.1), (cf_ NB355_357.out hHeld.2.2.2.2)⟩ (fun hHeld => ?_)
         clear hK K
         refine pU_ 8 (some 51) (mk_ 12 511) ?_
         refine oN_ 9 (none) (mk_ 12 1023) (fun K hK => ?_)
         have hs55 : w53.cell? ⟨gb357, 3, none⟩ = some (.int .i64 0) := (blk_cell BK357.out 3).trans rfl
         have hfs55 := blk_frozen BK357.out 3
         have hns55_0 := NB355_357.out
         have hns55_1 := NB356_357.out
         have hms55_0 := NB357_355.out
         have hms55_1 := NB357_356.out
         refine skip_ (w1 := ?_) (by rfl) rfl ?_ ?_
         rotate_left
         ·go_simp
          rfl
         refine hK.out _ _ ⟨(cf_ NB355_357.out hHeld.1), (cf_ NB355_357.out hHeld.2.1), (cf_ NB355_357.out hHeld.2.2.1), (cf_ NB355_357.out hHeld.2.2.2.1), (cf_ NB355_357.out hHeld.2.2.2.2)⟩ (fun hHeld => ?_)
         clear hK K
         refine pU_ 10 (some 52) (mk_ 12 2047) ?_
         refine oN_ 11 (none) (mk_ 12 4095) (fun K hK => ?_)
         have hs56 : w53.cell? ⟨gb357, 4, none⟩ = some (.int .i64 0) := (blk_cell BK357.out 4).trans rfl
         have hfs56 := blk_frozen BK357.out 4
         have hns56_0 := NB355_357.out
         have hns56_1 := NB356_357.out
         have hms56_0 := NB357_355.out
         have hms56_1 := NB357_356.out
         refine skip_ (w1 := ?_) (by rfl) rfl ?_ ?_
         rotate_left
         ·go_simp
          rfl
         refine hK.out _ _ ⟨(cf_ NB355_357.out hHeld.1), (cf_ NB355_357.out hHeld.2.1), (cf_ NB355_357.out hHeld.2.2.1), (cf_ NB355_357.out hHeld.2.2.2.1), (cf_ NB355_357.out hHeld.2.2.2.2)⟩ (fun hHeld => ?_)
         clear hK K
         refine done_ (done_of HT_.out (by kernel_rfl)) ?_
         have hnb57 := NB357_355.out
         have hnc57 := NB355_357.out
         have hnb58 := NB357_356.out
         have hnc58 := NB356_357.out
         obtain ⟨hcz59_0, hcz59_1, hcz59_2, hcz59_3, hcz59_4, hfz59_0, hfz59_1, hfz59_2, hfz59_3, hfz59_4⟩ := bR5_ BK357.out
         have hnb60 := NB356_355.out
         have hnc60 := NB355_356.out
         obtain ⟨hcz61_0, hcz61_1, hcz61_2, hcz61_3, hcz61_4, hfz61_0, hfz61_1, hfz61_2, hfz61_3, hfz61_4⟩ := bR5_ BK356.out
         try go_wp2
         refine bodyPost_ret (results_cell_row rfl _ _ gb356 25 #[.int .i64 a0_0, .int .i64 0, .int .i64 a0_2, .int .i64 a0_3, .int .i64 a0_4] (0, 0) _ rfl (by (with_reducible repeat (first | refine bN_ ?_ _ | refine bD_ ?_ | refine bA_ ?_ _)); refine blk_put (cs := #[.int .i64 a0_0, .int .i64 0, .int .i64 a0_2, .int .i64 a0_3, .int .i64 0]) ?_ 4 _ rfl; (with_reducible repeat (first | refine bN_ ?_ _ | refine bD_ ?_ | refine bA_ ?_ _)); refine blk_put (cs := #[.int .i64 a0_0, .int .i64 0, .int .i64 a0_2, .int .i64 0, .int .i64 0]) ?_ 3 _ rfl; (with_reducible repeat (first | refine bN_ ?_ _ | refine bD_ ?_ | refine bA_ ?_ _)); refine blk_put (cs := #[.int .i64 a0_0, .int .i64 0, .int .i64 0, .int .i64 0, .int .i64 0]) ?_ 2 _ rfl; (with_reducible repeat (first | refine bN_ ?_ _ | refine bD_ ?_ | refine bA_ ?_ _)); refine blk_put (cs := #[.int .i64 a0_0, .int .i64 0, .int .i64 0, .int .i64 0, .int .i64 0]) ?_ 1 _ rfl; (with_reducible repeat (first | refine bN_ ?_ _ | refine bD_ ?_ | refine bA_ ?_ _)); refine blk_put (cs := #[.int .i64 0, .int .i64 0, .int .i64 0, .int .i64 0, .int .i64 0]) ?_ 0 _ rfl; (with_reducible repeat (first | refine bN_ ?_ _ | refine bD_ ?_ | refine bA_ ?_ _)); refine blk_far ?_ NB356_357.out _; (with_reducible repeat (first | refine bN_ ?_ _ | refine bD_ ?_ | refine bA_ ?_ _)); refine blk_far ?_ NB356_357.out _; (with_reducible repeat (first | refine bN_ ?_ _ | refine bD_ ?_ | refine bA_ ?_ _)); refine blk_far ?_ NB356_357.out _; (with_reducible repeat (first | refine bN_ ?_ _ | refine bD_ ?_ | refine bA_ ?_ _)); exact BK356.out) Tryd.underlying25 rfl (by kernel_rfl)) rfl ?_
         exact fI_ HB.out
        ·replace c52 := Bool.eq_false_iff.mpr c52
         subst c52
         have H1 : (if a0_0 = 8 then (some (a0_0, a0_1, 0, a0_3, a0_4)) else (if a0_0 = 9 then (some (a0_0, 0, a0_2, 0, 0)) else (if a0_0 = 10 then (some (a0_0, 0, 0, 0, a0_4)) else (if a0_0 = 11 then (some (a0_0, 0, a0_2, 0, a0_4)) else (some (a0_0, 0, 0, 0, 0)))))) = some (r1, r2, r3, r4, r5) := by rw [if_neg (show ¬ (false = true) by decide)] at H; exact H
         clear H
         have H := H1
         clear H1
         by_cases c62 : a0_0 = 8
         ·rw [if_pos c62] at H
          have c62b0 : (a0_0 == 8) = true := beq_iff_eq.mpr c62
          have c62b1 : (a0_0 != 8) = false := bne_eq_false_iff_eq.mpr c62
          clear c62
          simp only [Option.some.injEq, Prod.mk.injEq] at H
          obtain ⟨rfl, rfl, rfl, rfl, rfl⟩ := H
          try go_wp2
          have n0 := aM_ (blk_drew BK355.out)
          have n1 := aM_ (blk_drew BK356.out)
          have n2 := aM_ (blk_drew BK357.out)
          have n3 := aM_ (below_drew1 HB.out)
          clear BK355
          clear BK356
          clear BK357
          clear HB
          have BK355 := n0
          have BK356 := n1
          have BK357 := n2
          have HB := n3
          clear n0 n1 n2 n3
          refine start_ (n := 12) (S := fun w' => w'.cell? ⟨gb355, 0, none⟩ = some (.int .i64 a0_0) ∧ w'.cell? ⟨gb355, 1, none⟩ = some (.int .i64 a0_1) ∧ w'.cell? ⟨gb355, 2, none⟩ = some (.int .i64 a0_2) ∧ w'.cell? ⟨gb355, 3, none⟩ = some (.int .i64 a0_3) ∧ w'.cell? ⟨gb355, 4, none⟩ = some (.int .i64 a0_4)) (ds := []) (mk_ 12 0) (by kernel_rfl) rfl rfl (bC5_ BK355.out) (fun hHeld => ?_); refine with_tabW impl_stepNamed.tab15 impl_stepNamed.bits15 (fun HT_ HW_ => ?_)
          generalize wc.drew = w63 at BK355 BK356 BK357 HB hHeld ⊢
          refine pU_ 0 (some 55) (mk_ 12 1) ?_
          refine pU_ 2 (some 57) (mk_ 12 5) ?_
          refine pU_ 4 (some 59) (mk_ 12 21) ?_
          refine tK5_ 1 (some 56) (mk_ 12 23) ?_
          refine pU_ 6 (some 61) (mk_ 12 87) ?_
          refine tK5_ 3 (some 58) (mk_ 12 95) ?_
          refine tK5_ 5 (some 60) (mk_ 12 127) ?_
          refine oN_ 7 (none) (mk_ 12 255) (fun K hK => ?_)
          have hs64 : w63.cell? ⟨gb357, 1, none⟩ = some (.int .i64 0) := (blk_cell BK357.out 1).trans rfl
          have hfs64 := blk_frozen BK357.out 1
          have hns64_0 := NB355_357.out
          have hns64_1 := NB356_357.out
          have hms64_0 := NB357_355.out
          have hms64_1 := NB357_356.out
          refine skip_ (w1 := ?_) (by rfl) rfl ?_ ?_
          rotate_left
          ·go_simp
           rfl
          refine hK.out _ _ ⟨(cf_ NB355_357.out hHeld.1), (cf_ NB355_357.out hHeld.2.1), (cf_ NB355_357.out hHeld.2.2.1), (cf_ NB355_357.out hHeld.2.2.2.1), (cf_ NB355_357.out hHeld.2.2.2.2)⟩ (fun hHeld => ?_)
          clear hK K
          refine pU_ 8 (some 62) (mk_ 12 511) ?_
          refine oN_ 9 (none) (mk_ 12 1023) (fun K hK => ?_)
          have hs65 : w63.cell? ⟨gb357, 3, none⟩ = some (.int .i64 0) := (blk_cell BK357.out 3).trans rfl
          have hfs65 := blk_frozen BK357.out 3
          have hns65_0 := NB355_357.out
          have hns65_1 := NB356_357.out
          have hms65_0 := NB357_355.out
          have hms65_1 := NB357_356.out
          refine skip_ (w1 := ?_) (by rfl) rfl ?_ ?_
          rotate_left
          ·go_simp
           rfl
          refine hK.out _ _ ⟨(cf_ NB355_357.out hHeld.1), (cf_ NB355_357.out hHeld.2.1), (cf_ NB355_357.out hHeld.2.2.1), (cf_ NB355_357.out hHeld.2.2.2.1), (cf_ NB355_357.out hHeld.2.2.2.2)⟩ (fun hHeld => ?_)
          clear hK K
          refine pU_ 10 (some 63) (mk_ 12 2047) ?_
          refine oN_ 11 (none) (mk_ 12 4095) (fun K hK => ?_)
          have hs66 : w63.cell? ⟨gb357, 4, none⟩ = some (.int .i64 0) := (blk_cell BK357.out 4).trans rfl
          have hfs66 := blk_frozen BK357.out 4
          have hns66_0 := NB355_357.out
          have hns66_1 := NB356_357.out
          have hms66_0 := NB357_355.out
          have hms66_1 := NB357_356.out
          refine skip_ (w1 := ?_) (by rfl) rfl ?_ ?_
          rotate_left
          ·go_simp
           rfl
          refine hK.out _ _ ⟨(cf_ NB355_357.out hHeld.1), (cf_ NB355_357.out hHeld.2.1), (cf_ NB355_357.out hHeld.2.2.1), (cf_ NB355_357.out hHeld.2.2.2.1), (cf_ NB355_357.out hHeld.2.2.2.2)⟩ (fun hHeld => ?_)
          clear hK K
          refine done_ (done_of HT_.out (by kernel_rfl)) ?_
          have hnb67 := NB357_355.out
          have hnc67 := NB355_357.out
          have hnb68 := NB357_356.out
          have hnc68 := NB356_357.out
          obtain ⟨hcz69_0, hcz69_1, hcz69_2, hcz69_3, hcz69_4, hfz69_0, hfz69_1, hfz69_2, hfz69_3, hfz69_4⟩ := bR5_ BK357.out
          have hnb70 := NB356_355.out
          have hnc70 := NB355_356.out
          obtain ⟨hcz71_0, hcz71_1, hcz71_2, hcz71_3, hcz71_4, hfz71_0, hfz71_1, hfz71_2, hfz71_3, hfz71_4⟩ := bR5_ BK356.out
          try go_wp2
          refine bodyPost_ret (results_cell_row rfl _ _ gb356 25 #[.int .i64 a0_0, .int .i64 a0_1, .int .i64 0, .int .i64 a0_3, .int .i64 a0_4] (0, 0) _ rfl (by (with_reducible repeat (first | refine bN_ ?_ _ | refine bD_ ?_ | refine bA_ ?_ _)); refine blk_put (cs := #[.int .i64 a0_0, .int .i64 a0_1, .int .i64 0, .int .i64 a0_3, .int .i64 0]) ?_ 4 _ rfl; (with_reducible repeat (first | refine bN_ ?_ _ | refine bD_ ?_ | refine bA_ ?_ _)); refine blk_put (cs := #[.int .i64 a0_0, .int .i64 a0_1, .int .i64 0, .int .i64 0, .int .i64 0]) ?_ 3 _ rfl; (with_reducible repeat (first | refine bN_ ?_ _ | refine bD_ ?_ | refine bA_ ?_ _)); refine blk_put (cs := #[.int .i64 a0_0, .int .i64 a0_1, .int .i64 0, .int .i64 0, .int .i64 0]) ?_ 2 _ rfl; (with_reducible repeat (first | refine bN_ ?_ _ | refine bD_ ?_ | refine bA_ ?_ _)); refine blk_put (cs := #[.int .i64 a0_0, .int .i64 0, .int .i64 0, .int .i64 0, .int .i64 0]) ?_ 1 _ rfl; (with_reducible repeat (first | refine bN_ ?_ _ | refine bD_ ?_ | refine bA_ ?_ _)); refine blk_put (cs := #[.int .i64 0, .int .i64 0, .int .i64 0, .int .i64 0, .int .i64 0]) ?_ 0 _ rfl; (with_reducible repeat (first | refine bN_ ?_ _ | refine bD_ ?_ | refine bA_ ?_ _)); refine blk_far ?_ NB356_357.out _; (with_reducible repeat (first | refine bN_ ?_ _ | refine bD_ ?_ | refine bA_ ?_ _)); refine blk_far ?_ NB356_357.out _; (with_reducible repeat (first | refine bN_ ?_ _ | refine bD_ ?_ | refine bA_ ?_ _)); refine blk_far ?_ NB356_357.out _; (with_reducible repeat (first | refine bN_ ?_ _ | refine bD_ ?_ | refine bA_ ?_ _)); exact BK356.out) Tryd.underlying25 rfl (by kernel_rfl)) rfl ?_
          exact fI_ HB.out
         ·rw [if_neg c62] at H
          have c62b0 : (a0_0 == 8) = false := beq_eq_false_iff_ne.mpr c62
          have c62b1 : (a0_0 != 8) = true := bne_iff_ne.mpr c62
          by_cases c72 : a0_0 = 9
          ·rw [if_pos c72] at H
           have c72b0 : (a0_0 == 9) = true := beq_iff_eq.mpr c72
           have c72b1 : (a0_0 != 9) = false := bne_eq_false_iff_eq.mpr c72
           clear c72
           simp only [Option.some.injEq, Prod.mk.injEq] at H
           obtain ⟨rfl, rfl, rfl, rfl, rfl⟩ := H
           have hnb73 := NB355_356.out
           have hnc73 := NB356_355.out
           have hnb74 := NB355_357.out
           have hnc74 := NB357_355.out
           obtain ⟨hcz75_0, hcz75_1, hcz75_2, hcz75_3, hcz75_4, hfz75_0, hfz75_1, hfz75_2, hfz75_3, hfz75_4⟩ := bR5_ BK355.out
           have hnb76 := NB357_356.out
           have hnc76 := NB356_357.out
           obtain ⟨hcz77_0, hcz77_1, hcz77_2, hcz77_3, hcz77_4, hfz77_0, hfz77_1, hfz77_2, hfz77_3, hfz77_4⟩ := bR5_ BK357.out
           obtain ⟨hcz78_0, hcz78_1, hcz78_2, hcz78_3, hcz78_4, hfz78_0, hfz78_1, hfz78_2, hfz78_3, hfz78_4⟩ := bR5_ BK356.out
           go_wp2
           refine bodyPost_ret (results_cell_row rfl _ _ gb356 25 #[.int .i64 a0_0, .int .i64 0, .int .i64 a0_2, .int .i64 0, .int .i64 0] (0, 0) _ rfl (by (with_reducible repeat (first | refine bN_ ?_ _ | refine bD_ ?_ | refine bA_ ?_ _)); refine blk_put (cs := #[.int .i64 a0_0, .int .i64 0, .int .i64 a0_2, .int .i64 0, .int .i64 0]) ?_ 4 _ rfl; (with_reducible repeat (first | refine bN_ ?_ _ | refine bD_ ?_ | refine bA_ ?_ _)); refine blk_put (cs := #[.int .i64 a0_0, .int .i64 0, .int .i64 a0_2, .int .i64 0, .int .i64 0]) ?_ 3 _ rfl; (with_reducible repeat (first | refine bN_ ?_ _ | refine bD_ ?_ | refine bA_ ?_ _)); refine blk_put (cs := #[.int .i64 a0_0, .int .i64 0, .int .i64 0, .int .i64 0, .int .i64 0]) ?_ 2 _ rfl; (with_reducible repeat (first | refine bN_ ?_ _ | refine bD_ ?_ | refine bA_ ?_ _)); refine blk_put (cs := #[.int .i64 a0_0, .int .i64 0, .int .i64 0, .int .i64 0, .int .i64 0]) ?_ 1 _ rfl; (with_reducible repeat (first | refine bN_ ?_ _ | refine bD_ ?_ | refine bA_ ?_ _)); refine blk_put (cs := #[.int .i64 0, .int .i64 0, .int .i64 0, .int .i64 0, .int .i64 0]) ?_ 0 _ rfl; (with_reducible repeat (first | refine bN_ ?_ _ | refine bD_ ?_ | refine bA_ ?_ _)); refine blk_far ?_ NB356_357.out _; (with_reducible repeat (first | refine bN_ ?_ _ | refine bD_ ?_ | refine bA_ ?_ _)); exact BK356.out) Tryd.underlying25 rfl (by kernel_rfl)) rfl ?_
           exact fI_ HB.out
          ·rw [if_neg c72] at H
           have c72b0 : (a0_0 == 9) = false := beq_eq_false_iff_ne.mpr c72
           have c72b1 : (a0_0 != 9) = true := bne_iff_ne.mpr c72
           by_cases c79 : a0_0 = 10
           ·rw [if_pos c79] at H
            have c79b0 : (a0_0 == 10) = true := beq_iff_eq.mpr c79
            have c79b1 : (a0_0 != 10) = false := bne_eq_false_iff_eq.mpr c79
            clear c79
            simp only [Option.some.injEq, Prod.mk.injEq] at H
            obtain ⟨rfl, rfl, rfl, rfl, rfl⟩ := H
            have hnb80 := NB355_356.out
            have hnc80 := NB356_355.out
            have hnb81 := NB355_357.out
            have hnc81 := NB357_355.out
            obtain ⟨hcz82_0, hcz82_1, hcz82_2, hcz82_3, hcz82_4, hfz82_0, hfz82_1, hfz82_2, hfz82_3, hfz82_4⟩ := bR5_ BK355.out
            have hnb83 := NB357_356.out
            have hnc83 := NB356_357.out
            obtain ⟨hcz84_0, hcz84_1, hcz84_2, hcz84_3, hcz84_4, hfz84_0, hfz84_1, hfz84_2, hfz84_3, hfz84_4⟩ := bR5_ BK357.out
            obtain ⟨hcz85_0, hcz85_1, hcz85_2, hcz85_3, hcz85_4, hfz85_0, hfz85_1, hfz85_2, hfz85_3, hfz85_4⟩ := bR5_ BK356.out
            go_wp2
            refine bodyPost_ret (results_cell_row rfl _ _ gb356 25 #[.int .i64 a0_0, .int .i64 0, .int .i64 0, .int .i64 0, .int .i64 a0_4] (0, 0) _ rfl (by (with_reducible repeat (first | refine bN_ ?_ _ | refine bD_ ?_ | refine bA_ ?_ _)); refine blk_put (cs := #[.int .i64 a0_0, .int .i64 0, .int .i64 0, .int .i64 0, .int .i64 0]) ?_ 4 _ rfl; (with_reducible repeat (first | refine bN_ ?_ _ | refine bD_ ?_ | refine bA_ ?_ _)); refine blk_put (cs := #[.int .i64 a0_0, .int .i64 0, .int .i64 0, .int .i64 0, .int .i64 0]) ?_ 3 _ rfl; (with_reducible repeat (first | refine bN_ ?_ _ | refine bD_ ?_ | refine bA_ ?_ _)); refine blk_put (cs := #[.int .i64 a0_0, .int .i64 0, .int .i64 0, .int .i64 0, .int .i64 0]) ?_ 2 _ rfl; (with_reducible repeat (first | refine bN_ ?_ _ | refine bD_ ?_ | refine bA_ ?_ _)); refine blk_put (cs := #[.int .i64 a0_0, .int .i64 0, .int .i64 0, .int .i64 0, .int .i64 0]) ?_ 1 _ rfl; (with_reducible repeat (first | refine bN_ ?_ _ | refine bD_ ?_ | refine bA_ ?_ _)); refine blk_put (cs := #[.int .i64 0, .int .i64 0, .int .i64 0, .int .i64 0, .int .i64 0]) ?_ 0 _ rfl; (with_reducible repeat (first | refine bN_ ?_ _ | refine bD_ ?_ | refine bA_ ?_ _)); refine blk_far ?_ NB356_357.out _; (with_reducible repeat (first | refine bN_ ?_ _ | refine bD_ ?_ | refine bA_ ?_ _)); exact BK356.out) Tryd.underlying25 rfl (by kernel_rfl)) rfl ?_
            exact fI_ HB.out
           ·rw [if_neg c79] at H
            have c79b0 : (a0_0 == 10) = false := beq_eq_false_iff_ne.mpr c79
            have c79b1 : (a0_0 != 10) = true := bne_iff_ne.mpr c79
            by_cases c86 : a0_0 = 11
            ·rw [if_pos c86] at H
             have c86b0 : (a0_0 == 11) = true := beq_iff_eq.mpr c86
             have c86b1 : (a0_0 != 11) = false := bne_eq_false_iff_eq.mpr c86
             clear c86
             simp only [Option.some.injEq, Prod.mk.injEq] at H
             obtain ⟨rfl, rfl, rfl, rfl, rfl⟩ := H
             try go_wp2
             have n0 := aM_ (blk_drew BK355.out)
             have n1 := aM_ (blk_drew BK356.out)
             have n2 := aM_ (blk_drew BK357.out)
             have n3 := aM_ (below_drew1 HB.out)
             clear BK355
             clear BK356
             clear BK357
             clear HB
             have BK355 := n0
             have BK356 := n1
             have BK357 := n2
             have HB := n3
             clear n0 n1 n2 n3
             refine start_ (n := 8) (S := fun w' => w'.cell? ⟨gb355, 0, none⟩ = some (.int .i64 a0_0) ∧ w'.cell? ⟨gb355, 1, none⟩ = some (.int .i64 a0_1) ∧ w'.cell? ⟨gb355, 2, none⟩ = some (.int .i64 a0_2) ∧ w'.cell? ⟨gb355, 3, none⟩ = some (.int .i64 a0_3) ∧ w'.cell? ⟨gb355, 4, none⟩ = some (.int .i64 a0_4)) (ds := []) (mk_ 8 0) (by kernel_rfl) rfl rfl (bC5_ BK355.out) (fun hHeld => ?_); refine with_tabW impl_stepNamed.tab21 impl_stepNamed.bits21 (fun HT_ HW_ => ?_)
             generalize wc.drew = w87 at BK355 BK356 BK357 HB hHeld ⊢
             refine pU_ 0 (some 76) (mk_ 8 1) ?_
             refine pU_ 2 (some 78) (mk_ 8 5) ?_
             refine tK5_ 1 (some 77) (mk_ 8 7) ?_
             refine pU_ 4 (some 80) (mk_ 8 23) ?_
             refine tK5_ 3 (some 79) (mk_ 8 31) ?_
             refine oN_ 5 (none) (mk_ 8 63) (fun K hK => ?_)
             have hs88 : w87.cell? ⟨gb357, 2, none⟩ = some (.int .i64 0) := (blk_cell BK357.out 2).trans rfl
             have hfs88 := blk_frozen BK357.out 2
             have hns88_0 := NB355_357.out
             have hns88_1 := NB356_357.out
             have hms88_0 := NB357_355.out
             have hms88_1 := NB357_356.out
             refine skip_ (w1 := ?_) (by rfl) rfl ?_ ?_
             rotate_left
             ·go_simp
              rfl
             refine hK.out _ _ ⟨(cf_ NB355_357.out hHeld.1), (cf_ NB355_357.out hHeld.2.1), (cf_ NB355_357.out hHeld.2.2.1), (cf_ NB355_357.out hHeld.2.2.2.1), (cf_ NB355_357.out hHeld.2.2.2.2)⟩ (fun hHeld => ?_)
             clear hK K
             refine pU_ 6 (some 81) (mk_ 8 127) ?_
             refine oN_ 7 (none) (mk_ 8 255) (fun K hK => ?_)
             have hs89 : w87.cell? ⟨gb357, 4, none⟩ = some (.int .i64 0) := (blk_cell BK357.out 4).trans rfl
             have hfs89 := blk_frozen BK357.out 4
             have hns89_0 := NB355_357.out
             have hns89_1 := NB356_357.out
             have hms89_0 := NB357_355.out
             have hms89_1 := NB357_356.out
             refine skip_ (w1 := ?_) (by rfl) rfl ?_ ?_
             rotate_left
             ·go_simp
              rfl
             refine hK.out _ _ ⟨(cf_ NB355_357.out hHeld.1), (cf_ NB355_357.out hHeld.2.1), (cf_ NB355_357.out hHeld.2.2.1), (cf_ NB355_357.out hHeld.2.2.2.1), (cf_ NB355_357.out hHeld.2.2.2.2)⟩ (fun hHeld => ?_)
             clear hK K
             refine done_ (done_of HT_.out (by kernel_rfl)) ?_
             have hnb90 := NB357_355.out
             have hnc90 := NB355_357.out
             have hnb91 := NB357_356.out
             have hnc91 := NB356_357.out
             obtain ⟨hcz92_0, hcz92_1, hcz92_2, hcz92_3, hcz92_4, hfz92_0, hfz92_1, hfz92_2, hfz92_3, hfz92_4⟩ := bR5_ BK357.out
             have hnb93 := NB356_355.out
             have hnc93 := NB355_356.out
             obtain ⟨hcz94_0, hcz94_1, hcz94_2, hcz94_3, hcz94_4, hfz94_0, hfz94_1, hfz94_2, hfz94_3, hfz94_4⟩ := bR5_ BK356.out
             try go_wp2
             refine bodyPost_ret (results_cell_row rfl _ _ gb356 25 #[.int .i64 a0_0, .int .i64 0, .int .i64 a0_2, .int .i64 0, .int .i64 a0_4] (0, 0) _ rfl (by (with_reducible repeat (first | refine bN_ ?_ _ | refine bD_ ?_ | refine bA_ ?_ _)); refine blk_put (cs := #[.int .i64 a0_0, .int .i64 0, .int .i64 a0_2, .int .i64 0, .int .i64 0]) ?_ 4 _ rfl; (with_reducible repeat (first | refine bN_ ?_ _ | refine bD_ ?_ | refine bA_ ?_ _)); refine blk_put (cs := #[.int .i64 a0_0, .int .i64 0, .int .i64 a0_2, .int .i64 0, .int .i64 0]) ?_ 3 _ rfl; (with_reducible repeat (first | refine bN_ ?_ _ | refine bD_ ?_ | refine bA_ ?_ _)); refine blk_put (cs := #[.int .i64 a0_0, .int .i64 0, .int .i64 0, .int .i64 0, .int .i64 0]) ?_ 2 _ rfl; (with_reducible repeat (first | refine bN_ ?_ _ | refine bD_ ?_ | refine bA_ ?_ _)); refine blk_put (cs := #[.int .i64 a0_0, .int .i64 0, .int .i64 0, .int .i64 0, .int .i64 0]) ?_ 1 _ rfl; (with_reducible repeat (first | refine bN_ ?_ _ | refine bD_ ?_ | refine bA_ ?_ _)); refine blk_put (cs := #[.int .i64 0, .int .i64 0, .int .i64 0, .int .i64 0, .int .i64 0]) ?_ 0 _ rfl; (with_reducible repeat (first | refine bN_ ?_ _ | refine bD_ ?_ | refine bA_ ?_ _)); refine blk_far ?_ NB356_357.out _; (with_reducible repeat (first | refine bN_ ?_ _ | refine bD_ ?_ | refine bA_ ?_ _)); refine blk_far ?_ NB356_357.out _; (with_reducible repeat (first | refine bN_ ?_ _ | refine bD_ ?_ | refine bA_ ?_ _)); exact BK356.out) Tryd.underlying25 rfl (by kernel_rfl)) rfl ?_
             exact fI_ HB.out
            ·rw [if_neg c86] at H
             have c86b0 : (a0_0 == 11) = false := beq_eq_false_iff_ne.mpr c86
             have c86b1 : (a0_0 != 11) = true := bne_iff_ne.mpr c86
             simp only [Option.some.injEq, Prod.mk.injEq] at H
             obtain ⟨rfl, rfl, rfl, rfl, rfl⟩ := H
             have hnb95 := NB357_355.out
             have hnc95 := NB355_357.out
             have hnb96 := NB357_356.out
             have hnc96 := NB356_357.out
             obtain ⟨hcz97_0, hcz97_1, hcz97_2, hcz97_3, hcz97_4, hfz97_0, hfz97_1, hfz97_2, hfz97_3, hfz97_4⟩ := bR5_ BK357.out
             have hnb98 := NB356_355.out
             have hnc98 := NB355_356.out
             obtain ⟨hcz99_0, hcz99_1, hcz99_2, hcz99_3, hcz99_4, hfz99_0, hfz99_1, hfz99_2, hfz99_3, hfz99_4⟩ := bR5_ BK356.out
             go_wp2
             refine bodyPost_ret (results_cell_row rfl _ _ gb356 25 #[.int .i64 a0_0, .int .i64 0, .int .i64 0, .int .i64 0, .int .i64 0] (0, 0) _ rfl (by (with_reducible repeat (first | refine bN_ ?_ _ | refine bD_ ?_ | refine bA_ ?_ _)); refine blk_put (cs := #[.int .i64 a0_0, .int .i64 0, .int .i64 0, .int .i64 0, .int .i64 0]) ?_ 4 _ rfl; (with_reducible repeat (first | refine bN_ ?_ _ | refine bD_ ?_ | refine bA_ ?_ _)); refine blk_put (cs := #[.int .i64 a0_0, .int .i64 0, .int .i64 0, .int .i64 0, .int .i64 0]) ?_ 3 _ rfl; (with_reducible repeat (first | refine bN_ ?_ _ | refine bD_ ?_ | refine bA_ ?_ _)); refine blk_put (cs := #[.int .i64 a0_0, .int .i64 0, .int .i64 0, .int .i64 0, .int .i64 0]) ?_ 2 _ rfl; (with_reducible repeat (first | refine bN_ ?_ _ | refine bD_ ?_ | refine bA_ ?_ _)); refine blk_put (cs := #[.int .i64 a0_0, .int .i64 0, .int .i64 0, .int .i64 0, .int .i64 0]) ?_ 1 _ rfl; (with_reducible repeat (first | refine bN_ ?_ _ | refine bD_ ?_ | refine bA_ ?_ _)); refine blk_put (cs := #[.int .i64 0, .int .i64 0, .int .i64 0, .int .i64 0, .int .i64 0]) ?_ 0 _ rfl; (with_reducible repeat (first | refine bN_ ?_ _ | refine bD_ ?_ | refine bA_ ?_ _)); exact BK356.out) Tryd.underlying25 rfl (by kernel_rfl)) rfl ?_
             exact fI_ HB.out
end Go.Proofs.YtdbobicbbfmepaaDoor.PFnTexts
namespace Go.Proofs.YtdbobicbbfmepaaDoor.PFnTexts
open Go.RowKit Go.Proofs.YtdbobicbbfmepaaDoorW.PrintWords Go.Proofs.YtdbobicbbfmepaaDoorW.PrintLast Go.Proofs.YtdbobicbbfmepaaDoorW.PrintMore
attribute [local go_sem] max2_int min2_int max_two min_two max_three min_three max_four min_four   -- for this text's walks alone
set_option linter.unusedVariables false
set_option linter.unusedSimpArgs false
def impl_isCell.f (a0 : Int) : Option (Bool) := (impl_within.f a0 0 23).bind fun t358 => (some t358)
set_option maxHeartbeats 8000000 in
set_option maxRecDepth 100000 in
theorem impl_isCell.calls (a0 : Int) (r : Bool) (w : World) (h : impl_isCell.f a0 = some r) :
  Calls Tryd.prog 53 #[.int .i64 a0] w fun e w' => e = .returned (.bool r) ∧ Drawn0 w w' := by
 have H : ((impl_within.f a0 0 23).bind fun t358 => (some t358)) = some r := h
 clear h
 replace H := Option.bind_eq_some_iff.mp H
 obtain ⟨t358, A20, H⟩ := H
 replace H : (some t358) = some r := H
 have A2 := aM_ A20
 clear A20
 obtain rfl := Option.some.inj H
 go_enter Tryd.func53, Tryd.ntmps53
 go_wp2_with (first | ((with_reducible refine gate_callee (f := 51) rfl ?_); refine gL_ (some 4) Tryd.func51 #[.int .i64 a0, .int .i64 0, .int .i64 23] ?_; (with_reducible refine (impl_within.calls a0 0 23 t358 _ A2.out).mono ?_); rintro e w' ⟨rfl, ⟨nd, rfl⟩⟩; refine ⟨_, rfl, ?_⟩))
 go_ret
 exact ⟨by first | rfl | (simp; done) | (simp [*]; done), by repeat (first | exact Drawn0.refl _ | apply Drawn0.step)⟩
end Go.Proofs.YtdbobicbbfmepaaDoor.PFnTexts
