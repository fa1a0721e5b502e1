/- A part of the proof that the law FnExactMachineNew holds for every input. -/
import Derived.Test.YtobachfngmpeiaaZFnExactMachineNewa7
import Derived.Test.YtobachfngmpeiaaZFnExactMachineNews
namespace Go.Proofs.Ytobachfngmpeiaa.PFnExactMachineNew
open Go.RowKit Go.Proofs.YtobachfngmpeiaaW.PrintWords Go.Proofs.YtobachfngmpeiaaW.PrintLast Go.Proofs.YtobachfngmpeiaaW.PrintMore
attribute [local go_sem] max2_int min2_int max_two min_two max_three min_three max_four min_four   -- for this text's walks alone
set_option linter.unusedVariables false
set_option linter.unusedSimpArgs false
mutual
def impl_stepNamed.j0 : Nat → Int → Bool → Int → Int → Int → Int → Int → Int → Int → Int → Int → Int → Option (Int × Int × Int × Int × Int)
  | 0, _, _, _, _, _, _, _, _, _, _, _, _ => none
  | k + 1, x8, x17, x226000, x226001, x226002, x226003, x226004, x228000, x228001, x228002, x228003, x228004 => if x17 = true then (some (x228000, x226001, x226002, x226003, x228004)) else (if x8 = 5 then (some (x228000, x226001, x226002, x228003, x226004)) else (if x8 = 6 then (impl_stepNamed.j1 k x8 (x8 == 6) x226000 x226001 x226002 x226003 x226004 x228000 x228001 x228002 x228003 x228004) else (impl_stepNamed.j1 k x8 (x8 == 7) x226000 x226001 x226002 x226003 x226004 x228000 x228001 x228002 x228003 x228004)))
def impl_stepNamed.j1 : Nat → Int → Bool → Int → Int → Int → Int → Int → Int → Int → Int → Int → Int → Option (Int × Int × Int × Int × Int)
  | 0, _, _, _, _, _, _, _, _, _, _, _, _ => none
  | k + 1, x8, x41, x226000, x226001, x226002, x226003, x226004, x228000, x228001, x228002, x228003, x228004 => if x41 = true then (some (x228000, x228001, x226002, x226003, x226004)) else (if x8 = 8 then (some (x228000, x226001, x228002, x226003, x226004)) else (if x8 = 9 then (some (x228000, x228001, x226002, x228003, x228004)) else (if x8 = 10 then (some (x228000, x228001, x228002, x228003, x226004)) else (if x8 = 11 then (some (x228000, x228001, x226002, x228003, x226004)) else (some (x228000, x228001, x228002, x228003, x228004))))))
end
def impl_stepNamed.f (k : Nat) (a0_0 : Int) (a0_1 : Int) (a0_2 : Int) (a0_3 : Int) (a0_4 : Int) : Option (Int × Int × Int × Int × Int) := if a0_0 = 1 then (some (a0_0, a0_1, 0, 0, a0_4)) else (if a0_0 = 2 then (impl_stepNamed.j0 k a0_0 (a0_0 == 2) a0_0 a0_1 a0_2 a0_3 a0_4 a0_0 0 0 0 0) else (if a0_0 = 3 then (impl_stepNamed.j0 k a0_0 (a0_0 == 3) a0_0 a0_1 a0_2 a0_3 a0_4 a0_0 0 0 0 0) else (impl_stepNamed.j0 k a0_0 (a0_0 == 4) a0_0 a0_1 a0_2 a0_3 a0_4 a0_0 0 0 0 0)))
def impl_stepNamed.T4 : Bool × List (List Nat × List Nat) := (true, [([], []), ([0], [0]), ([], []), ([2], [2]), ([0, 1], []), ([4, 1, 0, 1], [1, 4]), ([0, 1, 2, 3, 4, 5], []), ([6, 3, 5, 0, 1, 2, 3, 4, 5], [3, 6])])
def impl_stepNamed.B4 : List Nat := [0, 1, 0, 4, 3, 19, 63, 127]
theorem impl_stepNamed.tab4 : rtab .any (opsOf Try.f187 4) = impl_stepNamed.T4 := by kernel_rfl
theorem impl_stepNamed.bits4 : waitsOk impl_stepNamed.T4.2 impl_stepNamed.B4 = true := by kernel_rfl
def impl_stepNamed.T8 : Bool × List (List Nat × List Nat) := (true, [([], []), ([0], [0]), ([], []), ([2], [2]), ([], []), ([4], [4]), ([0, 1], []), ([6, 1, 0, 1], [1, 6]), ([0, 1, 2, 3, 6, 7], []), ([8, 3, 7, 0, 1, 2, 3, 6, 7], [3, 8]), ([0, 1, 2, 3, 4, 5, 6, 7, 8, 9], []), ([10, 5, 9, 0, 1, 2, 3, 4, 5, 6, 7, 8, 9], [5, 10])])
def impl_stepNamed.B8 : List Nat := [0, 1, 0, 4, 0, 16, 3, 67, 207, 463, 1023, 2047]
theorem impl_stepNamed.tab8 : rtab .any (opsOf Try.f187 8) = impl_stepNamed.T8 := by kernel_rfl
theorem impl_stepNamed.bits8 : waitsOk impl_stepNamed.T8.2 impl_stepNamed.B8 = true := by kernel_rfl
def impl_stepNamed.T10 : Bool × List (List Nat × List Nat) := (true, [([], []), ([0], [0]), ([], []), ([2], [2]), ([], []), ([4], [4]), ([0, 1], []), ([6, 1, 0, 1], [1, 6]), ([0, 1, 2, 3, 6, 7], []), ([8, 3, 7, 0, 1, 2, 3, 6, 7], [3, 8]), ([0, 1, 2, 3, 4, 5, 6, 7, 8, 9], []), ([10, 5, 9, 0, 1, 2, 3, 4, 5, 6, 7, 8, 9], [5, 10])])
def impl_stepNamed.B10 : List Nat := [0, 1, 0, 4, 0, 16, 3, 67, 207, 463, 1023, 2047]
theorem impl_stepNamed.tab10 : rtab .any (opsOf Try.f187 10) = impl_stepNamed.T10 := by kernel_rfl
theorem impl_stepNamed.bits10 : waitsOk impl_stepNamed.T10.2 impl_stepNamed.B10 = true := by kernel_rfl
def impl_stepNamed.T13 : Bool × List (List Nat × List Nat) := (true, [([], []), ([0], [0]), ([], []), ([2], [2]), ([], []), ([4], [4]), ([0, 1], []), ([6, 1, 0, 1], [1, 6]), ([0, 1, 2, 3, 6, 7], []), ([8, 3, 7, 0, 1, 2, 3, 6, 7], [3, 8]), ([0, 1, 2, 3, 4, 5, 6, 7, 8, 9], []), ([10, 5, 9, 0, 1, 2, 3, 4, 5, 6, 7, 8, 9], [5, 10])])
def impl_stepNamed.B13 : List Nat := [0, 1, 0, 4, 0, 16, 3, 67, 207, 463, 1023, 2047]
theorem impl_stepNamed.tab13 : rtab .any (opsOf Try.f187 13) = impl_stepNamed.T13 := by kernel_rfl
theorem impl_stepNamed.bits13 : waitsOk impl_stepNamed.T13.2 impl_stepNamed.B13 = true := by kernel_rfl
def impl_stepNamed.T15 : Bool × List (List Nat × List Nat) := (true, [([], []), ([0], [0]), ([], []), ([2], [2]), ([], []), ([4], [4]), ([0, 1], []), ([6, 1, 0, 1], [1, 6]), ([0, 1, 2, 3, 6, 7], []), ([8, 3, 7, 0, 1, 2, 3, 6, 7], [3, 8]), ([0, 1, 2, 3, 4, 5, 6, 7, 8, 9], []), ([10, 5, 9, 0, 1, 2, 3, 4, 5, 6, 7, 8, 9], [5, 10])])
def impl_stepNamed.B15 : List Nat := [0, 1, 0, 4, 0, 16, 3, 67, 207, 463, 1023, 2047]
theorem impl_stepNamed.tab15 : rtab .any (opsOf Try.f187 15) = impl_stepNamed.T15 := by kernel_rfl
theorem impl_stepNamed.bits15 : waitsOk impl_stepNamed.T15.2 impl_stepNamed.B15 = true := by kernel_rfl
def impl_stepNamed.T21 : Bool × List (List Nat × List Nat) := (true, [([], []), ([0], [0]), ([], []), ([2], [2]), ([0, 1], []), ([4, 1, 0, 1], [1, 4]), ([0, 1, 2, 3, 4, 5], []), ([6, 3, 5, 0, 1, 2, 3, 4, 5], [3, 6])])
def impl_stepNamed.B21 : List Nat := [0, 1, 0, 4, 3, 19, 63, 127]
theorem impl_stepNamed.tab21 : rtab .any (opsOf Try.f187 21) = impl_stepNamed.T21 := by kernel_rfl
theorem impl_stepNamed.bits21 : waitsOk impl_stepNamed.T21.2 impl_stepNamed.B21 = true := by kernel_rfl
set_option maxHeartbeats 8000000 in
set_option maxRecDepth 100000 in
theorem impl_stepNamed.calls (k : Nat) (a0_0 : Int) (a0_1 : Int) (a0_2 : Int) (a0_3 : Int) (a0_4 : Int) (r1 : Int) (r2 : Int) (r3 : Int) (r4 : Int) (r5 : Int) (w : World) (h : impl_stepNamed.f k a0_0 a0_1 a0_2 a0_3 a0_4 = some (r1, r2, r3, r4, r5)) :
  Calls Try.prog 187 #[.agg #[.int .i64 a0_0, .int .i64 a0_1, .int .i64 a0_2, .int .i64 a0_3, .int .i64 a0_4]] w fun e w' => e = .returned (.agg #[.int .i64 r1, .int .i64 r2, .int .i64 r3, .int .i64 r4, .int .i64 r5]) ∧ Below w.heap.size w w' := by
 have hu175 := Try.underlying175
 have HB := aM_ (Below.refl w.heap.size w)
 have H : (if a0_0 = 1 then (some (a0_0, a0_1, 0, 0, a0_4)) else (if a0_0 = 2 then (impl_stepNamed.j0 k a0_0 (a0_0 == 2) a0_0 a0_1 a0_2 a0_3 a0_4 a0_0 0 0 0 0) else (if a0_0 = 3 then (impl_stepNamed.j0 k a0_0 (a0_0 == 3) a0_0 a0_1 a0_2 a0_3 a0_4 a0_0 0 0 0 0) else (impl_stepNamed.j0 k a0_0 (a0_0 == 4) a0_0 a0_1 a0_2 a0_3 a0_4 a0_0 0 0 0 0)))) = some (r1, r2, r3, r4, r5) := h
 clear h
 by_cases c2 : a0_0 = 1
 ·rw [if_pos c2] at H
  have c2b0 : (a0_0 == 1) = true := beq_iff_eq.mpr c2
  have c2b1 : (a0_0 != 1) = false := bne_eq_false_iff_eq.mpr c2
  clear c2
  simp only [Option.some.injEq, Prod.mk.injEq] at H
  obtain ⟨rfl, rfl, rfl, rfl, rfl⟩ := H
  go_enter Try.func187, Try.ntmps187
  try go_wp2_with (first | ((with_reducible refine gate_dst (N := 1) rfl ?_); refine bX_ 1 (cs := #[.int .i64 a0_0, .int .i64 a0_1, .int .i64 a0_2, .int .i64 a0_3, .int .i64 a0_4]) (t := 175) ?_; intro gb225 hg w3 hbox hb; have BK225 := aM_ (hbox); have GE225 := aM_ (sZ_ hg HB.out); replace HB := aM_ (sT_ HB.out hb); clear hb hbox hg) | ((with_reducible refine gate_dst (N := 2) rfl ?_); refine bX_ 2 (cs := #[.int .i64 0, .int .i64 0, .int .i64 0, .int .i64 0, .int .i64 0]) (t := 175) ?_; intro gb226 hg w4 hbox hb; have BK226 := aM_ (hbox); have GE226 := aM_ (sZ_ hg HB.out); have NB225_226 := aM_ (nL_ hg BK225.out); have NB226_225 := aM_ (nG_ hg BK225.out); replace BK225 := aM_ (nB_ BK225.out hb); replace HB := aM_ (sT_ HB.out hb); clear hb hbox hg; have hnb5 := NB225_226.out; have hnc5 := NB226_225.out; have z_6 := bR5_ BK225.out) | ((with_reducible refine gate_dst (N := 3) rfl ?_); refine bX_ 3 (cs := #[.int .i64 0, .int .i64 0, .int .i64 0, .int .i64 0, .int .i64 0]) (t := 175) ?_; intro gb227 hg w7 hbox hb; have BK227 := aM_ (hbox); have GE227 := aM_ (sZ_ hg HB.out); have NB225_227 := aM_ (nL_ hg BK225.out); have NB227_225 := aM_ (nG_ hg BK225.out); have NB226_227 := aM_ (nL_ hg BK226.out); have NB227_226 := aM_ (nG_ hg BK226.out); replace BK225 := aM_ (nB_ BK225.out hb); replace BK226 := aM_ (nB_ BK226.out hb); replace HB := aM_ (sT_ HB.out hb); clear hb hbox hg; have hnb8 := NB227_225.out; have hnc8 := NB225_227.out; have hnb9 := NB227_226.out; have hnc9 := NB226_227.out; have z_10 := bR5_ BK227.out; have z_11 := bR5_ BK225.out))
  have n0 : Aside0 ((((((w7.setCell ⟨gb227, 0, none⟩ (.int .i64 a0_0)).setCell ⟨gb227, 1, none⟩ (.int .i64 0)).setCell ⟨gb227, 2, none⟩ (.int .i64 0)).setCell ⟨gb227, 3, none⟩ (.int .i64 0)).setCell ⟨gb227, 4, none⟩ (.int .i64 0)).heap[gb225]? = some (.cells #[.int .i64 a0_0, .int .i64 a0_1, .int .i64 a0_2, .int .i64 a0_3, .int .i64 a0_4] 175 (0, 0))) := ⟨rWf_ BK225.out⟩
  have n1 : Aside0 ((((((w7.setCell ⟨gb227, 0, none⟩ (.int .i64 a0_0)).setCell ⟨gb227, 1, none⟩ (.int .i64 0)).setCell ⟨gb227, 2, none⟩ (.int .i64 0)).setCell ⟨gb227, 3, none⟩ (.int .i64 0)).setCell ⟨gb227, 4, none⟩ (.int .i64 0)).heap[gb226]? = some (.cells #[.int .i64 0, .int .i64 0, .int .i64 0, .int .i64 0, .int .i64 0] 175 (0, 0))) := ⟨rWf_ BK226.out⟩
  have n2 : Aside0 ((((((w7.setCell ⟨gb227, 0, none⟩ (.int .i64 a0_0)).setCell ⟨gb227, 1, none⟩ (.int .i64 0)).setCell ⟨gb227, 2, none⟩ (.int .i64 0)).setCell ⟨gb227, 3, none⟩ (.int .i64 0)).setCell ⟨gb227, 4, none⟩ (.int .i64 0)).heap[gb227]? = some (.cells #[.int .i64 a0_0, .int .i64 0, .int .i64 0, .int .i64 0, .int .i64 0] 175 (0, 0))) := ⟨by (with_reducible repeat (first | refine bN_ ?_ _ | refine bD_ ?_ | refine bA_ ?_ _)); refine blk_put (cs := #[.int .i64 a0_0, .int .i64 0, .int .i64 0, .int .i64 0, .int .i64 0]) ?_ 4 _ rfl; refine blk_put (cs := #[.int .i64 a0_0, .int .i64 0, .int .i64 0, .int .i64 0, .int .i64 0]) ?_ 3 _ rfl; refine blk_put (cs := #[.int .i64 a0_0, .int .i64 0, .int .i64 0, .int .i64 0, .int .i64 0]) ?_ 2 _ rfl; refine blk_put (cs := #[.int .i64 a0_0, .int .i64 0, .int .i64 0, .int .i64 0, .int .i64 0]) ?_ 1 _ rfl; refine blk_put (cs := #[.int .i64 0, .int .i64 0, .int .i64 0, .int .i64 0, .int .i64 0]) ?_ 0 _ rfl; (with_reducible repeat (first | refine bN_ ?_ _ | refine bD_ ?_ | refine bA_ ?_ _)); exact BK227.out⟩
  have n3 : Aside0 (Below w.heap.size w (((((w7.setCell ⟨gb227, 0, none⟩ (.int .i64 a0_0)).setCell ⟨gb227, 1, none⟩ (.int .i64 0)).setCell ⟨gb227, 2, none⟩ (.int .i64 0)).setCell ⟨gb227, 3, none⟩ (.int .i64 0)).setCell ⟨gb227, 4, none⟩ (.int .i64 0))) := ⟨gW_ HB.out⟩
  (try clear BK225)
  (try clear BK226)
  (try clear BK227)
  (try clear HB)
  generalize (((((w7.setCell ⟨gb227, 0, none⟩ (.int .i64 a0_0)).setCell ⟨gb227, 1, none⟩ (.int .i64 0)).setCell ⟨gb227, 2, none⟩ (.int .i64 0)).setCell ⟨gb227, 3, none⟩ (.int .i64 0)).setCell ⟨gb227, 4, none⟩ (.int .i64 0)) = w12 at n0 n1 n2 n3 ⊢
  have BK225 := n0
  have BK226 := n1
  have BK227 := n2
  have HB := n3
  clear n0 n1 n2 n3
  replace BK225 := aM_ (blk_drew BK225.out)
  replace BK226 := aM_ (blk_drew BK226.out)
  replace BK227 := aM_ (blk_drew BK227.out)
  replace HB := aM_ (below_drew1 HB.out)
  refine start_ (n := 8) (S := fun w' => w'.cell? ⟨gb225, 0, none⟩ = some (.int .i64 a0_0) ∧ w'.cell? ⟨gb225, 1, none⟩ = some (.int .i64 a0_1) ∧ w'.cell? ⟨gb225, 2, none⟩ = some (.int .i64 a0_2) ∧ w'.cell? ⟨gb225, 3, none⟩ = some (.int .i64 a0_3) ∧ w'.cell? ⟨gb225, 4, none⟩ = some (.int .i64 a0_4)) (ds := []) (mk_ 8 0) (by kernel_rfl) rfl rfl (bC5_ BK225.out) (fun hHeld => ?_); refine with_tabW impl_stepNamed.tab4 impl_stepNamed.bits4 (fun HT_ HW_ => ?_)
  generalize w12.drew = w13 at BK225 BK226 BK227 HB hHeld ⊢
  refine pU_ 0 11 (mk_ 8 1) ?_
  refine pU_ 2 13 (mk_ 8 5) ?_
  refine tK5_ 1 12 (mk_ 8 7) ?_
  refine pU_ 4 15 (mk_ 8 23) ?_
  refine tK5_ 3 14 (mk_ 8 31) ?_
  refine oNn_ 5 (none) (mk_ 8 63) (fun K hK => ?_)
  have hs14 : w13.cell? ⟨gb227, 1, none⟩ = some (.int .i64 0) := (blk_cell BK227.out 1).trans rfl
  have hfs14 := blk_frozen BK227.out 1
  have hns14_0 := NB225_227.out
  have hns14_1 := NB226_227.out
  have hms14_0 := NB227_225.out
  have hms14_1 := NB227_226.out
  refine skip_ (w1 := ?_) (by rfl) rfl ?_ ?_
  rotate_left
  ·go_simp
   rfl
  refine hK.out _ _ ⟨(cf_ NB225_227.out hHeld.1), (cf_ NB225_227.out hHeld.2.1), (cf_ NB225_227.out hHeld.2.2.1), (cf_ NB225_227.out hHeld.2.2.2.1), (cf_ NB225_227.out hHeld.2.2.2.2)⟩ (fun hHeld => ?_)
  clear hK K
  refine pU_ 6 16 (mk_ 8 127) ?_
  refine oNn_ 7 (none) (mk_ 8 255) (fun K hK => ?_)
  have hs15 : w13.cell? ⟨gb227, 4, none⟩ = some (.int .i64 0) := (blk_cell BK227.out 4).trans rfl
  have hfs15 := blk_frozen BK227.out 4
  have hns15_0 := NB225_227.out
  have hns15_1 := NB226_227.out
  have hms15_0 := NB227_225.out
  have hms15_1 := NB227_226.out
  refine skip_ (w1 := ?_) (by rfl) rfl ?_ ?_
  rotate_left
  ·go_simp
   rfl
  refine hK.out _ _ ⟨(cf_ NB225_227.out hHeld.1), (cf_ NB225_227.out hHeld.2.1), (cf_ NB225_227.out hHeld.2.2.1), (cf_ NB225_227.out hHeld.2.2.2.1), (cf_ NB225_227.out hHeld.2.2.2.2)⟩ (fun hHeld => ?_)
  clear hK K
  refine done_ (done_of HT_.out (by kernel_rfl)) ?_
  have z_16 := bR5_ BK227.out
  have z_17 := bR5_ BK226.out
  try go_wp2
  refine bodyPost_ret (results_cell_row rfl _ _ gb226 175 #[.int .i64 a0_0, .int .i64 a0_1, .int .i64 0, .int .i64 0, .int .i64 a0_4] (0, 0) _ rfl (by (with_reducible repeat (first | refine bN_ ?_ _ | refine bD_ ?_ | refine bA_ ?_ _)); refine blk_put (cs := #[.int .i64 a0_0, .int .i64 a0_1, .int .i64 0, .int .i64 0, .int .i64 0]) ?_ 4 _ rfl; refine blk_put (cs := #[.int .i64 a0_0, .int .i64 a0_1, .int .i64 0, .int .i64 0, .int .i64 0]) ?_ 3 _ rfl; refine blk_put (cs := #[.int .i64 a0_0, .int .i64 a0_1, .int .i64 0, .int .i64 0, .int .i64 0]) ?_ 2 _ rfl; refine blk_put (cs := #[.int .i64 a0_0, .int .i64 0, .int .i64 0, .int .i64 0, .int .i64 0]) ?_ 1 _ rfl; refine blk_put (cs := #[.int .i64 0, .int .i64 0, .int .i64 0, .int .i64 0, .int .i64 0]) ?_ 0 _ rfl; exact rWf_ BK226.out) Try.underlying175 rfl (by kernel_rfl)) rfl ?_
  exact fI_ HB.out
 ·rw [if_neg c2] at H
  have c2b0 : (a0_0 == 1) = false := beq_eq_false_iff_ne.mpr c2
  have c2b1 : (a0_0 != 1) = true := bne_iff_ne.mpr c2
  have HC18 := aM_ H
  clear H
  go_enter Try.func187, Try.ntmps187
  go_upto_if 17 with (first | ((with_reducible refine gate_dst (N := 1) rfl ?_); refine bX_ 1 (cs := #[.int .i64 a0_0, .int .i64 a0_1, .int .i64 a0_2, .int .i64 a0_3, .int .i64 a0_4]) (t := 175) ?_; intro gb225 hg w19 hbox hb; have BK225 := aM_ (hbox); have GE225 := aM_ (sZ_ hg HB.out); replace HB := aM_ (sT_ HB.out hb); clear hb hbox hg) | ((with_reducible refine gate_dst (N := 2) rfl ?_); refine bX_ 2 (cs := #[.int .i64 0, .int .i64 0, .int .i64 0, .int .i64 0, .int .i64 0]) (t := 175) ?_; intro gb226 hg w20 hbox hb; have BK226 := aM_ (hbox); have GE226 := aM_ (sZ_ hg HB.out); have NB225_226 := aM_ (nL_ hg BK225.out); have NB226_225 := aM_ (nG_ hg BK225.out); replace BK225 := aM_ (nB_ BK225.out hb); replace HB := aM_ (sT_ HB.out hb); clear hb hbox hg; have hnb21 := NB225_226.out; have hnc21 := NB226_225.out; have z_22 := bR5_ BK225.out) | ((with_reducible refine gate_dst (N := 3) rfl ?_); refine bX_ 3 (cs := #[.int .i64 0, .int .i64 0, .int .i64 0, .int .i64 0, .int .i64 0]) (t := 175) ?_; intro gb227 hg w23 hbox hb; have BK227 := aM_ (hbox); have GE227 := aM_ (sZ_ hg HB.out); have NB225_227 := aM_ (nL_ hg BK225.out); have NB227_225 := aM_ (nG_ hg BK225.out); have NB226_227 := aM_ (nL_ hg BK226.out); have NB227_226 := aM_ (nG_ hg BK226.out); replace BK225 := aM_ (nB_ BK225.out hb); replace BK226 := aM_ (nB_ BK226.out hb); replace HB := aM_ (sT_ HB.out hb); clear hb hbox hg; have hnb24 := NB227_225.out; have hnc24 := NB225_227.out; have hnb25 := NB227_226.out; have hnc25 := NB226_227.out; have z_26 := bR5_ BK227.out; have z_27 := bR5_ BK225.out))
  (try simp only [Act.put, List.setIfInBounds_toArray, List.set_cons_zero, List.set_cons_succ])
  go_cut [17] (fun v17 wc => ∃ (kq : Nat) (x17_17 : Bool), v17 = .bool x17_17 ∧ Aside0 (impl_stepNamed.j0 kq a0_0 x17_17 a0_0 a0_1 a0_2 a0_3 a0_4 a0_0 0 0 0 0 = some (r1, r2, r3, r4, r5)) ∧ Aside0 (kq ≤ k) ∧ Aside0 (wc.heap[gb225]? = some (.cells #[.int .i64 a0_0, .int .i64 a0_1, .int .i64 a0_2, .int .i64 a0_3, .int .i64 a0_4] 175 (0, 0))) ∧ Aside0 (wc.heap[gb226]? = some (.cells #[.int .i64 0, .int .i64 0, .int .i64 0, .int .i64 0, .int .i64 0] 175 (0, 0))) ∧ Aside0 (wc.heap[gb227]? = some (.cells #[.int .i64 a0_0, .int .i64 0, .int .i64 0, .int .i64 0, .int .i64 0] 175 (0, 0))) ∧ Aside0 (Below w.heap.size w wc))
  case first =>
   have H := HC18.out
   clear HC18
   by_cases c28 : a0_0 = 2
   ·rw [if_pos c28] at H
    have c28b0 : (a0_0 == 2) = true := beq_iff_eq.mpr c28
    have c28b1 : (a0_0 != 2) = false := bne_eq_false_iff_eq.mpr c28
    clear c28
    (first | rw [c28b0] | (simp only [i64_w, i32_w]; rw [c28b0]) | skip)
    have H' := aM_ H
    clear H
    go_wp2
    go_meet
    case rel => exact ⟨_, ((a0_0 == 2)), (by first | rfl | (simp; done) | (simp [*]; done)), H', ⟨by first | omega | exact Nat.le_refl _⟩, ⟨rWf_ BK225.out⟩, ⟨rWf_ BK226.out⟩, ⟨by (with_reducible repeat (first | refine bN_ ?_ _ | refine bD_ ?_ | refine bA_ ?_ _)); refine blk_put (cs := #[.int .i64 a0_0, .int .i64 0, .int .i64 0, .int .i64 0, .int .i64 0]) ?_ 4 _ rfl; refine blk_put (cs := #[.int .i64 a0_0, .int .i64 0, .int .i64 0, .int .i64 0, .int .i64 0]) ?_ 3 _ rfl; refine blk_put (cs := #[.int .i64 a0_0, .int .i64 0, .int .i64 0, .int .i64 0, .int .i64 0]) ?_ 2 _ rfl; refine blk_put (cs := #[.int .i64 a0_0, .int .i64 0, .int .i64 0, .int .i64 0, .int .i64 0]) ?_ 1 _ rfl; refine blk_put (cs := #[.int .i64 0, .int .i64 0, .int .i64 0, .int .i64 0, .int .i64 0]) ?_ 0 _ rfl; (with_reducible repeat (first | refine bN_ ?_ _ | refine bD_ ?_ | refine bA_ ?_ _)); exact BK227.out⟩, ⟨gW_ HB.out⟩⟩
   ·rw [if_neg c28] at H
    have c28b0 : (a0_0 == 2) = false := beq_eq_false_iff_ne.mpr c28
    have c28b1 : (a0_0 != 2) = true := bne_iff_ne.mpr c28
    (first | rw [c28b0] | (simp only [i64_w, i32_w]; rw [c28b0]) | skip)
    by_cases c29 : a0_0 = 3
    ·rw [if_pos c29] at H
     have c29b0 : (a0_0 == 3) = true := beq_iff_eq.mpr c29
     have c29b1 : (a0_0 != 3) = false := bne_eq_false_iff_eq.mpr c29
     clear c29
     have H' := aM_ H
     clear H
     go_wp2
     go_meet
     case rel => exact ⟨_, ((a0_0 == 3)), (by first | rfl | (simp; done) | (simp [*]; done)), H', ⟨by first | omega | exact Nat.le_refl _⟩, ⟨rWf_ BK225.out⟩, ⟨rWf_ BK226.out⟩, ⟨by (with_reducible repeat (first | refine bN_ ?_ _ | refine bD_ ?_ | refine bA_ ?_ _)); refine blk_put (cs := #[.int .i64 a0_0, .int .i64 0, .int .i64 0, .int .i64 0, .int .i64 0]) ?_ 4 _ rfl; refine blk_put (cs := #[.int .i64 a0_0, .int .i64 0, .int .i64 0, .int .i64 0, .int .i64 0]) ?_ 3 _ rfl; refine blk_put (cs := #[.int .i64 a0_0, .int .i64 0, .int .i64 0, .int .i64 0, .int .i64 0]) ?_ 2 _ rfl; refine blk_put (cs := #[.int .i64 a0_0, .int .i64 0, .int .i64 0, .int .i64 0, .int .i64 0]) ?_ 1 _ rfl; refine blk_put (cs := #[.int .i64 0, .int .i64 0, .int .i64 0, .int .i64 0, .int .i64 0]) ?_ 0 _ rfl; (with_reducible repeat (first | refine bN_ ?_ _ | refine bD_ ?_ | refine bA_ ?_ _)); exact BK227.out⟩, ⟨gW_ HB.out⟩⟩
    ·rw [if_neg c29] at H
     have c29b0 : (a0_0 == 3) = false := beq_eq_false_iff_ne.mpr c29
     have c29b1 : (a0_0 != 3) = true := bne_iff_ne.mpr c29
     have H' := aM_ H
     clear H
     go_wp2
     go_meet
     case rel => exact ⟨_, ((a0_0 == 4)), (by first | rfl | (simp; done) | (simp [*]; done)), H', ⟨by first | omega | exact Nat.le_refl _⟩, ⟨rWf_ BK225.out⟩, ⟨rWf_ BK226.out⟩, ⟨by (with_reducible repeat (first | refine bN_ ?_ _ | refine bD_ ?_ | refine bA_ ?_ _)); refine blk_put (cs := #[.int .i64 a0_0, .int .i64 0, .int .i64 0, .int .i64 0, .int .i64 0]) ?_ 4 _ rfl; refine blk_put (cs := #[.int .i64 a0_0, .int .i64 0, .int .i64 0, .int .i64 0, .int .i64 0]) ?_ 3 _ rfl; refine blk_put (cs := #[.int .i64 a0_0, .int .i64 0, .int .i64 0, .int .i64 0, .int .i64 0]) ?_ 2 _ rfl; refine blk_put (cs := #[.int .i64 a0_0, .int .i64 0, .int .i64 0, .int .i64 0, .int .i64 0]) ?_ 1 _ rfl; refine blk_put (cs := #[.int .i64 0, .int .i64 0, .int .i64 0, .int .i64 0, .int .i64 0]) ?_ 0 _ rfl; (with_reducible repeat (first | refine bN_ ?_ _ | refine bD_ ?_ | refine bA_ ?_ _)); exact BK227.out⟩, ⟨gW_ HB.out⟩⟩
  case rest =>
   clear HC18
   try clear c1
   try clear c2
   try clear c2b0
   try clear c2b1
   try clear p2
   try clear c5
   try clear c8
   try clear c9
   try clear c18
   try clear c21
   try clear c24
   try clear c25
   try clear c28
   try clear c28b0
   try clear c28b1
   try clear c29
   try clear c29b0
   try clear c29b1
   try clear z_10
   try clear z_11
   try clear z_16
   try clear z_17
   try clear z_22
   try clear z_26
   try clear z_27
   try clear z_6
   obtain ⟨kq, x17_17, rfl, HA, HJ17, BK225, BK226, BK227, HB⟩ := hcut
   cases kq with
   | zero => exact absurd HA.out (by simp [impl_stepNamed.j0])
   | succ kj17 =>
    have H := HA.out
    clear HA
    simp only [impl_stepNamed.j0] at H
    by_cases c30 : x17_17 = true
    ·subst c30
     have H1 : (some (a0_0, a0_1, a0_2, a0_3, 0)) = some (r1, r2, r3, r4, r5) := by rw [if_pos rfl] at H; exact H
     clear H
     have H := H1
     clear H1
     simp only [Option.some.injEq, Prod.mk.injEq] at H
     obtain ⟨rfl, rfl, rfl, rfl, rfl⟩ := H
     try go_wp2
     replace BK225 := aM_ (blk_drew BK225.out)
     replace BK226 := aM_ (blk_drew BK226.out)
     replace BK227 := aM_ (blk_drew BK227.out)
     replace HB := aM_ (below_drew1 HB.out)
     refine start_ (n := 12) (S := fun w' => w'.cell? ⟨gb225, 0, none⟩ = some (.int .i64 a0_0) ∧ w'.cell? ⟨gb225, 1, none⟩ = some (.int .i64 a0_1) ∧ w'.cell? ⟨gb225, 2, none⟩ = some (.int .i64 a0_2) ∧ w'.cell? ⟨gb225, 3, none⟩ = some (.int .i64 a0_3) ∧ w'.cell? ⟨gb225, 4, none⟩ = some (.int .i64 a0_4)) (ds := []) (mk_ 12 0) (by kernel_rfl) rfl rfl (bC5_ BK225.out) (fun hHeld => ?_); refine with_tabW impl_stepNamed.tab8 impl_stepNamed.bits8 (fun HT_ HW_ => ?_)
     generalize wc.drew = w31 at BK225 BK226 BK227 HB hHeld ⊢
     refine pU_ 0 21 (mk_ 12 1) ?_
     refine pU_ 2 23 (mk_ 12 5) ?_
     refine pU_ 4 25 (mk_ 12 21) ?_
     refine tK5_ 1 22 (mk_ 12 23) ?_
     refine pU_ 6 27 (mk_ 12 87) ?_
     refine tK5_ 3 24 (mk_ 12 95) ?_
     refine tK5_ 5 26 (mk_ 12 127) ?_
     refine oNn_ 7 (none) (mk_ 12 255) (fun K hK => ?_)
     have hs32 : w31.cell? ⟨gb227, 1, none⟩ = some (.int .i64 0) := (blk_cell BK227.out 1).trans rfl
     have hfs32 := blk_frozen BK227.out 1
     have hns32_0 := NB225_227.out
     have hns32_1 := NB226_227.out
     have hms32_0 := NB227_225.out
     have hms32_1 := NB227_226.out
     refine skip_ (w1 := ?_) (by rfl) rfl ?_ ?_
     rotate_left
     ·go_simp
      rfl
     refine hK.out _ _ ⟨(cf_ NB225_227.out hHeld.1), (cf_ NB225_227.out hHeld.2.1), (cf_ NB225_227.out hHeld.2.2.1), (cf_ NB225_227.out hHeld.2.2.2.1), (cf_ NB225_227.out hHeld.2.2.2.2)⟩ (fun hHeld => ?_)
     clear hK K
     refine pU_ 8 28 (mk_ 12 511) ?_
     refine oNn_ 9 (none) (mk_ 12 1023) (fun K hK => ?_)
     have hs33 : w31.cell? ⟨gb227, 2, none⟩ = some (.int .i64 0) := (blk_cell BK227.out 2).trans rfl
     have hfs33 := blk_frozen BK227.out 2
     have hns33_0 := NB225_227.out
     have hns33_1 := NB226_227.out
     have hms33_0 := NB227_225.out
     have hms33_1 := NB227_226.out
     refine skip_ (w1 := ?_) (by rfl) rfl ?_ ?_
     rotate_left
     ·go_simp
      rfl
     refine hK.out _ _ ⟨(cf_ NB225_227.out hHeld.1), (cf_ NB225_227.out hHeld.2.1), (cf_ NB225_227.out hHeld.2.2.1), (cf_ NB225_227.out hHeld.2.2.2.1), (cf_ NB225_227.out hHeld.2.2.2.2)⟩ (fun hHeld => ?_)
     clear hK K
     refine pU_ 10 29 (mk_ 12 2047) ?_
     refine oNn_ 11 (none) (mk_ 12 4095) (fun K hK => ?_)
     have hs34 : w31.cell? ⟨gb227, 3, none⟩ = some (.int .i64 0) := (blk_cell BK227.out 3).trans rfl
     have hfs34 := blk_frozen BK227.out 3
     have hns34_0 := NB225_227.out
     have hns34_1 := NB226_227.out
     have hms34_0 := NB227_225.out
     have hms34_1 := NB227_226.out
     refine skip_ (w1 := ?_) (by rfl) rfl ?_ ?_
     rotate_left
     ·go_simp
      rfl
     refine hK.out _ _ ⟨(cf_ NB225_227.out hHeld.1), (cf_ NB225_227.out hHeld.2.1), (cf_ NB225_227.out hHeld.2.2.1), (cf_ NB225_227.out hHeld.2.2.2.1), (cf_ NB225_227.out hHeld.2.2.2.2)⟩ (fun hHeld => ?_)
     clear hK K
     refine done_ (done_of HT_.out (by kernel_rfl)) ?_
     have hnb35 := NB227_225.out
     have hnc35 := NB225_227.out
     have hnb36 := NB227_226.out
     have hnc36 := NB226_227.out
     have z_37 := bR5_ BK227.out
     have hnb38 := NB226_225.out
     have hnc38 := NB225_226.out
     have z_39 := bR5_ BK226.out
     try go_wp2
     refine bodyPost_ret (results_cell_row rfl _ _ gb226 175 #[.int .i64 a0_0, .int .i64 a0_1, .int .i64 a0_2, .int .i64 a0_3, .int .i64 0] (0, 0) _ rfl (by (with_reducible repeat (first | refine bN_ ?_ _ | refine bD_ ?_ | refine bA_ ?_ _)); refine blk_put (cs := #[.int .i64 a0_0, .int .i64 a0_1, .int .i64 a0_2, .int .i64 a0_3, .int .i64 0]) ?_ 4 _ rfl; refine blk_put (cs := #[.int .i64 a0_0, .int .i64 a0_1, .int .i64 a0_2, .int .i64 0, .int .i64 0]) ?_ 3 _ rfl; refine blk_put (cs := #[.int .i64 a0_0, .int .i64 a0_1, .int .i64 0, .int .i64 0, .int .i64 0]) ?_ 2 _ rfl; refine blk_put (cs := #[.int .i64 a0_0, .int .i64 0, .int .i64 0, .int .i64 0, .int .i64 0]) ?_ 1 _ rfl; refine blk_put (cs := #[.int .i64 0, .int .i64 0, .int .i64 0, .int .i64 0, .int .i64 0]) ?_ 0 _ rfl; exact rWf_ BK226.out) Try.underlying175 rfl (by kernel_rfl)) rfl ?_
     exact fI_ HB.out
    ·replace c30 := Bool.eq_false_iff.mpr c30
     subst c30
     have H1 : (if a0_0 = 5 then (some (a0_0, a0_1, a0_2, 0, a0_4)) else (if a0_0 = 6 then (impl_stepNamed.j1 kj17 a0_0 (a0_0 == 6) a0_0 a0_1 a0_2 a0_3 a0_4 a0_0 0 0 0 0) else (impl_stepNamed.j1 kj17 a0_0 (a0_0 == 7) a0_0 a0_1 a0_2 a0_3 a0_4 a0_0 0 0 0 0))) = some (r1, r2, r3, r4, r5) := by rw [if_neg (show ¬ (false = true) by decide)] at H; exact H
     clear H
     have H := H1
     clear H1
     by_cases c40 : a0_0 = 5
     ·rw [if_pos c40] at H
      have c40b0 : (a0_0 == 5) = true := beq_iff_eq.mpr c40
      have c40b1 : (a0_0 != 5) = false := bne_eq_false_iff_eq.mpr c40
      clear c40
      simp only [Option.some.injEq, Prod.mk.injEq] at H
      obtain ⟨rfl, rfl, rfl, rfl, rfl⟩ := H
      try go_wp2
      replace BK225 := aM_ (blk_drew BK225.out)
      replace BK226 := aM_ (blk_drew BK226.out)
      replace BK227 := aM_ (blk_drew BK227.out)
      replace HB := aM_ (below_drew1 HB.out)
      refine start_ (n := 12) (S := fun w' => w'.cell? ⟨gb225, 0, none⟩ = some (.int .i64 a0_0) ∧ w'.cell? ⟨gb225, 1, none⟩ = some (.int .i64 a0_1) ∧ w'.cell? ⟨gb225, 2, none⟩ = some (.int .i64 a0_2) ∧ w'.cell? ⟨gb225, 3, none⟩ = some (.int .i64 a0_3) ∧ w'.cell? ⟨gb225, 4, none⟩ = some (.int .i64 a0_4)) (ds := []) (mk_ 12 0) (by kernel_rfl) rfl rfl (bC5_ BK225.out) (fun hHeld => ?_); refine with_tabW impl_stepNamed.tab10 impl_stepNamed.bits10 (fun HT_ HW_ => ?_)
      generalize wc.drew = w41 at BK225 BK226 BK227 HB hHeld ⊢
      refine pU_ 0 32 (mk_ 12 1) ?_
      refine pU_ 2 34 (mk_ 12 5) ?_
      refine pU_ 4 36 (mk_ 12 21) ?_
      refine tK5_ 1 33 (mk_ 12 23) ?_
      refine pU_ 6 38 (mk_ 12 87) ?_
      refine tK5_ 3 35 (mk_ 12 95) ?_
      refine tK5_ 5 37 (mk_ 12 127) ?_
      refine oNn_ 7 (none) (mk_ 12 255) (fun K hK => ?_)
      have hs42 : w41.cell? ⟨gb227, 1, none⟩ = some (.int .i64 0) := (blk_cell BK227.out 1).trans rfl
      have hfs42 := blk_frozen BK227.out 1
      have hns42_0 := NB225_227.out
      have hns42_1 := NB226_227.out
      have hms42_0 := NB227_225.out
      have hms42_1 := NB227_226.out
      refine skip_ (w1 := ?_) (by rfl) rfl ?_ ?_
      rotate_left
      ·go_simp
       rfl
      refine hK.out _ _ ⟨(cf_ NB225_227.out hHeld.1), (cf_ NB225_227.out hHeld.2.1), (cf_ NB225_227.out hHeld.2.2.1), (cf_ NB225_227.out hHeld.2.2.2.1), (cf_ NB225_227.out hHeld.2.2.2.2)⟩ (fun hHeld => ?_)
      clear hK K
      refine pU_ 8 39 (mk_ 12 511) ?_
      refine oNn_ 9 (none) (mk_ 12 1023) (fun K hK => ?_)
      have hs43 : w41.cell? ⟨gb227, 2, none⟩ = some (.int .i64 0) := (blk_cell BK227.out 2).trans rfl
      have hfs43 := blk_frozen BK227.out 2
      have hns43_0 := NB225_227.out
      have hns43_1 := NB226_227.out
      have hms43_0 := NB227_225.out
      have hms43_1 := NB227_226.out
      refine skip_ (w1 := ?_) (by rfl) rfl ?_ ?_
      rotate_left
      ·go_simp
       rfl
      refine hK.out _ _ ⟨(cf_ NB225_227.out hHeld.1), (cf_ NB225_227.out hHeld.2.1), (cf_ NB225_227.out hHeld.2.2.1), (cf_ NB225_227.out hHeld.2.2.2.1), (cf_ NB225_227.out hHeld.2.2.2.2)⟩ (fun hHeld => ?_)
      clear hK K
      refine pU_ 10 40 (mk_ 12 2047) ?_
      refine oNn_ 11 (none) (mk_ 12 4095) (fun K hK => ?_)
      have hs44 : w41.cell? ⟨gb227, 4, none⟩ = some (.int .i64 0) := (blk_cell BK227.out 4).trans rfl
      have hfs44 := blk_frozen BK227.out 4
      have hns44_0 := NB225_227.out
      have hns44_1 := NB226_227.out
      have hms44_0 := NB227_225.out
      have hms44_1 := NB227_226.out
      refine skip_ (w1 := ?_) (by rfl) rfl ?_ ?_
      rotate_left
      ·go_simp
       rfl
      refine hK.out _ _ ⟨(cf_ NB225_227.out hHeld.1), (cf_ NB225_227.out hHeld.2.1), (cf_ NB225_227.out hHeld.2.2.1), (cf_ NB225_227.out hHeld.2.2.2.1), (cf_ NB225_227.out hHeld.2.2.2.2)⟩ (fun hHeld => ?_)
      clear hK K
      refine done_ (done_of HT_.out (by kernel_rfl)) ?_
      have hnb45 := NB227_225.out
      have hnc45 := NB225_227.out
      have hnb46 := NB227_226.out
      have hnc46 := NB226_227.out
      have z_47 := bR5_ BK227.out
      have hnb48 := NB226_225.out
      have hnc48 := NB225_226.out
      have z_49 := bR5_ BK226.out
      try go_wp2
      refine bodyPost_ret (results_cell_row rfl _ _ gb226 175 #[.int .i64 a0_0, .int .i64 a0_1, .int .i64 a0_2, .int .i64 0, .int .i64 a0_4] (0, 0) _ rfl (by (with_reducible repeat (first | refine bN_ ?_ _ | refine bD_ ?_ | refine bA_ ?_ _)); refine blk_put (cs := #[.int .i64 a0_0, .int .i64 a0_1, .int .i64 a0_2, .int .i64 0, .int .i64 0]) ?_ 4 _ rfl; refine blk_put (cs := #[.int .i64 a0_0, .int .i64 a0_1, .int .i64 a0_2, .int .i64 0, .int .i64 0]) ?_ 3 _ rfl; refine blk_put (cs := #[.int .i64 a0_0, .int .i64 a0_1, .int .i64 0, .int .i64 0, .int .i64 0]) ?_ 2 _ rfl; refine blk_put (cs := #[.int .i64 a0_0, .int .i64 0, .int .i64 0, .int .i64 0, .int .i64 0]) ?_ 1 _ rfl; refine blk_put (cs := #[.int .i64 0, .int .i64 0, .int .i64 0, .int .i64 0, .int .i64 0]) ?_ 0 _ rfl; exact rWf_ BK226.out) Try.underlying175 rfl (by kernel_rfl)) rfl ?_
      exact fI_ HB.out
     ·rw [if_neg c40] at H
      have c40b0 : (a0_0 == 5) = false := beq_eq_false_iff_ne.mpr c40
      have c40b1 : (a0_0 != 5) = true := bne_iff_ne.mpr c40
      have HC50 := aM_ H
      clear H
      go_upto_if 41 with (fail)
      go_cut [41] (fun v41 wc => ∃ (kq : Nat) (x41_49 : Bool), v41 = .bool x41_49 ∧ Aside0 (impl_stepNamed.j1 kq a0_0 x41_49 a0_0 a0_1 a0_2 a0_3 a0_4 a0_0 0 0 0 0 = some (r1, r2, r3, r4, r5)) ∧ Aside0 (kq ≤ kj17) ∧ Aside0 (wc.heap[gb225]? = some (.cells #[.int .i64 a0_0, .int .i64 a0_1, .int .i64 a0_2, .int .i64 a0_3, .int .i64 a0_4] 175 (0, 0))) ∧ Aside0 (wc.heap[gb226]? = some (.cells #[.int .i64 0, .int .i64 0, .int .i64 0, .int .i64 0, .int .i64 0] 175 (0, 0))) ∧ Aside0 (wc.heap[gb227]? = some (.cells #[.int .i64 a0_0, .int .i64 0, .int .i64 0, .int .i64 0, .int .i64 0] 175 (0, 0))) ∧ Aside0 (Below w.heap.size w wc))
      case first =>
       have H := HC50.out
       clear HC50
       by_cases c51 : a0_0 = 6
       ·rw [if_pos c51] at H
        have c51b0 : (a0_0 == 6) = true := beq_iff_eq.mpr c51
        have c51b1 : (a0_0 != 6) = false := bne_eq_false_iff_eq.mpr c51
        clear c51
        (first | rw [c51b0] | (simp only [i64_w, i32_w]; rw [c51b0]) | skip)
        have H' := aM_ H
        clear H
        go_wp2
        go_meet
        case rel => exact ⟨_, ((a0_0 == 6)), (by first | rfl | (simp; done) | (simp [*]; done)), H', ⟨by have := HJ17.out; first | omega | exact Nat.le_refl _⟩, ⟨rW_ BK225.out⟩, ⟨rW_ BK226.out⟩, ⟨rW_ BK227.out⟩, ⟨gW_ HB.out⟩⟩
       ·rw [if_neg c51] at H
        have c51b0 : (a0_0 == 6) = false := beq_eq_false_iff_ne.mpr c51
        have c51b1 : (a0_0 != 6) = true := bne_iff_ne.mpr c51
        (first | rw [c51b0] | (simp only [i64_w, i32_w]; rw [c51b0]) | skip)
        have H' := aM_ H
        clear H
        go_wp2
        go_meet
        case rel => exact ⟨_, ((a0_0 == 7)), (by first | rfl | (simp; done) | (simp [*]; done)), H', ⟨by have := HJ17.out; first | omega | exact Nat.le_refl _⟩, ⟨rW_ BK225.out⟩, ⟨rW_ BK226.out⟩, ⟨rW_ BK227.out⟩, ⟨gW_ HB.out⟩⟩
      case rest =>
       clear HC50
       try clear c1
       try clear c2
       try clear c2b0
       try clear c2b1
       try clear p2
       try clear c3
       try clear c4
       try clear c5
       try clear c8
       try clear c9
       try clear c18
       try clear c21
       try clear c24
       try clear c25
       try clear c28
       try clear c28b0
       try clear c28b1
       try clear c29
       try clear c29b0
       try clear c29b1
       try clear c30
       try clear c35
       try clear c36
       try clear c38
       try clear c40
       try clear c40b0
       try clear c40b1
       try clear c45
       try clear c46
       try clear c48
       try clear c51
       try clear c51b0
       try clear c51b1
       try clear z_10
       try clear z_11
       try clear z_16
       try clear z_17
       try clear z_22
       try clear z_26
       try clear z_27
       try clear z_37
       try clear z_39
       try clear z_47
       try clear z_49
       try clear z_6
       try clear p2
       obtain ⟨kq, x41_49, rfl, HA, HJ49, BK225, BK226, BK227, HB⟩ := hcut
       cases kq with
       | zero => exact absurd HA.out (by simp [impl_stepNamed.j1])
       | succ kj49 =>
        have H := HA.out
        clear HA
        simp only [impl_stepNamed.j1] at H
        by_cases c52 : x41_49 = true
        ·subst c52
         have H1 : (some (a0_0, 0, a0_2, a0_3, a0_4)) = some (r1, r2, r3, r4, r5) := by rw [if_pos rfl] at H; exact H
         clear H
         have H := H1
         clear H1
         simp only [Option.some.injEq, Prod.mk.injEq] at H
         obtain ⟨rfl, rfl, rfl, rfl, rfl⟩ := H
         try go_wp2
         replace BK225 := aM_ (blk_drew BK225.out)
         replace BK226 := aM_ (blk_drew BK226.out)
         replace BK227 := aM_ (blk_drew BK227.out)
         replace HB := aM_ (below_drew1 HB.out)
         refine start_ (n := 12) (S := fun w' => w'.cell? ⟨gb225, 0, none⟩ = some (.int .i64 a0_0) ∧ w'.cell? ⟨gb225, 1, none⟩ = some (.int .i64 a0_1) ∧ w'.cell? ⟨gb225, 2, none⟩ = some (.int .i64 a0_2) ∧ w'.cell? ⟨gb225, 3, none⟩ = some (.int .i64 a0_3) ∧ w'.cell? ⟨gb225, 4, none⟩ = some (.int .i64 a0_4)) (ds := []) (mk_ 12 0) (by kernel_rfl) rfl rfl (bC5_ BK225.out) (fun hHeld => ?_); refine with_tabW impl_stepNamed.tab13 impl_stepNamed.bits13 (fun HT_ HW_ => ?_)
         generalize wc.drew = w53 at BK225 BK226 BK227 HB hHeld ⊢
         refine pU_ 0 44 (mk_ 12 1) ?_
         refine pU_ 2 46 (mk_ 12 5) ?_
         refine pU_ 4 48 (mk_ 12 21) ?_
         refine tK5_ 1 45 (mk_ 12 23) ?_
         refine pU_ 6 50 (mk_ 12 87) ?_
         refine tK5_ 3 47 (mk_ 12 95) ?_
         refine tK5_ 5 49 (mk_ 12 127) ?_
         refine oNn_ 7 (none) (mk_ 12 255) (fun K hK => ?_)
         have hs54 : w53.cell? ⟨gb227, 2, none⟩ = some (.int .i64 0) := (blk_cell BK227.out 2).trans rfl
         have hfs54 := blk_frozen BK227.out 2
         have hns54_0 := NB225_227.out
         have hns54_1 := NB226_227.out
         have hms54_0 := NB227_225.out
         have hms54_1 := NB227_226.out
         refine skip_ (w1 := ?_) (by rfl) rfl ?_ ?_
         rotate_left
         ·go_simp
          rfl
         refine hK.out _ _ ⟨(cf_ NB225_227.out hHeld.1), (cf_ NB225_227.out hHeld.2.1), (cf_ NB225_227.out hHeld.2.2.1), (cf_ NB225_227.out hHeld.2.2.2.1), (cf_ NB225_227.out hHeld.2.2.2.2)⟩ (fun hHeld => ?_)
         clear hK K
         refine pU_ 8 51 (mk_ 12 511) ?_
         refine oNn_ 9 (none) (mk_ 12 1023) (fun K hK => ?_)
         have hs55 : w53.cell? ⟨gb227, 3, none⟩ = some (.int .i64 0) := (blk_cell BK227.out 3).trans rfl
         have hfs55 := blk_frozen BK227.out 3
         have hns55_0 := NB225_227.out
         have hns55_1 := NB226_227.out
         have hms55_0 := NB227_225.out
         have hms55_1 := NB227_226.out
         refine skip_ (w1 := ?_) (by rfl) rfl ?_ ?_
         rotate_left
         ·go_simp
          rfl
         refine hK.out _ _ ⟨(cf_ NB225_227.out hHeld.1), (cf_ NB225_227.out hHeld.2.1), (cf_ NB225_227.out hHeld.2.2.1), (cf_ NB225_227.out hHeld.2.2.2.1), (cf_ NB225_227.out hHeld.2.2.2.2)⟩ (fun hHeld => ?_)
         clear hK K
         refine pU_ 10 52 (mk_ 12 2047) ?_
         refine oNn_ 11 (none) (mk_ 12 4095) (fun K hK => ?_)
         have hs56 : w53.cell? ⟨gb227, 4, none⟩ = some (.int .i64 0) := (blk_cell BK227.out 4).trans rfl
         have hfs56 := blk_frozen BK227.out 4
         have hns56_0 := NB225_227.out
         have hns56_1 := NB226_227.out
         have hms56_0 := NB227_225.out
         have hms56_1 := NB227_226.out
         refine skip_ (w1 := ?_) (by rfl) rfl ?_ ?_
         rotate_left
         ·go_simp
          rfl
         refine hK.out _ _ ⟨(cf_ NB225_227.out hHeld.1), (cf_ NB225_227.out hHeld.2.1), (cf_ NB225_227.out hHeld.2.2.1), (cf_ NB225_227.out hHeld.2.2.2.1), (cf_ NB225_227.out hHeld.2.2.2.2)⟩ (fun hHeld => ?_)
         clear hK K
         refine done_ (done_of HT_.out (by kernel_rfl)) ?_
         have hnb57 := NB227_225.out
         have hnc57 := NB225_227.out
         have hnb58 := NB227_226.out
         have hnc58 := NB226_227.out
         have z_59 := bR5_ BK227.out
         have hnb60 := NB226_225.out
         have hnc60 := NB225_226.out
         have z_61 := bR5_ BK226.out
         try go_wp2
         refine bodyPost_ret (results_cell_row rfl _ _ gb226 175 #[.int .i64 a0_0, .int .i64 0, .int .i64 a0_2, .int .i64 a0_3, .int .i64 a0_4] (0, 0) _ rfl (by (with_reducible repeat (first | refine bN_ ?_ _ | refine bD_ ?_ | refine bA_ ?_ _)); refine blk_put (cs := #[.int .i64 a0_0, .int .i64 0, .int .i64 a0_2, .int .i64 a0_3, .int .i64 0]) ?_ 4 _ rfl; refine blk_put (cs := #[.int .i64 a0_0, .int .i64 0, .int .i64 a0_2, .int .i64 0, .int .i64 0]) ?_ 3 _ rfl; refine blk_put (cs := #[.int .i64 a0_0, .int .i64 0, .int .i64 0, .int .i64 0, .int .i64 0]) ?_ 2 _ rfl; refine blk_put (cs := #[.int .i64 a0_0, .int .i64 0, .int .i64 0, .int .i64 0, .int .i64 0]) ?_ 1 _ rfl; refine blk_put (cs := #[.int .i64 0, .int .i64 0, .int .i64 0, .int .i64 0, .int .i64 0]) ?_ 0 _ rfl; exact rWf_ BK226.out) Try.underlying175 rfl (by kernel_rfl)) rfl ?_
         exact fI_ HB.out
        ·replace c52 := Bool.eq_false_iff.mpr c52
         subst c52
         have H1 : (if a0_0 = 8 then (some (a0_0, a0_1, 0, a0_3, a0_4)) else (if a0_0 = 9 then (some (a0_0, 0, a0_2, 0, 0)) else (if a0_0 = 10 then (some (a0_0, 0, 0, 0, a0_4)) else (if a0_0 = 11 then (some (a0_0, 0, a0_2, 0, a0_4)) else (some (a0_0, 0, 0, 0, 0)))))) = some (r1, r2, r3, r4, r5) := by rw [if_neg (show ¬ (false = true) by decide)] at H; exact H
         clear H
         have H := H1
         clear H1
         by_cases c62 : a0_0 = 8
         ·rw [if_pos c62] at H
          have c62b0 : (a0_0 == 8) = true := beq_iff_eq.mpr c62
          have c62b1 : (a0_0 != 8) = false := bne_eq_false_iff_eq.mpr c62
          clear c62
          simp only [Option.some.injEq, Prod.mk.injEq] at H
          obtain ⟨rfl, rfl, rfl, rfl, rfl⟩ := H
          try go_wp2
          replace BK225 := aM_ (blk_drew BK225.out)
          replace BK226 := aM_ (blk_drew BK226.out)
          replace BK227 := aM_ (blk_drew BK227.out)
          replace HB := aM_ (below_drew1 HB.out)
          refine start_ (n := 12) (S := fun w' => w'.cell? ⟨gb225, 0, none⟩ = some (.int .i64 a0_0) ∧ w'.cell? ⟨gb225, 1, none⟩ = some (.int .i64 a0_1) ∧ w'.cell? ⟨gb225, 2, none⟩ = some (.int .i64 a0_2) ∧ w'.cell? ⟨gb225, 3, none⟩ = some (.int .i64 a0_3) ∧ w'.cell? ⟨gb225, 4, none⟩ = some (.int .i64 a0_4)) (ds := []) (mk_ 12 0) (by kernel_rfl) rfl rfl (bC5_ BK225.out) (fun hHeld => ?_); refine with_tabW impl_stepNamed.tab15 impl_stepNamed.bits15 (fun HT_ HW_ => ?_)
          generalize wc.drew = w63 at BK225 BK226 BK227 HB hHeld ⊢
          refine pU_ 0 55 (mk_ 12 1) ?_
          refine pU_ 2 57 (mk_ 12 5) ?_
          refine pU_ 4 59 (mk_ 12 21) ?_
          refine tK5_ 1 56 (mk_ 12 23) ?_
          refine pU_ 6 61 (mk_ 12 87) ?_
          refine tK5_ 3 58 (mk_ 12 95) ?_
          refine tK5_ 5 60 (mk_ 12 127) ?_
          refine oNn_ 7 (none) (mk_ 12 255) (fun K hK => ?_)
          have hs64 : w63.cell? ⟨gb227, 1, none⟩ = some (.int .i64 0) := (blk_cell BK227.out 1).trans rfl
          have hfs64 := blk_frozen BK227.out 1
          have hns64_0 := NB225_227.out
          have hns64_1 := NB226_227.out
          have hms64_0 := NB227_225.out
          have hms64_1 := NB227_226.out
          refine skip_ (w1 := ?_) (by rfl) rfl ?_ ?_
          rotate_left
          ·go_simp
           rfl
          refine hK.out _ _ ⟨(cf_ NB225_227.out hHeld.1), (cf_ NB225_227.out hHeld.2.1), (cf_ NB225_227.out hHeld.2.2.1), (cf_ NB225_227.out hHeld.2.2.2.1), (cf_ NB225_227.out hHeld.2.2.2.2)⟩ (fun hHeld => ?_)
          clear hK K
          refine pU_ 8 62 (mk_ 12 511) ?_
          refine oNn_ 9 (none) (mk_ 12 1023) (fun K hK => ?_)
          have hs65 : w63.cell? ⟨gb227, 3, none⟩ = some (.int .i64 0) := (blk_cell BK227.out 3).trans rfl
          have hfs65 := blk_frozen BK227.out 3
          have hns65_0 := NB225_227.out
          have hns65_1 := NB226_227.out
          have hms65_0 := NB227_225.out
          have hms65_1 := NB227_226.out
          refine skip_ (w1 := ?_) (by rfl) rfl ?_ ?_
          rotate_left
          ·go_simp
           rfl
          refine hK.out _ _ ⟨(cf_ NB225_227.out hHeld.1), (cf_ NB225_227.out hHeld.2.1), (cf_ NB225_227.out hHeld.2.2.1), (cf_ NB225_227.out hHeld.2.2.2.1), (cf_ NB225_227.out hHeld.2.2.2.2)⟩ (fun hHeld => ?_)
          clear hK K
          refine pU_ 10 63 (mk_ 12 2047) ?_
          refine oNn_ 11 (none) (mk_ 12 4095) (fun K hK => ?_)
          have hs66 : w63.cell? ⟨gb227, 4, none⟩ = some (.int .i64 0) := (blk_cell BK227.out 4).trans rfl
          have hfs66 := blk_frozen BK227.out 4
          have hns66_0 := NB225_227.out
          have hns66_1 := NB226_227.out
          have hms66_0 := NB227_225.out
          have hms66_1 := NB227_226.out
          refine skip_ (w1 := ?_) (by rfl) rfl ?_ ?_
          rotate_left
          ·go_simp
           rfl
          refine hK.out _ _ ⟨(cf_ NB225_227.out hHeld.1), (cf_ NB225_227.out hHeld.2.1), (cf_ NB225_227.out hHeld.2.2.1), (cf_ NB225_227.out hHeld.2.2.2.1), (cf_ NB225_227.out hHeld.2.2.2.2)⟩ (fun hHeld => ?_)
          clear hK K
          refine done_ (done_of HT_.out (by kernel_rfl)) ?_
          have hnb67 := NB227_225.out
          have hnc67 := NB225_227.out
          have hnb68 := NB227_226.out
          have hnc68 := NB226_227.out
          have z_69 := bR5_ BK227.out
          have hnb70 := NB226_225.out
          have hnc70 := NB225_226.out
          have z_71 := bR5_ BK226.out
          try go_wp2
          refine bodyPost_ret (results_cell_row rfl _ _ gb226 175 #[.int .i64 a0_0, .int .i64 a0_1, .int .i64 0, .int .i64 a0_3, .int .i64 a0_4] (0, 0) _ rfl (by (with_reducible repeat (first | refine bN_ ?_ _ | refine bD_ ?_ | refine bA_ ?_ _)); refine blk_put (cs := #[.int .i64 a0_0, .int .i64 a0_1, .int .i64 0, .int .i64 a0_3, .int .i64 0]) ?_ 4 _ rfl; refine blk_put (cs := #[.int .i64 a0_0, .int .i64 a0_1, .int .i64 0, .int .i64 0, .int .i64 0]) ?_ 3 _ rfl; refine blk_put (cs := #[.int .i64 a0_0, .int .i64 a0_1, .int .i64 0, .int .i64 0, .int .i64 0]) ?_ 2 _ rfl; refine blk_put (cs := #[.int .i64 a0_0, .int .i64 0, .int .i64 0, .int .i64 0, .int .i64 0]) ?_ 1 _ rfl; refine blk_put (cs := #[.int .i64 0, .int .i64 0, .int .i64 0, .int .i64 0, .int .i64 0]) ?_ 0 _ rfl; exact rWf_ BK226.out) Try.underlying175 rfl (by kernel_rfl)) rfl ?_
          exact fI_ HB.out
         ·rw [if_neg c62] at H
          have c62b0 : (a0_0 == 8) = false := beq_eq_false_iff_ne.mpr c62
          have c62b1 : (a0_0 != 8) = true := bne_iff_ne.mpr c62
          by_cases c72 : a0_0 = 9
          ·rw [if_pos c72] at H
           have c72b0 : (a0_0 == 9) = true := beq_iff_eq.mpr c72
           have c72b1 : (a0_0 != 9) = false := bne_eq_false_iff_eq.mpr c72
           clear c72
           simp only [Option.some.injEq, Prod.mk.injEq] at H
           obtain ⟨rfl, rfl, rfl, rfl, rfl⟩ := H
           have hnb73 := NB225_226.out
           have hnc73 := NB226_225.out
           have hnb74 := NB225_227.out
           have hnc74 := NB227_225.out
           have z_75 := bR5_ BK225.out
           have hnb76 := NB227_226.out
           have hnc76 := NB226_227.out
           have z_77 := bR5_ BK227.out
           have z_78 := bR5_ BK226.out
           go_wp2
           refine bodyPost_ret (results_cell_row rfl _ _ gb226 175 #[.int .i64 a0_0, .int .i64 0, .int .i64 a0_2, .int .i64 0, .int .i64 0] (0, 0) _ rfl (by (with_reducible repeat (first | refine bN_ ?_ _ | refine bD_ ?_ | refine bA_ ?_ _)); refine blk_put (cs := #[.int .i64 a0_0, .int .i64 0, .int .i64 a0_2, .int .i64 0, .int .i64 0]) ?_ 4 _ rfl; refine blk_put (cs := #[.int .i64 a0_0, .int .i64 0, .int .i64 a0_2, .int .i64 0, .int .i64 0]) ?_ 3 _ rfl; refine blk_put (cs := #[.int .i64 a0_0, .int .i64 0, .int .i64 0, .int .i64 0, .int .i64 0]) ?_ 2 _ rfl; refine blk_put (cs := #[.int .i64 a0_0, .int .i64 0, .int .i64 0, .int .i64 0, .int .i64 0]) ?_ 1 _ rfl; refine blk_put (cs := #[.int .i64 0, .int .i64 0, .int .i64 0, .int .i64 0, .int .i64 0]) ?_ 0 _ rfl; exact rWf_ BK226.out) Try.underlying175 rfl (by kernel_rfl)) rfl ?_
           exact fI_ HB.out
          ·rw [if_neg c72] at H
           have c72b0 : (a0_0 == 9) = false := beq_eq_false_iff_ne.mpr c72
           have c72b1 : (a0_0 != 9) = true := bne_iff_ne.mpr c72
           by_cases c79 : a0_0 = 10
           ·rw [if_pos c79] at H
            have c79b0 : (a0_0 == 10) = true := beq_iff_eq.mpr c79
            have c79b1 : (a0_0 != 10) = false := bne_eq_false_iff_eq.mpr c79
            clear c79
            simp only [Option.some.injEq, Prod.mk.injEq] at H
            obtain ⟨rfl, rfl, rfl, rfl, rfl⟩ := H
            have hnb80 := NB225_226.out
            have hnc80 := NB226_225.out
            have hnb81 := NB225_227.out
            have hnc81 := NB227_225.out
            have z_82 := bR5_ BK225.out
            have hnb83 := NB227_226.out
            have hnc83 := NB226_227.out
            have z_84 := bR5_ BK227.out
            have z_85 := bR5_ BK226.out
            go_wp2
            refine bodyPost_ret (results_cell_row rfl _ _ gb226 175 #[.int .i64 a0_0, .int .i64 0, .int .i64 0, .int .i64 0, .int .i64 a0_4] (0, 0) _ rfl (by (with_reducible repeat (first | refine bN_ ?_ _ | refine bD_ ?_ | refine bA_ ?_ _)); refine blk_put (cs := #[.int .i64 a0_0, .int .i64 0, .int .i64 0, .int .i64 0, .int .i64 0]) ?_ 4 _ rfl; refine blk_put (cs := #[.int .i64 a0_0, .int .i64 0, .int .i64 0, .int .i64 0, .int .i64 0]) ?_ 3 _ rfl; refine blk_put (cs := #[.int .i64 a0_0, .int .i64 0, .int .i64 0, .int .i64 0, .int .i64 0]) ?_ 2 _ rfl; refine blk_put (cs := #[.int .i64 a0_0, .int .i64 0, .int .i64 0, .int .i64 0, .int .i64 0]) ?_ 1 _ rfl; refine blk_put (cs := #[.int .i64 0, .int .i64 0, .int .i64 0, .int .i64 0, .int .i64 0]) ?_ 0 _ rfl; exact rWf_ BK226.out) Try.underlying175 rfl (by kernel_rfl)) rfl ?_
            exact fI_ HB.out
           ·rw [if_neg c79] at H
            have c79b0 : (a0_0 == 10) = false := beq_eq_false_iff_ne.mpr c79
            have c79b1 : (a0_0 != 10) = true := bne_iff_ne.mpr c79
            by_cases c86 : a0_0 = 11
            ·rw [if_pos c86] at H
             have c86b0 : (a0_0 == 11) = true := beq_iff_eq.mpr c86
             have c86b1 : (a0_0 != 11) = false := bne_eq_false_iff_eq.mpr c86
             clear c86
             simp only [Option.some.injEq, Prod.mk.injEq] at H
             obtain ⟨rfl, rfl, rfl, rfl, rfl⟩ := H
             try go_wp2
             replace BK225 := aM_ (blk_drew BK225.out)
             replace BK226 := aM_ (blk_drew BK226.out)
             replace BK227 := aM_ (blk_drew BK227.out)
             replace HB := aM_ (below_drew1 HB.out)
             refine start_ (n := 8) (S := fun w' => w'.cell? ⟨gb225, 0, none⟩ = some (.int .i64 a0_0) ∧ w'.cell? ⟨gb225, 1, none⟩ = some (.int .i64 a0_1) ∧ w'.cell? ⟨gb225, 2, none⟩ = some (.int .i64 a0_2) ∧ w'.cell? ⟨gb225, 3, none⟩ = some (.int .i64 a0_3) ∧ w'.cell? ⟨gb225, 4, none⟩ = some (.int .i64 a0_4)) (ds := []) (mk_ 8 0) (by kernel_rfl) rfl rfl (bC5_ BK225.out) (fun hHeld => ?_); refine with_tabW impl_stepNamed.tab21 impl_stepNamed.bits21 (fun HT_ HW_ => ?_)
             generalize wc.drew = w87 at BK225 BK226 BK227 HB hHeld ⊢
             refine pU_ 0 76 (mk_ 8 1) ?_
             refine pU_ 2 78 (mk_ 8 5) ?_
             refine tK5_ 1 77 (mk_ 8 7) ?_
             refine pU_ 4 80 (mk_ 8 23) ?_
             refine tK5_ 3 79 (mk_ 8 31) ?_
             refine oNn_ 5 (none) (mk_ 8 63) (fun K hK => ?_)
             have hs88 : w87.cell? ⟨gb227, 2, none⟩ = some (.int .i64 0) := (blk_cell BK227.out 2).trans rfl
             have hfs88 := blk_frozen BK227.out 2
             have hns88_0 := NB225_227.out
             have hns88_1 := NB226_227.out
             have hms88_0 := NB227_225.out
             have hms88_1 := NB227_226.out
             refine skip_ (w1 := ?_) (by rfl) rfl ?_ ?_
             rotate_left
             ·go_simp
              rfl
             refine hK.out _ _ ⟨(cf_ NB225_227.out hHeld.1), (cf_ NB225_227.out hHeld.2.1), (cf_ NB225_227.out hHeld.2.2.1), (cf_ NB225_227.out hHeld.2.2.2.1), (cf_ NB225_227.out hHeld.2.2.2.2)⟩ (fun hHeld => ?_)
             clear hK K
             refine pU_ 6 81 (mk_ 8 127) ?_
             refine oNn_ 7 (none) (mk_ 8 255) (fun K hK => ?_)
             have hs89 : w87.cell? ⟨gb227, 4, none⟩ = some (.int .i64 0) := (blk_cell BK227.out 4).trans rfl
             have hfs89 := blk_frozen BK227.out 4
             have hns89_0 := NB225_227.out
             have hns89_1 := NB226_227.out
             have hms89_0 := NB227_225.out
             have hms89_1 := NB227_226.out
             refine skip_ (w1 := ?_) (by rfl) rfl ?_ ?_
             rotate_left
             ·go_simp
              rfl
             refine hK.out _ _ ⟨(cf_ NB225_227.out hHeld.1), (cf_ NB225_227.out hHeld.2.1), (cf_ NB225_227.out hHeld.2.2.1), (cf_ NB225_227.out hHeld.2.2.2.1), (cf_ NB225_227.out hHeld.2.2.2.2)⟩ (fun hHeld => ?_)
             clear hK K
             refine done_ (done_of HT_.out (by kernel_rfl)) ?_
             have hnb90 := NB227_225.out
             have hnc90 := NB225_227.out
             have hnb91 := NB227_226.out
             have hnc91 := NB226_227.out
             have z_92 := bR5_ BK227.out
             have hnb93 := NB226_225.out
             have hnc93 := NB225_226.out
             have z_94 := bR5_ BK226.out
             try go_wp2
             refine bodyPost_ret (results_cell_row rfl _ _ gb226 175 #[.int .i64 a0_0, .int .i64 0, .int .i64 a0_2, .int .i64 0, .int .i64 a0_4] (0, 0) _ rfl (by (with_reducible repeat (first | refine bN_ ?_ _ | refine bD_ ?_ | refine bA_ ?_ _)); refine blk_put (cs := #[.int .i64 a0_0, .int .i64 0, .int .i64 a0_2, .int .i64 0, .int .i64 0]) ?_ 4 _ rfl; refine blk_put (cs := #[.int .i64 a0_0, .int .i64 0, .int .i64 a0_2, .int .i64 0, .int .i64 0]) ?_ 3 _ rfl; refine blk_put (cs := #[.int .i64 a0_0, .int .i64 0, .int .i64 0, .int .i64 0, .int .i64 0]) ?_ 2 _ rfl; refine blk_put (cs := #[.int .i64 a0_0, .int .i64 0, .int .i64 0, .int .i64 0, .int .i64 0]) ?_ 1 _ rfl; refine blk_put (cs := #[.int .i64 0, .int .i64 0, .int .i64 0, .int .i64 0, .int .i64 0]) ?_ 0 _ rfl; exact rWf_ BK226.out) Try.underlying175 rfl (by kernel_rfl)) rfl ?_
             exact fI_ HB.out
            ·rw [if_neg c86] at H
             have c86b0 : (a0_0 == 11) = false := beq_eq_false_iff_ne.mpr c86
             have c86b1 : (a0_0 != 11) = true := bne_iff_ne.mpr c86
             simp only [Option.some.injEq, Prod.mk.injEq] at H
             obtain ⟨rfl, rfl, rfl, rfl, rfl⟩ := H
             have hnb95 := NB227_225.out
             have hnc95 := NB225_227.out
             have hnb96 := NB227_226.out
             have hnc96 := NB226_227.out
             have z_97 := bR5_ BK227.out
             have hnb98 := NB226_225.out
             have hnc98 := NB225_226.out
             have z_99 := bR5_ BK226.out
             go_wp2
             refine bodyPost_ret (results_cell_row rfl _ _ gb226 175 #[.int .i64 a0_0, .int .i64 0, .int .i64 0, .int .i64 0, .int .i64 0] (0, 0) _ rfl (by (with_reducible repeat (first | refine bN_ ?_ _ | refine bD_ ?_ | refine bA_ ?_ _)); refine blk_put (cs := #[.int .i64 a0_0, .int .i64 0, .int .i64 0, .int .i64 0, .int .i64 0]) ?_ 4 _ rfl; refine blk_put (cs := #[.int .i64 a0_0, .int .i64 0, .int .i64 0, .int .i64 0, .int .i64 0]) ?_ 3 _ rfl; refine blk_put (cs := #[.int .i64 a0_0, .int .i64 0, .int .i64 0, .int .i64 0, .int .i64 0]) ?_ 2 _ rfl; refine blk_put (cs := #[.int .i64 a0_0, .int .i64 0, .int .i64 0, .int .i64 0, .int .i64 0]) ?_ 1 _ rfl; refine blk_put (cs := #[.int .i64 0, .int .i64 0, .int .i64 0, .int .i64 0, .int .i64 0]) ?_ 0 _ rfl; exact rW_ BK226.out) Try.underlying175 rfl (by kernel_rfl)) rfl ?_
             exact fI_ HB.out
end Go.Proofs.Ytobachfngmpeiaa.PFnExactMachineNew
namespace Go.Proofs.Ytobachfngmpeiaa.PFnExactMachineNew
open Go.RowKit Go.Proofs.YtobachfngmpeiaaW.PrintWords Go.Proofs.YtobachfngmpeiaaW.PrintLast Go.Proofs.YtobachfngmpeiaaW.PrintMore
attribute [local go_sem] max2_int min2_int max_two min_two max_three min_three max_four min_four   -- for this text's walks alone
set_option linter.unusedVariables false
set_option linter.unusedSimpArgs false
def impl_isCell.f (a0 : Int) : Option (Bool) := (impl_within.f a0 0 23).bind fun t228 => (some t228)
set_option maxHeartbeats 8000000 in
set_option maxRecDepth 100000 in
theorem impl_isCell.calls (a0 : Int) (r : Bool) (w : World) (h : impl_isCell.f a0 = some r) :
  Calls Try.prog 188 #[.int .i64 a0] w fun e w' => e = .returned (.bool r) ∧ Drawn0 w w' := by
 have H : ((impl_within.f a0 0 23).bind fun t228 => (some t228)) = some r := h
 clear h
 replace H := Option.bind_eq_some_iff.mp H
 obtain ⟨t228, A20, H⟩ := H
 replace H : (some t228) = some r := H
 have A2 := aM_ A20
 clear A20
 obtain rfl := Option.some.inj H
 go_enter Try.func188, Try.ntmps188
 go_wp2_with (first | ((with_reducible refine gate_callee (f := 106) rfl ?_); refine gL_ (some 4) Try.func106 #[.int .i64 a0, .int .i64 0, .int .i64 23] ?_; (with_reducible refine (impl_within.calls a0 0 23 t228 _ A2.out).mono ?_); rintro e w' ⟨rfl, ⟨nd, rfl⟩⟩; refine ⟨_, rfl, ?_⟩))
 go_ret
 exact ⟨by first | rfl | (simp; done) | (simp [*]; done), by repeat (first | exact Drawn0.refl _ | apply Drawn0.step)⟩
end Go.Proofs.Ytobachfngmpeiaa.PFnExactMachineNew
