/- A part of the proof that the law FnTexts holds for every input: the words, functions and walks that its row needs, without a condition of their own. -/
import Derived.Test.YtdbobicbbfmepaaDoorZFnTextsa4
import Derived.Test.YtdbobicbbfmepaaDoorZFnTextsa7
import Derived.Test.YtdbobicbbfmepaaDoorZFnTextsa8
import Derived.Test.YtdbobicbbfmepaaDoorZFnTextss
namespace Go.Proofs.YtdbobicbbfmepaaDoor.PFnTexts
open Go.RowKit Go.Proofs.YtdbobicbbfmepaaDoorW.PrintWords Go.Proofs.YtdbobicbbfmepaaDoorW.PrintLast Go.Proofs.YtdbobicbbfmepaaDoorW.PrintMore
attribute [local go_sem] max2_int min2_int max_two min_two max_three min_three max_four min_four   -- for this text's walks alone
set_option linter.unusedVariables false
set_option linter.unusedSimpArgs false
attribute [local go_sem high] eqA25
mutual
def impl_StepOk.j0 : Nat → Int → Int → Int → Int → Int → Int → Int → Option (Bool)
  | 0, _, _, _, _, _, _, _ => none
  | k + 1, x1, x5, x360000, x360001, x360002, x360003, x360004 => (impl_within.f x360000 1 13).bind fun t361 => (if t361 = true then ((impl_stepNamed.f k x360000 x360001 x360002 x360003 x360004).bind fun bt362 => (if (!(x360000 == bt362.1) || (!(x360001 == bt362.2.1) || (!(x360002 == bt362.2.2.1) || (!(x360003 == bt362.2.2.2.1) || (!(x360004 == bt362.2.2.2.2)))))) = true then (impl_StepOk.j1 k x1 true x360000 x360001 x360002 x360003 x360004) else ((impl_within.f x360001 0 7).bind fun t367 => (if t367 = true then ((impl_within.f x360002 x5 7).bind fun t368 => (if t368 = true then ((impl_within.f x360003 0 7).bind fun t369 => (impl_StepOk.j1 k x1 (!t369) x360000 x360001 x360002 x360003 x360004)) else (impl_StepOk.j1 k x1 true x360000 x360001 x360002 x360003 x360004))) else (impl_StepOk.j1 k x1 true x360000 x360001 x360002 x360003 x360004))))) else (impl_StepOk.j1 k x1 true x360000 x360001 x360002 x360003 x360004))
def impl_StepOk.j1 : Nat → Int → Bool → Int → Int → Int → Int → Int → Option (Bool)
  | 0, _, _, _, _, _, _, _ => none
  | k + 1, x1, x37, x360000, x360001, x360002, x360003, x360004 => if x37 = true then (some false) else (if x360000 = 1 then ((impl_within.f x360004 (-1000000000) 1000000000).bind fun t370 => (some t370)) else (if x360000 = 5 then (impl_StepOk.j2 k x1 x360000 (x360000 == 5) x360000 x360001 x360002 x360003 x360004) else (if x360000 = 6 then (impl_StepOk.j2 k x1 x360000 (x360000 == 6) x360000 x360001 x360002 x360003 x360004) else (if x360000 = 7 then (impl_StepOk.j2 k x1 x360000 (x360000 == 7) x360000 x360001 x360002 x360003 x360004) else (impl_StepOk.j2 k x1 x360000 (x360000 == 8) x360000 x360001 x360002 x360003 x360004)))))
def impl_StepOk.j2 : Nat → Int → Int → Bool → Int → Int → Int → Int → Int → Option (Bool)
  | 0, _, _, _, _, _, _, _, _ => none
  | k + 1, x1, x39, x45, x360000, x360001, x360002, x360003, x360004 => if x45 = true then ((impl_isCell.f x360004).bind fun t371 => (some t371)) else (if x39 = 10 then (if x360004 ≥ 0 then (some (decide (x360004 < x1))) else (some false)) else (if x39 = 11 then (if x360004 ≥ 0 then (some (decide (x360004 < x1))) else (some false)) else (some true)))
end
def impl_StepOk.f (k : Nat) (a0_0 : Int) (a0_1 : Int) (a0_2 : Int) (a0_3 : Int) (a0_4 : Int) (a1 : Int) : Option (Bool) := (impl_within.f a0_0 5 7).bind fun t360 => (if t360 = true then (impl_StepOk.j0 k a1 (-1) a0_0 a0_1 a0_2 a0_3 a0_4) else (impl_StepOk.j0 k a1 0 a0_0 a0_1 a0_2 a0_3 a0_4))
def impl_StepOk.T4 : Bool × List (List Nat × List Nat) := (true, [([], []), ([0], [0]), ([1], [1]), ([2], [2]), ([3, 2], [3]), ([4], [4]), ([4], [4]), ([6, 4, 4], [4, 6]), ([5, 7, 4], [4, 5, 7]), ([4, 8], [4, 8]), ([9, 7], [9]), ([10], [10]), ([11, 10], [10, 11]), ([12, 10, 10], [10, 12]), ([13, 10], [10, 13]), ([10, 14], [10, 14]), ([15, 13], [15]), ([16], [16]), ([17, 16], [16, 17]), ([16], [16]), ([18, 19, 16, 16], [16, 18, 19]), ([20, 16], [16, 20]), ([16, 21], [16, 21]), ([22, 20], [22]), ([23], [23]), ([24, 23], [23, 24]), ([25, 23, 23], [23, 25]), ([26, 23], [23, 26]), ([23, 27], [23, 27])])
def impl_StepOk.B4 : List Nat := [0, 1, 3, 7, 15, 31, 31, 95, 255, 511, 1023, 2047, 4095, 8191, 16383, 32767, 65535, 131071, 262143, 131071, 1048575, 2097151, 4194303, 8388607, 16777215, 33554431, 67108863, 134217727, 268435455]
theorem impl_StepOk.tab4 : rtab .any (opsOf Tryd.f19 4) = impl_StepOk.T4 := by kernel_rfl
theorem impl_StepOk.bits4 : waitsOk impl_StepOk.T4.2 impl_StepOk.B4 = true := by kernel_rfl
set_option maxHeartbeats 8000000 in
set_option maxRecDepth 100000 in
theorem impl_StepOk.calls (k : Nat) (a0_0 : Int) (a0_1 : Int) (a0_2 : Int) (a0_3 : Int) (a0_4 : Int) (a1 : Int) (r : Bool) (w : World) (h : impl_StepOk.f k a0_0 a0_1 a0_2 a0_3 a0_4 a1 = some r) :
  Calls Tryd.prog 19 #[.agg #[.int .i64 a0_0, .int .i64 a0_1, .int .i64 a0_2, .int .i64 a0_3, .int .i64 a0_4], .int .i64 a1] w fun e w' => e = .returned (.bool r) ∧ Below w.heap.size w w' := by
 have hu25 := Tryd.underlying25
 have HB := aM_ (Below.refl w.heap.size w)
 have H : ((impl_within.f a0_0 5 7).bind fun t360 => (if t360 = true then (impl_StepOk.j0 k a1 (-1) a0_0 a0_1 a0_2 a0_3 a0_4) else (impl_StepOk.j0 k a1 0 a0_0 a0_1 a0_2 a0_3 a0_4))) = some r := h
 clear h
 replace H := Option.bind_eq_some_iff.mp H
 obtain ⟨t360, A30, H⟩ := H
 replace H : (if t360 = true then (impl_StepOk.j0 k a1 (-1) a0_0 a0_1 a0_2 a0_3 a0_4) else (impl_StepOk.j0 k a1 0 a0_0 a0_1 a0_2 a0_3 a0_4)) = some r := H
 have A3 := aM_ A30
 clear A30
 have HC4 := aM_ H
 clear H
 go_enter Tryd.func19, Tryd.ntmps19
 go_upto_if 8 with (first | ((with_reducible refine gate_dst (N := 2) rfl ?_); refine bX_ 2 (cs := #[.int .i64 a0_0, .int .i64 a0_1, .int .i64 a0_2, .int .i64 a0_3, .int .i64 a0_4]) (t := 25) ?_; intro gb359 hg w5 hbox hb; have n0 := aM_ (sT_ HB.out hb); have n1 := aM_ (hbox); have n2 := aM_ (sZ_ hg HB.out); have n3 := aM_ (sZ_ hg HB.out); clear HB; have HB := n0; have BK359 := n1; have GW359 := n2; have GE359 := n3; clear n0 n1 n2 n3; clear hb hbox hg; obtain ⟨hcz6_0, hcz6_1, hcz6_2, hcz6_3, hcz6_4, hfz6_0, hfz6_1, hfz6_2, hfz6_3, hfz6_4⟩ := bR5_ BK359.out) | ((with_reducible refine gate_callee (f := 51) rfl ?_); refine gL_ (some 8) Tryd.func51 #[.int .i64 a0_0, .int .i64 5, .int .i64 7] ?_; (with_reducible refine (impl_within.calls a0_0 5 7 t360 _ A3.out).mono ?_); rintro e w' ⟨rfl, ⟨nd, rfl⟩⟩; refine ⟨_, rfl, ?_⟩))
 (try simp only [Act.put, List.setIfInBounds_toArray, List.set_cons_zero, List.set_cons_succ])
 go_cut [5] (fun v5 wc => ∃ (kq : Nat) (x5_3 : Int), v5 = .int .i64 x5_3 ∧ Aside0 (impl_StepOk.j0 kq a1 x5_3 a0_0 a0_1 a0_2 a0_3 a0_4 = some r) ∧ Aside0 (kq ≤ k) ∧ Aside0 (wc.heap[gb359]? = some (.cells #[.int .i64 a0_0, .int .i64 a0_1, .int .i64 a0_2, .int .i64 a0_3, .int .i64 a0_4] 25 (0, 0))) ∧ Aside0 (Below w.heap.size w wc))
 case first =>
  have H := HC4.out
  clear HC4
  by_cases c7 : t360 = true
  ·subst c7
   have H1 : (impl_StepOk.j0 k a1 (-1) a0_0 a0_1 a0_2 a0_3 a0_4) = some r := by rw [if_pos rfl] at H; exact H
   clear H
   have H := H1
   clear H1
   have H' := aM_ H
   clear H
   go_wp2
   go_meet
   case rel => exact ⟨_, ((-1)), (by first | rfl | (simp; done) | (simp [*]; done)), H', ⟨by first | omega | exact Nat.le_refl _⟩, ⟨rW_ BK359.out⟩, ⟨gW_ HB.out⟩⟩
  ·replace c7 := Bool.eq_false_iff.mpr c7
   subst c7
   have H1 : (impl_StepOk.j0 k a1 0 a0_0 a0_1 a0_2 a0_3 a0_4) = some r := by rw [if_neg (show ¬ (false = true) by decide)] at H; exact H
   clear H
   have H := H1
   clear H1
   have H' := aM_ H
   clear H
   go_wp2
   go_meet
   case rel => exact ⟨_, (0), (by first | rfl | (simp; done) | (simp [*]; done)), H', ⟨by first | omega | exact Nat.le_refl _⟩, ⟨rW_ BK359.out⟩, ⟨gW_ HB.out⟩⟩
 case rest =>
  clear HC4
  try clear c1
  try clear p2
  try clear c5
  try clear c7
  try clear hcz6_0 hcz6_1 hcz6_2 hcz6_3 hcz6_4 hfz6_0 hfz6_1 hfz6_2 hfz6_3 hfz6_4
  obtain ⟨kq, x5_3, rfl, HA, HJ3, BK359, HB⟩ := hcut
  cases kq with
  | zero => exact absurd HA.out (by simp [impl_StepOk.j0])
  | succ kj3 =>
   have H := HA.out
   clear HA
   simp only [impl_StepOk.j0] at H
   have HC8 := aM_ H
   clear H
   go_upto_region 4 with (fail)
   go_cut [37] (fun v37 wc => ∃ (kq : Nat) (x37_7 : Bool), v37 = .bool x37_7 ∧ Aside0 (impl_StepOk.j1 kq a1 x37_7 a0_0 a0_1 a0_2 a0_3 a0_4 = some r) ∧ Aside0 (kq ≤ kj3) ∧ Aside0 (wc.heap[gb359]? = some (.cells #[.int .i64 a0_0, .int .i64 a0_1, .int .i64 a0_2, .int .i64 a0_3, .int .i64 a0_4] 25 (0, 0))) ∧ Aside0 (Below w.heap.size w wc))
   case first =>
    have H := HC8.out
    clear HC8
    replace H := Option.bind_eq_some_iff.mp H
    obtain ⟨t361, A90, H⟩ := H
    replace H : (if t361 = true then ((impl_stepNamed.f kj3 a0_0 a0_1 a0_2 a0_3 a0_4).bind fun bt362 => (if (!(a0_0 == bt362.1) || (!(a0_1 == bt362.2.1) || (!(a0_2 == bt362.2.2.1) || (!(a0_3 == bt362.2.2.2.1) || (!(a0_4 == bt362.2.2.2.2)))))) = true then (impl_StepOk.j1 kj3 a1 true a0_0 a0_1 a0_2 a0_3 a0_4) else ((impl_within.f a0_1 0 7).bind fun t367 => (if t367 = true then ((impl_within.f a0_2 x5_3 7).bind fun t368 => (if t368 = true then ((impl_within.f a0_3 0 7).bind fun t369 => (impl_StepOk.j1 kj3 a1 (!t369) a0_0 a0_1 a0_2 a0_3 a0_4)) else (impl_StepOk.j1 kj3 a1 true a0_0 a0_1 a0_2 a0_3 a0_4))) else (impl_StepOk.j1 kj3 a1 true a0_0 a0_1 a0_2 a0_3 a0_4))))) else (impl_StepOk.j1 kj3 a1 true a0_0 a0_1 a0_2 a0_3 a0_4)) = some r := H
    have A9 := aM_ A90
    clear A90
    by_cases c10 : t361 = true
    ·subst c10
     have H1 : ((impl_stepNamed.f kj3 a0_0 a0_1 a0_2 a0_3 a0_4).bind fun bt362 => (if (!(a0_0 == bt362.1) || (!(a0_1 == bt362.2.1) || (!(a0_2 == bt362.2.2.1) || (!(a0_3 == bt362.2.2.2.1) || (!(a0_4 == bt362.2.2.2.2)))))) = true then (impl_StepOk.j1 kj3 a1 true a0_0 a0_1 a0_2 a0_3 a0_4) else ((impl_within.f a0_1 0 7).bind fun t367 => (if t367 = true then ((impl_within.f a0_2 x5_3 7).bind fun t368 => (if t368 = true then ((impl_within.f a0_3 0 7).bind fun t369 => (impl_StepOk.j1 kj3 a1 (!t369) a0_0 a0_1 a0_2 a0_3 a0_4)) else (impl_StepOk.j1 kj3 a1 true a0_0 a0_1 a0_2 a0_3 a0_4))) else (impl_StepOk.j1 kj3 a1 true a0_0 a0_1 a0_2 a0_3 a0_4))))) = some r := by rw [if_pos rfl] at H; exact H
     clear H
     have H := H1
     clear H1
     replace H := Option.bind_eq_some_iff.mp H
     obtain ⟨⟨t362, t363, t364, t365, t366⟩, A110, H⟩ := H
     replace H : (if (!(a0_0 == t362) || (!(a0_1 == t363) || (!(a0_2 == t364) || (!(a0_3 == t365) || (!(a0_4 == t366)))))) = true then (impl_StepOk.j1 kj3 a1 true a0_0 a0_1 a0_2 a0_3 a0_4) else ((impl_within.f a0_1 0 7).bind fun t367 => (if t367 = true then ((impl_within.f a0_2 x5_3 7).bind fun t368 => (if t368 = true then ((impl_within.f a0_3 0 7).bind fun t369 => (impl_StepOk.j1 kj3 a1 (!t369) a0_0 a0_1 a0_2 a0_3 a0_4)) else (impl_StepOk.j1 kj3 a1 true a0_0 a0_1 a0_2 a0_3 a0_4))) else (impl_StepOk.j1 kj3 a1 true a0_0 a0_1 a0_2 a0_3 a0_4)))) = some r := H
     have A11 := aM_ A110
     clear A110
     by_cases c12 : (!(a0_0 == t362) || (!(a0_1 == t363) || (!(a0_2 == t364) || (!(a0_3 == t365) || (!(a0_4 == t366)))))) = true
     ·rw [if_pos c12] at H
      have c12b0 : (!(a0_0 == t362) || (!(a0_1 == t363) || (!(a0_2 == t364) || (!(a0_3 == t365) || (!(a0_4 == t366)))))) = true := c12
      clear c12
      (first | rw [c12b0] | (simp only [i64_w, i32_w]; rw [c12b0]) | skip)
      have H' := aM_ H
      clear H
      try go_wp2
      have n0 := aM_ (blk_drew BK359.out)
      have n1 := aM_ (below_drew1 HB.out)
      clear BK359
      clear HB
      have BK359 := n0
      have HB := n1
      clear n0 n1
      refine start_ (n := 29) (S := fun w' => w'.cell? ⟨gb359, 0, none⟩ = some (.int .i64 a0_0) ∧ w'.cell? ⟨gb359, 1, none⟩ = some (.int .i64 a0_1) ∧ w'.cell? ⟨gb359, 2, none⟩ = some (.int .i64 a0_2) ∧ w'.cell? ⟨gb359, 3, none⟩ = some (.int .i64 a0_3) ∧ w'.cell? ⟨gb359, 4, none⟩ = some (.int .i64 a0_4)) (ds := []) (mk_ 29 0) (by kernel_rfl) rfl rfl (bC5_ BK359.out) (fun hHeld => ?_); refine with_tabW impl_StepOk.tab4 impl_StepOk.bits4 (fun HT_ HW_ => ?_)
      generalize wc.drew = w13 at BK359 HB hHeld ⊢
      refine pU_ 0 (some 9) (mk_ 29 1) ?_
      refine tK5_ 1 (some 10) (mk_ 29 3) ?_
      refine oN_ 2 (some 11) (mk_ 29 7) (fun K hK => ?_)
      refine gO_ Tryd.func51 #[.int .i64 a0_0, .int .i64 1, .int .i64 13] ?_
      with_reducible refine (impl_within.calls a0_0 1 13 true _ A9.out).mono ?_
      rintro e w' ⟨rfl, ⟨nd, rfl⟩⟩
      refine ⟨_, rfl, ?_⟩
      refine hK.out _ _ (bC5_ BK359.out) (fun hHeld => ?_)
      clear hK K
      refine norm_ (a' := ?_) ?_ ?_
      rotate_left
      ·show Act.put _ (some 11) _ = _
       simp only [pt_, pn_, sI_, s0_, s1_, i64_w, i32_w]
       rfl
      refine pU_ 3 (some 12) (mk_ 29 15) ?_
      refine pU_ 4 (some 13) (mk_ 29 31) ?_
      refine tK5_ 5 (some 14) (mk_ 29 63) ?_
      refine tK5_ 6 (some 15) (mk_ 29 127) ?_
      refine oN_ 7 (some 16) (mk_ 29 255) (fun K hK => ?_)
      refine gO_ Tryd.func52 #[.agg #[.int .i64 a0_0, .int .i64 a0_1, .int .i64 a0_2, .int .i64 a0_3, .int .i64 a0_4]] ?_
      with_reducible refine (impl_stepNamed.calls kj3 a0_0 a0_1 a0_2 a0_3 a0_4 t362 t363 t364 t365 t366 _ A11.out).mono ?_
      rintro e w14 ⟨rfl, hb⟩
      refine ⟨_, rfl, ?_⟩
      have n0 := aM_ (nB_ BK359.out hb)
      have n1 := aM_ (sT_ HB.out hb)
      clear BK359
      clear HB
      have BK359 := n0
      have HB := n1
      clear n0 n1
      (try clear hb)
      (try clear hb2)
      (try clear hk)
      (try clear hi)
      refine hK.out _ _ (bC5_ BK359.out) (fun hHeld => ?_)
      clear hK K
      refine norm_ (a' := ?_) ?_ ?_
      rotate_left
      ·show Act.put _ (some 16) _ = _
       simp only [pt_, pn_, sI_, s0_, s1_, i64_w, i32_w]
       rfl
      refine pU_ 8 (some 17) (mk_ 29 511) ?_
      refine pU_ 9 (some 18) (mk_ 29 1023) ?_
      refine pU_ 10 (some 19) (mk_ 29 2047) ?_
      refine pX_ 11 (some 20) (mk_ 29 4095) ?_
      refine pX_ 12 (some 21) (mk_ 29 8191) ?_
      refine pX_ 13 (some 22) (mk_ 29 16383) ?_
      refine pX_ 14 (some 23) (mk_ 29 32767) ?_
      refine pU_ 15 (some 24) (mk_ 29 65535) ?_
      refine pU_ 16 (some 25) (mk_ 29 131071) ?_
      refine pX_ 17 (some 26) (mk_ 29 262143) ?_
      refine pX_ 18 (some 27) (mk_ 29 524287) ?_
      refine pX_ 19 (some 28) (mk_ 29 1048575) ?_
      refine pX_ 20 (some 29) (mk_ 29 2097151) ?_
      refine pX_ 21 (some 30) (mk_ 29 4194303) ?_
      refine pU_ 22 (some 31) (mk_ 29 8388607) ?_
      refine pU_ 23 (some 32) (mk_ 29 16777215) ?_
      refine pX_ 24 (some 33) (mk_ 29 33554431) ?_
      refine pX_ 25 (some 34) (mk_ 29 67108863) ?_
      refine pX_ 26 (some 35) (mk_ 29 134217727) ?_
      refine pX_ 27 (some 36) (mk_ 29 268435455) ?_
      refine pU_ 28 (some 37) (mk_ 29 536870911) ?_
      refine done_ (done_of HT_.out (by kernel_rfl)) ?_
      try go_wp2
      go_meet
      case rel => exact ⟨_, (true), (by first | rfl | (simp; done) | (simp [*]; done)), H', ⟨by have := HJ3.out; first | omega | exact Nat.le_refl _⟩, ⟨rW_ BK359.out⟩, ⟨gW_ HB.out⟩⟩
     ·rw [if_neg c12] at H
      have c12b0 : (!(a0_0 == t362) || (!(a0_1 == t363) || (!(a0_2 == t364) || (!(a0_3 == t365) || (!(a0_4 == t366)))))) = false := by simpa using c12
      clear c12
      (first | rw [c12b0] | (simp only [i64_w, i32_w]; rw [c12b0]) | skip)
      replace H := Option.bind_eq_some_iff.mp H
      obtain ⟨t367, A150, H⟩ := H
      replace H : (if t367 = true then ((impl_within.f a0_2 x5_3 7).bind fun t368 => (if t368 = true then ((impl_within.f a0_3 0 7).bind fun t369 => (impl_StepOk.j1 kj3 a1 (!t369) a0_0 a0_1 a0_2 a0_3 a0_4)) else (impl_StepOk.j1 kj3 a1 true a0_0 a0_1 a0_2 a0_3 a0_4))) else (impl_StepOk.j1 kj3 a1 true a0_0 a0_1 a0_2 a0_3 a0_4)) = some r := H
      have A15 := aM_ A150
      clear A150
      by_cases c16 : t367 = true
      ·subst c16
       have H1 : ((impl_within.f a0_2 x5_3 7).bind fun t368 => (if t368 = true then ((impl_within.f a0_3 0 7).bind fun t369 => (impl_StepOk.j1 kj3 a1 (!t369) a0_0 a0_1 a0_2 a0_3 a0_4)) else (impl_StepOk.j1 kj3 a1 true a0_0 a0_1 a0_2 a0_3 a0_4))) = some r := by rw [if_pos rfl] at H; exact H
       clear H
       have H := H1
       clear H1
       replace H := Option.bind_eq_some_iff.mp H
       obtain ⟨t368, A170, H⟩ := H
       replace H : (if t368 = true then ((impl_within.f a0_3 0 7).bind fun t369 => (impl_StepOk.j1 kj3 a1 (!t369) a0_0 a0_1 a0_2 a0_3 a0_4)) else (impl_StepOk.j1 kj3 a1 true a0_0 a0_1 a0_2 a0_3 a0_4)) = some r := H
       have A17 := aM_ A170
       clear A170
       by_cases c18 : t368 = true
       ·subst c18
        have H1 : ((impl_within.f a0_3 0 7).bind fun t369 => (impl_StepOk.j1 kj3 a1 (!t369) a0_0 a0_1 a0_2 a0_3 a0_4)) = some r := by rw [if_pos rfl] at H; exact H
        clear H
        have H := H1
        clear H1
        replace H := Option.bind_eq_some_iff.mp H
        obtain ⟨t369, A190, H⟩ := H
        replace H : (impl_StepOk.j1 kj3 a1 (!t369) a0_0 a0_1 a0_2 a0_3 a0_4) = some r := H
        have A19 := aM_ A190
        clear A190
        have H' := aM_ H
        clear H
        try go_wp2
        have n0 := aM_ (blk_drew BK359.out)
        have n1 := aM_ (below_drew1 HB.out)
        clear BK359
        clear HB
        have BK359 := n0
        have HB := n1
        clear n0 n1
        refine start_ (n := 29) (S := fun w' => w'.cell? ⟨gb359, 0, none⟩ = some (.int .i64 a0_0) ∧ w'.cell? ⟨gb359, 1, none⟩ = some (.int .i64 a0_1) ∧ w'.cell? ⟨gb359, 2, none⟩ = some (.int .i64 a0_2) ∧ w'.cell? ⟨gb359, 3, none⟩ = some (.int .i64 a0_3) ∧ w'.cell? ⟨gb359, 4, none⟩ = some (.int .i64 a0_4)) (ds := []) (mk_ 29 0) (by kernel_rfl) rfl rfl (bC5_ BK359.out) (fun hHeld => ?_); refine with_tabW impl_StepOk.tab4 impl_StepOk.bits4 (fun HT_ HW_ => ?_)
        generalize wc.drew = w20 at BK359 HB hHeld ⊢
        refine pU_ 0 (some 9) (mk_ 29 1) ?_
        refine tK5_ 1 (some 10) (mk_ 29 3) ?_
        refine oN_ 2 (some 11) (mk_ 29 7) (fun K hK => ?_)
        refine gO_ Tryd.func51 #[.int .i64 a0_0, .int .i64 1, .int .i64 13] ?_
        with_reducible refine (impl_within.calls a0_0 1 13 true _ A9.out).mono ?_
        rintro e w' ⟨rfl, ⟨nd, rfl⟩⟩
        refine ⟨_, rfl, ?_⟩
        refine hK.out _ _ (bC5_ BK359.out) (fun hHeld => ?_)
        clear hK K
        refine norm_ (a' := ?_) ?_ ?_
        rotate_left
        ·show Act.put _ (some 11) _ = _
         simp only [pt_, pn_, sI_, s0_, s1_, i64_w, i32_w]
         rfl
        refine pU_ 3 (some 12) (mk_ 29 15) ?_
        refine pU_ 4 (some 13) (mk_ 29 31) ?_
        refine tK5_ 5 (some 14) (mk_ 29 63) ?_
        refine tK5_ 6 (some 15) (mk_ 29 127) ?_
        refine oN_ 7 (some 16) (mk_ 29 255) (fun K hK => ?_)
        refine gO_ Tryd.func52 #[.agg #[.int .i64 a0_0, .int .i64 a0_1, .int .i64 a0_2, .int .i64 a0_3, .int .i64 a0_4]] ?_
        with_reducible refine (impl_stepNamed.calls kj3 a0_0 a0_1 a0_2 a0_3 a0_4 t362 t363 t364 t365 t366 _ A11.out).mono ?_
        rintro e w21 ⟨rfl, hb⟩
        refine ⟨_, rfl, ?_⟩
        have n0 := aM_ (nB_ BK359.out hb)
        have n1 := aM_ (sT_ HB.out hb)
        clear BK359
        clear HB
        have BK359 := n0
        have HB := n1
        clear n0 n1
        (try clear hb)
        (try clear hb2)
        (try clear hk)
        (try clear hi)
        refine hK.out _ _ (bC5_ BK359.out) (fun hHeld => ?_)
        clear hK K
        refine norm_ (a' := ?_) ?_ ?_
        rotate_left
        ·show Act.put _ (some 16) _ = _
         simp only [pt_, pn_, sI_, s0_, s1_, i64_w, i32_w]
         rfl
        refine pU_ 8 (some 17) (mk_ 29 511) ?_
        refine pU_ 9 (some 18) (mk_ 29 1023) ?_
        refine pU_ 10 (some 19) (mk_ 29 2047) ?_
        refine pU_ 11 (some 20) (mk_ 29 4095) ?_
        refine tK5_ 12 (some 21) (mk_ 29 8191) ?_
        refine oN_ 13 (some 22) (mk_ 29 16383) (fun K hK => ?_)
        refine gO_ Tryd.func51 #[.int .i64 a0_1, .int .i64 0, .int .i64 7] ?_
        with_reducible refine (impl_within.calls a0_1 0 7 true _ A15.out).mono ?_
        rintro e w' ⟨rfl, ⟨nd, rfl⟩⟩
        refine ⟨_, rfl, ?_⟩
        refine hK.out _ _ (bC5_ BK359.out) (fun hHeld => ?_)
        clear hK K
        refine norm_ (a' := ?_) ?_ ?_
        rotate_left
        ·show Act.put _ (some 22) _ = _
         simp only [pt_, pn_, sI_, s0_, s1_, i64_w, i32_w]
         rfl
        refine pU_ 14 (some 23) (mk_ 29 32767) ?_
        refine pU_ 15 (some 24) (mk_ 29 65535) ?_
        refine pU_ 16 (some 25) (mk_ 29 131071) ?_
        refine pU_ 17 (some 26) (mk_ 29 262143) ?_
        refine pU_ 19 (some 28) (mk_ 29 786431) ?_
        refine tK5_ 18 (some 27) (mk_ 29 1048575) ?_
        refine oN_ 20 (some 29) (mk_ 29 2097151) (fun K hK => ?_)
        refine gO_ Tryd.func51 #[.int .i64 a0_2, .int .i64 x5_3, .int .i64 7] ?_
        with_reducible refine (impl_within.calls a0_2 x5_3 7 true _ A17.out).mono ?_
        rintro e w' ⟨rfl, ⟨nd, rfl⟩⟩
        refine ⟨_, rfl, ?_⟩
        refine hK.out _ _ (bC5_ BK359.out) (fun hHeld => ?_)
        clear hK K
        refine norm_ (a' := ?_) ?_ ?_
        rotate_left
        ·show Act.put _ (some 29) _ = _
         simp only [pt_, pn_, sI_, s0_, s1_, i64_w, i32_w]
         rfl
        refine pU_ 21 (some 30) (mk_ 29 4194303) ?_
        refine pU_ 22 (some 31) (mk_ 29 8388607) ?_
        refine pU_ 23 (some 32) (mk_ 29 16777215) ?_
        refine pU_ 24 (some 33) (mk_ 29 33554431) ?_
        refine tK5_ 25 (some 34) (mk_ 29 67108863) ?_
        refine oN_ 26 (some 35) (mk_ 29 134217727) (fun K hK => ?_)
        refine gO_ Tryd.func51 #[.int .i64 a0_3, .int .i64 0, .int .i64 7] ?_
        with_reducible refine (impl_within.calls a0_3 0 7 t369 _ A19.out).mono ?_
        rintro e w' ⟨rfl, ⟨nd, rfl⟩⟩
        refine ⟨_, rfl, ?_⟩
        refine hK.out _ _ (bC5_ BK359.out) (fun hHeld => ?_)
        clear hK K
        refine norm_ (a' := ?_) ?_ ?_
        rotate_left
        ·show Act.put _ (some 35) _ = _
         simp only [pt_, pn_, sI_, s0_, s1_, i64_w, i32_w]
         rfl
        refine pU_ 27 (some 36) (mk_ 29 268435455) ?_
        refine pU_ 28 (some 37) (mk_ 29 536870911) ?_
        refine done_ (done_of HT_.out (by kernel_rfl)) ?_
        try go_wp2
        go_meet
        case rel => exact ⟨_, (!t369), (by first | rfl | (simp; done) | (simp [*]; done)), H', ⟨by have := HJ3.out; first | omega | exact Nat.le_refl _⟩, ⟨rW_ BK359.out⟩, ⟨gW_ HB.out⟩⟩
       ·replace c18 := Bool.eq_false_iff.mpr c18
        subst c18
        have H1 : (impl_StepOk.j1 kj3 a1 true a0_0 a0_1 a0_2 a0_3 a0_4) = some r := by rw [if_neg (show ¬ (false = true) by decide)] at H; exact H
        clear H
        have H := H1
        clear H1
        have H' := aM_ H
        clear H
        try go_wp2
        have n0 := aM_ (blk_drew BK359.out)
        have n1 := aM_ (below_drew1 HB.out)
        clear BK359
        clear HB
        have BK359 := n0
        have HB := n1
        clear n0 n1
        refine start_ (n := 29) (S := fun w' => w'.cell? ⟨gb359, 0, none⟩ = some (.int .i64 a0_0) ∧ w'.cell? ⟨gb359, 1, none⟩ = some (.int .i64 a0_1) ∧ w'.cell? ⟨gb359, 2, none⟩ = some (.int .i64 a0_2) ∧ w'.cell? ⟨gb359, 3, none⟩ = some (.int .i64 a0_3) ∧ w'.cell? ⟨gb359, 4, none⟩ = some (.int .i64 a0_4)) (ds := []) (mk_ 29 0) (by kernel_rfl) rfl rfl (bC5_ BK359.out) (fun hHeld => ?_); refine with_tabW impl_StepOk.tab4 impl_StepOk.bits4 (fun HT_ HW_ => ?_)
        generalize wc.drew = w22 at BK359 HB hHeld ⊢
        refine pU_ 0 (some 9) (mk_ 29 1) ?_
        refine tK5_ 1 (some 10) (mk_ 29 3) ?_
        refine oN_ 2 (some 11) (mk_ 29 7) (fun K hK => ?_)
        refine gO_ Tryd.func51 #[.int .i64 a0_0, .int .i64 1, .int .i64 13] ?_
        with_reducible refine (impl_within.calls a0_0 1 13 true _ A9.out).mono ?_
        rintro e w' ⟨rfl, ⟨nd, rfl⟩⟩
        refine ⟨_, rfl, ?_⟩
        refine hK.out _ _ (bC5_ BK359.out) (fun hHeld => ?_)
        clear hK K
        refine norm_ (a' := ?_) ?_ ?_
        rotate_left
        ·show Act.put _ (some 11) _ = _
         simp only [pt_, pn_, sI_, s0_, s1_, i64_w, i32_w]
         rfl
        refine pU_ 3 (some 12) (mk_ 29 15) ?_
        refine pU_ 4 (some 13) (mk_ 29 31) ?_
        refine tK5_ 5 (some 14) (mk_ 29 63) ?_
        refine tK5_ 6 (some 15) (mk_ 29 127) ?_
        refine oN_ 7 (some 16) (mk_ 29 255) (fun K hK => ?_)
        refine gO_ Tryd.func52 #[.agg #[.int .i64 a0_0, .int .i64 a0_1, .int .i64 a0_2, .int .i64 a0_3, .int .i64 a0_4]] ?_
        with_reducible refine (impl_stepNamed.calls kj3 a0_0 a0_1 a0_2 a0_3 a0_4 t362 t363 t364 t365 t366 _ A11.out).mono ?_
        rintro e w23 ⟨rfl, hb⟩
        refine ⟨_, rfl, ?_⟩
        have n0 := aM_ (nB_ BK359.out hb)
        have n1 := aM_ (sT_ HB.out hb)
        clear BK359
        clear HB
        have BK359 := n0
        have HB := n1
        clear n0 n1
        (try clear hb)
        (try clear hb2)
        (try clear hk)
        (try clear hi)
        refine hK.out _ _ (bC5_ BK359.out) (fun hHeld => ?_)
        clear hK K
        refine norm_ (a' := ?_) ?_ ?_
        rotate_left
        ·show Act.put _ (some 16) _ = _
         simp only [pt_, pn_, sI_, s0_, s1_, i64_w, i32_w]
         rfl
        refine pU_ 8 (some 17) (mk_ 29 511) ?_
        refine pU_ 9 (some 18) (mk_ 29 1023) ?_
        refine pU_ 10 (some 19) (mk_ 29 2047) ?_
        refine pU_ 11 (some 20) (mk_ 29 4095) ?_
        refine tK5_ 12 (some 21) (mk_ 29 8191) ?_
        refine oN_ 13 (some 22) (mk_ 29 16383) (fun K hK => ?_)
        refine gO_ Tryd.func51 #[.int .i64 a0_1, .int .i64 0, .int .i64 7] ?_
        with_reducible refine (impl_within.calls a0_1 0 7 true _ A15.out).mono ?_
        rintro e w' ⟨rfl, ⟨nd, rfl⟩⟩
        refine ⟨_, rfl, ?_⟩
        refine hK.out _ _ (bC5_ BK359.out) (fun hHeld => ?_)
        clear hK K
        refine norm_ (a' := ?_) ?_ ?_
        rotate_left
        ·show Act.put _ (some 22) _ = _
         simp only [pt_, pn_, sI_, s0_, s1_, i64_w, i32_w]
         rfl
        refine pU_ 14 (some 23) (mk_ 29 32767) ?_
        refine pU_ 15 (some 24) (mk_ 29 65535) ?_
        refine pU_ 16 (some 25) (mk_ 29 131071) ?_
        refine pU_ 17 (some 26) (mk_ 29 262143) ?_
        refine pU_ 19 (some 28) (mk_ 29 786431) ?_
        refine tK5_ 18 (some 27) (mk_ 29 1048575) ?_
        refine oN_ 20 (some 29) (mk_ 29 2097151) (fun K hK => ?_)
        refine gO_ Tryd.func51 #[.int .i64 a0_2, .int .i64 x5_3, .int .i64 7] ?_
        with_reducible refine (impl_within.calls a0_2 x5_3 7 false _ A17.out).mono ?_
        rintro e w' ⟨rfl, ⟨nd, rfl⟩⟩
        refine ⟨_, rfl, ?_⟩
        refine hK.out _ _ (bC5_ BK359.out) (fun hHeld => ?_)
        clear hK K
        refine norm_ (a' := ?_) ?_ ?_
        rotate_left
        ·show Act.put _ (some 29) _ = _
         simp only [pt_, pn_, sI_, s0_, s1_, i64_w, i32_w]
         rfl
        refine pU_ 21 (some 30) (mk_ 29 4194303) ?_
        refine pU_ 22 (some 31) (mk_ 29 8388607) ?_
        refine pU_ 23 (some 32) (mk_ 29 16777215) ?_
        refine pX_ 24 (some 33) (mk_ 29 33554431) ?_
        refine pX_ 25 (some 34) (mk_ 29 67108863) ?_
        refine pX_ 26 (some 35) (mk_ 29 134217727) ?_
        refine pX_ 27 (some 36) (mk_ 29 268435455) ?_
        refine pU_ 28 (some 37) (mk_ 29 536870911) ?_
        refine done_ (done_of HT_.out (by kernel_rfl)) ?_
        try go_wp2
        go_meet
        case rel => exact ⟨_, (true), (by first | rfl | (simp; done) | (simp [*]; done)), H', ⟨by have := HJ3.out; first | omega | exact Nat.le_refl _⟩, ⟨rW_ BK359.out⟩, ⟨gW_ HB.out⟩⟩
      ·replace c16 := Bool.eq_false_iff.mpr c16
       subst c16
       have H1 : (impl_StepOk.j1 kj3 a1 true a0_0 a0_1 a0_2 a0_3 a0_4) = some r := by rw [if_neg (show ¬ (false = true) by decide)] at H; exact H
       clear H
       have H := H1
       clear H1
       have H' := aM_ H
       clear H
       try go_wp2
       have n0 := aM_ (blk_drew BK359.out)
       have n1 := aM_ (below_drew1 HB.out)
       clear BK359
       clear HB
       have BK359 := n0
       have HB := n1
       clear n0 n1
       refine start_ (n := 29) (S := fun w' => w'.cell? ⟨gb359, 0, none⟩ = some (.int .i64 a0_0) ∧ w'.cell? ⟨gb359, 1, none⟩ = some (.int .i64 a0_1) ∧ w'.cell? ⟨gb359, 2, none⟩ = some (.int .i64 a0_2) ∧ w'.cell? ⟨gb359, 3, none⟩ = some (.int .i64 a0_3) ∧ w'.cell? ⟨gb359, 4, none⟩ = some (.int .i64 a0_4)) (ds := []) (mk_ 29 0) (by kernel_rfl) rfl rfl (bC5_ BK359.out) (fun hHeld => ?_); refine with_tabW impl_StepOk.tab4 impl_StepOk.bits4 (fun HT_ HW_ => ?_)
       generalize wc.drew = w24 at BK359 HB hHeld ⊢
       refine pU_ 0 (some 9) (mk_ 29 1) ?_
       refine tK5_ 1 (some 10) (mk_ 29 3) ?_
       refine oN_ 2 (some 11) (mk_ 29 7) (fun K hK => ?_)
       refine gO_ Tryd.func51 #[.int .i64 a0_0, .int .i64 1, .int .i64 13] ?_
       with_reducible refine (impl_within.calls a0_0 1 13 true _ A9.out).mono ?_
       rintro e w' ⟨rfl, ⟨nd, rfl⟩⟩
       refine ⟨_, rfl, ?_⟩
       refine hK.out _ _ (bC5_ BK359.out) (fun hHeld => ?_)
       clear hK K
       refine norm_ (a' := ?_) ?_ ?_
       rotate_left
       ·show Act.put _ (some 11) _ = _
        simp only [pt_, pn_, sI_, s0_, s1_, i64_w, i32_w]
        rfl
       refine pU_ 3 (some 12) (mk_ 29 15) ?_
       refine pU_ 4 (some 13) (mk_ 29 31) ?_
       refine tK5_ 5 (some 14) (mk_ 29 63) ?_
       refine tK5_ 6 (some 15) (mk_ 29 127) ?_
       refine oN_ 7 (some 16) (mk_ 29 255) (fun K hK => ?_)
       refine gO_ Tryd.func52 #[.agg #[.int .i64 a0_0, .int .i64 a0_1, .int .i64 a0_2, .int .i64 a0_3, .int .i64 a0_4]] ?_
       with_reducible refine (impl_stepNamed.calls kj3 a0_0 a0_1 a0_2 a0_3 a0_4 t362 t363 t364 t365 t366 _ A11.out).mono ?_
       rintro e w25 ⟨rfl, hb⟩
       refine ⟨_, rfl, ?_⟩
       have n0 := aM_ (nB_ BK359.out hb)
       have n1 := aM_ (sT_ HB.out hb)
       clear BK359
       clear HB
       have BK359 := n0
       have HB := n1
       clear n0 n1
       (try clear hb)
       (try clear hb2)
       (try clear hk)
       (try clear hi)
       refine hK.out _ _ (bC5_ BK359.out) (fun hHeld => ?_)
       clear hK K
       refine norm_ (a' := ?_) ?_ ?_
       rotate_left
       ·show Act.put _ (some 16) _ = _
        simp only [pt_, pn_, sI_, s0_, s1_, i64_w, i32_w]
        rfl
       refine pU_ 8 (some 17) (mk_ 29 511) ?_
       refine pU_ 9 (some 18) (mk_ 29 1023) ?_
       refine pU_ 10 (some 19) (mk_ 29 2047) ?_
       refine pU_ 11 (some 20) (mk_ 29 4095) ?_
       refine tK5_ 12 (some 21) (mk_ 29 8191) ?_
       refine oN_ 13 (some 22) (mk_ 29 16383) (fun K hK => ?_)
       refine gO_ Tryd.func51 #[.int .i64 a0_1, .int .i64 0, .int .i64 7] ?_
       with_reducible refine (impl_within.calls a0_1 0 7 false _ A15.out).mono ?_
       rintro e w' ⟨rfl, ⟨nd, rfl⟩⟩
       refine ⟨_, rfl, ?_⟩
       refine hK.out _ _ (bC5_ BK359.out) (fun hHeld => ?_)
       clear hK K
       refine norm_ (a' := ?_) ?_ ?_
       rotate_left
       ·show Act.put _ (some 22) _ = _
        simp only [pt_, pn_, sI_, s0_, s1_, i64_w, i32_w]
        rfl
       refine pU_ 14 (some 23) (mk_ 29 32767) ?_
       refine pU_ 15 (some 24) (mk_ 29 65535) ?_
       refine pU_ 16 (some 25) (mk_ 29 131071) ?_
       refine pX_ 17 (some 26) (mk_ 29 262143) ?_
       refine pX_ 18 (some 27) (mk_ 29 524287) ?_
       refine pX_ 19 (some 28) (mk_ 29 1048575) ?_
       refine pX_ 20 (some 29) (mk_ 29 2097151) ?_
       refine pX_ 21 (some 30) (mk_ 29 4194303) ?_
       refine pU_ 22 (some 31) (mk_ 29 8388607) ?_
       refine pU_ 23 (some 32) (mk_ 29 16777215) ?_
       refine pX_ 24 (some 33) (mk_ 29 33554431) ?_
       refine pX_ 25 (some 34) (mk_ 29 67108863) ?_
       refine pX_ 26 (some 35) (mk_ 29 134217727) ?_
       refine pX_ 27 (some 36) (mk_ 29 268435455) ?_
       refine pU_ 28 (some 37) (mk_ 29 536870911) ?_
       refine done_ (done_of HT_.out (by kernel_rfl)) ?_
       try go_wp2
       go_meet
       case rel => exact ⟨_, (true), (by first | rfl | (simp; done) | (simp [*]; done)), H', ⟨by have := HJ3.out; first | omega | exact Nat.le_refl _⟩, ⟨rW_ BK359.out⟩, ⟨gW_ HB.out⟩⟩
    ·replace c10 := Bool.eq_false_iff.mpr c10
     subst c10
     have H1 : (impl_StepOk.j1 kj3 a1 true a0_0 a0_1 a0_2 a0_3 a0_4) = some r := by rw [if_neg (show ¬ (false = true) by decide)] at H; exact H
     clear H
     have H := H1
     clear H1
     have H' := aM_ H
     clear H
     try go_wp2
     have n0 := aM_ (blk_drew BK359.out)
     have n1 := aM_ (below_drew1 HB.out)
     clear BK359
     clear HB
     have BK359 := n0
     have HB := n1
     clear n0 n1
     refine start_ (n := 29) (S := fun w' => w'.cell? ⟨gb359, 0, none⟩ = some (.int .i64 a0_0) ∧ w'.cell? ⟨gb359, 1, none⟩ = some (.int .i64 a0_1) ∧ w'.cell? ⟨gb359, 2, none⟩ = some (.int .i64 a0_2) ∧ w'.cell? ⟨gb359, 3, none⟩ = some (.int .i64 a0_3) ∧ w'.cell? ⟨gb359, 4, none⟩ = some (.int .i64 a0_4)) (ds := []) (mk_ 29 0) (by kernel_rfl) rfl rfl (bC5_ BK359.out) (fun hHeld => ?_); refine with_tabW impl_StepOk.tab4 impl_StepOk.bits4 (fun HT_ HW_ => ?_)
     generalize wc.drew = w26 at BK359 HB hHeld ⊢
     refine pU_ 0 (some 9) (mk_ 29 1) ?_
     refine tK5_ 1 (some 10) (mk_ 29 3) ?_
     refine oN_ 2 (some 11) (mk_ 29 7) (fun K hK => ?_)
     refine gO_ Tryd.func51 #[.int .i64 a0_0, .int .i64 1, .int .i64 13] ?_
     with_reducible refine (impl_within.calls a0_0 1 13 false _ A9.out).mono ?_
     rintro e w' ⟨rfl, ⟨nd, rfl⟩⟩
     refine ⟨_, rfl, ?_⟩
     refine hK.out _ _ (bC5_ BK359.out) (fun hHeld => ?_)
     clear hK K
     refine norm_ (a' := ?_) ?_ ?_
     rotate_left
     ·show Act.put _ (some 11) _ = _
      simp only [pt_, pn_, sI_, s0_, s1_, i64_w, i32_w]
      rfl
     refine pU_ 3 (some 12) (mk_ 29 15) ?_
     refine pU_ 4 (some 13) (mk_ 29 31) ?_
     refine pX_ 5 (some 14) (mk_ 29 63) ?_
     refine pX_ 6 (some 15) (mk_ 29 127) ?_
     refine pX_ 7 (some 16) (mk_ 29 255) ?_
     refine pX_ 8 (some 17) (mk_ 29 511) ?_
     refine pU_ 9 (some 18) (mk_ 29 1023) ?_
     refine pU_ 10 (some 19) (mk_ 29 2047) ?_
     refine pX_ 11 (some 20) (mk_ 29 4095) ?_
     refine pX_ 12 (some 21) (mk_ 29 8191) ?_
     refine pX_ 13 (some 22) (mk_ 29 16383) ?_
     refine pX_ 14 (some 23) (mk_ 29 32767) ?_
     refine pU_ 15 (some 24) (mk_ 29 65535) ?_
     refine pU_ 16 (some 25) (mk_ 29 131071) ?_
     refine pX_ 17 (some 26) (mk_ 29 262143) ?_
     refine pX_ 18 (some 27) (mk_ 29 524287) ?_
     refine pX_ 19 (some 28) (mk_ 29 1048575) ?_
     refine pX_ 20 (some 29) (mk_ 29 2097151) ?_
     refine pX_ 21 (some 30) (mk_ 29 4194303) ?_
     refine pU_ 22 (some 31) (mk_ 29 8388607) ?_
     refine pU_ 23 (some 32) (mk_ 29 16777215) ?_
     refine pX_ 24 (some 33) (mk_ 29 33554431) ?_
     refine pX_ 25 (some 34) (mk_ 29 67108863) ?_
     refine pX_ 26 (some 35) (mk_ 29 134217727) ?_
     refine pX_ 27 (some 36) (mk_ 29 268435455) ?_
     refine pU_ 28 (some 37) (mk_ 29 536870911) ?_
     refine done_ (done_of HT_.out (by kernel_rfl)) ?_
     try go_wp2
     go_meet
     case rel => exact ⟨_, (true), (by first | rfl | (simp; done) | (simp [*]; done)), H', ⟨by have := HJ3.out; first | omega | exact Nat.le_refl _⟩, ⟨rW_ BK359.out⟩, ⟨gW_ HB.out⟩⟩
   case rest =>
    clear HC8
    try clear c1
    try clear p2
    try clear c5
    try clear c10
    try clear c16
    obtain ⟨kq, x37_7, rfl, HA, HJ7, BK359, HB⟩ := hcut
    cases kq with
    | zero => exact absurd HA.out (by simp [impl_StepOk.j1])
    | succ kj7 =>
     have H := HA.out
     clear HA
     simp only [impl_StepOk.j1] at H
     by_cases c27 : x37_7 = true
     ·subst c27
      have H1 : (some false) = some r := by rw [if_pos rfl] at H; exact H
      clear H
      have H := H1
      clear H1
      obtain rfl := Option.some.inj H
      go_wp2
      go_ret
      exact fI_ HB.out
     ·replace c27 := Bool.eq_false_iff.mpr c27
      subst c27
      have H1 : (if a0_0 = 1 then ((impl_within.f a0_4 (-1000000000) 1000000000).bind fun t370 => (some t370)) else (if a0_0 = 5 then (impl_StepOk.j2 kj7 a1 a0_0 (a0_0 == 5) a0_0 a0_1 a0_2 a0_3 a0_4) else (if a0_0 = 6 then (impl_StepOk.j2 kj7 a1 a0_0 (a0_0 == 6) a0_0 a0_1 a0_2 a0_3 a0_4) else (if a0_0 = 7 then (impl_StepOk.j2 kj7 a1 a0_0 (a0_0 == 7) a0_0 a0_1 a0_2 a0_3 a0_4) else (impl_StepOk.j2 kj7 a1 a0_0 (a0_0 == 8) a0_0 a0_1 a0_2 a0_3 a0_4))))) = some r := by rw [if_neg (show ¬ (false = true) by decide)] at H; exact H
      clear H
      have H := H1
      clear H1
      by_cases c28 : a0_0 = 1
      ·rw [if_pos c28] at H
       have c28b0 : (a0_0 == 1) = true := beq_iff_eq.mpr c28
       have c28b1 : (a0_0 != 1) = false := bne_eq_false_iff_eq.mpr c28
       clear c28
       replace H := Option.bind_eq_some_iff.mp H
       obtain ⟨t370, A290, H⟩ := H
       replace H : (some t370) = some r := H
       have A29 := aM_ A290
       clear A290
       obtain rfl := Option.some.inj H
       obtain ⟨hcz30_0, hcz30_1, hcz30_2, hcz30_3, hcz30_4, hfz30_0, hfz30_1, hfz30_2, hfz30_3, hfz30_4⟩ := bR5_ BK359.out
       go_wp2_with (first | ((with_reducible refine gate_callee (f := 51) rfl ?_); refine gL_ (some 44) Tryd.func51 #[.int .i64 a0_4, .int .i64 (-1000000000), .int .i64 1000000000] ?_; (with_reducible refine (impl_within.calls a0_4 (-1000000000) 1000000000 t370 _ A29.out).mono ?_); rintro e w' ⟨rfl, ⟨nd, rfl⟩⟩; refine ⟨_, rfl, ?_⟩))
       go_ret
       exact fI_ HB.out
      ·rw [if_neg c28] at H
       have c28b0 : (a0_0 == 1) = false := beq_eq_false_iff_ne.mpr c28
       have c28b1 : (a0_0 != 1) = true := bne_iff_ne.mpr c28
       have HC31 := aM_ H
       clear H
       obtain ⟨hcz32_0, hcz32_1, hcz32_2, hcz32_3, hcz32_4, hfz32_0, hfz32_1, hfz32_2, hfz32_3, hfz32_4⟩ := bR5_ BK359.out
       go_upto_if 45 with (fail)
       go_cut [45] (fun v45 wc => ∃ (kq : Nat) (x45_30 : Bool), v45 = .bool x45_30 ∧ Aside0 (impl_StepOk.j2 kq a1 a0_0 x45_30 a0_0 a0_1 a0_2 a0_3 a0_4 = some r) ∧ Aside0 (kq ≤ kj7) ∧ Aside0 (wc.heap[gb359]? = some (.cells #[.int .i64 a0_0, .int .i64 a0_1, .int .i64 a0_2, .int .i64 a0_3, .int .i64 a0_4] 25 (0, 0))) ∧ Aside0 (Below w.heap.size w wc))
       case first =>
        have H := HC31.out
        clear HC31
        by_cases c33 : a0_0 = 5
        ·rw [if_pos c33] at H
         have c33b0 : (a0_0 == 5) = true := beq_iff_eq.mpr c33
         have c33b1 : (a0_0 != 5) = false := bne_eq_false_iff_eq.mpr c33
         clear c33
         (first | rw [c33b0] | (simp only [i64_w, i32_w]; rw [c33b0]) | skip)
         have H' := aM_ H
         clear H
         go_wp2
         go_meet
         case rel => exact ⟨_, ((a0_0 == 5)), (by first | rfl | (simp; done) | (simp [*]; done)), H', ⟨by have := HJ3.out; have := HJ7.out; first | omega | exact Nat.le_refl _⟩, ⟨rW_ BK359.out⟩, ⟨gW_ HB.out⟩⟩
        ·rw [if_neg c33] at H
         have c33b0 : (a0_0 == 5) = false := beq_eq_false_iff_ne.mpr c33
         have c33b1 : (a0_0 != 5) = true := bne_iff_ne.mpr c33
         (first | rw [c33b0] | (simp only [i64_w, i32_w]; rw [c33b0]) | skip)
         by_cases c34 : a0_0 = 6
         ·rw [if_pos c34] at H
          have c34b0 : (a0_0 == 6) = true := beq_iff_eq.mpr c34
          have c34b1 : (a0_0 != 6) = false := bne_eq_false_iff_eq.mpr c34
          clear c34
          have H' := aM_ H
          clear H
          go_wp2
          go_meet
          case rel => exact ⟨_, ((a0_0 == 6)), (by first | rfl | (simp; done) | (simp [*]; done)), H', ⟨by have := HJ3.out; have := HJ7.out; first | omega | exact Nat.le_refl _⟩, ⟨rW_ BK359.out⟩, ⟨gW_ HB.out⟩⟩
         ·rw [if_neg c34] at H
          have c34b0 : (a0_0 == 6) = false := beq_eq_false_iff_ne.mpr c34
          have c34b1 : (a0_0 != 6) = true := bne_iff_ne.mpr c34
          by_cases c35 : a0_0 = 7
          ·rw [if_pos c35] at H
           have c35b0 : (a0_0 == 7) = true := beq_iff_eq.mpr c35
           have c35b1 : (a0_0 != 7) = false := bne_eq_false_iff_eq.mpr c35
           clear c35
           have H' := aM_ H
           clear H
           go_wp2
           go_meet
           case rel => exact ⟨_, ((a0_0 == 7)), (by first | rfl | (simp; done) | (simp [*]; done)), H', ⟨by have := HJ3.out; have := HJ7.out; first | omega | exact Nat.le_refl _⟩, ⟨rW_ BK359.out⟩, ⟨gW_ HB.out⟩⟩
          ·rw [if_neg c35] at H
           have c35b0 : (a0_0 == 7) = false := beq_eq_false_iff_ne.mpr c35
           have c35b1 : (a0_0 != 7) = true := bne_iff_ne.mpr c35
           have H' := aM_ H
           clear H
           go_wp2
           go_meet
           case rel => exact ⟨_, ((a0_0 == 8)), (by first | rfl | (simp; done) | (simp [*]; done)), H', ⟨by have := HJ3.out; have := HJ7.out; first | omega | exact Nat.le_refl _⟩, ⟨rW_ BK359.out⟩, ⟨gW_ HB.out⟩⟩
       case rest =>
        clear HC31
        try clear c1
        try clear c2
        try clear p2
        try clear c3
        try clear c5
        try clear c10
        try clear c16
        try clear c27
        try clear c28
        try clear c28b0
        try clear c28b1
        try clear c33
        try clear c33b0
        try clear c33b1
        try clear c34
        try clear c34b0
        try clear c34b1
        try clear c35
        try clear c35b0
        try clear c35b1
        try clear hcz30_0 hcz30_1 hcz30_2 hcz30_3 hcz30_4 hfz30_0 hfz30_1 hfz30_2 hfz30_3 hfz30_4
        try clear hcz32_0 hcz32_1 hcz32_2 hcz32_3 hcz32_4 hfz32_0 hfz32_1 hfz32_2 hfz32_3 hfz32_4
        try clear p2
        obtain ⟨kq, x45_30, rfl, HA, HJ30, BK359, HB⟩ := hcut
        cases kq with
        | zero => exact absurd HA.out (by simp [impl_StepOk.j2])
        | succ kj30 =>
         have H := HA.out
         clear HA
         simp only [impl_StepOk.j2] at H
         by_cases c36 : x45_30 = true
         ·subst c36
          have H1 : ((impl_isCell.f a0_4).bind fun t371 => (some t371)) = some r := by rw [if_pos rfl] at H; exact H
          clear H
          have H := H1
          clear H1
          replace H := Option.bind_eq_some_iff.mp H
          obtain ⟨t371, A370, H⟩ := H
          replace H : (some t371) = some r := H
          have A37 := aM_ A370
          clear A370
          obtain rfl := Option.some.inj H
          obtain ⟨hcz38_0, hcz38_1, hcz38_2, hcz38_3, hcz38_4, hfz38_0, hfz38_1, hfz38_2, hfz38_3, hfz38_4⟩ := bR5_ BK359.out
          go_wp2_with (first | ((with_reducible refine gate_callee (f := 53) rfl ?_); refine gL_ (some 52) Tryd.func53 #[.int .i64 a0_4] ?_; (with_reducible refine (impl_isCell.calls a0_4 t371 _ A37.out).mono ?_); rintro e w' ⟨rfl, ⟨nd, rfl⟩⟩; refine ⟨_, rfl, ?_⟩))
          go_ret
          exact fI_ HB.out
         ·replace c36 := Bool.eq_false_iff.mpr c36
          subst c36
          have H1 : (if a0_0 = 10 then (if a0_4 ≥ 0 then (some (decide (a0_4 < a1))) else (some false)) else (if a0_0 = 11 then (if a0_4 ≥ 0 then (some (decide (a0_4 < a1))) else (some false)) else (some true))) = some r := by rw [if_neg (show ¬ (false = true) by decide)] at H; exact H
          clear H
          have H := H1
          clear H1
          by_cases c39 : a0_0 = 10
          ·rw [if_pos c39] at H
           have c39b0 : (a0_0 == 10) = true := beq_iff_eq.mpr c39
           have c39b1 : (a0_0 != 10) = false := bne_eq_false_iff_eq.mpr c39
           clear c39
           by_cases c40 : a0_4 ≥ 0
           ·rw [if_pos c40] at H
            have c40b0 : decide (0 ≤ a0_4) = true := decide_eq_true c40
            clear c40
            obtain rfl := Option.some.inj H
            obtain ⟨hcz41_0, hcz41_1, hcz41_2, hcz41_3, hcz41_4, hfz41_0, hfz41_1, hfz41_2, hfz41_3, hfz41_4⟩ := bR5_ BK359.out
            go_wp2
            go_ret
            exact fI_ HB.out
           ·rw [if_neg c40] at H
            have c40b0 : decide (0 ≤ a0_4) = false := decide_eq_false c40
            clear c40
            obtain rfl := Option.some.inj H
            obtain ⟨hcz42_0, hcz42_1, hcz42_2, hcz42_3, hcz42_4, hfz42_0, hfz42_1, hfz42_2, hfz42_3, hfz42_4⟩ := bR5_ BK359.out
            go_wp2
            go_ret
            exact fI_ HB.out
          ·rw [if_neg c39] at H
           have c39b0 : (a0_0 == 10) = false := beq_eq_false_iff_ne.mpr c39
           have c39b1 : (a0_0 != 10) = true := bne_iff_ne.mpr c39
           by_cases c43 : a0_0 = 11
           ·rw [if_pos c43] at H
            have c43b0 : (a0_0 == 11) = true := beq_iff_eq.mpr c43
            have c43b1 : (a0_0 != 11) = false := bne_eq_false_iff_eq.mpr c43
            clear c43
            by_cases c44 : a0_4 ≥ 0
            ·rw [if_pos c44] at H
             have c44b0 : decide (0 ≤ a0_4) = true := decide_eq_true c44
             clear c44
             obtain rfl := Option.some.inj H
             obtain ⟨hcz45_0, hcz45_1, hcz45_2, hcz45_3, hcz45_4, hfz45_0, hfz45_1, hfz45_2, hfz45_3, hfz45_4⟩ := bR5_ BK359.out
             go_wp2
             go_ret
             exact fI_ HB.out
            ·rw [if_neg c44] at H
             have c44b0 : decide (0 ≤ a0_4) = false := decide_eq_false c44
             clear c44
             obtain rfl := Option.some.inj H
             obtain ⟨hcz46_0, hcz46_1, hcz46_2, hcz46_3, hcz46_4, hfz46_0, hfz46_1, hfz46_2, hfz46_3, hfz46_4⟩ := bR5_ BK359.out
             go_wp2
             go_ret
             exact fI_ HB.out
           ·rw [if_neg c43] at H
            have c43b0 : (a0_0 == 11) = false := beq_eq_false_iff_ne.mpr c43
            have c43b1 : (a0_0 != 11) = true := bne_iff_ne.mpr c43
            obtain rfl := Option.some.inj H
            go_wp2
            go_ret
            exact fI_ HB.out
end Go.Proofs.YtdbobicbbfmepaaDoor.PFnTexts
namespace Go.Proofs.YtdbobicbbfmepaaDoor.PFnTexts
open Go.RowKit Go.Proofs.YtdbobicbbfmepaaDoorW.PrintWords Go.Proofs.YtdbobicbbfmepaaDoorW.PrintLast Go.Proofs.YtdbobicbbfmepaaDoorW.PrintMore
attribute [local go_sem] max2_int min2_int max_two min_two max_three min_three max_four min_four   -- for this text's walks alone
set_option linter.unusedVariables false
set_option linter.unusedSimpArgs false
def impl_digits.f (a0 : Int) : Option ByteArray := Tab.digitsF a0
theorem impl_digits.calls (a0 : Int) (r : ByteArray) (w : World) (h : impl_digits.f a0 = some r) (hT : Tab.Laid w) :
  Calls Tryd.prog 40 #[.int .i64 a0] w fun e w' => e = .returned (.string r) ∧ Below w.heap.size w w' := Tab.digits_calls a0 r w h hT
def impl_reg.f (a0 : Int) : Option (ByteArray) := (impl_digits.f a0).bind fun t391 => (if 1 + t391.size ≤ 9223372036854775807 then (some ((⟨#[114]⟩ : ByteArray) ++ t391)) else (none))
set_option maxHeartbeats 8000000 in
set_option maxRecDepth 100000 in
theorem impl_reg.calls (a0 : Int) (r : ByteArray) (w : World) (h : impl_reg.f a0 = some r) (hT : Tab.Laid w) :
  Calls Tryd.prog 39 #[.int .i64 a0] w fun e w' => e = .returned (.string r) ∧ Below w.heap.size w w' := by
 have HB := aM_ (Below.refl w.heap.size w)
 have H : ((impl_digits.f a0).bind fun t391 => (if 1 + t391.size ≤ 9223372036854775807 then (some ((⟨#[114]⟩ : ByteArray) ++ t391)) else (none))) = some r := h
 clear h
 replace H := Option.bind_eq_some_iff.mp H
 obtain ⟨t391, A20, H⟩ := H
 replace H : (if 1 + t391.size ≤ 9223372036854775807 then (some ((⟨#[114]⟩ : ByteArray) ++ t391)) else (none)) = some r := H
 have A2 := aM_ A20
 clear A20
 by_cases c3 : 1 + t391.size ≤ 9223372036854775807
 ·rw [if_pos c3] at H
  have c3b0 := eq_true c3
  have c3b1 : decide (1 + t391.size ≤ 9223372036854775807) = true := decide_eq_true c3
  try have c3b2 : (9223372036854775807 < 1 + t391.size) = False := eq_false (Nat.not_lt.2 c3)
  obtain rfl := Option.some.inj H
  go_enter Tryd.func39, Tryd.ntmps39
  go_wp2_with (first | ((with_reducible refine gate_callee (f := 40) rfl ?_); refine gL_ (some 4) Tryd.func40 #[.int .i64 a0] ?_; (with_reducible refine (impl_digits.calls a0 t391 _ A2.out ?sT).mono ?_); (case sT => exact TabL_ hT HB.out); rintro e w4 ⟨rfl, hb⟩; refine ⟨_, rfl, ?_⟩; have n0 := aM_ (sT_ HB.out hb); clear HB; have HB := n0; clear n0))
  go_ret
  exact fI_ HB.out
 ·rw [if_neg c3] at H
  exact absurd H (by simp)
def impl_threeText.f (a0_0 : Int) (a0_1 : Int) (a0_2 : Int) (a0_3 : Int) (a0_4 : Int) : Option (ByteArray) := (impl_reg.f a0_1).bind fun t393 => (if t393.size + 1 ≤ 9223372036854775807 then ((impl_reg.f a0_2).bind fun t394 => (if (t393 ++ (⟨#[32]⟩ : ByteArray)).size + t394.size ≤ 9223372036854775807 then (if ((t393 ++ (⟨#[32]⟩ : ByteArray)) ++ t394).size + 1 ≤ 9223372036854775807 then ((impl_reg.f a0_3).bind fun t395 => (if (((t393 ++ (⟨#[32]⟩ : ByteArray)) ++ t394) ++ (⟨#[32]⟩ : ByteArray)).size + t395.size ≤ 9223372036854775807 then (some ((((t393 ++ (⟨#[32]⟩ : ByteArray)) ++ t394) ++ (⟨#[32]⟩ : ByteArray)) ++ t395)) else (none))) else (none)) else (none))) else (none))
def impl_threeText.T1 : Bool × List (List Nat × List Nat) := (true, [([], []), ([0], [0]), ([1], [1]), ([2], [2]), ([], []), ([4], [4]), ([5, 2], [5]), ([3, 6], [3, 6]), ([7], [7]), ([], []), ([9], [9]), ([10, 6], [10]), ([8, 11], [8, 11]), ([12, 11, 0, 1, 2, 3, 4, 5, 6, 7, 8, 9, 10, 11, 12], [12])])
def impl_threeText.B1 : List Nat := [0, 1, 3, 7, 0, 16, 55, 127, 255, 0, 512, 1655, 4095, 8191]
theorem impl_threeText.tab1 : rtab .any (opsOf Tryd.f41 1) = impl_threeText.T1 := by kernel_rfl
theorem impl_threeText.bits1 : waitsOk impl_threeText.T1.2 impl_threeText.B1 = true := by kernel_rfl
set_option maxHeartbeats 8000000 in
set_option maxRecDepth 100000 in
theorem impl_threeText.calls (a0_0 : Int) (a0_1 : Int) (a0_2 : Int) (a0_3 : Int) (a0_4 : Int) (r : ByteArray) (w : World) (h : impl_threeText.f a0_0 a0_1 a0_2 a0_3 a0_4 = some r) (hT : Tab.Laid w) :
  Calls Tryd.prog 41 #[.agg #[.int .i64 a0_0, .int .i64 a0_1, .int .i64 a0_2, .int .i64 a0_3, .int .i64 a0_4]] w fun e w' => e = .returned (.string r) ∧ Below w.heap.size w w' := by
 have hu25 := Tryd.underlying25
 have HB := aM_ (Below.refl w.heap.size w)
 have H : ((impl_reg.f a0_1).bind fun t393 => (if t393.size + 1 ≤ 9223372036854775807 then ((impl_reg.f a0_2).bind fun t394 => (if (t393 ++ (⟨#[32]⟩ : ByteArray)).size + t394.size ≤ 9223372036854775807 then (if ((t393 ++ (⟨#[32]⟩ : ByteArray)) ++ t394).size + 1 ≤ 9223372036854775807 then ((impl_reg.f a0_3).bind fun t395 => (if (((t393 ++ (⟨#[32]⟩ : ByteArray)) ++ t394) ++ (⟨#[32]⟩ : ByteArray)).size + t395.size ≤ 9223372036854775807 then (some ((((t393 ++ (⟨#[32]⟩ : ByteArray)) ++ t394) ++ (⟨#[32]⟩ : ByteArray)) ++ t395)) else (none))) else (none)) else (none))) else (none))) = some r := h
 clear h
 replace H := Option.bind_eq_some_iff.mp H
 obtain ⟨t393, A20, H⟩ := H
 replace H : (if t393.size + 1 ≤ 9223372036854775807 then ((impl_reg.f a0_2).bind fun t394 => (if (t393 ++ (⟨#[32]⟩ : ByteArray)).size + t394.size ≤ 9223372036854775807 then (if ((t393 ++ (⟨#[32]⟩ : ByteArray)) ++ t394).size + 1 ≤ 9223372036854775807 then ((impl_reg.f a0_3).bind fun t395 => (if (((t393 ++ (⟨#[32]⟩ : ByteArray)) ++ t394) ++ (⟨#[32]⟩ : ByteArray)).size + t395.size ≤ 9223372036854775807 then (some ((((t393 ++ (⟨#[32]⟩ : ByteArray)) ++ t394) ++ (⟨#[32]⟩ : ByteArray)) ++ t395)) else (none))) else (none)) else (none))) else (none)) = some r := H
 have A2 := aM_ A20
 clear A20
 by_cases c3 : t393.size + 1 ≤ 9223372036854775807
 ·rw [if_pos c3] at H
  have c3b0 := eq_true c3
  have c3b1 : decide (t393.size + 1 ≤ 9223372036854775807) = true := decide_eq_true c3
  try have c3b2 : (9223372036854775807 < t393.size + 1) = False := eq_false (Nat.not_lt.2 c3)
  replace H := Option.bind_eq_some_iff.mp H
  obtain ⟨t394, A40, H⟩ := H
  replace H : (if (t393 ++ (⟨#[32]⟩ : ByteArray)).size + t394.size ≤ 9223372036854775807 then (if ((t393 ++ (⟨#[32]⟩ : ByteArray)) ++ t394).size + 1 ≤ 9223372036854775807 then ((impl_reg.f a0_3).bind fun t395 => (if (((t393 ++ (⟨#[32]⟩ : ByteArray)) ++ t394) ++ (⟨#[32]⟩ : ByteArray)).size + t395.size ≤ 9223372036854775807 then (some ((((t393 ++ (⟨#[32]⟩ : ByteArray)) ++ t394) ++ (⟨#[32]⟩ : ByteArray)) ++ t395)) else (none))) else (none)) else (none)) = some r := H
  have A4 := aM_ A40
  clear A40
  by_cases c5 : (t393 ++ (⟨#[32]⟩ : ByteArray)).size + t394.size ≤ 9223372036854775807
  ·rw [if_pos c5] at H
   have c5b0 := eq_true c5
   have c5b1 : decide ((t393 ++ (⟨#[32]⟩ : ByteArray)).size + t394.size ≤ 9223372036854775807) = true := decide_eq_true c5
   (try (have c5n := c5; simp only [ByteArray.size_append, Tab.sz_mk, List.size_toArray, List.length_cons, List.length_nil, Nat.zero_add, Nat.reduceAdd] at c5n; have c5b4 := eq_true c5n; have c5b5 := eq_false (Nat.not_lt.2 c5n)))
   try have c5b2 : (9223372036854775807 < (t393 ++ (⟨#[32]⟩ : ByteArray)).size + t394.size) = False := eq_false (Nat.not_lt.2 c5)
   by_cases c6 : ((t393 ++ (⟨#[32]⟩ : ByteArray)) ++ t394).size + 1 ≤ 9223372036854775807
   ·rw [if_pos c6] at H
    have c6b0 := eq_true c6
    have c6b1 : decide (((t393 ++ (⟨#[32]⟩ : ByteArray)) ++ t394).size + 1 ≤ 9223372036854775807) = true := decide_eq_true c6
    (try (have c6n := c6; simp only [ByteArray.size_append, Tab.sz_mk, List.size_toArray, List.length_cons, List.length_nil, Nat.zero_add, Nat.reduceAdd] at c6n; have c6b4 := eq_true c6n; have c6b5 := eq_false (Nat.not_lt.2 c6n)))
    try have c6b2 : (9223372036854775807 < ((t393 ++ (⟨#[32]⟩ : ByteArray)) ++ t394).size + 1) = False := eq_false (Nat.not_lt.2 c6)
    replace H := Option.bind_eq_some_iff.mp H
    obtain ⟨t395, A70, H⟩ := H
    replace H : (if (((t393 ++ (⟨#[32]⟩ : ByteArray)) ++ t394) ++ (⟨#[32]⟩ : ByteArray)).size + t395.size ≤ 9223372036854775807 then (some ((((t393 ++ (⟨#[32]⟩ : ByteArray)) ++ t394) ++ (⟨#[32]⟩ : ByteArray)) ++ t395)) else (none)) = some r := H
    have A7 := aM_ A70
    clear A70
    by_cases c8 : (((t393 ++ (⟨#[32]⟩ : ByteArray)) ++ t394) ++ (⟨#[32]⟩ : ByteArray)).size + t395.size ≤ 9223372036854775807
    ·rw [if_pos c8] at H
     have c8b0 := eq_true c8
     have c8b1 : decide ((((t393 ++ (⟨#[32]⟩ : ByteArray)) ++ t394) ++ (⟨#[32]⟩ : ByteArray)).size + t395.size ≤ 9223372036854775807) = true := decide_eq_true c8
     (try (have c8n := c8; simp only [ByteArray.size_append, Tab.sz_mk, List.size_toArray, List.length_cons, List.length_nil, Nat.zero_add, Nat.reduceAdd] at c8n; have c8b4 := eq_true c8n; have c8b5 := eq_false (Nat.not_lt.2 c8n)))
     try have c8b2 : (9223372036854775807 < (((t393 ++ (⟨#[32]⟩ : ByteArray)) ++ t394) ++ (⟨#[32]⟩ : ByteArray)).size + t395.size) = False := eq_false (Nat.not_lt.2 c8)
     obtain rfl := Option.some.inj H
     go_enter Tryd.func41, Tryd.ntmps41
     try go_wp2_with (first | ((with_reducible refine gate_dst (N := 1) rfl ?_); refine bX_ 1 (cs := #[.int .i64 a0_0, .int .i64 a0_1, .int .i64 a0_2, .int .i64 a0_3, .int .i64 a0_4]) (t := 25) ?_; intro gb392 hg w9 hbox hb; have n0 := aM_ (sT_ HB.out hb); have n1 := aM_ (hbox); have n2 := aM_ (sZ_ hg HB.out); have n3 := aM_ (sZ_ hg HB.out); clear HB; have HB := n0; have BK392 := n1; have GW392 := n2; have GE392 := n3; clear n0 n1 n2 n3; clear hb hbox hg))
     (all_goals try (exfalso; have e1_ : (⟨#[32]⟩ : ByteArray).size = 1 := rfl; have e2_ : (⟨#[10]⟩ : ByteArray).size = 1 := rfl; simp only [ByteArray.size_append] at c6; omega))
     (all_goals try (exfalso; have e1_ : (⟨#[32]⟩ : ByteArray).size = 1 := rfl; have e2_ : (⟨#[10]⟩ : ByteArray).size = 1 := rfl; simp only [ByteArray.size_append] at c8; omega))
     have n0 := aM_ (blk_drew BK392.out)
     have n1 := aM_ (below_drew1 HB.out)
     clear BK392
     clear HB
     have BK392 := n0
     have HB := n1
     clear n0 n1
     refine start_ (n := 14) (S := fun w' => w'.cell? ⟨gb392, 0, none⟩ = some (.int .i64 a0_0) ∧ w'.cell? ⟨gb392, 1, none⟩ = some (.int .i64 a0_1) ∧ w'.cell? ⟨gb392, 2, none⟩ = some (.int .i64 a0_2) ∧ w'.cell? ⟨gb392, 3, none⟩ = some (.int .i64 a0_3) ∧ w'.cell? ⟨gb392, 4, none⟩ = some (.int .i64 a0_4)) (ds := []) (mk_ 14 0) (by kernel_rfl) rfl rfl (bC5_ BK392.out) (fun hHeld => ?_); refine with_tabW impl_threeText.tab1 impl_threeText.bits1 (fun HT_ HW_ => ?_)
     generalize w9.drew = w10 at BK392 HB hHeld ⊢
     refine pU_ 0 (some 3) (mk_ 14 1) ?_
     refine pU_ 4 (some 7) (mk_ 14 17) ?_
     refine pU_ 9 (some 12) (mk_ 14 529) ?_
     refine tK5_ 1 (some 4) (mk_ 14 531) ?_
     refine tK5_ 5 (some 8) (mk_ 14 563) ?_
     refine tK5_ 10 (some 13) (mk_ 14 1587) ?_
     refine oN_ 2 (some 5) (mk_ 14 1591) (fun K hK => ?_)
     refine gO_ Tryd.func39 #[.int .i64 a0_1] ?_
     with_reducible refine (impl_reg.calls a0_1 t393 _ A2.out ?sT).mono ?_
     (case sT => exact TabL_ hT HB.out)
     rintro e w11 ⟨rfl, hb⟩
     refine ⟨_, rfl, ?_⟩
     have n0 := aM_ (nB_ BK392.out hb)
     have n1 := aM_ (sT_ HB.out hb)
     clear BK392
     clear HB
     have BK392 := n0
     have HB := n1
     clear n0 n1
     (try clear hb)
     (try clear hb2)
     (try clear hk)
     (try clear hi)
     refine hK.out _ _ (bC5_ BK392.out) (fun hHeld => ?_)
     clear hK K
     refine norm_ (a' := ?_) ?_ ?_
     rotate_left
     ·show Act.put _ (some 5) _ = _
      simp only [pt_, pn_, sI_, s0_, s1_, i64_w, i32_w]
      rfl
     refine pU_ 3 (some 6) (mk_ 14 1599) ?_
     refine oN_ 6 (some 9) (mk_ 14 1663) (fun K hK => ?_)
     refine gO_ Tryd.func39 #[.int .i64 a0_2] ?_
     with_reducible refine (impl_reg.calls a0_2 t394 _ A4.out ?sT).mono ?_
     (case sT => exact TabL_ hT HB.out)
     rintro e w12 ⟨rfl, hb⟩
     refine ⟨_, rfl, ?_⟩
     have n0 := aM_ (nB_ BK392.out hb)
     have n1 := aM_ (sT_ HB.out hb)
     clear BK392
     clear HB
     have BK392 := n0
     have HB := n1
     clear n0 n1
     (try clear hb)
     (try clear hb2)
     (try clear hk)
     (try clear hi)
     refine hK.out _ _ (bC5_ BK392.out) (fun hHeld => ?_)
     clear hK K
     refine norm_ (a' := ?_) ?_ ?_
     rotate_left
     ·show Act.put _ (some 9) _ = _
      simp only [pt_, pn_, sI_, s0_, s1_, i64_w, i32_w]
      rfl
     refine pU_ 7 (some 10) (mk_ 14 1791) ?_
     refine pU_ 8 (some 11) (mk_ 14 2047) ?_
     refine oN_ 11 (some 14) (mk_ 14 4095) (fun K hK => ?_)
     refine gO_ Tryd.func39 #[.int .i64 a0_3] ?_
     with_reducible refine (impl_reg.calls a0_3 t395 _ A7.out ?sT).mono ?_
     (case sT => exact TabL_ hT HB.out)
     rintro e w13 ⟨rfl, hb⟩
     refine ⟨_, rfl, ?_⟩
     have n0 := aM_ (nB_ BK392.out hb)
     have n1 := aM_ (sT_ HB.out hb)
     clear BK392
     clear HB
     have BK392 := n0
     have HB := n1
     clear n0 n1
     (try clear hb)
     (try clear hb2)
     (try clear hk)
     (try clear hi)
     refine hK.out _ _ (bC5_ BK392.out) (fun hHeld => ?_)
     clear hK K
     refine norm_ (a' := ?_) ?_ ?_
     rotate_left
     ·show Act.put _ (some 14) _ = _
      simp only [pt_, pn_, sI_, s0_, s1_, i64_w, i32_w]
      rfl
     refine pU_ 12 (some 15) (mk_ 14 8191) ?_
     refine pU_ 13 (some 2) (mk_ 14 16383) ?_
     refine done_ (done_of HT_.out (by kernel_rfl)) ?_
     try go_wp2
     go_ret
     exact fI_ HB.out
    ·rw [if_neg c8] at H
     exact absurd H (by simp)
   ·rw [if_neg c6] at H
    exact absurd H (by simp)
  ·rw [if_neg c5] at H
   exact absurd H (by simp)
 ·rw [if_neg c3] at H
  exact absurd H (by simp)
end Go.Proofs.YtdbobicbbfmepaaDoor.PFnTexts
namespace Go.Proofs.YtdbobicbbfmepaaDoor.PFnTexts
open Go.RowKit Go.Proofs.YtdbobicbbfmepaaDoorW.PrintWords Go.Proofs.YtdbobicbbfmepaaDoorW.PrintLast Go.Proofs.YtdbobicbbfmepaaDoorW.PrintMore
attribute [local go_sem] max2_int min2_int max_two min_two max_three min_three max_four min_four   -- for this text's walks alone
set_option linter.unusedVariables false
set_option linter.unusedSimpArgs false
def impl_cellText.j0 : Nat → Bool → Int → Int → Int → Int → Int → Option (ByteArray)
  | 0, _, _, _, _, _, _ => none
  | k + 1, x10, x397000, x397001, x397002, x397003, x397004 => if x10 = true then ((impl_digits.f x397004).bind fun t397 => (if 1 + t397.size ≤ 9223372036854775807 then (if ((⟨#[91]⟩ : ByteArray) ++ t397).size + 1 ≤ 9223372036854775807 then ((impl_reg.f x397002).bind fun t398 => (if (((⟨#[91]⟩ : ByteArray) ++ t397) ++ (⟨#[43]⟩ : ByteArray)).size + t398.size ≤ 9223372036854775807 then (if ((((⟨#[91]⟩ : ByteArray) ++ t397) ++ (⟨#[43]⟩ : ByteArray)) ++ t398).size + 1 ≤ 9223372036854775807 then (some (((((⟨#[91]⟩ : ByteArray) ++ t397) ++ (⟨#[43]⟩ : ByteArray)) ++ t398) ++ (⟨#[93]⟩ : ByteArray))) else (none)) else (none))) else (none)) else (none))) else ((impl_digits.f x397004).bind fun t399 => (if 1 + t399.size ≤ 9223372036854775807 then (if ((⟨#[91]⟩ : ByteArray) ++ t399).size + 1 ≤ 9223372036854775807 then (some (((⟨#[91]⟩ : ByteArray) ++ t399) ++ (⟨#[93]⟩ : ByteArray))) else (none)) else (none)))
def impl_cellText.f (k : Nat) (a0_0 : Int) (a0_1 : Int) (a0_2 : Int) (a0_3 : Int) (a0_4 : Int) : Option (ByteArray) := if a0_0 = 8 then (impl_cellText.j0 k false a0_0 a0_1 a0_2 a0_3 a0_4) else (impl_cellText.j0 k (decide (a0_2 ≥ 0)) a0_0 a0_1 a0_2 a0_3 a0_4)
def impl_cellText.T2 : Bool × List (List Nat × List Nat) := (true, [([], []), ([0], [0]), ([1], [1]), ([2], [2]), ([3], [3]), ([], []), ([5], [5]), ([6, 2], [6]), ([4, 7], [4, 7]), ([8], [8]), ([9, 7, 0, 1, 2, 3, 4, 5, 6, 7, 8, 9], [9])])
def impl_cellText.B2 : List Nat := [0, 1, 3, 7, 15, 0, 32, 103, 255, 511, 1023]
theorem impl_cellText.tab2 : rtab .any (opsOf Tryd.f42 2) = impl_cellText.T2 := by kernel_rfl
theorem impl_cellText.bits2 : waitsOk impl_cellText.T2.2 impl_cellText.B2 = true := by kernel_rfl
set_option maxHeartbeats 8000000 in
set_option maxRecDepth 100000 in
theorem impl_cellText.calls (k : Nat) (a0_0 : Int) (a0_1 : Int) (a0_2 : Int) (a0_3 : Int) (a0_4 : Int) (r : ByteArray) (w : World) (h : impl_cellText.f k a0_0 a0_1 a0_2 a0_3 a0_4 = some r) (hT : Tab.Laid w) :
  Calls Tryd.prog 42 #[.agg #[.int .i64 a0_0, .int .i64 a0_1, .int .i64 a0_2, .int .i64 a0_3, .int .i64 a0_4]] w fun e w' => e = .returned (.string r) ∧ Below w.heap.size w w' := by
 have hu25 := Tryd.underlying25
 have HB := aM_ (Below.refl w.heap.size w)
 have H : (if a0_0 = 8 then (impl_cellText.j0 k false a0_0 a0_1 a0_2 a0_3 a0_4) else (impl_cellText.j0 k (decide (a0_2 ≥ 0)) a0_0 a0_1 a0_2 a0_3 a0_4)) = some r := h
 clear h
 have HC2 := aM_ H
 clear H
 go_enter Tryd.func42, Tryd.ntmps42
 go_upto_region 1 with (first | ((with_reducible refine gate_dst (N := 1) rfl ?_); refine bX_ 1 (cs := #[.int .i64 a0_0, .int .i64 a0_1, .int .i64 a0_2, .int .i64 a0_3, .int .i64 a0_4]) (t := 25) ?_; intro gb396 hg w3 hbox hb; have n0 := aM_ (sT_ HB.out hb); have n1 := aM_ (hbox); have n2 := aM_ (sZ_ hg HB.out); have n3 := aM_ (sZ_ hg HB.out); clear HB; have HB := n0; have BK396 := n1; have GW396 := n2; have GE396 := n3; clear n0 n1 n2 n3; clear hb hbox hg))
 (try simp only [Act.put, List.setIfInBounds_toArray, List.set_cons_zero, List.set_cons_succ])
 go_cut [10] (fun v10 wc => ∃ (kq : Nat) (x10_1 : Bool), v10 = .bool x10_1 ∧ Aside0 (impl_cellText.j0 kq x10_1 a0_0 a0_1 a0_2 a0_3 a0_4 = some r) ∧ Aside0 (kq ≤ k) ∧ Aside0 (wc.heap[gb396]? = some (.cells #[.int .i64 a0_0, .int .i64 a0_1, .int .i64 a0_2, .int .i64 a0_3, .int .i64 a0_4] 25 (0, 0))) ∧ Aside0 (Below w.heap.size w wc))
 case first =>
  have H := HC2.out
  clear HC2
  by_cases c4 : a0_0 = 8
  ·rw [if_pos c4] at H
   have c4b0 : (a0_0 == 8) = true := beq_iff_eq.mpr c4
   have c4b1 : (a0_0 != 8) = false := bne_eq_false_iff_eq.mpr c4
   clear c4
   (first | rw [c4b0] | (simp only [i64_w, i32_w]; rw [c4b0]) | skip)
   have H' := aM_ H
   clear H
   obtain ⟨hcz5_0, hcz5_1, hcz5_2, hcz5_3, hcz5_4, hfz5_0, hfz5_1, hfz5_2, hfz5_3, hfz5_4⟩ := bR5_ BK396.out
   go_wp2
   go_meet
   case rel => exact ⟨_, (false), (by first | rfl | (simp; done) | (simp [*]; done)), H', ⟨by first | omega | exact Nat.le_refl _⟩, ⟨rW_ BK396.out⟩, ⟨gW_ HB.out⟩⟩
  ·rw [if_neg c4] at H
   have c4b0 : (a0_0 == 8) = false := beq_eq_false_iff_ne.mpr c4
   have c4b1 : (a0_0 != 8) = true := bne_iff_ne.mpr c4
   (first | rw [c4b0] | (simp only [i64_w, i32_w]; rw [c4b0]) | skip)
   have H' := aM_ H
   clear H
   obtain ⟨hcz6_0, hcz6_1, hcz6_2, hcz6_3, hcz6_4, hfz6_0, hfz6_1, hfz6_2, hfz6_3, hfz6_4⟩ := bR5_ BK396.out
   go_wp2
   go_meet
   case rel => exact ⟨_, (decide (a0_2 ≥ 0)), (by first | rfl | (simp; done) | (simp [*]; done)), H', ⟨by first | omega | exact Nat.le_refl _⟩, ⟨rW_ BK396.out⟩, ⟨gW_ HB.out⟩⟩
 case rest =>
  clear HC2
  try clear p2
  try clear c4
  try clear c4b0
  try clear c4b1
  try clear hcz5_0 hcz5_1 hcz5_2 hcz5_3 hcz5_4 hfz5_0 hfz5_1 hfz5_2 hfz5_3 hfz5_4
  try clear hcz6_0 hcz6_1 hcz6_2 hcz6_3 hcz6_4 hfz6_0 hfz6_1 hfz6_2 hfz6_3 hfz6_4
  obtain ⟨kq, x10_1, rfl, HA, HJ1, BK396, HB⟩ := hcut
  cases kq with
  | zero => exact absurd HA.out (by simp [impl_cellText.j0])
  | succ kj1 =>
   have H := HA.out
   clear HA
   simp only [impl_cellText.j0] at H
   by_cases c7 : x10_1 = true
   ·subst c7
    have H1 : ((impl_digits.f a0_4).bind fun t397 => (if 1 + t397.size ≤ 9223372036854775807 then (if ((⟨#[91]⟩ : ByteArray) ++ t397).size + 1 ≤ 9223372036854775807 then ((impl_reg.f a0_2).bind fun t398 => (if (((⟨#[91]⟩ : ByteArray) ++ t397) ++ (⟨#[43]⟩ : ByteArray)).size + t398.size ≤ 9223372036854775807 then (if ((((⟨#[91]⟩ : ByteArray) ++ t397) ++ (⟨#[43]⟩ : ByteArray)) ++ t398).size + 1 ≤ 9223372036854775807 then (some (((((⟨#[91]⟩ : ByteArray) ++ t397) ++ (⟨#[43]⟩ : ByteArray)) ++ t398) ++ (⟨#[93]⟩ : ByteArray))) else (none)) else (none))) else (none)) else (none))) = some r := by rw [if_pos rfl] at H; exact H
    clear H
    have H := H1
    clear H1
    replace H := Option.bind_eq_some_iff.mp H
    obtain ⟨t397, A80, H⟩ := H
    replace H : (if 1 + t397.size ≤ 9223372036854775807 then (if ((⟨#[91]⟩ : ByteArray) ++ t397).size + 1 ≤ 9223372036854775807 then ((impl_reg.f a0_2).bind fun t398 => (if (((⟨#[91]⟩ : ByteArray) ++ t397) ++ (⟨#[43]⟩ : ByteArray)).size + t398.size ≤ 9223372036854775807 then (if ((((⟨#[91]⟩ : ByteArray) ++ t397) ++ (⟨#[43]⟩ : ByteArray)) ++ t398).size + 1 ≤ 9223372036854775807 then (some (((((⟨#[91]⟩ : ByteArray) ++ t397) ++ (⟨#[43]⟩ : ByteArray)) ++ t398) ++ (⟨#[93]⟩ : ByteArray))) else (none)) else (none))) else (none)) else (none)) = some r := H
    have A8 := aM_ A80
    clear A80
    by_cases c9 : 1 + t397.size ≤ 9223372036854775807
    ·rw [if_pos c9] at H
     have c9b0 := eq_true c9
     have c9b1 : decide (1 + t397.size ≤ 9223372036854775807) = true := decide_eq_true c9
     try have c9b2 : (9223372036854775807 < 1 + t397.size) = False := eq_false (Nat.not_lt.2 c9)
     by_cases c10 : ((⟨#[91]⟩ : ByteArray) ++ t397).size + 1 ≤ 9223372036854775807
     ·rw [if_pos c10] at H
      have c10b0 := eq_true c10
      have c10b1 : decide (((⟨#[91]⟩ : ByteArray) ++ t397).size + 1 ≤ 9223372036854775807) = true := decide_eq_true c10
      (try (have c10n := c10; simp only [ByteArray.size_append, Tab.sz_mk, List.size_toArray, List.length_cons, List.length_nil, Nat.zero_add, Nat.reduceAdd] at c10n; have c10b4 := eq_true c10n; have c10b5 := eq_false (Nat.not_lt.2 c10n)))
      try have c10b2 : (9223372036854775807 < ((⟨#[91]⟩ : ByteArray) ++ t397).size + 1) = False := eq_false (Nat.not_lt.2 c10)
      replace H := Option.bind_eq_some_iff.mp H
      obtain ⟨t398, A110, H⟩ := H
      replace H : (if (((⟨#[91]⟩ : ByteArray) ++ t397) ++ (⟨#[43]⟩ : ByteArray)).size + t398.size ≤ 9223372036854775807 then (if ((((⟨#[91]⟩ : ByteArray) ++ t397) ++ (⟨#[43]⟩ : ByteArray)) ++ t398).size + 1 ≤ 9223372036854775807 then (some (((((⟨#[91]⟩ : ByteArray) ++ t397) ++ (⟨#[43]⟩ : ByteArray)) ++ t398) ++ (⟨#[93]⟩ : ByteArray))) else (none)) else (none)) = some r := H
      have A11 := aM_ A110
      clear A110
      by_cases c12 : (((⟨#[91]⟩ : ByteArray) ++ t397) ++ (⟨#[43]⟩ : ByteArray)).size + t398.size ≤ 9223372036854775807
      ·rw [if_pos c12] at H
       have c12b0 := eq_true c12
       have c12b1 : decide ((((⟨#[91]⟩ : ByteArray) ++ t397) ++ (⟨#[43]⟩ : ByteArray)).size + t398.size ≤ 9223372036854775807) = true := decide_eq_true c12
       (try (have c12n := c12; simp only [ByteArray.size_append, Tab.sz_mk, List.size_toArray, List.length_cons, List.length_nil, Nat.zero_add, Nat.reduceAdd] at c12n; have c12b4 := eq_true c12n; have c12b5 := eq_false (Nat.not_lt.2 c12n)))
       try have c12b2 : (9223372036854775807 < (((⟨#[91]⟩ : ByteArray) ++ t397) ++ (⟨#[43]⟩ : ByteArray)).size + t398.size) = False := eq_false (Nat.not_lt.2 c12)
       by_cases c13 : ((((⟨#[91]⟩ : ByteArray) ++ t397) ++ (⟨#[43]⟩ : ByteArray)) ++ t398).size + 1 ≤ 9223372036854775807
       ·rw [if_pos c13] at H
        have c13b0 := eq_true c13
        have c13b1 : decide (((((⟨#[91]⟩ : ByteArray) ++ t397) ++ (⟨#[43]⟩ : ByteArray)) ++ t398).size + 1 ≤ 9223372036854775807) = true := decide_eq_true c13
        (try (have c13n := c13; simp only [ByteArray.size_append, Tab.sz_mk, List.size_toArray, List.length_cons, List.length_nil, Nat.zero_add, Nat.reduceAdd] at c13n; have c13b4 := eq_true c13n; have c13b5 := eq_false (Nat.not_lt.2 c13n)))
        try have c13b2 : (9223372036854775807 < ((((⟨#[91]⟩ : ByteArray) ++ t397) ++ (⟨#[43]⟩ : ByteArray)) ++ t398).size + 1) = False := eq_false (Nat.not_lt.2 c13)
        obtain rfl := Option.some.inj H
        try go_wp2
        have n0 := aM_ (blk_drew BK396.out)
        have n1 := aM_ (below_drew1 HB.out)
        clear BK396
        clear HB
        have BK396 := n0
        have HB := n1
        clear n0 n1
        refine start_ (n := 11) (S := fun w' => w'.cell? ⟨gb396, 0, none⟩ = some (.int .i64 a0_0) ∧ w'.cell? ⟨gb396, 1, none⟩ = some (.int .i64 a0_1) ∧ w'.cell? ⟨gb396, 2, none⟩ = some (.int .i64 a0_2) ∧ w'.cell? ⟨gb396, 3, none⟩ = some (.int .i64 a0_3) ∧ w'.cell? ⟨gb396, 4, none⟩ = some (.int .i64 a0_4)) (ds := []) (mk_ 11 0) (by kernel_rfl) rfl rfl (bC5_ BK396.out) (fun hHeld => ?_); refine with_tabW impl_cellText.tab2 impl_cellText.bits2 (fun HT_ HW_ => ?_)
        generalize wc.drew = w14 at BK396 HB hHeld ⊢
        refine pU_ 0 (some 11) (mk_ 11 1) ?_
        refine pU_ 5 (some 16) (mk_ 11 33) ?_
        refine tK5_ 1 (some 12) (mk_ 11 35) ?_
        refine tK5_ 6 (some 17) (mk_ 11 99) ?_
        refine oN_ 2 (some 13) (mk_ 11 103) (fun K hK => ?_)
        refine gO_ Tryd.func40 #[.int .i64 a0_4] ?_
        with_reducible refine (impl_digits.calls a0_4 t397 _ A8.out ?sT).mono ?_
        (case sT => exact TabL_ hT HB.out)
        rintro e w15 ⟨rfl, hb⟩
        refine ⟨_, rfl, ?_⟩
        have n0 := aM_ (nB_ BK396.out hb)
        have n1 := aM_ (sT_ HB.out hb)
        clear BK396
        clear HB
        have BK396 := n0
        have HB := n1
        clear n0 n1
        (try clear hb)
        (try clear hb2)
        (try clear hk)
        (try clear hi)
        refine hK.out _ _ (bC5_ BK396.out) (fun hHeld => ?_)
        clear hK K
        refine norm_ (a' := ?_) ?_ ?_
        rotate_left
        ·show Act.put _ (some 13) _ = _
         simp only [pt_, pn_, sI_, s0_, s1_, i64_w, i32_w]
         rfl
        refine pU_ 3 (some 14) (mk_ 11 111) ?_
        refine pU_ 4 (some 15) (mk_ 11 127) ?_
        refine oN_ 7 (some 18) (mk_ 11 255) (fun K hK => ?_)
        refine gO_ Tryd.func39 #[.int .i64 a0_2] ?_
        with_reducible refine (impl_reg.calls a0_2 t398 _ A11.out ?sT).mono ?_
        (case sT => exact TabL_ hT HB.out)
        rintro e w16 ⟨rfl, hb⟩
        refine ⟨_, rfl, ?_⟩
        have n0 := aM_ (nB_ BK396.out hb)
        have n1 := aM_ (sT_ HB.out hb)
        clear BK396
        clear HB
        have BK396 := n0
        have HB := n1
        clear n0 n1
        (try clear hb)
        (try clear hb2)
        (try clear hk)
        (try clear hi)
        refine hK.out _ _ (bC5_ BK396.out) (fun hHeld => ?_)
        clear hK K
        refine norm_ (a' := ?_) ?_ ?_
        rotate_left
        ·show Act.put _ (some 18) _ = _
         simp only [pt_, pn_, sI_, s0_, s1_, i64_w, i32_w]
         rfl
        refine pU_ 8 (some 19) (mk_ 11 511) ?_
        refine pU_ 9 (some 20) (mk_ 11 1023) ?_
        refine pU_ 10 (some 2) (mk_ 11 2047) ?_
        refine done_ (done_of HT_.out (by kernel_rfl)) ?_
        try go_wp2
        go_ret
        exact fI_ HB.out
       ·rw [if_neg c13] at H
        exact absurd H (by simp)
      ·rw [if_neg c12] at H
       exact absurd H (by simp)
     ·rw [if_neg c10] at H
      exact absurd H (by simp)
    ·rw [if_neg c9] at H
     exact absurd H (by simp)
   ·replace c7 := Bool.eq_false_iff.mpr c7
    subst c7
    have H1 : ((impl_digits.f a0_4).bind fun t399 => (if 1 + t399.size ≤ 9223372036854775807 then (if ((⟨#[91]⟩ : ByteArray) ++ t399).size + 1 ≤ 9223372036854775807 then (some (((⟨#[91]⟩ : ByteArray) ++ t399) ++ (⟨#[93]⟩ : ByteArray))) else (none)) else (none))) = some r := by rw [if_neg (show ¬ (false = true) by decide)] at H; exact H
    clear H
    have H := H1
    clear H1
    replace H := Option.bind_eq_some_iff.mp H
    obtain ⟨t399, A170, H⟩ := H
    replace H : (if 1 + t399.size ≤ 9223372036854775807 then (if ((⟨#[91]⟩ : ByteArray) ++ t399).size + 1 ≤ 9223372036854775807 then (some (((⟨#[91]⟩ : ByteArray) ++ t399) ++ (⟨#[93]⟩ : ByteArray))) else (none)) else (none)) = some r := H
    have A17 := aM_ A170
    clear A170
    by_cases c18 : 1 + t399.size ≤ 9223372036854775807
    ·rw [if_pos c18] at H
     have c18b0 := eq_true c18
     have c18b1 : decide (1 + t399.size ≤ 9223372036854775807) = true := decide_eq_true c18
     try have c18b2 : (9223372036854775807 < 1 + t399.size) = False := eq_false (Nat.not_lt.2 c18)
     by_cases c19 : ((⟨#[91]⟩ : ByteArray) ++ t399).size + 1 ≤ 9223372036854775807
     ·rw [if_pos c19] at H
      have c19b0 := eq_true c19
      have c19b1 : decide (((⟨#[91]⟩ : ByteArray) ++ t399).size + 1 ≤ 9223372036854775807) = true := decide_eq_true c19
      (try (have c19n := c19; simp only [ByteArray.size_append, Tab.sz_mk, List.size_toArray, List.length_cons, List.length_nil, Nat.zero_add, Nat.reduceAdd] at c19n; have c19b4 := eq_true c19n; have c19b5 := eq_false (Nat.not_lt.2 c19n)))
      try have c19b2 : (9223372036854775807 < ((⟨#[91]⟩ : ByteArray) ++ t399).size + 1) = False := eq_false (Nat.not_lt.2 c19)
      obtain rfl := Option.some.inj H
      obtain ⟨hcz20_0, hcz20_1, hcz20_2, hcz20_3, hcz20_4, hfz20_0, hfz20_1, hfz20_2, hfz20_3, hfz20_4⟩ := bR5_ BK396.out
      go_wp2_with (first | ((with_reducible refine gate_callee (f := 40) rfl ?_); refine gL_ (some 23) Tryd.func40 #[.int .i64 a0_4] ?_; (with_reducible refine (impl_digits.calls a0_4 t399 _ A17.out ?sT).mono ?_); (case sT => exact TabL_ hT HB.out); rintro e w21 ⟨rfl, hb⟩; refine ⟨_, rfl, ?_⟩; have n0 := aM_ (nB_ BK396.out hb); have n1 := aM_ (sT_ HB.out hb); clear BK396; clear HB; have BK396 := n0; have HB := n1; clear n0 n1))
      (all_goals try (exfalso; have e1_ : (⟨#[32]⟩ : ByteArray).size = 1 := rfl; have e2_ : (⟨#[10]⟩ : ByteArray).size = 1 := rfl; simp only [ByteArray.size_append] at c19; omega))
      go_ret
      exact fI_ HB.out
     ·rw [if_neg c19] at H
      exact absurd H (by simp)
    ·rw [if_neg c18] at H
     exact absurd H (by simp)
end Go.Proofs.YtdbobicbbfmepaaDoor.PFnTexts
