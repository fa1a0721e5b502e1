/- A part of the proof that the law FnExactMachineNew holds for every input. -/
import Derived.Test.YtobachfngmpeiaaZFnExactMachineNewa8
import Derived.Test.YtobachfngmpeiaaZFnExactMachineNews
namespace Go.Proofs.Ytobachfngmpeiaa.PFnExactMachineNew
open Go.RowKit Go.Proofs.YtobachfngmpeiaaW.PrintWords Go.Proofs.YtobachfngmpeiaaW.PrintLast Go.Proofs.YtobachfngmpeiaaW.PrintMore
attribute [local go_sem] max2_int min2_int max_two min_two max_three min_three max_four min_four   -- for this text's walks alone
set_option linter.unusedVariables false
set_option linter.unusedSimpArgs false
attribute [local go_sem high] eqA175
mutual
def impl_StepOk.j0 : Nat → Int → Int → Int → Int → Int → Int → Int → Option (Bool)
  | 0, _, _, _, _, _, _, _ => none
  | k + 1, x1, x5, x230000, x230001, x230002, x230003, x230004 => (impl_within.f x230000 1 13).bind fun t231 => (if t231 = true then ((impl_stepNamed.f k x230000 x230001 x230002 x230003 x230004).bind fun bt232 => (if (!(x230000 == bt232.1) || (!(x230001 == bt232.2.1) || (!(x230002 == bt232.2.2.1) || (!(x230003 == bt232.2.2.2.1) || (!(x230004 == bt232.2.2.2.2)))))) = true then (impl_StepOk.j1 k x1 true x230000 x230001 x230002 x230003 x230004) else ((impl_within.f x230001 0 7).bind fun t237 => (if t237 = true then ((impl_within.f x230002 x5 7).bind fun t238 => (if t238 = true then ((impl_within.f x230003 0 7).bind fun t239 => (impl_StepOk.j1 k x1 (!t239) x230000 x230001 x230002 x230003 x230004)) else (impl_StepOk.j1 k x1 true x230000 x230001 x230002 x230003 x230004))) else (impl_StepOk.j1 k x1 true x230000 x230001 x230002 x230003 x230004))))) else (impl_StepOk.j1 k x1 true x230000 x230001 x230002 x230003 x230004))
def impl_StepOk.j1 : Nat → Int → Bool → Int → Int → Int → Int → Int → Option (Bool)
  | 0, _, _, _, _, _, _, _ => none
  | k + 1, x1, x37, x230000, x230001, x230002, x230003, x230004 => if x37 = true then (some false) else (if x230000 = 1 then ((impl_within.f x230004 (-1000000000) 1000000000).bind fun t240 => (some t240)) else (if x230000 = 5 then (impl_StepOk.j2 k x1 x230000 (x230000 == 5) x230000 x230001 x230002 x230003 x230004) else (if x230000 = 6 then (impl_StepOk.j2 k x1 x230000 (x230000 == 6) x230000 x230001 x230002 x230003 x230004) else (if x230000 = 7 then (impl_StepOk.j2 k x1 x230000 (x230000 == 7) x230000 x230001 x230002 x230003 x230004) else (impl_StepOk.j2 k x1 x230000 (x230000 == 8) x230000 x230001 x230002 x230003 x230004)))))
def impl_StepOk.j2 : Nat → Int → Int → Bool → Int → Int → Int → Int → Int → Option (Bool)
  | 0, _, _, _, _, _, _, _, _ => none
  | k + 1, x1, x39, x45, x230000, x230001, x230002, x230003, x230004 => if x45 = true then ((impl_isCell.f x230004).bind fun t241 => (some t241)) else (if x39 = 10 then (impl_StepOk.j3 k x1 (x39 == 10) x230000 x230001 x230002 x230003 x230004) else (impl_StepOk.j3 k x1 (x39 == 11) x230000 x230001 x230002 x230003 x230004))
def impl_StepOk.j3 : Nat → Int → Bool → Int → Int → Int → Int → Int → Option (Bool)
  | 0, _, _, _, _, _, _, _ => none
  | k + 1, x1, x53, x230000, x230001, x230002, x230003, x230004 => if x53 = true then (if x230004 ≥ 0 then (some (decide (x230004 < x1))) else (some false)) else (some true)
end
def impl_StepOk.f (k : Nat) (a0_0 : Int) (a0_1 : Int) (a0_2 : Int) (a0_3 : Int) (a0_4 : Int) (a1 : Int) : Option (Bool) := (impl_within.f a0_0 5 7).bind fun t230 => (if t230 = true then (impl_StepOk.j0 k a1 (-1) a0_0 a0_1 a0_2 a0_3 a0_4) else (impl_StepOk.j0 k a1 0 a0_0 a0_1 a0_2 a0_3 a0_4))
def impl_StepOk.T4 : Bool × List (List Nat × List Nat) := (true, [([], []), ([0], [0]), ([1], [1]), ([2], [2]), ([3, 2], [3]), ([4], [4]), ([4], [4]), ([6, 4, 4], [4, 6]), ([5, 7, 4], [4, 5, 7]), ([4, 8], [4, 8]), ([9, 7], [9]), ([10], [10]), ([11, 10], [10, 11]), ([12, 10, 10], [10, 12]), ([13, 10], [10, 13]), ([10, 14], [10, 14]), ([15, 13], [15]), ([16], [16]), ([17, 16], [16, 17]), ([16], [16]), ([18, 19, 16, 16], [16, 18, 19]), ([20, 16], [16, 20]), ([16, 21], [16, 21]), ([22, 20], [22]), ([23], [23]), ([24, 23], [23, 24]), ([25, 23, 23], [23, 25]), ([26, 23], [23, 26]), ([23, 27], [23, 27])])
def impl_StepOk.B4 : List Nat := [0, 1, 3, 7, 15, 31, 31, 95, 255, 511, 1023, 2047, 4095, 8191, 16383, 32767, 65535, 131071, 262143, 131071, 1048575, 2097151, 4194303, 8388607, 16777215, 33554431, 67108863, 134217727, 268435455]
theorem impl_StepOk.tab4 : rtab .any (opsOf Try.f167 4) = impl_StepOk.T4 := by kernel_rfl
theorem impl_StepOk.bits4 : waitsOk impl_StepOk.T4.2 impl_StepOk.B4 = true := by kernel_rfl
set_option maxHeartbeats 8000000 in
set_option maxRecDepth 100000 in
theorem impl_StepOk.calls (k : Nat) (a0_0 : Int) (a0_1 : Int) (a0_2 : Int) (a0_3 : Int) (a0_4 : Int) (a1 : Int) (r : Bool) (w : World) (h : impl_StepOk.f k a0_0 a0_1 a0_2 a0_3 a0_4 a1 = some r) :
  Calls Try.prog 167 #[.agg #[.int .i64 a0_0, .int .i64 a0_1, .int .i64 a0_2, .int .i64 a0_3, .int .i64 a0_4], .int .i64 a1] w fun e w' => e = .returned (.bool r) ∧ Below w.heap.size w w' := by
 have hu175 := Try.underlying175
 have HB := aM_ (Below.refl w.heap.size w)
 have H : ((impl_within.f a0_0 5 7).bind fun t230 => (if t230 = true then (impl_StepOk.j0 k a1 (-1) a0_0 a0_1 a0_2 a0_3 a0_4) else (impl_StepOk.j0 k a1 0 a0_0 a0_1 a0_2 a0_3 a0_4))) = some r := h
 clear h
 replace H := Option.bind_eq_some_iff.mp H
 obtain ⟨t230, A30, H⟩ := H
 replace H : (if t230 = true then (impl_StepOk.j0 k a1 (-1) a0_0 a0_1 a0_2 a0_3 a0_4) else (impl_StepOk.j0 k a1 0 a0_0 a0_1 a0_2 a0_3 a0_4)) = some r := H
 have A3 := aM_ A30
 clear A30
 have HC4 := aM_ H
 clear H
 go_enter Try.func167, Try.ntmps167
 go_upto_if 8 with (first | ((with_reducible refine gate_dst (N := 2) rfl ?_); refine bX_ 2 (cs := #[.int .i64 a0_0, .int .i64 a0_1, .int .i64 a0_2, .int .i64 a0_3, .int .i64 a0_4]) (t := 175) ?_; intro gb229 hg w5 hbox hb; have BK229 := aM_ (hbox); have GE229 := aM_ (sZ_ hg HB.out); replace HB := aM_ (sT_ HB.out hb); clear hb hbox hg; have z_6 := bR5_ BK229.out) | ((with_reducible refine gate_callee (f := 106) rfl ?_); refine gL_ (some 8) Try.func106 #[.int .i64 a0_0, .int .i64 5, .int .i64 7] ?_; (with_reducible refine (impl_within.calls a0_0 5 7 t230 _ A3.out).mono ?_); rintro e w' ⟨rfl, ⟨nd, rfl⟩⟩; refine ⟨_, rfl, ?_⟩))
 (try simp only [Act.put, List.setIfInBounds_toArray, List.set_cons_zero, List.set_cons_succ])
 go_cut [5] (fun v5 wc => ∃ (kq : Nat) (x5_3 : Int), v5 = .int .i64 x5_3 ∧ Aside0 (impl_StepOk.j0 kq a1 x5_3 a0_0 a0_1 a0_2 a0_3 a0_4 = some r) ∧ Aside0 (kq ≤ k) ∧ Aside0 (wc.heap[gb229]? = some (.cells #[.int .i64 a0_0, .int .i64 a0_1, .int .i64 a0_2, .int .i64 a0_3, .int .i64 a0_4] 175 (0, 0))) ∧ Aside0 (Below w.heap.size w wc))
 case first =>
  have H := HC4.out
  clear HC4
  by_cases c7 : t230 = true
  ·subst c7
   have H1 : (impl_StepOk.j0 k a1 (-1) a0_0 a0_1 a0_2 a0_3 a0_4) = some r := by rw [if_pos rfl] at H; exact H
   clear H
   have H := H1
   clear H1
   have H' := aM_ H
   clear H
   go_wp2
   go_meet
   case rel => exact ⟨_, ((-1)), (by first | rfl | (simp; done) | (simp [*]; done)), H', ⟨by first | omega | exact Nat.le_refl _⟩, ⟨rW_ BK229.out⟩, ⟨gW_ HB.out⟩⟩
  ·replace c7 := Bool.eq_false_iff.mpr c7
   subst c7
   have H1 : (impl_StepOk.j0 k a1 0 a0_0 a0_1 a0_2 a0_3 a0_4) = some r := by rw [if_neg (show ¬ (false = true) by decide)] at H; exact H
   clear H
   have H := H1
   clear H1
   have H' := aM_ H
   clear H
   go_wp2
   go_meet
   case rel => exact ⟨_, (0), (by first | rfl | (simp; done) | (simp [*]; done)), H', ⟨by first | omega | exact Nat.le_refl _⟩, ⟨rW_ BK229.out⟩, ⟨gW_ HB.out⟩⟩
 case rest =>
  clear HC4
  try clear c1
  try clear p2
  try clear c7
  try clear z_6
  obtain ⟨kq, x5_3, rfl, HA, HJ3, BK229, HB⟩ := hcut
  cases kq with
  | zero => exact absurd HA.out (by simp [impl_StepOk.j0])
  | succ kj3 =>
   have H := HA.out
   clear HA
   simp only [impl_StepOk.j0] at H
   have HC8 := aM_ H
   clear H
   go_upto_region 4 with (fail)
   go_cut [37] (fun v37 wc => ∃ (kq : Nat) (x37_7 : Bool), v37 = .bool x37_7 ∧ Aside0 (impl_StepOk.j1 kq a1 x37_7 a0_0 a0_1 a0_2 a0_3 a0_4 = some r) ∧ Aside0 (kq ≤ kj3) ∧ Aside0 (wc.heap[gb229]? = some (.cells #[.int .i64 a0_0, .int .i64 a0_1, .int .i64 a0_2, .int .i64 a0_3, .int .i64 a0_4] 175 (0, 0))) ∧ Aside0 (Below w.heap.size w wc))
   case first =>
    have H := HC8.out
    clear HC8
    replace H := Option.bind_eq_some_iff.mp H
    obtain ⟨t231, A90, H⟩ := H
    replace H : (if t231 = true then ((impl_stepNamed.f kj3 a0_0 a0_1 a0_2 a0_3 a0_4).bind fun bt232 => (if (!(a0_0 == bt232.1) || (!(a0_1 == bt232.2.1) || (!(a0_2 == bt232.2.2.1) || (!(a0_3 == bt232.2.2.2.1) || (!(a0_4 == bt232.2.2.2.2)))))) = true then (impl_StepOk.j1 kj3 a1 true a0_0 a0_1 a0_2 a0_3 a0_4) else ((impl_within.f a0_1 0 7).bind fun t237 => (if t237 = true then ((impl_within.f a0_2 x5_3 7).bind fun t238 => (if t238 = true then ((impl_within.f a0_3 0 7).bind fun t239 => (impl_StepOk.j1 kj3 a1 (!t239) a0_0 a0_1 a0_2 a0_3 a0_4)) else (impl_StepOk.j1 kj3 a1 true a0_0 a0_1 a0_2 a0_3 a0_4))) else (impl_StepOk.j1 kj3 a1 true a0_0 a0_1 a0_2 a0_3 a0_4))))) else (impl_StepOk.j1 kj3 a1 true a0_0 a0_1 a0_2 a0_3 a0_4)) = some r := H
    have A9 := aM_ A90
    clear A90
    by_cases c10 : t231 = true
    ·subst c10
     have H1 : ((impl_stepNamed.f kj3 a0_0 a0_1 a0_2 a0_3 a0_4).bind fun bt232 => (if (!(a0_0 == bt232.1) || (!(a0_1 == bt232.2.1) || (!(a0_2 == bt232.2.2.1) || (!(a0_3 == bt232.2.2.2.1) || (!(a0_4 == bt232.2.2.2.2)))))) = true then (impl_StepOk.j1 kj3 a1 true a0_0 a0_1 a0_2 a0_3 a0_4) else ((impl_within.f a0_1 0 7).bind fun t237 => (if t237 = true then ((impl_within.f a0_2 x5_3 7).bind fun t238 => (if t238 = true then ((impl_within.f a0_3 0 7).bind fun t239 => (impl_StepOk.j1 kj3 a1 (!t239) a0_0 a0_1 a0_2 a0_3 a0_4)) else (impl_StepOk.j1 kj3 a1 true a0_0 a0_1 a0_2 a0_3 a0_4))) else (impl_StepOk.j1 kj3 a1 true a0_0 a0_1 a0_2 a0_3 a0_4))))) = some r := by rw [if_pos rfl] at H; exact H
     clear H
     have H := H1
     clear H1
     replace H := Option.bind_eq_some_iff.mp H
     obtain ⟨⟨t232, t233, t234, t235, t236⟩, A110, H⟩ := H
     replace H : (if (!(a0_0 == t232) || (!(a0_1 == t233) || (!(a0_2 == t234) || (!(a0_3 == t235) || (!(a0_4 == t236)))))) = true then (impl_StepOk.j1 kj3 a1 true a0_0 a0_1 a0_2 a0_3 a0_4) else ((impl_within.f a0_1 0 7).bind fun t237 => (if t237 = true then ((impl_within.f a0_2 x5_3 7).bind fun t238 => (if t238 = true then ((impl_within.f a0_3 0 7).bind fun t239 => (impl_StepOk.j1 kj3 a1 (!t239) a0_0 a0_1 a0_2 a0_3 a0_4)) else (impl_StepOk.j1 kj3 a1 true a0_0 a0_1 a0_2 a0_3 a0_4))) else (impl_StepOk.j1 kj3 a1 true a0_0 a0_1 a0_2 a0_3 a0_4)))) = some r := H
     have A11 := aM_ A110
     clear A110
     by_cases c12 : (!(a0_0 == t232) || (!(a0_1 == t233) || (!(a0_2 == t234) || (!(a0_3 == t235) || (!(a0_4 == t236)))))) = true
     ·rw [if_pos c12] at H
      have c12b0 : (!(a0_0 == t232) || (!(a0_1 == t233) || (!(a0_2 == t234) || (!(a0_3 == t235) || (!(a0_4 == t236)))))) = true := c12
      clear c12
      (first | rw [c12b0] | (simp only [i64_w, i32_w]; rw [c12b0]) | skip)
      have H' := aM_ H
      clear H
      try go_wp2
      replace BK229 := aM_ (blk_drew BK229.out)
      replace HB := aM_ (below_drew1 HB.out)
      refine start_ (n := 29) (S := fun w' => w'.cell? ⟨gb229, 0, none⟩ = some (.int .i64 a0_0) ∧ w'.cell? ⟨gb229, 1, none⟩ = some (.int .i64 a0_1) ∧ w'.cell? ⟨gb229, 2, none⟩ = some (.int .i64 a0_2) ∧ w'.cell? ⟨gb229, 3, none⟩ = some (.int .i64 a0_3) ∧ w'.cell? ⟨gb229, 4, none⟩ = some (.int .i64 a0_4)) (ds := []) (mk_ 29 0) (by kernel_rfl) rfl rfl (bC5_ BK229.out) (fun hHeld => ?_); refine with_tabW impl_StepOk.tab4 impl_StepOk.bits4 (fun HT_ HW_ => ?_)
      generalize wc.drew = w13 at BK229 HB hHeld ⊢
      refine pU_ 0 9 (mk_ 29 1) ?_
      refine tK5_ 1 10 (mk_ 29 3) ?_
      refine oN_ 2 11 (mk_ 29 7) (fun K hK => ?_)
      refine gO_ Try.func106 #[.int .i64 a0_0, .int .i64 1, .int .i64 13] ?_
      with_reducible refine (impl_within.calls a0_0 1 13 true _ A9.out).mono ?_
      rintro e w' ⟨rfl, ⟨nd, rfl⟩⟩
      refine ⟨_, rfl, ?_⟩
      refine kO_ hK (some 11) (bC5_ BK229.out) (fun hHeld => ?_)
      clear hK K
      refine pU_ 3 12 (mk_ 29 15) ?_
      refine pU_ 4 13 (mk_ 29 31) ?_
      refine tK5_ 5 14 (mk_ 29 63) ?_
      refine tK5_ 6 15 (mk_ 29 127) ?_
      refine oN_ 7 16 (mk_ 29 255) (fun K hK => ?_)
      refine gO_ Try.func187 #[.agg #[.int .i64 a0_0, .int .i64 a0_1, .int .i64 a0_2, .int .i64 a0_3, .int .i64 a0_4]] ?_
      with_reducible refine (impl_stepNamed.calls kj3 a0_0 a0_1 a0_2 a0_3 a0_4 t232 t233 t234 t235 t236 _ A11.out).mono ?_
      rintro e w14 ⟨rfl, hb⟩
      refine ⟨_, rfl, ?_⟩
      replace BK229 := aM_ (nB_ BK229.out hb)
      replace HB := aM_ (sT_ HB.out hb)
      (try clear hb)
      (try clear hb2)
      (try clear hk)
      (try clear hi)
      refine kO_ hK (some 16) (bC5_ BK229.out) (fun hHeld => ?_)
      clear hK K
      refine pU_ 8 17 (mk_ 29 511) ?_
      refine pU_ 9 18 (mk_ 29 1023) ?_
      refine pU_ 10 19 (mk_ 29 2047) ?_
      refine pX_ 11 20 (mk_ 29 4095) ?_
      refine pX_ 12 21 (mk_ 29 8191) ?_
      refine pX_ 13 22 (mk_ 29 16383) ?_
      refine pX_ 14 23 (mk_ 29 32767) ?_
      refine pU_ 15 24 (mk_ 29 65535) ?_
      refine pU_ 16 25 (mk_ 29 131071) ?_
      refine pX_ 17 26 (mk_ 29 262143) ?_
      refine pX_ 18 27 (mk_ 29 524287) ?_
      refine pX_ 19 28 (mk_ 29 1048575) ?_
      refine pX_ 20 29 (mk_ 29 2097151) ?_
      refine pX_ 21 30 (mk_ 29 4194303) ?_
      refine pU_ 22 31 (mk_ 29 8388607) ?_
      refine pU_ 23 32 (mk_ 29 16777215) ?_
      refine pX_ 24 33 (mk_ 29 33554431) ?_
      refine pX_ 25 34 (mk_ 29 67108863) ?_
      refine pX_ 26 35 (mk_ 29 134217727) ?_
      refine pX_ 27 36 (mk_ 29 268435455) ?_
      refine pU_ 28 37 (mk_ 29 536870911) ?_
      refine done_ (done_of HT_.out (by kernel_rfl)) ?_
      try go_wp2
      go_meet
      case rel => exact ⟨_, (true), (by first | rfl | (simp; done) | (simp [*]; done)), H', ⟨by have := HJ3.out; first | omega | exact Nat.le_refl _⟩, ⟨rW_ BK229.out⟩, ⟨gW_ HB.out⟩⟩
     ·rw [if_neg c12] at H
      have c12b0 : (!(a0_0 == t232) || (!(a0_1 == t233) || (!(a0_2 == t234) || (!(a0_3 == t235) || (!(a0_4 == t236)))))) = false := by simpa using c12
      clear c12
      (first | rw [c12b0] | (simp only [i64_w, i32_w]; rw [c12b0]) | skip)
      replace H := Option.bind_eq_some_iff.mp H
      obtain ⟨t237, A150, H⟩ := H
      replace H : (if t237 = true then ((impl_within.f a0_2 x5_3 7).bind fun t238 => (if t238 = true then ((impl_within.f a0_3 0 7).bind fun t239 => (impl_StepOk.j1 kj3 a1 (!t239) a0_0 a0_1 a0_2 a0_3 a0_4)) else (impl_StepOk.j1 kj3 a1 true a0_0 a0_1 a0_2 a0_3 a0_4))) else (impl_StepOk.j1 kj3 a1 true a0_0 a0_1 a0_2 a0_3 a0_4)) = some r := H
      have A15 := aM_ A150
      clear A150
      by_cases c16 : t237 = true
      ·subst c16
       have H1 : ((impl_within.f a0_2 x5_3 7).bind fun t238 => (if t238 = true then ((impl_within.f a0_3 0 7).bind fun t239 => (impl_StepOk.j1 kj3 a1 (!t239) a0_0 a0_1 a0_2 a0_3 a0_4)) else (impl_StepOk.j1 kj3 a1 true a0_0 a0_1 a0_2 a0_3 a0_4))) = some r := by rw [if_pos rfl] at H; exact H
       clear H
       have H := H1
       clear H1
       replace H := Option.bind_eq_some_iff.mp H
       obtain ⟨t238, A170, H⟩ := H
       replace H : (if t238 = true then ((impl_within.f a0_3 0 7).bind fun t239 => (impl_StepOk.j1 kj3 a1 (!t239) a0_0 a0_1 a0_2 a0_3 a0_4)) else (impl_StepOk.j1 kj3 a1 true a0_0 a0_1 a0_2 a0_3 a0_4)) = some r := H
       have A17 := aM_ A170
       clear A170
       by_cases c18 : t238 = true
       ·subst c18
        have H1 : ((impl_within.f a0_3 0 7).bind fun t239 => (impl_StepOk.j1 kj3 a1 (!t239) a0_0 a0_1 a0_2 a0_3 a0_4)) = some r := by rw [if_pos rfl] at H; exact H
        clear H
        have H := H1
        clear H1
        replace H := Option.bind_eq_some_iff.mp H
        obtain ⟨t239, A190, H⟩ := H
        replace H : (impl_StepOk.j1 kj3 a1 (!t239) a0_0 a0_1 a0_2 a0_3 a0_4) = some r := H
        have A19 := aM_ A190
        clear A190
        have H' := aM_ H
        clear H
        try go_wp2
        replace BK229 := aM_ (blk_drew BK229.out)
        replace HB := aM_ (below_drew1 HB.out)
        refine start_ (n := 29) (S := fun w' => w'.cell? ⟨gb229, 0, none⟩ = some (.int .i64 a0_0) ∧ w'.cell? ⟨gb229, 1, none⟩ = some (.int .i64 a0_1) ∧ w'.cell? ⟨gb229, 2, none⟩ = some (.int .i64 a0_2) ∧ w'.cell? ⟨gb229, 3, none⟩ = some (.int .i64 a0_3) ∧ w'.cell? ⟨gb229, 4, none⟩ = some (.int .i64 a0_4)) (ds := []) (mk_ 29 0) (by kernel_rfl) rfl rfl (bC5_ BK229.out) (fun hHeld => ?_); refine with_tabW impl_StepOk.tab4 impl_StepOk.bits4 (fun HT_ HW_ => ?_)
        generalize wc.drew = w20 at BK229 HB hHeld ⊢
        refine pU_ 0 9 (mk_ 29 1) ?_
        refine tK5_ 1 10 (mk_ 29 3) ?_
        refine oN_ 2 11 (mk_ 29 7) (fun K hK => ?_)
        refine gO_ Try.func106 #[.int .i64 a0_0, .int .i64 1, .int .i64 13] ?_
        with_reducible refine (impl_within.calls a0_0 1 13 true _ A9.out).mono ?_
        rintro e w' ⟨rfl, ⟨nd, rfl⟩⟩
        refine ⟨_, rfl, ?_⟩
        refine kO_ hK (some 11) (bC5_ BK229.out) (fun hHeld => ?_)
        clear hK K
        refine pU_ 3 12 (mk_ 29 15) ?_
        refine pU_ 4 13 (mk_ 29 31) ?_
        refine tK5_ 5 14 (mk_ 29 63) ?_
        refine tK5_ 6 15 (mk_ 29 127) ?_
        refine oN_ 7 16 (mk_ 29 255) (fun K hK => ?_)
        refine gO_ Try.func187 #[.agg #[.int .i64 a0_0, .int .i64 a0_1, .int .i64 a0_2, .int .i64 a0_3, .int .i64 a0_4]] ?_
        with_reducible refine (impl_stepNamed.calls kj3 a0_0 a0_1 a0_2 a0_3 a0_4 t232 t233 t234 t235 t236 _ A11.out).mono ?_
        rintro e w21 ⟨rfl, hb⟩
        refine ⟨_, rfl, ?_⟩
        replace BK229 := aM_ (nB_ BK229.out hb)
        replace HB := aM_ (sT_ HB.out hb)
        (try clear hb)
        (try clear hb2)
        (try clear hk)
        (try clear hi)
        refine kO_ hK (some 16) (bC5_ BK229.out) (fun hHeld => ?_)
        clear hK K
        refine pU_ 8 17 (mk_ 29 511) ?_
        refine pU_ 9 18 (mk_ 29 1023) ?_
        refine pU_ 10 19 (mk_ 29 2047) ?_
        refine pU_ 11 20 (mk_ 29 4095) ?_
        refine tK5_ 12 21 (mk_ 29 8191) ?_
        refine oN_ 13 22 (mk_ 29 16383) (fun K hK => ?_)
        refine gO_ Try.func106 #[.int .i64 a0_1, .int .i64 0, .int .i64 7] ?_
        with_reducible refine (impl_within.calls a0_1 0 7 true _ A15.out).mono ?_
        rintro e w' ⟨rfl, ⟨nd, rfl⟩⟩
        refine ⟨_, rfl, ?_⟩
        refine kO_ hK (some 22) (bC5_ BK229.out) (fun hHeld => ?_)
        clear hK K
        refine pU_ 14 23 (mk_ 29 32767) ?_
        refine pU_ 15 24 (mk_ 29 65535) ?_
        refine pU_ 16 25 (mk_ 29 131071) ?_
        refine pU_ 17 26 (mk_ 29 262143) ?_
        refine pU_ 19 28 (mk_ 29 786431) ?_
        refine tK5_ 18 27 (mk_ 29 1048575) ?_
        refine oN_ 20 29 (mk_ 29 2097151) (fun K hK => ?_)
        refine gO_ Try.func106 #[.int .i64 a0_2, .int .i64 x5_3, .int .i64 7] ?_
        with_reducible refine (impl_within.calls a0_2 x5_3 7 true _ A17.out).mono ?_
        rintro e w' ⟨rfl, ⟨nd, rfl⟩⟩
        refine ⟨_, rfl, ?_⟩
        refine kO_ hK (some 29) (bC5_ BK229.out) (fun hHeld => ?_)
        clear hK K
        refine pU_ 21 30 (mk_ 29 4194303) ?_
        refine pU_ 22 31 (mk_ 29 8388607) ?_
        refine pU_ 23 32 (mk_ 29 16777215) ?_
        refine pU_ 24 33 (mk_ 29 33554431) ?_
        refine tK5_ 25 34 (mk_ 29 67108863) ?_
        refine oN_ 26 35 (mk_ 29 134217727) (fun K hK => ?_)
        refine gO_ Try.func106 #[.int .i64 a0_3, .int .i64 0, .int .i64 7] ?_
        with_reducible refine (impl_within.calls a0_3 0 7 t239 _ A19.out).mono ?_
        rintro e w' ⟨rfl, ⟨nd, rfl⟩⟩
        refine ⟨_, rfl, ?_⟩
        refine kO_ hK (some 35) (bC5_ BK229.out) (fun hHeld => ?_)
        clear hK K
        refine pU_ 27 36 (mk_ 29 268435455) ?_
        refine pU_ 28 37 (mk_ 29 536870911) ?_
        refine done_ (done_of HT_.out (by kernel_rfl)) ?_
        try go_wp2
        go_meet
        case rel => exact ⟨_, (!t239), (by first | rfl | (simp; done) | (simp [*]; done)), H', ⟨by have := HJ3.out; first | omega | exact Nat.le_refl _⟩, ⟨rW_ BK229.out⟩, ⟨gW_ HB.out⟩⟩
       ·replace c18 := Bool.eq_false_iff.mpr c18
        subst c18
        have H1 : (impl_StepOk.j1 kj3 a1 true a0_0 a0_1 a0_2 a0_3 a0_4) = some r := by rw [if_neg (show ¬ (false = true) by decide)] at H; exact H
        clear H
        have H := H1
        clear H1
        have H' := aM_ H
        clear H
        try go_wp2
        replace BK229 := aM_ (blk_drew BK229.out)
        replace HB := aM_ (below_drew1 HB.out)
        refine start_ (n := 29) (S := fun w' => w'.cell? ⟨gb229, 0, none⟩ = some (.int .i64 a0_0) ∧ w'.cell? ⟨gb229, 1, none⟩ = some (.int .i64 a0_1) ∧ w'.cell? ⟨gb229, 2, none⟩ = some (.int .i64 a0_2) ∧ w'.cell? ⟨gb229, 3, none⟩ = some (.int .i64 a0_3) ∧ w'.cell? ⟨gb229, 4, none⟩ = some (.int .i64 a0_4)) (ds := []) (mk_ 29 0) (by kernel_rfl) rfl rfl (bC5_ BK229.out) (fun hHeld => ?_); refine with_tabW impl_StepOk.tab4 impl_StepOk.bits4 (fun HT_ HW_ => ?_)
        generalize wc.drew = w22 at BK229 HB hHeld ⊢
        refine pU_ 0 9 (mk_ 29 1) ?_
        refine tK5_ 1 10 (mk_ 29 3) ?_
        refine oN_ 2 11 (mk_ 29 7) (fun K hK => ?_)
        refine gO_ Try.func106 #[.int .i64 a0_0, .int .i64 1, .int .i64 13] ?_
        with_reducible refine (impl_within.calls a0_0 1 13 true _ A9.out).mono ?_
        rintro e w' ⟨rfl, ⟨nd, rfl⟩⟩
        refine ⟨_, rfl, ?_⟩
        refine kO_ hK (some 11) (bC5_ BK229.out) (fun hHeld => ?_)
        clear hK K
        refine pU_ 3 12 (mk_ 29 15) ?_
        refine pU_ 4 13 (mk_ 29 31) ?_
        refine tK5_ 5 14 (mk_ 29 63) ?_
        refine tK5_ 6 15 (mk_ 29 127) ?_
        refine oN_ 7 16 (mk_ 29 255) (fun K hK => ?_)
        refine gO_ Try.func187 #[.agg #[.int .i64 a0_0, .int .i64 a0_1, .int .i64 a0_2, .int .i64 a0_3, .int .i64 a0_4]] ?_
        with_reducible refine (impl_stepNamed.calls kj3 a0_0 a0_1 a0_2 a0_3 a0_4 t232 t233 t234 t235 t236 _ A11.out).mono ?_
        rintro e w23 ⟨rfl, hb⟩
        refine ⟨_, rfl, ?_⟩
        replace BK229 := aM_ (nB_ BK229.out hb)
        replace HB := aM_ (sT_ HB.out hb)
        (try clear hb)
        (try clear hb2)
        (try clear hk)
        (try clear hi)
        refine kO_ hK (some 16) (bC5_ BK229.out) (fun hHeld => ?_)
        clear hK K
        refine pU_ 8 17 (mk_ 29 511) ?_
        refine pU_ 9 18 (mk_ 29 1023) ?_
        refine pU_ 10 19 (mk_ 29 2047) ?_
        refine pU_ 11 20 (mk_ 29 4095) ?_
        refine tK5_ 12 21 (mk_ 29 8191) ?_
        refine oN_ 13 22 (mk_ 29 16383) (fun K hK => ?_)
        refine gO_ Try.func106 #[.int .i64 a0_1, .int .i64 0, .int .i64 7] ?_
        with_reducible refine (impl_within.calls a0_1 0 7 true _ A15.out).mono ?_
        rintro e w' ⟨rfl, ⟨nd, rfl⟩⟩
        refine ⟨_, rfl, ?_⟩
        refine kO_ hK (some 22) (bC5_ BK229.out) (fun hHeld => ?_)
        clear hK K
        refine pU_ 14 23 (mk_ 29 32767) ?_
        refine pU_ 15 24 (mk_ 29 65535) ?_
        refine pU_ 16 25 (mk_ 29 131071) ?_
        refine pU_ 17 26 (mk_ 29 262143) ?_
        refine pU_ 19 28 (mk_ 29 786431) ?_
        refine tK5_ 18 27 (mk_ 29 1048575) ?_
        refine oN_ 20 29 (mk_ 29 2097151) (fun K hK => ?_)
        refine gO_ Try.func106 #[.int .i64 a0_2, .int .i64 x5_3, .int .i64 7] ?_
        with_reducible refine (impl_within.calls a0_2 x5_3 7 false _ A17.out).mono ?_
        rintro e w' ⟨rfl, ⟨nd, rfl⟩⟩
        refine ⟨_, rfl, ?_⟩
        refine kO_ hK (some 29) (bC5_ BK229.out) (fun hHeld => ?_)
        clear hK K
        refine pU_ 21 30 (mk_ 29 4194303) ?_
        refine pU_ 22 31 (mk_ 29 8388607) ?_
        refine pU_ 23 32 (mk_ 29 16777215) ?_
        refine pX_ 24 33 (mk_ 29 33554431) ?_
        refine pX_ 25 34 (mk_ 29 67108863) ?_
        refine pX_ 26 35 (mk_ 29 134217727) ?_
        refine pX_ 27 36 (mk_ 29 268435455) ?_
        refine pU_ 28 37 (mk_ 29 536870911) ?_
        refine done_ (done_of HT_.out (by kernel_rfl)) ?_
        try go_wp2
        go_meet
        case rel => exact ⟨_, (true), (by first | rfl | (simp; done) | (simp [*]; done)), H', ⟨by have := HJ3.out; first | omega | exact Nat.le_refl _⟩, ⟨rW_ BK229.out⟩, ⟨gW_ HB.out⟩⟩
      ·replace c16 := Bool.eq_false_iff.mpr c16
       subst c16
       have H1 : (impl_StepOk.j1 kj3 a1 true a0_0 a0_1 a0_2 a0_3 a0_4) = some r := by rw [if_neg (show ¬ (false = true) by decide)] at H; exact H
       clear H
       have H := H1
       clear H1
       have H' := aM_ H
       clear H
       try go_wp2
       replace BK229 := aM_ (blk_drew BK229.out)
       replace HB := aM_ (below_drew1 HB.out)
       refine start_ (n := 29) (S := fun w' => w'.cell? ⟨gb229, 0, none⟩ = some (.int .i64 a0_0) ∧ w'.cell? ⟨gb229, 1, none⟩ = some (.int .i64 a0_1) ∧ w'.cell? ⟨gb229, 2, none⟩ = some (.int .i64 a0_2) ∧ w'.cell? ⟨gb229, 3, none⟩ = some (.int .i64 a0_3) ∧ w'.cell? ⟨gb229, 4, none⟩ = some (.int .i64 a0_4)) (ds := []) (mk_ 29 0) (by kernel_rfl) rfl rfl (bC5_ BK229.out) (fun hHeld => ?_); refine with_tabW impl_StepOk.tab4 impl_StepOk.bits4 (fun HT_ HW_ => ?_)
       generalize wc.drew = w24 at BK229 HB hHeld ⊢
       refine pU_ 0 9 (mk_ 29 1) ?_
       refine tK5_ 1 10 (mk_ 29 3) ?_
       refine oN_ 2 11 (mk_ 29 7) (fun K hK => ?_)
       refine gO_ Try.func106 #[.int .i64 a0_0, .int .i64 1, .int .i64 13] ?_
       with_reducible refine (impl_within.calls a0_0 1 13 true _ A9.out).mono ?_
       rintro e w' ⟨rfl, ⟨nd, rfl⟩⟩
       refine ⟨_, rfl, ?_⟩
       refine kO_ hK (some 11) (bC5_ BK229.out) (fun hHeld => ?_)
       clear hK K
       refine pU_ 3 12 (mk_ 29 15) ?_
       refine pU_ 4 13 (mk_ 29 31) ?_
       refine tK5_ 5 14 (mk_ 29 63) ?_
       refine tK5_ 6 15 (mk_ 29 127) ?_
       refine oN_ 7 16 (mk_ 29 255) (fun K hK => ?_)
       refine gO_ Try.func187 #[.agg #[.int .i64 a0_0, .int .i64 a0_1, .int .i64 a0_2, .int .i64 a0_3, .int .i64 a0_4]] ?_
       with_reducible refine (impl_stepNamed.calls kj3 a0_0 a0_1 a0_2 a0_3 a0_4 t232 t233 t234 t235 t236 _ A11.out).mono ?_
       rintro e w25 ⟨rfl, hb⟩
       refine ⟨_, rfl, ?_⟩
       replace BK229 := aM_ (nB_ BK229.out hb)
       replace HB := aM_ (sT_ HB.out hb)
       (try clear hb)
       (try clear hb2)
       (try clear hk)
       (try clear hi)
       refine kO_ hK (some 16) (bC5_ BK229.out) (fun hHeld => ?_)
       clear hK K
       refine pU_ 8 17 (mk_ 29 511) ?_
       refine pU_ 9 18 (mk_ 29 1023) ?_
       refine pU_ 10 19 (mk_ 29 2047) ?_
       refine pU_ 11 20 (mk_ 29 4095) ?_
       refine tK5_ 12 21 (mk_ 29 8191) ?_
       refine oN_ 13 22 (mk_ 29 16383) (fun K hK => ?_)
       refine gO_ Try.func106 #[.int .i64 a0_1, .int .i64 0, .int .i64 7] ?_
       with_reducible refine (impl_within.calls a0_1 0 7 false _ A15.out).mono ?_
       rintro e w' ⟨rfl, ⟨nd, rfl⟩⟩
       refine ⟨_, rfl, ?_⟩
       refine kO_ hK (some 22) (bC5_ BK229.out) (fun hHeld => ?_)
       clear hK K
       refine pU_ 14 23 (mk_ 29 32767) ?_
       refine pU_ 15 24 (mk_ 29 65535) ?_
       refine pU_ 16 25 (mk_ 29 131071) ?_
       refine pX_ 17 26 (mk_ 29 262143) ?_
       refine pX_ 18 27 (mk_ 29 524287) ?_
       refine pX_ 19 28 (mk_ 29 1048575) ?_
       refine pX_ 20 29 (mk_ 29 2097151) ?_
       refine pX_ 21 30 (mk_ 29 4194303) ?_
       refine pU_ 22 31 (mk_ 29 8388607) ?_
       refine pU_ 23 32 (mk_ 29 16777215) ?_
       refine pX_ 24 33 (mk_ 29 33554431) ?_
       refine pX_ 25 34 (mk_ 29 67108863) ?_
       refine pX_ 26 35 (mk_ 29 134217727) ?_
       refine pX_ 27 36 (mk_ 29 268435455) ?_
       refine pU_ 28 37 (mk_ 29 536870911) ?_
       refine done_ (done_of HT_.out (by kernel_rfl)) ?_
       try go_wp2
       go_meet
       case rel => exact ⟨_, (true), (by first | rfl | (simp; done) | (simp [*]; done)), H', ⟨by have := HJ3.out; first | omega | exact Nat.le_refl _⟩, ⟨rW_ BK229.out⟩, ⟨gW_ HB.out⟩⟩
    ·replace c10 := Bool.eq_false_iff.mpr c10
     subst c10
     have H1 : (impl_StepOk.j1 kj3 a1 true a0_0 a0_1 a0_2 a0_3 a0_4) = some r := by rw [if_neg (show ¬ (false = true) by decide)] at H; exact H
     clear H
     have H := H1
     clear H1
     have H' := aM_ H
     clear H
     try go_wp2
     replace BK229 := aM_ (blk_drew BK229.out)
     replace HB := aM_ (below_drew1 HB.out)
     refine start_ (n := 29) (S := fun w' => w'.cell? ⟨gb229, 0, none⟩ = some (.int .i64 a0_0) ∧ w'.cell? ⟨gb229, 1, none⟩ = some (.int .i64 a0_1) ∧ w'.cell? ⟨gb229, 2, none⟩ = some (.int .i64 a0_2) ∧ w'.cell? ⟨gb229, 3, none⟩ = some (.int .i64 a0_3) ∧ w'.cell? ⟨gb229, 4, none⟩ = some (.int .i64 a0_4)) (ds := []) (mk_ 29 0) (by kernel_rfl) rfl rfl (bC5_ BK229.out) (fun hHeld => ?_); refine with_tabW impl_StepOk.tab4 impl_StepOk.bits4 (fun HT_ HW_ => ?_)
     generalize wc.drew = w26 at BK229 HB hHeld ⊢
     refine pU_ 0 9 (mk_ 29 1) ?_
     refine tK5_ 1 10 (mk_ 29 3) ?_
     refine oN_ 2 11 (mk_ 29 7) (fun K hK => ?_)
     refine gO_ Try.func106 #[.int .i64 a0_0, .int .i64 1, .int .i64 13] ?_
     with_reducible refine (impl_within.calls a0_0 1 13 false _ A9.out).mono ?_
     rintro e w' ⟨rfl, ⟨nd, rfl⟩⟩
     refine ⟨_, rfl, ?_⟩
     refine kO_ hK (some 11) (bC5_ BK229.out) (fun hHeld => ?_)
     clear hK K
     refine pU_ 3 12 (mk_ 29 15) ?_
     refine pU_ 4 13 (mk_ 29 31) ?_
     refine pX_ 5 14 (mk_ 29 63) ?_
     refine pX_ 6 15 (mk_ 29 127) ?_
     refine pX_ 7 16 (mk_ 29 255) ?_
     refine pX_ 8 17 (mk_ 29 511) ?_
     refine pU_ 9 18 (mk_ 29 1023) ?_
     refine pU_ 10 19 (mk_ 29 2047) ?_
     refine pX_ 11 20 (mk_ 29 4095) ?_
     refine pX_ 12 21 (mk_ 29 8191) ?_
     refine pX_ 13 22 (mk_ 29 16383) ?_
     refine pX_ 14 23 (mk_ 29 32767) ?_
     refine pU_ 15 24 (mk_ 29 65535) ?_
     refine pU_ 16 25 (mk_ 29 131071) ?_
     refine pX_ 17 26 (mk_ 29 262143) ?_
     refine pX_ 18 27 (mk_ 29 524287) ?_
     refine pX_ 19 28 (mk_ 29 1048575) ?_
     refine pX_ 20 29 (mk_ 29 2097151) ?_
     refine pX_ 21 30 (mk_ 29 4194303) ?_
     refine pU_ 22 31 (mk_ 29 8388607) ?_
     refine pU_ 23 32 (mk_ 29 16777215) ?_
     refine pX_ 24 33 (mk_ 29 33554431) ?_
     refine pX_ 25 34 (mk_ 29 67108863) ?_
     refine pX_ 26 35 (mk_ 29 134217727) ?_
     refine pX_ 27 36 (mk_ 29 268435455) ?_
     refine pU_ 28 37 (mk_ 29 536870911) ?_
     refine done_ (done_of HT_.out (by kernel_rfl)) ?_
     try go_wp2
     go_meet
     case rel => exact ⟨_, (true), (by first | rfl | (simp; done) | (simp [*]; done)), H', ⟨by have := HJ3.out; first | omega | exact Nat.le_refl _⟩, ⟨rW_ BK229.out⟩, ⟨gW_ HB.out⟩⟩
   case rest =>
    clear HC8
    try clear c1
    try clear p2
    try clear c10
    try clear c16
    try clear c18
    obtain ⟨kq, x37_7, rfl, HA, HJ7, BK229, HB⟩ := hcut
    cases kq with
    | zero => exact absurd HA.out (by simp [impl_StepOk.j1])
    | succ kj7 =>
     have H := HA.out
     clear HA
     simp only [impl_StepOk.j1] at H
     by_cases c27 : x37_7 = true
     ·subst c27
      have H1 : (some false) = some r := by rw [if_pos rfl] at H; exact H
      clear H
      have H := H1
      clear H1
      obtain rfl := Option.some.inj H
      go_wp2
      go_ret
      exact fI_ HB.out
     ·replace c27 := Bool.eq_false_iff.mpr c27
      subst c27
      have H1 : (if a0_0 = 1 then ((impl_within.f a0_4 (-1000000000) 1000000000).bind fun t240 => (some t240)) else (if a0_0 = 5 then (impl_StepOk.j2 kj7 a1 a0_0 (a0_0 == 5) a0_0 a0_1 a0_2 a0_3 a0_4) else (if a0_0 = 6 then (impl_StepOk.j2 kj7 a1 a0_0 (a0_0 == 6) a0_0 a0_1 a0_2 a0_3 a0_4) else (if a0_0 = 7 then (impl_StepOk.j2 kj7 a1 a0_0 (a0_0 == 7) a0_0 a0_1 a0_2 a0_3 a0_4) else (impl_StepOk.j2 kj7 a1 a0_0 (a0_0 == 8) a0_0 a0_1 a0_2 a0_3 a0_4))))) = some r := by rw [if_neg (show ¬ (false = true) by decide)] at H; exact H
      clear H
      have H := H1
      clear H1
      by_cases c28 : a0_0 = 1
      ·rw [if_pos c28] at H
       have c28b0 : (a0_0 == 1) = true := beq_iff_eq.mpr c28
       have c28b1 : (a0_0 != 1) = false := bne_eq_false_iff_eq.mpr c28
       clear c28
       replace H := Option.bind_eq_some_iff.mp H
       obtain ⟨t240, A290, H⟩ := H
       replace H : (some t240) = some r := H
       have A29 := aM_ A290
       clear A290
       obtain rfl := Option.some.inj H
       have z_30 := bR5_ BK229.out
       go_wp2_with (first | ((with_reducible refine gate_callee (f := 106) rfl ?_); refine gL_ (some 44) Try.func106 #[.int .i64 a0_4, .int .i64 (-1000000000), .int .i64 1000000000] ?_; (with_reducible refine (impl_within.calls a0_4 (-1000000000) 1000000000 t240 _ A29.out).mono ?_); rintro e w' ⟨rfl, ⟨nd, rfl⟩⟩; refine ⟨_, rfl, ?_⟩))
       go_ret
       exact fI_ HB.out
      ·rw [if_neg c28] at H
       have c28b0 : (a0_0 == 1) = false := beq_eq_false_iff_ne.mpr c28
       have c28b1 : (a0_0 != 1) = true := bne_iff_ne.mpr c28
       have HC31 := aM_ H
       clear H
       have z_32 := bR5_ BK229.out
       go_upto_if 45 with (fail)
       go_cut [45] (fun v45 wc => ∃ (kq : Nat) (x45_30 : Bool), v45 = .bool x45_30 ∧ Aside0 (impl_StepOk.j2 kq a1 a0_0 x45_30 a0_0 a0_1 a0_2 a0_3 a0_4 = some r) ∧ Aside0 (kq ≤ kj7) ∧ Aside0 (wc.heap[gb229]? = some (.cells #[.int .i64 a0_0, .int .i64 a0_1, .int .i64 a0_2, .int .i64 a0_3, .int .i64 a0_4] 175 (0, 0))) ∧ Aside0 (Below w.heap.size w wc))
       case first =>
        have H := HC31.out
        clear HC31
        by_cases c33 : a0_0 = 5
        ·rw [if_pos c33] at H
         have c33b0 : (a0_0 == 5) = true := beq_iff_eq.mpr c33
         have c33b1 : (a0_0 != 5) = false := bne_eq_false_iff_eq.mpr c33
         clear c33
         (first | rw [c33b0] | (simp only [i64_w, i32_w]; rw [c33b0]) | skip)
         have H' := aM_ H
         clear H
         go_wp2
         go_meet
         case rel => exact ⟨_, ((a0_0 == 5)), (by first | rfl | (simp; done) | (simp [*]; done)), H', ⟨by have := HJ3.out; have := HJ7.out; first | omega | exact Nat.le_refl _⟩, ⟨rW_ BK229.out⟩, ⟨gW_ HB.out⟩⟩
        ·rw [if_neg c33] at H
         have c33b0 : (a0_0 == 5) = false := beq_eq_false_iff_ne.mpr c33
         have c33b1 : (a0_0 != 5) = true := bne_iff_ne.mpr c33
         (first | rw [c33b0] | (simp only [i64_w, i32_w]; rw [c33b0]) | skip)
         by_cases c34 : a0_0 = 6
         ·rw [if_pos c34] at H
          have c34b0 : (a0_0 == 6) = true := beq_iff_eq.mpr c34
          have c34b1 : (a0_0 != 6) = false := bne_eq_false_iff_eq.mpr c34
          clear c34
          have H' := aM_ H
          clear H
          go_wp2
          go_meet
          case rel => exact ⟨_, ((a0_0 == 6)), (by first | rfl | (simp; done) | (simp [*]; done)), H', ⟨by have := HJ3.out; have := HJ7.out; first | omega | exact Nat.le_refl _⟩, ⟨rW_ BK229.out⟩, ⟨gW_ HB.out⟩⟩
         ·rw [if_neg c34] at H
          have c34b0 : (a0_0 == 6) = false := beq_eq_false_iff_ne.mpr c34
          have c34b1 : (a0_0 != 6) = true := bne_iff_ne.mpr c34
          by_cases c35 : a0_0 = 7
          ·rw [if_pos c35] at H
           have c35b0 : (a0_0 == 7) = true := beq_iff_eq.mpr c35
           have c35b1 : (a0_0 != 7) = false := bne_eq_false_iff_eq.mpr c35
           clear c35
           have H' := aM_ H
           clear H
           go_wp2
           go_meet
           case rel => exact ⟨_, ((a0_0 == 7)), (by first | rfl | (simp; done) | (simp [*]; done)), H', ⟨by have := HJ3.out; have := HJ7.out; first | omega | exact Nat.le_refl _⟩, ⟨rW_ BK229.out⟩, ⟨gW_ HB.out⟩⟩
          ·rw [if_neg c35] at H
           have c35b0 : (a0_0 == 7) = false := beq_eq_false_iff_ne.mpr c35
           have c35b1 : (a0_0 != 7) = true := bne_iff_ne.mpr c35
           have H' := aM_ H
           clear H
           go_wp2
           go_meet
           case rel => exact ⟨_, ((a0_0 == 8)), (by first | rfl | (simp; done) | (simp [*]; done)), H', ⟨by have := HJ3.out; have := HJ7.out; first | omega | exact Nat.le_refl _⟩, ⟨rW_ BK229.out⟩, ⟨gW_ HB.out⟩⟩
       case rest =>
        clear HC31
        try clear c1
        try clear c2
        try clear p2
        try clear c3
        try clear c10
        try clear c16
        try clear c18
        try clear c27
        try clear c28
        try clear c28b0
        try clear c28b1
        try clear c33
        try clear c33b0
        try clear c33b1
        try clear c34
        try clear c34b0
        try clear c34b1
        try clear c35
        try clear c35b0
        try clear c35b1
        try clear z_30
        try clear z_32
        try clear p2
        obtain ⟨kq, x45_30, rfl, HA, HJ30, BK229, HB⟩ := hcut
        cases kq with
        | zero => exact absurd HA.out (by simp [impl_StepOk.j2])
        | succ kj30 =>
         have H := HA.out
         clear HA
         simp only [impl_StepOk.j2] at H
         by_cases c36 : x45_30 = true
         ·subst c36
          have H1 : ((impl_isCell.f a0_4).bind fun t241 => (some t241)) = some r := by rw [if_pos rfl] at H; exact H
          clear H
          have H := H1
          clear H1
          replace H := Option.bind_eq_some_iff.mp H
          obtain ⟨t241, A370, H⟩ := H
          replace H : (some t241) = some r := H
          have A37 := aM_ A370
          clear A370
          obtain rfl := Option.some.inj H
          have z_38 := bR5_ BK229.out
          go_wp2_with (first | ((with_reducible refine gate_callee (f := 188) rfl ?_); refine gL_ (some 52) Try.func188 #[.int .i64 a0_4] ?_; (with_reducible refine (impl_isCell.calls a0_4 t241 _ A37.out).mono ?_); rintro e w' ⟨rfl, ⟨nd, rfl⟩⟩; refine ⟨_, rfl, ?_⟩))
          go_ret
          exact fI_ HB.out
         ·replace c36 := Bool.eq_false_iff.mpr c36
          subst c36
          have H1 : (if a0_0 = 10 then (impl_StepOk.j3 kj30 a1 (a0_0 == 10) a0_0 a0_1 a0_2 a0_3 a0_4) else (impl_StepOk.j3 kj30 a1 (a0_0 == 11) a0_0 a0_1 a0_2 a0_3 a0_4)) = some r := by rw [if_neg (show ¬ (false = true) by decide)] at H; exact H
          clear H
          have H := H1
          clear H1
          have HC39 := aM_ H
          clear H
          go_upto_if 53 with (fail)
          go_cut [53] (fun v53 wc => ∃ (kq : Nat) (x53_38 : Bool), v53 = .bool x53_38 ∧ Aside0 (impl_StepOk.j3 kq a1 x53_38 a0_0 a0_1 a0_2 a0_3 a0_4 = some r) ∧ Aside0 (kq ≤ kj30) ∧ Aside0 (wc.heap[gb229]? = some (.cells #[.int .i64 a0_0, .int .i64 a0_1, .int .i64 a0_2, .int .i64 a0_3, .int .i64 a0_4] 175 (0, 0))) ∧ Aside0 (Below w.heap.size w wc))
          case first =>
           have H := HC39.out
           clear HC39
           by_cases c40 : a0_0 = 10
           ·rw [if_pos c40] at H
            have c40b0 : (a0_0 == 10) = true := beq_iff_eq.mpr c40
            have c40b1 : (a0_0 != 10) = false := bne_eq_false_iff_eq.mpr c40
            clear c40
            (first | rw [c40b0] | (simp only [i64_w, i32_w]; rw [c40b0]) | skip)
            have H' := aM_ H
            clear H
            go_wp2
            go_meet
            case rel => exact ⟨_, ((a0_0 == 10)), (by first | rfl | (simp; done) | (simp [*]; done)), H', ⟨by have := HJ3.out; have := HJ7.out; have := HJ30.out; first | omega | exact Nat.le_refl _⟩, ⟨rW_ BK229.out⟩, ⟨gW_ HB.out⟩⟩
           ·rw [if_neg c40] at H
            have c40b0 : (a0_0 == 10) = false := beq_eq_false_iff_ne.mpr c40
            have c40b1 : (a0_0 != 10) = true := bne_iff_ne.mpr c40
            (first | rw [c40b0] | (simp only [i64_w, i32_w]; rw [c40b0]) | skip)
            have H' := aM_ H
            clear H
            go_wp2
            go_meet
            case rel => exact ⟨_, ((a0_0 == 11)), (by first | rfl | (simp; done) | (simp [*]; done)), H', ⟨by have := HJ3.out; have := HJ7.out; have := HJ30.out; first | omega | exact Nat.le_refl _⟩, ⟨rW_ BK229.out⟩, ⟨gW_ HB.out⟩⟩
          case rest =>
           clear HC39
           try clear c1
           try clear c2
           try clear p2
           try clear c3
           try clear c4
           try clear c10
           try clear c16
           try clear c18
           try clear c27
           try clear c28
           try clear c28b0
           try clear c28b1
           try clear c33
           try clear c33b0
           try clear c33b1
           try clear c34
           try clear c34b0
           try clear c34b1
           try clear c35
           try clear c35b0
           try clear c35b1
           try clear c36
           try clear c40
           try clear c40b0
           try clear c40b1
           try clear z_30
           try clear z_32
           try clear z_38
           try clear p2
           obtain ⟨kq, x53_38, rfl, HA, HJ38, BK229, HB⟩ := hcut
           cases kq with
           | zero => exact absurd HA.out (by simp [impl_StepOk.j3])
           | succ kj38 =>
            have H := HA.out
            clear HA
            simp only [impl_StepOk.j3] at H
            by_cases c41 : x53_38 = true
            ·subst c41
             have H1 : (if a0_4 ≥ 0 then (some (decide (a0_4 < a1))) else (some false)) = some r := by rw [if_pos rfl] at H; exact H
             clear H
             have H := H1
             clear H1
             by_cases c42 : a0_4 ≥ 0
             ·rw [if_pos c42] at H
              have c42b0 : decide (0 ≤ a0_4) = true := decide_eq_true c42
              clear c42
              obtain rfl := Option.some.inj H
              have z_43 := bR5_ BK229.out
              go_wp2
              go_ret
              exact fI_ HB.out
             ·rw [if_neg c42] at H
              have c42b0 : decide (0 ≤ a0_4) = false := decide_eq_false c42
              clear c42
              obtain rfl := Option.some.inj H
              have z_44 := bR5_ BK229.out
              go_wp2
              go_ret
              exact fI_ HB.out
            ·replace c41 := Bool.eq_false_iff.mpr c41
             subst c41
             have H1 : (some true) = some r := by rw [if_neg (show ¬ (false = true) by decide)] at H; exact H
             clear H
             have H := H1
             clear H1
             obtain rfl := Option.some.inj H
             go_wp2
             go_ret
             exact fI_ HB.out
end Go.Proofs.Ytobachfngmpeiaa.PFnExactMachineNew
namespace Go.Proofs.Ytobachfngmpeiaa.PFnExactMachineNew
open Go.RowKit Go.Proofs.YtobachfngmpeiaaW.PrintWords Go.Proofs.YtobachfngmpeiaaW.PrintLast Go.Proofs.YtobachfngmpeiaaW.PrintMore
attribute [local go_sem] max2_int min2_int max_two min_two max_three min_three max_four min_four   -- for this text's walks alone
set_option linter.unusedVariables false
set_option linter.unusedSimpArgs false
def impl_CodeOk.l0 : Nat → List (S175) → List (S175) → Int → Int → Option (Bool)
  | 0, _, _, _, _ => none
  | k + 1, x0, x10, x11, x12 => if x12 < x11 then (if 0 ≤ x12 then (if x12 < (x10.length : Int) then ((impl_StepOk.f k ((rd_T175 x10 x12).f0) ((rd_T175 x10 x12).f1) ((rd_T175 x10 x12).f2) ((rd_T175 x10 x12).f3) ((rd_T175 x10 x12).f4) (x0.length : Int)).bind fun t246 => (if t246 = true then (impl_CodeOk.l0 k x0 x10 x11 (wrap64 (x12 + 1))) else (some false))) else (none)) else (none)) else (if 0 ≤ (wrap64 ((x0.length : Int) - 1)) then (if (wrap64 ((x0.length : Int) - 1)) < (x0.length : Int) then (if ((rd_T175 x0 (wrap64 ((x0.length : Int) - 1))).f0) = 10 then (some true) else (if ((rd_T175 x0 (wrap64 ((x0.length : Int) - 1))).f0) = 12 then (some true) else (some (((rd_T175 x0 (wrap64 ((x0.length : Int) - 1))).f0) == 13)))) else (none)) else (none))
def impl_CodeOk.f (k : Nat) (l0 : List (S175)) : Option (Bool) := (impl_within.f (l0.length : Int) 1 800).bind fun t242 => (if t242 = true then (impl_CodeOk.l0 k l0 l0 (l0.length : Int) 0) else (some false))
set_option maxHeartbeats 8000000 in
set_option maxRecDepth 100000 in
theorem impl_CodeOk.calls (k : Nat) (A0 : Option Addr) (c0 : Nat) (l0 : List (S175)) (r : Bool) (w : World) (hr0 : Kd.C k175 w A0 l0.length l0) (hc0 : l0.length ≤ c0) (h : impl_CodeOk.f k l0 = some r) :
  Calls Try.prog 136 #[.slice A0 l0.length c0] w fun e w' => e = .returned (.bool r) ∧ Below w.heap.size w w' := by
 have hu175 := Try.underlying175
 have HR0 := aM_ hr0
 have HC0 := aM_ hc0
 clear hr0 hc0
 have HB := aM_ (Below.refl w.heap.size w)
 have H : ((impl_within.f (l0.length : Int) 1 800).bind fun t242 => (if t242 = true then (impl_CodeOk.l0 k l0 l0 (l0.length : Int) 0) else (some false))) = some r := h
 clear h
 replace H := Option.bind_eq_some_iff.mp H
 obtain ⟨t242, A20, H⟩ := H
 replace H : (if t242 = true then (impl_CodeOk.l0 k l0 l0 (l0.length : Int) 0) else (some false)) = some r := H
 have A2 := aM_ A20
 clear A20
 by_cases c3 : t242 = true
 ·subst c3
  have H1 : (impl_CodeOk.l0 k l0 l0 (l0.length : Int) 0) = some r := by rw [if_pos rfl] at H; exact H
  clear H
  have H := H1
  clear H1
  have H' := aM_ H
  clear H
  go_enter Try.func136, Try.ntmps136
  go_wp2_with (first | ((with_reducible refine gate_callee (f := 106) rfl ?_); refine gL_ (some 8) Try.func106 #[.int .i64 (l0.length : Int), .int .i64 1, .int .i64 800] ?_; (with_reducible refine (impl_within.calls (l0.length : Int) 1 800 true _ A2.out).mono ?_); rintro e w' ⟨rfl, ⟨nd, rfl⟩⟩; refine ⟨_, rfl, ?_⟩))
  go_loopg [12] k (fun kq v12 w' => ∃ (x12_1 : Int), v12 = .int .i64 x12_1 ∧ Aside0 (impl_CodeOk.l0 kq l0 l0 (l0.length : Int) x12_1 = some r) ∧ Aside0 (kq ≤ k) ∧ Aside0 (Below w.heap.size w w'))
  case atStart => exact ⟨(0), (by first | rfl | (simp; done) | (simp [*]; done)), H', ⟨Nat.le_refl _⟩, ⟨gW_ HB.out⟩⟩
  case round =>
   clear H'
   try clear c1
   try clear p2
   try clear c3
   obtain ⟨x12_1, rfl, HA, HK1, HB⟩ := hrel
   cases gk with
   | zero => exact absurd HA.out (by simp [impl_CodeOk.l0])
   | succ k1 =>
    have H := HA.out
    clear HA
    simp only [impl_CodeOk.l0] at H
    by_cases c4 : x12_1 < (l0.length : Int)
    ·rw [if_pos c4] at H
     have c4b0 : decide (x12_1 < (l0.length : Int)) = true := decide_eq_true c4
     clear c4
     by_cases c5 : 0 ≤ x12_1
     ·rw [if_pos c5] at H
      have c5b0 : decide (0 ≤ x12_1) = true := decide_eq_true c5
      clear c5
      by_cases c6 : x12_1 < (l0.length : Int)
      ·rw [if_pos c6] at H
       have c6b0 : decide (x12_1 < (l0.length : Int)) = true := decide_eq_true c6
       clear c6
       replace H := Option.bind_eq_some_iff.mp H
       obtain ⟨t246, A70, H⟩ := H
       replace H : (if t246 = true then (impl_CodeOk.l0 k1 l0 l0 (l0.length : Int) (wrap64 (x12_1 + 1))) else (some false)) = some r := H
       have A7 := aM_ A70
       clear A70
       by_cases c8 : t246 = true
       ·subst c8
        have H1 : (impl_CodeOk.l0 k1 l0 l0 (l0.length : Int) (wrap64 (x12_1 + 1))) = some r := by rw [if_pos rfl] at H; exact H
        clear H
        have H := H1
        clear H1
        have H' := aM_ H
        clear H
        have p244 : 0 ≤ (x12_1 : Int) := of_decide_eq_true (by first | (with_reducible assumption) | assumption)
        have q244 : x12_1 < (l0.length : Int) := of_decide_eq_true (by first | (with_reducible assumption) | assumption)
        obtain ⟨ad244, e244, hx244_0, hx244_1, hx244_2, hx244_3, hx244_4⟩ := at_T175 HR0.out x12_1 p244 q244
        cases e244
        replace hx244_0 := cB_ HB.out hx244_0
        replace hx244_1 := cB_ HB.out hx244_1
        replace hx244_2 := cB_ HB.out hx244_2
        replace hx244_3 := cB_ HB.out hx244_3
        replace hx244_4 := cB_ HB.out hx244_4
        replace p244 := eq_true p244
        replace q244 := eq_true q244
        go_wp2_with (first | ((with_reducible refine gate_dst (N := 4) rfl ?_); refine bX_ 4 (cs := #[.int .i64 0, .int .i64 0, .int .i64 0, .int .i64 0, .int .i64 0]) (t := 175) ?_; intro gb245 hg w9 hbox hb; have BK245 := aM_ (hbox); have GE245 := aM_ (sZ_ hg HB.out); replace HB := aM_ (sT_ HB.out hb); clear hb hbox hg; have z_10 := bR5_ BK245.out) | ((with_reducible refine gate_callee (f := 167) rfl ?_); refine gL_ (some 19) Try.func167 #[.agg #[.int .i64 ((rd_T175 l0 x12_1).f0), .int .i64 ((rd_T175 l0 x12_1).f1), .int .i64 ((rd_T175 l0 x12_1).f2), .int .i64 ((rd_T175 l0 x12_1).f3), .int .i64 ((rd_T175 l0 x12_1).f4)], .int .i64 (l0.length : Int)] ?_; (with_reducible refine (impl_StepOk.calls k1 ((rd_T175 l0 x12_1).f0) ((rd_T175 l0 x12_1).f1) ((rd_T175 l0 x12_1).f2) ((rd_T175 l0 x12_1).f3) ((rd_T175 l0 x12_1).f4) (l0.length : Int) true _ A7.out).mono ?_); rintro e w11 ⟨rfl, hb⟩; refine ⟨_, rfl, ?_⟩; replace BK245 := aM_ (blk_below (g := gb245) (o := .cells #[.int .i64 ((rd_T175 l0 x12_1).f0), .int .i64 ((rd_T175 l0 x12_1).f1), .int .i64 ((rd_T175 l0 x12_1).f2), .int .i64 ((rd_T175 l0 x12_1).f3), .int .i64 ((rd_T175 l0 x12_1).f4)] 175 (0, 0)) (by (with_reducible repeat (first | refine bN_ ?_ _ | refine bD_ ?_ | refine bA_ ?_ _)); refine blk_put (cs := #[.int .i64 ((rd_T175 l0 x12_1).f0), .int .i64 ((rd_T175 l0 x12_1).f1), .int .i64 ((rd_T175 l0 x12_1).f2), .int .i64 ((rd_T175 l0 x12_1).f3), .int .i64 0]) ?_ 4 _ rfl; refine blk_put (cs := #[.int .i64 ((rd_T175 l0 x12_1).f0), .int .i64 ((rd_T175 l0 x12_1).f1), .int .i64 ((rd_T175 l0 x12_1).f2), .int .i64 0, .int .i64 0]) ?_ 3 _ rfl; refine blk_put (cs := #[.int .i64 ((rd_T175 l0 x12_1).f0), .int .i64 ((rd_T175 l0 x12_1).f1), .int .i64 0, .int .i64 0, .int .i64 0]) ?_ 2 _ rfl; refine blk_put (cs := #[.int .i64 ((rd_T175 l0 x12_1).f0), .int .i64 0, .int .i64 0, .int .i64 0, .int .i64 0]) ?_ 1 _ rfl; refine blk_put (cs := #[.int .i64 0, .int .i64 0, .int .i64 0, .int .i64 0, .int .i64 0]) ?_ 0 _ rfl; exact rW_ BK245.out) hb); replace HB := aM_ (sT_ HB.out hb)))
        go_roundg k1
        case measure => have := HK1.out; omega
        case rel => exact ⟨(wrap64 (x12_1 + 1)), (by first | rfl | (simp; done) | (simp [*]; done)), H', ⟨by have := HK1.out; omega⟩, ⟨gW_ HB.out⟩⟩
       ·replace c8 := Bool.eq_false_iff.mpr c8
        subst c8
        have H1 : (some false) = some r := by rw [if_neg (show ¬ (false = true) by decide)] at H; exact H
        clear H
        have H := H1
        clear H1
        obtain rfl := Option.some.inj H
        have p244 : 0 ≤ (x12_1 : Int) := of_decide_eq_true (by first | (with_reducible assumption) | assumption)
        have q244 : x12_1 < (l0.length : Int) := of_decide_eq_true (by first | (with_reducible assumption) | assumption)
        obtain ⟨ad244, e244, hx244_0, hx244_1, hx244_2, hx244_3, hx244_4⟩ := at_T175 HR0.out x12_1 p244 q244
        cases e244
        replace hx244_0 := cB_ HB.out hx244_0
        replace hx244_1 := cB_ HB.out hx244_1
        replace hx244_2 := cB_ HB.out hx244_2
        replace hx244_3 := cB_ HB.out hx244_3
        replace hx244_4 := cB_ HB.out hx244_4
        replace p244 := eq_true p244
        replace q244 := eq_true q244
        go_wp2_with (first | ((with_reducible refine gate_dst (N := 4) rfl ?_); refine bX_ 4 (cs := #[.int .i64 0, .int .i64 0, .int .i64 0, .int .i64 0, .int .i64 0]) (t := 175) ?_; intro gb245 hg w12 hbox hb; have BK245 := aM_ (hbox); have GE245 := aM_ (sZ_ hg HB.out); replace HB := aM_ (sT_ HB.out hb); clear hb hbox hg; have z_13 := bR5_ BK245.out) | ((with_reducible refine gate_callee (f := 167) rfl ?_); refine gL_ (some 19) Try.func167 #[.agg #[.int .i64 ((rd_T175 l0 x12_1).f0), .int .i64 ((rd_T175 l0 x12_1).f1), .int .i64 ((rd_T175 l0 x12_1).f2), .int .i64 ((rd_T175 l0 x12_1).f3), .int .i64 ((rd_T175 l0 x12_1).f4)], .int .i64 (l0.length : Int)] ?_; (with_reducible refine (impl_StepOk.calls k1 ((rd_T175 l0 x12_1).f0) ((rd_T175 l0 x12_1).f1) ((rd_T175 l0 x12_1).f2) ((rd_T175 l0 x12_1).f3) ((rd_T175 l0 x12_1).f4) (l0.length : Int) false _ A7.out).mono ?_); rintro e w14 ⟨rfl, hb⟩; refine ⟨_, rfl, ?_⟩; replace BK245 := aM_ (blk_below (g := gb245) (o := .cells #[.int .i64 ((rd_T175 l0 x12_1).f0), .int .i64 ((rd_T175 l0 x12_1).f1), .int .i64 ((rd_T175 l0 x12_1).f2), .int .i64 ((rd_T175 l0 x12_1).f3), .int .i64 ((rd_T175 l0 x12_1).f4)] 175 (0, 0)) (by (with_reducible repeat (first | refine bN_ ?_ _ | refine bD_ ?_ | refine bA_ ?_ _)); refine blk_put (cs := #[.int .i64 ((rd_T175 l0 x12_1).f0), .int .i64 ((rd_T175 l0 x12_1).f1), .int .i64 ((rd_T175 l0 x12_1).f2), .int .i64 ((rd_T175 l0 x12_1).f3), .int .i64 0]) ?_ 4 _ rfl; refine blk_put (cs := #[.int .i64 ((rd_T175 l0 x12_1).f0), .int .i64 ((rd_T175 l0 x12_1).f1), .int .i64 ((rd_T175 l0 x12_1).f2), .int .i64 0, .int .i64 0]) ?_ 3 _ rfl; refine blk_put (cs := #[.int .i64 ((rd_T175 l0 x12_1).f0), .int .i64 ((rd_T175 l0 x12_1).f1), .int .i64 0, .int .i64 0, .int .i64 0]) ?_ 2 _ rfl; refine blk_put (cs := #[.int .i64 ((rd_T175 l0 x12_1).f0), .int .i64 0, .int .i64 0, .int .i64 0, .int .i64 0]) ?_ 1 _ rfl; refine blk_put (cs := #[.int .i64 0, .int .i64 0, .int .i64 0, .int .i64 0, .int .i64 0]) ?_ 0 _ rfl; exact rW_ BK245.out) hb); replace HB := aM_ (sT_ HB.out hb)))
        go_ret
        exact fI_ HB.out
      ·rw [if_neg c6] at H
       exact absurd H (by simp)
     ·rw [if_neg c5] at H
      exact absurd H (by simp)
    ·rw [if_neg c4] at H
     have c4b0 : decide (x12_1 < (l0.length : Int)) = false := decide_eq_false c4
     clear c4
     obtain ⟨ji15, hji15⟩ : ∃ j_ : Int, (wrap64 ((l0.length : Int) - 1)) = j_ := ⟨_, rfl⟩
     replace H : (if 0 ≤ (ji15) then (if (ji15) < (l0.length : Int) then (if ((rd_T175 l0 (ji15)).f0) = 10 then (some true) else (if ((rd_T175 l0 (ji15)).f0) = 12 then (some true) else (some (((rd_T175 l0 (ji15)).f0) == 13)))) else (none)) else (none)) = some r := by first | (rw [hji15] at H; exact H) | (simp only [hji15] at H ⊢; exact H)
     have hji15w : (IntKind.i64.wrap ((l0.length : Int) - 1)) = ji15 := (i64_w _).trans hji15
     by_cases c16 : 0 ≤ (ji15)
     ·rw [if_pos c16] at H
      have c16b0 : decide (0 ≤ (ji15)) = true := decide_eq_true c16
      clear c16
      by_cases c17 : (ji15) < (l0.length : Int)
      ·rw [if_pos c17] at H
       have c17b0 : decide ((ji15) < (l0.length : Int)) = true := decide_eq_true c17
       clear c17
       by_cases c18 : ((rd_T175 l0 (ji15)).f0) = 10
       ·rw [if_pos c18] at H
        have c18b0 : (((rd_T175 l0 (ji15)).f0) == 10) = true := beq_iff_eq.mpr c18
        have c18b1 : (((rd_T175 l0 (ji15)).f0) != 10) = false := bne_eq_false_iff_eq.mpr c18
        clear c18
        obtain rfl := Option.some.inj H
        have p243 : 0 ≤ ((ji15) : Int) := of_decide_eq_true (by first | (with_reducible assumption) | assumption)
        have q243 : (ji15) < (l0.length : Int) := of_decide_eq_true (by first | (with_reducible assumption) | assumption)
        obtain ⟨ad243, e243, hx243_0, hx243_1, hx243_2, hx243_3, hx243_4⟩ := at_T175 HR0.out (ji15) p243 q243
        cases e243
        replace hx243_0 := cB_ HB.out hx243_0
        replace hx243_1 := cB_ HB.out hx243_1
        replace hx243_2 := cB_ HB.out hx243_2
        replace hx243_3 := cB_ HB.out hx243_3
        replace hx243_4 := cB_ HB.out hx243_4
        replace p243 := eq_true p243
        replace q243 := eq_true q243
        go_wp2
        go_ret
        exact ⟨by first | rfl | (simp [errW_none, errW_some] <;> rfl) | (simp only [← hji15]; first | rfl | (simp [errW_none, errW_some] <;> rfl)) | (simp [*, errW_none, errW_some] <;> rfl), gB_ HB.out⟩
       ·rw [if_neg c18] at H
        have c18b0 : (((rd_T175 l0 (ji15)).f0) == 10) = false := beq_eq_false_iff_ne.mpr c18
        have c18b1 : (((rd_T175 l0 (ji15)).f0) != 10) = true := bne_iff_ne.mpr c18
        by_cases c19 : ((rd_T175 l0 (ji15)).f0) = 12
        ·rw [if_pos c19] at H
         have c19b0 : (((rd_T175 l0 (ji15)).f0) == 12) = true := beq_iff_eq.mpr c19
         have c19b1 : (((rd_T175 l0 (ji15)).f0) != 12) = false := bne_eq_false_iff_eq.mpr c19
         clear c19
         obtain rfl := Option.some.inj H
         have p243 : 0 ≤ ((ji15) : Int) := of_decide_eq_true (by first | (with_reducible assumption) | assumption)
         have q243 : (ji15) < (l0.length : Int) := of_decide_eq_true (by first | (with_reducible assumption) | assumption)
         obtain ⟨ad243, e243, hx243_0, hx243_1, hx243_2, hx243_3, hx243_4⟩ := at_T175 HR0.out (ji15) p243 q243
         cases e243
         replace hx243_0 := cB_ HB.out hx243_0
         replace hx243_1 := cB_ HB.out hx243_1
         replace hx243_2 := cB_ HB.out hx243_2
         replace hx243_3 := cB_ HB.out hx243_3
         replace hx243_4 := cB_ HB.out hx243_4
         replace p243 := eq_true p243
         replace q243 := eq_true q243
         go_wp2
         go_ret
         exact ⟨by first | rfl | (simp [errW_none, errW_some] <;> rfl) | (simp only [← hji15]; first | rfl | (simp [errW_none, errW_some] <;> rfl)) | (simp [*, errW_none, errW_some] <;> rfl), gB_ HB.out⟩
        ·rw [if_neg c19] at H
         have c19b0 : (((rd_T175 l0 (ji15)).f0) == 12) = false := beq_eq_false_iff_ne.mpr c19
         have c19b1 : (((rd_T175 l0 (ji15)).f0) != 12) = true := bne_iff_ne.mpr c19
         obtain rfl := Option.some.inj H
         have p243 : 0 ≤ ((ji15) : Int) := of_decide_eq_true (by first | (with_reducible assumption) | assumption)
         have q243 : (ji15) < (l0.length : Int) := of_decide_eq_true (by first | (with_reducible assumption) | assumption)
         obtain ⟨ad243, e243, hx243_0, hx243_1, hx243_2, hx243_3, hx243_4⟩ := at_T175 HR0.out (ji15) p243 q243
         cases e243
         replace hx243_0 := cB_ HB.out hx243_0
         replace hx243_1 := cB_ HB.out hx243_1
         replace hx243_2 := cB_ HB.out hx243_2
         replace hx243_3 := cB_ HB.out hx243_3
         replace hx243_4 := cB_ HB.out hx243_4
         replace p243 := eq_true p243
         replace q243 := eq_true q243
         go_wp2
         go_ret
         exact ⟨by first | rfl | (simp [errW_none, errW_some] <;> rfl) | (simp only [← hji15]; first | rfl | (simp [errW_none, errW_some] <;> rfl)) | (simp [*, errW_none, errW_some] <;> rfl), gB_ HB.out⟩
      ·rw [if_neg c17] at H
       exact absurd H (by simp)
     ·rw [if_neg c16] at H
      exact absurd H (by simp)
 ·replace c3 := Bool.eq_false_iff.mpr c3
  subst c3
  have H1 : (some false) = some r := by rw [if_neg (show ¬ (false = true) by decide)] at H; exact H
  clear H
  have H := H1
  clear H1
  obtain rfl := Option.some.inj H
  go_enter Try.func136, Try.ntmps136
  go_wp2_with (first | ((with_reducible refine gate_callee (f := 106) rfl ?_); refine gL_ (some 8) Try.func106 #[.int .i64 (l0.length : Int), .int .i64 1, .int .i64 800] ?_; (with_reducible refine (impl_within.calls (l0.length : Int) 1 800 false _ A2.out).mono ?_); rintro e w' ⟨rfl, ⟨nd, rfl⟩⟩; refine ⟨_, rfl, ?_⟩))
  go_ret
  exact fI_ HB.out
end Go.Proofs.Ytobachfngmpeiaa.PFnExactMachineNew
