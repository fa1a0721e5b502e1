/- A part of the proof that the law FnExactSourceNew holds for every input: the words, functions and walks that its row needs, without a condition of their own. -/
import Derived.Test.YtobachfngmpeiaaZFnExactSourceNewa2
import Derived.Test.YtobachfngmpeiaaZFnExactSourceNews
namespace Go.Proofs.Ytobachfngmpeiaa.PFnExactSourceNew
open Go.RowKit Go.Proofs.YtobachfngmpeiaaW.PrintWords Go.Proofs.YtobachfngmpeiaaW.PrintLast Go.Proofs.YtobachfngmpeiaaW.PrintMore
attribute [local go_sem] max2_int min2_int max_two min_two max_three min_three max_four min_four   -- for this text's walks alone
set_option linter.unusedVariables false
set_option linter.unusedSimpArgs false
attribute [local go_sem high] eqA192
mutual
def spec_InsOk.j0 : Nat → Int → Int → Bool → Int → Int → Int → Int → Int → Option (Bool)
  | 0, _, _, _, _, _, _, _, _ => none
  | k + 1, x1, x2, x29, x107000, x107001, x107002, x107003, x107004 => if x29 = true then (some false) else (if x107004 ≥ 0 then (spec_InsOk.j1 k x2 (decide (x107004 < x1)) x107000 x107001 x107002 x107003 x107004) else (spec_InsOk.j1 k x2 false x107000 x107001 x107002 x107003 x107004))
def spec_InsOk.j1 : Nat → Int → Bool → Int → Int → Int → Int → Int → Option (Bool)
  | 0, _, _, _, _, _, _, _ => none
  | k + 1, x2, x7, x107000, x107001, x107002, x107003, x107004 => (spec_l1In.f x107004 0 (wrap64 (x2 - 1))).bind fun t111 => (if x107000 = 1 then ((spec_l1In.f x107004 (-1000000000) 1000000000).bind fun t112 => (if t112 = true then (if x107002 = 0 then (some (x107003 == 0)) else (some false)) else (some false))) else (if x107000 = 2 then (spec_InsOk.j2 k x7 t111 x107000 (x107000 == 2) x107000 x107001 x107002 x107003 x107004) else (if x107000 = 3 then (spec_InsOk.j2 k x7 t111 x107000 (x107000 == 3) x107000 x107001 x107002 x107003 x107004) else (spec_InsOk.j2 k x7 t111 x107000 (x107000 == 4) x107000 x107001 x107002 x107003 x107004))))
def spec_InsOk.j2 : Nat → Bool → Bool → Int → Bool → Int → Int → Int → Int → Int → Option (Bool)
  | 0, _, _, _, _, _, _, _, _, _ => none
  | k + 1, x7, x8, x45, x61, x107000, x107001, x107002, x107003, x107004 => if x61 = true then (some (x107004 == 0)) else (if x45 = 5 then (if x8 = true then (if x107001 = 0 then (some (x107003 == 0)) else (some false)) else (some false)) else (if x45 = 6 then (spec_InsOk.j3 k x7 x8 x45 (x45 == 6) x107000 x107001 x107002 x107003 x107004) else (spec_InsOk.j3 k x7 x8 x45 (x45 == 8) x107000 x107001 x107002 x107003 x107004)))
def spec_InsOk.j3 : Nat → Bool → Bool → Int → Bool → Int → Int → Int → Int → Int → Option (Bool)
  | 0, _, _, _, _, _, _, _, _, _ => none
  | k + 1, x7, x8, x45, x81, x107000, x107001, x107002, x107003, x107004 => if x81 = true then (if x8 = true then (if x107002 = 0 then (some (x107001 != x107003)) else (some false)) else (some false)) else (if x45 = 7 then (if x8 = true then (some (x107003 == 0)) else (some false)) else (if x45 = 9 then (if x8 = true then (if x107001 = 0 then (if x107002 = 0 then (some (x107003 == 0)) else (some false)) else (some false)) else (some false)) else (if x45 = 10 then (if x107001 = 0 then (if x107003 = 0 then (some (x107004 == 0)) else (some false)) else (some false)) else (if x45 = 11 then (if x7 = true then (if x107001 = 0 then (if x107002 = 0 then (some (x107003 == 0)) else (some false)) else (some false)) else (some false)) else (if x45 = 12 then (if x7 = true then (if x107001 = 0 then (some (x107003 == 0)) else (some false)) else (some false)) else (if x45 = 13 then (some (x107000 == 13 && (x107001 == 0 && (x107002 == 0 && (x107003 == 0 && (x107004 == 0)))))) else (some false)))))))
end
def spec_InsOk.f (k : Nat) (a0_0 : Int) (a0_1 : Int) (a0_2 : Int) (a0_3 : Int) (a0_4 : Int) (a1 : Int) (a2 : Int) : Option (Bool) := (spec_l1In.f a0_1 0 3).bind fun t107 => (if t107 = true then ((spec_l1In.f a0_2 0 3).bind fun t108 => (if t108 = true then ((spec_l1In.f a0_3 0 3).bind fun t109 => (if t109 = true then ((spec_l1In.f a2 0 3).bind fun t110 => (spec_InsOk.j0 k a1 a2 (!t110) a0_0 a0_1 a0_2 a0_3 a0_4)) else (spec_InsOk.j0 k a1 a2 true a0_0 a0_1 a0_2 a0_3 a0_4))) else (spec_InsOk.j0 k a1 a2 true a0_0 a0_1 a0_2 a0_3 a0_4))) else (spec_InsOk.j0 k a1 a2 true a0_0 a0_1 a0_2 a0_3 a0_4))
set_option maxHeartbeats 8000000 in
set_option maxRecDepth 100000 in
theorem spec_InsOk.calls (k : Nat) (a0_0 : Int) (a0_1 : Int) (a0_2 : Int) (a0_3 : Int) (a0_4 : Int) (a1 : Int) (a2 : Int) (r : Bool) (w : World) (h : spec_InsOk.f k a0_0 a0_1 a0_2 a0_3 a0_4 a1 a2 = some r) :
  Calls Try.prog 162 #[.agg #[.int .i64 a0_0, .int .i64 a0_1, .int .i64 a0_2, .int .i64 a0_3, .int .i64 a0_4], .int .i64 a1, .int .i64 a2] w fun e w' => e = .returned (.bool r) ∧ Below w.heap.size w w' := by
 have hu192 := Try.underlying192
 have HB := aM_ (Below.refl w.heap.size w)
 have H : ((spec_l1In.f a0_1 0 3).bind fun t107 => (if t107 = true then ((spec_l1In.f a0_2 0 3).bind fun t108 => (if t108 = true then ((spec_l1In.f a0_3 0 3).bind fun t109 => (if t109 = true then ((spec_l1In.f a2 0 3).bind fun t110 => (spec_InsOk.j0 k a1 a2 (!t110) a0_0 a0_1 a0_2 a0_3 a0_4)) else (spec_InsOk.j0 k a1 a2 true a0_0 a0_1 a0_2 a0_3 a0_4))) else (spec_InsOk.j0 k a1 a2 true a0_0 a0_1 a0_2 a0_3 a0_4))) else (spec_InsOk.j0 k a1 a2 true a0_0 a0_1 a0_2 a0_3 a0_4))) = some r := h
 clear h
 have HC4 := aM_ H
 clear H
 go_enter Try.func162, Try.ntmps162
 go_upto_region 1 with (first | ((with_reducible refine gate_dst (N := 3) rfl ?_); refine bX_ 3 (cs := #[.int .i64 a0_0, .int .i64 a0_1, .int .i64 a0_2, .int .i64 a0_3, .int .i64 a0_4]) (t := 192) ?_; intro gb106 hg w5 hbox hb; have n0 := aM_ (sT_ HB.out hb); have n1 := aM_ (hbox); have n2 := aM_ (sZ_ hg HB.out); have n3 := aM_ (sZ_ hg HB.out); clear HB; have HB := n0; have BK106 := n1; have GW106 := n2; have GE106 := n3; clear n0 n1 n2 n3; clear hb hbox hg))
 (try simp only [Act.put, List.setIfInBounds_toArray, List.set_cons_zero, List.set_cons_succ])
 go_cut [29] (fun v29 wc => ∃ (kq : Nat) (x29_3 : Bool), v29 = .bool x29_3 ∧ Aside0 (spec_InsOk.j0 kq a1 a2 x29_3 a0_0 a0_1 a0_2 a0_3 a0_4 = some r) ∧ Aside0 (kq ≤ k) ∧ Aside0 (wc.heap[gb106]? = some (.cells #[.int .i64 a0_0, .int .i64 a0_1, .int .i64 a0_2, .int .i64 a0_3, .int .i64 a0_4] 192 (0, 0))) ∧ Aside0 (Below w.heap.size w wc))
 case first =>
  have H := HC4.out
  clear HC4
  replace H := Option.bind_eq_some_iff.mp H
  obtain ⟨t107, A60, H⟩ := H
  replace H : (if t107 = true then ((spec_l1In.f a0_2 0 3).bind fun t108 => (if t108 = true then ((spec_l1In.f a0_3 0 3).bind fun t109 => (if t109 = true then ((spec_l1In.f a2 0 3).bind fun t110 => (spec_InsOk.j0 k a1 a2 (!t110) a0_0 a0_1 a0_2 a0_3 a0_4)) else (spec_InsOk.j0 k a1 a2 true a0_0 a0_1 a0_2 a0_3 a0_4))) else (spec_InsOk.j0 k a1 a2 true a0_0 a0_1 a0_2 a0_3 a0_4))) else (spec_InsOk.j0 k a1 a2 true a0_0 a0_1 a0_2 a0_3 a0_4)) = some r := H
  have A6 := aM_ A60
  clear A60
  by_cases c7 : t107 = true
  ·subst c7
   have H1 : ((spec_l1In.f a0_2 0 3).bind fun t108 => (if t108 = true then ((spec_l1In.f a0_3 0 3).bind fun t109 => (if t109 = true then ((spec_l1In.f a2 0 3).bind fun t110 => (spec_InsOk.j0 k a1 a2 (!t110) a0_0 a0_1 a0_2 a0_3 a0_4)) else (spec_InsOk.j0 k a1 a2 true a0_0 a0_1 a0_2 a0_3 a0_4))) else (spec_InsOk.j0 k a1 a2 true a0_0 a0_1 a0_2 a0_3 a0_4))) = some r := by rw [if_pos rfl] at H; exact H
   clear H
   have H := H1
   clear H1
   replace H := Option.bind_eq_some_iff.mp H
   obtain ⟨t108, A80, H⟩ := H
   replace H : (if t108 = true then ((spec_l1In.f a0_3 0 3).bind fun t109 => (if t109 = true then ((spec_l1In.f a2 0 3).bind fun t110 => (spec_InsOk.j0 k a1 a2 (!t110) a0_0 a0_1 a0_2 a0_3 a0_4)) else (spec_InsOk.j0 k a1 a2 true a0_0 a0_1 a0_2 a0_3 a0_4))) else (spec_InsOk.j0 k a1 a2 true a0_0 a0_1 a0_2 a0_3 a0_4)) = some r := H
   have A8 := aM_ A80
   clear A80
   by_cases c9 : t108 = true
   ·subst c9
    have H1 : ((spec_l1In.f a0_3 0 3).bind fun t109 => (if t109 = true then ((spec_l1In.f a2 0 3).bind fun t110 => (spec_InsOk.j0 k a1 a2 (!t110) a0_0 a0_1 a0_2 a0_3 a0_4)) else (spec_InsOk.j0 k a1 a2 true a0_0 a0_1 a0_2 a0_3 a0_4))) = some r := by rw [if_pos rfl] at H; exact H
    clear H
    have H := H1
    clear H1
    replace H := Option.bind_eq_some_iff.mp H
    obtain ⟨t109, A100, H⟩ := H
    replace H : (if t109 = true then ((spec_l1In.f a2 0 3).bind fun t110 => (spec_InsOk.j0 k a1 a2 (!t110) a0_0 a0_1 a0_2 a0_3 a0_4)) else (spec_InsOk.j0 k a1 a2 true a0_0 a0_1 a0_2 a0_3 a0_4)) = some r := H
    have A10 := aM_ A100
    clear A100
    by_cases c11 : t109 = true
    ·subst c11
     have H1 : ((spec_l1In.f a2 0 3).bind fun t110 => (spec_InsOk.j0 k a1 a2 (!t110) a0_0 a0_1 a0_2 a0_3 a0_4)) = some r := by rw [if_pos rfl] at H; exact H
     clear H
     have H := H1
     clear H1
     replace H := Option.bind_eq_some_iff.mp H
     obtain ⟨t110, A120, H⟩ := H
     replace H : (spec_InsOk.j0 k a1 a2 (!t110) a0_0 a0_1 a0_2 a0_3 a0_4) = some r := H
     have A12 := aM_ A120
     clear A120
     have H' := aM_ H
     clear H
     obtain ⟨hcz13_0, hcz13_1, hcz13_2, hcz13_3, hcz13_4, hfz13_0, hfz13_1, hfz13_2, hfz13_3, hfz13_4⟩ := bR5_ BK106.out
     go_wp2_with (first | ((with_reducible refine gate_callee (f := 111) rfl ?_); refine gL_ (some 11) Try.func111 #[.int .i64 a0_1, .int .i64 0, .int .i64 3] ?_; (with_reducible refine (spec_l1In.calls a0_1 0 3 true _ A6.out).mono ?_); rintro e w' ⟨rfl, ⟨nd, rfl⟩⟩; refine ⟨_, rfl, ?_⟩) | (go_at_call 111; (with_reducible refine (spec_l1In.calls a0_2 0 3 true _ A8.out).mono ?_); rintro e w' ⟨rfl, ⟨nd, rfl⟩⟩) | (go_at_call 111; (with_reducible refine (spec_l1In.calls a0_3 0 3 true _ A10.out).mono ?_); rintro e w' ⟨rfl, ⟨nd, rfl⟩⟩) | (go_at_call 111; (with_reducible refine (spec_l1In.calls a2 0 3 t110 _ A12.out).mono ?_); rintro e w' ⟨rfl, ⟨nd, rfl⟩⟩))
     go_meet
     case rel => exact ⟨_, (!t110), (by first | rfl | (simp; done) | (simp [*]; done)), H', ⟨by first | omega | exact Nat.le_refl _⟩, ⟨rW_ BK106.out⟩, ⟨gW_ HB.out⟩⟩
    ·replace c11 := Bool.eq_false_iff.mpr c11
     subst c11
     have H1 : (spec_InsOk.j0 k a1 a2 true a0_0 a0_1 a0_2 a0_3 a0_4) = some r := by rw [if_neg (show ¬ (false = true) by decide)] at H; exact H
     clear H
     have H := H1
     clear H1
     have H' := aM_ H
     clear H
     obtain ⟨hcz14_0, hcz14_1, hcz14_2, hcz14_3, hcz14_4, hfz14_0, hfz14_1, hfz14_2, hfz14_3, hfz14_4⟩ := bR5_ BK106.out
     go_wp2_with (first | ((with_reducible refine gate_callee (f := 111) rfl ?_); refine gL_ (some 11) Try.func111 #[.int .i64 a0_1, .int .i64 0, .int .i64 3] ?_; (with_reducible refine (spec_l1In.calls a0_1 0 3 true _ A6.out).mono ?_); rintro e w' ⟨rfl, ⟨nd, rfl⟩⟩; refine ⟨_, rfl, ?_⟩) | (go_at_call 111; (with_reducible refine (spec_l1In.calls a0_2 0 3 true _ A8.out).mono ?_); rintro e w' ⟨rfl, ⟨nd, rfl⟩⟩) | (go_at_call 111; (with_reducible refine (spec_l1In.calls a0_3 0 3 false _ A10.out).mono ?_); rintro e w' ⟨rfl, ⟨nd, rfl⟩⟩))
     go_meet
     case rel => exact ⟨_, (true), (by first | rfl | (simp; done) | (simp [*]; done)), H', ⟨by first | omega | exact Nat.le_refl _⟩, ⟨rW_ BK106.out⟩, ⟨gW_ HB.out⟩⟩
   ·replace c9 := Bool.eq_false_iff.mpr c9
    subst c9
    have H1 : (spec_InsOk.j0 k a1 a2 true a0_0 a0_1 a0_2 a0_3 a0_4) = some r := by rw [if_neg (show ¬ (false = true) by decide)] at H; exact H
    clear H
    have H := H1
    clear H1
    have H' := aM_ H
    clear H
    obtain ⟨hcz15_0, hcz15_1, hcz15_2, hcz15_3, hcz15_4, hfz15_0, hfz15_1, hfz15_2, hfz15_3, hfz15_4⟩ := bR5_ BK106.out
    go_wp2_with (first | ((with_reducible refine gate_callee (f := 111) rfl ?_); refine gL_ (some 11) Try.func111 #[.int .i64 a0_1, .int .i64 0, .int .i64 3] ?_; (with_reducible refine (spec_l1In.calls a0_1 0 3 true _ A6.out).mono ?_); rintro e w' ⟨rfl, ⟨nd, rfl⟩⟩; refine ⟨_, rfl, ?_⟩) | (go_at_call 111; (with_reducible refine (spec_l1In.calls a0_2 0 3 false _ A8.out).mono ?_); rintro e w' ⟨rfl, ⟨nd, rfl⟩⟩))
    go_meet
    case rel => exact ⟨_, (true), (by first | rfl | (simp; done) | (simp [*]; done)), H', ⟨by first | omega | exact Nat.le_refl _⟩, ⟨rW_ BK106.out⟩, ⟨gW_ HB.out⟩⟩
  ·replace c7 := Bool.eq_false_iff.mpr c7
   subst c7
   have H1 : (spec_InsOk.j0 k a1 a2 true a0_0 a0_1 a0_2 a0_3 a0_4) = some r := by rw [if_neg (show ¬ (false = true) by decide)] at H; exact H
   clear H
   have H := H1
   clear H1
   have H' := aM_ H
   clear H
   obtain ⟨hcz16_0, hcz16_1, hcz16_2, hcz16_3, hcz16_4, hfz16_0, hfz16_1, hfz16_2, hfz16_3, hfz16_4⟩ := bR5_ BK106.out
   go_wp2_with (first | ((with_reducible refine gate_callee (f := 111) rfl ?_); refine gL_ (some 11) Try.func111 #[.int .i64 a0_1, .int .i64 0, .int .i64 3] ?_; (with_reducible refine (spec_l1In.calls a0_1 0 3 false _ A6.out).mono ?_); rintro e w' ⟨rfl, ⟨nd, rfl⟩⟩; refine ⟨_, rfl, ?_⟩))
   go_meet
   case rel => exact ⟨_, (true), (by first | rfl | (simp; done) | (simp [*]; done)), H', ⟨by first | omega | exact Nat.le_refl _⟩, ⟨rW_ BK106.out⟩, ⟨gW_ HB.out⟩⟩
 case rest =>
  clear HC4
  try clear c1
  try clear p2
  try clear c7
  try clear c9
  try clear c11
  try clear c16
  try clear hcz13_0 hcz13_1 hcz13_2 hcz13_3 hcz13_4 hfz13_0 hfz13_1 hfz13_2 hfz13_3 hfz13_4
  try clear hcz14_0 hcz14_1 hcz14_2 hcz14_3 hcz14_4 hfz14_0 hfz14_1 hfz14_2 hfz14_3 hfz14_4
  try clear hcz15_0 hcz15_1 hcz15_2 hcz15_3 hcz15_4 hfz15_0 hfz15_1 hfz15_2 hfz15_3 hfz15_4
  try clear hcz16_0 hcz16_1 hcz16_2 hcz16_3 hcz16_4 hfz16_0 hfz16_1 hfz16_2 hfz16_3 hfz16_4
  obtain ⟨kq, x29_3, rfl, HA, HJ3, BK106, HB⟩ := hcut
  cases kq with
  | zero => exact absurd HA.out (by simp [spec_InsOk.j0])
  | succ kj3 =>
   have H := HA.out
   clear HA
   simp only [spec_InsOk.j0] at H
   by_cases c17 : x29_3 = true
   ·subst c17
    have H1 : (some false) = some r := by rw [if_pos rfl] at H; exact H
    clear H
    have H := H1
    clear H1
    obtain rfl := Option.some.inj H
    go_wp2
    go_ret
    exact fI_ HB.out
   ·replace c17 := Bool.eq_false_iff.mpr c17
    subst c17
    have H1 : (if a0_4 ≥ 0 then (spec_InsOk.j1 kj3 a2 (decide (a0_4 < a1)) a0_0 a0_1 a0_2 a0_3 a0_4) else (spec_InsOk.j1 kj3 a2 false a0_0 a0_1 a0_2 a0_3 a0_4)) = some r := by rw [if_neg (show ¬ (false = true) by decide)] at H; exact H
    clear H
    have H := H1
    clear H1
    have HC18 := aM_ H
    clear H
    go_upto_region 3 with (fail)
    go_cut [7] (fun v7 wc => ∃ (kq : Nat) (x7_17 : Bool), v7 = .bool x7_17 ∧ Aside0 (spec_InsOk.j1 kq a2 x7_17 a0_0 a0_1 a0_2 a0_3 a0_4 = some r) ∧ Aside0 (kq ≤ kj3) ∧ Aside0 (wc.heap[gb106]? = some (.cells #[.int .i64 a0_0, .int .i64 a0_1, .int .i64 a0_2, .int .i64 a0_3, .int .i64 a0_4] 192 (0, 0))) ∧ Aside0 (Below w.heap.size w wc))
    case first =>
     have H := HC18.out
     clear HC18
     by_cases c19 : a0_4 ≥ 0
     ·rw [if_pos c19] at H
      have c19b0 : decide (0 ≤ a0_4) = true := decide_eq_true c19
      clear c19
      (first | rw [c19b0] | (simp only [i64_w, i32_w]; rw [c19b0]) | skip)
      have H' := aM_ H
      clear H
      obtain ⟨hcz20_0, hcz20_1, hcz20_2, hcz20_3, hcz20_4, hfz20_0, hfz20_1, hfz20_2, hfz20_3, hfz20_4⟩ := bR5_ BK106.out
      go_wp2
      go_meet
      case rel => exact ⟨_, (decide (a0_4 < a1)), (by first | rfl | (simp; done) | (simp [*]; done)), H', ⟨by have := HJ3.out; first | omega | exact Nat.le_refl _⟩, ⟨rW_ BK106.out⟩, ⟨gW_ HB.out⟩⟩
     ·rw [if_neg c19] at H
      have c19b0 : decide (0 ≤ a0_4) = false := decide_eq_false c19
      clear c19
      (first | rw [c19b0] | (simp only [i64_w, i32_w]; rw [c19b0]) | skip)
      have H' := aM_ H
      clear H
      obtain ⟨hcz21_0, hcz21_1, hcz21_2, hcz21_3, hcz21_4, hfz21_0, hfz21_1, hfz21_2, hfz21_3, hfz21_4⟩ := bR5_ BK106.out
      go_wp2
      go_meet
      case rel => exact ⟨_, (false), (by first | rfl | (simp; done) | (simp [*]; done)), H', ⟨by have := HJ3.out; first | omega | exact Nat.le_refl _⟩, ⟨rW_ BK106.out⟩, ⟨gW_ HB.out⟩⟩
    case rest =>
     clear HC18
     try clear c1
     try clear p2
     try clear c7
     try clear c9
     try clear c11
     try clear c16
     try clear c17
     try clear c19
     try clear c19b0
     try clear hcz13_0 hcz13_1 hcz13_2 hcz13_3 hcz13_4 hfz13_0 hfz13_1 hfz13_2 hfz13_3 hfz13_4
     try clear hcz14_0 hcz14_1 hcz14_2 hcz14_3 hcz14_4 hfz14_0 hfz14_1 hfz14_2 hfz14_3 hfz14_4
     try clear hcz15_0 hcz15_1 hcz15_2 hcz15_3 hcz15_4 hfz15_0 hfz15_1 hfz15_2 hfz15_3 hfz15_4
     try clear hcz16_0 hcz16_1 hcz16_2 hcz16_3 hcz16_4 hfz16_0 hfz16_1 hfz16_2 hfz16_3 hfz16_4
     try clear hcz20_0 hcz20_1 hcz20_2 hcz20_3 hcz20_4 hfz20_0 hfz20_1 hfz20_2 hfz20_3 hfz20_4
     try clear hcz21_0 hcz21_1 hcz21_2 hcz21_3 hcz21_4 hfz21_0 hfz21_1 hfz21_2 hfz21_3 hfz21_4
     try clear p2
     obtain ⟨kq, x7_17, rfl, HA, HJ17, BK106, HB⟩ := hcut
     cases kq with
     | zero => exact absurd HA.out (by simp [spec_InsOk.j1])
     | succ kj17 =>
      have H := HA.out
      clear HA
      simp only [spec_InsOk.j1] at H
      replace H := Option.bind_eq_some_iff.mp H
      obtain ⟨t111, A220, H⟩ := H
      replace H : (if a0_0 = 1 then ((spec_l1In.f a0_4 (-1000000000) 1000000000).bind fun t112 => (if t112 = true then (if a0_2 = 0 then (some (a0_3 == 0)) else (some false)) else (some false))) else (if a0_0 = 2 then (spec_InsOk.j2 kj17 x7_17 t111 a0_0 (a0_0 == 2) a0_0 a0_1 a0_2 a0_3 a0_4) else (if a0_0 = 3 then (spec_InsOk.j2 kj17 x7_17 t111 a0_0 (a0_0 == 3) a0_0 a0_1 a0_2 a0_3 a0_4) else (spec_InsOk.j2 kj17 x7_17 t111 a0_0 (a0_0 == 4) a0_0 a0_1 a0_2 a0_3 a0_4)))) = some r := H
      have A22 := aM_ A220
      clear A220
      by_cases c23 : a0_0 = 1
      ·rw [if_pos c23] at H
       have c23b0 : (a0_0 == 1) = true := beq_iff_eq.mpr c23
       have c23b1 : (a0_0 != 1) = false := bne_eq_false_iff_eq.mpr c23
       clear c23
       replace H := Option.bind_eq_some_iff.mp H
       obtain ⟨t112, A240, H⟩ := H
       replace H : (if t112 = true then (if a0_2 = 0 then (some (a0_3 == 0)) else (some false)) else (some false)) = some r := H
       have A24 := aM_ A240
       clear A240
       by_cases c25 : t112 = true
       ·subst c25
        have H1 : (if a0_2 = 0 then (some (a0_3 == 0)) else (some false)) = some r := by rw [if_pos rfl] at H; exact H
        clear H
        have H := H1
        clear H1
        by_cases c26 : a0_2 = 0
        ·rw [if_pos c26] at H
         have c26b0 : (a0_2 == 0) = true := beq_iff_eq.mpr c26
         have c26b1 : (a0_2 != 0) = false := bne_eq_false_iff_eq.mpr c26
         clear c26
         obtain rfl := Option.some.inj H
         obtain ⟨hcz27_0, hcz27_1, hcz27_2, hcz27_3, hcz27_4, hfz27_0, hfz27_1, hfz27_2, hfz27_3, hfz27_4⟩ := bR5_ BK106.out
         go_wp2_with (first | ((with_reducible refine gate_callee (f := 111) rfl ?_); refine gL_ (some 43) Try.func111 #[.int .i64 a0_4, .int .i64 0, .int .i64 (wrap64 (a2 - 1))] ?_; (with_reducible refine (spec_l1In.calls a0_4 0 (wrap64 (a2 - 1)) t111 _ A22.out).mono ?_); rintro e w' ⟨rfl, ⟨nd, rfl⟩⟩; refine ⟨_, rfl, ?_⟩) | ((with_reducible refine gate_callee (f := 111) rfl ?_); refine gL_ (some 50) Try.func111 #[.int .i64 a0_4, .int .i64 (-1000000000), .int .i64 1000000000] ?_; (with_reducible refine (spec_l1In.calls a0_4 (-1000000000) 1000000000 true _ A24.out).mono ?_); rintro e w' ⟨rfl, ⟨nd, rfl⟩⟩; refine ⟨_, rfl, ?_⟩))
         go_ret
         exact fI_ HB.out
        ·rw [if_neg c26] at H
         have c26b0 : (a0_2 == 0) = false := beq_eq_false_iff_ne.mpr c26
         have c26b1 : (a0_2 != 0) = true := bne_iff_ne.mpr c26
         obtain rfl := Option.some.inj H
         obtain ⟨hcz28_0, hcz28_1, hcz28_2, hcz28_3, hcz28_4, hfz28_0, hfz28_1, hfz28_2, hfz28_3, hfz28_4⟩ := bR5_ BK106.out
         go_wp2_with (first | ((with_reducible refine gate_callee (f := 111) rfl ?_); refine gL_ (some 43) Try.func111 #[.int .i64 a0_4, .int .i64 0, .int .i64 (wrap64 (a2 - 1))] ?_; (with_reducible refine (spec_l1In.calls a0_4 0 (wrap64 (a2 - 1)) t111 _ A22.out).mono ?_); rintro e w' ⟨rfl, ⟨nd, rfl⟩⟩; refine ⟨_, rfl, ?_⟩) | ((with_reducible refine gate_callee (f := 111) rfl ?_); refine gL_ (some 50) Try.func111 #[.int .i64 a0_4, .int .i64 (-1000000000), .int .i64 1000000000] ?_; (with_reducible refine (spec_l1In.calls a0_4 (-1000000000) 1000000000 true _ A24.out).mono ?_); rintro e w' ⟨rfl, ⟨nd, rfl⟩⟩; refine ⟨_, rfl, ?_⟩))
         go_ret
         exact fI_ HB.out
       ·replace c25 := Bool.eq_false_iff.mpr c25
        subst c25
        have H1 : (some false) = some r := by rw [if_neg (show ¬ (false = true) by decide)] at H; exact H
        clear H
        have H := H1
        clear H1
        obtain rfl := Option.some.inj H
        obtain ⟨hcz29_0, hcz29_1, hcz29_2, hcz29_3, hcz29_4, hfz29_0, hfz29_1, hfz29_2, hfz29_3, hfz29_4⟩ := bR5_ BK106.out
        go_wp2_with (first | ((with_reducible refine gate_callee (f := 111) rfl ?_); refine gL_ (some 43) Try.func111 #[.int .i64 a0_4, .int .i64 0, .int .i64 (wrap64 (a2 - 1))] ?_; (with_reducible refine (spec_l1In.calls a0_4 0 (wrap64 (a2 - 1)) t111 _ A22.out).mono ?_); rintro e w' ⟨rfl, ⟨nd, rfl⟩⟩; refine ⟨_, rfl, ?_⟩) | ((with_reducible refine gate_callee (f := 111) rfl ?_); refine gL_ (some 50) Try.func111 #[.int .i64 a0_4, .int .i64 (-1000000000), .int .i64 1000000000] ?_; (with_reducible refine (spec_l1In.calls a0_4 (-1000000000) 1000000000 false _ A24.out).mono ?_); rintro e w' ⟨rfl, ⟨nd, rfl⟩⟩; refine ⟨_, rfl, ?_⟩))
        go_ret
        exact fI_ HB.out
      ·rw [if_neg c23] at H
       have c23b0 : (a0_0 == 1) = false := beq_eq_false_iff_ne.mpr c23
       have c23b1 : (a0_0 != 1) = true := bne_iff_ne.mpr c23
       have HC30 := aM_ H
       clear H
       obtain ⟨hcz31_0, hcz31_1, hcz31_2, hcz31_3, hcz31_4, hfz31_0, hfz31_1, hfz31_2, hfz31_3, hfz31_4⟩ := bR5_ BK106.out
       go_upto_if 61 with (first | ((with_reducible refine gate_callee (f := 111) rfl ?_); refine gL_ (some 43) Try.func111 #[.int .i64 a0_4, .int .i64 0, .int .i64 (wrap64 (a2 - 1))] ?_; (with_reducible refine (spec_l1In.calls a0_4 0 (wrap64 (a2 - 1)) t111 _ A22.out).mono ?_); rintro e w' ⟨rfl, ⟨nd, rfl⟩⟩; refine ⟨_, rfl, ?_⟩))
       (try simp only [Act.put, List.setIfInBounds_toArray, List.set_cons_zero, List.set_cons_succ])
       go_cut [61] (fun v61 wc => ∃ (kq : Nat) (x61_29 : Bool), v61 = .bool x61_29 ∧ Aside0 (spec_InsOk.j2 kq x7_17 t111 a0_0 x61_29 a0_0 a0_1 a0_2 a0_3 a0_4 = some r) ∧ Aside0 (kq ≤ kj17) ∧ Aside0 (wc.heap[gb106]? = some (.cells #[.int .i64 a0_0, .int .i64 a0_1, .int .i64 a0_2, .int .i64 a0_3, .int .i64 a0_4] 192 (0, 0))) ∧ Aside0 (Below w.heap.size w wc))
       case first =>
        have H := HC30.out
        clear HC30
        by_cases c32 : a0_0 = 2
        ·rw [if_pos c32] at H
         have c32b0 : (a0_0 == 2) = true := beq_iff_eq.mpr c32
         have c32b1 : (a0_0 != 2) = false := bne_eq_false_iff_eq.mpr c32
         clear c32
         (first | rw [c32b0] | (simp only [i64_w, i32_w]; rw [c32b0]) | skip)
         have H' := aM_ H
         clear H
         go_wp2
         go_meet
         case rel => exact ⟨_, ((a0_0 == 2)), (by first | rfl | (simp; done) | (simp [*]; done)), H', ⟨by have := HJ3.out; have := HJ17.out; first | omega | exact Nat.le_refl _⟩, ⟨rW_ BK106.out⟩, ⟨gW_ HB.out⟩⟩
        ·rw [if_neg c32] at H
         have c32b0 : (a0_0 == 2) = false := beq_eq_false_iff_ne.mpr c32
         have c32b1 : (a0_0 != 2) = true := bne_iff_ne.mpr c32
         (first | rw [c32b0] | (simp only [i64_w, i32_w]; rw [c32b0]) | skip)
         by_cases c33 : a0_0 = 3
         ·rw [if_pos c33] at H
          have c33b0 : (a0_0 == 3) = true := beq_iff_eq.mpr c33
          have c33b1 : (a0_0 != 3) = false := bne_eq_false_iff_eq.mpr c33
          clear c33
          have H' := aM_ H
          clear H
          go_wp2
          go_meet
          case rel => exact ⟨_, ((a0_0 == 3)), (by first | rfl | (simp; done) | (simp [*]; done)), H', ⟨by have := HJ3.out; have := HJ17.out; first | omega | exact Nat.le_refl _⟩, ⟨rW_ BK106.out⟩, ⟨gW_ HB.out⟩⟩
         ·rw [if_neg c33] at H
          have c33b0 : (a0_0 == 3) = false := beq_eq_false_iff_ne.mpr c33
          have c33b1 : (a0_0 != 3) = true := bne_iff_ne.mpr c33
          have H' := aM_ H
          clear H
          go_wp2
          go_meet
          case rel => exact ⟨_, ((a0_0 == 4)), (by first | rfl | (simp; done) | (simp [*]; done)), H', ⟨by have := HJ3.out; have := HJ17.out; first | omega | exact Nat.le_refl _⟩, ⟨rW_ BK106.out⟩, ⟨gW_ HB.out⟩⟩
       case rest =>
        clear HC30
        try clear c1
        try clear c2
        try clear p2
        try clear c3
        try clear p6
        try clear c7
        try clear c9
        try clear c11
        try clear c16
        try clear c17
        try clear c19
        try clear c19b0
        try clear c23
        try clear c23b0
        try clear c23b1
        try clear c25
        try clear c26
        try clear c26b0
        try clear c26b1
        try clear c32
        try clear c32b0
        try clear c32b1
        try clear c33
        try clear c33b0
        try clear c33b1
        try clear hcz13_0 hcz13_1 hcz13_2 hcz13_3 hcz13_4 hfz13_0 hfz13_1 hfz13_2 hfz13_3 hfz13_4
        try clear hcz14_0 hcz14_1 hcz14_2 hcz14_3 hcz14_4 hfz14_0 hfz14_1 hfz14_2 hfz14_3 hfz14_4
        try clear hcz15_0 hcz15_1 hcz15_2 hcz15_3 hcz15_4 hfz15_0 hfz15_1 hfz15_2 hfz15_3 hfz15_4
        try clear hcz16_0 hcz16_1 hcz16_2 hcz16_3 hcz16_4 hfz16_0 hfz16_1 hfz16_2 hfz16_3 hfz16_4
        try clear hcz20_0 hcz20_1 hcz20_2 hcz20_3 hcz20_4 hfz20_0 hfz20_1 hfz20_2 hfz20_3 hfz20_4
        try clear hcz21_0 hcz21_1 hcz21_2 hcz21_3 hcz21_4 hfz21_0 hfz21_1 hfz21_2 hfz21_3 hfz21_4
        try clear hcz27_0 hcz27_1 hcz27_2 hcz27_3 hcz27_4 hfz27_0 hfz27_1 hfz27_2 hfz27_3 hfz27_4
        try clear hcz28_0 hcz28_1 hcz28_2 hcz28_3 hcz28_4 hfz28_0 hfz28_1 hfz28_2 hfz28_3 hfz28_4
        try clear hcz29_0 hcz29_1 hcz29_2 hcz29_3 hcz29_4 hfz29_0 hfz29_1 hfz29_2 hfz29_3 hfz29_4
        try clear hcz31_0 hcz31_1 hcz31_2 hcz31_3 hcz31_4 hfz31_0 hfz31_1 hfz31_2 hfz31_3 hfz31_4
        try clear p2
        obtain ⟨kq, x61_29, rfl, HA, HJ29, BK106, HB⟩ := hcut
        cases kq with
        | zero => exact absurd HA.out (by simp [spec_InsOk.j2])
        | succ kj29 =>
         have H := HA.out
         clear HA
         simp only [spec_InsOk.j2] at H
         by_cases c34 : x61_29 = true
         ·subst c34
          have H1 : (some (a0_4 == 0)) = some r := by rw [if_pos rfl] at H; exact H
          clear H
          have H := H1
          clear H1
          obtain rfl := Option.some.inj H
          obtain ⟨hcz35_0, hcz35_1, hcz35_2, hcz35_3, hcz35_4, hfz35_0, hfz35_1, hfz35_2, hfz35_3, hfz35_4⟩ := bR5_ BK106.out
          go_wp2
          go_ret
          exact fI_ HB.out
         ·replace c34 := Bool.eq_false_iff.mpr c34
          subst c34
          have H1 : (if a0_0 = 5 then (if t111 = true then (if a0_1 = 0 then (some (a0_3 == 0)) else (some false)) else (some false)) else (if a0_0 = 6 then (spec_InsOk.j3 kj29 x7_17 t111 a0_0 (a0_0 == 6) a0_0 a0_1 a0_2 a0_3 a0_4) else (spec_InsOk.j3 kj29 x7_17 t111 a0_0 (a0_0 == 8) a0_0 a0_1 a0_2 a0_3 a0_4))) = some r := by rw [if_neg (show ¬ (false = true) by decide)] at H; exact H
          clear H
          have H := H1
          clear H1
          by_cases c36 : a0_0 = 5
          ·rw [if_pos c36] at H
           have c36b0 : (a0_0 == 5) = true := beq_iff_eq.mpr c36
           have c36b1 : (a0_0 != 5) = false := bne_eq_false_iff_eq.mpr c36
           clear c36
           by_cases c37 : t111 = true
           ·subst c37
            have H1 : (if a0_1 = 0 then (some (a0_3 == 0)) else (some false)) = some r := by rw [if_pos rfl] at H; exact H
            clear H
            have H := H1
            clear H1
            by_cases c38 : a0_1 = 0
            ·rw [if_pos c38] at H
             have c38b0 : (a0_1 == 0) = true := beq_iff_eq.mpr c38
             have c38b1 : (a0_1 != 0) = false := bne_eq_false_iff_eq.mpr c38
             clear c38
             obtain rfl := Option.some.inj H
             obtain ⟨hcz39_0, hcz39_1, hcz39_2, hcz39_3, hcz39_4, hfz39_0, hfz39_1, hfz39_2, hfz39_3, hfz39_4⟩ := bR5_ BK106.out
             go_wp2
             go_ret
             exact fI_ HB.out
            ·rw [if_neg c38] at H
             have c38b0 : (a0_1 == 0) = false := beq_eq_false_iff_ne.mpr c38
             have c38b1 : (a0_1 != 0) = true := bne_iff_ne.mpr c38
             obtain rfl := Option.some.inj H
             obtain ⟨hcz40_0, hcz40_1, hcz40_2, hcz40_3, hcz40_4, hfz40_0, hfz40_1, hfz40_2, hfz40_3, hfz40_4⟩ := bR5_ BK106.out
             go_wp2
             go_ret
             exact fI_ HB.out
           ·replace c37 := Bool.eq_false_iff.mpr c37
            subst c37
            have H1 : (some false) = some r := by rw [if_neg (show ¬ (false = true) by decide)] at H; exact H
            clear H
            have H := H1
            clear H1
            obtain rfl := Option.some.inj H
            go_wp2
            go_ret
            exact fI_ HB.out
          ·rw [if_neg c36] at H
           have c36b0 : (a0_0 == 5) = false := beq_eq_false_iff_ne.mpr c36
           have c36b1 : (a0_0 != 5) = true := bne_iff_ne.mpr c36
           have HC41 := aM_ H
           clear H
           go_upto_if 81 with (fail)
           go_cut [81] (fun v81 wc => ∃ (kq : Nat) (x81_40 : Bool), v81 = .bool x81_40 ∧ Aside0 (spec_InsOk.j3 kq x7_17 t111 a0_0 x81_40 a0_0 a0_1 a0_2 a0_3 a0_4 = some r) ∧ Aside0 (kq ≤ kj29) ∧ Aside0 (wc.heap[gb106]? = some (.cells #[.int .i64 a0_0, .int .i64 a0_1, .int .i64 a0_2, .int .i64 a0_3, .int .i64 a0_4] 192 (0, 0))) ∧ Aside0 (Below w.heap.size w wc))
           case first =>
            have H := HC41.out
            clear HC41
            by_cases c42 : a0_0 = 6
            ·rw [if_pos c42] at H
             have c42b0 : (a0_0 == 6) = true := beq_iff_eq.mpr c42
             have c42b1 : (a0_0 != 6) = false := bne_eq_false_iff_eq.mpr c42
             clear c42
             (first | rw [c42b0] | (simp only [i64_w, i32_w]; rw [c42b0]) | skip)
             have H' := aM_ H
             clear H
             go_wp2
             go_meet
             case rel => exact ⟨_, ((a0_0 == 6)), (by first | rfl | (simp; done) | (simp [*]; done)), H', ⟨by have := HJ3.out; have := HJ17.out; have := HJ29.out; first | omega | exact Nat.le_refl _⟩, ⟨rW_ BK106.out⟩, ⟨gW_ HB.out⟩⟩
            ·rw [if_neg c42] at H
             have c42b0 : (a0_0 == 6) = false := beq_eq_false_iff_ne.mpr c42
             have c42b1 : (a0_0 != 6) = true := bne_iff_ne.mpr c42
             (first | rw [c42b0] | (simp only [i64_w, i32_w]; rw [c42b0]) | skip)
             have H' := aM_ H
             clear H
             go_wp2
             go_meet
             case rel => exact ⟨_, ((a0_0 == 8)), (by first | rfl | (simp; done) | (simp [*]; done)), H', ⟨by have := HJ3.out; have := HJ17.out; have := HJ29.out; first | omega | exact Nat.le_refl _⟩, ⟨rW_ BK106.out⟩, ⟨gW_ HB.out⟩⟩
           case rest =>
            clear HC41
            try clear c1
            try clear c2
            try clear p2
            try clear c3
            try clear c4
            try clear p6
            try clear c7
            try clear c9
            try clear c11
            try clear c16
            try clear c17
            try clear c19
            try clear c19b0
            try clear c23
            try clear c23b0
            try clear c23b1
            try clear c25
            try clear c26
            try clear c26b0
            try clear c26b1
            try clear c32
            try clear c32b0
            try clear c32b1
            try clear c33
            try clear c33b0
            try clear c33b1
            try clear c34
            try clear c36
            try clear c36b0
            try clear c36b1
            try clear c37
            try clear c38
            try clear c38b0
            try clear c38b1
            try clear c42
            try clear c42b0
            try clear c42b1
            try clear hcz13_0 hcz13_1 hcz13_2 hcz13_3 hcz13_4 hfz13_0 hfz13_1 hfz13_2 hfz13_3 hfz13_4
            try clear hcz14_0 hcz14_1 hcz14_2 hcz14_3 hcz14_4 hfz14_0 hfz14_1 hfz14_2 hfz14_3 hfz14_4
            try clear hcz15_0 hcz15_1 hcz15_2 hcz15_3 hcz15_4 hfz15_0 hfz15_1 hfz15_2 hfz15_3 hfz15_4
            try clear hcz16_0 hcz16_1 hcz16_2 hcz16_3 hcz16_4 hfz16_0 hfz16_1 hfz16_2 hfz16_3 hfz16_4
            try clear hcz20_0 hcz20_1 hcz20_2 hcz20_3 hcz20_4 hfz20_0 hfz20_1 hfz20_2 hfz20_3 hfz20_4
            try clear hcz21_0 hcz21_1 hcz21_2 hcz21_3 hcz21_4 hfz21_0 hfz21_1 hfz21_2 hfz21_3 hfz21_4
            try clear hcz27_0 hcz27_1 hcz27_2 hcz27_3 hcz27_4 hfz27_0 hfz27_1 hfz27_2 hfz27_3 hfz27_4
            try clear hcz28_0 hcz28_1 hcz28_2 hcz28_3 hcz28_4 hfz28_0 hfz28_1 hfz28_2 hfz28_3 hfz28_4
            try clear hcz29_0 hcz29_1 hcz29_2 hcz29_3 hcz29_4 hfz29_0 hfz29_1 hfz29_2 hfz29_3 hfz29_4
            try clear hcz31_0 hcz31_1 hcz31_2 hcz31_3 hcz31_4 hfz31_0 hfz31_1 hfz31_2 hfz31_3 hfz31_4
            try clear hcz35_0 hcz35_1 hcz35_2 hcz35_3 hcz35_4 hfz35_0 hfz35_1 hfz35_2 hfz35_3 hfz35_4
            try clear hcz39_0 hcz39_1 hcz39_2 hcz39_3 hcz39_4 hfz39_0 hfz39_1 hfz39_2 hfz39_3 hfz39_4
            try clear hcz40_0 hcz40_1 hcz40_2 hcz40_3 hcz40_4 hfz40_0 hfz40_1 hfz40_2 hfz40_3 hfz40_4
            try clear p2
            try clear p6
            obtain ⟨kq, x81_40, rfl, HA, HJ40, BK106, HB⟩ := hcut
            cases kq with
            | zero => exact absurd HA.out (by simp [spec_InsOk.j3])
            | succ kj40 =>
             have H := HA.out
             clear HA
             simp only [spec_InsOk.j3] at H
             by_cases c43 : x81_40 = true
             ·subst c43
              have H1 : (if t111 = true then (if a0_2 = 0 then (some (a0_1 != a0_3)) else (some false)) else (some false)) = some r := by rw [if_pos rfl] at H; exact H
              clear H
              have H := H1
              clear H1
              by_cases c44 : t111 = true
              ·subst c44
               have H1 : (if a0_2 = 0 then (some (a0_1 != a0_3)) else (some false)) = some r := by rw [if_pos rfl] at H; exact H
               clear H
               have H := H1
               clear H1
               by_cases c45 : a0_2 = 0
               ·rw [if_pos c45] at H
                have c45b0 : (a0_2 == 0) = true := beq_iff_eq.mpr c45
                have c45b1 : (a0_2 != 0) = false := bne_eq_false_iff_eq.mpr c45
                clear c45
                obtain rfl := Option.some.inj H
                obtain ⟨hcz46_0, hcz46_1, hcz46_2, hcz46_3, hcz46_4, hfz46_0, hfz46_1, hfz46_2, hfz46_3, hfz46_4⟩ := bR5_ BK106.out
                go_wp2
                go_ret
                exact fI_ HB.out
               ·rw [if_neg c45] at H
                have c45b0 : (a0_2 == 0) = false := beq_eq_false_iff_ne.mpr c45
                have c45b1 : (a0_2 != 0) = true := bne_iff_ne.mpr c45
                obtain rfl := Option.some.inj H
                obtain ⟨hcz47_0, hcz47_1, hcz47_2, hcz47_3, hcz47_4, hfz47_0, hfz47_1, hfz47_2, hfz47_3, hfz47_4⟩ := bR5_ BK106.out
                go_wp2
                go_ret
                exact fI_ HB.out
              ·replace c44 := Bool.eq_false_iff.mpr c44
               subst c44
               have H1 : (some false) = some r := by rw [if_neg (show ¬ (false = true) by decide)] at H; exact H
               clear H
               have H := H1
               clear H1
               obtain rfl := Option.some.inj H
               go_wp2
               go_ret
               exact fI_ HB.out
             ·replace c43 := Bool.eq_false_iff.mpr c43
              subst c43
              have H1 : (if a0_0 = 7 then (if t111 = true then (some (a0_3 == 0)) else (some false)) else (if a0_0 = 9 then (if t111 = true then (if a0_1 = 0 then (if a0_2 = 0 then (some (a0_3 == 0)) else (some false)) else (some false)) else (some false)) else (if a0_0 = 10 then (if a0_1 = 0 then (if a0_3 = 0 then (some (a0_4 == 0)) else (some false)) else (some false)) else (if a0_0 = 11 then (if x7_17 = true then (if a0_1 = 0 then (if a0_2 = 0 then (some (a0_3 == 0)) else (some false)) else (some false)) else (some false)) else (if a0_0 = 12 then (if x7_17 = true then (if a0_1 = 0 then (some (a0_3 == 0)) else (some false)) else (some false)) else (if a0_0 = 13 then (some (a0_0 == 13 && (a0_1 == 0 && (a0_2 == 0 && (a0_3 == 0 && (a0_4 == 0)))))) else (some false))))))) = some r := by rw [if_neg (show ¬ (false = true) by decide)] at H; exact H
              clear H
              have H := H1
              clear H1
              by_cases c48 : a0_0 = 7
              ·rw [if_pos c48] at H
               have c48b0 : (a0_0 == 7) = true := beq_iff_eq.mpr c48
               have c48b1 : (a0_0 != 7) = false := bne_eq_false_iff_eq.mpr c48
               clear c48
               by_cases c49 : t111 = true
               ·subst c49
                have H1 : (some (a0_3 == 0)) = some r := by rw [if_pos rfl] at H; exact H
                clear H
                have H := H1
                clear H1
                obtain rfl := Option.some.inj H
                obtain ⟨hcz50_0, hcz50_1, hcz50_2, hcz50_3, hcz50_4, hfz50_0, hfz50_1, hfz50_2, hfz50_3, hfz50_4⟩ := bR5_ BK106.out
                go_wp2
                go_ret
                exact fI_ HB.out
               ·replace c49 := Bool.eq_false_iff.mpr c49
                subst c49
                have H1 : (some false) = some r := by rw [if_neg (show ¬ (false = true) by decide)] at H; exact H
                clear H
                have H := H1
                clear H1
                obtain rfl := Option.some.inj H
                go_wp2
                go_ret
                exact fI_ HB.out
              ·rw [if_neg c48] at H
               have c48b0 : (a0_0 == 7) = false := beq_eq_false_iff_ne.mpr c48
               have c48b1 : (a0_0 != 7) = true := bne_iff_ne.mpr c48
               by_cases c51 : a0_0 = 9
               ·rw [if_pos c51] at H
                have c51b0 : (a0_0 == 9) = true := beq_iff_eq.mpr c51
                have c51b1 : (a0_0 != 9) = false := bne_eq_false_iff_eq.mpr c51
                clear c51
                by_cases c52 : t111 = true
                ·subst c52
                 have H1 : (if a0_1 = 0 then (if a0_2 = 0 then (some (a0_3 == 0)) else (some false)) else (some false)) = some r := by rw [if_pos rfl] at H; exact H
                 clear H
                 have H := H1
                 clear H1
                 by_cases c53 : a0_1 = 0
                 ·rw [if_pos c53] at H
                  have c53b0 : (a0_1 == 0) = true := beq_iff_eq.mpr c53
                  have c53b1 : (a0_1 != 0) = false := bne_eq_false_iff_eq.mpr c53
                  clear c53
                  by_cases c54 : a0_2 = 0
                  ·rw [if_pos c54] at H
                   have c54b0 : (a0_2 == 0) = true := beq_iff_eq.mpr c54
                   have c54b1 : (a0_2 != 0) = false := bne_eq_false_iff_eq.mpr c54
                   clear c54
                   obtain rfl := Option.some.inj H
                   obtain ⟨hcz55_0, hcz55_1, hcz55_2, hcz55_3, hcz55_4, hfz55_0, hfz55_1, hfz55_2, hfz55_3, hfz55_4⟩ := bR5_ BK106.out
                   go_wp2
                   go_ret
                   exact fI_ HB.out
                  ·rw [if_neg c54] at H
                   have c54b0 : (a0_2 == 0) = false := beq_eq_false_iff_ne.mpr c54
                   have c54b1 : (a0_2 != 0) = true := bne_iff_ne.mpr c54
                   obtain rfl := Option.some.inj H
                   obtain ⟨hcz56_0, hcz56_1, hcz56_2, hcz56_3, hcz56_4, hfz56_0, hfz56_1, hfz56_2, hfz56_3, hfz56_4⟩ := bR5_ BK106.out
                   go_wp2
                   go_ret
                   exact fI_ HB.out
                 ·rw [if_neg c53] at H
                  have c53b0 : (a0_1 == 0) = false := beq_eq_false_iff_ne.mpr c53
                  have c53b1 : (a0_1 != 0) = true := bne_iff_ne.mpr c53
                  obtain rfl := Option.some.inj H
                  obtain ⟨hcz57_0, hcz57_1, hcz57_2, hcz57_3, hcz57_4, hfz57_0, hfz57_1, hfz57_2, hfz57_3, hfz57_4⟩ := bR5_ BK106.out
                  go_wp2
                  go_ret
                  exact fI_ HB.out
                ·replace c52 := Bool.eq_false_iff.mpr c52
                 subst c52
                 have H1 : (some false) = some r := by rw [if_neg (show ¬ (false = true) by decide)] at H; exact H
                 clear H
                 have H := H1
                 clear H1
                 obtain rfl := Option.some.inj H
                 go_wp2
                 go_ret
                 exact fI_ HB.out
               ·rw [if_neg c51] at H
                have c51b0 : (a0_0 == 9) = false := beq_eq_false_iff_ne.mpr c51
                have c51b1 : (a0_0 != 9) = true := bne_iff_ne.mpr c51
                by_cases c58 : a0_0 = 10
                ·rw [if_pos c58] at H
                 have c58b0 : (a0_0 == 10) = true := beq_iff_eq.mpr c58
                 have c58b1 : (a0_0 != 10) = false := bne_eq_false_iff_eq.mpr c58
                 clear c58
                 by_cases c59 : a0_1 = 0
                 ·rw [if_pos c59] at H
                  have c59b0 : (a0_1 == 0) = true := beq_iff_eq.mpr c59
                  have c59b1 : (a0_1 != 0) = false := bne_eq_false_iff_eq.mpr c59
                  clear c59
                  by_cases c60 : a0_3 = 0
                  ·rw [if_pos c60] at H
                   have c60b0 : (a0_3 == 0) = true := beq_iff_eq.mpr c60
                   have c60b1 : (a0_3 != 0) = false := bne_eq_false_iff_eq.mpr c60
                   clear c60
                   obtain rfl := Option.some.inj H
                   obtain ⟨hcz61_0, hcz61_1, hcz61_2, hcz61_3, hcz61_4, hfz61_0, hfz61_1, hfz61_2, hfz61_3, hfz61_4⟩ := bR5_ BK106.out
                   go_wp2
                   go_ret
                   exact fI_ HB.out
                  ·rw [if_neg c60] at H
                   have c60b0 : (a0_3 == 0) = false := beq_eq_false_iff_ne.mpr c60
                   have c60b1 : (a0_3 != 0) = true := bne_iff_ne.mpr c60
                   obtain rfl := Option.some.inj H
                   obtain ⟨hcz62_0, hcz62_1, hcz62_2, hcz62_3, hcz62_4, hfz62_0, hfz62_1, hfz62_2, hfz62_3, hfz62_4⟩ := bR5_ BK106.out
                   go_wp2
                   go_ret
                   exact fI_ HB.out
                 ·rw [if_neg c59] at H
                  have c59b0 : (a0_1 == 0) = false := beq_eq_false_iff_ne.mpr c59
                  have c59b1 : (a0_1 != 0) = true := bne_iff_ne.mpr c59
                  obtain rfl := Option.some.inj H
                  obtain ⟨hcz63_0, hcz63_1, hcz63_2, hcz63_3, hcz63_4, hfz63_0, hfz63_1, hfz63_2, hfz63_3, hfz63_4⟩ := bR5_ BK106.out
                  go_wp2
                  go_ret
                  exact fI_ HB.out
                ·rw [if_neg c58] at H
                 have c58b0 : (a0_0 == 10) = false := beq_eq_false_iff_ne.mpr c58
                 have c58b1 : (a0_0 != 10) = true := bne_iff_ne.mpr c58
                 by_cases c64 : a0_0 = 11
                 ·rw [if_pos c64] at H
                  have c64b0 : (a0_0 == 11) = true := beq_iff_eq.mpr c64
                  have c64b1 : (a0_0 != 11) = false := bne_eq_false_iff_eq.mpr c64
                  clear c64
                  by_cases c65 : x7_17 = true
                  ·subst c65
                   have H1 : (if a0_1 = 0 then (if a0_2 = 0 then (some (a0_3 == 0)) else (some false)) else (some false)) = some r := by rw [if_pos rfl] at H; exact H
                   clear H
                   have H := H1
                   clear H1
                   by_cases c66 : a0_1 = 0
                   ·rw [if_pos c66] at H
                    have c66b0 : (a0_1 == 0) = true := beq_iff_eq.mpr c66
                    have c66b1 : (a0_1 != 0) = false := bne_eq_false_iff_eq.mpr c66
                    clear c66
                    by_cases c67 : a0_2 = 0
                    ·rw [if_pos c67] at H
                     have c67b0 : (a0_2 == 0) = true := beq_iff_eq.mpr c67
                     have c67b1 : (a0_2 != 0) = false := bne_eq_false_iff_eq.mpr c67
                     clear c67
                     obtain rfl := Option.some.inj H
                     obtain ⟨hcz68_0, hcz68_1, hcz68_2, hcz68_3, hcz68_4, hfz68_0, hfz68_1, hfz68_2, hfz68_3, hfz68_4⟩ := bR5_ BK106.out
                     go_wp2
                     go_ret
                     exact fI_ HB.out
                    ·rw [if_neg c67] at H
                     have c67b0 : (a0_2 == 0) = false := beq_eq_false_iff_ne.mpr c67
                     have c67b1 : (a0_2 != 0) = true := bne_iff_ne.mpr c67
                     obtain rfl := Option.some.inj H
                     obtain ⟨hcz69_0, hcz69_1, hcz69_2, hcz69_3, hcz69_4, hfz69_0, hfz69_1, hfz69_2, hfz69_3, hfz69_4⟩ := bR5_ BK106.out
                     go_wp2
                     go_ret
                     exact fI_ HB.out
                   ·rw [if_neg c66] at H
                    have c66b0 : (a0_1 == 0) = false := beq_eq_false_iff_ne.mpr c66
                    have c66b1 : (a0_1 != 0) = true := bne_iff_ne.mpr c66
                    obtain rfl := Option.some.inj H
                    obtain ⟨hcz70_0, hcz70_1, hcz70_2, hcz70_3, hcz70_4, hfz70_0, hfz70_1, hfz70_2, hfz70_3, hfz70_4⟩ := bR5_ BK106.out
                    go_wp2
                    go_ret
                    exact fI_ HB.out
                  ·replace c65 := Bool.eq_false_iff.mpr c65
                   subst c65
                   have H1 : (some false) = some r := by rw [if_neg (show ¬ (false = true) by decide)] at H; exact H
                   clear H
                   have H := H1
                   clear H1
                   obtain rfl := Option.some.inj H
                   go_wp2
                   go_ret
                   exact fI_ HB.out
                 ·rw [if_neg c64] at H
                  have c64b0 : (a0_0 == 11) = false := beq_eq_false_iff_ne.mpr c64
                  have c64b1 : (a0_0 != 11) = true := bne_iff_ne.mpr c64
                  by_cases c71 : a0_0 = 12
                  ·rw [if_pos c71] at H
                   have c71b0 : (a0_0 == 12) = true := beq_iff_eq.mpr c71
                   have c71b1 : (a0_0 != 12) = false := bne_eq_false_iff_eq.mpr c71
                   clear c71
                   by_cases c72 : x7_17 = true
                   ·subst c72
                    have H1 : (if a0_1 = 0 then (some (a0_3 == 0)) else (some false)) = some r := by rw [if_pos rfl] at H; exact H
                    clear H
                    have H := H1
                    clear H1
                    by_cases c73 : a0_1 = 0
                    ·rw [if_pos c73] at H
                     have c73b0 : (a0_1 == 0) = true := beq_iff_eq.mpr c73
                     have c73b1 : (a0_1 != 0) = false := bne_eq_false_iff_eq.mpr c73
                     clear c73
                     obtain rfl := Option.some.inj H
                     obtain ⟨hcz74_0, hcz74_1, hcz74_2, hcz74_3, hcz74_4, hfz74_0, hfz74_1, hfz74_2, hfz74_3, hfz74_4⟩ := bR5_ BK106.out
                     go_wp2
                     go_ret
                     exact fI_ HB.out
                    ·rw [if_neg c73] at H
                     have c73b0 : (a0_1 == 0) = false := beq_eq_false_iff_ne.mpr c73
                     have c73b1 : (a0_1 != 0) = true := bne_iff_ne.mpr c73
                     obtain rfl := Option.some.inj H
                     obtain ⟨hcz75_0, hcz75_1, hcz75_2, hcz75_3, hcz75_4, hfz75_0, hfz75_1, hfz75_2, hfz75_3, hfz75_4⟩ := bR5_ BK106.out
                     go_wp2
                     go_ret
                     exact fI_ HB.out
                   ·replace c72 := Bool.eq_false_iff.mpr c72
                    subst c72
                    have H1 : (some false) = some r := by rw [if_neg (show ¬ (false = true) by decide)] at H; exact H
                    clear H
                    have H := H1
                    clear H1
                    obtain rfl := Option.some.inj H
                    go_wp2
                    go_ret
                    exact fI_ HB.out
                  ·rw [if_neg c71] at H
                   have c71b0 : (a0_0 == 12) = false := beq_eq_false_iff_ne.mpr c71
                   have c71b1 : (a0_0 != 12) = true := bne_iff_ne.mpr c71
                   by_cases c76 : a0_0 = 13
                   ·rw [if_pos c76] at H
                    have c76b0 : (a0_0 == 13) = true := beq_iff_eq.mpr c76
                    have c76b1 : (a0_0 != 13) = false := bne_eq_false_iff_eq.mpr c76
                    clear c76
                    obtain rfl := Option.some.inj H
                    obtain ⟨hcz77_0, hcz77_1, hcz77_2, hcz77_3, hcz77_4, hfz77_0, hfz77_1, hfz77_2, hfz77_3, hfz77_4⟩ := bR5_ BK106.out
                    go_wp2
                    go_ret
                    exact fI_ HB.out
                   ·rw [if_neg c76] at H
                    have c76b0 : (a0_0 == 13) = false := beq_eq_false_iff_ne.mpr c76
                    have c76b1 : (a0_0 != 13) = true := bne_iff_ne.mpr c76
                    obtain rfl := Option.some.inj H
                    go_wp2
                    go_ret
                    exact fI_ HB.out
end Go.Proofs.Ytobachfngmpeiaa.PFnExactSourceNew
