/- A part of the proof that the law FnExactSourceOk holds for every input: the words, functions and walks that its row needs, without a condition of their own. -/
import Derived.Test.YtfaoipojijhlbaaZFnExactSourceOka2
import Derived.Test.YtfaoipojijhlbaaZFnExactSourceOks
namespace Go.Proofs.Ytfaoipojijhlbaa.PFnExactSourceOk
open Go.RowKit Go.Proofs.YtfaoipojijhlbaaW.PrintWords Go.Proofs.YtfaoipojijhlbaaW.PrintLast Go.Proofs.YtfaoipojijhlbaaW.PrintMore
attribute [local go_sem] max2_int min2_int max_two min_two max_three min_three max_four min_four   -- for this text's walks alone
set_option linter.unusedVariables false
set_option linter.unusedSimpArgs false
def laws_eqIntS.l0 : Nat → List Int → List Int → Int → Option (Bool)
  | 0, _, _, _ => none
  | k + 1, x0, x1, x5 => if x5 < (x0.length : Int) then (if 0 ≤ x5 then (if x5 < (x1.length : Int) then (if (rd x0 x5) = (rd x1 x5) then (laws_eqIntS.l0 k x0 x1 (wrap64 (x5 + 1))) else (some false)) else (none)) else (none)) else (some true)
def laws_eqIntS.f (k : Nat) (l0 : List Int) (l1 : List Int) : Option (Bool) := if (l0.length : Int) = (l1.length : Int) then (laws_eqIntS.l0 k l0 l1 0) else (some false)
set_option maxHeartbeats 8000000 in
set_option maxRecDepth 100000 in
theorem laws_eqIntS.calls (k : Nat) (A0 : Option Addr) (c0 : Nat) (l0 : List Int) (A1 : Option Addr) (c1 : Nat) (l1 : List Int) (r : Bool) (w : World) (hr0 : Kd.C (Kd.int .i64) w A0 l0.length l0) (hc0 : l0.length ≤ c0) (hr1 : Kd.C (Kd.int .i64) w A1 l1.length l1) (hc1 : l1.length ≤ c1) (h : laws_eqIntS.f k l0 l1 = some r) :
  Calls Try.prog 12 #[.slice A0 l0.length c0, .slice A1 l1.length c1] w fun e w' => e = .returned (.bool r) ∧ Drawn0 w w' := by
 have HR0 := aM_ hr0
 have HC0 := aM_ hc0
 clear hr0 hc0
 have HR1 := aM_ hr1
 have HC1 := aM_ hc1
 clear hr1 hc1
 have H : (if (l0.length : Int) = (l1.length : Int) then (laws_eqIntS.l0 k l0 l1 0) else (some false)) = some r := h
 clear h
 by_cases c3 : (l0.length : Int) = (l1.length : Int)
 ·rw [if_pos c3] at H
  have c3b0 : ((l0.length : Int) == (l1.length : Int)) = true := beq_iff_eq.mpr c3
  have c3b1 : ((l0.length : Int) != (l1.length : Int)) = false := bne_eq_false_iff_eq.mpr c3
  have c3b2 : (l0.length == l1.length) = true := by first | simpa using c3 | (simp at c3 ⊢; omega)
  clear c3
  have H' := aM_ H
  clear H
  go_enter Try.func12, Try.ntmps12
  go_wp2
  repeat (go_quiet (fail); try go_wp2)
  go_loopg [5] k (fun kq v5 w' => ∃ (x5_1 : Int), v5 = .int .i64 x5_1 ∧ Aside0 (laws_eqIntS.l0 kq l0 l1 x5_1 = some r) ∧ Aside0 (kq ≤ k) ∧ Drawn0 w w')
  case atStart => exact ⟨(0), (by first | rfl | (simp; done) | (simp [*]; done)), H', ⟨Nat.le_refl _⟩, by repeat (first | exact Drawn0.refl _ | apply Drawn0.step)⟩
  case round =>
   clear H'
   try clear c1
   try clear p2
   try clear c3
   try clear c3b0
   try clear c3b1
   try clear c3b2
   obtain ⟨x5_1, rfl, HA, HK1, ⟨m1, rfl⟩⟩ := hrel
   cases gk with
   | zero => exact absurd HA.out (by simp [laws_eqIntS.l0])
   | succ k1 =>
    have H := HA.out
    clear HA
    simp only [laws_eqIntS.l0] at H
    by_cases c4 : x5_1 < (l0.length : Int)
    ·rw [if_pos c4] at H
     have c4b0 : decide (x5_1 < (l0.length : Int)) = true := decide_eq_true c4
     clear c4
     by_cases c5 : 0 ≤ x5_1
     ·rw [if_pos c5] at H
      have c5b0 : decide (0 ≤ x5_1) = true := decide_eq_true c5
      clear c5
      by_cases c6 : x5_1 < (l1.length : Int)
      ·rw [if_pos c6] at H
       have c6b0 : decide (x5_1 < (l1.length : Int)) = true := decide_eq_true c6
       clear c6
       by_cases c7 : (rd l0 x5_1) = (rd l1 x5_1)
       ·rw [if_pos c7] at H
        have c7b0 : ((rd l0 x5_1) == (rd l1 x5_1)) = true := beq_iff_eq.mpr c7
        have c7b1 : ((rd l0 x5_1) != (rd l1 x5_1)) = false := bne_eq_false_iff_eq.mpr c7
        clear c7
        have H' := aM_ H
        clear H
        have p293 : 0 ≤ (x5_1 : Int) := of_decide_eq_true (by first | (with_reducible assumption) | assumption)
        have q293 : x5_1 < (l0.length : Int) := of_decide_eq_true (by first | (with_reducible assumption) | assumption)
        obtain ⟨ad293, e293, hx293_0⟩ := Kd.at_int HR0.out x5_1 p293 q293
        cases e293
        replace p293 := eq_true p293
        replace q293 := eq_true q293
        have p294 : 0 ≤ (x5_1 : Int) := of_decide_eq_true (by first | (with_reducible assumption) | assumption)
        have q294 : x5_1 < (l1.length : Int) := of_decide_eq_true (by first | (with_reducible assumption) | assumption)
        obtain ⟨ad294, e294, hx294_0⟩ := Kd.at_int HR1.out x5_1 p294 q294
        cases e294
        replace p294 := eq_true p294
        replace q294 := eq_true q294
        go_wp2
        repeat (go_quiet (fail); try go_wp2)
        go_roundg k1
        case measure => have := HK1.out; omega
        case rel => exact ⟨(wrap64 (x5_1 + 1)), (by first | rfl | (simp; done) | (simp [*]; done)), H', ⟨by have := HK1.out; omega⟩, by repeat (first | exact Drawn0.refl _ | apply Drawn0.step)⟩
       ·rw [if_neg c7] at H
        have c7b0 : ((rd l0 x5_1) == (rd l1 x5_1)) = false := beq_eq_false_iff_ne.mpr c7
        have c7b1 : ((rd l0 x5_1) != (rd l1 x5_1)) = true := bne_iff_ne.mpr c7
        obtain rfl := Option.some.inj H
        have p293 : 0 ≤ (x5_1 : Int) := of_decide_eq_true (by first | (with_reducible assumption) | assumption)
        have q293 : x5_1 < (l0.length : Int) := of_decide_eq_true (by first | (with_reducible assumption) | assumption)
        obtain ⟨ad293, e293, hx293_0⟩ := Kd.at_int HR0.out x5_1 p293 q293
        cases e293
        replace p293 := eq_true p293
        replace q293 := eq_true q293
        have p294 : 0 ≤ (x5_1 : Int) := of_decide_eq_true (by first | (with_reducible assumption) | assumption)
        have q294 : x5_1 < (l1.length : Int) := of_decide_eq_true (by first | (with_reducible assumption) | assumption)
        obtain ⟨ad294, e294, hx294_0⟩ := Kd.at_int HR1.out x5_1 p294 q294
        cases e294
        replace p294 := eq_true p294
        replace q294 := eq_true q294
        go_wp2
        repeat (go_quiet (fail); try go_wp2)
        go_ret
        exact ⟨by first | rfl | (simp; done) | (simp [*]; done), by repeat (first | exact Drawn0.refl _ | apply Drawn0.step)⟩
      ·rw [if_neg c6] at H
       exact absurd H (by simp)
     ·rw [if_neg c5] at H
      exact absurd H (by simp)
    ·rw [if_neg c4] at H
     have c4b0 : decide (x5_1 < (l0.length : Int)) = false := decide_eq_false c4
     clear c4
     obtain rfl := Option.some.inj H
     go_wp2
     repeat (go_quiet (fail); try go_wp2)
     go_ret
     exact ⟨by first | rfl | (simp; done) | (simp [*]; done), by repeat (first | exact Drawn0.refl _ | apply Drawn0.step)⟩
 ·rw [if_neg c3] at H
  have c3b0 : ((l0.length : Int) == (l1.length : Int)) = false := beq_eq_false_iff_ne.mpr c3
  have c3b1 : ((l0.length : Int) != (l1.length : Int)) = true := bne_iff_ne.mpr c3
  have c3b2 : (l0.length == l1.length) = false := by first | simpa using c3 | (simp at c3 ⊢; omega)
  obtain rfl := Option.some.inj H
  go_enter Try.func12, Try.ntmps12
  go_wp2
  repeat (go_quiet (fail); try go_wp2)
  go_ret
  exact ⟨by first | rfl | (simp; done) | (simp [*]; done), by repeat (first | exact Drawn0.refl _ | apply Drawn0.step)⟩
def laws_eqIns.f (a0_0 : Int) (a0_1 : Int) (a0_2 : Int) (a0_3 : Int) (a0_4 : Int) (a1_0 : Int) (a1_1 : Int) (a1_2 : Int) (a1_3 : Int) (a1_4 : Int) : Option (Bool) := if a0_0 = a1_0 then (if a0_1 = a1_1 then (if a0_2 = a1_2 then (if a0_3 = a1_3 then (if a0_4 = a1_4 then (some true) else (some false)) else (some false)) else (some false)) else (some false)) else (some false)
set_option maxHeartbeats 8000000 in
set_option maxRecDepth 100000 in
theorem laws_eqIns.calls (a0_0 : Int) (a0_1 : Int) (a0_2 : Int) (a0_3 : Int) (a0_4 : Int) (a1_0 : Int) (a1_1 : Int) (a1_2 : Int) (a1_3 : Int) (a1_4 : Int) (r : Bool) (w : World) (h : laws_eqIns.f a0_0 a0_1 a0_2 a0_3 a0_4 a1_0 a1_1 a1_2 a1_3 a1_4 = some r) :
  Calls Try.prog 98 #[.agg #[.int .i64 a0_0, .int .i64 a0_1, .int .i64 a0_2, .int .i64 a0_3, .int .i64 a0_4], .agg #[.int .i64 a1_0, .int .i64 a1_1, .int .i64 a1_2, .int .i64 a1_3, .int .i64 a1_4]] w fun e w' => e = .returned (.bool r) ∧ Below w.heap.size w w' := by
 have hu155 := Try.underlying155
 have HB := aM_ (Below.refl w.heap.size w)
 have H : (if a0_0 = a1_0 then (if a0_1 = a1_1 then (if a0_2 = a1_2 then (if a0_3 = a1_3 then (if a0_4 = a1_4 then (some true) else (some false)) else (some false)) else (some false)) else (some false)) else (some false)) = some r := h
 clear h
 by_cases c3 : a0_0 = a1_0
 ·rw [if_pos c3] at H
  have c3b0 : (a0_0 == a1_0) = true := beq_iff_eq.mpr c3
  have c3b1 : (a0_0 != a1_0) = false := bne_eq_false_iff_eq.mpr c3
  clear c3
  by_cases c4 : a0_1 = a1_1
  ·rw [if_pos c4] at H
   have c4b0 : (a0_1 == a1_1) = true := beq_iff_eq.mpr c4
   have c4b1 : (a0_1 != a1_1) = false := bne_eq_false_iff_eq.mpr c4
   clear c4
   by_cases c5 : a0_2 = a1_2
   ·rw [if_pos c5] at H
    have c5b0 : (a0_2 == a1_2) = true := beq_iff_eq.mpr c5
    have c5b1 : (a0_2 != a1_2) = false := bne_eq_false_iff_eq.mpr c5
    clear c5
    by_cases c6 : a0_3 = a1_3
    ·rw [if_pos c6] at H
     have c6b0 : (a0_3 == a1_3) = true := beq_iff_eq.mpr c6
     have c6b1 : (a0_3 != a1_3) = false := bne_eq_false_iff_eq.mpr c6
     clear c6
     by_cases c7 : a0_4 = a1_4
     ·rw [if_pos c7] at H
      have c7b0 : (a0_4 == a1_4) = true := beq_iff_eq.mpr c7
      have c7b1 : (a0_4 != a1_4) = false := bne_eq_false_iff_eq.mpr c7
      clear c7
      obtain rfl := Option.some.inj H
      go_enter Try.func98, Try.ntmps98
      go_wp2_with (first | ((with_reducible refine gate_dst (N := 2) rfl ?_); refine bX_ 2 (cs := #[.int .i64 a0_0, .int .i64 a0_1, .int .i64 a0_2, .int .i64 a0_3, .int .i64 a0_4]) (t := 155) ?_; intro gb295 hg w8 hbox hb; have n0 := aM_ (sT_ HB.out hb); have n1 := aM_ (hbox); have n2 := aM_ (sZ_ hg HB.out); have n3 := aM_ (sZ_ hg HB.out); clear HB; have HB := n0; have BK295 := n1; have GW295 := n2; have GE295 := n3; clear n0 n1 n2 n3; clear hb hbox hg) | ((with_reducible refine gate_dst (N := 3) rfl ?_); refine bX_ 3 (cs := #[.int .i64 a1_0, .int .i64 a1_1, .int .i64 a1_2, .int .i64 a1_3, .int .i64 a1_4]) (t := 155) ?_; intro gb296 hg w9 hbox hb; have n0 := aM_ (nB_ BK295.out hb); have n1 := aM_ (sT_ HB.out hb); have n2 := aM_ (hbox); have n3 := aM_ (sZ_ hg HB.out); have n4 := aM_ (sZ_ hg HB.out); have n5 := aM_ (nL_ hg BK295.out); have n6 := aM_ (nG_ hg BK295.out); clear BK295; clear HB; have BK295 := n0; have HB := n1; have BK296 := n2; have GW296 := n3; have GE296 := n4; have NB295_296 := n5; have NB296_295 := n6; clear n0 n1 n2 n3 n4 n5 n6; clear hb hbox hg; have hnb10 := NB295_296.out; have hnc10 := NB296_295.out; obtain ⟨hcz11_0, hcz11_1, hcz11_2, hcz11_3, hcz11_4, hfz11_0, hfz11_1, hfz11_2, hfz11_3, hfz11_4⟩ := bR5_ BK295.out; obtain ⟨hcz12_0, hcz12_1, hcz12_2, hcz12_3, hcz12_4, hfz12_0, hfz12_1, hfz12_2, hfz12_3, hfz12_4⟩ := bR5_ BK296.out))
      go_ret
      exact fI_ HB.out
     ·rw [if_neg c7] at H
      have c7b0 : (a0_4 == a1_4) = false := beq_eq_false_iff_ne.mpr c7
      have c7b1 : (a0_4 != a1_4) = true := bne_iff_ne.mpr c7
      obtain rfl := Option.some.inj H
      go_enter Try.func98, Try.ntmps98
      go_wp2_with (first | ((with_reducible refine gate_dst (N := 2) rfl ?_); refine bX_ 2 (cs := #[.int .i64 a0_0, .int .i64 a0_1, .int .i64 a0_2, .int .i64 a0_3, .int .i64 a0_4]) (t := 155) ?_; intro gb295 hg w13 hbox hb; have n0 := aM_ (sT_ HB.out hb); have n1 := aM_ (hbox); have n2 := aM_ (sZ_ hg HB.out); have n3 := aM_ (sZ_ hg HB.out); clear HB; have HB := n0; have BK295 := n1; have GW295 := n2; have GE295 := n3; clear n0 n1 n2 n3; clear hb hbox hg) | ((with_reducible refine gate_dst (N := 3) rfl ?_); refine bX_ 3 (cs := #[.int .i64 a1_0, .int .i64 a1_1, .int .i64 a1_2, .int .i64 a1_3, .int .i64 a1_4]) (t := 155) ?_; intro gb296 hg w14 hbox hb; have n0 := aM_ (nB_ BK295.out hb); have n1 := aM_ (sT_ HB.out hb); have n2 := aM_ (hbox); have n3 := aM_ (sZ_ hg HB.out); have n4 := aM_ (sZ_ hg HB.out); have n5 := aM_ (nL_ hg BK295.out); have n6 := aM_ (nG_ hg BK295.out); clear BK295; clear HB; have BK295 := n0; have HB := n1; have BK296 := n2; have GW296 := n3; have GE296 := n4; have NB295_296 := n5; have NB296_295 := n6; clear n0 n1 n2 n3 n4 n5 n6; clear hb hbox hg; have hnb15 := NB295_296.out; have hnc15 := NB296_295.out; obtain ⟨hcz16_0, hcz16_1, hcz16_2, hcz16_3, hcz16_4, hfz16_0, hfz16_1, hfz16_2, hfz16_3, hfz16_4⟩ := bR5_ BK295.out; obtain ⟨hcz17_0, hcz17_1, hcz17_2, hcz17_3, hcz17_4, hfz17_0, hfz17_1, hfz17_2, hfz17_3, hfz17_4⟩ := bR5_ BK296.out))
      go_ret
      exact fI_ HB.out
    ·rw [if_neg c6] at H
     have c6b0 : (a0_3 == a1_3) = false := beq_eq_false_iff_ne.mpr c6
     have c6b1 : (a0_3 != a1_3) = true := bne_iff_ne.mpr c6
     obtain rfl := Option.some.inj H
     go_enter Try.func98, Try.ntmps98
     go_wp2_with (first | ((with_reducible refine gate_dst (N := 2) rfl ?_); refine bX_ 2 (cs := #[.int .i64 a0_0, .int .i64 a0_1, .int .i64 a0_2, .int .i64 a0_3, .int .i64 a0_4]) (t := 155) ?_; intro gb295 hg w18 hbox hb; have n0 := aM_ (sT_ HB.out hb); have n1 := aM_ (hbox); have n2 := aM_ (sZ_ hg HB.out); have n3 := aM_ (sZ_ hg HB.out); clear HB; have HB := n0; have BK295 := n1; have GW295 := n2; have GE295 := n3; clear n0 n1 n2 n3; clear hb hbox hg) | ((with_reducible refine gate_dst (N := 3) rfl ?_); refine bX_ 3 (cs := #[.int .i64 a1_0, .int .i64 a1_1, .int .i64 a1_2, .int .i64 a1_3, .int .i64 a1_4]) (t := 155) ?_; intro gb296 hg w19 hbox hb; have n0 := aM_ (nB_ BK295.out hb); have n1 := aM_ (sT_ HB.out hb); have n2 := aM_ (hbox); have n3 := aM_ (sZ_ hg HB.out); have n4 := aM_ (sZ_ hg HB.out); have n5 := aM_ (nL_ hg BK295.out); have n6 := aM_ (nG_ hg BK295.out); clear BK295; clear HB; have BK295 := n0; have HB := n1; have BK296 := n2; have GW296 := n3; have GE296 := n4; have NB295_296 := n5; have NB296_295 := n6; clear n0 n1 n2 n3 n4 n5 n6; clear hb hbox hg; have hnb20 := NB295_296.out; have hnc20 := NB296_295.out; obtain ⟨hcz21_0, hcz21_1, hcz21_2, hcz21_3, hcz21_4, hfz21_0, hfz21_1, hfz21_2, hfz21_3, hfz21_4⟩ := bR5_ BK295.out; obtain ⟨hcz22_0, hcz22_1, hcz22_2, hcz22_3, hcz22_4, hfz22_0, hfz22_1, hfz22_2, hfz22_3, hfz22_4⟩ := bR5_ BK296.out))
     go_ret
     exact fI_ HB.out
   ·rw [if_neg c5] at H
    have c5b0 : (a0_2 == a1_2) = false := beq_eq_false_iff_ne.mpr c5
    have c5b1 : (a0_2 != a1_2) = true := bne_iff_ne.mpr c5
    obtain rfl := Option.some.inj H
    go_enter Try.func98, Try.ntmps98
    go_wp2_with (first | ((with_reducible refine gate_dst (N := 2) rfl ?_); refine bX_ 2 (cs := #[.int .i64 a0_0, .int .i64 a0_1, .int .i64 a0_2, .int .i64 a0_3, .int .i64 a0_4]) (t := 155) ?_; intro gb295 hg w23 hbox hb; have n0 := aM_ (sT_ HB.out hb); have n1 := aM_ (hbox); have n2 := aM_ (sZ_ hg HB.out); have n3 := aM_ (sZ_ hg HB.out); clear HB; have HB := n0; have BK295 := n1; have GW295 := n2; have GE295 := n3; clear n0 n1 n2 n3; clear hb hbox hg) | ((with_reducible refine gate_dst (N := 3) rfl ?_); refine bX_ 3 (cs := #[.int .i64 a1_0, .int .i64 a1_1, .int .i64 a1_2, .int .i64 a1_3, .int .i64 a1_4]) (t := 155) ?_; intro gb296 hg w24 hbox hb; have n0 := aM_ (nB_ BK295.out hb); have n1 := aM_ (sT_ HB.out hb); have n2 := aM_ (hbox); have n3 := aM_ (sZ_ hg HB.out); have n4 := aM_ (sZ_ hg HB.out); have n5 := aM_ (nL_ hg BK295.out); have n6 := aM_ (nG_ hg BK295.out); clear BK295; clear HB; have BK295 := n0; have HB := n1; have BK296 := n2; have GW296 := n3; have GE296 := n4; have NB295_296 := n5; have NB296_295 := n6; clear n0 n1 n2 n3 n4 n5 n6; clear hb hbox hg; have hnb25 := NB295_296.out; have hnc25 := NB296_295.out; obtain ⟨hcz26_0, hcz26_1, hcz26_2, hcz26_3, hcz26_4, hfz26_0, hfz26_1, hfz26_2, hfz26_3, hfz26_4⟩ := bR5_ BK295.out; obtain ⟨hcz27_0, hcz27_1, hcz27_2, hcz27_3, hcz27_4, hfz27_0, hfz27_1, hfz27_2, hfz27_3, hfz27_4⟩ := bR5_ BK296.out))
    go_ret
    exact fI_ HB.out
  ·rw [if_neg c4] at H
   have c4b0 : (a0_1 == a1_1) = false := beq_eq_false_iff_ne.mpr c4
   have c4b1 : (a0_1 != a1_1) = true := bne_iff_ne.mpr c4
   obtain rfl := Option.some.inj H
   go_enter Try.func98, Try.ntmps98
   go_wp2_with (first | ((with_reducible refine gate_dst (N := 2) rfl ?_); refine bX_ 2 (cs := #[.int .i64 a0_0, .int .i64 a0_1, .int .i64 a0_2, .int .i64 a0_3, .int .i64 a0_4]) (t := 155) ?_; intro gb295 hg w28 hbox hb; have n0 := aM_ (sT_ HB.out hb); have n1 := aM_ (hbox); have n2 := aM_ (sZ_ hg HB.out); have n3 := aM_ (sZ_ hg HB.out); clear HB; have HB := n0; have BK295 := n1; have GW295 := n2; have GE295 := n3; clear n0 n1 n2 n3; clear hb hbox hg) | ((with_reducible refine gate_dst (N := 3) rfl ?_); refine bX_ 3 (cs := #[.int .i64 a1_0, .int .i64 a1_1, .int .i64 a1_2, .int .i64 a1_3, .int .i64 a1_4]) (t := 155) ?_; intro gb296 hg w29 hbox hb; have n0 := aM_ (nB_ BK295.out hb); have n1 := aM_ (sT_ HB.out hb); have n2 := aM_ (hbox); have n3 := aM_ (sZ_ hg HB.out); have n4 := aM_ (sZ_ hg HB.out); have n5 := aM_ (nL_ hg BK295.out); have n6 := aM_ (nG_ hg BK295.out); clear BK295; clear HB; have BK295 := n0; have HB := n1; have BK296 := n2; have GW296 := n3; have GE296 := n4; have NB295_296 := n5; have NB296_295 := n6; clear n0 n1 n2 n3 n4 n5 n6; clear hb hbox hg; have hnb30 := NB295_296.out; have hnc30 := NB296_295.out; obtain ⟨hcz31_0, hcz31_1, hcz31_2, hcz31_3, hcz31_4, hfz31_0, hfz31_1, hfz31_2, hfz31_3, hfz31_4⟩ := bR5_ BK295.out; obtain ⟨hcz32_0, hcz32_1, hcz32_2, hcz32_3, hcz32_4, hfz32_0, hfz32_1, hfz32_2, hfz32_3, hfz32_4⟩ := bR5_ BK296.out))
   go_ret
   exact fI_ HB.out
 ·rw [if_neg c3] at H
  have c3b0 : (a0_0 == a1_0) = false := beq_eq_false_iff_ne.mpr c3
  have c3b1 : (a0_0 != a1_0) = true := bne_iff_ne.mpr c3
  obtain rfl := Option.some.inj H
  go_enter Try.func98, Try.ntmps98
  go_wp2_with (first | ((with_reducible refine gate_dst (N := 2) rfl ?_); refine bX_ 2 (cs := #[.int .i64 a0_0, .int .i64 a0_1, .int .i64 a0_2, .int .i64 a0_3, .int .i64 a0_4]) (t := 155) ?_; intro gb295 hg w33 hbox hb; have n0 := aM_ (sT_ HB.out hb); have n1 := aM_ (hbox); have n2 := aM_ (sZ_ hg HB.out); have n3 := aM_ (sZ_ hg HB.out); clear HB; have HB := n0; have BK295 := n1; have GW295 := n2; have GE295 := n3; clear n0 n1 n2 n3; clear hb hbox hg) | ((with_reducible refine gate_dst (N := 3) rfl ?_); refine bX_ 3 (cs := #[.int .i64 a1_0, .int .i64 a1_1, .int .i64 a1_2, .int .i64 a1_3, .int .i64 a1_4]) (t := 155) ?_; intro gb296 hg w34 hbox hb; have n0 := aM_ (nB_ BK295.out hb); have n1 := aM_ (sT_ HB.out hb); have n2 := aM_ (hbox); have n3 := aM_ (sZ_ hg HB.out); have n4 := aM_ (sZ_ hg HB.out); have n5 := aM_ (nL_ hg BK295.out); have n6 := aM_ (nG_ hg BK295.out); clear BK295; clear HB; have BK295 := n0; have HB := n1; have BK296 := n2; have GW296 := n3; have GE296 := n4; have NB295_296 := n5; have NB296_295 := n6; clear n0 n1 n2 n3 n4 n5 n6; clear hb hbox hg; have hnb35 := NB295_296.out; have hnc35 := NB296_295.out; obtain ⟨hcz36_0, hcz36_1, hcz36_2, hcz36_3, hcz36_4, hfz36_0, hfz36_1, hfz36_2, hfz36_3, hfz36_4⟩ := bR5_ BK295.out; obtain ⟨hcz37_0, hcz37_1, hcz37_2, hcz37_3, hcz37_4, hfz37_0, hfz37_1, hfz37_2, hfz37_3, hfz37_4⟩ := bR5_ BK296.out))
  go_ret
  exact fI_ HB.out
def laws_eqInsS.l0 : Nat → List (S155) → List (S155) → Int → Option (Bool)
  | 0, _, _, _ => none
  | k + 1, x0, x1, x5 => if x5 < (x0.length : Int) then (if 0 ≤ x5 then (if x5 < (x1.length : Int) then ((laws_eqIns.f ((rd_T155 x0 x5).f0) ((rd_T155 x0 x5).f1) ((rd_T155 x0 x5).f2) ((rd_T155 x0 x5).f3) ((rd_T155 x0 x5).f4) ((rd_T155 x1 x5).f0) ((rd_T155 x1 x5).f1) ((rd_T155 x1 x5).f2) ((rd_T155 x1 x5).f3) ((rd_T155 x1 x5).f4)).bind fun t299 => (if t299 = true then (laws_eqInsS.l0 k x0 x1 (wrap64 (x5 + 1))) else (some false))) else (none)) else (none)) else (some true)
def laws_eqInsS.f (k : Nat) (l0 : List (S155)) (l1 : List (S155)) : Option (Bool) := if (l0.length : Int) = (l1.length : Int) then (laws_eqInsS.l0 k l0 l1 0) else (some false)
def laws_eqInsS.T6 : Bool × List (List Nat × List Nat) := (true, [([], []), ([], []), ([0, 1], [0, 1]), ([2], [2]), ([], []), ([], []), ([4, 5], [4, 5]), ([6], [6]), ([3, 7], [3, 7]), ([8], [8])])
def laws_eqInsS.B6 : List Nat := [0, 0, 3, 7, 0, 0, 48, 112, 255, 511]
theorem laws_eqInsS.tab6 : rtab .any (opsOf Try.f80 6) = laws_eqInsS.T6 := by kernel_rfl
theorem laws_eqInsS.bits6 : waitsOk laws_eqInsS.T6.2 laws_eqInsS.B6 = true := by kernel_rfl
set_option maxHeartbeats 8000000 in
set_option maxRecDepth 100000 in
theorem laws_eqInsS.calls (k : Nat) (A0 : Option Addr) (c0 : Nat) (l0 : List (S155)) (A1 : Option Addr) (c1 : Nat) (l1 : List (S155)) (r : Bool) (w : World) (hr0 : Kd.C k155 w A0 l0.length l0) (hc0 : l0.length ≤ c0) (hr1 : Kd.C k155 w A1 l1.length l1) (hc1 : l1.length ≤ c1) (h : laws_eqInsS.f k l0 l1 = some r) :
  Calls Try.prog 80 #[.slice A0 l0.length c0, .slice A1 l1.length c1] w fun e w' => e = .returned (.bool r) ∧ Below w.heap.size w w' := by
 have hu155 := Try.underlying155
 have HR0 := aM_ hr0
 have HC0 := aM_ hc0
 clear hr0 hc0
 have HR1 := aM_ hr1
 have HC1 := aM_ hc1
 clear hr1 hc1
 have HB := aM_ (Below.refl w.heap.size w)
 have H : (if (l0.length : Int) = (l1.length : Int) then (laws_eqInsS.l0 k l0 l1 0) else (some false)) = some r := h
 clear h
 by_cases c3 : (l0.length : Int) = (l1.length : Int)
 ·rw [if_pos c3] at H
  have c3b0 : ((l0.length : Int) == (l1.length : Int)) = true := beq_iff_eq.mpr c3
  have c3b1 : ((l0.length : Int) != (l1.length : Int)) = false := bne_eq_false_iff_eq.mpr c3
  have c3b2 : (l0.length == l1.length) = true := by first | simpa using c3 | (simp at c3 ⊢; omega)
  clear c3
  have H' := aM_ H
  clear H
  go_enter Try.func80, Try.ntmps80
  go_wp2
  go_loopg [5] k (fun kq v5 w' => ∃ (x5_1 : Int), v5 = .int .i64 x5_1 ∧ Aside0 (laws_eqInsS.l0 kq l0 l1 x5_1 = some r) ∧ Aside0 (kq ≤ k) ∧ Aside0 (Below w.heap.size w w'))
  case atStart => exact ⟨(0), (by first | rfl | (simp; done) | (simp [*]; done)), H', ⟨Nat.le_refl _⟩, ⟨gW_ HB.out⟩⟩
  case round =>
   clear H'
   try clear c1
   try clear p2
   try clear c3
   try clear c3b0
   try clear c3b1
   try clear c3b2
   obtain ⟨x5_1, rfl, HA, HK1, HB⟩ := hrel
   cases gk with
   | zero => exact absurd HA.out (by simp [laws_eqInsS.l0])
   | succ k1 =>
    have H := HA.out
    clear HA
    simp only [laws_eqInsS.l0] at H
    by_cases c4 : x5_1 < (l0.length : Int)
    ·rw [if_pos c4] at H
     have c4b0 : decide (x5_1 < (l0.length : Int)) = true := decide_eq_true c4
     clear c4
     by_cases c5 : 0 ≤ x5_1
     ·rw [if_pos c5] at H
      have c5b0 : decide (0 ≤ x5_1) = true := decide_eq_true c5
      clear c5
      by_cases c6 : x5_1 < (l1.length : Int)
      ·rw [if_pos c6] at H
       have c6b0 : decide (x5_1 < (l1.length : Int)) = true := decide_eq_true c6
       clear c6
       replace H := Option.bind_eq_some_iff.mp H
       obtain ⟨t299, A70, H⟩ := H
       replace H : (if t299 = true then (laws_eqInsS.l0 k1 l0 l1 (wrap64 (x5_1 + 1))) else (some false)) = some r := H
       have A7 := aM_ A70
       clear A70
       by_cases c8 : t299 = true
       ·subst c8
        have H1 : (laws_eqInsS.l0 k1 l0 l1 (wrap64 (x5_1 + 1))) = some r := by rw [if_pos rfl] at H; exact H
        clear H
        have H := H1
        clear H1
        have H' := aM_ H
        clear H
        try go_wp2
        have n0 := aM_ (below_drew1 HB.out)
        clear HB
        have HB := n0
        clear n0
        have p297 : 0 ≤ (x5_1 : Int) := of_decide_eq_true (by first | (with_reducible assumption) | assumption)
        have q297 : x5_1 < (l0.length : Int) := of_decide_eq_true (by first | (with_reducible assumption) | assumption)
        obtain ⟨ad297, e297, hx297_0, hx297_1, hx297_2, hx297_3, hx297_4⟩ := at_T155 HR0.out x5_1 p297 q297
        have hw297_4 := hx297_4
        have hw297_3 := hx297_3
        have hw297_2 := hx297_2
        have hw297_1 := hx297_1
        have hw297_0 := hx297_0
        cases e297
        replace hx297_0 := cB_ HB.out hx297_0
        replace hx297_1 := cB_ HB.out hx297_1
        replace hx297_2 := cB_ HB.out hx297_2
        replace hx297_3 := cB_ HB.out hx297_3
        replace hx297_4 := cB_ HB.out hx297_4
        replace p297 := eq_true p297
        replace q297 := eq_true q297
        have p298 : 0 ≤ (x5_1 : Int) := of_decide_eq_true (by first | (with_reducible assumption) | assumption)
        have q298 : x5_1 < (l1.length : Int) := of_decide_eq_true (by first | (with_reducible assumption) | assumption)
        obtain ⟨ad298, e298, hx298_0, hx298_1, hx298_2, hx298_3, hx298_4⟩ := at_T155 HR1.out x5_1 p298 q298
        have hw298_4 := hx298_4
        have hw298_3 := hx298_3
        have hw298_2 := hx298_2
        have hw298_1 := hx298_1
        have hw298_0 := hx298_0
        cases e298
        replace hx298_0 := cB_ HB.out hx298_0
        replace hx298_1 := cB_ HB.out hx298_1
        replace hx298_2 := cB_ HB.out hx298_2
        replace hx298_3 := cB_ HB.out hx298_3
        replace hx298_4 := cB_ HB.out hx298_4
        replace p298 := eq_true p298
        replace q298 := eq_true q298
        refine start_ (n := 10) (S := fun w' => w'.cell? (ad297.add ((x5_1).toNat * 5)) = some (.int .i64 ((rd_T155 l0 x5_1).f0)) ∧ w'.cell? ⟨(ad297.add ((x5_1).toNat * 5)).block, (ad297.add ((x5_1).toNat * 5)).off + 1, none⟩ = some (.int .i64 ((rd_T155 l0 x5_1).f1)) ∧ w'.cell? ⟨(ad297.add ((x5_1).toNat * 5)).block, (ad297.add ((x5_1).toNat * 5)).off + 2, none⟩ = some (.int .i64 ((rd_T155 l0 x5_1).f2)) ∧ w'.cell? ⟨(ad297.add ((x5_1).toNat * 5)).block, (ad297.add ((x5_1).toNat * 5)).off + 3, none⟩ = some (.int .i64 ((rd_T155 l0 x5_1).f3)) ∧ w'.cell? ⟨(ad297.add ((x5_1).toNat * 5)).block, (ad297.add ((x5_1).toNat * 5)).off + 4, none⟩ = some (.int .i64 ((rd_T155 l0 x5_1).f4)) ∧ w'.cell? (ad298.add ((x5_1).toNat * 5)) = some (.int .i64 ((rd_T155 l1 x5_1).f0)) ∧ w'.cell? ⟨(ad298.add ((x5_1).toNat * 5)).block, (ad298.add ((x5_1).toNat * 5)).off + 1, none⟩ = some (.int .i64 ((rd_T155 l1 x5_1).f1)) ∧ w'.cell? ⟨(ad298.add ((x5_1).toNat * 5)).block, (ad298.add ((x5_1).toNat * 5)).off + 2, none⟩ = some (.int .i64 ((rd_T155 l1 x5_1).f2)) ∧ w'.cell? ⟨(ad298.add ((x5_1).toNat * 5)).block, (ad298.add ((x5_1).toNat * 5)).off + 3, none⟩ = some (.int .i64 ((rd_T155 l1 x5_1).f3)) ∧ w'.cell? ⟨(ad298.add ((x5_1).toNat * 5)).block, (ad298.add ((x5_1).toNat * 5)).off + 4, none⟩ = some (.int .i64 ((rd_T155 l1 x5_1).f4))) (ds := []) (mk_ 10 0) (by kernel_rfl) rfl rfl ⟨(cB_ HB.out hw297_0 :), (cB_ HB.out hw297_1 :), (cB_ HB.out hw297_2 :), (cB_ HB.out hw297_3 :), (cB_ HB.out hw297_4 :), (cB_ HB.out hw298_0 :), (cB_ HB.out hw298_1 :), (cB_ HB.out hw298_2 :), (cB_ HB.out hw298_3 :), (cB_ HB.out hw298_4 :)⟩ (fun hHeld => ?_); refine with_tabW laws_eqInsS.tab6 laws_eqInsS.bits6 (fun HT_ HW_ => ?_)
        generalize wr.drew = w9 at HB hx297_0 hx297_1 hx297_2 hx297_3 hx297_4 hx298_0 hx298_1 hx298_2 hx298_3 hx298_4 hHeld ⊢
        refine pU_ 0 (some 17) (mk_ 10 1) ?_
        refine pU_ 1 (some 18) (mk_ 10 3) ?_
        refine pU_ 2 (some 19) (mk_ 10 7) ?_
        refine pU_ 4 (some 21) (mk_ 10 23) ?_
        refine pU_ 5 (some 22) (mk_ 10 55) ?_
        refine pU_ 6 (some 23) (mk_ 10 119) ?_
        refine tK10_ 3 (some 20) (mk_ 10 127) ?_
        refine tK10_ 7 (some 24) (mk_ 10 255) ?_
        refine oN_ 8 (some 25) (mk_ 10 511) (fun K hK => ?_)
        refine gO_ Try.func98 #[.agg #[.int .i64 ((rd_T155 l0 x5_1).f0), .int .i64 ((rd_T155 l0 x5_1).f1), .int .i64 ((rd_T155 l0 x5_1).f2), .int .i64 ((rd_T155 l0 x5_1).f3), .int .i64 ((rd_T155 l0 x5_1).f4)], .agg #[.int .i64 ((rd_T155 l1 x5_1).f0), .int .i64 ((rd_T155 l1 x5_1).f1), .int .i64 ((rd_T155 l1 x5_1).f2), .int .i64 ((rd_T155 l1 x5_1).f3), .int .i64 ((rd_T155 l1 x5_1).f4)]] ?_
        with_reducible refine (laws_eqIns.calls ((rd_T155 l0 x5_1).f0) ((rd_T155 l0 x5_1).f1) ((rd_T155 l0 x5_1).f2) ((rd_T155 l0 x5_1).f3) ((rd_T155 l0 x5_1).f4) ((rd_T155 l1 x5_1).f0) ((rd_T155 l1 x5_1).f1) ((rd_T155 l1 x5_1).f2) ((rd_T155 l1 x5_1).f3) ((rd_T155 l1 x5_1).f4) true _ A7.out).mono ?_
        rintro e w10 ⟨rfl, hb⟩
        refine ⟨_, rfl, ?_⟩
        have n0 := aM_ (sT_ HB.out hb)
        clear HB
        have HB := n0
        clear n0
        (try clear hb)
        (try clear hb2)
        (try clear hk)
        (try clear hi)
        refine hK.out _ _ ⟨(cB_ HB.out hw297_0 :), (cB_ HB.out hw297_1 :), (cB_ HB.out hw297_2 :), (cB_ HB.out hw297_3 :), (cB_ HB.out hw297_4 :), (cB_ HB.out hw298_0 :), (cB_ HB.out hw298_1 :), (cB_ HB.out hw298_2 :), (cB_ HB.out hw298_3 :), (cB_ HB.out hw298_4 :)⟩ (fun hHeld => ?_)
        clear hK K
        refine norm_ (a' := ?_) ?_ ?_
        rotate_left
        ·show Act.put _ (some 25) _ = _
         simp only [pt_, pn_, sI_, s0_, s1_, i64_w, i32_w]
         rfl
        refine pU_ 9 (some 26) (mk_ 10 1023) ?_
        refine done_ (done_of HT_.out (by kernel_rfl)) ?_
        try go_wp2
        go_roundg k1
        case measure => have := HK1.out; omega
        case rel => exact ⟨(wrap64 (x5_1 + 1)), (by first | rfl | (simp; done) | (simp [*]; done)), H', ⟨by have := HK1.out; omega⟩, ⟨gW_ HB.out⟩⟩
       ·replace c8 := Bool.eq_false_iff.mpr c8
        subst c8
        have H1 : (some false) = some r := by rw [if_neg (show ¬ (false = true) by decide)] at H; exact H
        clear H
        have H := H1
        clear H1
        obtain rfl := Option.some.inj H
        try go_wp2
        have n0 := aM_ (below_drew1 HB.out)
        clear HB
        have HB := n0
        clear n0
        have p297 : 0 ≤ (x5_1 : Int) := of_decide_eq_true (by first | (with_reducible assumption) | assumption)
        have q297 : x5_1 < (l0.length : Int) := of_decide_eq_true (by first | (with_reducible assumption) | assumption)
        obtain ⟨ad297, e297, hx297_0, hx297_1, hx297_2, hx297_3, hx297_4⟩ := at_T155 HR0.out x5_1 p297 q297
        have hw297_4 := hx297_4
        have hw297_3 := hx297_3
        have hw297_2 := hx297_2
        have hw297_1 := hx297_1
        have hw297_0 := hx297_0
        cases e297
        replace hx297_0 := cB_ HB.out hx297_0
        replace hx297_1 := cB_ HB.out hx297_1
        replace hx297_2 := cB_ HB.out hx297_2
        replace hx297_3 := cB_ HB.out hx297_3
        replace hx297_4 := cB_ HB.out hx297_4
        replace p297 := eq_true p297
        replace q297 := eq_true q297
        have p298 : 0 ≤ (x5_1 : Int) := of_decide_eq_true (by first | (with_reducible assumption) | assumption)
        have q298 : x5_1 < (l1.length : Int) := of_decide_eq_true (by first | (with_reducible assumption) | assumption)
        obtain ⟨ad298, e298, hx298_0, hx298_1, hx298_2, hx298_3, hx298_4⟩ := at_T155 HR1.out x5_1 p298 q298
        have hw298_4 := hx298_4
        have hw298_3 := hx298_3
        have hw298_2 := hx298_2
        have hw298_1 := hx298_1
        have hw298_0 := hx298_0
        cases e298
        replace hx298_0 := cB_ HB.out hx298_0
        replace hx298_1 := cB_ HB.out hx298_1
        replace hx298_2 := cB_ HB.out hx298_2
        replace hx298_3 := cB_ HB.out hx298_3
        replace hx298_4 := cB_ HB.out hx298_4
        replace p298 := eq_true p298
        replace q298 := eq_true q298
        refine start_ (n := 10) (S := fun w' => w'.cell? (ad297.add ((x5_1).toNat * 5)) = some (.int .i64 ((rd_T155 l0 x5_1).f0)) ∧ w'.cell? ⟨(ad297.add ((x5_1).toNat * 5)).block, (ad297.add ((x5_1).toNat * 5)).off + 1, none⟩ = some (.int .i64 ((rd_T155 l0 x5_1).f1)) ∧ w'.cell? ⟨(ad297.add ((x5_1).toNat * 5)).block, (ad297.add ((x5_1).toNat * 5)).off + 2, none⟩ = some (.int .i64 ((rd_T155 l0 x5_1).f2)) ∧ w'.cell? ⟨(ad297.add ((x5_1).toNat * 5)).block, (ad297.add ((x5_1).toNat * 5)).off + 3, none⟩ = some (.int .i64 ((rd_T155 l0 x5_1).f3)) ∧ w'.cell? ⟨(ad297.add ((x5_1).toNat * 5)).block, (ad297.add ((x5_1).toNat * 5)).off + 4, none⟩ = some (.int .i64 ((rd_T155 l0 x5_1).f4)) ∧ w'.cell? (ad298.add ((x5_1).toNat * 5)) = some (.int .i64 ((rd_T155 l1 x5_1).f0)) ∧ w'.cell? ⟨(ad298.add ((x5_1).toNat * 5)).block, (ad298.add ((x5_1).toNat * 5)).off + 1, none⟩ = some (.int .i64 ((rd_T155 l1 x5_1).f1)) ∧ w'.cell? ⟨(ad298.add ((x5_1).toNat * 5)).block, (ad298.add ((x5_1).toNat * 5)).off + 2, none⟩ = some (.int .i64 ((rd_T155 l1 x5_1).f2)) ∧ w'.cell? ⟨(ad298.add ((x5_1).toNat * 5)).block, (ad298.add ((x5_1).toNat * 5)).off + 3, none⟩ = some (.int .i64 ((rd_T155 l1 x5_1).f3)) ∧ w'.cell? ⟨(ad298.add ((x5_1).toNat * 5)).block, (ad298.add ((x5_1).toNat * 5)).off + 4, none⟩ = some (.int .i64 ((rd_T155 l1 x5_1).f4))) (ds := []) (mk_ 10 0) (by kernel_rfl) rfl rfl ⟨(cB_ HB.out hw297_0 :), (cB_ HB.out hw297_1 :), (cB_ HB.out hw297_2 :), (cB_ HB.out hw297_3 :), (cB_ HB.out hw297_4 :), (cB_ HB.out hw298_0 :), (cB_ HB.out hw298_1 :), (cB_ HB.out hw298_2 :), (cB_ HB.out hw298_3 :), (cB_ HB.out hw298_4 :)⟩ (fun hHeld => ?_); refine with_tabW laws_eqInsS.tab6 laws_eqInsS.bits6 (fun HT_ HW_ => ?_)
        generalize wr.drew = w11 at HB hx297_0 hx297_1 hx297_2 hx297_3 hx297_4 hx298_0 hx298_1 hx298_2 hx298_3 hx298_4 hHeld ⊢
        refine pU_ 0 (some 17) (mk_ 10 1) ?_
        refine pU_ 1 (some 18) (mk_ 10 3) ?_
        refine pU_ 2 (some 19) (mk_ 10 7) ?_
        refine pU_ 4 (some 21) (mk_ 10 23) ?_
        refine pU_ 5 (some 22) (mk_ 10 55) ?_
        refine pU_ 6 (some 23) (mk_ 10 119) ?_
        refine tK10_ 3 (some 20) (mk_ 10 127) ?_
        refine tK10_ 7 (some 24) (mk_ 10 255) ?_
        refine oN_ 8 (some 25) (mk_ 10 511) (fun K hK => ?_)
        refine gO_ Try.func98 #[.agg #[.int .i64 ((rd_T155 l0 x5_1).f0), .int .i64 ((rd_T155 l0 x5_1).f1), .int .i64 ((rd_T155 l0 x5_1).f2), .int .i64 ((rd_T155 l0 x5_1).f3), .int .i64 ((rd_T155 l0 x5_1).f4)], .agg #[.int .i64 ((rd_T155 l1 x5_1).f0), .int .i64 ((rd_T155 l1 x5_1).f1), .int .i64 ((rd_T155 l1 x5_1).f2), .int .i64 ((rd_T155 l1 x5_1).f3), .int .i64 ((rd_T155 l1 x5_1).f4)]] ?_
        with_reducible refine (laws_eqIns.calls ((rd_T155 l0 x5_1).f0) ((rd_T155 l0 x5_1).f1) ((rd_T155 l0 x5_1).f2) ((rd_T155 l0 x5_1).f3) ((rd_T155 l0 x5_1).f4) ((rd_T155 l1 x5_1).f0) ((rd_T155 l1 x5_1).f1) ((rd_T155 l1 x5_1).f2) ((rd_T155 l1 x5_1).f3) ((rd_T155 l1 x5_1).f4) false _ A7.out).mono ?_
        rintro e w12 ⟨rfl, hb⟩
        refine ⟨_, rfl, ?_⟩
        have n0 := aM_ (sT_ HB.out hb)
        clear HB
        have HB := n0
        clear n0
        (try clear hb)
        (try clear hb2)
        (try clear hk)
        (try clear hi)
        refine hK.out _ _ ⟨(cB_ HB.out hw297_0 :), (cB_ HB.out hw297_1 :), (cB_ HB.out hw297_2 :), (cB_ HB.out hw297_3 :), (cB_ HB.out hw297_4 :), (cB_ HB.out hw298_0 :), (cB_ HB.out hw298_1 :), (cB_ HB.out hw298_2 :), (cB_ HB.out hw298_3 :), (cB_ HB.out hw298_4 :)⟩ (fun hHeld => ?_)
        clear hK K
        refine norm_ (a' := ?_) ?_ ?_
        rotate_left
        ·show Act.put _ (some 25) _ = _
         simp only [pt_, pn_, sI_, s0_, s1_, i64_w, i32_w]
         rfl
        refine pU_ 9 (some 26) (mk_ 10 1023) ?_
        refine done_ (done_of HT_.out (by kernel_rfl)) ?_
        try go_wp2
        go_ret
        exact fI_ HB.out
      ·rw [if_neg c6] at H
       exact absurd H (by simp)
     ·rw [if_neg c5] at H
      exact absurd H (by simp)
    ·rw [if_neg c4] at H
     have c4b0 : decide (x5_1 < (l0.length : Int)) = false := decide_eq_false c4
     clear c4
     obtain rfl := Option.some.inj H
     go_wp2
     go_ret
     exact fI_ HB.out
 ·rw [if_neg c3] at H
  have c3b0 : ((l0.length : Int) == (l1.length : Int)) = false := beq_eq_false_iff_ne.mpr c3
  have c3b1 : ((l0.length : Int) != (l1.length : Int)) = true := bne_iff_ne.mpr c3
  have c3b2 : (l0.length == l1.length) = false := by first | simpa using c3 | (simp at c3 ⊢; omega)
  obtain rfl := Option.some.inj H
  go_enter Try.func80, Try.ntmps80
  go_wp2
  go_ret
  exact fI_ HB.out
end Go.Proofs.Ytfaoipojijhlbaa.PFnExactSourceOk
