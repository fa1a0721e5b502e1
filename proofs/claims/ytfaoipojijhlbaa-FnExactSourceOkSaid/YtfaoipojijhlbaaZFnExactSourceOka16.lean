/- A part of the proof that the law FnExactSourceOk holds for every input: the words, functions and walks that its row needs, without a condition of their own. -/
import Derived.Test.YtfaoipojijhlbaaZFnExactSourceOka0
import Derived.Test.YtfaoipojijhlbaaZFnExactSourceOka2
import Derived.Test.YtfaoipojijhlbaaZFnExactSourceOka5
import Derived.Test.YtfaoipojijhlbaaZFnExactSourceOka6
import Derived.Test.YtfaoipojijhlbaaZFnExactSourceOka7
import Derived.Test.YtfaoipojijhlbaaZFnExactSourceOka11
import Derived.Test.YtfaoipojijhlbaaZFnExactSourceOka13
import Derived.Test.YtfaoipojijhlbaaZFnExactSourceOka15
import Derived.Test.YtfaoipojijhlbaaZFnExactSourceOks
namespace Go.Proofs.Ytfaoipojijhlbaa.PFnExactSourceOk
open Go.RowKit Go.Proofs.YtfaoipojijhlbaaW.PrintWords Go.Proofs.YtfaoipojijhlbaaW.PrintLast Go.Proofs.YtfaoipojijhlbaaW.PrintMore
attribute [local go_sem] max2_int min2_int max_two min_two max_three min_three max_four min_four   -- for this text's walks alone
set_option linter.unusedVariables false
set_option linter.unusedSimpArgs false
def laws_FnExactSourceOk.f (k : Nat) (l0_0 : List Int) (l0_1 : List (List (S157))) (l1_0 : List (S126)) (l1_1 : List (S128)) (l1_2 : List (S134)) : Option (Bool) := (laws_szProg.f k l0_0 l0_1 1048576).bind fun t331 => (if t331 < 0 then (some true) else ((laws_szSource.f k l1_0 l1_1 l1_2 t331).bind fun t332 => (if t332 < 0 then (some true) else ((laws_toProg.f k l0_0 l0_1).bind fun bt333 => ((laws_toSource.f k l1_0 l1_1 l1_2).bind fun bt339 => ((spec_SourceOk.f k bt333.1 bt333.2 bt339.1 bt339.2.1 bt339.2.2).bind fun t348 => ((laws_toProg.f k l0_0 l0_1).bind fun bt349 => ((laws_toSource.f k l1_0 l1_1 l1_2).bind fun bt356 => ((impl_SourceOk.f k bt349.1 bt349.2 bt356.1 bt356.2.1 bt356.2.2).bind fun t366 => (if (t366 != t348) = true then (some false) else ((laws_toProg.f k l0_0 l0_1).bind fun bt367 => ((laws_eqProg.f k bt349.1 bt349.2 bt367.1 bt367.2).bind fun t373 => (if t373 = true then ((laws_toSource.f k l1_0 l1_1 l1_2).bind fun bt374 => ((laws_eqSource.f k bt356.1 bt356.2.1 bt356.2.2 bt374.1 bt374.2.1 bt374.2.2).bind fun t383 => (if t383 = true then (some true) else (some false)))) else (some false))))))))))))))
set_option maxHeartbeats 8000000 in
set_option maxRecDepth 100000 in
theorem laws_FnExactSourceOk.calls (k : Nat) (A0_0 : Option Addr) (c0_0 : Nat) (l0_0 : List Int) (A0_1 : Option Addr) (c0_1 : Nat) (l0_1 : List (List (S157))) (A1_0 : Option Addr) (c1_0 : Nat) (l1_0 : List (S126)) (A1_1 : Option Addr) (c1_1 : Nat) (l1_1 : List (S128)) (A1_2 : Option Addr) (c1_2 : Nat) (l1_2 : List (S134)) (r : Bool) (w : World) (hr0_0 : Kd.C (Kd.int .i64) w A0_0 l0_0.length l0_0) (hc0_0 : l0_0.length ≤ c0_0) (hr0_1 : Kd.C (Kd.slice 157 k157) w A0_1 l0_1.length l0_1) (hc0_1 : l0_1.length ≤ c0_1) (hr1_0 : Kd.C k126 w A1_0 l1_0.length l1_0) (hc1_0 : l1_0.length ≤ c1_0) (hr1_1 : Kd.C k128 w A1_1 l1_1.length l1_1) (hc1_1 : l1_1.length ≤ c1_1) (hr1_2 : Kd.C k134 w A1_2 l1_2.length l1_2) (hc1_2 : l1_2.length ≤ c1_2) (h : laws_FnExactSourceOk.f k l0_0 l0_1 l1_0 l1_1 l1_2 = some r) (hr : r = true) :
  Calls Try.prog 4 #[.agg #[.slice A0_0 l0_0.length c0_0, .slice A0_1 l0_1.length c0_1], .agg #[.slice A1_0 l1_0.length c1_0, .slice A1_1 l1_1.length c1_1, .slice A1_2 l1_2.length c1_2]] w fun e w' => e = .returned (.bool r) ∧ Below w.heap.size w w' := by
 have hu38 := Try.underlying38
 have hu43 := Try.underlying43
 have hu49 := Try.underlying49
 have hu55 := Try.underlying55
 have HR0_0 := aM_ hr0_0
 have HC0_0 := aM_ hc0_0
 clear hr0_0 hc0_0
 have HR0_1 := aM_ hr0_1
 have HC0_1 := aM_ hc0_1
 clear hr0_1 hc0_1
 have HR1_0 := aM_ hr1_0
 have HC1_0 := aM_ hc1_0
 clear hr1_0 hc1_0
 have HR1_1 := aM_ hr1_1
 have HC1_1 := aM_ hc1_1
 clear hr1_1 hc1_1
 have HR1_2 := aM_ hr1_2
 have HC1_2 := aM_ hc1_2
 clear hr1_2 hc1_2
 have HB := aM_ (Below.refl w.heap.size w)
 have H : ((laws_szProg.f k l0_0 l0_1 1048576).bind fun t331 => (if t331 < 0 then (some true) else ((laws_szSource.f k l1_0 l1_1 l1_2 t331).bind fun t332 => (if t332 < 0 then (some true) else ((laws_toProg.f k l0_0 l0_1).bind fun bt333 => ((laws_toSource.f k l1_0 l1_1 l1_2).bind fun bt339 => ((spec_SourceOk.f k bt333.1 bt333.2 bt339.1 bt339.2.1 bt339.2.2).bind fun t348 => ((laws_toProg.f k l0_0 l0_1).bind fun bt349 => ((laws_toSource.f k l1_0 l1_1 l1_2).bind fun bt356 => ((impl_SourceOk.f k bt349.1 bt349.2 bt356.1 bt356.2.1 bt356.2.2).bind fun t366 => (if (t366 != t348) = true then (some false) else ((laws_toProg.f k l0_0 l0_1).bind fun bt367 => ((laws_eqProg.f k bt349.1 bt349.2 bt367.1 bt367.2).bind fun t373 => (if t373 = true then ((laws_toSource.f k l1_0 l1_1 l1_2).bind fun bt374 => ((laws_eqSource.f k bt356.1 bt356.2.1 bt356.2.2 bt374.1 bt374.2.1 bt374.2.2).bind fun t383 => (if t383 = true then (some true) else (some false)))) else (some false))))))))))))))) = some r := h
 clear h
 replace H := Option.bind_eq_some_iff.mp H
 obtain ⟨t331, A30, H⟩ := H
 replace H : (if t331 < 0 then (some true) else ((laws_szSource.f k l1_0 l1_1 l1_2 t331).bind fun t332 => (if t332 < 0 then (some true) else ((laws_toProg.f k l0_0 l0_1).bind fun bt333 => ((laws_toSource.f k l1_0 l1_1 l1_2).bind fun bt339 => ((spec_SourceOk.f k bt333.1 bt333.2 bt339.1 bt339.2.1 bt339.2.2).bind fun t348 => ((laws_toProg.f k l0_0 l0_1).bind fun bt349 => ((laws_toSource.f k l1_0 l1_1 l1_2).bind fun bt356 => ((impl_SourceOk.f k bt349.1 bt349.2 bt356.1 bt356.2.1 bt356.2.2).bind fun t366 => (if (t366 != t348) = true then (some false) else ((laws_toProg.f k l0_0 l0_1).bind fun bt367 => ((laws_eqProg.f k bt349.1 bt349.2 bt367.1 bt367.2).bind fun t373 => (if t373 = true then ((laws_toSource.f k l1_0 l1_1 l1_2).bind fun bt374 => ((laws_eqSource.f k bt356.1 bt356.2.1 bt356.2.2 bt374.1 bt374.2.1 bt374.2.2).bind fun t383 => (if t383 = true then (some true) else (some false)))) else (some false)))))))))))))) = some r := H
 have A3 := aM_ A30
 clear A30
 by_cases c4 : t331 < 0
 ·rw [if_pos c4] at H
  have c4b0 : decide (t331 < 0) = true := decide_eq_true c4
  clear c4
  obtain rfl := Option.some.inj H
  go_enter Try.func4, Try.ntmps4
  go_wp2_with (first | ((with_reducible refine gate_dst (N := 2) rfl ?_); refine bX_ 2 (cs := #[.slice A0_0 l0_0.length c0_0, .slice A0_1 l0_1.length c0_1]) (t := 38) ?_; intro gb329 hg w5 hbox hb; have n0 := aM_ (sT_ HB.out hb); have n1 := aM_ (hbox); have n2 := aM_ (sZ_ hg HB.out); have n3 := aM_ (sZ_ hg HB.out); clear HB; have HB := n0; have BK329 := n1; have GW329 := n2; have GE329 := n3; clear n0 n1 n2 n3; clear hb hbox hg) | ((with_reducible refine gate_dst (N := 3) rfl ?_); refine bX_ 3 (cs := #[.slice A1_0 l1_0.length c1_0, .slice A1_1 l1_1.length c1_1, .slice A1_2 l1_2.length c1_2]) (t := 43) ?_; intro gb330 hg w6 hbox hb; have n0 := aM_ (nB_ BK329.out hb); have n1 := aM_ (sT_ HB.out hb); have n2 := aM_ (hbox); have n3 := aM_ (sZ_ hg HB.out); have n4 := aM_ (sZ_ hg HB.out); have n5 := aM_ (nL_ hg BK329.out); have n6 := aM_ (nG_ hg BK329.out); clear BK329; clear HB; have BK329 := n0; have HB := n1; have BK330 := n2; have GW330 := n3; have GE330 := n4; have NB329_330 := n5; have NB330_329 := n6; clear n0 n1 n2 n3 n4 n5 n6; clear hb hbox hg; have hnb7 := NB329_330.out; have hnc7 := NB330_329.out; obtain ⟨hcz8_0, hcz8_1, hfz8_0, hfz8_1⟩ := bR2_ BK329.out) | ((with_reducible refine gate_callee (f := 13) rfl ?_); refine gL_ (some 12) Try.func13 #[.agg #[.slice A0_0 l0_0.length c0_0, .slice A0_1 l0_1.length c0_1], .int .i64 1048576] ?_; (with_reducible refine (laws_szProg.calls k _ _ l0_0 _ _ l0_1 1048576 t331 _ ?side1 ?side2 ?side3 ?side4 A3.out).mono ?_); (case side1 => exact cS_ (Kd.C_below HR0_0.out HB.out)); (case side2 => exact HC0_0.out); (case side3 => exact cS_ (Kd.C_below HR0_1.out HB.out)); (case side4 => exact HC0_1.out); rintro e w9 ⟨rfl, hb⟩; refine ⟨_, rfl, ?_⟩; have n0 := aM_ (nB_ BK329.out hb); have n1 := aM_ (nB_ BK330.out hb); have n2 := aM_ (sT_ HB.out hb); clear BK329; clear BK330; clear HB; have BK329 := n0; have BK330 := n1; have HB := n2; clear n0 n1 n2))
  go_ret
  exact fI_ HB.out
 ·rw [if_neg c4] at H
  have c4b0 : decide (t331 < 0) = false := decide_eq_false c4
  clear c4
  replace H := Option.bind_eq_some_iff.mp H
  obtain ⟨t332, A100, H⟩ := H
  replace H : (if t332 < 0 then (some true) else ((laws_toProg.f k l0_0 l0_1).bind fun bt333 => ((laws_toSource.f k l1_0 l1_1 l1_2).bind fun bt339 => ((spec_SourceOk.f k bt333.1 bt333.2 bt339.1 bt339.2.1 bt339.2.2).bind fun t348 => ((laws_toProg.f k l0_0 l0_1).bind fun bt349 => ((laws_toSource.f k l1_0 l1_1 l1_2).bind fun bt356 => ((impl_SourceOk.f k bt349.1 bt349.2 bt356.1 bt356.2.1 bt356.2.2).bind fun t366 => (if (t366 != t348) = true then (some false) else ((laws_toProg.f k l0_0 l0_1).bind fun bt367 => ((laws_eqProg.f k bt349.1 bt349.2 bt367.1 bt367.2).bind fun t373 => (if t373 = true then ((laws_toSource.f k l1_0 l1_1 l1_2).bind fun bt374 => ((laws_eqSource.f k bt356.1 bt356.2.1 bt356.2.2 bt374.1 bt374.2.1 bt374.2.2).bind fun t383 => (if t383 = true then (some true) else (some false)))) else (some false)))))))))))) = some r := H
  have A10 := aM_ A100
  clear A100
  by_cases c11 : t332 < 0
  ·rw [if_pos c11] at H
   have c11b0 : decide (t332 < 0) = true := decide_eq_true c11
   clear c11
   obtain rfl := Option.some.inj H
   go_enter Try.func4, Try.ntmps4
   go_wp2_with (first | ((with_reducible refine gate_dst (N := 2) rfl ?_); refine bX_ 2 (cs := #[.slice A0_0 l0_0.length c0_0, .slice A0_1 l0_1.length c0_1]) (t := 38) ?_; intro gb329 hg w12 hbox hb; have n0 := aM_ (sT_ HB.out hb); have n1 := aM_ (hbox); have n2 := aM_ (sZ_ hg HB.out); have n3 := aM_ (sZ_ hg HB.out); clear HB; have HB := n0; have BK329 := n1; have GW329 := n2; have GE329 := n3; clear n0 n1 n2 n3; clear hb hbox hg) | ((with_reducible refine gate_dst (N := 3) rfl ?_); refine bX_ 3 (cs := #[.slice A1_0 l1_0.length c1_0, .slice A1_1 l1_1.length c1_1, .slice A1_2 l1_2.length c1_2]) (t := 43) ?_; intro gb330 hg w13 hbox hb; have n0 := aM_ (nB_ BK329.out hb); have n1 := aM_ (sT_ HB.out hb); have n2 := aM_ (hbox); have n3 := aM_ (sZ_ hg HB.out); have n4 := aM_ (sZ_ hg HB.out); have n5 := aM_ (nL_ hg BK329.out); have n6 := aM_ (nG_ hg BK329.out); clear BK329; clear HB; have BK329 := n0; have HB := n1; have BK330 := n2; have GW330 := n3; have GE330 := n4; have NB329_330 := n5; have NB330_329 := n6; clear n0 n1 n2 n3 n4 n5 n6; clear hb hbox hg; have hnb14 := NB329_330.out; have hnc14 := NB330_329.out; obtain ⟨hcz15_0, hcz15_1, hfz15_0, hfz15_1⟩ := bR2_ BK329.out) | ((with_reducible refine gate_callee (f := 13) rfl ?_); refine gL_ (some 12) Try.func13 #[.agg #[.slice A0_0 l0_0.length c0_0, .slice A0_1 l0_1.length c0_1], .int .i64 1048576] ?_; (with_reducible refine (laws_szProg.calls k _ _ l0_0 _ _ l0_1 1048576 t331 _ ?side1 ?side2 ?side3 ?side4 A3.out).mono ?_); (case side1 => exact cS_ (Kd.C_below HR0_0.out HB.out)); (case side2 => exact HC0_0.out); (case side3 => exact cS_ (Kd.C_below HR0_1.out HB.out)); (case side4 => exact HC0_1.out); rintro e w16 ⟨rfl, hb⟩; refine ⟨_, rfl, ?_⟩; have n0 := aM_ (nB_ BK329.out hb); have n1 := aM_ (nB_ BK330.out hb); have n2 := aM_ (sT_ HB.out hb); clear BK329; clear BK330; clear HB; have BK329 := n0; have BK330 := n1; have HB := n2; clear n0 n1 n2; obtain ⟨hcz17_0, hcz17_1, hcz17_2, hfz17_0, hfz17_1, hfz17_2⟩ := bR3_ BK330.out) | ((with_reducible refine gate_callee (f := 14) rfl ?_); refine gL_ (some 17) Try.func14 #[.agg #[.slice A1_0 l1_0.length c1_0, .slice A1_1 l1_1.length c1_1, .slice A1_2 l1_2.length c1_2], .int .i64 t331] ?_; (with_reducible refine (laws_szSource.calls k _ _ l1_0 _ _ l1_1 _ _ l1_2 t331 t332 _ ?side1 ?side2 ?side3 ?side4 ?side5 ?side6 A10.out).mono ?_); (case side1 => exact cS_ (Kd.C_below HR1_0.out HB.out)); (case side2 => exact HC1_0.out); (case side3 => exact cS_ (Kd.C_below HR1_1.out HB.out)); (case side4 => exact HC1_1.out); (case side5 => exact cS_ (Kd.C_below HR1_2.out HB.out)); (case side6 => exact HC1_2.out); rintro e w18 ⟨rfl, hb⟩; refine ⟨_, rfl, ?_⟩; have n0 := aM_ (nB_ BK329.out hb); have n1 := aM_ (nB_ BK330.out hb); have n2 := aM_ (sT_ HB.out hb); clear BK329; clear BK330; clear HB; have BK329 := n0; have BK330 := n1; have HB := n2; clear n0 n1 n2))
   go_ret
   exact fI_ HB.out
  ·rw [if_neg c11] at H
   have c11b0 : decide (t332 < 0) = false := decide_eq_false c11
   clear c11
   replace H := Option.bind_eq_some_iff.mp H
   obtain ⟨⟨t333, t336⟩, A190, H⟩ := H
   replace H : ((laws_toSource.f k l1_0 l1_1 l1_2).bind fun bt339 => ((spec_SourceOk.f k t333 t336 bt339.1 bt339.2.1 bt339.2.2).bind fun t348 => ((laws_toProg.f k l0_0 l0_1).bind fun bt349 => ((laws_toSource.f k l1_0 l1_1 l1_2).bind fun bt356 => ((impl_SourceOk.f k bt349.1 bt349.2 bt356.1 bt356.2.1 bt356.2.2).bind fun t366 => (if (t366 != t348) = true then (some false) else ((laws_toProg.f k l0_0 l0_1).bind fun bt367 => ((laws_eqProg.f k bt349.1 bt349.2 bt367.1 bt367.2).bind fun t373 => (if t373 = true then ((laws_toSource.f k l1_0 l1_1 l1_2).bind fun bt374 => ((laws_eqSource.f k bt356.1 bt356.2.1 bt356.2.2 bt374.1 bt374.2.1 bt374.2.2).bind fun t383 => (if t383 = true then (some true) else (some false)))) else (some false)))))))))) = some r := H
   have A19 := aM_ A190
   clear A190
   replace H := Option.bind_eq_some_iff.mp H
   obtain ⟨⟨t339, t342, t345⟩, A200, H⟩ := H
   replace H : ((spec_SourceOk.f k t333 t336 t339 t342 t345).bind fun t348 => ((laws_toProg.f k l0_0 l0_1).bind fun bt349 => ((laws_toSource.f k l1_0 l1_1 l1_2).bind fun bt356 => ((impl_SourceOk.f k bt349.1 bt349.2 bt356.1 bt356.2.1 bt356.2.2).bind fun t366 => (if (t366 != t348) = true then (some false) else ((laws_toProg.f k l0_0 l0_1).bind fun bt367 => ((laws_eqProg.f k bt349.1 bt349.2 bt367.1 bt367.2).bind fun t373 => (if t373 = true then ((laws_toSource.f k l1_0 l1_1 l1_2).bind fun bt374 => ((laws_eqSource.f k bt356.1 bt356.2.1 bt356.2.2 bt374.1 bt374.2.1 bt374.2.2).bind fun t383 => (if t383 = true then (some true) else (some false)))) else (some false))))))))) = some r := H
   have A20 := aM_ A200
   clear A200
   replace H := Option.bind_eq_some_iff.mp H
   obtain ⟨t348, A210, H⟩ := H
   replace H : ((laws_toProg.f k l0_0 l0_1).bind fun bt349 => ((laws_toSource.f k l1_0 l1_1 l1_2).bind fun bt356 => ((impl_SourceOk.f k bt349.1 bt349.2 bt356.1 bt356.2.1 bt356.2.2).bind fun t366 => (if (t366 != t348) = true then (some false) else ((laws_toProg.f k l0_0 l0_1).bind fun bt367 => ((laws_eqProg.f k bt349.1 bt349.2 bt367.1 bt367.2).bind fun t373 => (if t373 = true then ((laws_toSource.f k l1_0 l1_1 l1_2).bind fun bt374 => ((laws_eqSource.f k bt356.1 bt356.2.1 bt356.2.2 bt374.1 bt374.2.1 bt374.2.2).bind fun t383 => (if t383 = true then (some true) else (some false)))) else (some false)))))))) = some r := H
   have A21 := aM_ A210
   clear A210
   replace H := Option.bind_eq_some_iff.mp H
   obtain ⟨⟨t349, t352⟩, A220, H⟩ := H
   replace H : ((laws_toSource.f k l1_0 l1_1 l1_2).bind fun bt356 => ((impl_SourceOk.f k t349 t352 bt356.1 bt356.2.1 bt356.2.2).bind fun t366 => (if (t366 != t348) = true then (some false) else ((laws_toProg.f k l0_0 l0_1).bind fun bt367 => ((laws_eqProg.f k t349 t352 bt367.1 bt367.2).bind fun t373 => (if t373 = true then ((laws_toSource.f k l1_0 l1_1 l1_2).bind fun bt374 => ((laws_eqSource.f k bt356.1 bt356.2.1 bt356.2.2 bt374.1 bt374.2.1 bt374.2.2).bind fun t383 => (if t383 = true then (some true) else (some false)))) else (some false))))))) = some r := H
   have A22 := aM_ A220
   clear A220
   replace H := Option.bind_eq_some_iff.mp H
   obtain ⟨⟨t356, t359, t362⟩, A230, H⟩ := H
   replace H : ((impl_SourceOk.f k t349 t352 t356 t359 t362).bind fun t366 => (if (t366 != t348) = true then (some false) else ((laws_toProg.f k l0_0 l0_1).bind fun bt367 => ((laws_eqProg.f k t349 t352 bt367.1 bt367.2).bind fun t373 => (if t373 = true then ((laws_toSource.f k l1_0 l1_1 l1_2).bind fun bt374 => ((laws_eqSource.f k t356 t359 t362 bt374.1 bt374.2.1 bt374.2.2).bind fun t383 => (if t383 = true then (some true) else (some false)))) else (some false)))))) = some r := H
   have A23 := aM_ A230
   clear A230
   replace H := Option.bind_eq_some_iff.mp H
   obtain ⟨t366, A240, H⟩ := H
   replace H : (if (t366 != t348) = true then (some false) else ((laws_toProg.f k l0_0 l0_1).bind fun bt367 => ((laws_eqProg.f k t349 t352 bt367.1 bt367.2).bind fun t373 => (if t373 = true then ((laws_toSource.f k l1_0 l1_1 l1_2).bind fun bt374 => ((laws_eqSource.f k t356 t359 t362 bt374.1 bt374.2.1 bt374.2.2).bind fun t383 => (if t383 = true then (some true) else (some false)))) else (some false))))) = some r := H
   have A24 := aM_ A240
   clear A240
   by_cases c25 : (t366 != t348) = true
   ·rw [if_pos c25] at H
    exact absurd ((Option.some.inj H).trans hr) (by decide)
   ·rw [if_neg c25] at H
    have c25b0 : (t366 != t348) = false := by simpa using c25
    (try (have c25b1 : decide (t366 = t348) = true := by simpa using c25))
    (try (have c25b2 : (t366 == t348) = true := by simpa using c25))
    clear c25
    replace H := Option.bind_eq_some_iff.mp H
    obtain ⟨⟨t367, t370⟩, A620, H⟩ := H
    replace H : ((laws_eqProg.f k t349 t352 t367 t370).bind fun t373 => (if t373 = true then ((laws_toSource.f k l1_0 l1_1 l1_2).bind fun bt374 => ((laws_eqSource.f k t356 t359 t362 bt374.1 bt374.2.1 bt374.2.2).bind fun t383 => (if t383 = true then (some true) else (some false)))) else (some false))) = some r := H
    have A62 := aM_ A620
    clear A620
    replace H := Option.bind_eq_some_iff.mp H
    obtain ⟨t373, A630, H⟩ := H
    replace H : (if t373 = true then ((laws_toSource.f k l1_0 l1_1 l1_2).bind fun bt374 => ((laws_eqSource.f k t356 t359 t362 bt374.1 bt374.2.1 bt374.2.2).bind fun t383 => (if t383 = true then (some true) else (some false)))) else (some false)) = some r := H
    have A63 := aM_ A630
    clear A630
    by_cases c64 : t373 = true
    ·subst c64
     have H1 : ((laws_toSource.f k l1_0 l1_1 l1_2).bind fun bt374 => ((laws_eqSource.f k t356 t359 t362 bt374.1 bt374.2.1 bt374.2.2).bind fun t383 => (if t383 = true then (some true) else (some false)))) = some r := by rw [if_pos rfl] at H; exact H
     clear H
     have H := H1
     clear H1
     replace H := Option.bind_eq_some_iff.mp H
     obtain ⟨⟨t374, t377, t380⟩, A650, H⟩ := H
     replace H : ((laws_eqSource.f k t356 t359 t362 t374 t377 t380).bind fun t383 => (if t383 = true then (some true) else (some false))) = some r := H
     have A65 := aM_ A650
     clear A650
     replace H := Option.bind_eq_some_iff.mp H
     obtain ⟨t383, A660, H⟩ := H
     replace H : (if t383 = true then (some true) else (some false)) = some r := H
     have A66 := aM_ A660
     clear A660
     by_cases c67 : t383 = true
     ·subst c67
      have H1 : (some true) = some r := by rw [if_pos rfl] at H; exact H
      clear H
      have H := H1
      clear H1
      obtain rfl := Option.some.inj H
      go_enter Try.func4, Try.ntmps4
      try go_wp2_with (first | ((with_reducible refine gate_dst (N := 2) rfl ?_); refine bX_ 2 (cs := #[.slice A0_0 l0_0.length c0_0, .slice A0_1 l0_1.length c0_1]) (t := 38) ?_; intro gb329 hg w68 hbox hb; have n0 := aM_ (sT_ HB.out hb); have n1 := aM_ (hbox); have n2 := aM_ (sZ_ hg HB.out); have n3 := aM_ (sZ_ hg HB.out); clear HB; have HB := n0; have BK329 := n1; have GW329 := n2; have GE329 := n3; clear n0 n1 n2 n3; clear hb hbox hg) | ((with_reducible refine gate_dst (N := 3) rfl ?_); refine bX_ 3 (cs := #[.slice A1_0 l1_0.length c1_0, .slice A1_1 l1_1.length c1_1, .slice A1_2 l1_2.length c1_2]) (t := 43) ?_; intro gb330 hg w69 hbox hb; have n0 := aM_ (nB_ BK329.out hb); have n1 := aM_ (sT_ HB.out hb); have n2 := aM_ (hbox); have n3 := aM_ (sZ_ hg HB.out); have n4 := aM_ (sZ_ hg HB.out); have n5 := aM_ (nL_ hg BK329.out); have n6 := aM_ (nG_ hg BK329.out); clear BK329; clear HB; have BK329 := n0; have HB := n1; have BK330 := n2; have GW330 := n3; have GE330 := n4; have NB329_330 := n5; have NB330_329 := n6; clear n0 n1 n2 n3 n4 n5 n6; clear hb hbox hg; have hnb70 := NB329_330.out; have hnc70 := NB330_329.out; obtain ⟨hcz71_0, hcz71_1, hfz71_0, hfz71_1⟩ := bR2_ BK329.out) | ((with_reducible refine gate_callee (f := 13) rfl ?_); refine gL_ (some 12) Try.func13 #[.agg #[.slice A0_0 l0_0.length c0_0, .slice A0_1 l0_1.length c0_1], .int .i64 1048576] ?_; (with_reducible refine (laws_szProg.calls k _ _ l0_0 _ _ l0_1 1048576 t331 _ ?side1 ?side2 ?side3 ?side4 A3.out).mono ?_); (case side1 => exact cS_ (Kd.C_below HR0_0.out HB.out)); (case side2 => exact HC0_0.out); (case side3 => exact cS_ (Kd.C_below HR0_1.out HB.out)); (case side4 => exact HC0_1.out); rintro e w72 ⟨rfl, hb⟩; refine ⟨_, rfl, ?_⟩; have n0 := aM_ (nB_ BK329.out hb); have n1 := aM_ (nB_ BK330.out hb); have n2 := aM_ (sT_ HB.out hb); clear BK329; clear BK330; clear HB; have BK329 := n0; have BK330 := n1; have HB := n2; clear n0 n1 n2; obtain ⟨hcz73_0, hcz73_1, hcz73_2, hfz73_0, hfz73_1, hfz73_2⟩ := bR3_ BK330.out) | ((with_reducible refine gate_callee (f := 14) rfl ?_); refine gL_ (some 17) Try.func14 #[.agg #[.slice A1_0 l1_0.length c1_0, .slice A1_1 l1_1.length c1_1, .slice A1_2 l1_2.length c1_2], .int .i64 t331] ?_; (with_reducible refine (laws_szSource.calls k _ _ l1_0 _ _ l1_1 _ _ l1_2 t331 t332 _ ?side1 ?side2 ?side3 ?side4 ?side5 ?side6 A10.out).mono ?_); (case side1 => exact cS_ (Kd.C_below HR1_0.out HB.out)); (case side2 => exact HC1_0.out); (case side3 => exact cS_ (Kd.C_below HR1_1.out HB.out)); (case side4 => exact HC1_1.out); (case side5 => exact cS_ (Kd.C_below HR1_2.out HB.out)); (case side6 => exact HC1_2.out); rintro e w74 ⟨rfl, hb⟩; refine ⟨_, rfl, ?_⟩; have n0 := aM_ (nB_ BK329.out hb); have n1 := aM_ (nB_ BK330.out hb); have n2 := aM_ (sT_ HB.out hb); clear BK329; clear BK330; clear HB; have BK329 := n0; have BK330 := n1; have HB := n2; clear n0 n1 n2))
      have n0 := aM_ (blk_drew BK329.out)
      have n1 := aM_ (blk_drew BK330.out)
      have n2 := aM_ (below_drew1 HB.out)
      clear BK329
      clear BK330
      clear HB
      have BK329 := n0
      have BK330 := n1
      have HB := n2
      clear n0 n1 n2
      refine start_ (n := 6) (S := fun w' => w'.cell? ⟨gb329, 0, none⟩ = some (.slice A0_0 l0_0.length c0_0) ∧ w'.cell? ⟨gb329, 1, none⟩ = some (.slice A0_1 l0_1.length c0_1) ∧ w'.cell? ⟨gb330, 0, none⟩ = some (.slice A1_0 l1_0.length c1_0) ∧ w'.cell? ⟨gb330, 1, none⟩ = some (.slice A1_1 l1_1.length c1_1) ∧ w'.cell? ⟨gb330, 2, none⟩ = some (.slice A1_2 l1_2.length c1_2)) (ds := []) (mk_ 6 0) (by kernel_rfl) rfl rfl ⟨(blk_cell BK329.out 0).trans rfl, (blk_cell BK329.out 1).trans rfl, (blk_cell BK330.out 0).trans rfl, (blk_cell BK330.out 1).trans rfl, (blk_cell BK330.out 2).trans rfl⟩ (fun hHeld => ?_)
      generalize w74.drew = w75 at BK329 BK330 HB hHeld ⊢
      refine tK5_ 0 (some 20) (mk_ 6 1) ?_
      refine tK5_ 2 (some 22) (mk_ 6 5) ?_
      refine oN_ 1 (some 21) (mk_ 6 7) (fun K hK => ?_)
      refine gO_ Try.func16 #[.agg #[.slice A0_0 l0_0.length c0_0, .slice A0_1 l0_1.length c0_1]] ?_
      with_reducible refine (laws_toProg.calls k _ _ l0_0 _ _ l0_1 t333 t336 _ ?side1 ?side2 ?side3 ?side4 A19.out).mono ?_
      (case side1 => exact cS_ (Kd.C_below HR0_0.out HB.out))
      (case side2 => exact HC0_0.out)
      (case side3 => exact cS_ (Kd.C_below HR0_1.out HB.out))
      (case side4 => exact HC0_1.out)
      rintro e w76 ⟨v334, v337, rfl, ho0, ho1, hb⟩
      refine ⟨_, rfl, ?_⟩
      have n0 := aM_ (Kd.R_lower ho0 (below_size (by repeat (first | (with_reducible first | exact HB.out | apply hA_ | apply hN_ | apply hD_ | refine below_set ?_ GE329.out | refine below_set ?_ GE330.out) | exact HB.out))))
      have n1 := aM_ (Kd.S_lower ho1 (below_size (by repeat (first | (with_reducible first | exact HB.out | apply hA_ | apply hN_ | apply hD_ | refine below_set ?_ GE329.out | refine below_set ?_ GE330.out) | exact HB.out))))
      have n2 := aM_ (nB_ BK329.out hb)
      have n3 := aM_ (nB_ BK330.out hb)
      have n4 := aM_ (sT_ HB.out hb)
      clear BK329
      clear BK330
      clear HB
      have HO335 := n0
      have HO338 := n1
      have BK329 := n2
      have BK330 := n3
      have HB := n4
      clear n0 n1 n2 n3 n4
      (try clear hb)
      (try clear hb2)
      (try clear hk)
      (try clear hi)
      (try clear ho0)
      (try clear ho1)
      refine hK.out _ _ ⟨(blk_cell BK329.out 0).trans rfl, (blk_cell BK329.out 1).trans rfl, (blk_cell BK330.out 0).trans rfl, (blk_cell BK330.out 1).trans rfl, (blk_cell BK330.out 2).trans rfl⟩ (fun hHeld => ?_)
      clear hK K
      refine norm_ (a' := ?_) ?_ ?_
      rotate_left
      ·show Act.put _ (some 21) _ = _
       simp only [pt_, pn_, sI_, s0_, s1_, i64_w, i32_w]
       rfl
      refine oN_ 3 (some 23) (mk_ 6 15) (fun K hK => ?_)
      refine gO_ Try.func17 #[.agg #[.slice A1_0 l1_0.length c1_0, .slice A1_1 l1_1.length c1_1, .slice A1_2 l1_2.length c1_2]] ?_
      with_reducible refine (laws_toSource.calls k _ _ l1_0 _ _ l1_1 _ _ l1_2 t339 t342 t345 _ ?side1 ?side2 ?side3 ?side4 ?side5 ?side6 A20.out).mono ?_
      (case side1 => exact cS_ (Kd.C_below HR1_0.out HB.out))
      (case side2 => exact HC1_0.out)
      (case side3 => exact cS_ (Kd.C_below HR1_1.out HB.out))
      (case side4 => exact HC1_1.out)
      (case side5 => exact cS_ (Kd.C_below HR1_2.out HB.out))
      (case side6 => exact HC1_2.out)
      rintro e w77 ⟨v340, v343, v346, rfl, ho0, ho1, ho2, hb⟩
      refine ⟨_, rfl, ?_⟩
      have n0 := aM_ (bR_ HO335.out hb)
      have n1 := aM_ (bS_ HO338.out hb)
      have n2 := aM_ (Kd.S_lower (Kd.S_new' ho0 (Kd.R_lt (by (with_reducible repeat (first | apply rA_ | apply rN_ | apply rD_)); exact HO335.out))) (below_size (by repeat (first | (with_reducible first | exact HB.out | apply hA_ | apply hN_ | apply hD_ | refine below_set ?_ GE329.out | refine below_set ?_ GE330.out) | exact HB.out))))
      have n3 := aM_ (Kd.S_lower (Kd.S_new' ho1 (Kd.R_lt (by (with_reducible repeat (first | apply rA_ | apply rN_ | apply rD_)); exact HO335.out))) (below_size (by repeat (first | (with_reducible first | exact HB.out | apply hA_ | apply hN_ | apply hD_ | refine below_set ?_ GE329.out | refine below_set ?_ GE330.out) | exact HB.out))))
      have n4 := aM_ (Kd.R_lower ho2 (below_size (by repeat (first | (with_reducible first | exact HB.out | apply hA_ | apply hN_ | apply hD_ | refine below_set ?_ GE329.out | refine below_set ?_ GE330.out) | exact HB.out))))
      have n5 := aM_ (nB_ BK329.out hb)
      have n6 := aM_ (nB_ BK330.out hb)
      have n7 := aM_ (sT_ HB.out hb)
      clear HO335
      clear HO338
      clear BK329
      clear BK330
      clear HB
      have HO335 := n0
      have HO338 := n1
      have HO341 := n2
      have HO344 := n3
      have HO347 := n4
      have BK329 := n5
      have BK330 := n6
      have HB := n7
      clear n0 n1 n2 n3 n4 n5 n6 n7
      (try clear hb)
      (try clear hb2)
      (try clear hk)
      (try clear hi)
      (try clear ho0)
      (try clear ho1)
      (try clear ho2)
      obtain ⟨Ao78, co78, eo78⟩ := Kd.R_slice HO335.out
      (first | subst eo78 | (injection eo78 with f1_ f2_ f3_; have f4_ := f1_.symm; have f5_ := f3_.symm; clear f1_ f2_ f3_; subst f4_; subst f5_))
      obtain ⟨Ao79, co79, eo79⟩ := Kd.S_slice HO338.out
      (first | subst eo79 | (injection eo79 with f1_ f2_ f3_; have f4_ := f1_.symm; have f5_ := f3_.symm; clear f1_ f2_ f3_; subst f4_; subst f5_))
      obtain ⟨Ao80, co80, eo80⟩ := Kd.S_slice HO341.out
      (first | subst eo80 | (injection eo80 with f1_ f2_ f3_; have f4_ := f1_.symm; have f5_ := f3_.symm; clear f1_ f2_ f3_; subst f4_; subst f5_))
      obtain ⟨Ao81, co81, eo81⟩ := Kd.S_slice HO344.out
      (first | subst eo81 | (injection eo81 with f1_ f2_ f3_; have f4_ := f1_.symm; have f5_ := f3_.symm; clear f1_ f2_ f3_; subst f4_; subst f5_))
      obtain ⟨Ao82, co82, eo82⟩ := Kd.R_slice HO347.out
      (first | subst eo82 | (injection eo82 with f1_ f2_ f3_; have f4_ := f1_.symm; have f5_ := f3_.symm; clear f1_ f2_ f3_; subst f4_; subst f5_))
      refine hK.out _ _ ⟨(blk_cell BK329.out 0).trans rfl, (blk_cell BK329.out 1).trans rfl, (blk_cell BK330.out 0).trans rfl, (blk_cell BK330.out 1).trans rfl, (blk_cell BK330.out 2).trans rfl⟩ (fun hHeld => ?_)
      clear hK K
      refine norm_ (a' := ?_) ?_ ?_
      rotate_left
      ·show Act.put _ (some 23) _ = _
       simp only [pt_, pn_, sI_, s0_, s1_, i64_w, i32_w]
       rfl
      refine oN_ 4 (some 24) (mk_ 6 31) (fun K hK => ?_)
      refine gO_ Try.func15 #[.agg #[.slice Ao78 t333.length co78, .slice Ao79 t336.length co79], .agg #[.slice Ao80 t339.length co80, .slice Ao81 t342.length co81, .slice Ao82 t345.length co82]] ?_
      with_reducible refine (spec_SourceOk.calls k _ _ t333 _ _ t336 _ _ t339 _ _ t342 _ _ t345 t348 _ ?side1 ?side2 ?side3 ?side4 ?side5 ?side6 ?side7 ?side8 ?side9 ?side10 A21.out).mono ?_
      (case side1 => exact cS_ (Kd.R_reads' HO335.out).2.2)
      (case side2 => exact (Kd.R_reads' HO335.out).2.1)
      (case side3 => exact cS_ (Kd.S_reads' HO338.out).2.2)
      (case side4 => exact (Kd.S_reads' HO338.out).2.1)
      (case side5 => exact cS_ (Kd.S_reads' HO341.out).2.2)
      (case side6 => exact (Kd.S_reads' HO341.out).2.1)
      (case side7 => exact cS_ (Kd.S_reads' HO344.out).2.2)
      (case side8 => exact (Kd.S_reads' HO344.out).2.1)
      (case side9 => exact cS_ (Kd.R_reads' HO347.out).2.2)
      (case side10 => exact (Kd.R_reads' HO347.out).2.1)
      rintro e w83 ⟨rfl, hb⟩
      refine ⟨_, rfl, ?_⟩
      have n0 := aM_ (bR_ HO335.out hb)
      have n1 := aM_ (bS_ HO338.out hb)
      have n2 := aM_ (bS_ HO341.out hb)
      have n3 := aM_ (bS_ HO344.out hb)
      have n4 := aM_ (bR_ HO347.out hb)
      have n5 := aM_ (nB_ BK329.out hb)
      have n6 := aM_ (nB_ BK330.out hb)
      have n7 := aM_ (sT_ HB.out hb)
      clear HO335
      clear HO338
      clear HO341
      clear HO344
      clear HO347
      clear BK329
      clear BK330
      clear HB
      have HO335 := n0
      have HO338 := n1
      have HO341 := n2
      have HO344 := n3
      have HO347 := n4
      have BK329 := n5
      have BK330 := n6
      have HB := n7
      clear n0 n1 n2 n3 n4 n5 n6 n7
      (try clear hb)
      (try clear hb2)
      (try clear hk)
      (try clear hi)
      refine hK.out _ _ ⟨(blk_cell BK329.out 0).trans rfl, (blk_cell BK329.out 1).trans rfl, (blk_cell BK330.out 0).trans rfl, (blk_cell BK330.out 1).trans rfl, (blk_cell BK330.out 2).trans rfl⟩ (fun hHeld => ?_)
      clear hK K
      refine norm_ (a' := ?_) ?_ ?_
      rotate_left
      ·show Act.put _ (some 24) _ = _
       simp only [pt_, pn_, sI_, s0_, s1_, i64_w, i32_w]
       rfl
      refine pU_ 5 (some 6) (mk_ 6 63) ?_
      refine done_ (by kernel_rfl) ?_
      obtain ⟨hcz84_0, hcz84_1, hfz84_0, hfz84_1⟩ := bR2_ BK329.out
      try go_wp2_with (first | ((with_reducible refine gate_callee (f := 16) rfl ?_); refine gL_ (some 26) Try.func16 #[.agg #[.slice A0_0 l0_0.length c0_0, .slice A0_1 l0_1.length c0_1]] ?_; (with_reducible refine (laws_toProg.calls k _ _ l0_0 _ _ l0_1 t349 t352 _ ?side1 ?side2 ?side3 ?side4 A22.out).mono ?_); (case side1 => exact cS_ (Kd.C_below HR0_0.out HB.out)); (case side2 => exact HC0_0.out); (case side3 => exact cS_ (Kd.C_below HR0_1.out HB.out)); (case side4 => exact HC0_1.out); rintro e w85 ⟨v350, v353, rfl, ho0, ho1, hb⟩; refine ⟨_, rfl, ?_⟩; have n0 := aM_ (Kd.R_elder' (by (with_reducible repeat (first | apply rA_ | apply rN_ | apply rD_)); exact HO335.out) (Kd.R_base ho0) hb); have n1 := aM_ (Kd.S_elder' (by (with_reducible repeat (first | apply Kd.S_alloc | apply Kd.S_drewN | apply Kd.S_drew)); exact HO338.out) (Kd.S_base ho1) hb); have n2 := aM_ (Kd.S_elder' (by (with_reducible repeat (first | apply Kd.S_alloc | apply Kd.S_drewN | apply Kd.S_drew)); exact HO341.out) (Kd.R_base ho0) hb); have n3 := aM_ (Kd.S_elder' (by (with_reducible repeat (first | apply Kd.S_alloc | apply Kd.S_drewN | apply Kd.S_drew)); exact HO344.out) (Kd.R_base ho0) hb); have n4 := aM_ (bR_ HO347.out hb); have n5 := aM_ (Kd.R_lower (Kd.R_new' ho0 (Kd.R_lt (by (with_reducible repeat (first | apply rA_ | apply rN_ | apply rD_)); exact HO335.out))) (below_size (by repeat (first | (with_reducible first | exact HB.out | apply hA_ | apply hN_ | apply hD_ | refine below_set ?_ GE329.out | refine below_set ?_ GE330.out) | exact HB.out)))); have n6 := aM_ (Kd.S_lower (Kd.S_new' ho1 (Kd.S_lt (by (with_reducible repeat (first | apply Kd.S_alloc | apply Kd.S_drewN | apply Kd.S_drew)); exact HO338.out))) (below_size (by repeat (first | (with_reducible first | exact HB.out | apply hA_ | apply hN_ | apply hD_ | refine below_set ?_ GE329.out | refine below_set ?_ GE330.out) | exact HB.out)))); have n7 := aM_ (nB_ BK329.out hb); have n8 := aM_ (nB_ BK330.out hb); have n9 := aM_ (sT_ HB.out hb); clear HO335; clear HO338; clear HO341; clear HO344; clear HO347; clear BK329; clear BK330; clear HB; have HO335 := n0; have HO338 := n1; have HO341 := n2; have HO344 := n3; have HO347 := n4; have HO351 := n5; have HO354 := n6; have BK329 := n7; have BK330 := n8; have HB := n9; clear n0 n1 n2 n3 n4 n5 n6 n7 n8 n9; (try clear ho0); (try clear ho1)) | ((with_reducible refine gate_dst (N := 7) rfl ?_); refine bX_ 7 (cs := #[.slice none 0 0, .slice none 0 0]) (t := 49) ?_; intro gb355 hg w86 hbox hb; have n0 := aM_ (bR_ HO335.out hb); have n1 := aM_ (bS_ HO338.out hb); have n2 := aM_ (bS_ HO341.out hb); have n3 := aM_ (bS_ HO344.out hb); have n4 := aM_ (bR_ HO347.out hb); have n5 := aM_ (bR_ HO351.out hb); have n6 := aM_ (bS_ HO354.out hb); have n7 := aM_ (nB_ BK329.out hb); have n8 := aM_ (nB_ BK330.out hb); have n9 := aM_ (sT_ HB.out hb); have n10 := aM_ (hbox); have n11 := aM_ (sZ_ hg HB.out); have n12 := aM_ (sZ_ hg HB.out); have n13 := aM_ (nL_ hg BK329.out); have n14 := aM_ (nG_ hg BK329.out); have n15 := aM_ (nL_ hg BK330.out); have n16 := aM_ (nG_ hg BK330.out); clear HO335; clear HO338; clear HO341; clear HO344; clear HO347; clear HO351; clear HO354; clear BK329; clear BK330; clear HB; have HO335 := n0; have HO338 := n1; have HO341 := n2; have HO344 := n3; have HO347 := n4; have HO351 := n5; have HO354 := n6; have BK329 := n7; have BK330 := n8; have HB := n9; have BK355 := n10; have GW355 := n11; have GE355 := n12; have NB329_355 := n13; have NB355_329 := n14; have NB330_355 := n15; have NB355_330 := n16; clear n0 n1 n2 n3 n4 n5 n6 n7 n8 n9 n10 n11 n12 n13 n14 n15 n16; clear hb hbox hg; obtain ⟨Ao87, co87, eo87⟩ := Kd.R_slice HO351.out; subst eo87; have hnb88 := NB355_329.out; have hnc88 := NB329_355.out; have hnb89 := NB355_330.out; have hnc89 := NB330_355.out; obtain ⟨hcz90_0, hcz90_1, hfz90_0, hfz90_1⟩ := bR2_ BK355.out; obtain ⟨Ao91, co91, eo91⟩ := Kd.S_slice HO354.out; subst eo91; obtain ⟨hcz92_0, hcz92_1, hcz92_2, hfz92_0, hfz92_1, hfz92_2⟩ := bR3_ BK330.out) | ((with_reducible refine gate_callee (f := 17) rfl ?_); refine gL_ (some 28) Try.func17 #[.agg #[.slice A1_0 l1_0.length c1_0, .slice A1_1 l1_1.length c1_1, .slice A1_2 l1_2.length c1_2]] ?_; (with_reducible refine (laws_toSource.calls k _ _ l1_0 _ _ l1_1 _ _ l1_2 t356 t359 t362 _ ?side1 ?side2 ?side3 ?side4 ?side5 ?side6 A23.out).mono ?_); (case side1 => exact Kd.C_below HR1_0.out (by repeat (first | (with_reducible first | exact HB.out | apply hA_ | apply hN_ | apply hD_ | refine below_set ?_ GE329.out | refine below_set ?_ GE330.out | refine below_set ?_ GE355.out) | exact HB.out))); (case side2 => exact HC1_0.out); (case side3 => exact Kd.C_below HR1_1.out (by repeat (first | (with_reducible first | exact HB.out | apply hA_ | apply hN_ | apply hD_ | refine below_set ?_ GE329.out | refine below_set ?_ GE330.out | refine below_set ?_ GE355.out) | exact HB.out))); (case side4 => exact HC1_1.out); (case side5 => exact Kd.C_below HR1_2.out (by repeat (first | (with_reducible first | exact HB.out | apply hA_ | apply hN_ | apply hD_ | refine below_set ?_ GE329.out | refine below_set ?_ GE330.out | refine below_set ?_ GE355.out) | exact HB.out))); (case side6 => exact HC1_2.out); rintro e w93 ⟨v357, v360, v363, rfl, ho0, ho1, ho2, hb⟩; refine ⟨_, rfl, ?_⟩; have n0 := aM_ (Kd.R_below (by (with_reducible repeat (first | apply rA_ | apply rN_ | apply rD_)); exact (Kd.R_mono (Kd.R_far (p := ⟨gb355, 1, none⟩) (Kd.R_far (p := ⟨gb355, 0, none⟩) (Kd.R_types HO335.out BK355.out (by decide)) (fun _ hk => hk.2) (.slice Ao87 t349.length co87)) (fun _ hk => hk.2) (.slice Ao91 t352.length co91)) (fun _ h_ => h_.1))) hb); have n1 := aM_ (Kd.S_below (by (with_reducible repeat (first | apply Kd.S_alloc | apply Kd.S_drewN | apply Kd.S_drew)); exact (Kd.S_mono (Kd.S_far (p := ⟨gb355, 1, none⟩) (Kd.S_far (p := ⟨gb355, 0, none⟩) (Kd.S_types HO338.out BK355.out (by decide)) (fun _ hk => hk.2) (.slice Ao87 t349.length co87)) (fun _ hk => hk.2) (.slice Ao91 t352.length co91)) (fun _ h_ => h_.1))) hb); have n2 := aM_ (Kd.S_elder' (by (with_reducible repeat (first | apply Kd.S_alloc | apply Kd.S_drewN | apply Kd.S_drew)); exact (Kd.S_mono (Kd.S_far (p := ⟨gb355, 1, none⟩) (Kd.S_far (p := ⟨gb355, 0, none⟩) (Kd.S_types HO341.out BK355.out (by decide)) (fun _ hk => hk.2) (.slice Ao87 t349.length co87)) (fun _ hk => hk.2) (.slice Ao91 t352.length co91)) (fun _ h_ => h_.1))) (Kd.S_base ho0) hb); have n3 := aM_ (Kd.S_elder' (by (with_reducible repeat (first | apply Kd.S_alloc | apply Kd.S_drewN | apply Kd.S_drew)); exact (Kd.S_mono (Kd.S_far (p := ⟨gb355, 1, none⟩) (Kd.S_far (p := ⟨gb355, 0, none⟩) (Kd.S_types HO344.out BK355.out (by decide)) (fun _ hk => hk.2) (.slice Ao87 t349.length co87)) (fun _ hk => hk.2) (.slice Ao91 t352.length co91)) (fun _ h_ => h_.1))) (Kd.S_base ho1) hb); have n4 := aM_ (Kd.R_elder' (by (with_reducible repeat (first | apply rA_ | apply rN_ | apply rD_)); exact (Kd.R_mono (Kd.R_far (p := ⟨gb355, 1, none⟩) (Kd.R_far (p := ⟨gb355, 0, none⟩) (Kd.R_types HO347.out BK355.out (by decide)) (fun _ hk => hk.2) (.slice Ao87 t349.length co87)) (fun _ hk => hk.2) (.slice Ao91 t352.length co91)) (fun _ h_ => h_.1))) (Kd.R_base ho2) hb); have n5 := aM_ (Kd.R_below (by (with_reducible repeat (first | apply rA_ | apply rN_ | apply rD_)); exact (Kd.R_mono (Kd.R_far (p := ⟨gb355, 1, none⟩) (Kd.R_far (p := ⟨gb355, 0, none⟩) (Kd.R_types HO351.out BK355.out (by decide)) (fun _ hk => hk.2) (.slice Ao87 t349.length co87)) (fun _ hk => hk.2) (.slice Ao91 t352.length co91)) (fun _ h_ => h_.1))) hb); have n6 := aM_ (Kd.S_below (by (with_reducible repeat (first | apply Kd.S_alloc | apply Kd.S_drewN | apply Kd.S_drew)); exact (Kd.S_mono (Kd.S_far (p := ⟨gb355, 1, none⟩) (Kd.S_far (p := ⟨gb355, 0, none⟩) (Kd.S_types HO354.out BK355.out (by decide)) (fun _ hk => hk.2) (.slice Ao87 t349.length co87)) (fun _ hk => hk.2) (.slice Ao91 t352.length co91)) (fun _ h_ => h_.1))) hb); have n7 := aM_ (Kd.S_lower (Kd.S_new' (Kd.S_new' (Kd.S_new' ho0 (Kd.R_lt (by (with_reducible repeat (first | apply rA_ | apply rN_ | apply rD_)); exact (Kd.R_mono (Kd.R_far (p := ⟨gb355, 1, none⟩) (Kd.R_far (p := ⟨gb355, 0, none⟩) (Kd.R_types HO335.out BK355.out (by decide)) (fun _ hk => hk.2) (.slice Ao87 t349.length co87)) (fun _ hk => hk.2) (.slice Ao91 t352.length co91)) (fun _ h_ => h_.1))))) (Kd.S_lt (by (with_reducible repeat (first | apply Kd.S_alloc | apply Kd.S_drewN | apply Kd.S_drew)); exact (Kd.S_mono (Kd.S_far (p := ⟨gb355, 1, none⟩) (Kd.S_far (p := ⟨gb355, 0, none⟩) (Kd.S_types HO341.out BK355.out (by decide)) (fun _ hk => hk.2) (.slice Ao87 t349.length co87)) (fun _ hk => hk.2) (.slice Ao91 t352.length co91)) (fun _ h_ => h_.1))))) (Kd.R_lt (by (with_reducible repeat (first | apply rA_ | apply rN_ | apply rD_)); exact (Kd.R_mono (Kd.R_far (p := ⟨gb355, 1, none⟩) (Kd.R_far (p := ⟨gb355, 0, none⟩) (Kd.R_types HO351.out BK355.out (by decide)) (fun _ hk => hk.2) (.slice Ao87 t349.length co87)) (fun _ hk => hk.2) (.slice Ao91 t352.length co91)) (fun _ h_ => h_.1))))) (below_size (by repeat (first | (with_reducible first | exact HB.out | apply hA_ | apply hN_ | apply hD_ | refine below_set ?_ GE329.out | refine below_set ?_ GE330.out | refine below_set ?_ GE355.out) | exact HB.out)))); have n8 := aM_ (Kd.S_lower (Kd.S_new' (Kd.S_new' (Kd.S_new' ho1 (Kd.R_lt (by (with_reducible repeat (first | apply rA_ | apply rN_ | apply rD_)); exact (Kd.R_mono (Kd.R_far (p := ⟨gb355, 1, none⟩) (Kd.R_far (p := ⟨gb355, 0, none⟩) (Kd.R_types HO335.out BK355.out (by decide)) (fun _ hk => hk.2) (.slice Ao87 t349.length co87)) (fun _ hk => hk.2) (.slice Ao91 t352.length co91)) (fun _ h_ => h_.1))))) (Kd.S_lt (by (with_reducible repeat (first | apply Kd.S_alloc | apply Kd.S_drewN | apply Kd.S_drew)); exact (Kd.S_mono (Kd.S_far (p := ⟨gb355, 1, none⟩) (Kd.S_far (p := ⟨gb355, 0, none⟩) (Kd.S_types HO344.out BK355.out (by decide)) (fun _ hk => hk.2) (.slice Ao87 t349.length co87)) (fun _ hk => hk.2) (.slice Ao91 t352.length co91)) (fun _ h_ => h_.1))))) (Kd.R_lt (by (with_reducible repeat (first | apply rA_ | apply rN_ | apply rD_)); exact (Kd.R_mono (Kd.R_far (p := ⟨gb355, 1, none⟩) (Kd.R_far (p := ⟨gb355, 0, none⟩) (Kd.R_types HO351.out BK355.out (by decide)) (fun _ hk => hk.2) (.slice Ao87 t349.length co87)) (fun _ hk => hk.2) (.slice Ao91 t352.length co91)) (fun _ h_ => h_.1))))) (below_size (by repeat (first | (with_reducible first | exact HB.out | apply hA_ | apply hN_ | apply hD_ | refine below_set ?_ GE329.out | refine below_set ?_ GE330.out | refine below_set ?_ GE355.out) | exact HB.out)))); have n9 := aM_ (Kd.R_lower (Kd.R_new' ho2 (Kd.R_lt (by (with_reducible repeat (first | apply rA_ | apply rN_ | apply rD_)); exact (Kd.R_mono (Kd.R_far (p := ⟨gb355, 1, none⟩) (Kd.R_far (p := ⟨gb355, 0, none⟩) (Kd.R_types HO347.out BK355.out (by decide)) (fun _ hk => hk.2) (.slice Ao87 t349.length co87)) (fun _ hk => hk.2) (.slice Ao91 t352.length co91)) (fun _ h_ => h_.1))))) (below_size (by repeat (first | (with_reducible first | exact HB.out | apply hA_ | apply hN_ | apply hD_ | refine below_set ?_ GE329.out | refine below_set ?_ GE330.out | refine below_set ?_ GE355.out) | exact HB.out)))); have n10 := aM_ (blk_below (g := gb329) (o := .cells #[.slice A0_0 l0_0.length c0_0, .slice A0_1 l0_1.length c0_1] 38 (0, 0)) (by (with_reducible repeat (first | refine bN_ ?_ _ | refine bD_ ?_ | refine bA_ ?_ _)); refine blk_far ?_ NB329_355.out _; (with_reducible repeat (first | refine bN_ ?_ _ | refine bD_ ?_ | refine bA_ ?_ _)); refine blk_far ?_ NB329_355.out _; (with_reducible repeat (first | refine bN_ ?_ _ | refine bD_ ?_ | refine bA_ ?_ _)); exact BK329.out) hb); have n11 := aM_ (blk_below (g := gb330) (o := .cells #[.slice A1_0 l1_0.length c1_0, .slice A1_1 l1_1.length c1_1, .slice A1_2 l1_2.length c1_2] 43 (0, 0)) (by (with_reducible repeat (first | refine bN_ ?_ _ | refine bD_ ?_ | refine bA_ ?_ _)); refine blk_far ?_ NB330_355.out _; (with_reducible repeat (first | refine bN_ ?_ _ | refine bD_ ?_ | refine bA_ ?_ _)); refine blk_far ?_ NB330_355.out _; (with_reducible repeat (first | refine bN_ ?_ _ | refine bD_ ?_ | refine bA_ ?_ _)); exact BK330.out) hb); have n12 := aM_ (blk_below (g := gb355) (o := .cells #[.slice Ao87 t349.length co87, .slice Ao91 t352.length co91] 49 (0, 0)) (by (with_reducible repeat (first | refine bN_ ?_ _ | refine bD_ ?_ | refine bA_ ?_ _)); refine blk_put (cs := #[.slice Ao87 t349.length co87, .slice none 0 0]) ?_ 1 _ rfl; (with_reducible repeat (first | refine bN_ ?_ _ | refine bD_ ?_ | refine bA_ ?_ _)); refine blk_put (cs := #[.slice none 0 0, .slice none 0 0]) ?_ 0 _ rfl; (with_reducible repeat (first | refine bN_ ?_ _ | refine bD_ ?_ | refine bA_ ?_ _)); exact BK355.out) hb); have n13 := aM_ (sT_ HB.out hb); clear HO335; clear HO338; clear HO341; clear HO344; clear HO347; clear HO351; clear HO354; clear BK329; clear BK330; clear BK355; clear HB; have HO335 := n0; have HO338 := n1; have HO341 := n2; have HO344 := n3; have HO347 := n4; have HO351 := n5; have HO354 := n6; have HO358 := n7; have HO361 := n8; have HO364 := n9; have BK329 := n10; have BK330 := n11; have BK355 := n12; have HB := n13; clear n0 n1 n2 n3 n4 n5 n6 n7 n8 n9 n10 n11 n12 n13; (try clear ho0); (try clear ho1); (try clear ho2)) | ((with_reducible refine gate_dst (N := 8) rfl ?_); refine bX_ 8 (cs := #[.slice none 0 0, .slice none 0 0, .slice none 0 0]) (t := 55) ?_; intro gb365 hg w94 hbox hb; have n0 := aM_ (bR_ HO335.out hb); have n1 := aM_ (bS_ HO338.out hb); have n2 := aM_ (bS_ HO341.out hb); have n3 := aM_ (bS_ HO344.out hb); have n4 := aM_ (bR_ HO347.out hb); have n5 := aM_ (bR_ HO351.out hb); have n6 := aM_ (bS_ HO354.out hb); have n7 := aM_ (bS_ HO358.out hb); have n8 := aM_ (bS_ HO361.out hb); have n9 := aM_ (bR_ HO364.out hb); have n10 := aM_ (nB_ BK329.out hb); have n11 := aM_ (nB_ BK330.out hb); have n12 := aM_ (nB_ BK355.out hb); have n13 := aM_ (sT_ HB.out hb); have n14 := aM_ (hbox); have n15 := aM_ (sZ_ hg HB.out); have n16 := aM_ (sZ_ hg HB.out); have n17 := aM_ (nL_ hg BK329.out); have n18 := aM_ (nG_ hg BK329.out); have n19 := aM_ (nL_ hg BK330.out); have n20 := aM_ (nG_ hg BK330.out); have n21 := aM_ (nL_ hg BK355.out); have n22 := aM_ (nG_ hg BK355.out); clear HO335; clear HO338; clear HO341; clear HO344; clear HO347; clear HO351; clear HO354; clear HO358; clear HO361; clear HO364; clear BK329; clear BK330; clear BK355; clear HB; have HO335 := n0; have HO338 := n1; have HO341 := n2; have HO344 := n3; have HO347 := n4; have HO351 := n5; have HO354 := n6; have HO358 := n7; have HO361 := n8; have HO364 := n9; have BK329 := n10; have BK330 := n11; have BK355 := n12; have HB := n13; have BK365 := n14; have GW365 := n15; have GE365 := n16; have NB329_365 := n17; have NB365_329 := n18; have NB330_365 := n19; have NB365_330 := n20; have NB355_365 := n21; have NB365_355 := n22; clear n0 n1 n2 n3 n4 n5 n6 n7 n8 n9 n10 n11 n12 n13 n14 n15 n16 n17 n18 n19 n20 n21 n22; clear hb hbox hg; obtain ⟨Ao95, co95, eo95⟩ := Kd.S_slice HO358.out; subst eo95; have hnb96 := NB365_329.out; have hnc96 := NB329_365.out; have hnb97 := NB365_330.out; have hnc97 := NB330_365.out; have hnb98 := NB365_355.out; have hnc98 := NB355_365.out; obtain ⟨hcz99_0, hcz99_1, hcz99_2, hfz99_0, hfz99_1, hfz99_2⟩ := bR3_ BK365.out; obtain ⟨Ao100, co100, eo100⟩ := Kd.S_slice HO361.out; subst eo100; obtain ⟨Ao101, co101, eo101⟩ := Kd.R_slice HO364.out; subst eo101; obtain ⟨hcz102_0, hcz102_1, hfz102_0, hfz102_1⟩ := bR2_ BK355.out) | ((with_reducible refine gate_callee (f := 18) rfl ?_); refine gL_ (some 31) Try.func18 #[.agg #[.slice Ao87 t349.length co87, .slice Ao91 t352.length co91], .agg #[.slice Ao95 t356.length co95, .slice Ao100 t359.length co100, .slice Ao101 t362.length co101]] ?_; (with_reducible refine (impl_SourceOk.calls k _ _ t349 _ _ t352 _ _ t356 _ _ t359 _ _ t362 t366 _ ?side1 ?side2 ?side3 ?side4 ?side5 ?side6 ?side7 ?side8 ?side9 ?side10 A24.out).mono ?_); (case side1 => refine (Kd.R_reads' (e := 3) (base := w.heap.size) (ok := fun k_ => (True ∧ some k_ ≠ (.slice Ao78 t333.length co78 : Value).ownBlock)) (n := t349.length) (c := co87) ?_).2.2; exact (by (with_reducible repeat (first | apply rA_ | apply rN_ | apply rD_)); exact (Kd.R_mono (Kd.R_far (p := ⟨gb365, 2, none⟩) (Kd.R_far (p := ⟨gb365, 1, none⟩) (Kd.R_far (p := ⟨gb365, 0, none⟩) (Kd.R_types HO351.out BK365.out (by decide)) (fun _ hk => hk.2) (.slice Ao95 t356.length co95)) (fun _ hk => hk.2) (.slice Ao100 t359.length co100)) (fun _ hk => hk.2) (.slice Ao101 t362.length co101)) (fun _ h_ => h_.1)))); (case side2 => exact (Kd.R_reads' HO351.out).2.1); (case side3 => refine (Kd.S_reads' (e := 88) (base := w.heap.size) (ok := fun k_ => (True ∧ some k_ ≠ (.slice Ao79 t336.length co79 : Value).ownBlock)) (n := t352.length) (c := co91) ?_).2.2; exact (by (with_reducible repeat (first | apply Kd.S_alloc | apply Kd.S_drewN | apply Kd.S_drew)); exact (Kd.S_mono (Kd.S_far (p := ⟨gb365, 2, none⟩) (Kd.S_far (p := ⟨gb365, 1, none⟩) (Kd.S_far (p := ⟨gb365, 0, none⟩) (Kd.S_types HO354.out BK365.out (by decide)) (fun _ hk => hk.2) (.slice Ao95 t356.length co95)) (fun _ hk => hk.2) (.slice Ao100 t359.length co100)) (fun _ hk => hk.2) (.slice Ao101 t362.length co101)) (fun _ h_ => h_.1)))); (case side4 => exact (Kd.S_reads' HO354.out).2.1); (case side5 => refine (Kd.S_reads' (e := 86) (base := w.heap.size) (ok := fun k_ => (((True ∧ some k_ ≠ (.slice Ao78 t333.length co78 : Value).ownBlock) ∧ some k_ ≠ (.slice Ao80 t339.length co80 : Value).ownBlock) ∧ some k_ ≠ (.slice Ao87 t349.length co87 : Value).ownBlock)) (n := t356.length) (c := co95) ?_).2.2; exact (by (with_reducible repeat (first | apply Kd.S_alloc | apply Kd.S_drewN | apply Kd.S_drew)); exact (Kd.S_mono (Kd.S_far (p := ⟨gb365, 2, none⟩) (Kd.S_far (p := ⟨gb365, 1, none⟩) (Kd.S_far (p := ⟨gb365, 0, none⟩) (Kd.S_types HO358.out BK365.out (by decide)) (fun _ hk => hk.2) (.slice Ao95 t356.length co95)) (fun _ hk => hk.2) (.slice Ao100 t359.length co100)) (fun _ hk => hk.2) (.slice Ao101 t362.length co101)) (fun _ h_ => h_.1)))); (case side6 => exact (Kd.S_reads' HO358.out).2.1); (case side7 => refine (Kd.S_reads' (e := 91) (base := w.heap.size) (ok := fun k_ => (((True ∧ some k_ ≠ (.slice Ao78 t333.length co78 : Value).ownBlock) ∧ some k_ ≠ (.slice Ao81 t342.length co81 : Value).ownBlock) ∧ some k_ ≠ (.slice Ao87 t349.length co87 : Value).ownBlock)) (n := t359.length) (c := co100) ?_).2.2; exact (by (with_reducible repeat (first | apply Kd.S_alloc | apply Kd.S_drewN | apply Kd.S_drew)); exact (Kd.S_mono (Kd.S_far (p := ⟨gb365, 2, none⟩) (Kd.S_far (p := ⟨gb365, 1, none⟩) (Kd.S_far (p := ⟨gb365, 0, none⟩) (Kd.S_types HO361.out BK365.out (by decide)) (fun _ hk => hk.2) (.slice Ao95 t356.length co95)) (fun _ hk => hk.2) (.slice Ao100 t359.length co100)) (fun _ hk => hk.2) (.slice Ao101 t362.length co101)) (fun _ h_ => h_.1)))); (case side8 => exact (Kd.S_reads' HO361.out).2.1); (case side9 => refine (Kd.R_reads' (e := 93) (base := w.heap.size) (ok := fun k_ => (True ∧ some k_ ≠ (.slice Ao82 t345.length co82 : Value).ownBlock)) (n := t362.length) (c := co101) ?_).2.2; exact (by (with_reducible repeat (first | apply rA_ | apply rN_ | apply rD_)); exact (Kd.R_mono (Kd.R_far (p := ⟨gb365, 2, none⟩) (Kd.R_far (p := ⟨gb365, 1, none⟩) (Kd.R_far (p := ⟨gb365, 0, none⟩) (Kd.R_types HO364.out BK365.out (by decide)) (fun _ hk => hk.2) (.slice Ao95 t356.length co95)) (fun _ hk => hk.2) (.slice Ao100 t359.length co100)) (fun _ hk => hk.2) (.slice Ao101 t362.length co101)) (fun _ h_ => h_.1)))); (case side10 => exact (Kd.R_reads' HO364.out).2.1); rintro e w103 ⟨rfl, hb⟩; refine ⟨_, rfl, ?_⟩; have n0 := aM_ (Kd.R_below (by (with_reducible repeat (first | apply rA_ | apply rN_ | apply rD_)); exact (Kd.R_mono (Kd.R_far (p := ⟨gb365, 2, none⟩) (Kd.R_far (p := ⟨gb365, 1, none⟩) (Kd.R_far (p := ⟨gb365, 0, none⟩) (Kd.R_types HO335.out BK365.out (by decide)) (fun _ hk => hk.2) (.slice Ao95 t356.length co95)) (fun _ hk => hk.2) (.slice Ao100 t359.length co100)) (fun _ hk => hk.2) (.slice Ao101 t362.length co101)) (fun _ h_ => h_.1))) hb); have n1 := aM_ (Kd.S_below (by (with_reducible repeat (first | apply Kd.S_alloc | apply Kd.S_drewN | apply Kd.S_drew)); exact (Kd.S_mono (Kd.S_far (p := ⟨gb365, 2, none⟩) (Kd.S_far (p := ⟨gb365, 1, none⟩) (Kd.S_far (p := ⟨gb365, 0, none⟩) (Kd.S_types HO338.out BK365.out (by decide)) (fun _ hk => hk.2) (.slice Ao95 t356.length co95)) (fun _ hk => hk.2) (.slice Ao100 t359.length co100)) (fun _ hk => hk.2) (.slice Ao101 t362.length co101)) (fun _ h_ => h_.1))) hb); have n2 := aM_ (Kd.S_below (by (with_reducible repeat (first | apply Kd.S_alloc | apply Kd.S_drewN | apply Kd.S_drew)); exact (Kd.S_mono (Kd.S_far (p := ⟨gb365, 2, none⟩) (Kd.S_far (p := ⟨gb365, 1, none⟩) (Kd.S_far (p := ⟨gb365, 0, none⟩) (Kd.S_types HO341.out BK365.out (by decide)) (fun _ hk => hk.2) (.slice Ao95 t356.length co95)) (fun _ hk => hk.2) (.slice Ao100 t359.length co100)) (fun _ hk => hk.2) (.slice Ao101 t362.length co101)) (fun _ h_ => h_.1))) hb); have n3 := aM_ (Kd.S_below (by (with_reducible repeat (first | apply Kd.S_alloc | apply Kd.S_drewN | apply Kd.S_drew)); exact (Kd.S_mono (Kd.S_far (p := ⟨gb365, 2, none⟩) (Kd.S_far (p := ⟨gb365, 1, none⟩) (Kd.S_far (p := ⟨gb365, 0, none⟩) (Kd.S_types HO344.out BK365.out (by decide)) (fun _ hk => hk.2) (.slice Ao95 t356.length co95)) (fun _ hk => hk.2) (.slice Ao100 t359.length co100)) (fun _ hk => hk.2) (.slice Ao101 t362.length co101)) (fun _ h_ => h_.1))) hb); have n4 := aM_ (Kd.R_below (by (with_reducible repeat (first | apply rA_ | apply rN_ | apply rD_)); exact (Kd.R_mono (Kd.R_far (p := ⟨gb365, 2, none⟩) (Kd.R_far (p := ⟨gb365, 1, none⟩) (Kd.R_far (p := ⟨gb365, 0, none⟩) (Kd.R_types HO347.out BK365.out (by decide)) (fun _ hk => hk.2) (.slice Ao95 t356.length co95)) (fun _ hk => hk.2) (.slice Ao100 t359.length co100)) (fun _ hk => hk.2) (.slice Ao101 t362.length co101)) (fun _ h_ => h_.1))) hb); have n5 := aM_ (Kd.R_below (by (with_reducible repeat (first | apply rA_ | apply rN_ | apply rD_)); exact (Kd.R_mono (Kd.R_far (p := ⟨gb365, 2, none⟩) (Kd.R_far (p := ⟨gb365, 1, none⟩) (Kd.R_far (p := ⟨gb365, 0, none⟩) (Kd.R_types HO351.out BK365.out (by decide)) (fun _ hk => hk.2) (.slice Ao95 t356.length co95)) (fun _ hk => hk.2) (.slice Ao100 t359.length co100)) (fun _ hk => hk.2) (.slice Ao101 t362.length co101)) (fun _ h_ => h_.1))) hb); have n6 := aM_ (Kd.S_below (by (with_reducible repeat (first | apply Kd.S_alloc | apply Kd.S_drewN | apply Kd.S_drew)); exact (Kd.S_mono (Kd.S_far (p := ⟨gb365, 2, none⟩) (Kd.S_far (p := ⟨gb365, 1, none⟩) (Kd.S_far (p := ⟨gb365, 0, none⟩) (Kd.S_types HO354.out BK365.out (by decide)) (fun _ hk => hk.2) (.slice Ao95 t356.length co95)) (fun _ hk => hk.2) (.slice Ao100 t359.length co100)) (fun _ hk => hk.2) (.slice Ao101 t362.length co101)) (fun _ h_ => h_.1))) hb); have n7 := aM_ (Kd.S_below (by (with_reducible repeat (first | apply Kd.S_alloc | apply Kd.S_drewN | apply Kd.S_drew)); exact (Kd.S_mono (Kd.S_far (p := ⟨gb365, 2, none⟩) (Kd.S_far (p := ⟨gb365, 1, none⟩) (Kd.S_far (p := ⟨gb365, 0, none⟩) (Kd.S_types HO358.out BK365.out (by decide)) (fun _ hk => hk.2) (.slice Ao95 t356.length co95)) (fun _ hk => hk.2) (.slice Ao100 t359.length co100)) (fun _ hk => hk.2) (.slice Ao101 t362.length co101)) (fun _ h_ => h_.1))) hb); have n8 := aM_ (Kd.S_below (by (with_reducible repeat (first | apply Kd.S_alloc | apply Kd.S_drewN | apply Kd.S_drew)); exact (Kd.S_mono (Kd.S_far (p := ⟨gb365, 2, none⟩) (Kd.S_far (p := ⟨gb365, 1, none⟩) (Kd.S_far (p := ⟨gb365, 0, none⟩) (Kd.S_types HO361.out BK365.out (by decide)) (fun _ hk => hk.2) (.slice Ao95 t356.length co95)) (fun _ hk => hk.2) (.slice Ao100 t359.length co100)) (fun _ hk => hk.2) (.slice Ao101 t362.length co101)) (fun _ h_ => h_.1))) hb); have n9 := aM_ (Kd.R_below (by (with_reducible repeat (first | apply rA_ | apply rN_ | apply rD_)); exact (Kd.R_mono (Kd.R_far (p := ⟨gb365, 2, none⟩) (Kd.R_far (p := ⟨gb365, 1, none⟩) (Kd.R_far (p := ⟨gb365, 0, none⟩) (Kd.R_types HO364.out BK365.out (by decide)) (fun _ hk => hk.2) (.slice Ao95 t356.length co95)) (fun _ hk => hk.2) (.slice Ao100 t359.length co100)) (fun _ hk => hk.2) (.slice Ao101 t362.length co101)) (fun _ h_ => h_.1))) hb); have n10 := aM_ (blk_below (g := gb329) (o := .cells #[.slice A0_0 l0_0.length c0_0, .slice A0_1 l0_1.length c0_1] 38 (0, 0)) (by (with_reducible repeat (first | refine bN_ ?_ _ | refine bD_ ?_ | refine bA_ ?_ _)); refine blk_far ?_ NB329_365.out _; (with_reducible repeat (first | refine bN_ ?_ _ | refine bD_ ?_ | refine bA_ ?_ _)); refine blk_far ?_ NB329_365.out _; (with_reducible repeat (first | refine bN_ ?_ _ | refine bD_ ?_ | refine bA_ ?_ _)); refine blk_far ?_ NB329_365.out _; (with_reducible repeat (first | refine bN_ ?_ _ | refine bD_ ?_ | refine bA_ ?_ _)); exact BK329.out) hb); have n11 := aM_ (blk_below (g := gb330) (o := .cells #[.slice A1_0 l1_0.length c1_0, .slice A1_1 l1_1.length c1_1, .slice A1_2 l1_2.length c1_2] 43 (0, 0)) (by (with_reducible repeat (first | refine bN_ ?_ _ | refine bD_ ?_ | refine bA_ ?_ _)); refine blk_far ?_ NB330_365.out _; (with_reducible repeat (first | refine bN_ ?_ _ | refine bD_ ?_ | refine bA_ ?_ _)); refine blk_far ?_ NB330_365.out _; (with_reducible repeat (first | refine bN_ ?_ _ | refine bD_ ?_ | refine bA_ ?_ _)); refine blk_far ?_ NB330_365.out _; (with_reducible repeat (first | refine bN_ ?_ _ | refine bD_ ?_ | refine bA_ ?_ _)); exact BK330.out) hb); have n12 := aM_ (blk_below (g := gb355) (o := .cells #[.slice Ao87 t349.length co87, .slice Ao91 t352.length co91] 49 (0, 0)) (by (with_reducible repeat (first | refine bN_ ?_ _ | refine bD_ ?_ | refine bA_ ?_ _)); refine blk_far ?_ NB355_365.out _; (with_reducible repeat (first | refine bN_ ?_ _ | refine bD_ ?_ | refine bA_ ?_ _)); refine blk_far ?_ NB355_365.out _; (with_reducible repeat (first | refine bN_ ?_ _ | refine bD_ ?_ | refine bA_ ?_ _)); refine blk_far ?_ NB355_365.out _; (with_reducible repeat (first | refine bN_ ?_ _ | refine bD_ ?_ | refine bA_ ?_ _)); exact BK355.out) hb); have n13 := aM_ (blk_below (g := gb365) (o := .cells #[.slice Ao95 t356.length co95, .slice Ao100 t359.length co100, .slice Ao101 t362.length co101] 55 (0, 0)) (by (with_reducible repeat (first | refine bN_ ?_ _ | refine bD_ ?_ | refine bA_ ?_ _)); refine blk_put (cs := #[.slice Ao95 t356.length co95, .slice Ao100 t359.length co100, .slice none 0 0]) ?_ 2 _ rfl; (with_reducible repeat (first | refine bN_ ?_ _ | refine bD_ ?_ | refine bA_ ?_ _)); refine blk_put (cs := #[.slice Ao95 t356.length co95, .slice none 0 0, .slice none 0 0]) ?_ 1 _ rfl; (with_reducible repeat (first | refine bN_ ?_ _ | refine bD_ ?_ | refine bA_ ?_ _)); refine blk_put (cs := #[.slice none 0 0, .slice none 0 0, .slice none 0 0]) ?_ 0 _ rfl; (with_reducible repeat (first | refine bN_ ?_ _ | refine bD_ ?_ | refine bA_ ?_ _)); exact BK365.out) hb); have n14 := aM_ (sT_ HB.out hb); clear HO335; clear HO338; clear HO341; clear HO344; clear HO347; clear HO351; clear HO354; clear HO358; clear HO361; clear HO364; clear BK329; clear BK330; clear BK355; clear BK365; clear HB; have HO335 := n0; have HO338 := n1; have HO341 := n2; have HO344 := n3; have HO347 := n4; have HO351 := n5; have HO354 := n6; have HO358 := n7; have HO361 := n8; have HO364 := n9; have BK329 := n10; have BK330 := n11; have BK355 := n12; have BK365 := n13; have HB := n14; clear n0 n1 n2 n3 n4 n5 n6 n7 n8 n9 n10 n11 n12 n13 n14))
      have n0 := aM_ (Kd.R_drew HO335.out)
      have n1 := aM_ (Kd.S_drew HO338.out)
      have n2 := aM_ (Kd.S_drew HO341.out)
      have n3 := aM_ (Kd.S_drew HO344.out)
      have n4 := aM_ (Kd.R_drew HO347.out)
      have n5 := aM_ (Kd.R_drew HO351.out)
      have n6 := aM_ (Kd.S_drew HO354.out)
      have n7 := aM_ (Kd.S_drew HO358.out)
      have n8 := aM_ (Kd.S_drew HO361.out)
      have n9 := aM_ (Kd.R_drew HO364.out)
      have n10 := aM_ (blk_drew BK329.out)
      have n11 := aM_ (blk_drew BK330.out)
      have n12 := aM_ (blk_drew BK355.out)
      have n13 := aM_ (blk_drew BK365.out)
      have n14 := aM_ (below_drew1 HB.out)
      clear HO335
      clear HO338
      clear HO341
      clear HO344
      clear HO347
      clear HO351
      clear HO354
      clear HO358
      clear HO361
      clear HO364
      clear BK329
      clear BK330
      clear BK355
      clear BK365
      clear HB
      have HO335 := n0
      have HO338 := n1
      have HO341 := n2
      have HO344 := n3
      have HO347 := n4
      have HO351 := n5
      have HO354 := n6
      have HO358 := n7
      have HO361 := n8
      have HO364 := n9
      have BK329 := n10
      have BK330 := n11
      have BK355 := n12
      have BK365 := n13
      have HB := n14
      clear n0 n1 n2 n3 n4 n5 n6 n7 n8 n9 n10 n11 n12 n13 n14
      refine start_ (n := 5) (S := fun w' => w'.cell? ⟨gb355, 0, none⟩ = some (.slice Ao87 t349.length co87) ∧ w'.cell? ⟨gb355, 1, none⟩ = some (.slice Ao91 t352.length co91) ∧ w'.cell? ⟨gb329, 0, none⟩ = some (.slice A0_0 l0_0.length c0_0) ∧ w'.cell? ⟨gb329, 1, none⟩ = some (.slice A0_1 l0_1.length c0_1)) (ds := []) (mk_ 5 0) (by kernel_rfl) rfl rfl ⟨(blk_cell BK355.out 0).trans rfl, (blk_cell BK355.out 1).trans rfl, (blk_cell BK329.out 0).trans rfl, (blk_cell BK329.out 1).trans rfl⟩ (fun hHeld => ?_)
      generalize w103.drew = w104 at HO335 HO338 HO341 HO344 HO347 HO351 HO354 HO358 HO361 HO364 BK329 BK330 BK355 BK365 HB hHeld ⊢
      refine tK4_ 0 (some 35) (mk_ 5 1) ?_
      refine tK4_ 1 (some 36) (mk_ 5 3) ?_
      refine oN_ 2 (some 37) (mk_ 5 7) (fun K hK => ?_)
      refine gO_ Try.func16 #[.agg #[.slice A0_0 l0_0.length c0_0, .slice A0_1 l0_1.length c0_1]] ?_
      with_reducible refine (laws_toProg.calls k _ _ l0_0 _ _ l0_1 t367 t370 _ ?side1 ?side2 ?side3 ?side4 A62.out).mono ?_
      (case side1 => exact cS_ (Kd.C_below HR0_0.out HB.out))
      (case side2 => exact HC0_0.out)
      (case side3 => exact cS_ (Kd.C_below HR0_1.out HB.out))
      (case side4 => exact HC0_1.out)
      rintro e w105 ⟨v368, v371, rfl, ho0, ho1, hb⟩
      refine ⟨_, rfl, ?_⟩
      have n0 := aM_ (Kd.R_elder' (by (with_reducible repeat (first | apply rA_ | apply rN_ | apply rD_)); exact HO335.out) (Kd.R_base ho0) hb)
      have n1 := aM_ (Kd.S_elder' (by (with_reducible repeat (first | apply Kd.S_alloc | apply Kd.S_drewN | apply Kd.S_drew)); exact HO338.out) (Kd.S_base ho1) hb)
      have n2 := aM_ (Kd.S_elder' (by (with_reducible repeat (first | apply Kd.S_alloc | apply Kd.S_drewN | apply Kd.S_drew)); exact HO341.out) (Kd.R_base ho0) hb)
      have n3 := aM_ (Kd.S_elder' (by (with_reducible repeat (first | apply Kd.S_alloc | apply Kd.S_drewN | apply Kd.S_drew)); exact HO344.out) (Kd.R_base ho0) hb)
      have n4 := aM_ (bR_ HO347.out hb)
      have n5 := aM_ (Kd.R_elder' (by (with_reducible repeat (first | apply rA_ | apply rN_ | apply rD_)); exact HO351.out) (Kd.R_base ho0) hb)
      have n6 := aM_ (Kd.S_elder' (by (with_reducible repeat (first | apply Kd.S_alloc | apply Kd.S_drewN | apply Kd.S_drew)); exact HO354.out) (Kd.S_base ho1) hb)
      have n7 := aM_ (Kd.S_elder' (by (with_reducible repeat (first | apply Kd.S_alloc | apply Kd.S_drewN | apply Kd.S_drew)); exact HO358.out) (Kd.R_base ho0) hb)
      have n8 := aM_ (Kd.S_elder' (by (with_reducible repeat (first | apply Kd.S_alloc | apply Kd.S_drewN | apply Kd.S_drew)); exact HO361.out) (Kd.R_base ho0) hb)
      have n9 := aM_ (bR_ HO364.out hb)
      have n10 := aM_ (Kd.R_lower (Kd.R_new' (Kd.R_new' ho0 (Kd.R_lt (by (with_reducible repeat (first | apply rA_ | apply rN_ | apply rD_)); exact HO335.out))) (Kd.R_lt (by (with_reducible repeat (first | apply rA_ | apply rN_ | apply rD_)); exact HO351.out))) (below_size (by repeat (first | (with_reducible first | exact HB.out | apply hA_ | apply hN_ | apply hD_ | refine below_set ?_ GE329.out | refine below_set ?_ GE330.out | refine below_set ?_ GE355.out | refine below_set ?_ GE365.out) | exact HB.out))))
      have n11 := aM_ (Kd.S_lower (Kd.S_new' (Kd.S_new' ho1 (Kd.S_lt (by (with_reducible repeat (first | apply Kd.S_alloc | apply Kd.S_drewN | apply Kd.S_drew)); exact HO338.out))) (Kd.S_lt (by (with_reducible repeat (first | apply Kd.S_alloc | apply Kd.S_drewN | apply Kd.S_drew)); exact HO354.out))) (below_size (by repeat (first | (with_reducible first | exact HB.out | apply hA_ | apply hN_ | apply hD_ | refine below_set ?_ GE329.out | refine below_set ?_ GE330.out | refine below_set ?_ GE355.out | refine below_set ?_ GE365.out) | exact HB.out))))
      have n12 := aM_ (nB_ BK329.out hb)
      have n13 := aM_ (nB_ BK330.out hb)
      have n14 := aM_ (nB_ BK355.out hb)
      have n15 := aM_ (nB_ BK365.out hb)
      have n16 := aM_ (sT_ HB.out hb)
      clear HO335
      clear HO338
      clear HO341
      clear HO344
      clear HO347
      clear HO351
      clear HO354
      clear HO358
      clear HO361
      clear HO364
      clear BK329
      clear BK330
      clear BK355
      clear BK365
      clear HB
      have HO335 := n0
      have HO338 := n1
      have HO341 := n2
      have HO344 := n3
      have HO347 := n4
      have HO351 := n5
      have HO354 := n6
      have HO358 := n7
      have HO361 := n8
      have HO364 := n9
      have HO369 := n10
      have HO372 := n11
      have BK329 := n12
      have BK330 := n13
      have BK355 := n14
      have BK365 := n15
      have HB := n16
      clear n0 n1 n2 n3 n4 n5 n6 n7 n8 n9 n10 n11 n12 n13 n14 n15 n16
      (try clear hb)
      (try clear hb2)
      (try clear hk)
      (try clear hi)
      (try clear ho0)
      (try clear ho1)
      obtain ⟨Ao106, co106, eo106⟩ := Kd.R_slice HO369.out
      (first | subst eo106 | (injection eo106 with f1_ f2_ f3_; have f4_ := f1_.symm; have f5_ := f3_.symm; clear f1_ f2_ f3_; subst f4_; subst f5_))
      obtain ⟨Ao107, co107, eo107⟩ := Kd.S_slice HO372.out
      (first | subst eo107 | (injection eo107 with f1_ f2_ f3_; have f4_ := f1_.symm; have f5_ := f3_.symm; clear f1_ f2_ f3_; subst f4_; subst f5_))
      refine hK.out _ _ ⟨(blk_cell BK355.out 0).trans rfl, (blk_cell BK355.out 1).trans rfl, (blk_cell BK329.out 0).trans rfl, (blk_cell BK329.out 1).trans rfl⟩ (fun hHeld => ?_)
      clear hK K
      refine norm_ (a' := ?_) ?_ ?_
      rotate_left
      ·show Act.put _ (some 37) _ = _
       simp only [pt_, pn_, sI_, s0_, s1_, i64_w, i32_w]
       rfl
      refine oN_ 3 (some 38) (mk_ 5 15) (fun K hK => ?_)
      refine gO_ Try.func19 #[.agg #[.slice Ao87 t349.length co87, .slice Ao91 t352.length co91], .agg #[.slice Ao106 t367.length co106, .slice Ao107 t370.length co107]] ?_
      with_reducible refine (laws_eqProg.calls k _ _ t349 _ _ t352 _ _ t367 _ _ t370 true _ ?side1 ?side2 ?side3 ?side4 ?side5 ?side6 ?side7 ?side8 A63.out).mono ?_
      (case side1 => exact cS_ (Kd.R_reads' HO351.out).2.2)
      (case side2 => exact (Kd.R_reads' HO351.out).2.1)
      (case side3 => exact cS_ (Kd.S_reads' HO354.out).2.2)
      (case side4 => exact (Kd.S_reads' HO354.out).2.1)
      (case side5 => exact cS_ (Kd.R_reads' HO369.out).2.2)
      (case side6 => exact (Kd.R_reads' HO369.out).2.1)
      (case side7 => exact cS_ (Kd.S_reads' HO372.out).2.2)
      (case side8 => exact (Kd.S_reads' HO372.out).2.1)
      rintro e w108 ⟨rfl, hb⟩
      refine ⟨_, rfl, ?_⟩
      have n0 := aM_ (bR_ HO335.out hb)
      have n1 := aM_ (bS_ HO338.out hb)
      have n2 := aM_ (bS_ HO341.out hb)
      have n3 := aM_ (bS_ HO344.out hb)
      have n4 := aM_ (bR_ HO347.out hb)
      have n5 := aM_ (bR_ HO351.out hb)
      have n6 := aM_ (bS_ HO354.out hb)
      have n7 := aM_ (bS_ HO358.out hb)
      have n8 := aM_ (bS_ HO361.out hb)
      have n9 := aM_ (bR_ HO364.out hb)
      have n10 := aM_ (bR_ HO369.out hb)
      have n11 := aM_ (bS_ HO372.out hb)
      have n12 := aM_ (nB_ BK329.out hb)
      have n13 := aM_ (nB_ BK330.out hb)
      have n14 := aM_ (nB_ BK355.out hb)
      have n15 := aM_ (nB_ BK365.out hb)
      have n16 := aM_ (sT_ HB.out hb)
      clear HO335
      clear HO338
      clear HO341
      clear HO344
      clear HO347
      clear HO351
      clear HO354
      clear HO358
      clear HO361
      clear HO364
      clear HO369
      clear HO372
      clear BK329
      clear BK330
      clear BK355
      clear BK365
      clear HB
      have HO335 := n0
      have HO338 := n1
      have HO341 := n2
      have HO344 := n3
      have HO347 := n4
      have HO351 := n5
      have HO354 := n6
      have HO358 := n7
      have HO361 := n8
      have HO364 := n9
      have HO369 := n10
      have HO372 := n11
      have BK329 := n12
      have BK330 := n13
      have BK355 := n14
      have BK365 := n15
      have HB := n16
      clear n0 n1 n2 n3 n4 n5 n6 n7 n8 n9 n10 n11 n12 n13 n14 n15 n16
      (try clear hb)
      (try clear hb2)
      (try clear hk)
      (try clear hi)
      refine hK.out _ _ ⟨(blk_cell BK355.out 0).trans rfl, (blk_cell BK355.out 1).trans rfl, (blk_cell BK329.out 0).trans rfl, (blk_cell BK329.out 1).trans rfl⟩ (fun hHeld => ?_)
      clear hK K
      refine norm_ (a' := ?_) ?_ ?_
      rotate_left
      ·show Act.put _ (some 38) _ = _
       simp only [pt_, pn_, sI_, s0_, s1_, i64_w, i32_w]
       rfl
      refine pU_ 4 (some 39) (mk_ 5 31) ?_
      refine done_ (by kernel_rfl) ?_
      try go_wp2
      have n0 := aM_ (Kd.R_drew HO335.out)
      have n1 := aM_ (Kd.S_drew HO338.out)
      have n2 := aM_ (Kd.S_drew HO341.out)
      have n3 := aM_ (Kd.S_drew HO344.out)
      have n4 := aM_ (Kd.R_drew HO347.out)
      have n5 := aM_ (Kd.R_drew HO351.out)
      have n6 := aM_ (Kd.S_drew HO354.out)
      have n7 := aM_ (Kd.S_drew HO358.out)
      have n8 := aM_ (Kd.S_drew HO361.out)
      have n9 := aM_ (Kd.R_drew HO364.out)
      have n10 := aM_ (Kd.R_drew HO369.out)
      have n11 := aM_ (Kd.S_drew HO372.out)
      have n12 := aM_ (blk_drew BK329.out)
      have n13 := aM_ (blk_drew BK330.out)
      have n14 := aM_ (blk_drew BK355.out)
      have n15 := aM_ (blk_drew BK365.out)
      have n16 := aM_ (below_drew1 HB.out)
      clear HO335
      clear HO338
      clear HO341
      clear HO344
      clear HO347
      clear HO351
      clear HO354
      clear HO358
      clear HO361
      clear HO364
      clear HO369
      clear HO372
      clear BK329
      clear BK330
      clear BK355
      clear BK365
      clear HB
      have HO335 := n0
      have HO338 := n1
      have HO341 := n2
      have HO344 := n3
      have HO347 := n4
      have HO351 := n5
      have HO354 := n6
      have HO358 := n7
      have HO361 := n8
      have HO364 := n9
      have HO369 := n10
      have HO372 := n11
      have BK329 := n12
      have BK330 := n13
      have BK355 := n14
      have BK365 := n15
      have HB := n16
      clear n0 n1 n2 n3 n4 n5 n6 n7 n8 n9 n10 n11 n12 n13 n14 n15 n16
      refine start_ (n := 5) (S := fun w' => w'.cell? ⟨gb365, 0, none⟩ = some (.slice Ao95 t356.length co95) ∧ w'.cell? ⟨gb365, 1, none⟩ = some (.slice Ao100 t359.length co100) ∧ w'.cell? ⟨gb365, 2, none⟩ = some (.slice Ao101 t362.length co101) ∧ w'.cell? ⟨gb330, 0, none⟩ = some (.slice A1_0 l1_0.length c1_0) ∧ w'.cell? ⟨gb330, 1, none⟩ = some (.slice A1_1 l1_1.length c1_1) ∧ w'.cell? ⟨gb330, 2, none⟩ = some (.slice A1_2 l1_2.length c1_2)) (ds := []) (mk_ 5 0) (by kernel_rfl) rfl rfl ⟨(blk_cell BK365.out 0).trans rfl, (blk_cell BK365.out 1).trans rfl, (blk_cell BK365.out 2).trans rfl, (blk_cell BK330.out 0).trans rfl, (blk_cell BK330.out 1).trans rfl, (blk_cell BK330.out 2).trans rfl⟩ (fun hHeld => ?_)
      generalize w108.drew = w109 at HO335 HO338 HO341 HO344 HO347 HO351 HO354 HO358 HO361 HO364 HO369 HO372 BK329 BK330 BK355 BK365 HB hHeld ⊢
      refine tK6_ 0 (some 40) (mk_ 5 1) ?_
      refine tK6_ 1 (some 41) (mk_ 5 3) ?_
      refine oN_ 2 (some 42) (mk_ 5 7) (fun K hK => ?_)
      refine gO_ Try.func17 #[.agg #[.slice A1_0 l1_0.length c1_0, .slice A1_1 l1_1.length c1_1, .slice A1_2 l1_2.length c1_2]] ?_
      with_reducible refine (laws_toSource.calls k _ _ l1_0 _ _ l1_1 _ _ l1_2 t374 t377 t380 _ ?side1 ?side2 ?side3 ?side4 ?side5 ?side6 A65.out).mono ?_
      (case side1 => exact cS_ (Kd.C_below HR1_0.out HB.out))
      (case side2 => exact HC1_0.out)
      (case side3 => exact cS_ (Kd.C_below HR1_1.out HB.out))
      (case side4 => exact HC1_1.out)
      (case side5 => exact cS_ (Kd.C_below HR1_2.out HB.out))
      (case side6 => exact HC1_2.out)
      rintro e w110 ⟨v375, v378, v381, rfl, ho0, ho1, ho2, hb⟩
      refine ⟨_, rfl, ?_⟩
      have n0 := aM_ (bR_ HO335.out hb)
      have n1 := aM_ (bS_ HO338.out hb)
      have n2 := aM_ (Kd.S_elder' (by (with_reducible repeat (first | apply Kd.S_alloc | apply Kd.S_drewN | apply Kd.S_drew)); exact HO341.out) (Kd.S_base ho0) hb)
      have n3 := aM_ (Kd.S_elder' (by (with_reducible repeat (first | apply Kd.S_alloc | apply Kd.S_drewN | apply Kd.S_drew)); exact HO344.out) (Kd.S_base ho1) hb)
      have n4 := aM_ (Kd.R_elder' (by (with_reducible repeat (first | apply rA_ | apply rN_ | apply rD_)); exact HO347.out) (Kd.R_base ho2) hb)
      have n5 := aM_ (bR_ HO351.out hb)
      have n6 := aM_ (bS_ HO354.out hb)
      have n7 := aM_ (Kd.S_elder' (by (with_reducible repeat (first | apply Kd.S_alloc | apply Kd.S_drewN | apply Kd.S_drew)); exact HO358.out) (Kd.S_base ho0) hb)
      have n8 := aM_ (Kd.S_elder' (by (with_reducible repeat (first | apply Kd.S_alloc | apply Kd.S_drewN | apply Kd.S_drew)); exact HO361.out) (Kd.S_base ho1) hb)
      have n9 := aM_ (Kd.R_elder' (by (with_reducible repeat (first | apply rA_ | apply rN_ | apply rD_)); exact HO364.out) (Kd.R_base ho2) hb)
      have n10 := aM_ (bR_ HO369.out hb)
      have n11 := aM_ (bS_ HO372.out hb)
      have n12 := aM_ (Kd.S_lower (Kd.S_new' (Kd.S_new' (Kd.S_new' (Kd.S_new' (Kd.S_new' ho0 (Kd.R_lt (by (with_reducible repeat (first | apply rA_ | apply rN_ | apply rD_)); exact HO335.out))) (Kd.S_lt (by (with_reducible repeat (first | apply Kd.S_alloc | apply Kd.S_drewN | apply Kd.S_drew)); exact HO341.out))) (Kd.R_lt (by (with_reducible repeat (first | apply rA_ | apply rN_ | apply rD_)); exact HO351.out))) (Kd.S_lt (by (with_reducible repeat (first | apply Kd.S_alloc | apply Kd.S_drewN | apply Kd.S_drew)); exact HO358.out))) (Kd.R_lt (by (with_reducible repeat (first | apply rA_ | apply rN_ | apply rD_)); exact HO369.out))) (below_size (by repeat (first | (with_reducible first | exact HB.out | apply hA_ | apply hN_ | apply hD_ | refine below_set ?_ GE329.out | refine below_set ?_ GE330.out | refine below_set ?_ GE355.out | refine below_set ?_ GE365.out) | exact HB.out))))
      have n13 := aM_ (Kd.S_lower (Kd.S_new' (Kd.S_new' (Kd.S_new' (Kd.S_new' (Kd.S_new' ho1 (Kd.R_lt (by (with_reducible repeat (first | apply rA_ | apply rN_ | apply rD_)); exact HO335.out))) (Kd.S_lt (by (with_reducible repeat (first | apply Kd.S_alloc | apply Kd.S_drewN | apply Kd.S_drew)); exact HO344.out))) (Kd.R_lt (by (with_reducible repeat (first | apply rA_ | apply rN_ | apply rD_)); exact HO351.out))) (Kd.S_lt (by (with_reducible repeat (first | apply Kd.S_alloc | apply Kd.S_drewN | apply Kd.S_drew)); exact HO361.out))) (Kd.R_lt (by (with_reducible repeat (first | apply rA_ | apply rN_ | apply rD_)); exact HO369.out))) (below_size (by repeat (first | (with_reducible first | exact HB.out | apply hA_ | apply hN_ | apply hD_ | refine below_set ?_ GE329.out | refine below_set ?_ GE330.out | refine below_set ?_ GE355.out | refine below_set ?_ GE365.out) | exact HB.out))))
      have n14 := aM_ (Kd.R_lower (Kd.R_new' (Kd.R_new' ho2 (Kd.R_lt (by (with_reducible repeat (first | apply rA_ | apply rN_ | apply rD_)); exact HO347.out))) (Kd.R_lt (by (with_reducible repeat (first | apply rA_ | apply rN_ | apply rD_)); exact HO364.out))) (below_size (by repeat (first | (with_reducible first | exact HB.out | apply hA_ | apply hN_ | apply hD_ | refine below_set ?_ GE329.out | refine below_set ?_ GE330.out | refine below_set ?_ GE355.out | refine below_set ?_ GE365.out) | exact HB.out))))
      have n15 := aM_ (nB_ BK329.out hb)
      have n16 := aM_ (nB_ BK330.out hb)
      have n17 := aM_ (nB_ BK355.out hb)
      have n18 := aM_ (nB_ BK365.out hb)
      have n19 := aM_ (sT_ HB.out hb)
      clear HO335
      clear HO338
      clear HO341
      clear HO344
      clear HO347
      clear HO351
      clear HO354
      clear HO358
      clear HO361
      clear HO364
      clear HO369
      clear HO372
      clear BK329
      clear BK330
      clear BK355
      clear BK365
      clear HB
      have HO335 := n0
      have HO338 := n1
      have HO341 := n2
      have HO344 := n3
      have HO347 := n4
      have HO351 := n5
      have HO354 := n6
      have HO358 := n7
      have HO361 := n8
      have HO364 := n9
      have HO369 := n10
      have HO372 := n11
      have HO376 := n12
      have HO379 := n13
      have HO382 := n14
      have BK329 := n15
      have BK330 := n16
      have BK355 := n17
      have BK365 := n18
      have HB := n19
      clear n0 n1 n2 n3 n4 n5 n6 n7 n8 n9 n10 n11 n12 n13 n14 n15 n16 n17 n18 n19
      (try clear hb)
      (try clear hb2)
      (try clear hk)
      (try clear hi)
      (try clear ho0)
      (try clear ho1)
      (try clear ho2)
      obtain ⟨Ao111, co111, eo111⟩ := Kd.S_slice HO376.out
      (first | subst eo111 | (injection eo111 with f1_ f2_ f3_; have f4_ := f1_.symm; have f5_ := f3_.symm; clear f1_ f2_ f3_; subst f4_; subst f5_))
      obtain ⟨Ao112, co112, eo112⟩ := Kd.S_slice HO379.out
      (first | subst eo112 | (injection eo112 with f1_ f2_ f3_; have f4_ := f1_.symm; have f5_ := f3_.symm; clear f1_ f2_ f3_; subst f4_; subst f5_))
      obtain ⟨Ao113, co113, eo113⟩ := Kd.R_slice HO382.out
      (first | subst eo113 | (injection eo113 with f1_ f2_ f3_; have f4_ := f1_.symm; have f5_ := f3_.symm; clear f1_ f2_ f3_; subst f4_; subst f5_))
      refine hK.out _ _ ⟨(blk_cell BK365.out 0).trans rfl, (blk_cell BK365.out 1).trans rfl, (blk_cell BK365.out 2).trans rfl, (blk_cell BK330.out 0).trans rfl, (blk_cell BK330.out 1).trans rfl, (blk_cell BK330.out 2).trans rfl⟩ (fun hHeld => ?_)
      clear hK K
      refine norm_ (a' := ?_) ?_ ?_
      rotate_left
      ·show Act.put _ (some 42) _ = _
       simp only [pt_, pn_, sI_, s0_, s1_, i64_w, i32_w]
       rfl
      refine oN_ 3 (some 43) (mk_ 5 15) (fun K hK => ?_)
      refine gO_ Try.func20 #[.agg #[.slice Ao95 t356.length co95, .slice Ao100 t359.length co100, .slice Ao101 t362.length co101], .agg #[.slice Ao111 t374.length co111, .slice Ao112 t377.length co112, .slice Ao113 t380.length co113]] ?_
      with_reducible refine (laws_eqSource.calls k _ _ t356 _ _ t359 _ _ t362 _ _ t374 _ _ t377 _ _ t380 true _ ?side1 ?side2 ?side3 ?side4 ?side5 ?side6 ?side7 ?side8 ?side9 ?side10 ?side11 ?side12 A66.out).mono ?_
      (case side1 => exact cS_ (Kd.S_reads' HO358.out).2.2)
      (case side2 => exact (Kd.S_reads' HO358.out).2.1)
      (case side3 => exact cS_ (Kd.S_reads' HO361.out).2.2)
      (case side4 => exact (Kd.S_reads' HO361.out).2.1)
      (case side5 => exact cS_ (Kd.R_reads' HO364.out).2.2)
      (case side6 => exact (Kd.R_reads' HO364.out).2.1)
      (case side7 => exact cS_ (Kd.S_reads' HO376.out).2.2)
      (case side8 => exact (Kd.S_reads' HO376.out).2.1)
      (case side9 => exact cS_ (Kd.S_reads' HO379.out).2.2)
      (case side10 => exact (Kd.S_reads' HO379.out).2.1)
      (case side11 => exact cS_ (Kd.R_reads' HO382.out).2.2)
      (case side12 => exact (Kd.R_reads' HO382.out).2.1)
      rintro e w114 ⟨rfl, hb⟩
      refine ⟨_, rfl, ?_⟩
      have n0 := aM_ (bR_ HO335.out hb)
      have n1 := aM_ (bS_ HO338.out hb)
      have n2 := aM_ (bS_ HO341.out hb)
      have n3 := aM_ (bS_ HO344.out hb)
      have n4 := aM_ (bR_ HO347.out hb)
      have n5 := aM_ (bR_ HO351.out hb)
      have n6 := aM_ (bS_ HO354.out hb)
      have n7 := aM_ (bS_ HO358.out hb)
      have n8 := aM_ (bS_ HO361.out hb)
      have n9 := aM_ (bR_ HO364.out hb)
      have n10 := aM_ (bR_ HO369.out hb)
      have n11 := aM_ (bS_ HO372.out hb)
      have n12 := aM_ (bS_ HO376.out hb)
      have n13 := aM_ (bS_ HO379.out hb)
      have n14 := aM_ (bR_ HO382.out hb)
      have n15 := aM_ (nB_ BK329.out hb)
      have n16 := aM_ (nB_ BK330.out hb)
      have n17 := aM_ (nB_ BK355.out hb)
      have n18 := aM_ (nB_ BK365.out hb)
      have n19 := aM_ (sT_ HB.out hb)
      clear HO335
      clear HO338
      clear HO341
      clear HO344
      clear HO347
      clear HO351
      clear HO354
      clear HO358
      clear HO361
      clear HO364
      clear HO369
      clear HO372
      clear HO376
      clear HO379
      clear HO382
      clear BK329
      clear BK330
      clear BK355
      clear BK365
      clear HB
      have HO335 := n0
      have HO338 := n1
      have HO341 := n2
      have HO344 := n3
      have HO347 := n4
      have HO351 := n5
      have HO354 := n6
      have HO358 := n7
      have HO361 := n8
      have HO364 := n9
      have HO369 := n10
      have HO372 := n11
      have HO376 := n12
      have HO379 := n13
      have HO382 := n14
      have BK329 := n15
      have BK330 := n16
      have BK355 := n17
      have BK365 := n18
      have HB := n19
      clear n0 n1 n2 n3 n4 n5 n6 n7 n8 n9 n10 n11 n12 n13 n14 n15 n16 n17 n18 n19
      (try clear hb)
      (try clear hb2)
      (try clear hk)
      (try clear hi)
      refine hK.out _ _ ⟨(blk_cell BK365.out 0).trans rfl, (blk_cell BK365.out 1).trans rfl, (blk_cell BK365.out 2).trans rfl, (blk_cell BK330.out 0).trans rfl, (blk_cell BK330.out 1).trans rfl, (blk_cell BK330.out 2).trans rfl⟩ (fun hHeld => ?_)
      clear hK K
      refine norm_ (a' := ?_) ?_ ?_
      rotate_left
      ·show Act.put _ (some 43) _ = _
       simp only [pt_, pn_, sI_, s0_, s1_, i64_w, i32_w]
       rfl
      refine pU_ 4 (some 44) (mk_ 5 31) ?_
      refine done_ (by kernel_rfl) ?_
      try go_wp2
      go_ret
      exact fI_ HB.out
     ·replace c67 := Bool.eq_false_iff.mpr c67
      subst c67
      have H1 : (some false) = some r := by rw [if_neg (show ¬ (false = true) by decide)] at H; exact H
      exact absurd ((Option.some.inj H1).trans hr) (by decide)
    ·replace c64 := Bool.eq_false_iff.mpr c64
     subst c64
     have H1 : (some false) = some r := by rw [if_neg (show ¬ (false = true) by decide)] at H; exact H
     exact absurd ((Option.some.inj H1).trans hr) (by decide)
end Go.Proofs.Ytfaoipojijhlbaa.PFnExactSourceOk
namespace Go.Proofs.Ytfaoipojijhlbaa.Lp
open Go.RowKit Go.Proofs.YtfaoipojijhlbaaW.PrintWords
set_option linter.unusedVariables false
set_option linter.unusedSimpArgs false
theorem wrapS {j n : Nat} (h : j < n) (hn : n ≤ 9223372036854775807) : wrap64 ((j : Int) + 1) = ((j + 1 : Nat) : Int) := by
  unfold wrap64; omega
theorem wrap_in {n : Int} (h0 : -9223372036854775808 ≤ n) (h1 : n ≤ 9223372036854775807) : wrap64 n = n := by
  unfold wrap64; omega
theorem rd_get {xs : List Int} {j : Nat} (h : j < xs.length) : rd xs (j : Int) = xs[j] := by simp [rd, List.getD_eq_getElem?_getD, h]
theorem count_up {ρ : Type} {L : Nat → Nat → Option ρ} {R : Nat → ρ} {n : Nat} (hend : Ev (L n) (R n)) (hstep : ∀ j, j < n → Ev (L (j + 1)) (R (j + 1)) → Ev (L j) (R j)) : ∀ j, j ≤ n → Ev (L j) (R j) := by
  have key : ∀ d j, j + d = n → Ev (L j) (R j) := by
    intro d
    induction d with
    | zero => intro j hj; obtain rfl : j = n := by omega
              exact hend
    | succ d ih => intro j hj; exact hstep j (by omega) (ih (j + 1) (by omega))
  exact fun j hj => key (n - j) j (by omega)
theorem Ev.one {α : Type} {g : Nat → Option α} {r : α} (h : ∀ k, g (k + 1) = some r) : Ev g r := ⟨1, fun k hk => by
  obtain ⟨m, rfl⟩ : ∃ m, k = m + 1 := ⟨k - 1, by omega⟩
  exact h m⟩
theorem Ev.all {α : Type} {g : Nat → Option α} {r : α} (h : ∀ k, g k = some r) : Ev g r := ⟨0, fun k _ => h k⟩
theorem fill_set {α : Type} (l : List α) (z : α) (j : Nat) (h : j < l.length) (x : α) (hx : x = l[j]) : (l.take j ++ List.replicate (l.length - j) z).set j x = l.take (j + 1) ++ List.replicate (l.length - (j + 1)) z := by
  subst hx
  rw [show l.length - j = (l.length - (j + 1)) + 1 by omega, List.replicate_succ, List.set_append_right _ _ (by simp; omega), List.length_take, show j - min j l.length = 0 by omega, List.set_cons_zero, List.take_succ_eq_append_getElem h, List.append_assoc]
  rfl
def agree {α : Type} [DecidableEq α] (a b : List α) (j : Nat) : Bool := decide (a.drop j = b.drop j)
theorem agree_step {α : Type} [DecidableEq α] {a b : List α} {j : Nat} (ha : j < a.length) (hb : j < b.length) (h : a[j] = b[j]) : agree a b j = agree a b (j + 1) := by
  unfold agree
  have e1 := List.drop_eq_getElem_cons ha
  have e2 := List.drop_eq_getElem_cons hb
  rw [decide_eq_decide, e1, e2, h, List.cons.injEq]
  exact ⟨fun c => c.2, fun c => ⟨rfl, c⟩⟩
theorem agree_no {α : Type} [DecidableEq α] {a b : List α} {j : Nat} (ha : j < a.length) (hb : j < b.length) (h : ¬ a[j] = b[j]) : agree a b j = false := by
  unfold agree
  have e1 := List.drop_eq_getElem_cons ha
  have e2 := List.drop_eq_getElem_cons hb
  rw [decide_eq_false_iff_not, e1, e2]
  intro c
  injection c with c1
  exact h c1
theorem agree_end {α : Type} [DecidableEq α] {a b : List α} (h : a.length = b.length) : agree a b a.length = true := by
  unfold agree
  simp [h]
def allFrom {α : Type} (p : α → Bool) (xs : List α) (j : Nat) : Bool := (xs.drop j).all p
theorem allFrom_step {α : Type} {p : α → Bool} {xs : List α} {j : Nat} (h : j < xs.length) : allFrom p xs j = (p xs[j] && allFrom p xs (j + 1)) := by
  unfold allFrom
  rw [List.drop_eq_getElem_cons h, List.all_cons]
theorem allFrom_end {α : Type} {p : α → Bool} (xs : List α) : allFrom p xs xs.length = true := by simp [allFrom]
theorem allFrom_zero {α : Type} (p : α → Bool) (xs : List α) : allFrom p xs 0 = xs.all p := rfl
def total {α : Type} (w : α → Nat) : List α → Nat
  | [] => 0
  | x :: xs => w x + total w xs
theorem total_drop {α : Type} (w : α → Nat) {xs : List α} {j : Nat} (h : j < xs.length) : total w (xs.drop j) = w xs[j] + total w (xs.drop (j + 1)) := by
  rw [List.drop_eq_getElem_cons h, total]
theorem total_mem {α : Type} (w : α → Nat) : ∀ {xs : List α} {x : α}, x ∈ xs → w x ≤ total w xs
  | y :: xs, x, h => by
    rcases List.mem_cons.1 h with rfl | h
    · rw [total]; omega
    · have := total_mem w h
      rw [total]; omega
def left? (t : Nat) (a : Int) : Int := if (t : Int) ≤ a then a - (t : Int) else -1
theorem sz_loop {α : Type} {L : Nat → Int → Nat → Option Int} (xs : List α) (w : α → Nat) (B : Int) (hend : ∀ a, Ev (L xs.length a) a)
    (hyes : ∀ j (h : j < xs.length) a, a ≤ B → (w xs[j] : Int) ≤ a → ∀ r, Ev (L (j + 1) (a - (w xs[j] : Int))) r → Ev (L j a) r)
    (hno : ∀ j (h : j < xs.length) a, 0 ≤ a → a ≤ B → a < (w xs[j] : Int) → Ev (L j a) (-1)) : ∀ a, 0 ≤ a → a ≤ B → Ev (L 0 a) (left? (total w xs) a) := by
  have key : ∀ d j, j + d = xs.length → ∀ a, 0 ≤ a → a ≤ B → Ev (L j a) (left? (total w (xs.drop j)) a) := by
    intro d
    induction d with
    | zero =>
      intro j hj a h0 hB
      obtain rfl : j = xs.length := by omega
      rw [List.drop_length, total, left?, if_pos (by omega), show a - ((0 : Nat) : Int) = a by omega]
      exact hend a
    | succ d ih =>
      intro j hj a h0 hB
      have h : j < xs.length := by omega
      rw [total_drop w h]
      by_cases hw : (w xs[j] : Int) ≤ a
      · refine hyes j h a hB hw _ ?_
        have := ih (j + 1) (by omega) (a - (w xs[j] : Int)) (by omega) (by omega)
        unfold left? at this ⊢
        by_cases c : (total w (xs.drop (j + 1)) : Int) ≤ a - (w xs[j] : Int)
        · rw [if_pos c] at this
          rw [if_pos (by omega), show a - ((w xs[j] + total w (xs.drop (j + 1)) : Nat) : Int) = a - (w xs[j] : Int) - (total w (xs.drop (j + 1)) : Int) by omega]
          exact this
        · rw [if_neg c] at this
          rw [if_neg (by omega)]
          exact this
      · rw [left?, if_neg (by omega)]
        exact hno j h a h0 hB (by omega)
  exact fun a h0 hB => by simpa using key xs.length 0 (by omega) a h0 hB
theorem left?_yes {t : Nat} {a : Int} (h : (t : Int) ≤ a) : left? t a = a - (t : Int) := if_pos h
theorem left?_no {t : Nat} {a : Int} (h : ¬ (t : Int) ≤ a) : left? t a = -1 := if_neg h
theorem left?_add {m t : Nat} {a : Int} (h : (m : Int) ≤ a) : left? t (a - (m : Int)) = left? (m + t) a := by
  unfold left?
  by_cases c : (t : Int) ≤ a - (m : Int)
  · rw [if_pos c, if_pos (by omega)]; omega
  · rw [if_neg c, if_neg (by omega)]
theorem Ev.val {α : Type} {g : Nat → Option α} {r r' : α} (h : r = r') (k : Ev g r) : Ev g r' := h ▸ k
theorem Ev.ite_pos {α : Type} {c : Prop} [Decidable c] {g f : Nat → Option α} {r : α} (h : c) (k : Ev g r) : Ev (fun n => if c then g n else f n) r := by simp only [if_pos h]; exact k
theorem Ev.ite_neg {α : Type} {c : Prop} [Decidable c] {g f : Nat → Option α} {r : α} (h : ¬ c) (k : Ev f r) : Ev (fun n => if c then g n else f n) r := by simp only [if_neg h]; exact k
theorem total_map {α β : Type} (w : α → Nat) (w' : β → Nat) (c : α → β) (h : ∀ x, w' (c x) = w x) : ∀ xs : List α, total w' (xs.map c) = total w xs
  | [] => rfl
  | x :: xs => by rw [List.map_cons, total, total, h, total_map w w' c h xs]
theorem to_loop {α β : Type} {L : Nat → List β → Nat → Option (List β)} (xs : List α) (c : α → β) (z : β) (hend : ∀ ys, ys.length = xs.length → Ev (L xs.length ys) ys)
    (hstep : ∀ j (h : j < xs.length) ys, ys.length = xs.length → ∀ r, Ev (L (j + 1) (ys.set j (c xs[j]))) r → Ev (L j ys) r) : Ev (L 0 (List.replicate xs.length z)) (xs.map c) := by
  have key : ∀ d j, j + d = xs.length → Ev (L j ((xs.map c).take j ++ List.replicate (xs.length - j) z)) (xs.map c) := by
    intro d
    induction d with
    | zero =>
      intro j hj
      obtain rfl : j = xs.length := by omega
      have := hend (xs.map c) (by simp)
      rw [Nat.sub_self, List.replicate_zero, List.append_nil, List.take_of_length_le (by simp)]
      exact this
    | succ d ih =>
      intro j hj
      have h : j < xs.length := by omega
      refine hstep j h _ (by simp; omega) _ ?_
      have h2 := fill_set (xs.map c) z j (by simpa using h) (c xs[j]) (by simp)
      rw [List.length_map] at h2
      rw [h2]
      exact ih (j + 1) (by omega)
  simpa using key xs.length 0 (by omega)
theorem yes_loop {ρ : Type} {L : Nat → Nat → Option ρ} (n : Nat) (r : ρ) (hend : Ev (L n) r) (hstep : ∀ j, j < n → Ev (L (j + 1)) r → Ev (L j) r) : Ev (L 0) r :=
  count_up (R := fun _ => r) hend hstep 0 (Nat.zero_le _)
theorem all_loop {α : Type} {L : Nat → Nat → Option Bool} (xs : List α) (p : α → Bool) {b : Bool} (hend : Ev (L xs.length) b) (hyes : ∀ j (h : j < xs.length), p xs[j] = true → ∀ r, Ev (L (j + 1)) r → Ev (L j) r) (hno : ∀ j (h : j < xs.length), p xs[j] = false → Ev (L j) false) : Ev (L 0) (xs.all p && b) := by
  have key : ∀ d j, j + d = xs.length → Ev (L j) (allFrom p xs j && b) := by
    intro d
    induction d with
    | zero =>
      intro j hj
      obtain rfl : j = xs.length := by omega
      rw [allFrom_end, Bool.true_and]
      exact hend
    | succ d ih =>
      intro j hj
      have h : j < xs.length := by omega
      rw [allFrom_step h]
      cases e : p xs[j] with
      | true => rw [Bool.true_and]; exact hyes j h e _ (ih (j + 1) (by omega))
      | false => rw [Bool.false_and, Bool.false_and]; exact hno j h e
  have := key xs.length 0 (by omega)
  rwa [allFrom_zero] at this
end Go.Proofs.Ytfaoipojijhlbaa.Lp
