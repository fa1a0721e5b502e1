/- A part of the proof that the law FnExactMachineOk holds for every input: the words, functions and walks that its row needs, without a condition of their own. -/
import Derived.Test.YtfaoipojijhlbaaZFnExactMachineOka0
import Derived.Test.YtfaoipojijhlbaaZFnExactMachineOka2
import Derived.Test.YtfaoipojijhlbaaZFnExactMachineOka3
import Derived.Test.YtfaoipojijhlbaaZFnExactMachineOka6
import Derived.Test.YtfaoipojijhlbaaZFnExactMachineOka8
import Derived.Test.YtfaoipojijhlbaaZFnExactMachineOka11
import Derived.Test.YtfaoipojijhlbaaZFnExactMachineOka15
import Derived.Test.YtfaoipojijhlbaaZFnExactMachineOks
namespace Go.Proofs.Ytfaoipojijhlbaa.PFnExactMachineOk
open Go.RowKit Go.Proofs.YtfaoipojijhlbaaW.PrintWords Go.Proofs.YtfaoipojijhlbaaW.PrintLast Go.Proofs.YtfaoipojijhlbaaW.PrintMore
attribute [local go_sem] max2_int min2_int max_two min_two max_three min_three max_four min_four   -- for this text's walks alone
set_option linter.unusedVariables false
set_option linter.unusedSimpArgs false
def laws_FnExactMachineOk.f (k : Nat) (l0_0 : List (List (S161))) (l0_1 : List (S142)) (l0_2 : List (List (S151))) (l0_3 : List (S134)) : Option (Bool) := (laws_szMachine.f k l0_0 l0_1 l0_2 l0_3 1048576).bind fun t346 => (if t346 < 0 then (some true) else ((laws_toMachine.f k l0_0 l0_1 l0_2 l0_3).bind fun bt347 => ((spec_MachineOk.f k bt347.1 bt347.2.1 bt347.2.2.1 bt347.2.2.2).bind fun t359 => ((laws_toMachine.f k l0_0 l0_1 l0_2 l0_3).bind fun bt360 => ((impl_MachineOk.f k bt360.1 bt360.2.1 bt360.2.2.1 bt360.2.2.2).bind fun t373 => (if (t373 != t359) = true then (some false) else ((laws_toMachine.f k l0_0 l0_1 l0_2 l0_3).bind fun bt374 => ((laws_eqMachine.f k bt360.1 bt360.2.1 bt360.2.2.1 bt360.2.2.2 bt374.1 bt374.2.1 bt374.2.2.1 bt374.2.2.2).bind fun t386 => (if t386 = true then (some true) else (some false))))))))))
set_option maxHeartbeats 8000000 in
set_option maxRecDepth 100000 in
theorem laws_FnExactMachineOk.calls (k : Nat) (A0_0 : Option Addr) (c0_0 : Nat) (l0_0 : List (List (S161))) (A0_1 : Option Addr) (c0_1 : Nat) (l0_1 : List (S142)) (A0_2 : Option Addr) (c0_2 : Nat) (l0_2 : List (List (S151))) (A0_3 : Option Addr) (c0_3 : Nat) (l0_3 : List (S134)) (r : Bool) (w : World) (hr0_0 : Kd.C (Kd.slice 161 k161) w A0_0 l0_0.length l0_0) (hc0_0 : l0_0.length ≤ c0_0) (hr0_1 : Kd.C k142 w A0_1 l0_1.length l0_1) (hc0_1 : l0_1.length ≤ c0_1) (hr0_2 : Kd.C (Kd.slice 151 k151) w A0_2 l0_2.length l0_2) (hc0_2 : l0_2.length ≤ c0_2) (hr0_3 : Kd.C k134 w A0_3 l0_3.length l0_3) (hc0_3 : l0_3.length ≤ c0_3) (h : laws_FnExactMachineOk.f k l0_0 l0_1 l0_2 l0_3 = some r) (hr : r = true) :
  Calls Try.prog 5 #[.agg #[.slice A0_0 l0_0.length c0_0, .slice A0_1 l0_1.length c0_1, .slice A0_2 l0_2.length c0_2, .slice A0_3 l0_3.length c0_3]] w fun e w' => e = .returned (.bool r) ∧ Below w.heap.size w w' := by
 have hu63 := Try.underlying63
 have hu69 := Try.underlying69
 have HR0_0 := aM_ hr0_0
 have HC0_0 := aM_ hc0_0
 clear hr0_0 hc0_0
 have HR0_1 := aM_ hr0_1
 have HC0_1 := aM_ hc0_1
 clear hr0_1 hc0_1
 have HR0_2 := aM_ hr0_2
 have HC0_2 := aM_ hc0_2
 clear hr0_2 hc0_2
 have HR0_3 := aM_ hr0_3
 have HC0_3 := aM_ hc0_3
 clear hr0_3 hc0_3
 have HB := aM_ (Below.refl w.heap.size w)
 have H : ((laws_szMachine.f k l0_0 l0_1 l0_2 l0_3 1048576).bind fun t346 => (if t346 < 0 then (some true) else ((laws_toMachine.f k l0_0 l0_1 l0_2 l0_3).bind fun bt347 => ((spec_MachineOk.f k bt347.1 bt347.2.1 bt347.2.2.1 bt347.2.2.2).bind fun t359 => ((laws_toMachine.f k l0_0 l0_1 l0_2 l0_3).bind fun bt360 => ((impl_MachineOk.f k bt360.1 bt360.2.1 bt360.2.2.1 bt360.2.2.2).bind fun t373 => (if (t373 != t359) = true then (some false) else ((laws_toMachine.f k l0_0 l0_1 l0_2 l0_3).bind fun bt374 => ((laws_eqMachine.f k bt360.1 bt360.2.1 bt360.2.2.1 bt360.2.2.2 bt374.1 bt374.2.1 bt374.2.2.1 bt374.2.2.2).bind fun t386 => (if t386 = true then (some true) else (some false))))))))))) = some r := h
 clear h
 replace H := Option.bind_eq_some_iff.mp H
 obtain ⟨t346, A20, H⟩ := H
 replace H : (if t346 < 0 then (some true) else ((laws_toMachine.f k l0_0 l0_1 l0_2 l0_3).bind fun bt347 => ((spec_MachineOk.f k bt347.1 bt347.2.1 bt347.2.2.1 bt347.2.2.2).bind fun t359 => ((laws_toMachine.f k l0_0 l0_1 l0_2 l0_3).bind fun bt360 => ((impl_MachineOk.f k bt360.1 bt360.2.1 bt360.2.2.1 bt360.2.2.2).bind fun t373 => (if (t373 != t359) = true then (some false) else ((laws_toMachine.f k l0_0 l0_1 l0_2 l0_3).bind fun bt374 => ((laws_eqMachine.f k bt360.1 bt360.2.1 bt360.2.2.1 bt360.2.2.2 bt374.1 bt374.2.1 bt374.2.2.1 bt374.2.2.2).bind fun t386 => (if t386 = true then (some true) else (some false)))))))))) = some r := H
 have A2 := aM_ A20
 clear A20
 by_cases c3 : t346 < 0
 ·rw [if_pos c3] at H
  have c3b0 : decide (t346 < 0) = true := decide_eq_true c3
  clear c3
  obtain rfl := Option.some.inj H
  go_enter Try.func5, Try.ntmps5
  go_wp2_with (first | ((with_reducible refine gate_dst (N := 1) rfl ?_); refine bX_ 1 (cs := #[.slice A0_0 l0_0.length c0_0, .slice A0_1 l0_1.length c0_1, .slice A0_2 l0_2.length c0_2, .slice A0_3 l0_3.length c0_3]) (t := 63) ?_; intro gb345 hg w4 hbox hb; have n0 := aM_ (sT_ HB.out hb); have n1 := aM_ (hbox); have n2 := aM_ (sZ_ hg HB.out); have n3 := aM_ (sZ_ hg HB.out); clear HB; have HB := n0; have BK345 := n1; have GW345 := n2; have GE345 := n3; clear n0 n1 n2 n3; clear hb hbox hg; obtain ⟨hcz5_0, hcz5_1, hcz5_2, hcz5_3, hfz5_0, hfz5_1, hfz5_2, hfz5_3⟩ := bR4_ BK345.out) | ((with_reducible refine gate_callee (f := 21) rfl ?_); refine gL_ (some 9) Try.func21 #[.agg #[.slice A0_0 l0_0.length c0_0, .slice A0_1 l0_1.length c0_1, .slice A0_2 l0_2.length c0_2, .slice A0_3 l0_3.length c0_3], .int .i64 1048576] ?_; (with_reducible refine (laws_szMachine.calls k _ _ l0_0 _ _ l0_1 _ _ l0_2 _ _ l0_3 1048576 t346 _ ?side1 ?side2 ?side3 ?side4 ?side5 ?side6 ?side7 ?side8 A2.out).mono ?_); (case side1 => exact cS_ (Kd.C_below HR0_0.out HB.out)); (case side2 => exact HC0_0.out); (case side3 => exact cS_ (Kd.C_below HR0_1.out HB.out)); (case side4 => exact HC0_1.out); (case side5 => exact cS_ (Kd.C_below HR0_2.out HB.out)); (case side6 => exact HC0_2.out); (case side7 => exact cS_ (Kd.C_below HR0_3.out HB.out)); (case side8 => exact HC0_3.out); rintro e w6 ⟨rfl, hb⟩; refine ⟨_, rfl, ?_⟩; have n0 := aM_ (nB_ BK345.out hb); have n1 := aM_ (sT_ HB.out hb); clear BK345; clear HB; have BK345 := n0; have HB := n1; clear n0 n1))
  go_ret
  exact fI_ HB.out
 ·rw [if_neg c3] at H
  have c3b0 : decide (t346 < 0) = false := decide_eq_false c3
  clear c3
  replace H := Option.bind_eq_some_iff.mp H
  obtain ⟨⟨t347, t350, t353, t356⟩, A70, H⟩ := H
  replace H : ((spec_MachineOk.f k t347 t350 t353 t356).bind fun t359 => ((laws_toMachine.f k l0_0 l0_1 l0_2 l0_3).bind fun bt360 => ((impl_MachineOk.f k bt360.1 bt360.2.1 bt360.2.2.1 bt360.2.2.2).bind fun t373 => (if (t373 != t359) = true then (some false) else ((laws_toMachine.f k l0_0 l0_1 l0_2 l0_3).bind fun bt374 => ((laws_eqMachine.f k bt360.1 bt360.2.1 bt360.2.2.1 bt360.2.2.2 bt374.1 bt374.2.1 bt374.2.2.1 bt374.2.2.2).bind fun t386 => (if t386 = true then (some true) else (some false)))))))) = some r := H
  have A7 := aM_ A70
  clear A70
  replace H := Option.bind_eq_some_iff.mp H
  obtain ⟨t359, A80, H⟩ := H
  replace H : ((laws_toMachine.f k l0_0 l0_1 l0_2 l0_3).bind fun bt360 => ((impl_MachineOk.f k bt360.1 bt360.2.1 bt360.2.2.1 bt360.2.2.2).bind fun t373 => (if (t373 != t359) = true then (some false) else ((laws_toMachine.f k l0_0 l0_1 l0_2 l0_3).bind fun bt374 => ((laws_eqMachine.f k bt360.1 bt360.2.1 bt360.2.2.1 bt360.2.2.2 bt374.1 bt374.2.1 bt374.2.2.1 bt374.2.2.2).bind fun t386 => (if t386 = true then (some true) else (some false))))))) = some r := H
  have A8 := aM_ A80
  clear A80
  replace H := Option.bind_eq_some_iff.mp H
  obtain ⟨⟨t360, t363, t366, t369⟩, A90, H⟩ := H
  replace H : ((impl_MachineOk.f k t360 t363 t366 t369).bind fun t373 => (if (t373 != t359) = true then (some false) else ((laws_toMachine.f k l0_0 l0_1 l0_2 l0_3).bind fun bt374 => ((laws_eqMachine.f k t360 t363 t366 t369 bt374.1 bt374.2.1 bt374.2.2.1 bt374.2.2.2).bind fun t386 => (if t386 = true then (some true) else (some false)))))) = some r := H
  have A9 := aM_ A90
  clear A90
  replace H := Option.bind_eq_some_iff.mp H
  obtain ⟨t373, A100, H⟩ := H
  replace H : (if (t373 != t359) = true then (some false) else ((laws_toMachine.f k l0_0 l0_1 l0_2 l0_3).bind fun bt374 => ((laws_eqMachine.f k t360 t363 t366 t369 bt374.1 bt374.2.1 bt374.2.2.1 bt374.2.2.2).bind fun t386 => (if t386 = true then (some true) else (some false))))) = some r := H
  have A10 := aM_ A100
  clear A100
  by_cases c11 : (t373 != t359) = true
  ·rw [if_pos c11] at H
   exact absurd ((Option.some.inj H).trans hr) (by decide)
  ·rw [if_neg c11] at H
   have c11b0 : (t373 != t359) = false := by simpa using c11
   (try (have c11b1 : decide (t373 = t359) = true := by simpa using c11))
   (try (have c11b2 : (t373 == t359) = true := by simpa using c11))
   clear c11
   replace H := Option.bind_eq_some_iff.mp H
   obtain ⟨⟨t374, t377, t380, t383⟩, A320, H⟩ := H
   replace H : ((laws_eqMachine.f k t360 t363 t366 t369 t374 t377 t380 t383).bind fun t386 => (if t386 = true then (some true) else (some false))) = some r := H
   have A32 := aM_ A320
   clear A320
   replace H := Option.bind_eq_some_iff.mp H
   obtain ⟨t386, A330, H⟩ := H
   replace H : (if t386 = true then (some true) else (some false)) = some r := H
   have A33 := aM_ A330
   clear A330
   by_cases c34 : t386 = true
   ·subst c34
    have H1 : (some true) = some r := by rw [if_pos rfl] at H; exact H
    clear H
    have H := H1
    clear H1
    obtain rfl := Option.some.inj H
    go_enter Try.func5, Try.ntmps5
    try go_wp2_with (first | ((with_reducible refine gate_dst (N := 1) rfl ?_); refine bX_ 1 (cs := #[.slice A0_0 l0_0.length c0_0, .slice A0_1 l0_1.length c0_1, .slice A0_2 l0_2.length c0_2, .slice A0_3 l0_3.length c0_3]) (t := 63) ?_; intro gb345 hg w35 hbox hb; have n0 := aM_ (sT_ HB.out hb); have n1 := aM_ (hbox); have n2 := aM_ (sZ_ hg HB.out); have n3 := aM_ (sZ_ hg HB.out); clear HB; have HB := n0; have BK345 := n1; have GW345 := n2; have GE345 := n3; clear n0 n1 n2 n3; clear hb hbox hg; obtain ⟨hcz36_0, hcz36_1, hcz36_2, hcz36_3, hfz36_0, hfz36_1, hfz36_2, hfz36_3⟩ := bR4_ BK345.out) | ((with_reducible refine gate_callee (f := 21) rfl ?_); refine gL_ (some 9) Try.func21 #[.agg #[.slice A0_0 l0_0.length c0_0, .slice A0_1 l0_1.length c0_1, .slice A0_2 l0_2.length c0_2, .slice A0_3 l0_3.length c0_3], .int .i64 1048576] ?_; (with_reducible refine (laws_szMachine.calls k _ _ l0_0 _ _ l0_1 _ _ l0_2 _ _ l0_3 1048576 t346 _ ?side1 ?side2 ?side3 ?side4 ?side5 ?side6 ?side7 ?side8 A2.out).mono ?_); (case side1 => exact cS_ (Kd.C_below HR0_0.out HB.out)); (case side2 => exact HC0_0.out); (case side3 => exact cS_ (Kd.C_below HR0_1.out HB.out)); (case side4 => exact HC0_1.out); (case side5 => exact cS_ (Kd.C_below HR0_2.out HB.out)); (case side6 => exact HC0_2.out); (case side7 => exact cS_ (Kd.C_below HR0_3.out HB.out)); (case side8 => exact HC0_3.out); rintro e w37 ⟨rfl, hb⟩; refine ⟨_, rfl, ?_⟩; have n0 := aM_ (nB_ BK345.out hb); have n1 := aM_ (sT_ HB.out hb); clear BK345; clear HB; have BK345 := n0; have HB := n1; clear n0 n1; obtain ⟨hcz38_0, hcz38_1, hcz38_2, hcz38_3, hfz38_0, hfz38_1, hfz38_2, hfz38_3⟩ := bR4_ BK345.out) | ((with_reducible refine gate_callee (f := 23) rfl ?_); refine gL_ (some 13) Try.func23 #[.agg #[.slice A0_0 l0_0.length c0_0, .slice A0_1 l0_1.length c0_1, .slice A0_2 l0_2.length c0_2, .slice A0_3 l0_3.length c0_3]] ?_; (with_reducible refine (laws_toMachine.calls k _ _ l0_0 _ _ l0_1 _ _ l0_2 _ _ l0_3 t347 t350 t353 t356 _ ?side1 ?side2 ?side3 ?side4 ?side5 ?side6 ?side7 ?side8 A7.out).mono ?_); (case side1 => exact cS_ (Kd.C_below HR0_0.out HB.out)); (case side2 => exact HC0_0.out); (case side3 => exact cS_ (Kd.C_below HR0_1.out HB.out)); (case side4 => exact HC0_1.out); (case side5 => exact cS_ (Kd.C_below HR0_2.out HB.out)); (case side6 => exact HC0_2.out); (case side7 => exact cS_ (Kd.C_below HR0_3.out HB.out)); (case side8 => exact HC0_3.out); rintro e w39 ⟨v348, v351, v354, v357, rfl, ho0, ho1, ho2, ho3, hb⟩; refine ⟨_, rfl, ?_⟩; have n0 := aM_ (Kd.S_lower ho0 (below_size (by repeat (first | (with_reducible first | exact HB.out | apply hA_ | apply hN_ | apply hD_ | refine below_set ?_ GE345.out) | exact HB.out)))); have n1 := aM_ (Kd.S_lower ho1 (below_size (by repeat (first | (with_reducible first | exact HB.out | apply hA_ | apply hN_ | apply hD_ | refine below_set ?_ GE345.out) | exact HB.out)))); have n2 := aM_ (Kd.R_lower ho2 (below_size (by repeat (first | (with_reducible first | exact HB.out | apply hA_ | apply hN_ | apply hD_ | refine below_set ?_ GE345.out) | exact HB.out)))); have n3 := aM_ (Kd.R_lower ho3 (below_size (by repeat (first | (with_reducible first | exact HB.out | apply hA_ | apply hN_ | apply hD_ | refine below_set ?_ GE345.out) | exact HB.out)))); have n4 := aM_ (nB_ BK345.out hb); have n5 := aM_ (sT_ HB.out hb); clear BK345; clear HB; have HO349 := n0; have HO352 := n1; have HO355 := n2; have HO358 := n3; have BK345 := n4; have HB := n5; clear n0 n1 n2 n3 n4 n5; (try clear ho0); (try clear ho1); (try clear ho2); (try clear ho3); obtain ⟨Ao40, co40, eo40⟩ := Kd.S_slice HO349.out; subst eo40; obtain ⟨Ao41, co41, eo41⟩ := Kd.S_slice HO352.out; subst eo41; obtain ⟨Ao42, co42, eo42⟩ := Kd.R_slice HO355.out; subst eo42; obtain ⟨Ao43, co43, eo43⟩ := Kd.R_slice HO358.out; subst eo43) | ((with_reducible refine gate_callee (f := 22) rfl ?_); refine gL_ (some 14) Try.func22 #[.agg #[.slice Ao40 t347.length co40, .slice Ao41 t350.length co41, .slice Ao42 t353.length co42, .slice Ao43 t356.length co43]] ?_; (with_reducible refine (spec_MachineOk.calls k _ _ t347 _ _ t350 _ _ t353 _ _ t356 t359 _ ?side1 ?side2 ?side3 ?side4 ?side5 ?side6 ?side7 ?side8 A8.out).mono ?_); (case side1 => exact cS_ (Kd.S_reads' HO349.out).2.2); (case side2 => exact (Kd.S_reads' HO349.out).2.1); (case side3 => exact cS_ (Kd.S_reads' HO352.out).2.2); (case side4 => exact (Kd.S_reads' HO352.out).2.1); (case side5 => exact cS_ (Kd.R_reads' HO355.out).2.2); (case side6 => exact (Kd.R_reads' HO355.out).2.1); (case side7 => exact cS_ (Kd.R_reads' HO358.out).2.2); (case side8 => exact (Kd.R_reads' HO358.out).2.1); rintro e w44 ⟨rfl, hb⟩; refine ⟨_, rfl, ?_⟩; have n0 := aM_ (bS_ HO349.out hb); have n1 := aM_ (bS_ HO352.out hb); have n2 := aM_ (bR_ HO355.out hb); have n3 := aM_ (bR_ HO358.out hb); have n4 := aM_ (nB_ BK345.out hb); have n5 := aM_ (sT_ HB.out hb); clear HO349; clear HO352; clear HO355; clear HO358; clear BK345; clear HB; have HO349 := n0; have HO352 := n1; have HO355 := n2; have HO358 := n3; have BK345 := n4; have HB := n5; clear n0 n1 n2 n3 n4 n5; obtain ⟨hcz45_0, hcz45_1, hcz45_2, hcz45_3, hfz45_0, hfz45_1, hfz45_2, hfz45_3⟩ := bR4_ BK345.out) | ((with_reducible refine gate_callee (f := 23) rfl ?_); refine gL_ (some 16) Try.func23 #[.agg #[.slice A0_0 l0_0.length c0_0, .slice A0_1 l0_1.length c0_1, .slice A0_2 l0_2.length c0_2, .slice A0_3 l0_3.length c0_3]] ?_; (with_reducible refine (laws_toMachine.calls k _ _ l0_0 _ _ l0_1 _ _ l0_2 _ _ l0_3 t360 t363 t366 t369 _ ?side1 ?side2 ?side3 ?side4 ?side5 ?side6 ?side7 ?side8 A9.out).mono ?_); (case side1 => exact cS_ (Kd.C_below HR0_0.out HB.out)); (case side2 => exact HC0_0.out); (case side3 => exact cS_ (Kd.C_below HR0_1.out HB.out)); (case side4 => exact HC0_1.out); (case side5 => exact cS_ (Kd.C_below HR0_2.out HB.out)); (case side6 => exact HC0_2.out); (case side7 => exact cS_ (Kd.C_below HR0_3.out HB.out)); (case side8 => exact HC0_3.out); rintro e w46 ⟨v361, v364, v367, v370, rfl, ho0, ho1, ho2, ho3, hb⟩; refine ⟨_, rfl, ?_⟩; have n0 := aM_ (Kd.S_elder' (by (with_reducible repeat (first | apply Kd.S_alloc | apply Kd.S_drewN | apply Kd.S_drew)); exact HO349.out) (Kd.S_base ho0) hb); have n1 := aM_ (Kd.S_elder' (by (with_reducible repeat (first | apply Kd.S_alloc | apply Kd.S_drewN | apply Kd.S_drew)); exact HO352.out) (Kd.S_base ho1) hb); have n2 := aM_ (Kd.R_elder' (by (with_reducible repeat (first | apply rA_ | apply rN_ | apply rD_)); exact HO355.out) (Kd.R_base ho2) hb); have n3 := aM_ (Kd.R_elder' (by (with_reducible repeat (first | apply rA_ | apply rN_ | apply rD_)); exact HO358.out) (Kd.R_base ho3) hb); have n4 := aM_ (Kd.S_lower (Kd.S_new' ho0 (Kd.S_lt (by (with_reducible repeat (first | apply Kd.S_alloc | apply Kd.S_drewN | apply Kd.S_drew)); exact HO349.out))) (below_size (by repeat (first | (with_reducible first | exact HB.out | apply hA_ | apply hN_ | apply hD_ | refine below_set ?_ GE345.out) | exact HB.out)))); have n5 := aM_ (Kd.S_lower (Kd.S_new' ho1 (Kd.S_lt (by (with_reducible repeat (first | apply Kd.S_alloc | apply Kd.S_drewN | apply Kd.S_drew)); exact HO352.out))) (below_size (by repeat (first | (with_reducible first | exact HB.out | apply hA_ | apply hN_ | apply hD_ | refine below_set ?_ GE345.out) | exact HB.out)))); have n6 := aM_ (Kd.R_lower (Kd.R_new' ho2 (Kd.R_lt (by (with_reducible repeat (first | apply rA_ | apply rN_ | apply rD_)); exact HO355.out))) (below_size (by repeat (first | (with_reducible first | exact HB.out | apply hA_ | apply hN_ | apply hD_ | refine below_set ?_ GE345.out) | exact HB.out)))); have n7 := aM_ (Kd.R_lower (Kd.R_new' ho3 (Kd.R_lt (by (with_reducible repeat (first | apply rA_ | apply rN_ | apply rD_)); exact HO358.out))) (below_size (by repeat (first | (with_reducible first | exact HB.out | apply hA_ | apply hN_ | apply hD_ | refine below_set ?_ GE345.out) | exact HB.out)))); have n8 := aM_ (nB_ BK345.out hb); have n9 := aM_ (sT_ HB.out hb); clear HO349; clear HO352; clear HO355; clear HO358; clear BK345; clear HB; have HO349 := n0; have HO352 := n1; have HO355 := n2; have HO358 := n3; have HO362 := n4; have HO365 := n5; have HO368 := n6; have HO371 := n7; have BK345 := n8; have HB := n9; clear n0 n1 n2 n3 n4 n5 n6 n7 n8 n9; (try clear ho0); (try clear ho1); (try clear ho2); (try clear ho3)) | ((with_reducible refine gate_dst (N := 5) rfl ?_); refine bX_ 5 (cs := #[.slice none 0 0, .slice none 0 0, .slice none 0 0, .slice none 0 0]) (t := 69) ?_; intro gb372 hg w47 hbox hb; have n0 := aM_ (bS_ HO349.out hb); have n1 := aM_ (bS_ HO352.out hb); have n2 := aM_ (bR_ HO355.out hb); have n3 := aM_ (bR_ HO358.out hb); have n4 := aM_ (bS_ HO362.out hb); have n5 := aM_ (bS_ HO365.out hb); have n6 := aM_ (bR_ HO368.out hb); have n7 := aM_ (bR_ HO371.out hb); have n8 := aM_ (nB_ BK345.out hb); have n9 := aM_ (sT_ HB.out hb); have n10 := aM_ (hbox); have n11 := aM_ (sZ_ hg HB.out); have n12 := aM_ (sZ_ hg HB.out); have n13 := aM_ (nL_ hg BK345.out); have n14 := aM_ (nG_ hg BK345.out); clear HO349; clear HO352; clear HO355; clear HO358; clear HO362; clear HO365; clear HO368; clear HO371; clear BK345; clear HB; have HO349 := n0; have HO352 := n1; have HO355 := n2; have HO358 := n3; have HO362 := n4; have HO365 := n5; have HO368 := n6; have HO371 := n7; have BK345 := n8; have HB := n9; have BK372 := n10; have GW372 := n11; have GE372 := n12; have NB345_372 := n13; have NB372_345 := n14; clear n0 n1 n2 n3 n4 n5 n6 n7 n8 n9 n10 n11 n12 n13 n14; clear hb hbox hg; obtain ⟨Ao48, co48, eo48⟩ := Kd.S_slice HO362.out; subst eo48; have hnb49 := NB372_345.out; have hnc49 := NB345_372.out; obtain ⟨hcz50_0, hcz50_1, hcz50_2, hcz50_3, hfz50_0, hfz50_1, hfz50_2, hfz50_3⟩ := bR4_ BK372.out; obtain ⟨Ao51, co51, eo51⟩ := Kd.S_slice HO365.out; subst eo51; obtain ⟨Ao52, co52, eo52⟩ := Kd.R_slice HO368.out; subst eo52; obtain ⟨Ao53, co53, eo53⟩ := Kd.R_slice HO371.out; subst eo53) | ((with_reducible refine gate_callee (f := 24) rfl ?_); refine gL_ (some 18) Try.func24 #[.agg #[.slice Ao48 t360.length co48, .slice Ao51 t363.length co51, .slice Ao52 t366.length co52, .slice Ao53 t369.length co53]] ?_; (with_reducible refine (impl_MachineOk.calls k _ _ t360 _ _ t363 _ _ t366 _ _ t369 t373 _ ?side1 ?side2 ?side3 ?side4 ?side5 ?side6 ?side7 ?side8 A10.out).mono ?_); (case side1 => refine (Kd.S_reads' (e := 108) (base := w.heap.size) (ok := fun k_ => (True ∧ some k_ ≠ (.slice Ao40 t347.length co40 : Value).ownBlock)) (n := t360.length) (c := co48) ?_).2.2; exact (by (with_reducible repeat (first | apply Kd.S_alloc | apply Kd.S_drewN | apply Kd.S_drew)); exact (Kd.S_mono (Kd.S_far (p := ⟨gb372, 3, none⟩) (Kd.S_far (p := ⟨gb372, 2, none⟩) (Kd.S_far (p := ⟨gb372, 1, none⟩) (Kd.S_far (p := ⟨gb372, 0, none⟩) (Kd.S_types HO362.out BK372.out (by decide)) (fun _ hk => hk.2) (.slice Ao48 t360.length co48)) (fun _ hk => hk.2) (.slice Ao51 t363.length co51)) (fun _ hk => hk.2) (.slice Ao52 t366.length co52)) (fun _ hk => hk.2) (.slice Ao53 t369.length co53)) (fun _ h_ => h_.1)))); (case side2 => exact (Kd.S_reads' HO362.out).2.1); (case side3 => refine (Kd.S_reads' (e := 106) (base := w.heap.size) (ok := fun k_ => (True ∧ some k_ ≠ (.slice Ao41 t350.length co41 : Value).ownBlock)) (n := t363.length) (c := co51) ?_).2.2; exact (by (with_reducible repeat (first | apply Kd.S_alloc | apply Kd.S_drewN | apply Kd.S_drew)); exact (Kd.S_mono (Kd.S_far (p := ⟨gb372, 3, none⟩) (Kd.S_far (p := ⟨gb372, 2, none⟩) (Kd.S_far (p := ⟨gb372, 1, none⟩) (Kd.S_far (p := ⟨gb372, 0, none⟩) (Kd.S_types HO365.out BK372.out (by decide)) (fun _ hk => hk.2) (.slice Ao48 t360.length co48)) (fun _ hk => hk.2) (.slice Ao51 t363.length co51)) (fun _ hk => hk.2) (.slice Ao52 t366.length co52)) (fun _ hk => hk.2) (.slice Ao53 t369.length co53)) (fun _ h_ => h_.1)))); (case side4 => exact (Kd.S_reads' HO365.out).2.1); (case side5 => refine (Kd.R_reads' (e := 117) (base := w.heap.size) (ok := fun k_ => (True ∧ some k_ ≠ (.slice Ao42 t353.length co42 : Value).ownBlock)) (n := t366.length) (c := co52) ?_).2.2; exact (by (with_reducible repeat (first | apply rA_ | apply rN_ | apply rD_)); exact (Kd.R_mono (Kd.R_far (p := ⟨gb372, 3, none⟩) (Kd.R_far (p := ⟨gb372, 2, none⟩) (Kd.R_far (p := ⟨gb372, 1, none⟩) (Kd.R_far (p := ⟨gb372, 0, none⟩) (Kd.R_types HO368.out BK372.out (by decide)) (fun _ hk => hk.2) (.slice Ao48 t360.length co48)) (fun _ hk => hk.2) (.slice Ao51 t363.length co51)) (fun _ hk => hk.2) (.slice Ao52 t366.length co52)) (fun _ hk => hk.2) (.slice Ao53 t369.length co53)) (fun _ h_ => h_.1)))); (case side6 => exact (Kd.R_reads' HO368.out).2.1); (case side7 => refine (Kd.R_reads' (e := 93) (base := w.heap.size) (ok := fun k_ => (True ∧ some k_ ≠ (.slice Ao43 t356.length co43 : Value).ownBlock)) (n := t369.length) (c := co53) ?_).2.2; exact (by (with_reducible repeat (first | apply rA_ | apply rN_ | apply rD_)); exact (Kd.R_mono (Kd.R_far (p := ⟨gb372, 3, none⟩) (Kd.R_far (p := ⟨gb372, 2, none⟩) (Kd.R_far (p := ⟨gb372, 1, none⟩) (Kd.R_far (p := ⟨gb372, 0, none⟩) (Kd.R_types HO371.out BK372.out (by decide)) (fun _ hk => hk.2) (.slice Ao48 t360.length co48)) (fun _ hk => hk.2) (.slice Ao51 t363.length co51)) (fun _ hk => hk.2) (.slice Ao52 t366.length co52)) (fun _ hk => hk.2) (.slice Ao53 t369.length co53)) (fun _ h_ => h_.1)))); (case side8 => exact (Kd.R_reads' HO371.out).2.1); rintro e w54 ⟨rfl, hb⟩; refine ⟨_, rfl, ?_⟩; have n0 := aM_ (Kd.S_below (by (with_reducible repeat (first | apply Kd.S_alloc | apply Kd.S_drewN | apply Kd.S_drew)); exact (Kd.S_mono (Kd.S_far (p := ⟨gb372, 3, none⟩) (Kd.S_far (p := ⟨gb372, 2, none⟩) (Kd.S_far (p := ⟨gb372, 1, none⟩) (Kd.S_far (p := ⟨gb372, 0, none⟩) (Kd.S_types HO349.out BK372.out (by decide)) (fun _ hk => hk.2) (.slice Ao48 t360.length co48)) (fun _ hk => hk.2) (.slice Ao51 t363.length co51)) (fun _ hk => hk.2) (.slice Ao52 t366.length co52)) (fun _ hk => hk.2) (.slice Ao53 t369.length co53)) (fun _ h_ => h_.1))) hb); have n1 := aM_ (Kd.S_below (by (with_reducible repeat (first | apply Kd.S_alloc | apply Kd.S_drewN | apply Kd.S_drew)); exact (Kd.S_mono (Kd.S_far (p := ⟨gb372, 3, none⟩) (Kd.S_far (p := ⟨gb372, 2, none⟩) (Kd.S_far (p := ⟨gb372, 1, none⟩) (Kd.S_far (p := ⟨gb372, 0, none⟩) (Kd.S_types HO352.out BK372.out (by decide)) (fun _ hk => hk.2) (.slice Ao48 t360.length co48)) (fun _ hk => hk.2) (.slice Ao51 t363.length co51)) (fun _ hk => hk.2) (.slice Ao52 t366.length co52)) (fun _ hk => hk.2) (.slice Ao53 t369.length co53)) (fun _ h_ => h_.1))) hb); have n2 := aM_ (Kd.R_below (by (with_reducible repeat (first | apply rA_ | apply rN_ | apply rD_)); exact (Kd.R_mono (Kd.R_far (p := ⟨gb372, 3, none⟩) (Kd.R_far (p := ⟨gb372, 2, none⟩) (Kd.R_far (p := ⟨gb372, 1, none⟩) (Kd.R_far (p := ⟨gb372, 0, none⟩) (Kd.R_types HO355.out BK372.out (by decide)) (fun _ hk => hk.2) (.slice Ao48 t360.length co48)) (fun _ hk => hk.2) (.slice Ao51 t363.length co51)) (fun _ hk => hk.2) (.slice Ao52 t366.length co52)) (fun _ hk => hk.2) (.slice Ao53 t369.length co53)) (fun _ h_ => h_.1))) hb); have n3 := aM_ (Kd.R_below (by (with_reducible repeat (first | apply rA_ | apply rN_ | apply rD_)); exact (Kd.R_mono (Kd.R_far (p := ⟨gb372, 3, none⟩) (Kd.R_far (p := ⟨gb372, 2, none⟩) (Kd.R_far (p := ⟨gb372, 1, none⟩) (Kd.R_far (p := ⟨gb372, 0, none⟩) (Kd.R_types HO358.out BK372.out (by decide)) (fun _ hk => hk.2) (.slice Ao48 t360.length co48)) (fun _ hk => hk.2) (.slice Ao51 t363.length co51)) (fun _ hk => hk.2) (.slice Ao52 t366.length co52)) (fun _ hk => hk.2) (.slice Ao53 t369.length co53)) (fun _ h_ => h_.1))) hb); have n4 := aM_ (Kd.S_below (by (with_reducible repeat (first | apply Kd.S_alloc | apply Kd.S_drewN | apply Kd.S_drew)); exact (Kd.S_mono (Kd.S_far (p := ⟨gb372, 3, none⟩) (Kd.S_far (p := ⟨gb372, 2, none⟩) (Kd.S_far (p := ⟨gb372, 1, none⟩) (Kd.S_far (p := ⟨gb372, 0, none⟩) (Kd.S_types HO362.out BK372.out (by decide)) (fun _ hk => hk.2) (.slice Ao48 t360.length co48)) (fun _ hk => hk.2) (.slice Ao51 t363.length co51)) (fun _ hk => hk.2) (.slice Ao52 t366.length co52)) (fun _ hk => hk.2) (.slice Ao53 t369.length co53)) (fun _ h_ => h_.1))) hb); have n5 := aM_ (Kd.S_below (by (with_reducible repeat (first | apply Kd.S_alloc | apply Kd.S_drewN | apply Kd.S_drew)); exact (Kd.S_mono (Kd.S_far (p := ⟨gb372, 3, none⟩) (Kd.S_far (p := ⟨gb372, 2, none⟩) (Kd.S_far (p := ⟨gb372, 1, none⟩) (Kd.S_far (p := ⟨gb372, 0, none⟩) (Kd.S_types HO365.out BK372.out (by decide)) (fun _ hk => hk.2) (.slice Ao48 t360.length co48)) (fun _ hk => hk.2) (.slice Ao51 t363.length co51)) (fun _ hk => hk.2) (.slice Ao52 t366.length co52)) (fun _ hk => hk.2) (.slice Ao53 t369.length co53)) (fun _ h_ => h_.1))) hb); have n6 := aM_ (Kd.R_below (by (with_reducible repeat (first | apply rA_ | apply rN_ | apply rD_)); exact (Kd.R_mono (Kd.R_far (p := ⟨gb372, 3, none⟩) (Kd.R_far (p := ⟨gb372, 2, none⟩) (Kd.R_far (p := ⟨gb372, 1, none⟩) (Kd.R_far (p := ⟨gb372, 0, none⟩) (Kd.R_types HO368.out BK372.out (by decide)) (fun _ hk => hk.2) (.slice Ao48 t360.length co48)) (fun _ hk => hk.2) (.slice Ao51 t363.length co51)) (fun _ hk => hk.2) (.slice Ao52 t366.length co52)) (fun _ hk => hk.2) (.slice Ao53 t369.length co53)) (fun _ h_ => h_.1))) hb); have n7 := aM_ (Kd.R_below (by (with_reducible repeat (first | apply rA_ | apply rN_ | apply rD_)); exact (Kd.R_mono (Kd.R_far (p := ⟨gb372, 3, none⟩) (Kd.R_far (p := ⟨gb372, 2, none⟩) (Kd.R_far (p := ⟨gb372, 1, none⟩) (Kd.R_far (p := ⟨gb372, 0, none⟩) (Kd.R_types HO371.out BK372.out (by decide)) (fun _ hk => hk.2) (.slice Ao48 t360.length co48)) (fun _ hk => hk.2) (.slice Ao51 t363.length co51)) (fun _ hk => hk.2) (.slice Ao52 t366.length co52)) (fun _ hk => hk.2) (.slice Ao53 t369.length co53)) (fun _ h_ => h_.1))) hb); have n8 := aM_ (blk_below (g := gb345) (o := .cells #[.slice A0_0 l0_0.length c0_0, .slice A0_1 l0_1.length c0_1, .slice A0_2 l0_2.length c0_2, .slice A0_3 l0_3.length c0_3] 63 (0, 0)) (by (with_reducible repeat (first | refine bN_ ?_ _ | refine bD_ ?_ | refine bA_ ?_ _)); refine blk_far ?_ NB345_372.out _; (with_reducible repeat (first | refine bN_ ?_ _ | refine bD_ ?_ | refine bA_ ?_ _)); refine blk_far ?_ NB345_372.out _; (with_reducible repeat (first | refine bN_ ?_ _ | refine bD_ ?_ | refine bA_ ?_ _)); refine blk_far ?_ NB345_372.out _; (with_reducible repeat (first | refine bN_ ?_ _ | refine bD_ ?_ | refine bA_ ?_ _)); refine blk_far ?_ NB345_372.out _; (with_reducible repeat (first | refine bN_ ?_ _ | refine bD_ ?_ | refine bA_ ?_ _)); exact BK345.out) hb); have n9 := aM_ (blk_below (g := gb372) (o := .cells #[.slice Ao48 t360.length co48, .slice Ao51 t363.length co51, .slice Ao52 t366.length co52, .slice Ao53 t369.length co53] 69 (0, 0)) (by (with_reducible repeat (first | refine bN_ ?_ _ | refine bD_ ?_ | refine bA_ ?_ _)); refine blk_put (cs := #[.slice Ao48 t360.length co48, .slice Ao51 t363.length co51, .slice Ao52 t366.length co52, .slice none 0 0]) ?_ 3 _ rfl; (with_reducible repeat (first | refine bN_ ?_ _ | refine bD_ ?_ | refine bA_ ?_ _)); refine blk_put (cs := #[.slice Ao48 t360.length co48, .slice Ao51 t363.length co51, .slice none 0 0, .slice none 0 0]) ?_ 2 _ rfl; (with_reducible repeat (first | refine bN_ ?_ _ | refine bD_ ?_ | refine bA_ ?_ _)); refine blk_put (cs := #[.slice Ao48 t360.length co48, .slice none 0 0, .slice none 0 0, .slice none 0 0]) ?_ 1 _ rfl; (with_reducible repeat (first | refine bN_ ?_ _ | refine bD_ ?_ | refine bA_ ?_ _)); refine blk_put (cs := #[.slice none 0 0, .slice none 0 0, .slice none 0 0, .slice none 0 0]) ?_ 0 _ rfl; (with_reducible repeat (first | refine bN_ ?_ _ | refine bD_ ?_ | refine bA_ ?_ _)); exact BK372.out) hb); have n10 := aM_ (sT_ HB.out hb); clear HO349; clear HO352; clear HO355; clear HO358; clear HO362; clear HO365; clear HO368; clear HO371; clear BK345; clear BK372; clear HB; have HO349 := n0; have HO352 := n1; have HO355 := n2; have HO358 := n3; have HO362 := n4; have HO365 := n5; have HO368 := n6; have HO371 := n7; have BK345 := n8; have BK372 := n9; have HB := n10; clear n0 n1 n2 n3 n4 n5 n6 n7 n8 n9 n10))
    have n0 := aM_ (Kd.S_drew HO349.out)
    have n1 := aM_ (Kd.S_drew HO352.out)
    have n2 := aM_ (Kd.R_drew HO355.out)
    have n3 := aM_ (Kd.R_drew HO358.out)
    have n4 := aM_ (Kd.S_drew HO362.out)
    have n5 := aM_ (Kd.S_drew HO365.out)
    have n6 := aM_ (Kd.R_drew HO368.out)
    have n7 := aM_ (Kd.R_drew HO371.out)
    have n8 := aM_ (blk_drew BK345.out)
    have n9 := aM_ (blk_drew BK372.out)
    have n10 := aM_ (below_drew1 HB.out)
    clear HO349
    clear HO352
    clear HO355
    clear HO358
    clear HO362
    clear HO365
    clear HO368
    clear HO371
    clear BK345
    clear BK372
    clear HB
    have HO349 := n0
    have HO352 := n1
    have HO355 := n2
    have HO358 := n3
    have HO362 := n4
    have HO365 := n5
    have HO368 := n6
    have HO371 := n7
    have BK345 := n8
    have BK372 := n9
    have HB := n10
    clear n0 n1 n2 n3 n4 n5 n6 n7 n8 n9 n10
    refine start_ (n := 5) (S := fun w' => w'.cell? ⟨gb372, 0, none⟩ = some (.slice Ao48 t360.length co48) ∧ w'.cell? ⟨gb372, 1, none⟩ = some (.slice Ao51 t363.length co51) ∧ w'.cell? ⟨gb372, 2, none⟩ = some (.slice Ao52 t366.length co52) ∧ w'.cell? ⟨gb372, 3, none⟩ = some (.slice Ao53 t369.length co53) ∧ w'.cell? ⟨gb345, 0, none⟩ = some (.slice A0_0 l0_0.length c0_0) ∧ w'.cell? ⟨gb345, 1, none⟩ = some (.slice A0_1 l0_1.length c0_1) ∧ w'.cell? ⟨gb345, 2, none⟩ = some (.slice A0_2 l0_2.length c0_2) ∧ w'.cell? ⟨gb345, 3, none⟩ = some (.slice A0_3 l0_3.length c0_3)) (ds := []) (mk_ 5 0) (by kernel_rfl) rfl rfl ⟨(blk_cell BK372.out 0).trans rfl, (blk_cell BK372.out 1).trans rfl, (blk_cell BK372.out 2).trans rfl, (blk_cell BK372.out 3).trans rfl, (blk_cell BK345.out 0).trans rfl, (blk_cell BK345.out 1).trans rfl, (blk_cell BK345.out 2).trans rfl, (blk_cell BK345.out 3).trans rfl⟩ (fun hHeld => ?_)
    generalize w54.drew = w55 at HO349 HO352 HO355 HO358 HO362 HO365 HO368 HO371 BK345 BK372 HB hHeld ⊢
    refine tK8_ 0 (some 22) (mk_ 5 1) ?_
    refine tK8_ 1 (some 23) (mk_ 5 3) ?_
    refine oN_ 2 (some 24) (mk_ 5 7) (fun K hK => ?_)
    refine gO_ Try.func23 #[.agg #[.slice A0_0 l0_0.length c0_0, .slice A0_1 l0_1.length c0_1, .slice A0_2 l0_2.length c0_2, .slice A0_3 l0_3.length c0_3]] ?_
    with_reducible refine (laws_toMachine.calls k _ _ l0_0 _ _ l0_1 _ _ l0_2 _ _ l0_3 t374 t377 t380 t383 _ ?side1 ?side2 ?side3 ?side4 ?side5 ?side6 ?side7 ?side8 A32.out).mono ?_
    (case side1 => exact cS_ (Kd.C_below HR0_0.out HB.out))
    (case side2 => exact HC0_0.out)
    (case side3 => exact cS_ (Kd.C_below HR0_1.out HB.out))
    (case side4 => exact HC0_1.out)
    (case side5 => exact cS_ (Kd.C_below HR0_2.out HB.out))
    (case side6 => exact HC0_2.out)
    (case side7 => exact cS_ (Kd.C_below HR0_3.out HB.out))
    (case side8 => exact HC0_3.out)
    rintro e w56 ⟨v375, v378, v381, v384, rfl, ho0, ho1, ho2, ho3, hb⟩
    refine ⟨_, rfl, ?_⟩
    have n0 := aM_ (Kd.S_elder' (by (with_reducible repeat (first | apply Kd.S_alloc | apply Kd.S_drewN | apply Kd.S_drew)); exact HO349.out) (Kd.S_base ho0) hb)
    have n1 := aM_ (Kd.S_elder' (by (with_reducible repeat (first | apply Kd.S_alloc | apply Kd.S_drewN | apply Kd.S_drew)); exact HO352.out) (Kd.S_base ho1) hb)
    have n2 := aM_ (Kd.R_elder' (by (with_reducible repeat (first | apply rA_ | apply rN_ | apply rD_)); exact HO355.out) (Kd.R_base ho2) hb)
    have n3 := aM_ (Kd.R_elder' (by (with_reducible repeat (first | apply rA_ | apply rN_ | apply rD_)); exact HO358.out) (Kd.R_base ho3) hb)
    have n4 := aM_ (Kd.S_elder' (by (with_reducible repeat (first | apply Kd.S_alloc | apply Kd.S_drewN | apply Kd.S_drew)); exact HO362.out) (Kd.S_base ho0) hb)
    have n5 := aM_ (Kd.S_elder' (by (with_reducible repeat (first | apply Kd.S_alloc | apply Kd.S_drewN | apply Kd.S_drew)); exact HO365.out) (Kd.S_base ho1) hb)
    have n6 := aM_ (Kd.R_elder' (by (with_reducible repeat (first | apply rA_ | apply rN_ | apply rD_)); exact HO368.out) (Kd.R_base ho2) hb)
    have n7 := aM_ (Kd.R_elder' (by (with_reducible repeat (first | apply rA_ | apply rN_ | apply rD_)); exact HO371.out) (Kd.R_base ho3) hb)
    have n8 := aM_ (Kd.S_lower (Kd.S_new' (Kd.S_new' ho0 (Kd.S_lt (by (with_reducible repeat (first | apply Kd.S_alloc | apply Kd.S_drewN | apply Kd.S_drew)); exact HO349.out))) (Kd.S_lt (by (with_reducible repeat (first | apply Kd.S_alloc | apply Kd.S_drewN | apply Kd.S_drew)); exact HO362.out))) (below_size (by repeat (first | (with_reducible first | exact HB.out | apply hA_ | apply hN_ | apply hD_ | refine below_set ?_ GE345.out | refine below_set ?_ GE372.out) | exact HB.out))))
    have n9 := aM_ (Kd.S_lower (Kd.S_new' (Kd.S_new' ho1 (Kd.S_lt (by (with_reducible repeat (first | apply Kd.S_alloc | apply Kd.S_drewN | apply Kd.S_drew)); exact HO352.out))) (Kd.S_lt (by (with_reducible repeat (first | apply Kd.S_alloc | apply Kd.S_drewN | apply Kd.S_drew)); exact HO365.out))) (below_size (by repeat (first | (with_reducible first | exact HB.out | apply hA_ | apply hN_ | apply hD_ | refine below_set ?_ GE345.out | refine below_set ?_ GE372.out) | exact HB.out))))
    have n10 := aM_ (Kd.R_lower (Kd.R_new' (Kd.R_new' ho2 (Kd.R_lt (by (with_reducible repeat (first | apply rA_ | apply rN_ | apply rD_)); exact HO355.out))) (Kd.R_lt (by (with_reducible repeat (first | apply rA_ | apply rN_ | apply rD_)); exact HO368.out))) (below_size (by repeat (first | (with_reducible first | exact HB.out | apply hA_ | apply hN_ | apply hD_ | refine below_set ?_ GE345.out | refine below_set ?_ GE372.out) | exact HB.out))))
    have n11 := aM_ (Kd.R_lower (Kd.R_new' (Kd.R_new' ho3 (Kd.R_lt (by (with_reducible repeat (first | apply rA_ | apply rN_ | apply rD_)); exact HO358.out))) (Kd.R_lt (by (with_reducible repeat (first | apply rA_ | apply rN_ | apply rD_)); exact HO371.out))) (below_size (by repeat (first | (with_reducible first | exact HB.out | apply hA_ | apply hN_ | apply hD_ | refine below_set ?_ GE345.out | refine below_set ?_ GE372.out) | exact HB.out))))
    have n12 := aM_ (nB_ BK345.out hb)
    have n13 := aM_ (nB_ BK372.out hb)
    have n14 := aM_ (sT_ HB.out hb)
    clear HO349
    clear HO352
    clear HO355
    clear HO358
    clear HO362
    clear HO365
    clear HO368
    clear HO371
    clear BK345
    clear BK372
    clear HB
    have HO349 := n0
    have HO352 := n1
    have HO355 := n2
    have HO358 := n3
    have HO362 := n4
    have HO365 := n5
    have HO368 := n6
    have HO371 := n7
    have HO376 := n8
    have HO379 := n9
    have HO382 := n10
    have HO385 := n11
    have BK345 := n12
    have BK372 := n13
    have HB := n14
    clear n0 n1 n2 n3 n4 n5 n6 n7 n8 n9 n10 n11 n12 n13 n14
    (try clear hb)
    (try clear hb2)
    (try clear hk)
    (try clear hi)
    (try clear ho0)
    (try clear ho1)
    (try clear ho2)
    (try clear ho3)
    obtain ⟨Ao57, co57, eo57⟩ := Kd.S_slice HO376.out
    (first | subst eo57 | (injection eo57 with f1_ f2_ f3_; have f4_ := f1_.symm; have f5_ := f3_.symm; clear f1_ f2_ f3_; subst f4_; subst f5_))
    obtain ⟨Ao58, co58, eo58⟩ := Kd.S_slice HO379.out
    (first | subst eo58 | (injection eo58 with f1_ f2_ f3_; have f4_ := f1_.symm; have f5_ := f3_.symm; clear f1_ f2_ f3_; subst f4_; subst f5_))
    obtain ⟨Ao59, co59, eo59⟩ := Kd.R_slice HO382.out
    (first | subst eo59 | (injection eo59 with f1_ f2_ f3_; have f4_ := f1_.symm; have f5_ := f3_.symm; clear f1_ f2_ f3_; subst f4_; subst f5_))
    obtain ⟨Ao60, co60, eo60⟩ := Kd.R_slice HO385.out
    (first | subst eo60 | (injection eo60 with f1_ f2_ f3_; have f4_ := f1_.symm; have f5_ := f3_.symm; clear f1_ f2_ f3_; subst f4_; subst f5_))
    refine hK.out _ _ ⟨(blk_cell BK372.out 0).trans rfl, (blk_cell BK372.out 1).trans rfl, (blk_cell BK372.out 2).trans rfl, (blk_cell BK372.out 3).trans rfl, (blk_cell BK345.out 0).trans rfl, (blk_cell BK345.out 1).trans rfl, (blk_cell BK345.out 2).trans rfl, (blk_cell BK345.out 3).trans rfl⟩ (fun hHeld => ?_)
    clear hK K
    refine norm_ (a' := ?_) ?_ ?_
    rotate_left
    ·show Act.put _ (some 24) _ = _
     simp only [pt_, pn_, sI_, s0_, s1_, i64_w, i32_w]
     rfl
    refine oN_ 3 (some 25) (mk_ 5 15) (fun K hK => ?_)
    refine gO_ Try.func25 #[.agg #[.slice Ao48 t360.length co48, .slice Ao51 t363.length co51, .slice Ao52 t366.length co52, .slice Ao53 t369.length co53], .agg #[.slice Ao57 t374.length co57, .slice Ao58 t377.length co58, .slice Ao59 t380.length co59, .slice Ao60 t383.length co60]] ?_
    with_reducible refine (laws_eqMachine.calls k _ _ t360 _ _ t363 _ _ t366 _ _ t369 _ _ t374 _ _ t377 _ _ t380 _ _ t383 true _ ?side1 ?side2 ?side3 ?side4 ?side5 ?side6 ?side7 ?side8 ?side9 ?side10 ?side11 ?side12 ?side13 ?side14 ?side15 ?side16 A33.out).mono ?_
    (case side1 => exact cS_ (Kd.S_reads' HO362.out).2.2)
    (case side2 => exact (Kd.S_reads' HO362.out).2.1)
    (case side3 => exact cS_ (Kd.S_reads' HO365.out).2.2)
    (case side4 => exact (Kd.S_reads' HO365.out).2.1)
    (case side5 => exact cS_ (Kd.R_reads' HO368.out).2.2)
    (case side6 => exact (Kd.R_reads' HO368.out).2.1)
    (case side7 => exact cS_ (Kd.R_reads' HO371.out).2.2)
    (case side8 => exact (Kd.R_reads' HO371.out).2.1)
    (case side9 => exact cS_ (Kd.S_reads' HO376.out).2.2)
    (case side10 => exact (Kd.S_reads' HO376.out).2.1)
    (case side11 => exact cS_ (Kd.S_reads' HO379.out).2.2)
    (case side12 => exact (Kd.S_reads' HO379.out).2.1)
    (case side13 => exact cS_ (Kd.R_reads' HO382.out).2.2)
    (case side14 => exact (Kd.R_reads' HO382.out).2.1)
    (case side15 => exact cS_ (Kd.R_reads' HO385.out).2.2)
    (case side16 => exact (Kd.R_reads' HO385.out).2.1)
    rintro e w61 ⟨rfl, hb⟩
    refine ⟨_, rfl, ?_⟩
    have n0 := aM_ (bS_ HO349.out hb)
    have n1 := aM_ (bS_ HO352.out hb)
    have n2 := aM_ (bR_ HO355.out hb)
    have n3 := aM_ (bR_ HO358.out hb)
    have n4 := aM_ (bS_ HO362.out hb)
    have n5 := aM_ (bS_ HO365.out hb)
    have n6 := aM_ (bR_ HO368.out hb)
    have n7 := aM_ (bR_ HO371.out hb)
    have n8 := aM_ (bS_ HO376.out hb)
    have n9 := aM_ (bS_ HO379.out hb)
    have n10 := aM_ (bR_ HO382.out hb)
    have n11 := aM_ (bR_ HO385.out hb)
    have n12 := aM_ (nB_ BK345.out hb)
    have n13 := aM_ (nB_ BK372.out hb)
    have n14 := aM_ (sT_ HB.out hb)
    clear HO349
    clear HO352
    clear HO355
    clear HO358
    clear HO362
    clear HO365
    clear HO368
    clear HO371
    clear HO376
    clear HO379
    clear HO382
    clear HO385
    clear BK345
    clear BK372
    clear HB
    have HO349 := n0
    have HO352 := n1
    have HO355 := n2
    have HO358 := n3
    have HO362 := n4
    have HO365 := n5
    have HO368 := n6
    have HO371 := n7
    have HO376 := n8
    have HO379 := n9
    have HO382 := n10
    have HO385 := n11
    have BK345 := n12
    have BK372 := n13
    have HB := n14
    clear n0 n1 n2 n3 n4 n5 n6 n7 n8 n9 n10 n11 n12 n13 n14
    (try clear hb)
    (try clear hb2)
    (try clear hk)
    (try clear hi)
    refine hK.out _ _ ⟨(blk_cell BK372.out 0).trans rfl, (blk_cell BK372.out 1).trans rfl, (blk_cell BK372.out 2).trans rfl, (blk_cell BK372.out 3).trans rfl, (blk_cell BK345.out 0).trans rfl, (blk_cell BK345.out 1).trans rfl, (blk_cell BK345.out 2).trans rfl, (blk_cell BK345.out 3).trans rfl⟩ (fun hHeld => ?_)
    clear hK K
    refine norm_ (a' := ?_) ?_ ?_
    rotate_left
    ·show Act.put _ (some 25) _ = _
     simp only [pt_, pn_, sI_, s0_, s1_, i64_w, i32_w]
     rfl
    refine pU_ 4 (some 26) (mk_ 5 31) ?_
    refine done_ (by kernel_rfl) ?_
    try go_wp2
    go_ret
    exact fI_ HB.out
   ·replace c34 := Bool.eq_false_iff.mpr c34
    subst c34
    have H1 : (some false) = some r := by rw [if_neg (show ¬ (false = true) by decide)] at H; exact H
    exact absurd ((Option.some.inj H1).trans hr) (by decide)
end Go.Proofs.Ytfaoipojijhlbaa.PFnExactMachineOk
namespace Go.Proofs.Ytfaoipojijhlbaa.Lp
open Go.RowKit Go.Proofs.YtfaoipojijhlbaaW.PrintWords
set_option linter.unusedVariables false
set_option linter.unusedSimpArgs false
theorem wrapS {j n : Nat} (h : j < n) (hn : n ≤ 9223372036854775807) : wrap64 ((j : Int) + 1) = ((j + 1 : Nat) : Int) := by
  unfold wrap64; omega
theorem wrap_in {n : Int} (h0 : -9223372036854775808 ≤ n) (h1 : n ≤ 9223372036854775807) : wrap64 n = n := by
  unfold wrap64; omega
theorem rd_get {xs : List Int} {j : Nat} (h : j < xs.length) : rd xs (j : Int) = xs[j] := by simp [rd, List.getD_eq_getElem?_getD, h]
theorem count_up {ρ : Type} {L : Nat → Nat → Option ρ} {R : Nat → ρ} {n : Nat} (hend : Ev (L n) (R n)) (hstep : ∀ j, j < n → Ev (L (j + 1)) (R (j + 1)) → Ev (L j) (R j)) : ∀ j, j ≤ n → Ev (L j) (R j) := by
  have key : ∀ d j, j + d = n → Ev (L j) (R j) := by
    intro d
    induction d with
    | zero => intro j hj; obtain rfl : j = n := by omega
              exact hend
    | succ d ih => intro j hj; exact hstep j (by omega) (ih (j + 1) (by omega))
  exact fun j hj => key (n - j) j (by omega)
theorem Ev.one {α : Type} {g : Nat → Option α} {r : α} (h : ∀ k, g (k + 1) = some r) : Ev g r := ⟨1, fun k hk => by
  obtain ⟨m, rfl⟩ : ∃ m, k = m + 1 := ⟨k - 1, by omega⟩
  exact h m⟩
theorem Ev.all {α : Type} {g : Nat → Option α} {r : α} (h : ∀ k, g k = some r) : Ev g r := ⟨0, fun k _ => h k⟩
theorem fill_set {α : Type} (l : List α) (z : α) (j : Nat) (h : j < l.length) (x : α) (hx : x = l[j]) : (l.take j ++ List.replicate (l.length - j) z).set j x = l.take (j + 1) ++ List.replicate (l.length - (j + 1)) z := by
  subst hx
  rw [show l.length - j = (l.length - (j + 1)) + 1 by omega, List.replicate_succ, List.set_append_right _ _ (by simp; omega), List.length_take, show j - min j l.length = 0 by omega, List.set_cons_zero, List.take_succ_eq_append_getElem h, List.append_assoc]
  rfl
def agree {α : Type} [DecidableEq α] (a b : List α) (j : Nat) : Bool := decide (a.drop j = b.drop j)
theorem agree_step {α : Type} [DecidableEq α] {a b : List α} {j : Nat} (ha : j < a.length) (hb : j < b.length) (h : a[j] = b[j]) : agree a b j = agree a b (j + 1) := by
  unfold agree
  have e1 := List.drop_eq_getElem_cons ha
  have e2 := List.drop_eq_getElem_cons hb
  rw [decide_eq_decide, e1, e2, h, List.cons.injEq]
  exact ⟨fun c => c.2, fun c => ⟨rfl, c⟩⟩
theorem agree_no {α : Type} [DecidableEq α] {a b : List α} {j : Nat} (ha : j < a.length) (hb : j < b.length) (h : ¬ a[j] = b[j]) : agree a b j = false := by
  unfold agree
  have e1 := List.drop_eq_getElem_cons ha
  have e2 := List.drop_eq_getElem_cons hb
  rw [decide_eq_false_iff_not, e1, e2]
  intro c
  injection c with c1
  exact h c1
theorem agree_end {α : Type} [DecidableEq α] {a b : List α} (h : a.length = b.length) : agree a b a.length = true := by
  unfold agree
  simp [h]
def allFrom {α : Type} (p : α → Bool) (xs : List α) (j : Nat) : Bool := (xs.drop j).all p
theorem allFrom_step {α : Type} {p : α → Bool} {xs : List α} {j : Nat} (h : j < xs.length) : allFrom p xs j = (p xs[j] && allFrom p xs (j + 1)) := by
  unfold allFrom
  rw [List.drop_eq_getElem_cons h, List.all_cons]
theorem allFrom_end {α : Type} {p : α → Bool} (xs : List α) : allFrom p xs xs.length = true := by simp [allFrom]
theorem allFrom_zero {α : Type} (p : α → Bool) (xs : List α) : allFrom p xs 0 = xs.all p := rfl
def total {α : Type} (w : α → Nat) : List α → Nat
  | [] => 0
  | x :: xs => w x + total w xs
theorem total_drop {α : Type} (w : α → Nat) {xs : List α} {j : Nat} (h : j < xs.length) : total w (xs.drop j) = w xs[j] + total w (xs.drop (j + 1)) := by
  rw [List.drop_eq_getElem_cons h, total]
theorem total_mem {α : Type} (w : α → Nat) : ∀ {xs : List α} {x : α}, x ∈ xs → w x ≤ total w xs
  | y :: xs, x, h => by
    rcases List.mem_cons.1 h with rfl | h
    · rw [total]; omega
    · have := total_mem w h
      rw [total]; omega
def left? (t : Nat) (a : Int) : Int := if (t : Int) ≤ a then a - (t : Int) else -1
theorem sz_loop {α : Type} {L : Nat → Int → Nat → Option Int} (xs : List α) (w : α → Nat) (B : Int) (hend : ∀ a, Ev (L xs.length a) a)
    (hyes : ∀ j (h : j < xs.length) a, a ≤ B → (w xs[j] : Int) ≤ a → ∀ r, Ev (L (j + 1) (a - (w xs[j] : Int))) r → Ev (L j a) r)
    (hno : ∀ j (h : j < xs.length) a, 0 ≤ a → a ≤ B → a < (w xs[j] : Int) → Ev (L j a) (-1)) : ∀ a, 0 ≤ a → a ≤ B → Ev (L 0 a) (left? (total w xs) a) := by
  have key : ∀ d j, j + d = xs.length → ∀ a, 0 ≤ a → a ≤ B → Ev (L j a) (left? (total w (xs.drop j)) a) := by
    intro d
    induction d with
    | zero =>
      intro j hj a h0 hB
      obtain rfl : j = xs.length := by omega
      rw [List.drop_length, total, left?, if_pos (by omega), show a - ((0 : Nat) : Int) = a by omega]
      exact hend a
    | succ d ih =>
      intro j hj a h0 hB
      have h : j < xs.length := by omega
      rw [total_drop w h]
      by_cases hw : (w xs[j] : Int) ≤ a
      · refine hyes j h a hB hw _ ?_
        have := ih (j + 1) (by omega) (a - (w xs[j] : Int)) (by omega) (by omega)
        unfold left? at this ⊢
        by_cases c : (total w (xs.drop (j + 1)) : Int) ≤ a - (w xs[j] : Int)
        · rw [if_pos c] at this
          rw [if_pos (by omega), show a - ((w xs[j] + total w (xs.drop (j + 1)) : Nat) : Int) = a - (w xs[j] : Int) - (total w (xs.drop (j + 1)) : Int) by omega]
          exact this
        · rw [if_neg c] at this
          rw [if_neg (by omega)]
          exact this
      · rw [left?, if_neg (by omega)]
        exact hno j h a h0 hB (by omega)
  exact fun a h0 hB => by simpa using key xs.length 0 (by omega) a h0 hB
theorem left?_yes {t : Nat} {a : Int} (h : (t : Int) ≤ a) : left? t a = a - (t : Int) := if_pos h
theorem left?_no {t : Nat} {a : Int} (h : ¬ (t : Int) ≤ a) : left? t a = -1 := if_neg h
theorem left?_add {m t : Nat} {a : Int} (h : (m : Int) ≤ a) : left? t (a - (m : Int)) = left? (m + t) a := by
  unfold left?
  by_cases c : (t : Int) ≤ a - (m : Int)
  · rw [if_pos c, if_pos (by omega)]; omega
  · rw [if_neg c, if_neg (by omega)]
theorem Ev.val {α : Type} {g : Nat → Option α} {r r' : α} (h : r = r') (k : Ev g r) : Ev g r' := h ▸ k
theorem Ev.ite_pos {α : Type} {c : Prop} [Decidable c] {g f : Nat → Option α} {r : α} (h : c) (k : Ev g r) : Ev (fun n => if c then g n else f n) r := by simp only [if_pos h]; exact k
theorem Ev.ite_neg {α : Type} {c : Prop} [Decidable c] {g f : Nat → Option α} {r : α} (h : ¬ c) (k : Ev f r) : Ev (fun n => if c then g n else f n) r := by simp only [if_neg h]; exact k
theorem total_map {α β : Type} (w : α → Nat) (w' : β → Nat) (c : α → β) (h : ∀ x, w' (c x) = w x) : ∀ xs : List α, total w' (xs.map c) = total w xs
  | [] => rfl
  | x :: xs => by rw [List.map_cons, total, total, h, total_map w w' c h xs]
theorem to_loop {α β : Type} {L : Nat → List β → Nat → Option (List β)} (xs : List α) (c : α → β) (z : β) (hend : ∀ ys, ys.length = xs.length → Ev (L xs.length ys) ys)
    (hstep : ∀ j (h : j < xs.length) ys, ys.length = xs.length → ∀ r, Ev (L (j + 1) (ys.set j (c xs[j]))) r → Ev (L j ys) r) : Ev (L 0 (List.replicate xs.length z)) (xs.map c) := by
  have key : ∀ d j, j + d = xs.length → Ev (L j ((xs.map c).take j ++ List.replicate (xs.length - j) z)) (xs.map c) := by
    intro d
    induction d with
    | zero =>
      intro j hj
      obtain rfl : j = xs.length := by omega
      have := hend (xs.map c) (by simp)
      rw [Nat.sub_self, List.replicate_zero, List.append_nil, List.take_of_length_le (by simp)]
      exact this
    | succ d ih =>
      intro j hj
      have h : j < xs.length := by omega
      refine hstep j h _ (by simp; omega) _ ?_
      have h2 := fill_set (xs.map c) z j (by simpa using h) (c xs[j]) (by simp)
      rw [List.length_map] at h2
      rw [h2]
      exact ih (j + 1) (by omega)
  simpa using key xs.length 0 (by omega)
theorem yes_loop {ρ : Type} {L : Nat → Nat → Option ρ} (n : Nat) (r : ρ) (hend : Ev (L n) r) (hstep : ∀ j, j < n → Ev (L (j + 1)) r → Ev (L j) r) : Ev (L 0) r :=
  count_up (R := fun _ => r) hend hstep 0 (Nat.zero_le _)
theorem all_loop {α : Type} {L : Nat → Nat → Option Bool} (xs : List α) (p : α → Bool) {b : Bool} (hend : Ev (L xs.length) b) (hyes : ∀ j (h : j < xs.length), p xs[j] = true → ∀ r, Ev (L (j + 1)) r → Ev (L j) r) (hno : ∀ j (h : j < xs.length), p xs[j] = false → Ev (L j) false) : Ev (L 0) (xs.all p && b) := by
  have key : ∀ d j, j + d = xs.length → Ev (L j) (allFrom p xs j && b) := by
    intro d
    induction d with
    | zero =>
      intro j hj
      obtain rfl : j = xs.length := by omega
      rw [allFrom_end, Bool.true_and]
      exact hend
    | succ d ih =>
      intro j hj
      have h : j < xs.length := by omega
      rw [allFrom_step h]
      cases e : p xs[j] with
      | true => rw [Bool.true_and]; exact hyes j h e _ (ih (j + 1) (by omega))
      | false => rw [Bool.false_and, Bool.false_and]; exact hno j h e
  have := key xs.length 0 (by omega)
  rwa [allFrom_zero] at this
theorem yes_all {α ρ : Type} {L : Nat → Nat → Option ρ} {r : ρ} (xs : List α) (p : α → Bool) (h : xs.all p = true) (hend : Ev (L xs.length) r) (hyes : ∀ j (h : j < xs.length), p xs[j] = true → Ev (L (j + 1)) r → Ev (L j) r) : Ev (L 0) r :=
  yes_loop xs.length r hend (fun j hj ih => hyes j hj (List.all_eq_true.1 h _ (List.getElem_mem hj)) ih)
theorem no_all {α ρ : Type} {L : Nat → Nat → Option ρ} {r : ρ} (xs : List α) (p : α → Bool) (h : xs.all p = false) (hyes : ∀ j (h : j < xs.length), p xs[j] = true → Ev (L (j + 1)) r → Ev (L j) r) (hno : ∀ j (h : j < xs.length), p xs[j] = false → Ev (L j) r) : Ev (L 0) r := by
  have key : ∀ d j, j + d = xs.length → allFrom p xs j = false → Ev (L j) r := by
    intro d
    induction d with
    | zero =>
      intro j hj hf
      obtain rfl : j = xs.length := by omega
      rw [allFrom_end] at hf
      cases hf
    | succ d ih =>
      intro j hj hf
      have hlt : j < xs.length := by omega
      rw [allFrom_step hlt] at hf
      cases e : p xs[j] with
      | true => rw [e, Bool.true_and] at hf; exact hyes j hlt e (ih (j + 1) (by omega) hf)
      | false => exact hno j hlt e
  exact key xs.length 0 (by omega) (by rw [allFrom_zero]; exact h)
end Go.Proofs.Ytfaoipojijhlbaa.Lp
