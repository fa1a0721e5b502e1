/- A part of the proof that the law FnExactMachineNew holds for every input. -/
import Derived.Test.YtobachfngmpeiaaZFnExactMachineNewa15
import Derived.Test.YtobachfngmpeiaaZFnExactMachineNews
namespace Go.Proofs.Ytobachfngmpeiaa.PFnExactMachineNew
open Go.RowKit Go.Proofs.YtobachfngmpeiaaW.PrintWords Go.Proofs.YtobachfngmpeiaaW.PrintLast Go.Proofs.YtobachfngmpeiaaW.PrintMore
attribute [local go_sem] max2_int min2_int max_two min_two max_three min_three max_four min_four   -- for this text's walks alone
set_option linter.unusedVariables false
set_option linter.unusedSimpArgs false
def laws_eqMachine.f (k : Nat) (l0_0 : List (List (S175))) (l0_1 : List (S123)) (l0_2 : List (List (S170))) (l0_3 : List (S35)) (l1_0 : List (List (S175))) (l1_1 : List (S123)) (l1_2 : List (List (S170))) (l1_3 : List (S35)) : Option (Bool) := (laws_eqStepSS.f k l0_0 l1_0).bind fun t320 => (if t320 = true then ((laws_eqCoreS.f k l0_1 l1_1).bind fun t321 => (if t321 = true then ((laws_eqMemory.f k l0_2 l1_2).bind fun t322 => (if t322 = true then ((laws_eqNoteS.f k l0_3 l1_3).bind fun t323 => (if t323 = true then (some true) else (some false))) else (some false))) else (some false))) else (some false))
set_option maxHeartbeats 8000000 in
set_option maxRecDepth 100000 in
theorem laws_eqMachine.calls (k : Nat) (A0_0 : Option Addr) (c0_0 : Nat) (l0_0 : List (List (S175))) (A0_1 : Option Addr) (c0_1 : Nat) (l0_1 : List (S123)) (A0_2 : Option Addr) (c0_2 : Nat) (l0_2 : List (List (S170))) (A0_3 : Option Addr) (c0_3 : Nat) (l0_3 : List (S35)) (A1_0 : Option Addr) (c1_0 : Nat) (l1_0 : List (List (S175))) (A1_1 : Option Addr) (c1_1 : Nat) (l1_1 : List (S123)) (A1_2 : Option Addr) (c1_2 : Nat) (l1_2 : List (List (S170))) (A1_3 : Option Addr) (c1_3 : Nat) (l1_3 : List (S35)) (r : Bool) (w : World) (hr0_0 : Kd.C (Kd.slice 175 k175) w A0_0 l0_0.length l0_0) (hc0_0 : l0_0.length ≤ c0_0) (hr0_1 : Kd.C k123 w A0_1 l0_1.length l0_1) (hc0_1 : l0_1.length ≤ c0_1) (hr0_2 : Kd.C (Kd.slice 170 k170) w A0_2 l0_2.length l0_2) (hc0_2 : l0_2.length ≤ c0_2) (hr0_3 : Kd.C k35 w A0_3 l0_3.length l0_3) (hc0_3 : l0_3.length ≤ c0_3) (hr1_0 : Kd.C (Kd.slice 175 k175) w A1_0 l1_0.length l1_0) (hc1_0 : l1_0.length ≤ c1_0) (hr1_1 : Kd.C k123 w A1_1 l1_1.length l1_1) (hc1_1 : l1_1.length ≤ c1_1) (hr1_2 : Kd.C (Kd.slice 170 k170) w A1_2 l1_2.length l1_2) (hc1_2 : l1_2.length ≤ c1_2) (hr1_3 : Kd.C k35 w A1_3 l1_3.length l1_3) (hc1_3 : l1_3.length ≤ c1_3) (h : laws_eqMachine.f k l0_0 l0_1 l0_2 l0_3 l1_0 l1_1 l1_2 l1_3 = some r) :
  Calls Try.prog 28 #[.agg #[.slice A0_0 l0_0.length c0_0, .slice A0_1 l0_1.length c0_1, .slice A0_2 l0_2.length c0_2, .slice A0_3 l0_3.length c0_3], .agg #[.slice A1_0 l1_0.length c1_0, .slice A1_1 l1_1.length c1_1, .slice A1_2 l1_2.length c1_2, .slice A1_3 l1_3.length c1_3]] w fun e w' => e = .returned (.bool r) ∧ Below w.heap.size w w' := by
 have hu59 := Try.underlying59
 have hu57 := Try.underlying57
 have HR0_0 := aM_ hr0_0
 have HC0_0 := aM_ hc0_0
 clear hr0_0 hc0_0
 have HR0_1 := aM_ hr0_1
 have HC0_1 := aM_ hc0_1
 clear hr0_1 hc0_1
 have HR0_2 := aM_ hr0_2
 have HC0_2 := aM_ hc0_2
 clear hr0_2 hc0_2
 have HR0_3 := aM_ hr0_3
 have HC0_3 := aM_ hc0_3
 clear hr0_3 hc0_3
 have HR1_0 := aM_ hr1_0
 have HC1_0 := aM_ hc1_0
 clear hr1_0 hc1_0
 have HR1_1 := aM_ hr1_1
 have HC1_1 := aM_ hc1_1
 clear hr1_1 hc1_1
 have HR1_2 := aM_ hr1_2
 have HC1_2 := aM_ hc1_2
 clear hr1_2 hc1_2
 have HR1_3 := aM_ hr1_3
 have HC1_3 := aM_ hc1_3
 clear hr1_3 hc1_3
 have HB := aM_ (Below.refl w.heap.size w)
 have H : ((laws_eqStepSS.f k l0_0 l1_0).bind fun t320 => (if t320 = true then ((laws_eqCoreS.f k l0_1 l1_1).bind fun t321 => (if t321 = true then ((laws_eqMemory.f k l0_2 l1_2).bind fun t322 => (if t322 = true then ((laws_eqNoteS.f k l0_3 l1_3).bind fun t323 => (if t323 = true then (some true) else (some false))) else (some false))) else (some false))) else (some false))) = some r := h
 clear h
 replace H := Option.bind_eq_some_iff.mp H
 obtain ⟨t320, A30, H⟩ := H
 replace H : (if t320 = true then ((laws_eqCoreS.f k l0_1 l1_1).bind fun t321 => (if t321 = true then ((laws_eqMemory.f k l0_2 l1_2).bind fun t322 => (if t322 = true then ((laws_eqNoteS.f k l0_3 l1_3).bind fun t323 => (if t323 = true then (some true) else (some false))) else (some false))) else (some false))) else (some false)) = some r := H
 have A3 := aM_ A30
 clear A30
 by_cases c4 : t320 = true
 ·subst c4
  have H1 : ((laws_eqCoreS.f k l0_1 l1_1).bind fun t321 => (if t321 = true then ((laws_eqMemory.f k l0_2 l1_2).bind fun t322 => (if t322 = true then ((laws_eqNoteS.f k l0_3 l1_3).bind fun t323 => (if t323 = true then (some true) else (some false))) else (some false))) else (some false))) = some r := by rw [if_pos rfl] at H; exact H
  clear H
  have H := H1
  clear H1
  replace H := Option.bind_eq_some_iff.mp H
  obtain ⟨t321, A50, H⟩ := H
  replace H : (if t321 = true then ((laws_eqMemory.f k l0_2 l1_2).bind fun t322 => (if t322 = true then ((laws_eqNoteS.f k l0_3 l1_3).bind fun t323 => (if t323 = true then (some true) else (some false))) else (some false))) else (some false)) = some r := H
  have A5 := aM_ A50
  clear A50
  by_cases c6 : t321 = true
  ·subst c6
   have H1 : ((laws_eqMemory.f k l0_2 l1_2).bind fun t322 => (if t322 = true then ((laws_eqNoteS.f k l0_3 l1_3).bind fun t323 => (if t323 = true then (some true) else (some false))) else (some false))) = some r := by rw [if_pos rfl] at H; exact H
   clear H
   have H := H1
   clear H1
   replace H := Option.bind_eq_some_iff.mp H
   obtain ⟨t322, A70, H⟩ := H
   replace H : (if t322 = true then ((laws_eqNoteS.f k l0_3 l1_3).bind fun t323 => (if t323 = true then (some true) else (some false))) else (some false)) = some r := H
   have A7 := aM_ A70
   clear A70
   by_cases c8 : t322 = true
   ·subst c8
    have H1 : ((laws_eqNoteS.f k l0_3 l1_3).bind fun t323 => (if t323 = true then (some true) else (some false))) = some r := by rw [if_pos rfl] at H; exact H
    clear H
    have H := H1
    clear H1
    replace H := Option.bind_eq_some_iff.mp H
    obtain ⟨t323, A90, H⟩ := H
    replace H : (if t323 = true then (some true) else (some false)) = some r := H
    have A9 := aM_ A90
    clear A90
    by_cases c10 : t323 = true
    ·subst c10
     have H1 : (some true) = some r := by rw [if_pos rfl] at H; exact H
     clear H
     have H := H1
     clear H1
     obtain rfl := Option.some.inj H
     go_enter Try.func28, Try.ntmps28
     go_wp2_with (first | ((with_reducible refine gate_dst (N := 2) rfl ?_); refine bX_ 2 (cs := #[.slice A0_0 l0_0.length c0_0, .slice A0_1 l0_1.length c0_1, .slice A0_2 l0_2.length c0_2, .slice A0_3 l0_3.length c0_3]) (t := 59) ?_; intro gb318 hg w11 hbox hb; have BK318 := aM_ (hbox); have GE318 := aM_ (sZ_ hg HB.out); replace HB := aM_ (sT_ HB.out hb); clear hb hbox hg) | ((with_reducible refine gate_dst (N := 3) rfl ?_); refine bX_ 3 (cs := #[.slice A1_0 l1_0.length c1_0, .slice A1_1 l1_1.length c1_1, .slice A1_2 l1_2.length c1_2, .slice A1_3 l1_3.length c1_3]) (t := 59) ?_; intro gb319 hg w12 hbox hb; have BK319 := aM_ (hbox); have GE319 := aM_ (sZ_ hg HB.out); have NB318_319 := aM_ (nL_ hg BK318.out); have NB319_318 := aM_ (nG_ hg BK318.out); replace BK318 := aM_ (nB_ BK318.out hb); replace HB := aM_ (sT_ HB.out hb); clear hb hbox hg; have hnb13 := NB318_319.out; have hnc13 := NB319_318.out; have z_14 := bR4_ BK318.out; have z_15 := bR4_ BK319.out) | ((with_reducible refine gate_callee (f := 29) rfl ?_); refine gL_ (some 9) Try.func29 #[.slice A0_0 l0_0.length c0_0, .slice A1_0 l1_0.length c1_0] ?_; (with_reducible refine (laws_eqStepSS.calls k _ _ l0_0 _ _ l1_0 true _ ?side1 ?side2 ?side3 ?side4 A3.out).mono ?_); (case side1 => exact cS_ (Kd.C_below HR0_0.out HB.out)); (case side2 => exact HC0_0.out); (case side3 => exact cS_ (Kd.C_below HR1_0.out HB.out)); (case side4 => exact HC1_0.out); rintro e w16 ⟨rfl, hb⟩; refine ⟨_, rfl, ?_⟩; replace BK318 := aM_ (nB_ BK318.out hb); replace BK319 := aM_ (nB_ BK319.out hb); replace HB := aM_ (sT_ HB.out hb); have z_17 := bR4_ BK318.out; have z_18 := bR4_ BK319.out) | ((with_reducible refine gate_callee (f := 82) rfl ?_); refine gL_ (some 15) Try.func82 #[.slice A0_1 l0_1.length c0_1, .slice A1_1 l1_1.length c1_1] ?_; (with_reducible refine (laws_eqCoreS.calls k _ _ l0_1 _ _ l1_1 true _ ?side1 ?side2 ?side3 ?side4 A5.out).mono ?_); (case side1 => exact cS_ (Kd.C_below HR0_1.out HB.out)); (case side2 => exact HC0_1.out); (case side3 => exact cS_ (Kd.C_below HR1_1.out HB.out)); (case side4 => exact HC1_1.out); rintro e w19 ⟨rfl, hb⟩; refine ⟨_, rfl, ?_⟩; replace BK318 := aM_ (nB_ BK318.out hb); replace BK319 := aM_ (nB_ BK319.out hb); replace HB := aM_ (sT_ HB.out hb); have z_20 := bR4_ BK318.out; have z_21 := bR4_ BK319.out) | ((with_reducible refine gate_callee (f := 83) rfl ?_); refine gL_ (some 21) Try.func83 #[.agg #[.slice A0_2 l0_2.length c0_2], .agg #[.slice A1_2 l1_2.length c1_2]] ?_; (with_reducible refine (laws_eqMemory.calls k _ _ l0_2 _ _ l1_2 true _ ?side1 ?side2 ?side3 ?side4 A7.out).mono ?_); (case side1 => exact cS_ (Kd.C_below HR0_2.out HB.out)); (case side2 => exact HC0_2.out); (case side3 => exact cS_ (Kd.C_below HR1_2.out HB.out)); (case side4 => exact HC1_2.out); rintro e w22 ⟨rfl, hb⟩; refine ⟨_, rfl, ?_⟩; replace BK318 := aM_ (nB_ BK318.out hb); replace BK319 := aM_ (nB_ BK319.out hb); replace HB := aM_ (sT_ HB.out hb); have z_23 := bR4_ BK318.out; have z_24 := bR4_ BK319.out) | ((with_reducible refine gate_callee (f := 66) rfl ?_); refine gL_ (some 27) Try.func66 #[.slice A0_3 l0_3.length c0_3, .slice A1_3 l1_3.length c1_3] ?_; (with_reducible refine (laws_eqNoteS.calls k _ _ l0_3 _ _ l1_3 true _ ?side1 ?side2 ?side3 ?side4 A9.out).mono ?_); (case side1 => exact cS_ (Kd.C_below HR0_3.out HB.out)); (case side2 => exact HC0_3.out); (case side3 => exact cS_ (Kd.C_below HR1_3.out HB.out)); (case side4 => exact HC1_3.out); rintro e w25 ⟨rfl, hb⟩; refine ⟨_, rfl, ?_⟩; replace BK318 := aM_ (nB_ BK318.out hb); replace BK319 := aM_ (nB_ BK319.out hb); replace HB := aM_ (sT_ HB.out hb)))
     go_ret
     exact fI_ HB.out
    ·replace c10 := Bool.eq_false_iff.mpr c10
     subst c10
     have H1 : (some false) = some r := by rw [if_neg (show ¬ (false = true) by decide)] at H; exact H
     clear H
     have H := H1
     clear H1
     obtain rfl := Option.some.inj H
     go_enter Try.func28, Try.ntmps28
     go_wp2_with (first | ((with_reducible refine gate_dst (N := 2) rfl ?_); refine bX_ 2 (cs := #[.slice A0_0 l0_0.length c0_0, .slice A0_1 l0_1.length c0_1, .slice A0_2 l0_2.length c0_2, .slice A0_3 l0_3.length c0_3]) (t := 59) ?_; intro gb318 hg w26 hbox hb; have BK318 := aM_ (hbox); have GE318 := aM_ (sZ_ hg HB.out); replace HB := aM_ (sT_ HB.out hb); clear hb hbox hg) | ((with_reducible refine gate_dst (N := 3) rfl ?_); refine bX_ 3 (cs := #[.slice A1_0 l1_0.length c1_0, .slice A1_1 l1_1.length c1_1, .slice A1_2 l1_2.length c1_2, .slice A1_3 l1_3.length c1_3]) (t := 59) ?_; intro gb319 hg w27 hbox hb; have BK319 := aM_ (hbox); have GE319 := aM_ (sZ_ hg HB.out); have NB318_319 := aM_ (nL_ hg BK318.out); have NB319_318 := aM_ (nG_ hg BK318.out); replace BK318 := aM_ (nB_ BK318.out hb); replace HB := aM_ (sT_ HB.out hb); clear hb hbox hg; have hnb28 := NB318_319.out; have hnc28 := NB319_318.out; have z_29 := bR4_ BK318.out; have z_30 := bR4_ BK319.out) | ((with_reducible refine gate_callee (f := 29) rfl ?_); refine gL_ (some 9) Try.func29 #[.slice A0_0 l0_0.length c0_0, .slice A1_0 l1_0.length c1_0] ?_; (with_reducible refine (laws_eqStepSS.calls k _ _ l0_0 _ _ l1_0 true _ ?side1 ?side2 ?side3 ?side4 A3.out).mono ?_); (case side1 => exact cS_ (Kd.C_below HR0_0.out HB.out)); (case side2 => exact HC0_0.out); (case side3 => exact cS_ (Kd.C_below HR1_0.out HB.out)); (case side4 => exact HC1_0.out); rintro e w31 ⟨rfl, hb⟩; refine ⟨_, rfl, ?_⟩; replace BK318 := aM_ (nB_ BK318.out hb); replace BK319 := aM_ (nB_ BK319.out hb); replace HB := aM_ (sT_ HB.out hb); have z_32 := bR4_ BK318.out; have z_33 := bR4_ BK319.out) | ((with_reducible refine gate_callee (f := 82) rfl ?_); refine gL_ (some 15) Try.func82 #[.slice A0_1 l0_1.length c0_1, .slice A1_1 l1_1.length c1_1] ?_; (with_reducible refine (laws_eqCoreS.calls k _ _ l0_1 _ _ l1_1 true _ ?side1 ?side2 ?side3 ?side4 A5.out).mono ?_); (case side1 => exact cS_ (Kd.C_below HR0_1.out HB.out)); (case side2 => exact HC0_1.out); (case side3 => exact cS_ (Kd.C_below HR1_1.out HB.out)); (case side4 => exact HC1_1.out); rintro e w34 ⟨rfl, hb⟩; refine ⟨_, rfl, ?_⟩; replace BK318 := aM_ (nB_ BK318.out hb); replace BK319 := aM_ (nB_ BK319.out hb); replace HB := aM_ (sT_ HB.out hb); have z_35 := bR4_ BK318.out; have z_36 := bR4_ BK319.out) | ((with_reducible refine gate_callee (f := 83) rfl ?_); refine gL_ (some 21) Try.func83 #[.agg #[.slice A0_2 l0_2.length c0_2], .agg #[.slice A1_2 l1_2.length c1_2]] ?_; (with_reducible refine (laws_eqMemory.calls k _ _ l0_2 _ _ l1_2 true _ ?side1 ?side2 ?side3 ?side4 A7.out).mono ?_); (case side1 => exact cS_ (Kd.C_below HR0_2.out HB.out)); (case side2 => exact HC0_2.out); (case side3 => exact cS_ (Kd.C_below HR1_2.out HB.out)); (case side4 => exact HC1_2.out); rintro e w37 ⟨rfl, hb⟩; refine ⟨_, rfl, ?_⟩; replace BK318 := aM_ (nB_ BK318.out hb); replace BK319 := aM_ (nB_ BK319.out hb); replace HB := aM_ (sT_ HB.out hb); have z_38 := bR4_ BK318.out; have z_39 := bR4_ BK319.out) | ((with_reducible refine gate_callee (f := 66) rfl ?_); refine gL_ (some 27) Try.func66 #[.slice A0_3 l0_3.length c0_3, .slice A1_3 l1_3.length c1_3] ?_; (with_reducible refine (laws_eqNoteS.calls k _ _ l0_3 _ _ l1_3 false _ ?side1 ?side2 ?side3 ?side4 A9.out).mono ?_); (case side1 => exact cS_ (Kd.C_below HR0_3.out HB.out)); (case side2 => exact HC0_3.out); (case side3 => exact cS_ (Kd.C_below HR1_3.out HB.out)); (case side4 => exact HC1_3.out); rintro e w40 ⟨rfl, hb⟩; refine ⟨_, rfl, ?_⟩; replace BK318 := aM_ (nB_ BK318.out hb); replace BK319 := aM_ (nB_ BK319.out hb); replace HB := aM_ (sT_ HB.out hb)))
     go_ret
     exact fI_ HB.out
   ·replace c8 := Bool.eq_false_iff.mpr c8
    subst c8
    have H1 : (some false) = some r := by rw [if_neg (show ¬ (false = true) by decide)] at H; exact H
    clear H
    have H := H1
    clear H1
    obtain rfl := Option.some.inj H
    go_enter Try.func28, Try.ntmps28
    go_wp2_with (first | ((with_reducible refine gate_dst (N := 2) rfl ?_); refine bX_ 2 (cs := #[.slice A0_0 l0_0.length c0_0, .slice A0_1 l0_1.length c0_1, .slice A0_2 l0_2.length c0_2, .slice A0_3 l0_3.length c0_3]) (t := 59) ?_; intro gb318 hg w41 hbox hb; have BK318 := aM_ (hbox); have GE318 := aM_ (sZ_ hg HB.out); replace HB := aM_ (sT_ HB.out hb); clear hb hbox hg) | ((with_reducible refine gate_dst (N := 3) rfl ?_); refine bX_ 3 (cs := #[.slice A1_0 l1_0.length c1_0, .slice A1_1 l1_1.length c1_1, .slice A1_2 l1_2.length c1_2, .slice A1_3 l1_3.length c1_3]) (t := 59) ?_; intro gb319 hg w42 hbox hb; have BK319 := aM_ (hbox); have GE319 := aM_ (sZ_ hg HB.out); have NB318_319 := aM_ (nL_ hg BK318.out); have NB319_318 := aM_ (nG_ hg BK318.out); replace BK318 := aM_ (nB_ BK318.out hb); replace HB := aM_ (sT_ HB.out hb); clear hb hbox hg; have hnb43 := NB318_319.out; have hnc43 := NB319_318.out; have z_44 := bR4_ BK318.out; have z_45 := bR4_ BK319.out) | ((with_reducible refine gate_callee (f := 29) rfl ?_); refine gL_ (some 9) Try.func29 #[.slice A0_0 l0_0.length c0_0, .slice A1_0 l1_0.length c1_0] ?_; (with_reducible refine (laws_eqStepSS.calls k _ _ l0_0 _ _ l1_0 true _ ?side1 ?side2 ?side3 ?side4 A3.out).mono ?_); (case side1 => exact cS_ (Kd.C_below HR0_0.out HB.out)); (case side2 => exact HC0_0.out); (case side3 => exact cS_ (Kd.C_below HR1_0.out HB.out)); (case side4 => exact HC1_0.out); rintro e w46 ⟨rfl, hb⟩; refine ⟨_, rfl, ?_⟩; replace BK318 := aM_ (nB_ BK318.out hb); replace BK319 := aM_ (nB_ BK319.out hb); replace HB := aM_ (sT_ HB.out hb); have z_47 := bR4_ BK318.out; have z_48 := bR4_ BK319.out) | ((with_reducible refine gate_callee (f := 82) rfl ?_); refine gL_ (some 15) Try.func82 #[.slice A0_1 l0_1.length c0_1, .slice A1_1 l1_1.length c1_1] ?_; (with_reducible refine (laws_eqCoreS.calls k _ _ l0_1 _ _ l1_1 true _ ?side1 ?side2 ?side3 ?side4 A5.out).mono ?_); (case side1 => exact cS_ (Kd.C_below HR0_1.out HB.out)); (case side2 => exact HC0_1.out); (case side3 => exact cS_ (Kd.C_below HR1_1.out HB.out)); (case side4 => exact HC1_1.out); rintro e w49 ⟨rfl, hb⟩; refine ⟨_, rfl, ?_⟩; replace BK318 := aM_ (nB_ BK318.out hb); replace BK319 := aM_ (nB_ BK319.out hb); replace HB := aM_ (sT_ HB.out hb); have z_50 := bR4_ BK318.out; have z_51 := bR4_ BK319.out) | ((with_reducible refine gate_callee (f := 83) rfl ?_); refine gL_ (some 21) Try.func83 #[.agg #[.slice A0_2 l0_2.length c0_2], .agg #[.slice A1_2 l1_2.length c1_2]] ?_; (with_reducible refine (laws_eqMemory.calls k _ _ l0_2 _ _ l1_2 false _ ?side1 ?side2 ?side3 ?side4 A7.out).mono ?_); (case side1 => exact cS_ (Kd.C_below HR0_2.out HB.out)); (case side2 => exact HC0_2.out); (case side3 => exact cS_ (Kd.C_below HR1_2.out HB.out)); (case side4 => exact HC1_2.out); rintro e w52 ⟨rfl, hb⟩; refine ⟨_, rfl, ?_⟩; replace BK318 := aM_ (nB_ BK318.out hb); replace BK319 := aM_ (nB_ BK319.out hb); replace HB := aM_ (sT_ HB.out hb)))
    go_ret
    exact fI_ HB.out
  ·replace c6 := Bool.eq_false_iff.mpr c6
   subst c6
   have H1 : (some false) = some r := by rw [if_neg (show ¬ (false = true) by decide)] at H; exact H
   clear H
   have H := H1
   clear H1
   obtain rfl := Option.some.inj H
   go_enter Try.func28, Try.ntmps28
   go_wp2_with (first | ((with_reducible refine gate_dst (N := 2) rfl ?_); refine bX_ 2 (cs := #[.slice A0_0 l0_0.length c0_0, .slice A0_1 l0_1.length c0_1, .slice A0_2 l0_2.length c0_2, .slice A0_3 l0_3.length c0_3]) (t := 59) ?_; intro gb318 hg w53 hbox hb; have BK318 := aM_ (hbox); have GE318 := aM_ (sZ_ hg HB.out); replace HB := aM_ (sT_ HB.out hb); clear hb hbox hg) | ((with_reducible refine gate_dst (N := 3) rfl ?_); refine bX_ 3 (cs := #[.slice A1_0 l1_0.length c1_0, .slice A1_1 l1_1.length c1_1, .slice A1_2 l1_2.length c1_2, .slice A1_3 l1_3.length c1_3]) (t := 59) ?_; intro gb319 hg w54 hbox hb; have BK319 := aM_ (hbox); have GE319 := aM_ (sZ_ hg HB.out); have NB318_319 := aM_ (nL_ hg BK318.out); have NB319_318 := aM_ (nG_ hg BK318.out); replace BK318 := aM_ (nB_ BK318.out hb); replace HB := aM_ (sT_ HB.out hb); clear hb hbox hg; have hnb55 := NB318_319.out; have hnc55 := NB319_318.out; have z_56 := bR4_ BK318.out; have z_57 := bR4_ BK319.out) | ((with_reducible refine gate_callee (f := 29) rfl ?_); refine gL_ (some 9) Try.func29 #[.slice A0_0 l0_0.length c0_0, .slice A1_0 l1_0.length c1_0] ?_; (with_reducible refine (laws_eqStepSS.calls k _ _ l0_0 _ _ l1_0 true _ ?side1 ?side2 ?side3 ?side4 A3.out).mono ?_); (case side1 => exact cS_ (Kd.C_below HR0_0.out HB.out)); (case side2 => exact HC0_0.out); (case side3 => exact cS_ (Kd.C_below HR1_0.out HB.out)); (case side4 => exact HC1_0.out); rintro e w58 ⟨rfl, hb⟩; refine ⟨_, rfl, ?_⟩; replace BK318 := aM_ (nB_ BK318.out hb); replace BK319 := aM_ (nB_ BK319.out hb); replace HB := aM_ (sT_ HB.out hb); have z_59 := bR4_ BK318.out; have z_60 := bR4_ BK319.out) | ((with_reducible refine gate_callee (f := 82) rfl ?_); refine gL_ (some 15) Try.func82 #[.slice A0_1 l0_1.length c0_1, .slice A1_1 l1_1.length c1_1] ?_; (with_reducible refine (laws_eqCoreS.calls k _ _ l0_1 _ _ l1_1 false _ ?side1 ?side2 ?side3 ?side4 A5.out).mono ?_); (case side1 => exact cS_ (Kd.C_below HR0_1.out HB.out)); (case side2 => exact HC0_1.out); (case side3 => exact cS_ (Kd.C_below HR1_1.out HB.out)); (case side4 => exact HC1_1.out); rintro e w61 ⟨rfl, hb⟩; refine ⟨_, rfl, ?_⟩; replace BK318 := aM_ (nB_ BK318.out hb); replace BK319 := aM_ (nB_ BK319.out hb); replace HB := aM_ (sT_ HB.out hb)))
   go_ret
   exact fI_ HB.out
 ·replace c4 := Bool.eq_false_iff.mpr c4
  subst c4
  have H1 : (some false) = some r := by rw [if_neg (show ¬ (false = true) by decide)] at H; exact H
  clear H
  have H := H1
  clear H1
  obtain rfl := Option.some.inj H
  go_enter Try.func28, Try.ntmps28
  go_wp2_with (first | ((with_reducible refine gate_dst (N := 2) rfl ?_); refine bX_ 2 (cs := #[.slice A0_0 l0_0.length c0_0, .slice A0_1 l0_1.length c0_1, .slice A0_2 l0_2.length c0_2, .slice A0_3 l0_3.length c0_3]) (t := 59) ?_; intro gb318 hg w62 hbox hb; have BK318 := aM_ (hbox); have GE318 := aM_ (sZ_ hg HB.out); replace HB := aM_ (sT_ HB.out hb); clear hb hbox hg) | ((with_reducible refine gate_dst (N := 3) rfl ?_); refine bX_ 3 (cs := #[.slice A1_0 l1_0.length c1_0, .slice A1_1 l1_1.length c1_1, .slice A1_2 l1_2.length c1_2, .slice A1_3 l1_3.length c1_3]) (t := 59) ?_; intro gb319 hg w63 hbox hb; have BK319 := aM_ (hbox); have GE319 := aM_ (sZ_ hg HB.out); have NB318_319 := aM_ (nL_ hg BK318.out); have NB319_318 := aM_ (nG_ hg BK318.out); replace BK318 := aM_ (nB_ BK318.out hb); replace HB := aM_ (sT_ HB.out hb); clear hb hbox hg; have hnb64 := NB318_319.out; have hnc64 := NB319_318.out; have z_65 := bR4_ BK318.out; have z_66 := bR4_ BK319.out) | ((with_reducible refine gate_callee (f := 29) rfl ?_); refine gL_ (some 9) Try.func29 #[.slice A0_0 l0_0.length c0_0, .slice A1_0 l1_0.length c1_0] ?_; (with_reducible refine (laws_eqStepSS.calls k _ _ l0_0 _ _ l1_0 false _ ?side1 ?side2 ?side3 ?side4 A3.out).mono ?_); (case side1 => exact cS_ (Kd.C_below HR0_0.out HB.out)); (case side2 => exact HC0_0.out); (case side3 => exact cS_ (Kd.C_below HR1_0.out HB.out)); (case side4 => exact HC1_0.out); rintro e w67 ⟨rfl, hb⟩; refine ⟨_, rfl, ?_⟩; replace BK318 := aM_ (nB_ BK318.out hb); replace BK319 := aM_ (nB_ BK319.out hb); replace HB := aM_ (sT_ HB.out hb)))
  go_ret
  exact fI_ HB.out
end Go.Proofs.Ytobachfngmpeiaa.PFnExactMachineNew
