/- A part of the proof that the law FnExactSourceNew holds for every input: the words, functions and walks that its row needs, without a condition of their own. -/
import Derived.Test.YtobachfngmpeiaaZFnExactSourceNewa2
import Derived.Test.YtobachfngmpeiaaZFnExactSourceNewa11
import Derived.Test.YtobachfngmpeiaaZFnExactSourceNewa12
import Derived.Test.YtobachfngmpeiaaZFnExactSourceNews
namespace Go.Proofs.Ytobachfngmpeiaa.PFnExactSourceNew
open Go.RowKit Go.Proofs.YtobachfngmpeiaaW.PrintWords Go.Proofs.YtobachfngmpeiaaW.PrintLast Go.Proofs.YtobachfngmpeiaaW.PrintMore
attribute [local go_sem] max2_int min2_int max_two min_two max_three min_three max_four min_four   -- for this text's walks alone
set_option linter.unusedVariables false
set_option linter.unusedSimpArgs false
def laws_eqSource.f (k : Nat) (l0_0 : List (S107)) (l0_1 : List (S94)) (l0_2 : List (S35)) (l1_0 : List (S107)) (l1_1 : List (S94)) (l1_2 : List (S35)) : Option (Bool) := (laws_eqThreadS.f k l0_0 l1_0).bind fun t242 => (if t242 = true then ((laws_eqChanS.f k l0_1 l1_1).bind fun t243 => (if t243 = true then ((laws_eqNoteS.f k l0_2 l1_2).bind fun t244 => (if t244 = true then (some true) else (some false))) else (some false))) else (some false))
set_option maxHeartbeats 8000000 in
set_option maxRecDepth 100000 in
theorem laws_eqSource.calls (k : Nat) (A0_0 : Option Addr) (c0_0 : Nat) (l0_0 : List (S107)) (A0_1 : Option Addr) (c0_1 : Nat) (l0_1 : List (S94)) (A0_2 : Option Addr) (c0_2 : Nat) (l0_2 : List (S35)) (A1_0 : Option Addr) (c1_0 : Nat) (l1_0 : List (S107)) (A1_1 : Option Addr) (c1_1 : Nat) (l1_1 : List (S94)) (A1_2 : Option Addr) (c1_2 : Nat) (l1_2 : List (S35)) (r : Bool) (w : World) (hr0_0 : Kd.C k107 w A0_0 l0_0.length l0_0) (hc0_0 : l0_0.length ≤ c0_0) (hr0_1 : Kd.C k94 w A0_1 l0_1.length l0_1) (hc0_1 : l0_1.length ≤ c0_1) (hr0_2 : Kd.C k35 w A0_2 l0_2.length l0_2) (hc0_2 : l0_2.length ≤ c0_2) (hr1_0 : Kd.C k107 w A1_0 l1_0.length l1_0) (hc1_0 : l1_0.length ≤ c1_0) (hr1_1 : Kd.C k94 w A1_1 l1_1.length l1_1) (hc1_1 : l1_1.length ≤ c1_1) (hr1_2 : Kd.C k35 w A1_2 l1_2.length l1_2) (hc1_2 : l1_2.length ≤ c1_2) (h : laws_eqSource.f k l0_0 l0_1 l0_2 l1_0 l1_1 l1_2 = some r) :
  Calls Try.prog 19 #[.agg #[.slice A0_0 l0_0.length c0_0, .slice A0_1 l0_1.length c0_1, .slice A0_2 l0_2.length c0_2], .agg #[.slice A1_0 l1_0.length c1_0, .slice A1_1 l1_1.length c1_1, .slice A1_2 l1_2.length c1_2]] w fun e w' => e = .returned (.bool r) ∧ Below w.heap.size w w' := by
 have hu28 := Try.underlying28
 have HR0_0 := aM_ hr0_0
 have HC0_0 := aM_ hc0_0
 clear hr0_0 hc0_0
 have HR0_1 := aM_ hr0_1
 have HC0_1 := aM_ hc0_1
 clear hr0_1 hc0_1
 have HR0_2 := aM_ hr0_2
 have HC0_2 := aM_ hc0_2
 clear hr0_2 hc0_2
 have HR1_0 := aM_ hr1_0
 have HC1_0 := aM_ hc1_0
 clear hr1_0 hc1_0
 have HR1_1 := aM_ hr1_1
 have HC1_1 := aM_ hc1_1
 clear hr1_1 hc1_1
 have HR1_2 := aM_ hr1_2
 have HC1_2 := aM_ hc1_2
 clear hr1_2 hc1_2
 have HB := aM_ (Below.refl w.heap.size w)
 have H : ((laws_eqThreadS.f k l0_0 l1_0).bind fun t242 => (if t242 = true then ((laws_eqChanS.f k l0_1 l1_1).bind fun t243 => (if t243 = true then ((laws_eqNoteS.f k l0_2 l1_2).bind fun t244 => (if t244 = true then (some true) else (some false))) else (some false))) else (some false))) = some r := h
 clear h
 replace H := Option.bind_eq_some_iff.mp H
 obtain ⟨t242, A30, H⟩ := H
 replace H : (if t242 = true then ((laws_eqChanS.f k l0_1 l1_1).bind fun t243 => (if t243 = true then ((laws_eqNoteS.f k l0_2 l1_2).bind fun t244 => (if t244 = true then (some true) else (some false))) else (some false))) else (some false)) = some r := H
 have A3 := aM_ A30
 clear A30
 by_cases c4 : t242 = true
 ·subst c4
  have H1 : ((laws_eqChanS.f k l0_1 l1_1).bind fun t243 => (if t243 = true then ((laws_eqNoteS.f k l0_2 l1_2).bind fun t244 => (if t244 = true then (some true) else (some false))) else (some false))) = some r := by rw [if_pos rfl] at H; exact H
  clear H
  have H := H1
  clear H1
  replace H := Option.bind_eq_some_iff.mp H
  obtain ⟨t243, A50, H⟩ := H
  replace H : (if t243 = true then ((laws_eqNoteS.f k l0_2 l1_2).bind fun t244 => (if t244 = true then (some true) else (some false))) else (some false)) = some r := H
  have A5 := aM_ A50
  clear A50
  by_cases c6 : t243 = true
  ·subst c6
   have H1 : ((laws_eqNoteS.f k l0_2 l1_2).bind fun t244 => (if t244 = true then (some true) else (some false))) = some r := by rw [if_pos rfl] at H; exact H
   clear H
   have H := H1
   clear H1
   replace H := Option.bind_eq_some_iff.mp H
   obtain ⟨t244, A70, H⟩ := H
   replace H : (if t244 = true then (some true) else (some false)) = some r := H
   have A7 := aM_ A70
   clear A70
   by_cases c8 : t244 = true
   ·subst c8
    have H1 : (some true) = some r := by rw [if_pos rfl] at H; exact H
    clear H
    have H := H1
    clear H1
    obtain rfl := Option.some.inj H
    go_enter Try.func19, Try.ntmps19
    go_wp2_with (first | ((with_reducible refine gate_dst (N := 2) rfl ?_); refine bX_ 2 (cs := #[.slice A0_0 l0_0.length c0_0, .slice A0_1 l0_1.length c0_1, .slice A0_2 l0_2.length c0_2]) (t := 28) ?_; intro gb240 hg w9 hbox hb; have n0 := aM_ (sT_ HB.out hb); have n1 := aM_ (hbox); have n2 := aM_ (sZ_ hg HB.out); have n3 := aM_ (sZ_ hg HB.out); clear HB; have HB := n0; have BK240 := n1; have GW240 := n2; have GE240 := n3; clear n0 n1 n2 n3; clear hb hbox hg) | ((with_reducible refine gate_dst (N := 3) rfl ?_); refine bX_ 3 (cs := #[.slice A1_0 l1_0.length c1_0, .slice A1_1 l1_1.length c1_1, .slice A1_2 l1_2.length c1_2]) (t := 28) ?_; intro gb241 hg w10 hbox hb; have n0 := aM_ (nB_ BK240.out hb); have n1 := aM_ (sT_ HB.out hb); have n2 := aM_ (hbox); have n3 := aM_ (sZ_ hg HB.out); have n4 := aM_ (sZ_ hg HB.out); have n5 := aM_ (nL_ hg BK240.out); have n6 := aM_ (nG_ hg BK240.out); clear BK240; clear HB; have BK240 := n0; have HB := n1; have BK241 := n2; have GW241 := n3; have GE241 := n4; have NB240_241 := n5; have NB241_240 := n6; clear n0 n1 n2 n3 n4 n5 n6; clear hb hbox hg; have hnb11 := NB240_241.out; have hnc11 := NB241_240.out; obtain ⟨hcz12_0, hcz12_1, hcz12_2, hfz12_0, hfz12_1, hfz12_2⟩ := bR3_ BK240.out; obtain ⟨hcz13_0, hcz13_1, hcz13_2, hfz13_0, hfz13_1, hfz13_2⟩ := bR3_ BK241.out) | ((with_reducible refine gate_callee (f := 64) rfl ?_); refine gL_ (some 9) Try.func64 #[.slice A0_0 l0_0.length c0_0, .slice A1_0 l1_0.length c1_0] ?_; (with_reducible refine (laws_eqThreadS.calls k _ _ l0_0 _ _ l1_0 true _ ?side1 ?side2 ?side3 ?side4 A3.out).mono ?_); (case side1 => exact cS_ (Kd.C_below HR0_0.out HB.out)); (case side2 => exact HC0_0.out); (case side3 => exact cS_ (Kd.C_below HR1_0.out HB.out)); (case side4 => exact HC1_0.out); rintro e w14 ⟨rfl, hb⟩; refine ⟨_, rfl, ?_⟩; have n0 := aM_ (nB_ BK240.out hb); have n1 := aM_ (nB_ BK241.out hb); have n2 := aM_ (sT_ HB.out hb); clear BK240; clear BK241; clear HB; have BK240 := n0; have BK241 := n1; have HB := n2; clear n0 n1 n2; obtain ⟨hcz15_0, hcz15_1, hcz15_2, hfz15_0, hfz15_1, hfz15_2⟩ := bR3_ BK240.out; obtain ⟨hcz16_0, hcz16_1, hcz16_2, hfz16_0, hfz16_1, hfz16_2⟩ := bR3_ BK241.out) | ((with_reducible refine gate_callee (f := 65) rfl ?_); refine gL_ (some 15) Try.func65 #[.slice A0_1 l0_1.length c0_1, .slice A1_1 l1_1.length c1_1] ?_; (with_reducible refine (laws_eqChanS.calls k _ _ l0_1 _ _ l1_1 true _ ?side1 ?side2 ?side3 ?side4 A5.out).mono ?_); (case side1 => exact cS_ (Kd.C_below HR0_1.out HB.out)); (case side2 => exact HC0_1.out); (case side3 => exact cS_ (Kd.C_below HR1_1.out HB.out)); (case side4 => exact HC1_1.out); rintro e w17 ⟨rfl, hb⟩; refine ⟨_, rfl, ?_⟩; have n0 := aM_ (nB_ BK240.out hb); have n1 := aM_ (nB_ BK241.out hb); have n2 := aM_ (sT_ HB.out hb); clear BK240; clear BK241; clear HB; have BK240 := n0; have BK241 := n1; have HB := n2; clear n0 n1 n2; obtain ⟨hcz18_0, hcz18_1, hcz18_2, hfz18_0, hfz18_1, hfz18_2⟩ := bR3_ BK240.out; obtain ⟨hcz19_0, hcz19_1, hcz19_2, hfz19_0, hfz19_1, hfz19_2⟩ := bR3_ BK241.out) | ((with_reducible refine gate_callee (f := 66) rfl ?_); refine gL_ (some 21) Try.func66 #[.slice A0_2 l0_2.length c0_2, .slice A1_2 l1_2.length c1_2] ?_; (with_reducible refine (laws_eqNoteS.calls k _ _ l0_2 _ _ l1_2 true _ ?side1 ?side2 ?side3 ?side4 A7.out).mono ?_); (case side1 => exact cS_ (Kd.C_below HR0_2.out HB.out)); (case side2 => exact HC0_2.out); (case side3 => exact cS_ (Kd.C_below HR1_2.out HB.out)); (case side4 => exact HC1_2.out); rintro e w20 ⟨rfl, hb⟩; refine ⟨_, rfl, ?_⟩; have n0 := aM_ (nB_ BK240.out hb); have n1 := aM_ (nB_ BK241.out hb); have n2 := aM_ (sT_ HB.out hb); clear BK240; clear BK241; clear HB; have BK240 := n0; have BK241 := n1; have HB := n2; clear n0 n1 n2))
    go_ret
    exact fI_ HB.out
   ·replace c8 := Bool.eq_false_iff.mpr c8
    subst c8
    have H1 : (some false) = some r := by rw [if_neg (show ¬ (false = true) by decide)] at H; exact H
    clear H
    have H := H1
    clear H1
    obtain rfl := Option.some.inj H
    go_enter Try.func19, Try.ntmps19
    go_wp2_with (first | ((with_reducible refine gate_dst (N := 2) rfl ?_); refine bX_ 2 (cs := #[.slice A0_0 l0_0.length c0_0, .slice A0_1 l0_1.length c0_1, .slice A0_2 l0_2.length c0_2]) (t := 28) ?_; intro gb240 hg w21 hbox hb; have n0 := aM_ (sT_ HB.out hb); have n1 := aM_ (hbox); have n2 := aM_ (sZ_ hg HB.out); have n3 := aM_ (sZ_ hg HB.out); clear HB; have HB := n0; have BK240 := n1; have GW240 := n2; have GE240 := n3; clear n0 n1 n2 n3; clear hb hbox hg) | ((with_reducible refine gate_dst (N := 3) rfl ?_); refine bX_ 3 (cs := #[.slice A1_0 l1_0.length c1_0, .slice A1_1 l1_1.length c1_1, .slice A1_2 l1_2.length c1_2]) (t := 28) ?_; intro gb241 hg w22 hbox hb; have n0 := aM_ (nB_ BK240.out hb); have n1 := aM_ (sT_ HB.out hb); have n2 := aM_ (hbox); have n3 := aM_ (sZ_ hg HB.out); have n4 := aM_ (sZ_ hg HB.out); have n5 := aM_ (nL_ hg BK240.out); have n6 := aM_ (nG_ hg BK240.out); clear BK240; clear HB; have BK240 := n0; have HB := n1; have BK241 := n2; have GW241 := n3; have GE241 := n4; have NB240_241 := n5; have NB241_240 := n6; clear n0 n1 n2 n3 n4 n5 n6; clear hb hbox hg; have hnb23 := NB240_241.out; have hnc23 := NB241_240.out; obtain ⟨hcz24_0, hcz24_1, hcz24_2, hfz24_0, hfz24_1, hfz24_2⟩ := bR3_ BK240.out; obtain ⟨hcz25_0, hcz25_1, hcz25_2, hfz25_0, hfz25_1, hfz25_2⟩ := bR3_ BK241.out) | ((with_reducible refine gate_callee (f := 64) rfl ?_); refine gL_ (some 9) Try.func64 #[.slice A0_0 l0_0.length c0_0, .slice A1_0 l1_0.length c1_0] ?_; (with_reducible refine (laws_eqThreadS.calls k _ _ l0_0 _ _ l1_0 true _ ?side1 ?side2 ?side3 ?side4 A3.out).mono ?_); (case side1 => exact cS_ (Kd.C_below HR0_0.out HB.out)); (case side2 => exact HC0_0.out); (case side3 => exact cS_ (Kd.C_below HR1_0.out HB.out)); (case side4 => exact HC1_0.out); rintro e w26 ⟨rfl, hb⟩; refine ⟨_, rfl, ?_⟩; have n0 := aM_ (nB_ BK240.out hb); have n1 := aM_ (nB_ BK241.out hb); have n2 := aM_ (sT_ HB.out hb); clear BK240; clear BK241; clear HB; have BK240 := n0; have BK241 := n1; have HB := n2; clear n0 n1 n2; obtain ⟨hcz27_0, hcz27_1, hcz27_2, hfz27_0, hfz27_1, hfz27_2⟩ := bR3_ BK240.out; obtain ⟨hcz28_0, hcz28_1, hcz28_2, hfz28_0, hfz28_1, hfz28_2⟩ := bR3_ BK241.out) | ((with_reducible refine gate_callee (f := 65) rfl ?_); refine gL_ (some 15) Try.func65 #[.slice A0_1 l0_1.length c0_1, .slice A1_1 l1_1.length c1_1] ?_; (with_reducible refine (laws_eqChanS.calls k _ _ l0_1 _ _ l1_1 true _ ?side1 ?side2 ?side3 ?side4 A5.out).mono ?_); (case side1 => exact cS_ (Kd.C_below HR0_1.out HB.out)); (case side2 => exact HC0_1.out); (case side3 => exact cS_ (Kd.C_below HR1_1.out HB.out)); (case side4 => exact HC1_1.out); rintro e w29 ⟨rfl, hb⟩; refine ⟨_, rfl, ?_⟩; have n0 := aM_ (nB_ BK240.out hb); have n1 := aM_ (nB_ BK241.out hb); have n2 := aM_ (sT_ HB.out hb); clear BK240; clear BK241; clear HB; have BK240 := n0; have BK241 := n1; have HB := n2; clear n0 n1 n2; obtain ⟨hcz30_0, hcz30_1, hcz30_2, hfz30_0, hfz30_1, hfz30_2⟩ := bR3_ BK240.out; obtain ⟨hcz31_0, hcz31_1, hcz31_2, hfz31_0, hfz31_1, hfz31_2⟩ := bR3_ BK241.out) | ((with_reducible refine gate_callee (f := 66) rfl ?_); refine gL_ (some 21) Try.func66 #[.slice A0_2 l0_2.length c0_2, .slice A1_2 l1_2.length c1_2] ?_; (with_reducible refine (laws_eqNoteS.calls k _ _ l0_2 _ _ l1_2 false _ ?side1 ?side2 ?side3 ?side4 A7.out).mono ?_); (case side1 => exact cS_ (Kd.C_below HR0_2.out HB.out)); (case side2 => exact HC0_2.out); (case side3 => exact cS_ (Kd.C_below HR1_2.out HB.out)); (case side4 => exact HC1_2.out); rintro e w32 ⟨rfl, hb⟩; refine ⟨_, rfl, ?_⟩; have n0 := aM_ (nB_ BK240.out hb); have n1 := aM_ (nB_ BK241.out hb); have n2 := aM_ (sT_ HB.out hb); clear BK240; clear BK241; clear HB; have BK240 := n0; have BK241 := n1; have HB := n2; clear n0 n1 n2))
    go_ret
    exact fI_ HB.out
  ·replace c6 := Bool.eq_false_iff.mpr c6
   subst c6
   have H1 : (some false) = some r := by rw [if_neg (show ¬ (false = true) by decide)] at H; exact H
   clear H
   have H := H1
   clear H1
   obtain rfl := Option.some.inj H
   go_enter Try.func19, Try.ntmps19
   go_wp2_with (first | ((with_reducible refine gate_dst (N := 2) rfl ?_); refine bX_ 2 (cs := #[.slice A0_0 l0_0.length c0_0, .slice A0_1 l0_1.length c0_1, .slice A0_2 l0_2.length c0_2]) (t := 28) ?_; intro gb240 hg w33 hbox hb; have n0 := aM_ (sT_ HB.out hb); have n1 := aM_ (hbox); have n2 := aM_ (sZ_ hg HB.out); have n3 := aM_ (sZ_ hg HB.out); clear HB; have HB := n0; have BK240 := n1; have GW240 := n2; have GE240 := n3; clear n0 n1 n2 n3; clear hb hbox hg) | ((with_reducible refine gate_dst (N := 3) rfl ?_); refine bX_ 3 (cs := #[.slice A1_0 l1_0.length c1_0, .slice A1_1 l1_1.length c1_1, .slice A1_2 l1_2.length c1_2]) (t := 28) ?_; intro gb241 hg w34 hbox hb; have n0 := aM_ (nB_ BK240.out hb); have n1 := aM_ (sT_ HB.out hb); have n2 := aM_ (hbox); have n3 := aM_ (sZ_ hg HB.out); have n4 := aM_ (sZ_ hg HB.out); have n5 := aM_ (nL_ hg BK240.out); have n6 := aM_ (nG_ hg BK240.out); clear BK240; clear HB; have BK240 := n0; have HB := n1; have BK241 := n2; have GW241 := n3; have GE241 := n4; have NB240_241 := n5; have NB241_240 := n6; clear n0 n1 n2 n3 n4 n5 n6; clear hb hbox hg; have hnb35 := NB240_241.out; have hnc35 := NB241_240.out; obtain ⟨hcz36_0, hcz36_1, hcz36_2, hfz36_0, hfz36_1, hfz36_2⟩ := bR3_ BK240.out; obtain ⟨hcz37_0, hcz37_1, hcz37_2, hfz37_0, hfz37_1, hfz37_2⟩ := bR3_ BK241.out) | ((with_reducible refine gate_callee (f := 64) rfl ?_); refine gL_ (some 9) Try.func64 #[.slice A0_0 l0_0.length c0_0, .slice A1_0 l1_0.length c1_0] ?_; (with_reducible refine (laws_eqThreadS.calls k _ _ l0_0 _ _ l1_0 true _ ?side1 ?side2 ?side3 ?side4 A3.out).mono ?_); (case side1 => exact cS_ (Kd.C_below HR0_0.out HB.out)); (case side2 => exact HC0_0.out); (case side3 => exact cS_ (Kd.C_below HR1_0.out HB.out)); (case side4 => exact HC1_0.out); rintro e w38 ⟨rfl, hb⟩; refine ⟨_, rfl, ?_⟩; have n0 := aM_ (nB_ BK240.out hb); have n1 := aM_ (nB_ BK241.out hb); have n2 := aM_ (sT_ HB.out hb); clear BK240; clear BK241; clear HB; have BK240 := n0; have BK241 := n1; have HB := n2; clear n0 n1 n2; obtain ⟨hcz39_0, hcz39_1, hcz39_2, hfz39_0, hfz39_1, hfz39_2⟩ := bR3_ BK240.out; obtain ⟨hcz40_0, hcz40_1, hcz40_2, hfz40_0, hfz40_1, hfz40_2⟩ := bR3_ BK241.out) | ((with_reducible refine gate_callee (f := 65) rfl ?_); refine gL_ (some 15) Try.func65 #[.slice A0_1 l0_1.length c0_1, .slice A1_1 l1_1.length c1_1] ?_; (with_reducible refine (laws_eqChanS.calls k _ _ l0_1 _ _ l1_1 false _ ?side1 ?side2 ?side3 ?side4 A5.out).mono ?_); (case side1 => exact cS_ (Kd.C_below HR0_1.out HB.out)); (case side2 => exact HC0_1.out); (case side3 => exact cS_ (Kd.C_below HR1_1.out HB.out)); (case side4 => exact HC1_1.out); rintro e w41 ⟨rfl, hb⟩; refine ⟨_, rfl, ?_⟩; have n0 := aM_ (nB_ BK240.out hb); have n1 := aM_ (nB_ BK241.out hb); have n2 := aM_ (sT_ HB.out hb); clear BK240; clear BK241; clear HB; have BK240 := n0; have BK241 := n1; have HB := n2; clear n0 n1 n2))
   go_ret
   exact fI_ HB.out
 ·replace c4 := Bool.eq_false_iff.mpr c4
  subst c4
  have H1 : (some false) = some r := by rw [if_neg (show ¬ (false = true) by decide)] at H; exact H
  clear H
  have H := H1
  clear H1
  obtain rfl := Option.some.inj H
  go_enter Try.func19, Try.ntmps19
  go_wp2_with (first | ((with_reducible refine gate_dst (N := 2) rfl ?_); refine bX_ 2 (cs := #[.slice A0_0 l0_0.length c0_0, .slice A0_1 l0_1.length c0_1, .slice A0_2 l0_2.length c0_2]) (t := 28) ?_; intro gb240 hg w42 hbox hb; have n0 := aM_ (sT_ HB.out hb); have n1 := aM_ (hbox); have n2 := aM_ (sZ_ hg HB.out); have n3 := aM_ (sZ_ hg HB.out); clear HB; have HB := n0; have BK240 := n1; have GW240 := n2; have GE240 := n3; clear n0 n1 n2 n3; clear hb hbox hg) | ((with_reducible refine gate_dst (N := 3) rfl ?_); refine bX_ 3 (cs := #[.slice A1_0 l1_0.length c1_0, .slice A1_1 l1_1.length c1_1, .slice A1_2 l1_2.length c1_2]) (t := 28) ?_; intro gb241 hg w43 hbox hb; have n0 := aM_ (nB_ BK240.out hb); have n1 := aM_ (sT_ HB.out hb); have n2 := aM_ (hbox); have n3 := aM_ (sZ_ hg HB.out); have n4 := aM_ (sZ_ hg HB.out); have n5 := aM_ (nL_ hg BK240.out); have n6 := aM_ (nG_ hg BK240.out); clear BK240; clear HB; have BK240 := n0; have HB := n1; have BK241 := n2; have GW241 := n3; have GE241 := n4; have NB240_241 := n5; have NB241_240 := n6; clear n0 n1 n2 n3 n4 n5 n6; clear hb hbox hg; have hnb44 := NB240_241.out; have hnc44 := NB241_240.out; obtain ⟨hcz45_0, hcz45_1, hcz45_2, hfz45_0, hfz45_1, hfz45_2⟩ := bR3_ BK240.out; obtain ⟨hcz46_0, hcz46_1, hcz46_2, hfz46_0, hfz46_1, hfz46_2⟩ := bR3_ BK241.out) | ((with_reducible refine gate_callee (f := 64) rfl ?_); refine gL_ (some 9) Try.func64 #[.slice A0_0 l0_0.length c0_0, .slice A1_0 l1_0.length c1_0] ?_; (with_reducible refine (laws_eqThreadS.calls k _ _ l0_0 _ _ l1_0 false _ ?side1 ?side2 ?side3 ?side4 A3.out).mono ?_); (case side1 => exact cS_ (Kd.C_below HR0_0.out HB.out)); (case side2 => exact HC0_0.out); (case side3 => exact cS_ (Kd.C_below HR1_0.out HB.out)); (case side4 => exact HC1_0.out); rintro e w47 ⟨rfl, hb⟩; refine ⟨_, rfl, ?_⟩; have n0 := aM_ (nB_ BK240.out hb); have n1 := aM_ (nB_ BK241.out hb); have n2 := aM_ (sT_ HB.out hb); clear BK240; clear BK241; clear HB; have BK240 := n0; have BK241 := n1; have HB := n2; clear n0 n1 n2))
  go_ret
  exact fI_ HB.out
def laws_eqIns.f (a0_0 : Int) (a0_1 : Int) (a0_2 : Int) (a0_3 : Int) (a0_4 : Int) (a1_0 : Int) (a1_1 : Int) (a1_2 : Int) (a1_3 : Int) (a1_4 : Int) : Option (Bool) := if a0_0 = a1_0 then (if a0_1 = a1_1 then (if a0_2 = a1_2 then (if a0_3 = a1_3 then (if a0_4 = a1_4 then (some true) else (some false)) else (some false)) else (some false)) else (some false)) else (some false)
set_option maxHeartbeats 8000000 in
set_option maxRecDepth 100000 in
theorem laws_eqIns.calls (a0_0 : Int) (a0_1 : Int) (a0_2 : Int) (a0_3 : Int) (a0_4 : Int) (a1_0 : Int) (a1_1 : Int) (a1_2 : Int) (a1_3 : Int) (a1_4 : Int) (r : Bool) (w : World) (h : laws_eqIns.f a0_0 a0_1 a0_2 a0_3 a0_4 a1_0 a1_1 a1_2 a1_3 a1_4 = some r) :
  Calls Try.prog 165 #[.agg #[.int .i64 a0_0, .int .i64 a0_1, .int .i64 a0_2, .int .i64 a0_3, .int .i64 a0_4], .agg #[.int .i64 a1_0, .int .i64 a1_1, .int .i64 a1_2, .int .i64 a1_3, .int .i64 a1_4]] w fun e w' => e = .returned (.bool r) ∧ Below w.heap.size w w' := by
 have hu192 := Try.underlying192
 have HB := aM_ (Below.refl w.heap.size w)
 have H : (if a0_0 = a1_0 then (if a0_1 = a1_1 then (if a0_2 = a1_2 then (if a0_3 = a1_3 then (if a0_4 = a1_4 then (some true) else (some false)) else (some false)) else (some false)) else (some false)) else (some false)) = some r := h
 clear h
 by_cases c3 : a0_0 = a1_0
 ·rw [if_pos c3] at H
  have c3b0 : (a0_0 == a1_0) = true := beq_iff_eq.mpr c3
  have c3b1 : (a0_0 != a1_0) = false := bne_eq_false_iff_eq.mpr c3
  clear c3
  by_cases c4 : a0_1 = a1_1
  ·rw [if_pos c4] at H
   have c4b0 : (a0_1 == a1_1) = true := beq_iff_eq.mpr c4
   have c4b1 : (a0_1 != a1_1) = false := bne_eq_false_iff_eq.mpr c4
   clear c4
   by_cases c5 : a0_2 = a1_2
   ·rw [if_pos c5] at H
    have c5b0 : (a0_2 == a1_2) = true := beq_iff_eq.mpr c5
    have c5b1 : (a0_2 != a1_2) = false := bne_eq_false_iff_eq.mpr c5
    clear c5
    by_cases c6 : a0_3 = a1_3
    ·rw [if_pos c6] at H
     have c6b0 : (a0_3 == a1_3) = true := beq_iff_eq.mpr c6
     have c6b1 : (a0_3 != a1_3) = false := bne_eq_false_iff_eq.mpr c6
     clear c6
     by_cases c7 : a0_4 = a1_4
     ·rw [if_pos c7] at H
      have c7b0 : (a0_4 == a1_4) = true := beq_iff_eq.mpr c7
      have c7b1 : (a0_4 != a1_4) = false := bne_eq_false_iff_eq.mpr c7
      clear c7
      obtain rfl := Option.some.inj H
      go_enter Try.func165, Try.ntmps165
      go_wp2_with (first | ((with_reducible refine gate_dst (N := 2) rfl ?_); refine bX_ 2 (cs := #[.int .i64 a0_0, .int .i64 a0_1, .int .i64 a0_2, .int .i64 a0_3, .int .i64 a0_4]) (t := 192) ?_; intro gb245 hg w8 hbox hb; have n0 := aM_ (sT_ HB.out hb); have n1 := aM_ (hbox); have n2 := aM_ (sZ_ hg HB.out); have n3 := aM_ (sZ_ hg HB.out); clear HB; have HB := n0; have BK245 := n1; have GW245 := n2; have GE245 := n3; clear n0 n1 n2 n3; clear hb hbox hg) | ((with_reducible refine gate_dst (N := 3) rfl ?_); refine bX_ 3 (cs := #[.int .i64 a1_0, .int .i64 a1_1, .int .i64 a1_2, .int .i64 a1_3, .int .i64 a1_4]) (t := 192) ?_; intro gb246 hg w9 hbox hb; have n0 := aM_ (nB_ BK245.out hb); have n1 := aM_ (sT_ HB.out hb); have n2 := aM_ (hbox); have n3 := aM_ (sZ_ hg HB.out); have n4 := aM_ (sZ_ hg HB.out); have n5 := aM_ (nL_ hg BK245.out); have n6 := aM_ (nG_ hg BK245.out); clear BK245; clear HB; have BK245 := n0; have HB := n1; have BK246 := n2; have GW246 := n3; have GE246 := n4; have NB245_246 := n5; have NB246_245 := n6; clear n0 n1 n2 n3 n4 n5 n6; clear hb hbox hg; have hnb10 := NB245_246.out; have hnc10 := NB246_245.out; obtain ⟨hcz11_0, hcz11_1, hcz11_2, hcz11_3, hcz11_4, hfz11_0, hfz11_1, hfz11_2, hfz11_3, hfz11_4⟩ := bR5_ BK245.out; obtain ⟨hcz12_0, hcz12_1, hcz12_2, hcz12_3, hcz12_4, hfz12_0, hfz12_1, hfz12_2, hfz12_3, hfz12_4⟩ := bR5_ BK246.out))
      go_ret
      exact fI_ HB.out
     ·rw [if_neg c7] at H
      have c7b0 : (a0_4 == a1_4) = false := beq_eq_false_iff_ne.mpr c7
      have c7b1 : (a0_4 != a1_4) = true := bne_iff_ne.mpr c7
      obtain rfl := Option.some.inj H
      go_enter Try.func165, Try.ntmps165
      go_wp2_with (first | ((with_reducible refine gate_dst (N := 2) rfl ?_); refine bX_ 2 (cs := #[.int .i64 a0_0, .int .i64 a0_1, .int .i64 a0_2, .int .i64 a0_3, .int .i64 a0_4]) (t := 192) ?_; intro gb245 hg w13 hbox hb; have n0 := aM_ (sT_ HB.out hb); have n1 := aM_ (hbox); have n2 := aM_ (sZ_ hg HB.out); have n3 := aM_ (sZ_ hg HB.out); clear HB; have HB := n0; have BK245 := n1; have GW245 := n2; have GE245 := n3; clear n0 n1 n2 n3; clear hb hbox hg) | ((with_reducible refine gate_dst (N := 3) rfl ?_); refine bX_ 3 (cs := #[.int .i64 a1_0, .int .i64 a1_1, .int .i64 a1_2, .int .i64 a1_3, .int .i64 a1_4]) (t := 192) ?_; intro gb246 hg w14 hbox hb; have n0 := aM_ (nB_ BK245.out hb); have n1 := aM_ (sT_ HB.out hb); have n2 := aM_ (hbox); have n3 := aM_ (sZ_ hg HB.out); have n4 := aM_ (sZ_ hg HB.out); have n5 := aM_ (nL_ hg BK245.out); have n6 := aM_ (nG_ hg BK245.out); clear BK245; clear HB; have BK245 := n0; have HB := n1; have BK246 := n2; have GW246 := n3; have GE246 := n4; have NB245_246 := n5; have NB246_245 := n6; clear n0 n1 n2 n3 n4 n5 n6; clear hb hbox hg; have hnb15 := NB245_246.out; have hnc15 := NB246_245.out; obtain ⟨hcz16_0, hcz16_1, hcz16_2, hcz16_3, hcz16_4, hfz16_0, hfz16_1, hfz16_2, hfz16_3, hfz16_4⟩ := bR5_ BK245.out; obtain ⟨hcz17_0, hcz17_1, hcz17_2, hcz17_3, hcz17_4, hfz17_0, hfz17_1, hfz17_2, hfz17_3, hfz17_4⟩ := bR5_ BK246.out))
      go_ret
      exact fI_ HB.out
    ·rw [if_neg c6] at H
     have c6b0 : (a0_3 == a1_3) = false := beq_eq_false_iff_ne.mpr c6
     have c6b1 : (a0_3 != a1_3) = true := bne_iff_ne.mpr c6
     obtain rfl := Option.some.inj H
     go_enter Try.func165, Try.ntmps165
     go_wp2_with (first | ((with_reducible refine gate_dst (N := 2) rfl ?_); refine bX_ 2 (cs := #[.int .i64 a0_0, .int .i64 a0_1, .int .i64 a0_2, .int .i64 a0_3, .int .i64 a0_4]) (t := 192) ?_; intro gb245 hg w18 hbox hb; have n0 := aM_ (sT_ HB.out hb); have n1 := aM_ (hbox); have n2 := aM_ (sZ_ hg HB.out); have n3 := aM_ (sZ_ hg HB.out); clear HB; have HB := n0; have BK245 := n1; have GW245 := n2; have GE245 := n3; clear n0 n1 n2 n3; clear hb hbox hg) | ((with_reducible refine gate_dst (N := 3) rfl ?_); refine bX_ 3 (cs := #[.int .i64 a1_0, .int .i64 a1_1, .int .i64 a1_2, .int .i64 a1_3, .int .i64 a1_4]) (t := 192) ?_; intro gb246 hg w19 hbox hb; have n0 := aM_ (nB_ BK245.out hb); have n1 := aM_ (sT_ HB.out hb); have n2 := aM_ (hbox); have n3 := aM_ (sZ_ hg HB.out); have n4 := aM_ (sZ_ hg HB.out); have n5 := aM_ (nL_ hg BK245.out); have n6 := aM_ (nG_ hg BK245.out); clear BK245; clear HB; have BK245 := n0; have HB := n1; have BK246 := n2; have GW246 := n3; have GE246 := n4; have NB245_246 := n5; have NB246_245 := n6; clear n0 n1 n2 n3 n4 n5 n6; clear hb hbox hg; have hnb20 := NB245_246.out; have hnc20 := NB246_245.out; obtain ⟨hcz21_0, hcz21_1, hcz21_2, hcz21_3, hcz21_4, hfz21_0, hfz21_1, hfz21_2, hfz21_3, hfz21_4⟩ := bR5_ BK245.out; obtain ⟨hcz22_0, hcz22_1, hcz22_2, hcz22_3, hcz22_4, hfz22_0, hfz22_1, hfz22_2, hfz22_3, hfz22_4⟩ := bR5_ BK246.out))
     go_ret
     exact fI_ HB.out
   ·rw [if_neg c5] at H
    have c5b0 : (a0_2 == a1_2) = false := beq_eq_false_iff_ne.mpr c5
    have c5b1 : (a0_2 != a1_2) = true := bne_iff_ne.mpr c5
    obtain rfl := Option.some.inj H
    go_enter Try.func165, Try.ntmps165
    go_wp2_with (first | ((with_reducible refine gate_dst (N := 2) rfl ?_); refine bX_ 2 (cs := #[.int .i64 a0_0, .int .i64 a0_1, .int .i64 a0_2, .int .i64 a0_3, .int .i64 a0_4]) (t := 192) ?_; intro gb245 hg w23 hbox hb; have n0 := aM_ (sT_ HB.out hb); have n1 := aM_ (hbox); have n2 := aM_ (sZ_ hg HB.out); have n3 := aM_ (sZ_ hg HB.out); clear HB; have HB := n0; have BK245 := n1; have GW245 := n2; have GE245 := n3; clear n0 n1 n2 n3; clear hb hbox hg) | ((with_reducible refine gate_dst (N := 3) rfl ?_); refine bX_ 3 (cs := #[.int .i64 a1_0, .int .i64 a1_1, .int .i64 a1_2, .int .i64 a1_3, .int .i64 a1_4]) (t := 192) ?_; intro gb246 hg w24 hbox hb; have n0 := aM_ (nB_ BK245.out hb); have n1 := aM_ (sT_ HB.out hb); have n2 := aM_ (hbox); have n3 := aM_ (sZ_ hg HB.out); have n4 := aM_ (sZ_ hg HB.out); have n5 := aM_ (nL_ hg BK245.out); have n6 := aM_ (nG_ hg BK245.out); clear BK245; clear HB; have BK245 := n0; have HB := n1; have BK246 := n2; have GW246 := n3; have GE246 := n4; have NB245_246 := n5; have NB246_245 := n6; clear n0 n1 n2 n3 n4 n5 n6; clear hb hbox hg; have hnb25 := NB245_246.out; have hnc25 := NB246_245.out; obtain ⟨hcz26_0, hcz26_1, hcz26_2, hcz26_3, hcz26_4, hfz26_0, hfz26_1, hfz26_2, hfz26_3, hfz26_4⟩ := bR5_ BK245.out; obtain ⟨hcz27_0, hcz27_1, hcz27_2, hcz27_3, hcz27_4, hfz27_0, hfz27_1, hfz27_2, hfz27_3, hfz27_4⟩ := bR5_ BK246.out))
    go_ret
    exact fI_ HB.out
  ·rw [if_neg c4] at H
   have c4b0 : (a0_1 == a1_1) = false := beq_eq_false_iff_ne.mpr c4
   have c4b1 : (a0_1 != a1_1) = true := bne_iff_ne.mpr c4
   obtain rfl := Option.some.inj H
   go_enter Try.func165, Try.ntmps165
   go_wp2_with (first | ((with_reducible refine gate_dst (N := 2) rfl ?_); refine bX_ 2 (cs := #[.int .i64 a0_0, .int .i64 a0_1, .int .i64 a0_2, .int .i64 a0_3, .int .i64 a0_4]) (t := 192) ?_; intro gb245 hg w28 hbox hb; have n0 := aM_ (sT_ HB.out hb); have n1 := aM_ (hbox); have n2 := aM_ (sZ_ hg HB.out); have n3 := aM_ (sZ_ hg HB.out); clear HB; have HB := n0; have BK245 := n1; have GW245 := n2; have GE245 := n3; clear n0 n1 n2 n3; clear hb hbox hg) | ((with_reducible refine gate_dst (N := 3) rfl ?_); refine bX_ 3 (cs := #[.int .i64 a1_0, .int .i64 a1_1, .int .i64 a1_2, .int .i64 a1_3, .int .i64 a1_4]) (t := 192) ?_; intro gb246 hg w29 hbox hb; have n0 := aM_ (nB_ BK245.out hb); have n1 := aM_ (sT_ HB.out hb); have n2 := aM_ (hbox); have n3 := aM_ (sZ_ hg HB.out); have n4 := aM_ (sZ_ hg HB.out); have n5 := aM_ (nL_ hg BK245.out); have n6 := aM_ (nG_ hg BK245.out); clear BK245; clear HB; have BK245 := n0; have HB := n1; have BK246 := n2; have GW246 := n3; have GE246 := n4; have NB245_246 := n5; have NB246_245 := n6; clear n0 n1 n2 n3 n4 n5 n6; clear hb hbox hg; have hnb30 := NB245_246.out; have hnc30 := NB246_245.out; obtain ⟨hcz31_0, hcz31_1, hcz31_2, hcz31_3, hcz31_4, hfz31_0, hfz31_1, hfz31_2, hfz31_3, hfz31_4⟩ := bR5_ BK245.out; obtain ⟨hcz32_0, hcz32_1, hcz32_2, hcz32_3, hcz32_4, hfz32_0, hfz32_1, hfz32_2, hfz32_3, hfz32_4⟩ := bR5_ BK246.out))
   go_ret
   exact fI_ HB.out
 ·rw [if_neg c3] at H
  have c3b0 : (a0_0 == a1_0) = false := beq_eq_false_iff_ne.mpr c3
  have c3b1 : (a0_0 != a1_0) = true := bne_iff_ne.mpr c3
  obtain rfl := Option.some.inj H
  go_enter Try.func165, Try.ntmps165
  go_wp2_with (first | ((with_reducible refine gate_dst (N := 2) rfl ?_); refine bX_ 2 (cs := #[.int .i64 a0_0, .int .i64 a0_1, .int .i64 a0_2, .int .i64 a0_3, .int .i64 a0_4]) (t := 192) ?_; intro gb245 hg w33 hbox hb; have n0 := aM_ (sT_ HB.out hb); have n1 := aM_ (hbox); have n2 := aM_ (sZ_ hg HB.out); have n3 := aM_ (sZ_ hg HB.out); clear HB; have HB := n0; have BK245 := n1; have GW245 := n2; have GE245 := n3; clear n0 n1 n2 n3; clear hb hbox hg) | ((with_reducible refine gate_dst (N := 3) rfl ?_); refine bX_ 3 (cs := #[.int .i64 a1_0, .int .i64 a1_1, .int .i64 a1_2, .int .i64 a1_3, .int .i64 a1_4]) (t := 192) ?_; intro gb246 hg w34 hbox hb; have n0 := aM_ (nB_ BK245.out hb); have n1 := aM_ (sT_ HB.out hb); have n2 := aM_ (hbox); have n3 := aM_ (sZ_ hg HB.out); have n4 := aM_ (sZ_ hg HB.out); have n5 := aM_ (nL_ hg BK245.out); have n6 := aM_ (nG_ hg BK245.out); clear BK245; clear HB; have BK245 := n0; have HB := n1; have BK246 := n2; have GW246 := n3; have GE246 := n4; have NB245_246 := n5; have NB246_245 := n6; clear n0 n1 n2 n3 n4 n5 n6; clear hb hbox hg; have hnb35 := NB245_246.out; have hnc35 := NB246_245.out; obtain ⟨hcz36_0, hcz36_1, hcz36_2, hcz36_3, hcz36_4, hfz36_0, hfz36_1, hfz36_2, hfz36_3, hfz36_4⟩ := bR5_ BK245.out; obtain ⟨hcz37_0, hcz37_1, hcz37_2, hcz37_3, hcz37_4, hfz37_0, hfz37_1, hfz37_2, hfz37_3, hfz37_4⟩ := bR5_ BK246.out))
  go_ret
  exact fI_ HB.out
def laws_eqInsS.l0 : Nat → List (S192) → List (S192) → Int → Option (Bool)
  | 0, _, _, _ => none
  | k + 1, x0, x1, x5 => if x5 < (x0.length : Int) then (if 0 ≤ x5 then (if x5 < (x1.length : Int) then ((laws_eqIns.f ((rd_T192 x0 x5).f0) ((rd_T192 x0 x5).f1) ((rd_T192 x0 x5).f2) ((rd_T192 x0 x5).f3) ((rd_T192 x0 x5).f4) ((rd_T192 x1 x5).f0) ((rd_T192 x1 x5).f1) ((rd_T192 x1 x5).f2) ((rd_T192 x1 x5).f3) ((rd_T192 x1 x5).f4)).bind fun t249 => (if t249 = true then (laws_eqInsS.l0 k x0 x1 (wrap64 (x5 + 1))) else (some false))) else (none)) else (none)) else (some true)
def laws_eqInsS.f (k : Nat) (l0 : List (S192)) (l1 : List (S192)) : Option (Bool) := if (l0.length : Int) = (l1.length : Int) then (laws_eqInsS.l0 k l0 l1 0) else (some false)
def laws_eqInsS.T6 : Bool × List (List Nat × List Nat) := (true, [([], []), ([], []), ([0, 1], [0, 1]), ([2], [2]), ([], []), ([], []), ([4, 5], [4, 5]), ([6], [6]), ([3, 7], [3, 7]), ([8], [8])])
def laws_eqInsS.B6 : List Nat := [0, 0, 3, 7, 0, 0, 48, 112, 255, 511]
theorem laws_eqInsS.tab6 : rtab .any (opsOf Try.f130 6) = laws_eqInsS.T6 := by kernel_rfl
theorem laws_eqInsS.bits6 : waitsOk laws_eqInsS.T6.2 laws_eqInsS.B6 = true := by kernel_rfl
set_option maxHeartbeats 8000000 in
set_option maxRecDepth 100000 in
theorem laws_eqInsS.calls (k : Nat) (A0 : Option Addr) (c0 : Nat) (l0 : List (S192)) (A1 : Option Addr) (c1 : Nat) (l1 : List (S192)) (r : Bool) (w : World) (hr0 : Kd.C k192 w A0 l0.length l0) (hc0 : l0.length ≤ c0) (hr1 : Kd.C k192 w A1 l1.length l1) (hc1 : l1.length ≤ c1) (h : laws_eqInsS.f k l0 l1 = some r) :
  Calls Try.prog 130 #[.slice A0 l0.length c0, .slice A1 l1.length c1] w fun e w' => e = .returned (.bool r) ∧ Below w.heap.size w w' := by
 have hu192 := Try.underlying192
 have HR0 := aM_ hr0
 have HC0 := aM_ hc0
 clear hr0 hc0
 have HR1 := aM_ hr1
 have HC1 := aM_ hc1
 clear hr1 hc1
 have HB := aM_ (Below.refl w.heap.size w)
 have H : (if (l0.length : Int) = (l1.length : Int) then (laws_eqInsS.l0 k l0 l1 0) else (some false)) = some r := h
 clear h
 by_cases c3 : (l0.length : Int) = (l1.length : Int)
 ·rw [if_pos c3] at H
  have c3b0 : ((l0.length : Int) == (l1.length : Int)) = true := beq_iff_eq.mpr c3
  have c3b1 : ((l0.length : Int) != (l1.length : Int)) = false := bne_eq_false_iff_eq.mpr c3
  have c3b2 : (l0.length == l1.length) = true := by first | simpa using c3 | (simp at c3 ⊢; omega)
  clear c3
  have H' := aM_ H
  clear H
  go_enter Try.func130, Try.ntmps130
  go_wp2
  go_loopg [5] k (fun kq v5 w' => ∃ (x5_1 : Int), v5 = .int .i64 x5_1 ∧ Aside0 (laws_eqInsS.l0 kq l0 l1 x5_1 = some r) ∧ Aside0 (kq ≤ k) ∧ Aside0 (Below w.heap.size w w'))
  case atStart => exact ⟨(0), (by first | rfl | (simp; done) | (simp [*]; done)), H', ⟨Nat.le_refl _⟩, ⟨gW_ HB.out⟩⟩
  case round =>
   clear H'
   try clear c1
   try clear p2
   try clear c3
   try clear c3b0
   try clear c3b1
   try clear c3b2
   obtain ⟨x5_1, rfl, HA, HK1, HB⟩ := hrel
   cases gk with
   | zero => exact absurd HA.out (by simp [laws_eqInsS.l0])
   | succ k1 =>
    have H := HA.out
    clear HA
    simp only [laws_eqInsS.l0] at H
    by_cases c4 : x5_1 < (l0.length : Int)
    ·rw [if_pos c4] at H
     have c4b0 : decide (x5_1 < (l0.length : Int)) = true := decide_eq_true c4
     clear c4
     by_cases c5 : 0 ≤ x5_1
     ·rw [if_pos c5] at H
      have c5b0 : decide (0 ≤ x5_1) = true := decide_eq_true c5
      clear c5
      by_cases c6 : x5_1 < (l1.length : Int)
      ·rw [if_pos c6] at H
       have c6b0 : decide (x5_1 < (l1.length : Int)) = true := decide_eq_true c6
       clear c6
       replace H := Option.bind_eq_some_iff.mp H
       obtain ⟨t249, A70, H⟩ := H
       replace H : (if t249 = true then (laws_eqInsS.l0 k1 l0 l1 (wrap64 (x5_1 + 1))) else (some false)) = some r := H
       have A7 := aM_ A70
       clear A70
       by_cases c8 : t249 = true
       ·subst c8
        have H1 : (laws_eqInsS.l0 k1 l0 l1 (wrap64 (x5_1 + 1))) = some r := by rw [if_pos rfl] at H; exact H
        clear H
        have H := H1
        clear H1
        have H' := aM_ H
        clear H
        try go_wp2
        have n0 := aM_ (below_drew1 HB.out)
        clear HB
        have HB := n0
        clear n0
        have p247 : 0 ≤ (x5_1 : Int) := of_decide_eq_true (by first | (with_reducible assumption) | assumption)
        have q247 : x5_1 < (l0.length : Int) := of_decide_eq_true (by first | (with_reducible assumption) | assumption)
        obtain ⟨ad247, e247, hx247_0, hx247_1, hx247_2, hx247_3, hx247_4⟩ := at_T192 HR0.out x5_1 p247 q247
        have hw247_4 := hx247_4
        have hw247_3 := hx247_3
        have hw247_2 := hx247_2
        have hw247_1 := hx247_1
        have hw247_0 := hx247_0
        cases e247
        replace hx247_0 := cB_ HB.out hx247_0
        replace hx247_1 := cB_ HB.out hx247_1
        replace hx247_2 := cB_ HB.out hx247_2
        replace hx247_3 := cB_ HB.out hx247_3
        replace hx247_4 := cB_ HB.out hx247_4
        replace p247 := eq_true p247
        replace q247 := eq_true q247
        have p248 : 0 ≤ (x5_1 : Int) := of_decide_eq_true (by first | (with_reducible assumption) | assumption)
        have q248 : x5_1 < (l1.length : Int) := of_decide_eq_true (by first | (with_reducible assumption) | assumption)
        obtain ⟨ad248, e248, hx248_0, hx248_1, hx248_2, hx248_3, hx248_4⟩ := at_T192 HR1.out x5_1 p248 q248
        have hw248_4 := hx248_4
        have hw248_3 := hx248_3
        have hw248_2 := hx248_2
        have hw248_1 := hx248_1
        have hw248_0 := hx248_0
        cases e248
        replace hx248_0 := cB_ HB.out hx248_0
        replace hx248_1 := cB_ HB.out hx248_1
        replace hx248_2 := cB_ HB.out hx248_2
        replace hx248_3 := cB_ HB.out hx248_3
        replace hx248_4 := cB_ HB.out hx248_4
        replace p248 := eq_true p248
        replace q248 := eq_true q248
        refine start_ (n := 10) (S := fun w' => w'.cell? (ad247.add ((x5_1).toNat * 5)) = some (.int .i64 ((rd_T192 l0 x5_1).f0)) ∧ w'.cell? ⟨(ad247.add ((x5_1).toNat * 5)).block, (ad247.add ((x5_1).toNat * 5)).off + 1, none⟩ = some (.int .i64 ((rd_T192 l0 x5_1).f1)) ∧ w'.cell? ⟨(ad247.add ((x5_1).toNat * 5)).block, (ad247.add ((x5_1).toNat * 5)).off + 2, none⟩ = some (.int .i64 ((rd_T192 l0 x5_1).f2)) ∧ w'.cell? ⟨(ad247.add ((x5_1).toNat * 5)).block, (ad247.add ((x5_1).toNat * 5)).off + 3, none⟩ = some (.int .i64 ((rd_T192 l0 x5_1).f3)) ∧ w'.cell? ⟨(ad247.add ((x5_1).toNat * 5)).block, (ad247.add ((x5_1).toNat * 5)).off + 4, none⟩ = some (.int .i64 ((rd_T192 l0 x5_1).f4)) ∧ w'.cell? (ad248.add ((x5_1).toNat * 5)) = some (.int .i64 ((rd_T192 l1 x5_1).f0)) ∧ w'.cell? ⟨(ad248.add ((x5_1).toNat * 5)).block, (ad248.add ((x5_1).toNat * 5)).off + 1, none⟩ = some (.int .i64 ((rd_T192 l1 x5_1).f1)) ∧ w'.cell? ⟨(ad248.add ((x5_1).toNat * 5)).block, (ad248.add ((x5_1).toNat * 5)).off + 2, none⟩ = some (.int .i64 ((rd_T192 l1 x5_1).f2)) ∧ w'.cell? ⟨(ad248.add ((x5_1).toNat * 5)).block, (ad248.add ((x5_1).toNat * 5)).off + 3, none⟩ = some (.int .i64 ((rd_T192 l1 x5_1).f3)) ∧ w'.cell? ⟨(ad248.add ((x5_1).toNat * 5)).block, (ad248.add ((x5_1).toNat * 5)).off + 4, none⟩ = some (.int .i64 ((rd_T192 l1 x5_1).f4))) (ds := []) (mk_ 10 0) (by kernel_rfl) rfl rfl ⟨(cB_ HB.out hw247_0 :), (cB_ HB.out hw247_1 :), (cB_ HB.out hw247_2 :), (cB_ HB.out hw247_3 :), (cB_ HB.out hw247_4 :), (cB_ HB.out hw248_0 :), (cB_ HB.out hw248_1 :), (cB_ HB.out hw248_2 :), (cB_ HB.out hw248_3 :), (cB_ HB.out hw248_4 :)⟩ (fun hHeld => ?_); refine with_tabW laws_eqInsS.tab6 laws_eqInsS.bits6 (fun HT_ HW_ => ?_)
        generalize wr.drew = w9 at HB hx247_0 hx247_1 hx247_2 hx247_3 hx247_4 hx248_0 hx248_1 hx248_2 hx248_3 hx248_4 hHeld ⊢
        refine pU_ 0 (some 17) (mk_ 10 1) ?_
        refine pU_ 1 (some 18) (mk_ 10 3) ?_
        refine pU_ 2 (some 19) (mk_ 10 7) ?_
        refine pU_ 4 (some 21) (mk_ 10 23) ?_
        refine pU_ 5 (some 22) (mk_ 10 55) ?_
        refine pU_ 6 (some 23) (mk_ 10 119) ?_
        refine tK10_ 3 (some 20) (mk_ 10 127) ?_
        refine tK10_ 7 (some 24) (mk_ 10 255) ?_
        refine oN_ 8 (some 25) (mk_ 10 511) (fun K hK => ?_)
        refine gO_ Try.func165 #[.agg #[.int .i64 ((rd_T192 l0 x5_1).f0), .int .i64 ((rd_T192 l0 x5_1).f1), .int .i64 ((rd_T192 l0 x5_1).f2), .int .i64 ((rd_T192 l0 x5_1).f3), .int .i64 ((rd_T192 l0 x5_1).f4)], .agg #[.int .i64 ((rd_T192 l1 x5_1).f0), .int .i64 ((rd_T192 l1 x5_1).f1), .int .i64 ((rd_T192 l1 x5_1).f2), .int .i64 ((rd_T192 l1 x5_1).f3), .int .i64 ((rd_T192 l1 x5_1).f4)]] ?_
        with_reducible refine (laws_eqIns.calls ((rd_T192 l0 x5_1).f0) ((rd_T192 l0 x5_1).f1) ((rd_T192 l0 x5_1).f2) ((rd_T192 l0 x5_1).f3) ((rd_T192 l0 x5_1).f4) ((rd_T192 l1 x5_1).f0) ((rd_T192 l1 x5_1).f1) ((rd_T192 l1 x5_1).f2) ((rd_T192 l1 x5_1).f3) ((rd_T192 l1 x5_1).f4) true _ A7.out).mono ?_
        rintro e w10 ⟨rfl, hb⟩
        refine ⟨_, rfl, ?_⟩
        have n0 := aM_ (sT_ HB.out hb)
        clear HB
        have HB := n0
        clear n0
        (try clear hb)
        (try clear hb2)
        (try clear hk)
        (try clear hi)
        refine hK.out _ _ ⟨(cB_ HB.out hw247_0 :), (cB_ HB.out hw247_1 :), (cB_ HB.out hw247_2 :), (cB_ HB.out hw247_3 :), (cB_ HB.out hw247_4 :), (cB_ HB.out hw248_0 :), (cB_ HB.out hw248_1 :), (cB_ HB.out hw248_2 :), (cB_ HB.out hw248_3 :), (cB_ HB.out hw248_4 :)⟩ (fun hHeld => ?_)
        clear hK K
        refine norm_ (a' := ?_) ?_ ?_
        rotate_left
        ·show Act.put _ (some 25) _ = _
         simp only [pt_, pn_, sI_, s0_, s1_, i64_w, i32_w]
         rfl
        refine pU_ 9 (some 26) (mk_ 10 1023) ?_
        refine done_ (done_of HT_.out (by kernel_rfl)) ?_
        try go_wp2
        go_roundg k1
        case measure => have := HK1.out; omega
        case rel => exact ⟨(wrap64 (x5_1 + 1)), (by first | rfl | (simp; done) | (simp [*]; done)), H', ⟨by have := HK1.out; omega⟩, ⟨gW_ HB.out⟩⟩
       ·replace c8 := Bool.eq_false_iff.mpr c8
        subst c8
        have H1 : (some false) = some r := by rw [if_neg (show ¬ (false = true) by decide)] at H; exact H
        clear H
        have H := H1
        clear H1
        obtain rfl := Option.some.inj H
        try go_wp2
        have n0 := aM_ (below_drew1 HB.out)
        clear HB
        have HB := n0
        clear n0
        have p247 : 0 ≤ (x5_1 : Int) := of_decide_eq_true (by first | (with_reducible assumption) | assumption)
        have q247 : x5_1 < (l0.length : Int) := of_decide_eq_true (by first | (with_reducible assumption) | assumption)
        obtain ⟨ad247, e247, hx247_0, hx247_1, hx247_2, hx247_3, hx247_4⟩ := at_T192 HR0.out x5_1 p247 q247
        have hw247_4 := hx247_4
        have hw247_3 := hx247_3
        have hw247_2 := hx247_2
        have hw247_1 := hx247_1
        have hw247_0 := hx247_0
        cases e247
        replace hx247_0 := cB_ HB.out hx247_0
        replace hx247_1 := cB_ HB.out hx247_1
        replace hx247_2 := cB_ HB.out hx247_2
        replace hx247_3 := cB_ HB.out hx247_3
        replace hx247_4 := cB_ HB.out hx247_4
        replace p247 := eq_true p247
        replace q247 := eq_true q247
        have p248 : 0 ≤ (x5_1 : Int) := of_decide_eq_true (by first | (with_reducible assumption) | assumption)
        have q248 : x5_1 < (l1.length : Int) := of_decide_eq_true (by first | (with_reducible assumption) | assumption)
        obtain ⟨ad248, e248, hx248_0, hx248_1, hx248_2, hx248_3, hx248_4⟩ := at_T192 HR1.out x5_1 p248 q248
        have hw248_4 := hx248_4
        have hw248_3 := hx248_3
        have hw248_2 := hx248_2
        have hw248_1 := hx248_1
        have hw248_0 := hx248_0
        cases e248
        replace hx248_0 := cB_ HB.out hx248_0
        replace hx248_1 := cB_ HB.out hx248_1
        replace hx248_2 := cB_ HB.out hx248_2
        replace hx248_3 := cB_ HB.out hx248_3
        replace hx248_4 := cB_ HB.out hx248_4
        replace p248 := eq_true p248
        replace q248 := eq_true q248
        refine start_ (n := 10) (S := fun w' => w'.cell? (ad247.add ((x5_1).toNat * 5)) = some (.int .i64 ((rd_T192 l0 x5_1).f0)) ∧ w'.cell? ⟨(ad247.add ((x5_1).toNat * 5)).block, (ad247.add ((x5_1).toNat * 5)).off + 1, none⟩ = some (.int .i64 ((rd_T192 l0 x5_1).f1)) ∧ w'.cell? ⟨(ad247.add ((x5_1).toNat * 5)).block, (ad247.add ((x5_1).toNat * 5)).off + 2, none⟩ = some (.int .i64 ((rd_T192 l0 x5_1).f2)) ∧ w'.cell? ⟨(ad247.add ((x5_1).toNat * 5)).block, (ad247.add ((x5_1).toNat * 5)).off + 3, none⟩ = some (.int .i64 ((rd_T192 l0 x5_1).f3)) ∧ w'.cell? ⟨(ad247.add ((x5_1).toNat * 5)).block, (ad247.add ((x5_1).toNat * 5)).off + 4, none⟩ = some (.int .i64 ((rd_T192 l0 x5_1).f4)) ∧ w'.cell? (ad248.add ((x5_1).toNat * 5)) = some (.int .i64 ((rd_T192 l1 x5_1).f0)) ∧ w'.cell? ⟨(ad248.add ((x5_1).toNat * 5)).block, (ad248.add ((x5_1).toNat * 5)).off + 1, none⟩ = some (.int .i64 ((rd_T192 l1 x5_1).f1)) ∧ w'.cell? ⟨(ad248.add ((x5_1).toNat * 5)).block, (ad248.add ((x5_1).toNat * 5)).off + 2, none⟩ = some (.int .i64 ((rd_T192 l1 x5_1).f2)) ∧ w'.cell? ⟨(ad248.add ((x5_1).toNat * 5)).block, (ad248.add ((x5_1).toNat * 5)).off + 3, none⟩ = some (.int .i64 ((rd_T192 l1 x5_1).f3)) ∧ w'.cell? ⟨(ad248.add ((x5_1).toNat * 5)).block, (ad248.add ((x5_1).toNat * 5)).off + 4, none⟩ = some (.int .i64 ((rd_T192 l1 x5_1).f4))) (ds := []) (mk_ 10 0) (by kernel_rfl) rfl rfl ⟨(cB_ HB.out hw247_0 :), (cB_ HB.out hw247_1 :), (cB_ HB.out hw247_2 :), (cB_ HB.out hw247_3 :), (cB_ HB.out hw247_4 :), (cB_ HB.out hw248_0 :), (cB_ HB.out hw248_1 :), (cB_ HB.out hw248_2 :), (cB_ HB.out hw248_3 :), (cB_ HB.out hw248_4 :)⟩ (fun hHeld => ?_); refine with_tabW laws_eqInsS.tab6 laws_eqInsS.bits6 (fun HT_ HW_ => ?_)
        generalize wr.drew = w11 at HB hx247_0 hx247_1 hx247_2 hx247_3 hx247_4 hx248_0 hx248_1 hx248_2 hx248_3 hx248_4 hHeld ⊢
        refine pU_ 0 (some 17) (mk_ 10 1) ?_
        refine pU_ 1 (some 18) (mk_ 10 3) ?_
        refine pU_ 2 (some 19) (mk_ 10 7) ?_
        refine pU_ 4 (some 21) (mk_ 10 23) ?_
        refine pU_ 5 (some 22) (mk_ 10 55) ?_
        refine pU_ 6 (some 23) (mk_ 10 119) ?_
        refine tK10_ 3 (some 20) (mk_ 10 127) ?_
        refine tK10_ 7 (some 24) (mk_ 10 255) ?_
        refine oN_ 8 (some 25) (mk_ 10 511) (fun K hK => ?_)
        refine gO_ Try.func165 #[.agg #[.int .i64 ((rd_T192 l0 x5_1).f0), .int .i64 ((rd_T192 l0 x5_1).f1), .int .i64 ((rd_T192 l0 x5_1).f2), .int .i64 ((rd_T192 l0 x5_1).f3), .int .i64 ((rd_T192 l0 x5_1).f4)], .agg #[.int .i64 ((rd_T192 l1 x5_1).f0), .int .i64 ((rd_T192 l1 x5_1).f1), .int .i64 ((rd_T192 l1 x5_1).f2), .int .i64 ((rd_T192 l1 x5_1).f3), .int .i64 ((rd_T192 l1 x5_1).f4)]] ?_
        with_reducible refine (laws_eqIns.calls ((rd_T192 l0 x5_1).f0) ((rd_T192 l0 x5_1).f1) ((rd_T192 l0 x5_1).f2) ((rd_T192 l0 x5_1).f3) ((rd_T192 l0 x5_1).f4) ((rd_T192 l1 x5_1).f0) ((rd_T192 l1 x5_1).f1) ((rd_T192 l1 x5_1).f2) ((rd_T192 l1 x5_1).f3) ((rd_T192 l1 x5_1).f4) false _ A7.out).mono ?_
        rintro e w12 ⟨rfl, hb⟩
        refine ⟨_, rfl, ?_⟩
        have n0 := aM_ (sT_ HB.out hb)
        clear HB
        have HB := n0
        clear n0
        (try clear hb)
        (try clear hb2)
        (try clear hk)
        (try clear hi)
        refine hK.out _ _ ⟨(cB_ HB.out hw247_0 :), (cB_ HB.out hw247_1 :), (cB_ HB.out hw247_2 :), (cB_ HB.out hw247_3 :), (cB_ HB.out hw247_4 :), (cB_ HB.out hw248_0 :), (cB_ HB.out hw248_1 :), (cB_ HB.out hw248_2 :), (cB_ HB.out hw248_3 :), (cB_ HB.out hw248_4 :)⟩ (fun hHeld => ?_)
        clear hK K
        refine norm_ (a' := ?_) ?_ ?_
        rotate_left
        ·show Act.put _ (some 25) _ = _
         simp only [pt_, pn_, sI_, s0_, s1_, i64_w, i32_w]
         rfl
        refine pU_ 9 (some 26) (mk_ 10 1023) ?_
        refine done_ (done_of HT_.out (by kernel_rfl)) ?_
        try go_wp2
        go_ret
        exact fI_ HB.out
      ·rw [if_neg c6] at H
       exact absurd H (by simp)
     ·rw [if_neg c5] at H
      exact absurd H (by simp)
    ·rw [if_neg c4] at H
     have c4b0 : decide (x5_1 < (l0.length : Int)) = false := decide_eq_false c4
     clear c4
     obtain rfl := Option.some.inj H
     go_wp2
     go_ret
     exact fI_ HB.out
 ·rw [if_neg c3] at H
  have c3b0 : ((l0.length : Int) == (l1.length : Int)) = false := beq_eq_false_iff_ne.mpr c3
  have c3b1 : ((l0.length : Int) != (l1.length : Int)) = true := bne_iff_ne.mpr c3
  have c3b2 : (l0.length == l1.length) = false := by first | simpa using c3 | (simp at c3 ⊢; omega)
  obtain rfl := Option.some.inj H
  go_enter Try.func130, Try.ntmps130
  go_wp2
  go_ret
  exact fI_ HB.out
end Go.Proofs.Ytobachfngmpeiaa.PFnExactSourceNew
