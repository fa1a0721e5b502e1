/- A part of the proof that the law FnExactChanSame holds for every input: the words, functions and walks that its row needs, without a condition of their own. -/
import Derived.Test.YtobachfngmpeiaaZFnExactChanSamea2
import Derived.Test.YtobachfngmpeiaaZFnExactChanSamea3
import Derived.Test.YtobachfngmpeiaaZFnExactChanSames
namespace Go.Proofs.Ytobachfngmpeiaa.PFnExactChanSame
open Go.RowKit Go.Proofs.YtobachfngmpeiaaW.PrintWords Go.Proofs.YtobachfngmpeiaaW.PrintLast Go.Proofs.YtobachfngmpeiaaW.PrintMore
attribute [local go_sem] max2_int min2_int max_two min_two max_three min_three max_four min_four   -- for this text's walks alone
set_option linter.unusedVariables false
set_option linter.unusedSimpArgs false
def laws_eqCore.f (k : Nat) (a0_0 : Int) (l0_1 : List Int) (l0_2 : List Int) (a0_3 : Int) (a1_0 : Int) (l1_1 : List Int) (l1_2 : List Int) (a1_3 : Int) : Option (Bool) := if a0_0 = a1_0 then ((laws_eqIntS.f k l0_1 l1_1).bind fun t187 => (if t187 = true then ((laws_eqIntS.f k l0_2 l1_2).bind fun t188 => (if t188 = true then (if a0_3 = a1_3 then (some true) else (some false)) else (some false))) else (some false))) else (some false)
set_option maxHeartbeats 8000000 in
set_option maxRecDepth 100000 in
theorem laws_eqCore.calls (k : Nat) (a0_0 : Int) (A0_1 : Option Addr) (c0_1 : Nat) (l0_1 : List Int) (A0_2 : Option Addr) (c0_2 : Nat) (l0_2 : List Int) (a0_3 : Int) (a1_0 : Int) (A1_1 : Option Addr) (c1_1 : Nat) (l1_1 : List Int) (A1_2 : Option Addr) (c1_2 : Nat) (l1_2 : List Int) (a1_3 : Int) (r : Bool) (w : World) (hr0_1 : Kd.C (Kd.int .i64) w A0_1 l0_1.length l0_1) (hc0_1 : l0_1.length ≤ c0_1) (hr0_2 : Kd.C (Kd.int .i64) w A0_2 l0_2.length l0_2) (hc0_2 : l0_2.length ≤ c0_2) (hr1_1 : Kd.C (Kd.int .i64) w A1_1 l1_1.length l1_1) (hc1_1 : l1_1.length ≤ c1_1) (hr1_2 : Kd.C (Kd.int .i64) w A1_2 l1_2.length l1_2) (hc1_2 : l1_2.length ≤ c1_2) (h : laws_eqCore.f k a0_0 l0_1 l0_2 a0_3 a1_0 l1_1 l1_2 a1_3 = some r) :
  Calls Try.prog 138 #[.agg #[.int .i64 a0_0,.slice A0_1 l0_1.length c0_1,.slice A0_2 l0_2.length c0_2,.int .i64 a0_3],.agg #[.int .i64 a1_0,.slice A1_1 l1_1.length c1_1,.slice A1_2 l1_2.length c1_2,.int .i64 a1_3]] w fun e w' => e = .returned (.bool r) ∧ Below w.heap.size w w' := by
 have hu123 := Try.underlying123
 have HR0_1 := aM_ hr0_1
 have HC0_1 := aM_ hc0_1
 clear hr0_1 hc0_1
 have HR0_2 := aM_ hr0_2
 have HC0_2 := aM_ hc0_2
 clear hr0_2 hc0_2
 have HR1_1 := aM_ hr1_1
 have HC1_1 := aM_ hc1_1
 clear hr1_1 hc1_1
 have HR1_2 := aM_ hr1_2
 have HC1_2 := aM_ hc1_2
 clear hr1_2 hc1_2
 have HB := aM_ (Below.refl w.heap.size w)
 have H : (if a0_0 = a1_0 then ((laws_eqIntS.f k l0_1 l1_1).bind fun t187 => (if t187 = true then ((laws_eqIntS.f k l0_2 l1_2).bind fun t188 => (if t188 = true then (if a0_3 = a1_3 then (some true) else (some false)) else (some false))) else (some false))) else (some false)) = some r := h
 clear h
 by_cases c3 : a0_0 = a1_0
 ·rw [if_pos c3] at H
  have c3b0 : (a0_0 == a1_0) = true := beq_iff_eq.mpr c3
  have c3b1 : (a0_0 != a1_0) = false := bne_eq_false_iff_eq.mpr c3
  clear c3
  replace H := Option.bind_eq_some_iff.mp H
  obtain ⟨t187,A40,H⟩ := H
  replace H : (if t187 = true then ((laws_eqIntS.f k l0_2 l1_2).bind fun t188 => (if t188 = true then (if a0_3 = a1_3 then (some true) else (some false)) else (some false))) else (some false)) = some r := H
  have A4 := aM_ A40
  clear A40
  by_cases c5 : t187 = true
  ·subst c5
   have H1 : ((laws_eqIntS.f k l0_2 l1_2).bind fun t188 => (if t188 = true then (if a0_3 = a1_3 then (some true) else (some false)) else (some false))) = some r := by rw [if_pos rfl] at H;exact H
   clear H
   have H := H1
   clear H1
   replace H := Option.bind_eq_some_iff.mp H
   obtain ⟨t188,A60,H⟩ := H
   replace H : (if t188 = true then (if a0_3 = a1_3 then (some true) else (some false)) else (some false)) = some r := H
   have A6 := aM_ A60
   clear A60
   by_cases c7 : t188 = true
   ·subst c7
    have H1 : (if a0_3 = a1_3 then (some true) else (some false)) = some r := by rw [if_pos rfl] at H;exact H
    clear H
    have H := H1
    clear H1
    by_cases c8 : a0_3 = a1_3
    ·rw [if_pos c8] at H
     have c8b0 : (a0_3 == a1_3) = true := beq_iff_eq.mpr c8
     have c8b1 : (a0_3 != a1_3) = false := bne_eq_false_iff_eq.mpr c8
     clear c8
     obtain rfl := Option.some.inj H
     go_enter Try.func138,Try.ntmps138
     go_wp2_with (first | ((with_reducible refine gate_dst (N := 2) rfl ?_);refine bX_ 2 (cs := #[.int .i64 a0_0,.slice A0_1 l0_1.length c0_1,.slice A0_2 l0_2.length c0_2,.int .i64 a0_3]) (t := 123) ?_;intro gb185 hg w9 hbox hb;have n0 := aM_ (sT_ HB.out hb);have n1 := aM_ (hbox);have n2 := aM_ (sZ_ hg HB.out);have n3 := aM_ (sZ_ hg HB.out);clear HB;have HB := n0;have BK185 := n1;have GW185 := n2;have GE185 := n3;clear n0 n1 n2 n3;clear hb hbox hg) | ((with_reducible refine gate_dst (N := 3) rfl ?_);refine bX_ 3 (cs := #[.int .i64 a1_0,.slice A1_1 l1_1.length c1_1,.slice A1_2 l1_2.length c1_2,.int .i64 a1_3]) (t := 123) ?_;intro gb186 hg w10 hbox hb;have n0 := aM_ (nB_ BK185.out hb);have n1 := aM_ (sT_ HB.out hb);have n2 := aM_ (hbox);have n3 := aM_ (sZ_ hg HB.out);have n4 := aM_ (sZ_ hg HB.out);have n5 := aM_ (nL_ hg BK185.out);have n6 := aM_ (nG_ hg BK185.out);clear BK185;clear HB;have BK185 := n0;have HB := n1;have BK186 := n2;have GW186 := n3;have GE186 := n4;have NB185_186 := n5;have NB186_185 := n6;clear n0 n1 n2 n3 n4 n5 n6;clear hb hbox hg;have hnb11 := NB185_186.out;have hnc11 := NB186_185.out;obtain ⟨hcz12_0,hcz12_1,hcz12_2,hcz12_3,hfz12_0,hfz12_1,hfz12_2,hfz12_3⟩ := bR4_ BK185.out;obtain ⟨hcz13_0,hcz13_1,hcz13_2,hcz13_3,hfz13_0,hfz13_1,hfz13_2,hfz13_3⟩ := bR4_ BK186.out) | ((with_reducible refine gate_callee (f := 39) rfl ?_);refine gL_ (some 14) Try.func39 #[.slice A0_1 l0_1.length c0_1,.slice A1_1 l1_1.length c1_1] ?_;(with_reducible refine (laws_eqIntS.calls k _ _ l0_1 _ _ l1_1 true _ ?side1 ?side2 ?side3 ?side4 A4.out).mono ?_);(case side1 => exact cS_ (Kd.C_below HR0_1.out HB.out));(case side2 => exact HC0_1.out);(case side3 => exact cS_ (Kd.C_below HR1_1.out HB.out));(case side4 => exact HC1_1.out);rintro e w' ⟨rfl,⟨nd,rfl⟩⟩;refine ⟨_,rfl,?_⟩) | ((with_reducible refine gate_callee (f := 39) rfl ?_);refine gL_ (some 20) Try.func39 #[.slice A0_2 l0_2.length c0_2,.slice A1_2 l1_2.length c1_2] ?_;(with_reducible refine (laws_eqIntS.calls k _ _ l0_2 _ _ l1_2 true _ ?side1 ?side2 ?side3 ?side4 A6.out).mono ?_);(case side1 => exact cS_ (Kd.C_below HR0_2.out (gB_ HB.out)));(case side2 => exact HC0_2.out);(case side3 => exact cS_ (Kd.C_below HR1_2.out (gB_ HB.out)));(case side4 => exact HC1_2.out);rintro e w' ⟨rfl,⟨nd,rfl⟩⟩;refine ⟨_,rfl,?_⟩))
     go_ret
     exact fI_ HB.out
    ·rw [if_neg c8] at H
     have c8b0 : (a0_3 == a1_3) = false := beq_eq_false_iff_ne.mpr c8
     have c8b1 : (a0_3 != a1_3) = true := bne_iff_ne.mpr c8
     obtain rfl := Option.some.inj H
     go_enter Try.func138,Try.ntmps138
     go_wp2_with (first | ((with_reducible refine gate_dst (N := 2) rfl ?_);refine bX_ 2 (cs := #[.int .i64 a0_0,.slice A0_1 l0_1.length c0_1,.slice A0_2 l0_2.length c0_2,.int .i64 a0_3]) (t := 123) ?_;intro gb185 hg w14 hbox hb;have n0 := aM_ (sT_ HB.out hb);have n1 := aM_ (hbox);have n2 := aM_ (sZ_ hg HB.out);have n3 := aM_ (sZ_ hg HB.out);clear HB;have HB := n0;have BK185 := n1;have GW185 := n2;have GE185 := n3;clear n0 n1 n2 n3;clear hb hbox hg) | ((with_reducible refine gate_dst (N := 3) rfl ?_);refine bX_ 3 (cs := #[.int .i64 a1_0,.slice A1_1 l1_1.length c1_1,.slice A1_2 l1_2.length c1_2,.int .i64 a1_3]) (t := 123) ?_;intro gb186 hg w15 hbox hb;have n0 := aM_ (nB_ BK185.out hb);have n1 := aM_ (sT_ HB.out hb);have n2 := aM_ (hbox);have n3 := aM_ (sZ_ hg HB.out);have n4 := aM_ (sZ_ hg HB.out);have n5 := aM_ (nL_ hg BK185.out);have n6 := aM_ (nG_ hg BK185.out);clear BK185;clear HB;have BK185 := n0;have HB := n1;have BK186 := n2;have GW186 := n3;have GE186 := n4;have NB185_186 := n5;have NB186_185 := n6;clear n0 n1 n2 n3 n4 n5 n6;clear hb hbox hg;have hnb16 := NB185_186.out;have hnc16 := NB186_185.out;obtain ⟨hcz17_0,hcz17_1,hcz17_2,hcz17_3,hfz17_0,hfz17_1,hfz17_2,hfz17_3⟩ := bR4_ BK185.out;obtain ⟨hcz18_0,hcz18_1,hcz18_2,hcz18_3,hfz18_0,hfz18_1,hfz18_2,hfz18_3⟩ := bR4_ BK186.out) | ((with_reducible refine gate_callee (f := 39) rfl ?_);refine gL_ (some 14) Try.func39 #[.slice A0_1 l0_1.length c0_1,.slice A1_1 l1_1.length c1_1] ?_;(with_reducible refine (laws_eqIntS.calls k _ _ l0_1 _ _ l1_1 true _ ?side1 ?side2 ?side3 ?side4 A4.out).mono ?_);(case side1 => exact cS_ (Kd.C_below HR0_1.out HB.out));(case side2 => exact HC0_1.out);(case side3 => exact cS_ (Kd.C_below HR1_1.out HB.out));(case side4 => exact HC1_1.out);rintro e w' ⟨rfl,⟨nd,rfl⟩⟩;refine ⟨_,rfl,?_⟩) | ((with_reducible refine gate_callee (f := 39) rfl ?_);refine gL_ (some 20) Try.func39 #[.slice A0_2 l0_2.length c0_2,.slice A1_2 l1_2.length c1_2] ?_;(with_reducible refine (laws_eqIntS.calls k _ _ l0_2 _ _ l1_2 true _ ?side1 ?side2 ?side3 ?side4 A6.out).mono ?_);(case side1 => exact cS_ (Kd.C_below HR0_2.out (gB_ HB.out)));(case side2 => exact HC0_2.out);(case side3 => exact cS_ (Kd.C_below HR1_2.out (gB_ HB.out)));(case side4 => exact HC1_2.out);rintro e w' ⟨rfl,⟨nd,rfl⟩⟩;refine ⟨_,rfl,?_⟩))
     go_ret
     exact fI_ HB.out
   ·replace c7 := Bool.eq_false_iff.mpr c7
    subst c7
    have H1 : (some false) = some r := by rw [if_neg (show ¬ (false = true) by decide)] at H;exact H
    clear H
    have H := H1
    clear H1
    obtain rfl := Option.some.inj H
    go_enter Try.func138,Try.ntmps138
    go_wp2_with (first | ((with_reducible refine gate_dst (N := 2) rfl ?_);refine bX_ 2 (cs := #[.int .i64 a0_0,.slice A0_1 l0_1.length c0_1,.slice A0_2 l0_2.length c0_2,.int .i64 a0_3]) (t := 123) ?_;intro gb185 hg w19 hbox hb;have n0 := aM_ (sT_ HB.out hb);have n1 := aM_ (hbox);have n2 := aM_ (sZ_ hg HB.out);have n3 := aM_ (sZ_ hg HB.out);clear HB;have HB := n0;have BK185 := n1;have GW185 := n2;have GE185 := n3;clear n0 n1 n2 n3;clear hb hbox hg) | ((with_reducible refine gate_dst (N := 3) rfl ?_);refine bX_ 3 (cs := #[.int .i64 a1_0,.slice A1_1 l1_1.length c1_1,.slice A1_2 l1_2.length c1_2,.int .i64 a1_3]) (t := 123) ?_;intro gb186 hg w20 hbox hb;have n0 := aM_ (nB_ BK185.out hb);have n1 := aM_ (sT_ HB.out hb);have n2 := aM_ (hbox);have n3 := aM_ (sZ_ hg HB.out);have n4 := aM_ (sZ_ hg HB.out);have n5 := aM_ (nL_ hg BK185.out);have n6 := aM_ (nG_ hg BK185.out);clear BK185;clear HB;have BK185 := n0;have HB := n1;have BK186 := n2;have GW186 := n3;have GE186 := n4;have NB185_186 := n5;have NB186_185 := n6;clear n0 n1 n2 n3 n4 n5 n6;clear hb hbox hg;have hnb21 := NB185_186.out;have hnc21 := NB186_185.out;obtain ⟨hcz22_0,hcz22_1,hcz22_2,hcz22_3,hfz22_0,hfz22_1,hfz22_2,hfz22_3⟩ := bR4_ BK185.out;obtain ⟨hcz23_0,hcz23_1,hcz23_2,hcz23_3,hfz23_0,hfz23_1,hfz23_2,hfz23_3⟩ := bR4_ BK186.out) | ((with_reducible refine gate_callee (f := 39) rfl ?_);refine gL_ (some 14) Try.func39 #[.slice A0_1 l0_1.length c0_1,.slice A1_1 l1_1.length c1_1] ?_;(with_reducible refine (laws_eqIntS.calls k _ _ l0_1 _ _ l1_1 true _ ?side1 ?side2 ?side3 ?side4 A4.out).mono ?_);(case side1 => exact cS_ (Kd.C_below HR0_1.out HB.out));(case side2 => exact HC0_1.out);(case side3 => exact cS_ (Kd.C_below HR1_1.out HB.out));(case side4 => exact HC1_1.out);rintro e w' ⟨rfl,⟨nd,rfl⟩⟩;refine ⟨_,rfl,?_⟩) | ((with_reducible refine gate_callee (f := 39) rfl ?_);refine gL_ (some 20) Try.func39 #[.slice A0_2 l0_2.length c0_2,.slice A1_2 l1_2.length c1_2] ?_;(with_reducible refine (laws_eqIntS.calls k _ _ l0_2 _ _ l1_2 false _ ?side1 ?side2 ?side3 ?side4 A6.out).mono ?_);(case side1 => exact cS_ (Kd.C_below HR0_2.out (gB_ HB.out)));(case side2 => exact HC0_2.out);(case side3 => exact cS_ (Kd.C_below HR1_2.out (gB_ HB.out)));(case side4 => exact HC1_2.out);rintro e w' ⟨rfl,⟨nd,rfl⟩⟩;refine ⟨_,rfl,?_⟩))
    go_ret
    exact fI_ HB.out
  ·replace c5 := Bool.eq_false_iff.mpr c5
   subst c5
   have H1 : (some false) = some r := by rw [if_neg (show ¬ (false = true) by decide)] at H;exact H
   clear H
   have H := H1
   clear H1
   obtain rfl := Option.some.inj H
   go_enter Try.func138,Try.ntmps138
   go_wp2_with (first | ((with_reducible refine gate_dst (N := 2) rfl ?_);refine bX_ 2 (cs := #[.int .i64 a0_0,.slice A0_1 l0_1.length c0_1,.slice A0_2 l0_2.length c0_2,.int .i64 a0_3]) (t := 123) ?_;intro gb185 hg w24 hbox hb;have n0 := aM_ (sT_ HB.out hb);have n1 := aM_ (hbox);have n2 := aM_ (sZ_ hg HB.out);have n3 := aM_ (sZ_ hg HB.out);clear HB;have HB := n0;have BK185 := n1;have GW185 := n2;have GE185 := n3;clear n0 n1 n2 n3;clear hb hbox hg) | ((with_reducible refine gate_dst (N := 3) rfl ?_);refine bX_ 3 (cs := #[.int .i64 a1_0,.slice A1_1 l1_1.length c1_1,.slice A1_2 l1_2.length c1_2,.int .i64 a1_3]) (t := 123) ?_;intro gb186 hg w25 hbox hb;have n0 := aM_ (nB_ BK185.out hb);have n1 := aM_ (sT_ HB.out hb);have n2 := aM_ (hbox);have n3 := aM_ (sZ_ hg HB.out);have n4 := aM_ (sZ_ hg HB.out);have n5 := aM_ (nL_ hg BK185.out);have n6 := aM_ (nG_ hg BK185.out);clear BK185;clear HB;have BK185 := n0;have HB := n1;have BK186 := n2;have GW186 := n3;have GE186 := n4;have NB185_186 := n5;have NB186_185 := n6;clear n0 n1 n2 n3 n4 n5 n6;clear hb hbox hg;have hnb26 := NB185_186.out;have hnc26 := NB186_185.out;obtain ⟨hcz27_0,hcz27_1,hcz27_2,hcz27_3,hfz27_0,hfz27_1,hfz27_2,hfz27_3⟩ := bR4_ BK185.out;obtain ⟨hcz28_0,hcz28_1,hcz28_2,hcz28_3,hfz28_0,hfz28_1,hfz28_2,hfz28_3⟩ := bR4_ BK186.out) | ((with_reducible refine gate_callee (f := 39) rfl ?_);refine gL_ (some 14) Try.func39 #[.slice A0_1 l0_1.length c0_1,.slice A1_1 l1_1.length c1_1] ?_;(with_reducible refine (laws_eqIntS.calls k _ _ l0_1 _ _ l1_1 false _ ?side1 ?side2 ?side3 ?side4 A4.out).mono ?_);(case side1 => exact cS_ (Kd.C_below HR0_1.out HB.out));(case side2 => exact HC0_1.out);(case side3 => exact cS_ (Kd.C_below HR1_1.out HB.out));(case side4 => exact HC1_1.out);rintro e w' ⟨rfl,⟨nd,rfl⟩⟩;refine ⟨_,rfl,?_⟩))
   go_ret
   exact fI_ HB.out
 ·rw [if_neg c3] at H
  have c3b0 : (a0_0 == a1_0) = false := beq_eq_false_iff_ne.mpr c3
  have c3b1 : (a0_0 != a1_0) = true := bne_iff_ne.mpr c3
  obtain rfl := Option.some.inj H
  go_enter Try.func138,Try.ntmps138
  go_wp2_with (first | ((with_reducible refine gate_dst (N := 2) rfl ?_);refine bX_ 2 (cs := #[.int .i64 a0_0,.slice A0_1 l0_1.length c0_1,.slice A0_2 l0_2.length c0_2,.int .i64 a0_3]) (t := 123) ?_;intro gb185 hg w29 hbox hb;have n0 := aM_ (sT_ HB.out hb);have n1 := aM_ (hbox);have n2 := aM_ (sZ_ hg HB.out);have n3 := aM_ (sZ_ hg HB.out);clear HB;have HB := n0;have BK185 := n1;have GW185 := n2;have GE185 := n3;clear n0 n1 n2 n3;clear hb hbox hg) | ((with_reducible refine gate_dst (N := 3) rfl ?_);refine bX_ 3 (cs := #[.int .i64 a1_0,.slice A1_1 l1_1.length c1_1,.slice A1_2 l1_2.length c1_2,.int .i64 a1_3]) (t := 123) ?_;intro gb186 hg w30 hbox hb;have n0 := aM_ (nB_ BK185.out hb);have n1 := aM_ (sT_ HB.out hb);have n2 := aM_ (hbox);have n3 := aM_ (sZ_ hg HB.out);have n4 := aM_ (sZ_ hg HB.out);have n5 := aM_ (nL_ hg BK185.out);have n6 := aM_ (nG_ hg BK185.out);clear BK185;clear HB;have BK185 := n0;have HB := n1;have BK186 := n2;have GW186 := n3;have GE186 := n4;have NB185_186 := n5;have NB186_185 := n6;clear n0 n1 n2 n3 n4 n5 n6;clear hb hbox hg;have hnb31 := NB185_186.out;have hnc31 := NB186_185.out;obtain ⟨hcz32_0,hcz32_1,hcz32_2,hcz32_3,hfz32_0,hfz32_1,hfz32_2,hfz32_3⟩ := bR4_ BK185.out;obtain ⟨hcz33_0,hcz33_1,hcz33_2,hcz33_3,hfz33_0,hfz33_1,hfz33_2,hfz33_3⟩ := bR4_ BK186.out))
  go_ret
  exact fI_ HB.out
def laws_eqCoreS.l0 : Nat → List (S123) → List (S123) → Int → Option (Bool)
  | 0,_,_,_ => none
  | k + 1,x0,x1,x5 => if x5 < (x0.length : Int) then (if 0 ≤ x5 then (if x5 < (x1.length : Int) then ((laws_eqCore.f k ((rd_T123 x0 x5).f0) ((rd_T123 x0 x5).f1) ((rd_T123 x0 x5).f2) ((rd_T123 x0 x5).f3) ((rd_T123 x1 x5).f0) ((rd_T123 x1 x5).f1) ((rd_T123 x1 x5).f2) ((rd_T123 x1 x5).f3)).bind fun t191 => (if t191 = true then (laws_eqCoreS.l0 k x0 x1 (wrap64 (x5 + 1))) else (some false))) else (none)) else (none)) else (some true)
def laws_eqCoreS.f (k : Nat) (l0 : List (S123)) (l1 : List (S123)) : Option (Bool) := if (l0.length : Int) = (l1.length : Int) then (laws_eqCoreS.l0 k l0 l1 0) else (some false)
def laws_eqCoreS.T6 : Bool × List (List Nat × List Nat) := (true,[([],[]),([],[]),([0,1],[0,1]),([2],[2]),([],[]),([],[]),([4,5],[4,5]),([6],[6]),([3,7],[3,7]),([8],[8])])
def laws_eqCoreS.B6 : List Nat := [0,0,3,7,0,0,48,112,255,511]
theorem laws_eqCoreS.tab6 : rtab .any (opsOf Try.f82 6) = laws_eqCoreS.T6 := by kernel_rfl
theorem laws_eqCoreS.bits6 : waitsOk laws_eqCoreS.T6.2 laws_eqCoreS.B6 = true := by kernel_rfl
set_option maxHeartbeats 8000000 in
set_option maxRecDepth 100000 in
theorem laws_eqCoreS.calls (k : Nat) (A0 : Option Addr) (c0 : Nat) (l0 : List (S123)) (A1 : Option Addr) (c1 : Nat) (l1 : List (S123)) (r : Bool) (w : World) (hr0 : Kd.C k123 w A0 l0.length l0) (hc0 : l0.length ≤ c0) (hr1 : Kd.C k123 w A1 l1.length l1) (hc1 : l1.length ≤ c1) (h : laws_eqCoreS.f k l0 l1 = some r) :
  Calls Try.prog 82 #[.slice A0 l0.length c0,.slice A1 l1.length c1] w fun e w' => e = .returned (.bool r) ∧ Below w.heap.size w w' := by
 have hu123 := Try.underlying123
 have HR0 := aM_ hr0
 have HC0 := aM_ hc0
 clear hr0 hc0
 have HR1 := aM_ hr1
 have HC1 := aM_ hc1
 clear hr1 hc1
 have HB := aM_ (Below.refl w.heap.size w)
 have H : (if (l0.length : Int) = (l1.length : Int) then (laws_eqCoreS.l0 k l0 l1 0) else (some false)) = some r := h
 clear h
 by_cases c3 : (l0.length : Int) = (l1.length : Int)
 ·rw [if_pos c3] at H
  have c3b0 : ((l0.length : Int) == (l1.length : Int)) = true := beq_iff_eq.mpr c3
  have c3b1 : ((l0.length : Int) != (l1.length : Int)) = false := bne_eq_false_iff_eq.mpr c3
  have c3b2 : (l0.length == l1.length) = true := by first | simpa using c3 | (simp at c3 ⊢;omega)
  clear c3
  have H' := aM_ H
  clear H
  go_enter Try.func82,Try.ntmps82
  go_wp2
  go_loopg [5] k (fun kq v5 w' => ∃ (x5_1 : Int),v5 = .int .i64 x5_1 ∧ Aside0 (laws_eqCoreS.l0 kq l0 l1 x5_1 = some r) ∧ Aside0 (kq ≤ k) ∧ Aside0 (Below w.heap.size w w'))
  case atStart => exact ⟨(0),(by first | rfl | (simp;done) | (simp [*];done)),H',⟨Nat.le_refl _⟩,⟨gW_ HB.out⟩⟩
  case round =>
   clear H'
   try clear c1
   try clear p2
   try clear c3
   try clear c3b0
   try clear c3b1
   try clear c3b2
   obtain ⟨x5_1,rfl,HA,HK1,HB⟩ := hrel
   cases gk with
   | zero => exact absurd HA.out (by simp [laws_eqCoreS.l0])
   | succ k1 =>
    have H := HA.out
    clear HA
    simp only [laws_eqCoreS.l0] at H
    by_cases c4 : x5_1 < (l0.length : Int)
    ·rw [if_pos c4] at H
     have c4b0 : decide (x5_1 < (l0.length : Int)) = true := decide_eq_true c4
     clear c4
     by_cases c5 : 0 ≤ x5_1
     ·rw [if_pos c5] at H
      have c5b0 : decide (0 ≤ x5_1) = true := decide_eq_true c5
      clear c5
      by_cases c6 : x5_1 < (l1.length : Int)
      ·rw [if_pos c6] at H
       have c6b0 : decide (x5_1 < (l1.length : Int)) = true := decide_eq_true c6
       clear c6
       replace H := Option.bind_eq_some_iff.mp H
       obtain ⟨t191,A70,H⟩ := H
       replace H : (if t191 = true then (laws_eqCoreS.l0 k1 l0 l1 (wrap64 (x5_1 + 1))) else (some false)) = some r := H
       have A7 := aM_ A70
       clear A70
       by_cases c8 : t191 = true
       ·subst c8
        have H1 : (laws_eqCoreS.l0 k1 l0 l1 (wrap64 (x5_1 + 1))) = some r := by rw [if_pos rfl] at H;exact H
        clear H
        have H := H1
        clear H1
        have H' := aM_ H
        clear H
        try go_wp2
        have n0 := aM_ (below_drew1 HB.out)
        clear HB
        have HB := n0
        clear n0
        have p189 : 0 ≤ (x5_1 : Int) := of_decide_eq_true (by first | (with_reducible assumption) | assumption)
        have q189 : x5_1 < (l0.length : Int) := of_decide_eq_true (by first | (with_reducible assumption) | assumption)
        obtain ⟨ad189,A189_1,c189_1,A189_2,c189_2,e189,hx189_0,hx189_1,hx189_2,hx189_3,hl189_1,hi189_1,hl189_2,hi189_2⟩ := at_T123 HR0.out x5_1 p189 q189
        have hw189_3 := hx189_3
        have hw189_2 := hx189_2
        have hw189_1 := hx189_1
        have hw189_0 := hx189_0
        cases e189
        replace hx189_0 := cB_ HB.out hx189_0
        replace hx189_1 := cB_ HB.out hx189_1
        replace hx189_2 := cB_ HB.out hx189_2
        replace hx189_3 := cB_ HB.out hx189_3
        have HR189_1 := aM_ hi189_1
        have HC189_1 := aM_ hl189_1
        clear hi189_1 hl189_1
        have HR189_2 := aM_ hi189_2
        have HC189_2 := aM_ hl189_2
        clear hi189_2 hl189_2
        replace p189 := eq_true p189
        replace q189 := eq_true q189
        have p190 : 0 ≤ (x5_1 : Int) := of_decide_eq_true (by first | (with_reducible assumption) | assumption)
        have q190 : x5_1 < (l1.length : Int) := of_decide_eq_true (by first | (with_reducible assumption) | assumption)
        obtain ⟨ad190,A190_1,c190_1,A190_2,c190_2,e190,hx190_0,hx190_1,hx190_2,hx190_3,hl190_1,hi190_1,hl190_2,hi190_2⟩ := at_T123 HR1.out x5_1 p190 q190
        have hw190_3 := hx190_3
        have hw190_2 := hx190_2
        have hw190_1 := hx190_1
        have hw190_0 := hx190_0
        cases e190
        replace hx190_0 := cB_ HB.out hx190_0
        replace hx190_1 := cB_ HB.out hx190_1
        replace hx190_2 := cB_ HB.out hx190_2
        replace hx190_3 := cB_ HB.out hx190_3
        have HR190_1 := aM_ hi190_1
        have HC190_1 := aM_ hl190_1
        clear hi190_1 hl190_1
        have HR190_2 := aM_ hi190_2
        have HC190_2 := aM_ hl190_2
        clear hi190_2 hl190_2
        replace p190 := eq_true p190
        replace q190 := eq_true q190
        refine start_ (n := 10) (S := fun w' => w'.cell? (ad189.add ((x5_1).toNat * 4)) = some (.int .i64 ((rd_T123 l0 x5_1).f0)) ∧ w'.cell? ⟨(ad189.add ((x5_1).toNat * 4)).block,(ad189.add ((x5_1).toNat * 4)).off + 1,none⟩ = some (.slice A189_1 ((rd_T123 l0 x5_1).f1).length c189_1) ∧ w'.cell? ⟨(ad189.add ((x5_1).toNat * 4)).block,(ad189.add ((x5_1).toNat * 4)).off + 2,none⟩ = some (.slice A189_2 ((rd_T123 l0 x5_1).f2).length c189_2) ∧ w'.cell? ⟨(ad189.add ((x5_1).toNat * 4)).block,(ad189.add ((x5_1).toNat * 4)).off + 3,none⟩ = some (.int .i64 ((rd_T123 l0 x5_1).f3)) ∧ w'.cell? (ad190.add ((x5_1).toNat * 4)) = some (.int .i64 ((rd_T123 l1 x5_1).f0)) ∧ w'.cell? ⟨(ad190.add ((x5_1).toNat * 4)).block,(ad190.add ((x5_1).toNat * 4)).off + 1,none⟩ = some (.slice A190_1 ((rd_T123 l1 x5_1).f1).length c190_1) ∧ w'.cell? ⟨(ad190.add ((x5_1).toNat * 4)).block,(ad190.add ((x5_1).toNat * 4)).off + 2,none⟩ = some (.slice A190_2 ((rd_T123 l1 x5_1).f2).length c190_2) ∧ w'.cell? ⟨(ad190.add ((x5_1).toNat * 4)).block,(ad190.add ((x5_1).toNat * 4)).off + 3,none⟩ = some (.int .i64 ((rd_T123 l1 x5_1).f3))) (ds := []) (mk_ 10 0) (by kernel_rfl) rfl rfl ⟨(cB_ HB.out hw189_0 :),(cB_ HB.out hw189_1 :),(cB_ HB.out hw189_2 :),(cB_ HB.out hw189_3 :),(cB_ HB.out hw190_0 :),(cB_ HB.out hw190_1 :),(cB_ HB.out hw190_2 :),(cB_ HB.out hw190_3 :)⟩ (fun hHeld => ?_);refine with_tabW laws_eqCoreS.tab6 laws_eqCoreS.bits6 (fun HT_ HW_ => ?_)
        generalize wr.drew = w9 at HB HR189_1 HR189_2 HR190_1 HR190_2 hx189_0 hx189_1 hx189_2 hx189_3 hx190_0 hx190_1 hx190_2 hx190_3 hHeld ⊢
        refine pU_ 0 (some 17) (mk_ 10 1) ?_
        refine pU_ 1 (some 18) (mk_ 10 3) ?_
        refine pU_ 2 (some 19) (mk_ 10 7) ?_
        refine pU_ 4 (some 21) (mk_ 10 23) ?_
        refine pU_ 5 (some 22) (mk_ 10 55) ?_
        refine pU_ 6 (some 23) (mk_ 10 119) ?_
        refine tK8_ 3 (some 20) (mk_ 10 127) ?_
        refine tK8_ 7 (some 24) (mk_ 10 255) ?_
        refine oN_ 8 (some 25) (mk_ 10 511) (fun K hK => ?_)
        refine gO_ Try.func138 #[.agg #[.int .i64 ((rd_T123 l0 x5_1).f0),.slice A189_1 ((rd_T123 l0 x5_1).f1).length c189_1,.slice A189_2 ((rd_T123 l0 x5_1).f2).length c189_2,.int .i64 ((rd_T123 l0 x5_1).f3)],.agg #[.int .i64 ((rd_T123 l1 x5_1).f0),.slice A190_1 ((rd_T123 l1 x5_1).f1).length c190_1,.slice A190_2 ((rd_T123 l1 x5_1).f2).length c190_2,.int .i64 ((rd_T123 l1 x5_1).f3)]] ?_
        with_reducible refine (laws_eqCore.calls k1 ((rd_T123 l0 x5_1).f0) _ _ ((rd_T123 l0 x5_1).f1) _ _ ((rd_T123 l0 x5_1).f2) ((rd_T123 l0 x5_1).f3) ((rd_T123 l1 x5_1).f0) _ _ ((rd_T123 l1 x5_1).f1) _ _ ((rd_T123 l1 x5_1).f2) ((rd_T123 l1 x5_1).f3) true _ ?side1 ?side2 ?side3 ?side4 ?side5 ?side6 ?side7 ?side8 A7.out).mono ?_
        (case side1 => exact cS_ (Kd.C_below HR189_1.out HB.out))
        (case side2 => exact HC189_1.out)
        (case side3 => exact cS_ (Kd.C_below HR189_2.out HB.out))
        (case side4 => exact HC189_2.out)
        (case side5 => exact cS_ (Kd.C_below HR190_1.out HB.out))
        (case side6 => exact HC190_1.out)
        (case side7 => exact cS_ (Kd.C_below HR190_2.out HB.out))
        (case side8 => exact HC190_2.out)
        rintro e w10 ⟨rfl,hb⟩
        refine ⟨_,rfl,?_⟩
        have n0 := aM_ (sT_ HB.out hb)
        clear HB
        have HB := n0
        clear n0
        (try clear hb)
        (try clear hb2)
        (try clear hk)
        (try clear hi)
        refine hK.out _ _ ⟨(cB_ HB.out hw189_0 :),(cB_ HB.out hw189_1 :),(cB_ HB.out hw189_2 :),(cB_ HB.out hw189_3 :),(cB_ HB.out hw190_0 :),(cB_ HB.out hw190_1 :),(cB_ HB.out hw190_2 :),(cB_ HB.out hw190_3 :)⟩ (fun hHeld => ?_)
        clear hK K
        refine norm_ (a' := ?_) ?_ ?_
        rotate_left
        ·show Act.put _ (some 25) _ = _
         simp only [pt_,pn_,sI_,s0_,s1_,i64_w,i32_w]
         rfl
        refine pU_ 9 (some 26) (mk_ 10 1023) ?_
        refine done_ (done_of HT_.out (by kernel_rfl)) ?_
        try go_wp2
        go_roundg k1
        case measure => have := HK1.out;omega
        case rel => exact ⟨(wrap64 (x5_1 + 1)),(by first | rfl | (simp;done) | (simp [*];done)),H',⟨by have := HK1.out;omega⟩,⟨gW_ HB.out⟩⟩
       ·replace c8 := Bool.eq_false_iff.mpr c8
        subst c8
        have H1 : (some false) = some r := by rw [if_neg (show ¬ (false = true) by decide)] at H;exact H
        clear H
        have H := H1
        clear H1
        obtain rfl := Option.some.inj H
        try go_wp2
        have n0 := aM_ (below_drew1 HB.out)
        clear HB
        have HB := n0
        clear n0
        have p189 : 0 ≤ (x5_1 : Int) := of_decide_eq_true (by first | (with_reducible assumption) | assumption)
        have q189 : x5_1 < (l0.length : Int) := of_decide_eq_true (by first | (with_reducible assumption) | assumption)
        obtain ⟨ad189,A189_1,c189_1,A189_2,c189_2,e189,hx189_0,hx189_1,hx189_2,hx189_3,hl189_1,hi189_1,hl189_2,hi189_2⟩ := at_T123 HR0.out x5_1 p189 q189
        have hw189_3 := hx189_3
        have hw189_2 := hx189_2
        have hw189_1 := hx189_1
        have hw189_0 := hx189_0
        cases e189
        replace hx189_0 := cB_ HB.out hx189_0
        replace hx189_1 := cB_ HB.out hx189_1
        replace hx189_2 := cB_ HB.out hx189_2
        replace hx189_3 := cB_ HB.out hx189_3
        have HR189_1 := aM_ hi189_1
        have HC189_1 := aM_ hl189_1
        clear hi189_1 hl189_1
        have HR189_2 := aM_ hi189_2
        have HC189_2 := aM_ hl189_2
        clear hi189_2 hl189_2
        replace p189 := eq_true p189
        replace q189 := eq_true q189
        have p190 : 0 ≤ (x5_1 : Int) := of_decide_eq_true (by first | (with_reducible assumption) | assumption)
        have q190 : x5_1 < (l1.length : Int) := of_decide_eq_true (by first | (with_reducible assumption) | assumption)
        obtain ⟨ad190,A190_1,c190_1,A190_2,c190_2,e190,hx190_0,hx190_1,hx190_2,hx190_3,hl190_1,hi190_1,hl190_2,hi190_2⟩ := at_T123 HR1.out x5_1 p190 q190
        have hw190_3 := hx190_3
        have hw190_2 := hx190_2
        have hw190_1 := hx190_1
        have hw190_0 := hx190_0
        cases e190
        replace hx190_0 := cB_ HB.out hx190_0
        replace hx190_1 := cB_ HB.out hx190_1
        replace hx190_2 := cB_ HB.out hx190_2
        replace hx190_3 := cB_ HB.out hx190_3
        have HR190_1 := aM_ hi190_1
        have HC190_1 := aM_ hl190_1
        clear hi190_1 hl190_1
        have HR190_2 := aM_ hi190_2
        have HC190_2 := aM_ hl190_2
        clear hi190_2 hl190_2
        replace p190 := eq_true p190
        replace q190 := eq_true q190
        refine start_ (n := 10) (S := fun w' => w'.cell? (ad189.add ((x5_1).toNat * 4)) = some (.int .i64 ((rd_T123 l0 x5_1).f0)) ∧ w'.cell? ⟨(ad189.add ((x5_1).toNat * 4)).block,(ad189.add ((x5_1).toNat * 4)).off + 1,none⟩ = some (.slice A189_1 ((rd_T123 l0 x5_1).f1).length c189_1) ∧ w'.cell? ⟨(ad189.add ((x5_1).toNat * 4)).block,(ad189.add ((x5_1).toNat * 4)).off + 2,none⟩ = some (.slice A189_2 ((rd_T123 l0 x5_1).f2).length c189_2) ∧ w'.cell? ⟨(ad189.add ((x5_1).toNat * 4)).block,(ad189.add ((x5_1).toNat * 4)).off + 3,none⟩ = some (.int .i64 ((rd_T123 l0 x5_1).f3)) ∧ w'.cell? (ad190.add ((x5_1).toNat * 4)) = some (.int .i64 ((rd_T123 l1 x5_1).f0)) ∧ w'.cell? ⟨(ad190.add ((x5_1).toNat * 4)).block,(ad190.add ((x5_1).toNat * 4)).off + 1,none⟩ = some (.slice A190_1 ((rd_T123 l1 x5_1).f1).length c190_1) ∧ w'.cell? ⟨(ad190.add ((x5_1).toNat * 4)).block,(ad190.add ((x5_1).toNat * 4)).off + 2,none⟩ = some (.slice A190_2 ((rd_T123 l1 x5_1).f2).length c190_2) ∧ w'.cell? ⟨(ad190.add ((x5_1).toNat * 4)).block,(ad190.add ((x5_1).toNat * 4)).off + 3,none⟩ = some (.int .i64 ((rd_T123 l1 x5_1).f3))) (ds := []) (mk_ 10 0) (by kernel_rfl) rfl rfl ⟨(cB_ HB.out hw189_0 :),(cB_ HB.out hw189_1 :),(cB_ HB.out hw189_2 :),(cB_ HB.out hw189_3 :),(cB_ HB.out hw190_0 :),(cB_ HB.out hw190_1 :),(cB_ HB.out hw190_2 :),(cB_ HB.out hw190_3 :)⟩ (fun hHeld => ?_);refine with_tabW laws_eqCoreS.tab6 laws_eqCoreS.bits6 (fun HT_ HW_ => ?_)
        generalize wr.drew = w11 at HB HR189_1 HR189_2 HR190_1 HR190_2 hx189_0 hx189_1 hx189_2 hx189_3 hx190_0 hx190_1 hx190_2 hx190_3 hHeld ⊢
        refine pU_ 0 (some 17) (mk_ 10 1) ?_
        refine pU_ 1 (some 18) (mk_ 10 3) ?_
        refine pU_ 2 (some 19) (mk_ 10 7) ?_
        refine pU_ 4 (some 21) (mk_ 10 23) ?_
        refine pU_ 5 (some 22) (mk_ 10 55) ?_
        refine pU_ 6 (some 23) (mk_ 10 119) ?_
        refine tK8_ 3 (some 20) (mk_ 10 127) ?_
        refine tK8_ 7 (some 24) (mk_ 10 255) ?_
        refine oN_ 8 (some 25) (mk_ 10 511) (fun K hK => ?_)
        refine gO_ Try.func138 #[.agg #[.int .i64 ((rd_T123 l0 x5_1).f0),.slice A189_1 ((rd_T123 l0 x5_1).f1).length c189_1,.slice A189_2 ((rd_T123 l0 x5_1).f2).length c189_2,.int .i64 ((rd_T123 l0 x5_1).f3)],.agg #[.int .i64 ((rd_T123 l1 x5_1).f0),.slice A190_1 ((rd_T123 l1 x5_1).f1).length c190_1,.slice A190_2 ((rd_T123 l1 x5_1).f2).length c190_2,.int .i64 ((rd_T123 l1 x5_1).f3)]] ?_
        with_reducible refine (laws_eqCore.calls k1 ((rd_T123 l0 x5_1).f0) _ _ ((rd_T123 l0 x5_1).f1) _ _ ((rd_T123 l0 x5_1).f2) ((rd_T123 l0 x5_1).f3) ((rd_T123 l1 x5_1).f0) _ _ ((rd_T123 l1 x5_1).f1) _ _ ((rd_T123 l1 x5_1).f2) ((rd_T123 l1 x5_1).f3) false _ ?side1 ?side2 ?side3 ?side4 ?side5 ?side6 ?side7 ?side8 A7.out).mono ?_
        (case side1 => exact cS_ (Kd.C_below HR189_1.out HB.out))
        (case side2 => exact HC189_1.out)
        (case side3 => exact cS_ (Kd.C_below HR189_2.out HB.out))
        (case side4 => exact HC189_2.out)
        (case side5 => exact cS_ (Kd.C_below HR190_1.out HB.out))
        (case side6 => exact HC190_1.out)
        (case side7 => exact cS_ (Kd.C_below HR190_2.out HB.out))
        (case side8 => exact HC190_2.out)
        rintro e w12 ⟨rfl,hb⟩
        refine ⟨_,rfl,?_⟩
        have n0 := aM_ (sT_ HB.out hb)
        clear HB
        have HB := n0
        clear n0
        (try clear hb)
        (try clear hb2)
        (try clear hk)
        (try clear hi)
        refine hK.out _ _ ⟨(cB_ HB.out hw189_0 :),(cB_ HB.out hw189_1 :),(cB_ HB.out hw189_2 :),(cB_ HB.out hw189_3 :),(cB_ HB.out hw190_0 :),(cB_ HB.out hw190_1 :),(cB_ HB.out hw190_2 :),(cB_ HB.out hw190_3 :)⟩ (fun hHeld => ?_)
        clear hK K
        refine norm_ (a' := ?_) ?_ ?_
        rotate_left
        ·show Act.put _ (some 25) _ = _
         simp only [pt_,pn_,sI_,s0_,s1_,i64_w,i32_w]
         rfl
        refine pU_ 9 (some 26) (mk_ 10 1023) ?_
        refine done_ (done_of HT_.out (by kernel_rfl)) ?_
        try go_wp2
        go_ret
        exact fI_ HB.out
      ·rw [if_neg c6] at H
       exact absurd H (by simp)
     ·rw [if_neg c5] at H
      exact absurd H (by simp)
    ·rw [if_neg c4] at H
     have c4b0 : decide (x5_1 < (l0.length : Int)) = false := decide_eq_false c4
     clear c4
     obtain rfl := Option.some.inj H
     go_wp2
     go_ret
     exact fI_ HB.out
 ·rw [if_neg c3] at H
  have c3b0 : ((l0.length : Int) == (l1.length : Int)) = false := beq_eq_false_iff_ne.mpr c3
  have c3b1 : ((l0.length : Int) != (l1.length : Int)) = true := bne_iff_ne.mpr c3
  have c3b2 : (l0.length == l1.length) = false := by first | simpa using c3 | (simp at c3 ⊢;omega)
  obtain rfl := Option.some.inj H
  go_enter Try.func82,Try.ntmps82
  go_wp2
  go_ret
  exact fI_ HB.out
def laws_eqWrite.f (k : Nat) (a0_0 : Int) (l0_1 : List Int) (a1_0 : Int) (l1_1 : List Int) : Option (Bool) := if a0_0 = a1_0 then ((laws_eqIntS.f k l0_1 l1_1).bind fun t194 => (if t194 = true then (some true) else (some false))) else (some false)
set_option maxHeartbeats 8000000 in
set_option maxRecDepth 100000 in
theorem laws_eqWrite.calls (k : Nat) (a0_0 : Int) (A0_1 : Option Addr) (c0_1 : Nat) (l0_1 : List Int) (a1_0 : Int) (A1_1 : Option Addr) (c1_1 : Nat) (l1_1 : List Int) (r : Bool) (w : World) (hr0_1 : Kd.C (Kd.int .i64) w A0_1 l0_1.length l0_1) (hc0_1 : l0_1.length ≤ c0_1) (hr1_1 : Kd.C (Kd.int .i64) w A1_1 l1_1.length l1_1) (hc1_1 : l1_1.length ≤ c1_1) (h : laws_eqWrite.f k a0_0 l0_1 a1_0 l1_1 = some r) :
  Calls Try.prog 189 #[.agg #[.int .i64 a0_0,.slice A0_1 l0_1.length c0_1],.agg #[.int .i64 a1_0,.slice A1_1 l1_1.length c1_1]] w fun e w' => e = .returned (.bool r) ∧ Below w.heap.size w w' := by
 have hu170 := Try.underlying170
 have HR0_1 := aM_ hr0_1
 have HC0_1 := aM_ hc0_1
 clear hr0_1 hc0_1
 have HR1_1 := aM_ hr1_1
 have HC1_1 := aM_ hc1_1
 clear hr1_1 hc1_1
 have HB := aM_ (Below.refl w.heap.size w)
 have H : (if a0_0 = a1_0 then ((laws_eqIntS.f k l0_1 l1_1).bind fun t194 => (if t194 = true then (some true) else (some false))) else (some false)) = some r := h
 clear h
 by_cases c3 : a0_0 = a1_0
 ·rw [if_pos c3] at H
  have c3b0 : (a0_0 == a1_0) = true := beq_iff_eq.mpr c3
  have c3b1 : (a0_0 != a1_0) = false := bne_eq_false_iff_eq.mpr c3
  clear c3
  replace H := Option.bind_eq_some_iff.mp H
  obtain ⟨t194,A40,H⟩ := H
  replace H : (if t194 = true then (some true) else (some false)) = some r := H
  have A4 := aM_ A40
  clear A40
  by_cases c5 : t194 = true
  ·subst c5
   have H1 : (some true) = some r := by rw [if_pos rfl] at H;exact H
   clear H
   have H := H1
   clear H1
   obtain rfl := Option.some.inj H
   go_enter Try.func189,Try.ntmps189
   go_wp2_with (first | ((with_reducible refine gate_dst (N := 2) rfl ?_);refine bX_ 2 (cs := #[.int .i64 a0_0,.slice A0_1 l0_1.length c0_1]) (t := 170) ?_;intro gb192 hg w6 hbox hb;have n0 := aM_ (sT_ HB.out hb);have n1 := aM_ (hbox);have n2 := aM_ (sZ_ hg HB.out);have n3 := aM_ (sZ_ hg HB.out);clear HB;have HB := n0;have BK192 := n1;have GW192 := n2;have GE192 := n3;clear n0 n1 n2 n3;clear hb hbox hg) | ((with_reducible refine gate_dst (N := 3) rfl ?_);refine bX_ 3 (cs := #[.int .i64 a1_0,.slice A1_1 l1_1.length c1_1]) (t := 170) ?_;intro gb193 hg w7 hbox hb;have n0 := aM_ (nB_ BK192.out hb);have n1 := aM_ (sT_ HB.out hb);have n2 := aM_ (hbox);have n3 := aM_ (sZ_ hg HB.out);have n4 := aM_ (sZ_ hg HB.out);have n5 := aM_ (nL_ hg BK192.out);have n6 := aM_ (nG_ hg BK192.out);clear BK192;clear HB;have BK192 := n0;have HB := n1;have BK193 := n2;have GW193 := n3;have GE193 := n4;have NB192_193 := n5;have NB193_192 := n6;clear n0 n1 n2 n3 n4 n5 n6;clear hb hbox hg;have hnb8 := NB192_193.out;have hnc8 := NB193_192.out;obtain ⟨hcz9_0,hcz9_1,hfz9_0,hfz9_1⟩ := bR2_ BK192.out;obtain ⟨hcz10_0,hcz10_1,hfz10_0,hfz10_1⟩ := bR2_ BK193.out) | ((with_reducible refine gate_callee (f := 39) rfl ?_);refine gL_ (some 14) Try.func39 #[.slice A0_1 l0_1.length c0_1,.slice A1_1 l1_1.length c1_1] ?_;(with_reducible refine (laws_eqIntS.calls k _ _ l0_1 _ _ l1_1 true _ ?side1 ?side2 ?side3 ?side4 A4.out).mono ?_);(case side1 => exact cS_ (Kd.C_below HR0_1.out HB.out));(case side2 => exact HC0_1.out);(case side3 => exact cS_ (Kd.C_below HR1_1.out HB.out));(case side4 => exact HC1_1.out);rintro e w' ⟨rfl,⟨nd,rfl⟩⟩;refine ⟨_,rfl,?_⟩))
   go_ret
   exact fI_ HB.out
  ·replace c5 := Bool.eq_false_iff.mpr c5
   subst c5
   have H1 : (some false) = some r := by rw [if_neg (show ¬ (false = true) by decide)] at H;exact H
   clear H
   have H := H1
   clear H1
   obtain rfl := Option.some.inj H
   go_enter Try.func189,Try.ntmps189
   go_wp2_with (first | ((with_reducible refine gate_dst (N := 2) rfl ?_);refine bX_ 2 (cs := #[.int .i64 a0_0,.slice A0_1 l0_1.length c0_1]) (t := 170) ?_;intro gb192 hg w11 hbox hb;have n0 := aM_ (sT_ HB.out hb);have n1 := aM_ (hbox);have n2 := aM_ (sZ_ hg HB.out);have n3 := aM_ (sZ_ hg HB.out);clear HB;have HB := n0;have BK192 := n1;have GW192 := n2;have GE192 := n3;clear n0 n1 n2 n3;clear hb hbox hg) | ((with_reducible refine gate_dst (N := 3) rfl ?_);refine bX_ 3 (cs := #[.int .i64 a1_0,.slice A1_1 l1_1.length c1_1]) (t := 170) ?_;intro gb193 hg w12 hbox hb;have n0 := aM_ (nB_ BK192.out hb);have n1 := aM_ (sT_ HB.out hb);have n2 := aM_ (hbox);have n3 := aM_ (sZ_ hg HB.out);have n4 := aM_ (sZ_ hg HB.out);have n5 := aM_ (nL_ hg BK192.out);have n6 := aM_ (nG_ hg BK192.out);clear BK192;clear HB;have BK192 := n0;have HB := n1;have BK193 := n2;have GW193 := n3;have GE193 := n4;have NB192_193 := n5;have NB193_192 := n6;clear n0 n1 n2 n3 n4 n5 n6;clear hb hbox hg;have hnb13 := NB192_193.out;have hnc13 := NB193_192.out;obtain ⟨hcz14_0,hcz14_1,hfz14_0,hfz14_1⟩ := bR2_ BK192.out;obtain ⟨hcz15_0,hcz15_1,hfz15_0,hfz15_1⟩ := bR2_ BK193.out) | ((with_reducible refine gate_callee (f := 39) rfl ?_);refine gL_ (some 14) Try.func39 #[.slice A0_1 l0_1.length c0_1,.slice A1_1 l1_1.length c1_1] ?_;(with_reducible refine (laws_eqIntS.calls k _ _ l0_1 _ _ l1_1 false _ ?side1 ?side2 ?side3 ?side4 A4.out).mono ?_);(case side1 => exact cS_ (Kd.C_below HR0_1.out HB.out));(case side2 => exact HC0_1.out);(case side3 => exact cS_ (Kd.C_below HR1_1.out HB.out));(case side4 => exact HC1_1.out);rintro e w' ⟨rfl,⟨nd,rfl⟩⟩;refine ⟨_,rfl,?_⟩))
   go_ret
   exact fI_ HB.out
 ·rw [if_neg c3] at H
  have c3b0 : (a0_0 == a1_0) = false := beq_eq_false_iff_ne.mpr c3
  have c3b1 : (a0_0 != a1_0) = true := bne_iff_ne.mpr c3
  obtain rfl := Option.some.inj H
  go_enter Try.func189,Try.ntmps189
  go_wp2_with (first | ((with_reducible refine gate_dst (N := 2) rfl ?_);refine bX_ 2 (cs := #[.int .i64 a0_0,.slice A0_1 l0_1.length c0_1]) (t := 170) ?_;intro gb192 hg w16 hbox hb;have n0 := aM_ (sT_ HB.out hb);have n1 := aM_ (hbox);have n2 := aM_ (sZ_ hg HB.out);have n3 := aM_ (sZ_ hg HB.out);clear HB;have HB := n0;have BK192 := n1;have GW192 := n2;have GE192 := n3;clear n0 n1 n2 n3;clear hb hbox hg) | ((with_reducible refine gate_dst (N := 3) rfl ?_);refine bX_ 3 (cs := #[.int .i64 a1_0,.slice A1_1 l1_1.length c1_1]) (t := 170) ?_;intro gb193 hg w17 hbox hb;have n0 := aM_ (nB_ BK192.out hb);have n1 := aM_ (sT_ HB.out hb);have n2 := aM_ (hbox);have n3 := aM_ (sZ_ hg HB.out);have n4 := aM_ (sZ_ hg HB.out);have n5 := aM_ (nL_ hg BK192.out);have n6 := aM_ (nG_ hg BK192.out);clear BK192;clear HB;have BK192 := n0;have HB := n1;have BK193 := n2;have GW193 := n3;have GE193 := n4;have NB192_193 := n5;have NB193_192 := n6;clear n0 n1 n2 n3 n4 n5 n6;clear hb hbox hg;have hnb18 := NB192_193.out;have hnc18 := NB193_192.out;obtain ⟨hcz19_0,hcz19_1,hfz19_0,hfz19_1⟩ := bR2_ BK192.out;obtain ⟨hcz20_0,hcz20_1,hfz20_0,hfz20_1⟩ := bR2_ BK193.out))
  go_ret
  exact fI_ HB.out
end Go.Proofs.Ytobachfngmpeiaa.PFnExactChanSame
