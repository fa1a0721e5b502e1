/- A part of the proof that the law FnExactStuck holds for every input. -/
import Derived.Test.YtobachfngmpeiaaZFnExactStucka24
import Derived.Test.YtobachfngmpeiaaZFnExactStucks
namespace Go.Proofs.Ytobachfngmpeiaa.PFnExactStuck
open Go.RowKit Go.Proofs.YtobachfngmpeiaaW.PrintWords Go.Proofs.YtobachfngmpeiaaW.PrintLast Go.Proofs.YtobachfngmpeiaaW.PrintMore
attribute [local go_sem] max2_int min2_int max_two min_two max_three min_three max_four min_four   -- for this text's walks alone
set_option linter.unusedVariables false
set_option linter.unusedSimpArgs false
def laws_FnExactStuck.f (k : Nat) (l0_0 : List Int) (l0_1 : List (List (S208))) (l1_0 : List (S184)) (l1_1 : List (S186)) (l1_2 : List (S190)) : Option (Bool) := (laws_szProg.f k l0_0 l0_1 1048576).bind fun t451 => (if t451 < 0 then (some true) else ((laws_szSource.f k l1_0 l1_1 l1_2 t451).bind fun t452 => (if t452 < 0 then (some true) else ((laws_toProg.f k l0_0 l0_1).bind fun bt453 => ((laws_toSource.f k l1_0 l1_1 l1_2).bind fun bt459 => ((spec_Stuck.f k bt453.1 bt453.2 bt459.1 bt459.2.1 bt459.2.2).bind fun t468 => ((laws_toProg.f k l0_0 l0_1).bind fun bt469 => ((laws_toSource.f k l1_0 l1_1 l1_2).bind fun bt476 => ((impl_Stuck.f k bt469.1 bt469.2 bt476.1 bt476.2.1 bt476.2.2).bind fun t486 => (if (t486 != t468) = true then (some false) else ((laws_toProg.f k l0_0 l0_1).bind fun bt487 => ((laws_eqProg.f k bt469.1 bt469.2 bt487.1 bt487.2).bind fun t493 => (if t493 = true then ((laws_toSource.f k l1_0 l1_1 l1_2).bind fun bt494 => ((laws_eqSource.f k bt476.1 bt476.2.1 bt476.2.2 bt494.1 bt494.2.1 bt494.2.2).bind fun t503 => (if t503 = true then (some true) else (some false)))) else (some false))))))))))))))
set_option maxHeartbeats 8000000 in
set_option maxRecDepth 100000 in
theorem laws_FnExactStuck.calls (k : Nat) (A0_0 : Option Addr) (c0_0 : Nat) (l0_0 : List Int) (A0_1 : Option Addr) (c0_1 : Nat) (l0_1 : List (List (S208))) (A1_0 : Option Addr) (c1_0 : Nat) (l1_0 : List (S184)) (A1_1 : Option Addr) (c1_1 : Nat) (l1_1 : List (S186)) (A1_2 : Option Addr) (c1_2 : Nat) (l1_2 : List (S190)) (r : Bool) (w : World) (hr0_0 : Kd.C (Kd.int .i64) w A0_0 l0_0.length l0_0) (hc0_0 : l0_0.length ≤ c0_0) (hr0_1 : Kd.C (Kd.slice 208 k208) w A0_1 l0_1.length l0_1) (hc0_1 : l0_1.length ≤ c0_1) (hr1_0 : Kd.C k184 w A1_0 l1_0.length l1_0) (hc1_0 : l1_0.length ≤ c1_0) (hr1_1 : Kd.C k186 w A1_1 l1_1.length l1_1) (hc1_1 : l1_1.length ≤ c1_1) (hr1_2 : Kd.C k190 w A1_2 l1_2.length l1_2) (hc1_2 : l1_2.length ≤ c1_2) (h : laws_FnExactStuck.f k l0_0 l0_1 l1_0 l1_1 l1_2 = some r) (hr : r = true) :
  Calls Try.prog 6 #[.agg #[.slice A0_0 l0_0.length c0_0,.slice A0_1 l0_1.length c0_1],.agg #[.slice A1_0 l1_0.length c1_0,.slice A1_1 l1_1.length c1_1,.slice A1_2 l1_2.length c1_2]] w fun e w' => e = .returned (.bool r) ∧ Below w.heap.size w w' := by
 have hu38 := Try.underlying38
 have hu72 := Try.underlying72
 have hu44 := Try.underlying44
 have hu28 := Try.underlying28
 have HR0_0 := aM_ hr0_0
 have HC0_0 := aM_ hc0_0
 clear hr0_0 hc0_0
 have HR0_1 := aM_ hr0_1
 have HC0_1 := aM_ hc0_1
 clear hr0_1 hc0_1
 have HR1_0 := aM_ hr1_0
 have HC1_0 := aM_ hc1_0
 clear hr1_0 hc1_0
 have HR1_1 := aM_ hr1_1
 have HC1_1 := aM_ hc1_1
 clear hr1_1 hc1_1
 have HR1_2 := aM_ hr1_2
 have HC1_2 := aM_ hc1_2
 clear hr1_2 hc1_2
 have HB := aM_ (Below.refl w.heap.size w)
 have H : ((laws_szProg.f k l0_0 l0_1 1048576).bind fun t451 => (if t451 < 0 then (some true) else ((laws_szSource.f k l1_0 l1_1 l1_2 t451).bind fun t452 => (if t452 < 0 then (some true) else ((laws_toProg.f k l0_0 l0_1).bind fun bt453 => ((laws_toSource.f k l1_0 l1_1 l1_2).bind fun bt459 => ((spec_Stuck.f k bt453.1 bt453.2 bt459.1 bt459.2.1 bt459.2.2).bind fun t468 => ((laws_toProg.f k l0_0 l0_1).bind fun bt469 => ((laws_toSource.f k l1_0 l1_1 l1_2).bind fun bt476 => ((impl_Stuck.f k bt469.1 bt469.2 bt476.1 bt476.2.1 bt476.2.2).bind fun t486 => (if (t486 != t468) = true then (some false) else ((laws_toProg.f k l0_0 l0_1).bind fun bt487 => ((laws_eqProg.f k bt469.1 bt469.2 bt487.1 bt487.2).bind fun t493 => (if t493 = true then ((laws_toSource.f k l1_0 l1_1 l1_2).bind fun bt494 => ((laws_eqSource.f k bt476.1 bt476.2.1 bt476.2.2 bt494.1 bt494.2.1 bt494.2.2).bind fun t503 => (if t503 = true then (some true) else (some false)))) else (some false))))))))))))))) = some r := h
 clear h
 replace H := Option.bind_eq_some_iff.mp H
 obtain ⟨t451,A30,H⟩ := H
 replace H : (if t451 < 0 then (some true) else ((laws_szSource.f k l1_0 l1_1 l1_2 t451).bind fun t452 => (if t452 < 0 then (some true) else ((laws_toProg.f k l0_0 l0_1).bind fun bt453 => ((laws_toSource.f k l1_0 l1_1 l1_2).bind fun bt459 => ((spec_Stuck.f k bt453.1 bt453.2 bt459.1 bt459.2.1 bt459.2.2).bind fun t468 => ((laws_toProg.f k l0_0 l0_1).bind fun bt469 => ((laws_toSource.f k l1_0 l1_1 l1_2).bind fun bt476 => ((impl_Stuck.f k bt469.1 bt469.2 bt476.1 bt476.2.1 bt476.2.2).bind fun t486 => (if (t486 != t468) = true then (some false) else ((laws_toProg.f k l0_0 l0_1).bind fun bt487 => ((laws_eqProg.f k bt469.1 bt469.2 bt487.1 bt487.2).bind fun t493 => (if t493 = true then ((laws_toSource.f k l1_0 l1_1 l1_2).bind fun bt494 => ((laws_eqSource.f k bt476.1 bt476.2.1 bt476.2.2 bt494.1 bt494.2.1 bt494.2.2).bind fun t503 => (if t503 = true then (some true) else (some false)))) else (some false)))))))))))))) = some r := H
 have A3 := aM_ A30
 clear A30
 by_cases c4 : t451 < 0
 ·rw [if_pos c4] at H
  have c4b0 : decide (t451 < 0) = true := decide_eq_true c4
  clear c4
  obtain rfl := Option.some.inj H
  go_enter Try.func6,Try.ntmps6
  go_wp2_with (first | ((with_reducible refine gate_dst (N := 2) rfl ?_);refine bX_ 2 (cs := #[.slice A0_0 l0_0.length c0_0,.slice A0_1 l0_1.length c0_1]) (t := 38) ?_;intro gb449 hg w5 hbox hb;have BK449 := aM_ (hbox);have GE449 := aM_ (sZ_ hg HB.out);replace HB := aM_ (sT_ HB.out hb);clear hb hbox hg) | ((with_reducible refine gate_dst (N := 3) rfl ?_);refine bX_ 3 (cs := #[.slice A1_0 l1_0.length c1_0,.slice A1_1 l1_1.length c1_1,.slice A1_2 l1_2.length c1_2]) (t := 72) ?_;intro gb450 hg w6 hbox hb;have BK450 := aM_ (hbox);have GE450 := aM_ (sZ_ hg HB.out);have NB449_450 := aM_ (nL_ hg BK449.out);have NB450_449 := aM_ (nG_ hg BK449.out);replace BK449 := aM_ (nB_ BK449.out hb);replace HB := aM_ (sT_ HB.out hb);clear hb hbox hg;have hnb7 := NB449_450.out;have hnc7 := NB450_449.out;have z_8 := bR2_ BK449.out) | ((with_reducible refine gate_callee (f := 15) rfl ?_);refine gL_ (some 12) Try.func15 #[.agg #[.slice A0_0 l0_0.length c0_0,.slice A0_1 l0_1.length c0_1],.int .i64 1048576] ?_;(with_reducible refine (laws_szProg.calls k _ _ l0_0 _ _ l0_1 1048576 t451 _ ?side1 ?side2 ?side3 ?side4 A3.out).mono ?_);(case side1 => exact cS_ (Kd.C_below HR0_0.out HB.out));(case side2 => exact HC0_0.out);(case side3 => exact cS_ (Kd.C_below HR0_1.out HB.out));(case side4 => exact HC0_1.out);rintro e w9 ⟨rfl,hb⟩;refine ⟨_,rfl,?_⟩;replace BK449 := aM_ (nB_ BK449.out hb);replace BK450 := aM_ (nB_ BK450.out hb);replace HB := aM_ (sT_ HB.out hb)))
  go_ret
  exact fI_ HB.out
 ·rw [if_neg c4] at H
  have c4b0 : decide (t451 < 0) = false := decide_eq_false c4
  clear c4
  replace H := Option.bind_eq_some_iff.mp H
  obtain ⟨t452,A100,H⟩ := H
  replace H : (if t452 < 0 then (some true) else ((laws_toProg.f k l0_0 l0_1).bind fun bt453 => ((laws_toSource.f k l1_0 l1_1 l1_2).bind fun bt459 => ((spec_Stuck.f k bt453.1 bt453.2 bt459.1 bt459.2.1 bt459.2.2).bind fun t468 => ((laws_toProg.f k l0_0 l0_1).bind fun bt469 => ((laws_toSource.f k l1_0 l1_1 l1_2).bind fun bt476 => ((impl_Stuck.f k bt469.1 bt469.2 bt476.1 bt476.2.1 bt476.2.2).bind fun t486 => (if (t486 != t468) = true then (some false) else ((laws_toProg.f k l0_0 l0_1).bind fun bt487 => ((laws_eqProg.f k bt469.1 bt469.2 bt487.1 bt487.2).bind fun t493 => (if t493 = true then ((laws_toSource.f k l1_0 l1_1 l1_2).bind fun bt494 => ((laws_eqSource.f k bt476.1 bt476.2.1 bt476.2.2 bt494.1 bt494.2.1 bt494.2.2).bind fun t503 => (if t503 = true then (some true) else (some false)))) else (some false)))))))))))) = some r := H
  have A10 := aM_ A100
  clear A100
  by_cases c11 : t452 < 0
  ·rw [if_pos c11] at H
   have c11b0 : decide (t452 < 0) = true := decide_eq_true c11
   clear c11
   obtain rfl := Option.some.inj H
   go_enter Try.func6,Try.ntmps6
   go_wp2_with (first | ((with_reducible refine gate_dst (N := 2) rfl ?_);refine bX_ 2 (cs := #[.slice A0_0 l0_0.length c0_0,.slice A0_1 l0_1.length c0_1]) (t := 38) ?_;intro gb449 hg w12 hbox hb;have BK449 := aM_ (hbox);have GE449 := aM_ (sZ_ hg HB.out);replace HB := aM_ (sT_ HB.out hb);clear hb hbox hg) | ((with_reducible refine gate_dst (N := 3) rfl ?_);refine bX_ 3 (cs := #[.slice A1_0 l1_0.length c1_0,.slice A1_1 l1_1.length c1_1,.slice A1_2 l1_2.length c1_2]) (t := 72) ?_;intro gb450 hg w13 hbox hb;have BK450 := aM_ (hbox);have GE450 := aM_ (sZ_ hg HB.out);have NB449_450 := aM_ (nL_ hg BK449.out);have NB450_449 := aM_ (nG_ hg BK449.out);replace BK449 := aM_ (nB_ BK449.out hb);replace HB := aM_ (sT_ HB.out hb);clear hb hbox hg;have hnb14 := NB449_450.out;have hnc14 := NB450_449.out;have z_15 := bR2_ BK449.out) | ((with_reducible refine gate_callee (f := 15) rfl ?_);refine gL_ (some 12) Try.func15 #[.agg #[.slice A0_0 l0_0.length c0_0,.slice A0_1 l0_1.length c0_1],.int .i64 1048576] ?_;(with_reducible refine (laws_szProg.calls k _ _ l0_0 _ _ l0_1 1048576 t451 _ ?side1 ?side2 ?side3 ?side4 A3.out).mono ?_);(case side1 => exact cS_ (Kd.C_below HR0_0.out HB.out));(case side2 => exact HC0_0.out);(case side3 => exact cS_ (Kd.C_below HR0_1.out HB.out));(case side4 => exact HC0_1.out);rintro e w16 ⟨rfl,hb⟩;refine ⟨_,rfl,?_⟩;replace BK449 := aM_ (nB_ BK449.out hb);replace BK450 := aM_ (nB_ BK450.out hb);replace HB := aM_ (sT_ HB.out hb);have z_17 := bR3_ BK450.out) | ((with_reducible refine gate_callee (f := 33) rfl ?_);refine gL_ (some 17) Try.func33 #[.agg #[.slice A1_0 l1_0.length c1_0,.slice A1_1 l1_1.length c1_1,.slice A1_2 l1_2.length c1_2],.int .i64 t451] ?_;(with_reducible refine (laws_szSource.calls k _ _ l1_0 _ _ l1_1 _ _ l1_2 t451 t452 _ ?side1 ?side2 ?side3 ?side4 ?side5 ?side6 A10.out).mono ?_);(case side1 => exact cS_ (Kd.C_below HR1_0.out HB.out));(case side2 => exact HC1_0.out);(case side3 => exact cS_ (Kd.C_below HR1_1.out HB.out));(case side4 => exact HC1_1.out);(case side5 => exact cS_ (Kd.C_below HR1_2.out HB.out));(case side6 => exact HC1_2.out);rintro e w18 ⟨rfl,hb⟩;refine ⟨_,rfl,?_⟩;replace BK449 := aM_ (nB_ BK449.out hb);replace BK450 := aM_ (nB_ BK450.out hb);replace HB := aM_ (sT_ HB.out hb)))
   go_ret
   exact fI_ HB.out
  ·rw [if_neg c11] at H
   have c11b0 : decide (t452 < 0) = false := decide_eq_false c11
   clear c11
   replace H := Option.bind_eq_some_iff.mp H
   obtain ⟨⟨t453,t456⟩,A190,H⟩ := H
   replace H : ((laws_toSource.f k l1_0 l1_1 l1_2).bind fun bt459 => ((spec_Stuck.f k t453 t456 bt459.1 bt459.2.1 bt459.2.2).bind fun t468 => ((laws_toProg.f k l0_0 l0_1).bind fun bt469 => ((laws_toSource.f k l1_0 l1_1 l1_2).bind fun bt476 => ((impl_Stuck.f k bt469.1 bt469.2 bt476.1 bt476.2.1 bt476.2.2).bind fun t486 => (if (t486 != t468) = true then (some false) else ((laws_toProg.f k l0_0 l0_1).bind fun bt487 => ((laws_eqProg.f k bt469.1 bt469.2 bt487.1 bt487.2).bind fun t493 => (if t493 = true then ((laws_toSource.f k l1_0 l1_1 l1_2).bind fun bt494 => ((laws_eqSource.f k bt476.1 bt476.2.1 bt476.2.2 bt494.1 bt494.2.1 bt494.2.2).bind fun t503 => (if t503 = true then (some true) else (some false)))) else (some false)))))))))) = some r := H
   have A19 := aM_ A190
   clear A190
   replace H := Option.bind_eq_some_iff.mp H
   obtain ⟨⟨t459,t462,t465⟩,A200,H⟩ := H
   replace H : ((spec_Stuck.f k t453 t456 t459 t462 t465).bind fun t468 => ((laws_toProg.f k l0_0 l0_1).bind fun bt469 => ((laws_toSource.f k l1_0 l1_1 l1_2).bind fun bt476 => ((impl_Stuck.f k bt469.1 bt469.2 bt476.1 bt476.2.1 bt476.2.2).bind fun t486 => (if (t486 != t468) = true then (some false) else ((laws_toProg.f k l0_0 l0_1).bind fun bt487 => ((laws_eqProg.f k bt469.1 bt469.2 bt487.1 bt487.2).bind fun t493 => (if t493 = true then ((laws_toSource.f k l1_0 l1_1 l1_2).bind fun bt494 => ((laws_eqSource.f k bt476.1 bt476.2.1 bt476.2.2 bt494.1 bt494.2.1 bt494.2.2).bind fun t503 => (if t503 = true then (some true) else (some false)))) else (some false))))))))) = some r := H
   have A20 := aM_ A200
   clear A200
   replace H := Option.bind_eq_some_iff.mp H
   obtain ⟨t468,A210,H⟩ := H
   replace H : ((laws_toProg.f k l0_0 l0_1).bind fun bt469 => ((laws_toSource.f k l1_0 l1_1 l1_2).bind fun bt476 => ((impl_Stuck.f k bt469.1 bt469.2 bt476.1 bt476.2.1 bt476.2.2).bind fun t486 => (if (t486 != t468) = true then (some false) else ((laws_toProg.f k l0_0 l0_1).bind fun bt487 => ((laws_eqProg.f k bt469.1 bt469.2 bt487.1 bt487.2).bind fun t493 => (if t493 = true then ((laws_toSource.f k l1_0 l1_1 l1_2).bind fun bt494 => ((laws_eqSource.f k bt476.1 bt476.2.1 bt476.2.2 bt494.1 bt494.2.1 bt494.2.2).bind fun t503 => (if t503 = true then (some true) else (some false)))) else (some false)))))))) = some r := H
   have A21 := aM_ A210
   clear A210
   replace H := Option.bind_eq_some_iff.mp H
   obtain ⟨⟨t469,t472⟩,A220,H⟩ := H
   replace H : ((laws_toSource.f k l1_0 l1_1 l1_2).bind fun bt476 => ((impl_Stuck.f k t469 t472 bt476.1 bt476.2.1 bt476.2.2).bind fun t486 => (if (t486 != t468) = true then (some false) else ((laws_toProg.f k l0_0 l0_1).bind fun bt487 => ((laws_eqProg.f k t469 t472 bt487.1 bt487.2).bind fun t493 => (if t493 = true then ((laws_toSource.f k l1_0 l1_1 l1_2).bind fun bt494 => ((laws_eqSource.f k bt476.1 bt476.2.1 bt476.2.2 bt494.1 bt494.2.1 bt494.2.2).bind fun t503 => (if t503 = true then (some true) else (some false)))) else (some false))))))) = some r := H
   have A22 := aM_ A220
   clear A220
   replace H := Option.bind_eq_some_iff.mp H
   obtain ⟨⟨t476,t479,t482⟩,A230,H⟩ := H
   replace H : ((impl_Stuck.f k t469 t472 t476 t479 t482).bind fun t486 => (if (t486 != t468) = true then (some false) else ((laws_toProg.f k l0_0 l0_1).bind fun bt487 => ((laws_eqProg.f k t469 t472 bt487.1 bt487.2).bind fun t493 => (if t493 = true then ((laws_toSource.f k l1_0 l1_1 l1_2).bind fun bt494 => ((laws_eqSource.f k t476 t479 t482 bt494.1 bt494.2.1 bt494.2.2).bind fun t503 => (if t503 = true then (some true) else (some false)))) else (some false)))))) = some r := H
   have A23 := aM_ A230
   clear A230
   replace H := Option.bind_eq_some_iff.mp H
   obtain ⟨t486,A240,H⟩ := H
   replace H : (if (t486 != t468) = true then (some false) else ((laws_toProg.f k l0_0 l0_1).bind fun bt487 => ((laws_eqProg.f k t469 t472 bt487.1 bt487.2).bind fun t493 => (if t493 = true then ((laws_toSource.f k l1_0 l1_1 l1_2).bind fun bt494 => ((laws_eqSource.f k t476 t479 t482 bt494.1 bt494.2.1 bt494.2.2).bind fun t503 => (if t503 = true then (some true) else (some false)))) else (some false))))) = some r := H
   have A24 := aM_ A240
   clear A240
   by_cases c25 : (t486 != t468) = true
   ·rw [if_pos c25] at H
    exact absurd ((Option.some.inj H).trans hr) (by decide)
   ·rw [if_neg c25] at H
    have c25b0 : (t486 != t468) = false := by simpa using c25
    (try (have c25b1 : decide (t486 = t468) = true := by simpa using c25))
    (try (have c25b2 : (t486 == t468) = true := by simpa using c25))
    clear c25
    replace H := Option.bind_eq_some_iff.mp H
    obtain ⟨⟨t487,t490⟩,A620,H⟩ := H
    replace H : ((laws_eqProg.f k t469 t472 t487 t490).bind fun t493 => (if t493 = true then ((laws_toSource.f k l1_0 l1_1 l1_2).bind fun bt494 => ((laws_eqSource.f k t476 t479 t482 bt494.1 bt494.2.1 bt494.2.2).bind fun t503 => (if t503 = true then (some true) else (some false)))) else (some false))) = some r := H
    have A62 := aM_ A620
    clear A620
    replace H := Option.bind_eq_some_iff.mp H
    obtain ⟨t493,A630,H⟩ := H
    replace H : (if t493 = true then ((laws_toSource.f k l1_0 l1_1 l1_2).bind fun bt494 => ((laws_eqSource.f k t476 t479 t482 bt494.1 bt494.2.1 bt494.2.2).bind fun t503 => (if t503 = true then (some true) else (some false)))) else (some false)) = some r := H
    have A63 := aM_ A630
    clear A630
    by_cases c64 : t493 = true
    ·subst c64
     have H1 : ((laws_toSource.f k l1_0 l1_1 l1_2).bind fun bt494 => ((laws_eqSource.f k t476 t479 t482 bt494.1 bt494.2.1 bt494.2.2).bind fun t503 => (if t503 = true then (some true) else (some false)))) = some r := by rw [if_pos rfl] at H;exact H
     clear H
     have H := H1
     clear H1
     replace H := Option.bind_eq_some_iff.mp H
     obtain ⟨⟨t494,t497,t500⟩,A650,H⟩ := H
     replace H : ((laws_eqSource.f k t476 t479 t482 t494 t497 t500).bind fun t503 => (if t503 = true then (some true) else (some false))) = some r := H
     have A65 := aM_ A650
     clear A650
     replace H := Option.bind_eq_some_iff.mp H
     obtain ⟨t503,A660,H⟩ := H
     replace H : (if t503 = true then (some true) else (some false)) = some r := H
     have A66 := aM_ A660
     clear A660
     by_cases c67 : t503 = true
     ·subst c67
      have H1 : (some true) = some r := by rw [if_pos rfl] at H;exact H
      clear H
      have H := H1
      clear H1
      obtain rfl := Option.some.inj H
      go_enter Try.func6,Try.ntmps6
      try go_wp2_with (first | ((with_reducible refine gate_dst (N := 2) rfl ?_);refine bX_ 2 (cs := #[.slice A0_0 l0_0.length c0_0,.slice A0_1 l0_1.length c0_1]) (t := 38) ?_;intro gb449 hg w68 hbox hb;have BK449 := aM_ (hbox);have GE449 := aM_ (sZ_ hg HB.out);replace HB := aM_ (sT_ HB.out hb);clear hb hbox hg) | ((with_reducible refine gate_dst (N := 3) rfl ?_);refine bX_ 3 (cs := #[.slice A1_0 l1_0.length c1_0,.slice A1_1 l1_1.length c1_1,.slice A1_2 l1_2.length c1_2]) (t := 72) ?_;intro gb450 hg w69 hbox hb;have BK450 := aM_ (hbox);have GE450 := aM_ (sZ_ hg HB.out);have NB449_450 := aM_ (nL_ hg BK449.out);have NB450_449 := aM_ (nG_ hg BK449.out);replace BK449 := aM_ (nB_ BK449.out hb);replace HB := aM_ (sT_ HB.out hb);clear hb hbox hg;have hnb70 := NB449_450.out;have hnc70 := NB450_449.out;have z_71 := bR2_ BK449.out) | ((with_reducible refine gate_callee (f := 15) rfl ?_);refine gL_ (some 12) Try.func15 #[.agg #[.slice A0_0 l0_0.length c0_0,.slice A0_1 l0_1.length c0_1],.int .i64 1048576] ?_;(with_reducible refine (laws_szProg.calls k _ _ l0_0 _ _ l0_1 1048576 t451 _ ?side1 ?side2 ?side3 ?side4 A3.out).mono ?_);(case side1 => exact cS_ (Kd.C_below HR0_0.out HB.out));(case side2 => exact HC0_0.out);(case side3 => exact cS_ (Kd.C_below HR0_1.out HB.out));(case side4 => exact HC0_1.out);rintro e w72 ⟨rfl,hb⟩;refine ⟨_,rfl,?_⟩;replace BK449 := aM_ (nB_ BK449.out hb);replace BK450 := aM_ (nB_ BK450.out hb);replace HB := aM_ (sT_ HB.out hb);have z_73 := bR3_ BK450.out) | ((with_reducible refine gate_callee (f := 33) rfl ?_);refine gL_ (some 17) Try.func33 #[.agg #[.slice A1_0 l1_0.length c1_0,.slice A1_1 l1_1.length c1_1,.slice A1_2 l1_2.length c1_2],.int .i64 t451] ?_;(with_reducible refine (laws_szSource.calls k _ _ l1_0 _ _ l1_1 _ _ l1_2 t451 t452 _ ?side1 ?side2 ?side3 ?side4 ?side5 ?side6 A10.out).mono ?_);(case side1 => exact cS_ (Kd.C_below HR1_0.out HB.out));(case side2 => exact HC1_0.out);(case side3 => exact cS_ (Kd.C_below HR1_1.out HB.out));(case side4 => exact HC1_1.out);(case side5 => exact cS_ (Kd.C_below HR1_2.out HB.out));(case side6 => exact HC1_2.out);rintro e w74 ⟨rfl,hb⟩;refine ⟨_,rfl,?_⟩;replace BK449 := aM_ (nB_ BK449.out hb);replace BK450 := aM_ (nB_ BK450.out hb);replace HB := aM_ (sT_ HB.out hb)))
      replace BK449 := aM_ (blk_drew BK449.out)
      replace BK450 := aM_ (blk_drew BK450.out)
      replace HB := aM_ (below_drew1 HB.out)
      refine start_ (n := 6) (S := fun w' => w'.cell? ⟨gb449,0,none⟩ = some (.slice A0_0 l0_0.length c0_0) ∧ w'.cell? ⟨gb449,1,none⟩ = some (.slice A0_1 l0_1.length c0_1) ∧ w'.cell? ⟨gb450,0,none⟩ = some (.slice A1_0 l1_0.length c1_0) ∧ w'.cell? ⟨gb450,1,none⟩ = some (.slice A1_1 l1_1.length c1_1) ∧ w'.cell? ⟨gb450,2,none⟩ = some (.slice A1_2 l1_2.length c1_2)) (ds := []) (mk_ 6 0) (by kernel_rfl) rfl rfl ⟨(blk_cell BK449.out 0).trans rfl,(blk_cell BK449.out 1).trans rfl,(blk_cell BK450.out 0).trans rfl,(blk_cell BK450.out 1).trans rfl,(blk_cell BK450.out 2).trans rfl⟩ (fun hHeld => ?_)
      generalize w74.drew = w75 at BK449 BK450 HB hHeld ⊢
      refine tK5_ 0 20 (mk_ 6 1) ?_
      refine tK5_ 2 22 (mk_ 6 5) ?_
      refine oN_ 1 21 (mk_ 6 7) (fun K hK => ?_)
      refine gO_ Try.func17 #[.agg #[.slice A0_0 l0_0.length c0_0,.slice A0_1 l0_1.length c0_1]] ?_
      with_reducible refine (laws_toProg.calls k _ _ l0_0 _ _ l0_1 t453 t456 _ ?side1 ?side2 ?side3 ?side4 A19.out).mono ?_
      (case side1 => exact cS_ (Kd.C_below HR0_0.out HB.out))
      (case side2 => exact HC0_0.out)
      (case side3 => exact cS_ (Kd.C_below HR0_1.out HB.out))
      (case side4 => exact HC0_1.out)
      rintro e w76 ⟨v454,v457,rfl,ho0,ho1,hb⟩
      refine ⟨_,rfl,?_⟩
      have HO455 := aM_ (Kd.R_lower ho0 (below_size (gB_ HB.out)))
      have HO458 := aM_ (Kd.S_lower ho1 (below_size (gB_ HB.out)))
      replace BK449 := aM_ (nB_ BK449.out hb)
      replace BK450 := aM_ (nB_ BK450.out hb)
      replace HB := aM_ (sT_ HB.out hb)
      (try clear hb)
      (try clear hb2)
      (try clear hk)
      (try clear hi)
      (try clear ho0)
      (try clear ho1)
      refine kO_ hK (some 21) ⟨(blk_cell BK449.out 0).trans rfl,(blk_cell BK449.out 1).trans rfl,(blk_cell BK450.out 0).trans rfl,(blk_cell BK450.out 1).trans rfl,(blk_cell BK450.out 2).trans rfl⟩ (fun hHeld => ?_)
      clear hK K
      refine oN_ 3 23 (mk_ 6 15) (fun K hK => ?_)
      refine gO_ Try.func35 #[.agg #[.slice A1_0 l1_0.length c1_0,.slice A1_1 l1_1.length c1_1,.slice A1_2 l1_2.length c1_2]] ?_
      with_reducible refine (laws_toSource.calls k _ _ l1_0 _ _ l1_1 _ _ l1_2 t459 t462 t465 _ ?side1 ?side2 ?side3 ?side4 ?side5 ?side6 A20.out).mono ?_
      (case side1 => exact cS_ (Kd.C_below HR1_0.out HB.out))
      (case side2 => exact HC1_0.out)
      (case side3 => exact cS_ (Kd.C_below HR1_1.out HB.out))
      (case side4 => exact HC1_1.out)
      (case side5 => exact cS_ (Kd.C_below HR1_2.out HB.out))
      (case side6 => exact HC1_2.out)
      rintro e w77 ⟨v460,v463,v466,rfl,ho0,ho1,ho2,hb⟩
      refine ⟨_,rfl,?_⟩
      have HO461 := aM_ (Kd.S_lower (Kd.S_new' ho0 (Kd.R_lt (by (with_reducible repeat (first | apply rA_ | apply rN_ | apply rD_));exact HO455.out))) (below_size (gB_ HB.out)))
      have HO464 := aM_ (Kd.S_lower (Kd.S_new' ho1 (Kd.R_lt (by (with_reducible repeat (first | apply rA_ | apply rN_ | apply rD_));exact HO455.out))) (below_size (gB_ HB.out)))
      have HO467 := aM_ (Kd.R_lower ho2 (below_size (gB_ HB.out)))
      replace HO455 := aM_ (bR_ HO455.out hb)
      replace HO458 := aM_ (bS_ HO458.out hb)
      replace BK449 := aM_ (nB_ BK449.out hb)
      replace BK450 := aM_ (nB_ BK450.out hb)
      replace HB := aM_ (sT_ HB.out hb)
      (try clear hb)
      (try clear hb2)
      (try clear hk)
      (try clear hi)
      (try clear ho0)
      (try clear ho1)
      (try clear ho2)
      obtain ⟨Ao78,co78,eo78⟩ := Kd.R_slice HO455.out
      (first | subst eo78 | (injection eo78 with f1_ f2_ f3_;have f4_ := f1_.symm;have f5_ := f3_.symm;clear f1_ f2_ f3_;subst f4_;subst f5_))
      obtain ⟨Ao79,co79,eo79⟩ := Kd.S_slice HO458.out
      (first | subst eo79 | (injection eo79 with f1_ f2_ f3_;have f4_ := f1_.symm;have f5_ := f3_.symm;clear f1_ f2_ f3_;subst f4_;subst f5_))
      obtain ⟨Ao80,co80,eo80⟩ := Kd.S_slice HO461.out
      (first | subst eo80 | (injection eo80 with f1_ f2_ f3_;have f4_ := f1_.symm;have f5_ := f3_.symm;clear f1_ f2_ f3_;subst f4_;subst f5_))
      obtain ⟨Ao81,co81,eo81⟩ := Kd.S_slice HO464.out
      (first | subst eo81 | (injection eo81 with f1_ f2_ f3_;have f4_ := f1_.symm;have f5_ := f3_.symm;clear f1_ f2_ f3_;subst f4_;subst f5_))
      obtain ⟨Ao82,co82,eo82⟩ := Kd.R_slice HO467.out
      (first | subst eo82 | (injection eo82 with f1_ f2_ f3_;have f4_ := f1_.symm;have f5_ := f3_.symm;clear f1_ f2_ f3_;subst f4_;subst f5_))
      refine kO_ hK (some 23) ⟨(blk_cell BK449.out 0).trans rfl,(blk_cell BK449.out 1).trans rfl,(blk_cell BK450.out 0).trans rfl,(blk_cell BK450.out 1).trans rfl,(blk_cell BK450.out 2).trans rfl⟩ (fun hHeld => ?_)
      clear hK K
      refine oN_ 4 24 (mk_ 6 31) (fun K hK => ?_)
      refine gO_ Try.func34 #[.agg #[.slice Ao78 t453.length co78,.slice Ao79 t456.length co79],.agg #[.slice Ao80 t459.length co80,.slice Ao81 t462.length co81,.slice Ao82 t465.length co82]] ?_
      with_reducible refine (spec_Stuck.calls k _ _ t453 _ _ t456 _ _ t459 _ _ t462 _ _ t465 t468 _ ?side1 ?side2 ?side3 ?side4 ?side5 ?side6 ?side7 ?side8 ?side9 ?side10 A21.out).mono ?_
      (case side1 => exact cS_ (Kd.R_reads' HO455.out).2.2)
      (case side2 => exact (Kd.R_reads' HO455.out).2.1)
      (case side3 => exact cS_ (Kd.S_reads' HO458.out).2.2)
      (case side4 => exact (Kd.S_reads' HO458.out).2.1)
      (case side5 => exact cS_ (Kd.S_reads' HO461.out).2.2)
      (case side6 => exact (Kd.S_reads' HO461.out).2.1)
      (case side7 => exact cS_ (Kd.S_reads' HO464.out).2.2)
      (case side8 => exact (Kd.S_reads' HO464.out).2.1)
      (case side9 => exact cS_ (Kd.R_reads' HO467.out).2.2)
      (case side10 => exact (Kd.R_reads' HO467.out).2.1)
      rintro e w83 ⟨rfl,hb⟩
      refine ⟨_,rfl,?_⟩
      replace HO455 := aM_ (bR_ HO455.out hb)
      replace HO458 := aM_ (bS_ HO458.out hb)
      replace HO461 := aM_ (bS_ HO461.out hb)
      replace HO464 := aM_ (bS_ HO464.out hb)
      replace HO467 := aM_ (bR_ HO467.out hb)
      replace BK449 := aM_ (nB_ BK449.out hb)
      replace BK450 := aM_ (nB_ BK450.out hb)
      replace HB := aM_ (sT_ HB.out hb)
      (try clear hb)
      (try clear hb2)
      (try clear hk)
      (try clear hi)
      refine kO_ hK (some 24) ⟨(blk_cell BK449.out 0).trans rfl,(blk_cell BK449.out 1).trans rfl,(blk_cell BK450.out 0).trans rfl,(blk_cell BK450.out 1).trans rfl,(blk_cell BK450.out 2).trans rfl⟩ (fun hHeld => ?_)
      clear hK K
      refine pU_ 5 6 (mk_ 6 63) ?_
      refine done_ (by kernel_rfl) ?_
      have z_84 := bR2_ BK449.out
      try go_wp2_with (first | ((with_reducible refine gate_callee (f := 17) rfl ?_);refine gL_ (some 26) Try.func17 #[.agg #[.slice A0_0 l0_0.length c0_0,.slice A0_1 l0_1.length c0_1]] ?_;(with_reducible refine (laws_toProg.calls k _ _ l0_0 _ _ l0_1 t469 t472 _ ?side1 ?side2 ?side3 ?side4 A22.out).mono ?_);(case side1 => exact cS_ (Kd.C_below HR0_0.out HB.out));(case side2 => exact HC0_0.out);(case side3 => exact cS_ (Kd.C_below HR0_1.out HB.out));(case side4 => exact HC0_1.out);rintro e w85 ⟨v470,v473,rfl,ho0,ho1,hb⟩;refine ⟨_,rfl,?_⟩;have HO471 := aM_ (Kd.R_lower (Kd.R_new' ho0 (Kd.R_lt (by (with_reducible repeat (first | apply rA_ | apply rN_ | apply rD_));exact HO455.out))) (below_size (gB_ HB.out)));have HO474 := aM_ (Kd.S_lower (Kd.S_new' ho1 (Kd.S_lt (by (with_reducible repeat (first | apply Kd.S_alloc | apply Kd.S_drewN | apply Kd.S_drew));exact HO458.out))) (below_size (gB_ HB.out)));replace HO455 := aM_ (Kd.R_elder' (by (with_reducible repeat (first | apply rA_ | apply rN_ | apply rD_));exact HO455.out) (Kd.R_base ho0) hb);replace HO458 := aM_ (Kd.S_elder' (by (with_reducible repeat (first | apply Kd.S_alloc | apply Kd.S_drewN | apply Kd.S_drew));exact HO458.out) (Kd.S_base ho1) hb);replace HO461 := aM_ (Kd.S_elder' (by (with_reducible repeat (first | apply Kd.S_alloc | apply Kd.S_drewN | apply Kd.S_drew));exact HO461.out) (Kd.R_base ho0) hb);replace HO464 := aM_ (Kd.S_elder' (by (with_reducible repeat (first | apply Kd.S_alloc | apply Kd.S_drewN | apply Kd.S_drew));exact HO464.out) (Kd.R_base ho0) hb);replace HO467 := aM_ (bR_ HO467.out hb);replace BK449 := aM_ (nB_ BK449.out hb);replace BK450 := aM_ (nB_ BK450.out hb);replace HB := aM_ (sT_ HB.out hb);(try clear ho0);(try clear ho1)) | ((with_reducible refine gate_dst (N := 7) rfl ?_);refine bX_ 7 (cs := #[.slice none 0 0,.slice none 0 0]) (t := 44) ?_;intro gb475 hg w86 hbox hb;have BK475 := aM_ (hbox);have GE475 := aM_ (sZ_ hg HB.out);have NB449_475 := aM_ (nL_ hg BK449.out);have NB475_449 := aM_ (nG_ hg BK449.out);have NB450_475 := aM_ (nL_ hg BK450.out);have NB475_450 := aM_ (nG_ hg BK450.out);replace HO455 := aM_ (bR_ HO455.out hb);replace HO458 := aM_ (bS_ HO458.out hb);replace HO461 := aM_ (bS_ HO461.out hb);replace HO464 := aM_ (bS_ HO464.out hb);replace HO467 := aM_ (bR_ HO467.out hb);replace HO471 := aM_ (bR_ HO471.out hb);replace HO474 := aM_ (bS_ HO474.out hb);replace BK449 := aM_ (nB_ BK449.out hb);replace BK450 := aM_ (nB_ BK450.out hb);replace HB := aM_ (sT_ HB.out hb);clear hb hbox hg;obtain ⟨Ao87,co87,eo87⟩ := Kd.R_slice HO471.out;subst eo87;have hnb88 := NB475_449.out;have hnc88 := NB449_475.out;have hnb89 := NB475_450.out;have hnc89 := NB450_475.out;have z_90 := bR2_ BK475.out;obtain ⟨Ao91,co91,eo91⟩ := Kd.S_slice HO474.out;subst eo91;have z_92 := bR3_ BK450.out) | ((with_reducible refine gate_callee (f := 35) rfl ?_);refine gL_ (some 28) Try.func35 #[.agg #[.slice A1_0 l1_0.length c1_0,.slice A1_1 l1_1.length c1_1,.slice A1_2 l1_2.length c1_2]] ?_;(with_reducible refine (laws_toSource.calls k _ _ l1_0 _ _ l1_1 _ _ l1_2 t476 t479 t482 _ ?side1 ?side2 ?side3 ?side4 ?side5 ?side6 A23.out).mono ?_);(case side1 => exact Kd.C_below HR1_0.out (gB_ HB.out));(case side2 => exact HC1_0.out);(case side3 => exact Kd.C_below HR1_1.out (gB_ HB.out));(case side4 => exact HC1_1.out);(case side5 => exact Kd.C_below HR1_2.out (gB_ HB.out));(case side6 => exact HC1_2.out);rintro e w93 ⟨v477,v480,v483,rfl,ho0,ho1,ho2,hb⟩;refine ⟨_,rfl,?_⟩;have HO478 := aM_ (Kd.S_lower (Kd.S_new' (Kd.S_new' (Kd.S_new' ho0 (Kd.R_lt (by (with_reducible repeat (first | apply rA_ | apply rN_ | apply rD_));exact (Kd.R_mono (Kd.R_far (p := ⟨gb475,1,none⟩) (Kd.R_far (p := ⟨gb475,0,none⟩) (Kd.R_types HO455.out BK475.out (by decide)) (fun _ hk => hk.2) (.slice Ao87 t469.length co87)) (fun _ hk => hk.2) (.slice Ao91 t472.length co91)) (fun _ h_ => h_.1))))) (Kd.S_lt (by (with_reducible repeat (first | apply Kd.S_alloc | apply Kd.S_drewN | apply Kd.S_drew));exact (Kd.S_mono (Kd.S_far (p := ⟨gb475,1,none⟩) (Kd.S_far (p := ⟨gb475,0,none⟩) (Kd.S_types HO461.out BK475.out (by decide)) (fun _ hk => hk.2) (.slice Ao87 t469.length co87)) (fun _ hk => hk.2) (.slice Ao91 t472.length co91)) (fun _ h_ => h_.1))))) (Kd.R_lt (by (with_reducible repeat (first | apply rA_ | apply rN_ | apply rD_));exact (Kd.R_mono (Kd.R_far (p := ⟨gb475,1,none⟩) (Kd.R_far (p := ⟨gb475,0,none⟩) (Kd.R_types HO471.out BK475.out (by decide)) (fun _ hk => hk.2) (.slice Ao87 t469.length co87)) (fun _ hk => hk.2) (.slice Ao91 t472.length co91)) (fun _ h_ => h_.1))))) (below_size (gB_ HB.out)));have HO481 := aM_ (Kd.S_lower (Kd.S_new' (Kd.S_new' (Kd.S_new' ho1 (Kd.R_lt (by (with_reducible repeat (first | apply rA_ | apply rN_ | apply rD_));exact (Kd.R_mono (Kd.R_far (p := ⟨gb475,1,none⟩) (Kd.R_far (p := ⟨gb475,0,none⟩) (Kd.R_types HO455.out BK475.out (by decide)) (fun _ hk => hk.2) (.slice Ao87 t469.length co87)) (fun _ hk => hk.2) (.slice Ao91 t472.length co91)) (fun _ h_ => h_.1))))) (Kd.S_lt (by (with_reducible repeat (first | apply Kd.S_alloc | apply Kd.S_drewN | apply Kd.S_drew));exact (Kd.S_mono (Kd.S_far (p := ⟨gb475,1,none⟩) (Kd.S_far (p := ⟨gb475,0,none⟩) (Kd.S_types HO464.out BK475.out (by decide)) (fun _ hk => hk.2) (.slice Ao87 t469.length co87)) (fun _ hk => hk.2) (.slice Ao91 t472.length co91)) (fun _ h_ => h_.1))))) (Kd.R_lt (by (with_reducible repeat (first | apply rA_ | apply rN_ | apply rD_));exact (Kd.R_mono (Kd.R_far (p := ⟨gb475,1,none⟩) (Kd.R_far (p := ⟨gb475,0,none⟩) (Kd.R_types HO471.out BK475.out (by decide)) (fun _ hk => hk.2) (.slice Ao87 t469.length co87)) (fun _ hk => hk.2) (.slice Ao91 t472.length co91)) (fun _ h_ => h_.1))))) (below_size (gB_ HB.out)));have HO484 := aM_ (Kd.R_lower (Kd.R_new' ho2 (Kd.R_lt (by (with_reducible repeat (first | apply rA_ | apply rN_ | apply rD_));exact (Kd.R_mono (Kd.R_far (p := ⟨gb475,1,none⟩) (Kd.R_far (p := ⟨gb475,0,none⟩) (Kd.R_types HO467.out BK475.out (by decide)) (fun _ hk => hk.2) (.slice Ao87 t469.length co87)) (fun _ hk => hk.2) (.slice Ao91 t472.length co91)) (fun _ h_ => h_.1))))) (below_size (gB_ HB.out)));replace HO455 := aM_ (Kd.R_below (by (with_reducible repeat (first | apply rA_ | apply rN_ | apply rD_));exact (Kd.R_mono (Kd.R_far (p := ⟨gb475,1,none⟩) (Kd.R_far (p := ⟨gb475,0,none⟩) (Kd.R_types HO455.out BK475.out (by decide)) (fun _ hk => hk.2) (.slice Ao87 t469.length co87)) (fun _ hk => hk.2) (.slice Ao91 t472.length co91)) (fun _ h_ => h_.1))) hb);replace HO458 := aM_ (Kd.S_below (by (with_reducible repeat (first | apply Kd.S_alloc | apply Kd.S_drewN | apply Kd.S_drew));exact (Kd.S_mono (Kd.S_far (p := ⟨gb475,1,none⟩) (Kd.S_far (p := ⟨gb475,0,none⟩) (Kd.S_types HO458.out BK475.out (by decide)) (fun _ hk => hk.2) (.slice Ao87 t469.length co87)) (fun _ hk => hk.2) (.slice Ao91 t472.length co91)) (fun _ h_ => h_.1))) hb);replace HO461 := aM_ (Kd.S_elder' (by (with_reducible repeat (first | apply Kd.S_alloc | apply Kd.S_drewN | apply Kd.S_drew));exact (Kd.S_mono (Kd.S_far (p := ⟨gb475,1,none⟩) (Kd.S_far (p := ⟨gb475,0,none⟩) (Kd.S_types HO461.out BK475.out (by decide)) (fun _ hk => hk.2) (.slice Ao87 t469.length co87)) (fun _ hk => hk.2) (.slice Ao91 t472.length co91)) (fun _ h_ => h_.1))) (Kd.S_base ho0) hb);replace HO464 := aM_ (Kd.S_elder' (by (with_reducible repeat (first | apply Kd.S_alloc | apply Kd.S_drewN | apply Kd.S_drew));exact (Kd.S_mono (Kd.S_far (p := ⟨gb475,1,none⟩) (Kd.S_far (p := ⟨gb475,0,none⟩) (Kd.S_types HO464.out BK475.out (by decide)) (fun _ hk => hk.2) (.slice Ao87 t469.length co87)) (fun _ hk => hk.2) (.slice Ao91 t472.length co91)) (fun _ h_ => h_.1))) (Kd.S_base ho1) hb);replace HO467 := aM_ (Kd.R_elder' (by (with_reducible repeat (first | apply rA_ | apply rN_ | apply rD_));exact (Kd.R_mono (Kd.R_far (p := ⟨gb475,1,none⟩) (Kd.R_far (p := ⟨gb475,0,none⟩) (Kd.R_types HO467.out BK475.out (by decide)) (fun _ hk => hk.2) (.slice Ao87 t469.length co87)) (fun _ hk => hk.2) (.slice Ao91 t472.length co91)) (fun _ h_ => h_.1))) (Kd.R_base ho2) hb);replace HO471 := aM_ (Kd.R_below (by (with_reducible repeat (first | apply rA_ | apply rN_ | apply rD_));exact (Kd.R_mono (Kd.R_far (p := ⟨gb475,1,none⟩) (Kd.R_far (p := ⟨gb475,0,none⟩) (Kd.R_types HO471.out BK475.out (by decide)) (fun _ hk => hk.2) (.slice Ao87 t469.length co87)) (fun _ hk => hk.2) (.slice Ao91 t472.length co91)) (fun _ h_ => h_.1))) hb);replace HO474 := aM_ (Kd.S_below (by (with_reducible repeat (first | apply Kd.S_alloc | apply Kd.S_drewN | apply Kd.S_drew));exact (Kd.S_mono (Kd.S_far (p := ⟨gb475,1,none⟩) (Kd.S_far (p := ⟨gb475,0,none⟩) (Kd.S_types HO474.out BK475.out (by decide)) (fun _ hk => hk.2) (.slice Ao87 t469.length co87)) (fun _ hk => hk.2) (.slice Ao91 t472.length co91)) (fun _ h_ => h_.1))) hb);replace BK449 := aM_ (nBf_ BK449.out hb);replace BK450 := aM_ (nBf_ BK450.out hb);replace BK475 := aM_ (blk_below (g := gb475) (o := .cells #[.slice Ao87 t469.length co87,.slice Ao91 t472.length co91] 44 (0,0)) (by (with_reducible repeat (first | refine bN_ ?_ _ | refine bD_ ?_ | refine bA_ ?_ _));refine blk_put (cs := #[.slice Ao87 t469.length co87,.slice none 0 0]) ?_ 1 _ rfl;refine blk_put (cs := #[.slice none 0 0,.slice none 0 0]) ?_ 0 _ rfl;exact rW_ BK475.out) hb);replace HB := aM_ (sT_ HB.out hb);(try clear ho0);(try clear ho1);(try clear ho2)) | ((with_reducible refine gate_dst (N := 8) rfl ?_);refine bX_ 8 (cs := #[.slice none 0 0,.slice none 0 0,.slice none 0 0]) (t := 28) ?_;intro gb485 hg w94 hbox hb;have BK485 := aM_ (hbox);have GE485 := aM_ (sZ_ hg HB.out);have NB449_485 := aM_ (nL_ hg BK449.out);have NB485_449 := aM_ (nG_ hg BK449.out);have NB450_485 := aM_ (nL_ hg BK450.out);have NB485_450 := aM_ (nG_ hg BK450.out);have NB475_485 := aM_ (nL_ hg BK475.out);have NB485_475 := aM_ (nG_ hg BK475.out);replace HO455 := aM_ (bR_ HO455.out hb);replace HO458 := aM_ (bS_ HO458.out hb);replace HO461 := aM_ (bS_ HO461.out hb);replace HO464 := aM_ (bS_ HO464.out hb);replace HO467 := aM_ (bR_ HO467.out hb);replace HO471 := aM_ (bR_ HO471.out hb);replace HO474 := aM_ (bS_ HO474.out hb);replace HO478 := aM_ (bS_ HO478.out hb);replace HO481 := aM_ (bS_ HO481.out hb);replace HO484 := aM_ (bR_ HO484.out hb);replace BK449 := aM_ (nB_ BK449.out hb);replace BK450 := aM_ (nB_ BK450.out hb);replace BK475 := aM_ (nB_ BK475.out hb);replace HB := aM_ (sT_ HB.out hb);clear hb hbox hg;obtain ⟨Ao95,co95,eo95⟩ := Kd.S_slice HO478.out;subst eo95;have hnb96 := NB485_449.out;have hnc96 := NB449_485.out;have hnb97 := NB485_450.out;have hnc97 := NB450_485.out;have hnb98 := NB485_475.out;have hnc98 := NB475_485.out;have z_99 := bR3_ BK485.out;obtain ⟨Ao100,co100,eo100⟩ := Kd.S_slice HO481.out;subst eo100;obtain ⟨Ao101,co101,eo101⟩ := Kd.R_slice HO484.out;subst eo101;have z_102 := bR2_ BK475.out) | ((with_reducible refine gate_callee (f := 36) rfl ?_);refine gL_ (some 31) Try.func36 #[.agg #[.slice Ao87 t469.length co87,.slice Ao91 t472.length co91],.agg #[.slice Ao95 t476.length co95,.slice Ao100 t479.length co100,.slice Ao101 t482.length co101]] ?_;(with_reducible refine (impl_Stuck.calls k _ _ t469 _ _ t472 _ _ t476 _ _ t479 _ _ t482 t486 _ ?side1 ?side2 ?side3 ?side4 ?side5 ?side6 ?side7 ?side8 ?side9 ?side10 A24.out).mono ?_);(case side1 => refine (Kd.R_reads' (e := 3) (base := w.heap.size) (ok := fun k_ => (True ∧ some k_ ≠ (.slice Ao78 t453.length co78 : Value).ownBlock)) (n := t469.length) (c := co87) ?_).2.2;exact (by (with_reducible repeat (first | apply rA_ | apply rN_ | apply rD_));exact (Kd.R_mono (Kd.R_far (p := ⟨gb485,2,none⟩) (Kd.R_far (p := ⟨gb485,1,none⟩) (Kd.R_far (p := ⟨gb485,0,none⟩) (Kd.R_types HO471.out BK485.out (by decide)) (fun _ hk => hk.2) (.slice Ao95 t476.length co95)) (fun _ hk => hk.2) (.slice Ao100 t479.length co100)) (fun _ hk => hk.2) (.slice Ao101 t482.length co101)) (fun _ h_ => h_.1))));(case side2 => exact (Kd.R_reads' HO471.out).2.1);(case side3 => refine (Kd.S_reads' (e := 162) (base := w.heap.size) (ok := fun k_ => (True ∧ some k_ ≠ (.slice Ao79 t456.length co79 : Value).ownBlock)) (n := t472.length) (c := co91) ?_).2.2;exact (by (with_reducible repeat (first | apply Kd.S_alloc | apply Kd.S_drewN | apply Kd.S_drew));exact (Kd.S_mono (Kd.S_far (p := ⟨gb485,2,none⟩) (Kd.S_far (p := ⟨gb485,1,none⟩) (Kd.S_far (p := ⟨gb485,0,none⟩) (Kd.S_types HO474.out BK485.out (by decide)) (fun _ hk => hk.2) (.slice Ao95 t476.length co95)) (fun _ hk => hk.2) (.slice Ao100 t479.length co100)) (fun _ hk => hk.2) (.slice Ao101 t482.length co101)) (fun _ h_ => h_.1))));(case side4 => exact (Kd.S_reads' HO474.out).2.1);(case side5 => refine (Kd.S_reads' (e := 107) (base := w.heap.size) (ok := fun k_ => (((True ∧ some k_ ≠ (.slice Ao78 t453.length co78 : Value).ownBlock) ∧ some k_ ≠ (.slice Ao80 t459.length co80 : Value).ownBlock) ∧ some k_ ≠ (.slice Ao87 t469.length co87 : Value).ownBlock)) (n := t476.length) (c := co95) ?_).2.2;exact (by (with_reducible repeat (first | apply Kd.S_alloc | apply Kd.S_drewN | apply Kd.S_drew));exact (Kd.S_mono (Kd.S_far (p := ⟨gb485,2,none⟩) (Kd.S_far (p := ⟨gb485,1,none⟩) (Kd.S_far (p := ⟨gb485,0,none⟩) (Kd.S_types HO478.out BK485.out (by decide)) (fun _ hk => hk.2) (.slice Ao95 t476.length co95)) (fun _ hk => hk.2) (.slice Ao100 t479.length co100)) (fun _ hk => hk.2) (.slice Ao101 t482.length co101)) (fun _ h_ => h_.1))));(case side6 => exact (Kd.S_reads' HO478.out).2.1);(case side7 => refine (Kd.S_reads' (e := 94) (base := w.heap.size) (ok := fun k_ => (((True ∧ some k_ ≠ (.slice Ao78 t453.length co78 : Value).ownBlock) ∧ some k_ ≠ (.slice Ao81 t462.length co81 : Value).ownBlock) ∧ some k_ ≠ (.slice Ao87 t469.length co87 : Value).ownBlock)) (n := t479.length) (c := co100) ?_).2.2;exact (by (with_reducible repeat (first | apply Kd.S_alloc | apply Kd.S_drewN | apply Kd.S_drew));exact (Kd.S_mono (Kd.S_far (p := ⟨gb485,2,none⟩) (Kd.S_far (p := ⟨gb485,1,none⟩) (Kd.S_far (p := ⟨gb485,0,none⟩) (Kd.S_types HO481.out BK485.out (by decide)) (fun _ hk => hk.2) (.slice Ao95 t476.length co95)) (fun _ hk => hk.2) (.slice Ao100 t479.length co100)) (fun _ hk => hk.2) (.slice Ao101 t482.length co101)) (fun _ h_ => h_.1))));(case side8 => exact (Kd.S_reads' HO481.out).2.1);(case side9 => refine (Kd.R_reads' (e := 35) (base := w.heap.size) (ok := fun k_ => (True ∧ some k_ ≠ (.slice Ao82 t465.length co82 : Value).ownBlock)) (n := t482.length) (c := co101) ?_).2.2;exact (by (with_reducible repeat (first | apply rA_ | apply rN_ | apply rD_));exact (Kd.R_mono (Kd.R_far (p := ⟨gb485,2,none⟩) (Kd.R_far (p := ⟨gb485,1,none⟩) (Kd.R_far (p := ⟨gb485,0,none⟩) (Kd.R_types HO484.out BK485.out (by decide)) (fun _ hk => hk.2) (.slice Ao95 t476.length co95)) (fun _ hk => hk.2) (.slice Ao100 t479.length co100)) (fun _ hk => hk.2) (.slice Ao101 t482.length co101)) (fun _ h_ => h_.1))));(case side10 => exact (Kd.R_reads' HO484.out).2.1);rintro e w103 ⟨rfl,hb⟩;refine ⟨_,rfl,?_⟩;replace HO455 := aM_ (Kd.R_below (by (with_reducible repeat (first | apply rA_ | apply rN_ | apply rD_));exact (Kd.R_mono (Kd.R_far (p := ⟨gb485,2,none⟩) (Kd.R_far (p := ⟨gb485,1,none⟩) (Kd.R_far (p := ⟨gb485,0,none⟩) (Kd.R_types HO455.out BK485.out (by decide)) (fun _ hk => hk.2) (.slice Ao95 t476.length co95)) (fun _ hk => hk.2) (.slice Ao100 t479.length co100)) (fun _ hk => hk.2) (.slice Ao101 t482.length co101)) (fun _ h_ => h_.1))) hb);replace HO458 := aM_ (Kd.S_below (by (with_reducible repeat (first | apply Kd.S_alloc | apply Kd.S_drewN | apply Kd.S_drew));exact (Kd.S_mono (Kd.S_far (p := ⟨gb485,2,none⟩) (Kd.S_far (p := ⟨gb485,1,none⟩) (Kd.S_far (p := ⟨gb485,0,none⟩) (Kd.S_types HO458.out BK485.out (by decide)) (fun _ hk => hk.2) (.slice Ao95 t476.length co95)) (fun _ hk => hk.2) (.slice Ao100 t479.length co100)) (fun _ hk => hk.2) (.slice Ao101 t482.length co101)) (fun _ h_ => h_.1))) hb);replace HO461 := aM_ (Kd.S_below (by (with_reducible repeat (first | apply Kd.S_alloc | apply Kd.S_drewN | apply Kd.S_drew));exact (Kd.S_mono (Kd.S_far (p := ⟨gb485,2,none⟩) (Kd.S_far (p := ⟨gb485,1,none⟩) (Kd.S_far (p := ⟨gb485,0,none⟩) (Kd.S_types HO461.out BK485.out (by decide)) (fun _ hk => hk.2) (.slice Ao95 t476.length co95)) (fun _ hk => hk.2) (.slice Ao100 t479.length co100)) (fun _ hk => hk.2) (.slice Ao101 t482.length co101)) (fun _ h_ => h_.1))) hb);replace HO464 := aM_ (Kd.S_below (by (with_reducible repeat (first | apply Kd.S_alloc | apply Kd.S_drewN | apply Kd.S_drew));exact (Kd.S_mono (Kd.S_far (p := ⟨gb485,2,none⟩) (Kd.S_far (p := ⟨gb485,1,none⟩) (Kd.S_far (p := ⟨gb485,0,none⟩) (Kd.S_types HO464.out BK485.out (by decide)) (fun _ hk => hk.2) (.slice Ao95 t476.length co95)) (fun _ hk => hk.2) (.slice Ao100 t479.length co100)) (fun _ hk => hk.2) (.slice Ao101 t482.length co101)) (fun _ h_ => h_.1))) hb);replace HO467 := aM_ (Kd.R_below (by (with_reducible repeat (first | apply rA_ | apply rN_ | apply rD_));exact (Kd.R_mono (Kd.R_far (p := ⟨gb485,2,none⟩) (Kd.R_far (p := ⟨gb485,1,none⟩) (Kd.R_far (p := ⟨gb485,0,none⟩) (Kd.R_types HO467.out BK485.out (by decide)) (fun _ hk => hk.2) (.slice Ao95 t476.length co95)) (fun _ hk => hk.2) (.slice Ao100 t479.length co100)) (fun _ hk => hk.2) (.slice Ao101 t482.length co101)) (fun _ h_ => h_.1))) hb);replace HO471 := aM_ (Kd.R_below (by (with_reducible repeat (first | apply rA_ | apply rN_ | apply rD_));exact (Kd.R_mono (Kd.R_far (p := ⟨gb485,2,none⟩) (Kd.R_far (p := ⟨gb485,1,none⟩) (Kd.R_far (p := ⟨gb485,0,none⟩) (Kd.R_types HO471.out BK485.out (by decide)) (fun _ hk => hk.2) (.slice Ao95 t476.length co95)) (fun _ hk => hk.2) (.slice Ao100 t479.length co100)) (fun _ hk => hk.2) (.slice Ao101 t482.length co101)) (fun _ h_ => h_.1))) hb);replace HO474 := aM_ (Kd.S_below (by (with_reducible repeat (first | apply Kd.S_alloc | apply Kd.S_drewN | apply Kd.S_drew));exact (Kd.S_mono (Kd.S_far (p := ⟨gb485,2,none⟩) (Kd.S_far (p := ⟨gb485,1,none⟩) (Kd.S_far (p := ⟨gb485,0,none⟩) (Kd.S_types HO474.out BK485.out (by decide)) (fun _ hk => hk.2) (.slice Ao95 t476.length co95)) (fun _ hk => hk.2) (.slice Ao100 t479.length co100)) (fun _ hk => hk.2) (.slice Ao101 t482.length co101)) (fun _ h_ => h_.1))) hb);replace HO478 := aM_ (Kd.S_below (by (with_reducible repeat (first | apply Kd.S_alloc | apply Kd.S_drewN | apply Kd.S_drew));exact (Kd.S_mono (Kd.S_far (p := ⟨gb485,2,none⟩) (Kd.S_far (p := ⟨gb485,1,none⟩) (Kd.S_far (p := ⟨gb485,0,none⟩) (Kd.S_types HO478.out BK485.out (by decide)) (fun _ hk => hk.2) (.slice Ao95 t476.length co95)) (fun _ hk => hk.2) (.slice Ao100 t479.length co100)) (fun _ hk => hk.2) (.slice Ao101 t482.length co101)) (fun _ h_ => h_.1))) hb);replace HO481 := aM_ (Kd.S_below (by (with_reducible repeat (first | apply Kd.S_alloc | apply Kd.S_drewN | apply Kd.S_drew));exact (Kd.S_mono (Kd.S_far (p := ⟨gb485,2,none⟩) (Kd.S_far (p := ⟨gb485,1,none⟩) (Kd.S_far (p := ⟨gb485,0,none⟩) (Kd.S_types HO481.out BK485.out (by decide)) (fun _ hk => hk.2) (.slice Ao95 t476.length co95)) (fun _ hk => hk.2) (.slice Ao100 t479.length co100)) (fun _ hk => hk.2) (.slice Ao101 t482.length co101)) (fun _ h_ => h_.1))) hb);replace HO484 := aM_ (Kd.R_below (by (with_reducible repeat (first | apply rA_ | apply rN_ | apply rD_));exact (Kd.R_mono (Kd.R_far (p := ⟨gb485,2,none⟩) (Kd.R_far (p := ⟨gb485,1,none⟩) (Kd.R_far (p := ⟨gb485,0,none⟩) (Kd.R_types HO484.out BK485.out (by decide)) (fun _ hk => hk.2) (.slice Ao95 t476.length co95)) (fun _ hk => hk.2) (.slice Ao100 t479.length co100)) (fun _ hk => hk.2) (.slice Ao101 t482.length co101)) (fun _ h_ => h_.1))) hb);replace BK449 := aM_ (nBf_ BK449.out hb);replace BK450 := aM_ (nBf_ BK450.out hb);replace BK475 := aM_ (nBf_ BK475.out hb);replace BK485 := aM_ (blk_below (g := gb485) (o := .cells #[.slice Ao95 t476.length co95,.slice Ao100 t479.length co100,.slice Ao101 t482.length co101] 28 (0,0)) (by (with_reducible repeat (first | refine bN_ ?_ _ | refine bD_ ?_ | refine bA_ ?_ _));refine blk_put (cs := #[.slice Ao95 t476.length co95,.slice Ao100 t479.length co100,.slice none 0 0]) ?_ 2 _ rfl;refine blk_put (cs := #[.slice Ao95 t476.length co95,.slice none 0 0,.slice none 0 0]) ?_ 1 _ rfl;refine blk_put (cs := #[.slice none 0 0,.slice none 0 0,.slice none 0 0]) ?_ 0 _ rfl;exact rW_ BK485.out) hb);replace HB := aM_ (sT_ HB.out hb)))
      replace HO455 := aM_ (Kd.R_drew HO455.out)
      replace HO458 := aM_ (Kd.S_drew HO458.out)
      replace HO461 := aM_ (Kd.S_drew HO461.out)
      replace HO464 := aM_ (Kd.S_drew HO464.out)
      replace HO467 := aM_ (Kd.R_drew HO467.out)
      replace HO471 := aM_ (Kd.R_drew HO471.out)
      replace HO474 := aM_ (Kd.S_drew HO474.out)
      replace HO478 := aM_ (Kd.S_drew HO478.out)
      replace HO481 := aM_ (Kd.S_drew HO481.out)
      replace HO484 := aM_ (Kd.R_drew HO484.out)
      replace BK449 := aM_ (blk_drew BK449.out)
      replace BK450 := aM_ (blk_drew BK450.out)
      replace BK475 := aM_ (blk_drew BK475.out)
      replace BK485 := aM_ (blk_drew BK485.out)
      replace HB := aM_ (below_drew1 HB.out)
      refine start_ (n := 5) (S := fun w' => w'.cell? ⟨gb475,0,none⟩ = some (.slice Ao87 t469.length co87) ∧ w'.cell? ⟨gb475,1,none⟩ = some (.slice Ao91 t472.length co91) ∧ w'.cell? ⟨gb449,0,none⟩ = some (.slice A0_0 l0_0.length c0_0) ∧ w'.cell? ⟨gb449,1,none⟩ = some (.slice A0_1 l0_1.length c0_1)) (ds := []) (mk_ 5 0) (by kernel_rfl) rfl rfl ⟨(blk_cell BK475.out 0).trans rfl,(blk_cell BK475.out 1).trans rfl,(blk_cell BK449.out 0).trans rfl,(blk_cell BK449.out 1).trans rfl⟩ (fun hHeld => ?_)
      generalize w103.drew = w104 at HO455 HO458 HO461 HO464 HO467 HO471 HO474 HO478 HO481 HO484 BK449 BK450 BK475 BK485 HB hHeld ⊢
      refine tK4_ 0 35 (mk_ 5 1) ?_
      refine tK4_ 1 36 (mk_ 5 3) ?_
      refine oN_ 2 37 (mk_ 5 7) (fun K hK => ?_)
      refine gO_ Try.func17 #[.agg #[.slice A0_0 l0_0.length c0_0,.slice A0_1 l0_1.length c0_1]] ?_
      with_reducible refine (laws_toProg.calls k _ _ l0_0 _ _ l0_1 t487 t490 _ ?side1 ?side2 ?side3 ?side4 A62.out).mono ?_
      (case side1 => exact cS_ (Kd.C_below HR0_0.out HB.out))
      (case side2 => exact HC0_0.out)
      (case side3 => exact cS_ (Kd.C_below HR0_1.out HB.out))
      (case side4 => exact HC0_1.out)
      rintro e w105 ⟨v488,v491,rfl,ho0,ho1,hb⟩
      refine ⟨_,rfl,?_⟩
      have HO489 := aM_ (Kd.R_lower (Kd.R_new' (Kd.R_new' ho0 (Kd.R_lt (by (with_reducible repeat (first | apply rA_ | apply rN_ | apply rD_));exact HO455.out))) (Kd.R_lt (by (with_reducible repeat (first | apply rA_ | apply rN_ | apply rD_));exact HO471.out))) (below_size (gB_ HB.out)))
      have HO492 := aM_ (Kd.S_lower (Kd.S_new' (Kd.S_new' ho1 (Kd.S_lt (by (with_reducible repeat (first | apply Kd.S_alloc | apply Kd.S_drewN | apply Kd.S_drew));exact HO458.out))) (Kd.S_lt (by (with_reducible repeat (first | apply Kd.S_alloc | apply Kd.S_drewN | apply Kd.S_drew));exact HO474.out))) (below_size (gB_ HB.out)))
      replace HO455 := aM_ (Kd.R_elder' (by (with_reducible repeat (first | apply rA_ | apply rN_ | apply rD_));exact HO455.out) (Kd.R_base ho0) hb)
      replace HO458 := aM_ (Kd.S_elder' (by (with_reducible repeat (first | apply Kd.S_alloc | apply Kd.S_drewN | apply Kd.S_drew));exact HO458.out) (Kd.S_base ho1) hb)
      replace HO461 := aM_ (Kd.S_elder' (by (with_reducible repeat (first | apply Kd.S_alloc | apply Kd.S_drewN | apply Kd.S_drew));exact HO461.out) (Kd.R_base ho0) hb)
      replace HO464 := aM_ (Kd.S_elder' (by (with_reducible repeat (first | apply Kd.S_alloc | apply Kd.S_drewN | apply Kd.S_drew));exact HO464.out) (Kd.R_base ho0) hb)
      replace HO467 := aM_ (bR_ HO467.out hb)
      replace HO471 := aM_ (Kd.R_elder' (by (with_reducible repeat (first | apply rA_ | apply rN_ | apply rD_));exact HO471.out) (Kd.R_base ho0) hb)
      replace HO474 := aM_ (Kd.S_elder' (by (with_reducible repeat (first | apply Kd.S_alloc | apply Kd.S_drewN | apply Kd.S_drew));exact HO474.out) (Kd.S_base ho1) hb)
      replace HO478 := aM_ (Kd.S_elder' (by (with_reducible repeat (first | apply Kd.S_alloc | apply Kd.S_drewN | apply Kd.S_drew));exact HO478.out) (Kd.R_base ho0) hb)
      replace HO481 := aM_ (Kd.S_elder' (by (with_reducible repeat (first | apply Kd.S_alloc | apply Kd.S_drewN | apply Kd.S_drew));exact HO481.out) (Kd.R_base ho0) hb)
      replace HO484 := aM_ (bR_ HO484.out hb)
      replace BK449 := aM_ (nB_ BK449.out hb)
      replace BK450 := aM_ (nB_ BK450.out hb)
      replace BK475 := aM_ (nB_ BK475.out hb)
      replace BK485 := aM_ (nB_ BK485.out hb)
      replace HB := aM_ (sT_ HB.out hb)
      (try clear hb)
      (try clear hb2)
      (try clear hk)
      (try clear hi)
      (try clear ho0)
      (try clear ho1)
      obtain ⟨Ao106,co106,eo106⟩ := Kd.R_slice HO489.out
      (first | subst eo106 | (injection eo106 with f1_ f2_ f3_;have f4_ := f1_.symm;have f5_ := f3_.symm;clear f1_ f2_ f3_;subst f4_;subst f5_))
      obtain ⟨Ao107,co107,eo107⟩ := Kd.S_slice HO492.out
      (first | subst eo107 | (injection eo107 with f1_ f2_ f3_;have f4_ := f1_.symm;have f5_ := f3_.symm;clear f1_ f2_ f3_;subst f4_;subst f5_))
      refine kO_ hK (some 37) ⟨(blk_cell BK475.out 0).trans rfl,(blk_cell BK475.out 1).trans rfl,(blk_cell BK449.out 0).trans rfl,(blk_cell BK449.out 1).trans rfl⟩ (fun hHeld => ?_)
      clear hK K
      refine oN_ 3 38 (mk_ 5 15) (fun K hK => ?_)
      refine gO_ Try.func20 #[.agg #[.slice Ao87 t469.length co87,.slice Ao91 t472.length co91],.agg #[.slice Ao106 t487.length co106,.slice Ao107 t490.length co107]] ?_
      with_reducible refine (laws_eqProg.calls k _ _ t469 _ _ t472 _ _ t487 _ _ t490 true _ ?side1 ?side2 ?side3 ?side4 ?side5 ?side6 ?side7 ?side8 A63.out).mono ?_
      (case side1 => exact cS_ (Kd.R_reads' HO471.out).2.2)
      (case side2 => exact (Kd.R_reads' HO471.out).2.1)
      (case side3 => exact cS_ (Kd.S_reads' HO474.out).2.2)
      (case side4 => exact (Kd.S_reads' HO474.out).2.1)
      (case side5 => exact cS_ (Kd.R_reads' HO489.out).2.2)
      (case side6 => exact (Kd.R_reads' HO489.out).2.1)
      (case side7 => exact cS_ (Kd.S_reads' HO492.out).2.2)
      (case side8 => exact (Kd.S_reads' HO492.out).2.1)
      rintro e w108 ⟨rfl,hb⟩
      refine ⟨_,rfl,?_⟩
      replace HO455 := aM_ (bR_ HO455.out hb)
      replace HO458 := aM_ (bS_ HO458.out hb)
      replace HO461 := aM_ (bS_ HO461.out hb)
      replace HO464 := aM_ (bS_ HO464.out hb)
      replace HO467 := aM_ (bR_ HO467.out hb)
      replace HO471 := aM_ (bR_ HO471.out hb)
      replace HO474 := aM_ (bS_ HO474.out hb)
      replace HO478 := aM_ (bS_ HO478.out hb)
      replace HO481 := aM_ (bS_ HO481.out hb)
      replace HO484 := aM_ (bR_ HO484.out hb)
      replace HO489 := aM_ (bR_ HO489.out hb)
      replace HO492 := aM_ (bS_ HO492.out hb)
      replace BK449 := aM_ (nB_ BK449.out hb)
      replace BK450 := aM_ (nB_ BK450.out hb)
      replace BK475 := aM_ (nB_ BK475.out hb)
      replace BK485 := aM_ (nB_ BK485.out hb)
      replace HB := aM_ (sT_ HB.out hb)
      (try clear hb)
      (try clear hb2)
      (try clear hk)
      (try clear hi)
      refine kO_ hK (some 38) ⟨(blk_cell BK475.out 0).trans rfl,(blk_cell BK475.out 1).trans rfl,(blk_cell BK449.out 0).trans rfl,(blk_cell BK449.out 1).trans rfl⟩ (fun hHeld => ?_)
      clear hK K
      refine pU_ 4 39 (mk_ 5 31) ?_
      refine done_ (by kernel_rfl) ?_
      try go_wp2
      replace HO455 := aM_ (Kd.R_drew HO455.out)
      replace HO458 := aM_ (Kd.S_drew HO458.out)
      replace HO461 := aM_ (Kd.S_drew HO461.out)
      replace HO464 := aM_ (Kd.S_drew HO464.out)
      replace HO467 := aM_ (Kd.R_drew HO467.out)
      replace HO471 := aM_ (Kd.R_drew HO471.out)
      replace HO474 := aM_ (Kd.S_drew HO474.out)
      replace HO478 := aM_ (Kd.S_drew HO478.out)
      replace HO481 := aM_ (Kd.S_drew HO481.out)
      replace HO484 := aM_ (Kd.R_drew HO484.out)
      replace HO489 := aM_ (Kd.R_drew HO489.out)
      replace HO492 := aM_ (Kd.S_drew HO492.out)
      replace BK449 := aM_ (blk_drew BK449.out)
      replace BK450 := aM_ (blk_drew BK450.out)
      replace BK475 := aM_ (blk_drew BK475.out)
      replace BK485 := aM_ (blk_drew BK485.out)
      replace HB := aM_ (below_drew1 HB.out)
      refine start_ (n := 5) (S := fun w' => w'.cell? ⟨gb485,0,none⟩ = some (.slice Ao95 t476.length co95) ∧ w'.cell? ⟨gb485,1,none⟩ = some (.slice Ao100 t479.length co100) ∧ w'.cell? ⟨gb485,2,none⟩ = some (.slice Ao101 t482.length co101) ∧ w'.cell? ⟨gb450,0,none⟩ = some (.slice A1_0 l1_0.length c1_0) ∧ w'.cell? ⟨gb450,1,none⟩ = some (.slice A1_1 l1_1.length c1_1) ∧ w'.cell? ⟨gb450,2,none⟩ = some (.slice A1_2 l1_2.length c1_2)) (ds := []) (mk_ 5 0) (by kernel_rfl) rfl rfl ⟨(blk_cell BK485.out 0).trans rfl,(blk_cell BK485.out 1).trans rfl,(blk_cell BK485.out 2).trans rfl,(blk_cell BK450.out 0).trans rfl,(blk_cell BK450.out 1).trans rfl,(blk_cell BK450.out 2).trans rfl⟩ (fun hHeld => ?_)
      generalize w108.drew = w109 at HO455 HO458 HO461 HO464 HO467 HO471 HO474 HO478 HO481 HO484 HO489 HO492 BK449 BK450 BK475 BK485 HB hHeld ⊢
      refine tK6_ 0 40 (mk_ 5 1) ?_
      refine tK6_ 1 41 (mk_ 5 3) ?_
      refine oN_ 2 42 (mk_ 5 7) (fun K hK => ?_)
      refine gO_ Try.func35 #[.agg #[.slice A1_0 l1_0.length c1_0,.slice A1_1 l1_1.length c1_1,.slice A1_2 l1_2.length c1_2]] ?_
      with_reducible refine (laws_toSource.calls k _ _ l1_0 _ _ l1_1 _ _ l1_2 t494 t497 t500 _ ?side1 ?side2 ?side3 ?side4 ?side5 ?side6 A65.out).mono ?_
      (case side1 => exact cS_ (Kd.C_below HR1_0.out HB.out))
      (case side2 => exact HC1_0.out)
      (case side3 => exact cS_ (Kd.C_below HR1_1.out HB.out))
      (case side4 => exact HC1_1.out)
      (case side5 => exact cS_ (Kd.C_below HR1_2.out HB.out))
      (case side6 => exact HC1_2.out)
      rintro e w110 ⟨v495,v498,v501,rfl,ho0,ho1,ho2,hb⟩
      refine ⟨_,rfl,?_⟩
      have HO496 := aM_ (Kd.S_lower (Kd.S_new' (Kd.S_new' (Kd.S_new' (Kd.S_new' (Kd.S_new' ho0 (Kd.R_lt (by (with_reducible repeat (first | apply rA_ | apply rN_ | apply rD_));exact HO455.out))) (Kd.S_lt (by (with_reducible repeat (first | apply Kd.S_alloc | apply Kd.S_drewN | apply Kd.S_drew));exact HO461.out))) (Kd.R_lt (by (with_reducible repeat (first | apply rA_ | apply rN_ | apply rD_));exact HO471.out))) (Kd.S_lt (by (with_reducible repeat (first | apply Kd.S_alloc | apply Kd.S_drewN | apply Kd.S_drew));exact HO478.out))) (Kd.R_lt (by (with_reducible repeat (first | apply rA_ | apply rN_ | apply rD_));exact HO489.out))) (below_size (gB_ HB.out)))
      have HO499 := aM_ (Kd.S_lower (Kd.S_new' (Kd.S_new' (Kd.S_new' (Kd.S_new' (Kd.S_new' ho1 (Kd.R_lt (by (with_reducible repeat (first | apply rA_ | apply rN_ | apply rD_));exact HO455.out))) (Kd.S_lt (by (with_reducible repeat (first | apply Kd.S_alloc | apply Kd.S_drewN | apply Kd.S_drew));exact HO464.out))) (Kd.R_lt (by (with_reducible repeat (first | apply rA_ | apply rN_ | apply rD_));exact HO471.out))) (Kd.S_lt (by (with_reducible repeat (first | apply Kd.S_alloc | apply Kd.S_drewN | apply Kd.S_drew));exact HO481.out))) (Kd.R_lt (by (with_reducible repeat (first | apply rA_ | apply rN_ | apply rD_));exact HO489.out))) (below_size (gB_ HB.out)))
      have HO502 := aM_ (Kd.R_lower (Kd.R_new' (Kd.R_new' ho2 (Kd.R_lt (by (with_reducible repeat (first | apply rA_ | apply rN_ | apply rD_));exact HO467.out))) (Kd.R_lt (by (with_reducible repeat (first | apply rA_ | apply rN_ | apply rD_));exact HO484.out))) (below_size (gB_ HB.out)))
      replace HO455 := aM_ (bR_ HO455.out hb)
      replace HO458 := aM_ (bS_ HO458.out hb)
      replace HO461 := aM_ (Kd.S_elder' (by (with_reducible repeat (first | apply Kd.S_alloc | apply Kd.S_drewN | apply Kd.S_drew));exact HO461.out) (Kd.S_base ho0) hb)
      replace HO464 := aM_ (Kd.S_elder' (by (with_reducible repeat (first | apply Kd.S_alloc | apply Kd.S_drewN | apply Kd.S_drew));exact HO464.out) (Kd.S_base ho1) hb)
      replace HO467 := aM_ (Kd.R_elder' (by (with_reducible repeat (first | apply rA_ | apply rN_ | apply rD_));exact HO467.out) (Kd.R_base ho2) hb)
      replace HO471 := aM_ (bR_ HO471.out hb)
      replace HO474 := aM_ (bS_ HO474.out hb)
      replace HO478 := aM_ (Kd.S_elder' (by (with_reducible repeat (first | apply Kd.S_alloc | apply Kd.S_drewN | apply Kd.S_drew));exact HO478.out) (Kd.S_base ho0) hb)
      replace HO481 := aM_ (Kd.S_elder' (by (with_reducible repeat (first | apply Kd.S_alloc | apply Kd.S_drewN | apply Kd.S_drew));exact HO481.out) (Kd.S_base ho1) hb)
      replace HO484 := aM_ (Kd.R_elder' (by (with_reducible repeat (first | apply rA_ | apply rN_ | apply rD_));exact HO484.out) (Kd.R_base ho2) hb)
      replace HO489 := aM_ (bR_ HO489.out hb)
      replace HO492 := aM_ (bS_ HO492.out hb)
      replace BK449 := aM_ (nB_ BK449.out hb)
      replace BK450 := aM_ (nB_ BK450.out hb)
      replace BK475 := aM_ (nB_ BK475.out hb)
      replace BK485 := aM_ (nB_ BK485.out hb)
      replace HB := aM_ (sT_ HB.out hb)
      (try clear hb)
      (try clear hb2)
      (try clear hk)
      (try clear hi)
      (try clear ho0)
      (try clear ho1)
      (try clear ho2)
      obtain ⟨Ao111,co111,eo111⟩ := Kd.S_slice HO496.out
      (first | subst eo111 | (injection eo111 with f1_ f2_ f3_;have f4_ := f1_.symm;have f5_ := f3_.symm;clear f1_ f2_ f3_;subst f4_;subst f5_))
      obtain ⟨Ao112,co112,eo112⟩ := Kd.S_slice HO499.out
      (first | subst eo112 | (injection eo112 with f1_ f2_ f3_;have f4_ := f1_.symm;have f5_ := f3_.symm;clear f1_ f2_ f3_;subst f4_;subst f5_))
      obtain ⟨Ao113,co113,eo113⟩ := Kd.R_slice HO502.out
      (first | subst eo113 | (injection eo113 with f1_ f2_ f3_;have f4_ := f1_.symm;have f5_ := f3_.symm;clear f1_ f2_ f3_;subst f4_;subst f5_))
      refine kO_ hK (some 42) ⟨(blk_cell BK485.out 0).trans rfl,(blk_cell BK485.out 1).trans rfl,(blk_cell BK485.out 2).trans rfl,(blk_cell BK450.out 0).trans rfl,(blk_cell BK450.out 1).trans rfl,(blk_cell BK450.out 2).trans rfl⟩ (fun hHeld => ?_)
      clear hK K
      refine oN_ 3 43 (mk_ 5 15) (fun K hK => ?_)
      refine gO_ Try.func19 #[.agg #[.slice Ao95 t476.length co95,.slice Ao100 t479.length co100,.slice Ao101 t482.length co101],.agg #[.slice Ao111 t494.length co111,.slice Ao112 t497.length co112,.slice Ao113 t500.length co113]] ?_
      with_reducible refine (laws_eqSource.calls k _ _ t476 _ _ t479 _ _ t482 _ _ t494 _ _ t497 _ _ t500 true _ ?side1 ?side2 ?side3 ?side4 ?side5 ?side6 ?side7 ?side8 ?side9 ?side10 ?side11 ?side12 A66.out).mono ?_
      (case side1 => exact cS_ (Kd.S_reads' HO478.out).2.2)
      (case side2 => exact (Kd.S_reads' HO478.out).2.1)
      (case side3 => exact cS_ (Kd.S_reads' HO481.out).2.2)
      (case side4 => exact (Kd.S_reads' HO481.out).2.1)
      (case side5 => exact cS_ (Kd.R_reads' HO484.out).2.2)
      (case side6 => exact (Kd.R_reads' HO484.out).2.1)
      (case side7 => exact cS_ (Kd.S_reads' HO496.out).2.2)
      (case side8 => exact (Kd.S_reads' HO496.out).2.1)
      (case side9 => exact cS_ (Kd.S_reads' HO499.out).2.2)
      (case side10 => exact (Kd.S_reads' HO499.out).2.1)
      (case side11 => exact cS_ (Kd.R_reads' HO502.out).2.2)
      (case side12 => exact (Kd.R_reads' HO502.out).2.1)
      rintro e w114 ⟨rfl,hb⟩
      refine ⟨_,rfl,?_⟩
      replace HO455 := aM_ (bR_ HO455.out hb)
      replace HO458 := aM_ (bS_ HO458.out hb)
      replace HO461 := aM_ (bS_ HO461.out hb)
      replace HO464 := aM_ (bS_ HO464.out hb)
      replace HO467 := aM_ (bR_ HO467.out hb)
      replace HO471 := aM_ (bR_ HO471.out hb)
      replace HO474 := aM_ (bS_ HO474.out hb)
      replace HO478 := aM_ (bS_ HO478.out hb)
      replace HO481 := aM_ (bS_ HO481.out hb)
      replace HO484 := aM_ (bR_ HO484.out hb)
      replace HO489 := aM_ (bR_ HO489.out hb)
      replace HO492 := aM_ (bS_ HO492.out hb)
      replace HO496 := aM_ (bS_ HO496.out hb)
      replace HO499 := aM_ (bS_ HO499.out hb)
      replace HO502 := aM_ (bR_ HO502.out hb)
      replace BK449 := aM_ (nB_ BK449.out hb)
      replace BK450 := aM_ (nB_ BK450.out hb)
      replace BK475 := aM_ (nB_ BK475.out hb)
      replace BK485 := aM_ (nB_ BK485.out hb)
      replace HB := aM_ (sT_ HB.out hb)
      (try clear hb)
      (try clear hb2)
      (try clear hk)
      (try clear hi)
      refine kO_ hK (some 43) ⟨(blk_cell BK485.out 0).trans rfl,(blk_cell BK485.out 1).trans rfl,(blk_cell BK485.out 2).trans rfl,(blk_cell BK450.out 0).trans rfl,(blk_cell BK450.out 1).trans rfl,(blk_cell BK450.out 2).trans rfl⟩ (fun hHeld => ?_)
      clear hK K
      refine pU_ 4 44 (mk_ 5 31) ?_
      refine done_ (by kernel_rfl) ?_
      try go_wp2
      go_ret
      exact fI_ HB.out
     ·replace c67 := Bool.eq_false_iff.mpr c67
      subst c67
      have H1 : (some false) = some r := by rw [if_neg (show ¬ (false = true) by decide)] at H;exact H
      exact absurd ((Option.some.inj H1).trans hr) (by decide)
    ·replace c64 := Bool.eq_false_iff.mpr c64
     subst c64
     have H1 : (some false) = some r := by rw [if_neg (show ¬ (false = true) by decide)] at H;exact H
     exact absurd ((Option.some.inj H1).trans hr) (by decide)
end Go.Proofs.Ytobachfngmpeiaa.PFnExactStuck
namespace Go.Proofs.Ytobachfngmpeiaa.Lp
open Go.RowKit Go.Proofs.YtobachfngmpeiaaW.PrintWords
set_option linter.unusedVariables false
set_option linter.unusedSimpArgs false
theorem wrapS {j n : Nat} (h : j < n) (hn : n ≤ 9223372036854775807) : wrap64 ((j : Int) + 1) = ((j + 1 : Nat) : Int) := by
  unfold wrap64;omega
theorem wrap_in {n : Int} (h0 : -9223372036854775808 ≤ n) (h1 : n ≤ 9223372036854775807) : wrap64 n = n := by
  unfold wrap64;omega
theorem rd_get {xs : List Int} {j : Nat} (h : j < xs.length) : rd xs (j : Int) = xs[j] := by simp [rd,List.getD_eq_getElem?_getD,h]
theorem count_up {ρ : Type} {L : Nat → Nat → Option ρ} {R : Nat → ρ} {n : Nat} (hend : Ev (L n) (R n)) (hstep : ∀ j,j < n → Ev (L (j + 1)) (R (j + 1)) → Ev (L j) (R j)) : ∀ j,j ≤ n → Ev (L j) (R j) := by
  have key : ∀ d j,j + d = n → Ev (L j) (R j) := by
    intro d
    induction d with
    | zero => intro j hj;obtain rfl : j = n := by omega
              exact hend
    | succ d ih => intro j hj;exact hstep j (by omega) (ih (j + 1) (by omega))
  exact fun j hj => key (n - j) j (by omega)
theorem Ev.one {α : Type} {g : Nat → Option α} {r : α} (h : ∀ k,g (k + 1) = some r) : Ev g r := ⟨1,fun k hk => by
  obtain ⟨m,rfl⟩ : ∃ m,k = m + 1 := ⟨k - 1,by omega⟩
  exact h m⟩
theorem Ev.all {α : Type} {g : Nat → Option α} {r : α} (h : ∀ k,g k = some r) : Ev g r := ⟨0,fun k _ => h k⟩
theorem fill_set {α : Type} (l : List α) (z : α) (j : Nat) (h : j < l.length) (x : α) (hx : x = l[j]) : (l.take j ++ List.replicate (l.length - j) z).set j x = l.take (j + 1) ++ List.replicate (l.length - (j + 1)) z := by
  subst hx
  rw [show l.length - j = (l.length - (j + 1)) + 1 by omega,List.replicate_succ,List.set_append_right _ _ (by simp;omega),List.length_take,show j - min j l.length = 0 by omega,List.set_cons_zero,List.take_succ_eq_append_getElem h,List.append_assoc]
  rfl
def agree {α : Type} [DecidableEq α] (a b : List α) (j : Nat) : Bool := decide (a.drop j = b.drop j)
theorem agree_step {α : Type} [DecidableEq α] {a b : List α} {j : Nat} (ha : j < a.length) (hb : j < b.length) (h : a[j] = b[j]) : agree a b j = agree a b (j + 1) := by
  unfold agree
  have e1 := List.drop_eq_getElem_cons ha
  have e2 := List.drop_eq_getElem_cons hb
  rw [decide_eq_decide,e1,e2,h,List.cons.injEq]
  exact ⟨fun c => c.2,fun c => ⟨rfl,c⟩⟩
theorem agree_no {α : Type} [DecidableEq α] {a b : List α} {j : Nat} (ha : j < a.length) (hb : j < b.length) (h : ¬ a[j] = b[j]) : agree a b j = false := by
  unfold agree
  have e1 := List.drop_eq_getElem_cons ha
  have e2 := List.drop_eq_getElem_cons hb
  rw [decide_eq_false_iff_not,e1,e2]
  intro c
  injection c with c1
  exact h c1
theorem agree_end {α : Type} [DecidableEq α] {a b : List α} (h : a.length = b.length) : agree a b a.length = true := by
  unfold agree
  simp [h]
def allFrom {α : Type} (p : α → Bool) (xs : List α) (j : Nat) : Bool := (xs.drop j).all p
theorem allFrom_step {α : Type} {p : α → Bool} {xs : List α} {j : Nat} (h : j < xs.length) : allFrom p xs j = (p xs[j] && allFrom p xs (j + 1)) := by
  unfold allFrom
  rw [List.drop_eq_getElem_cons h,List.all_cons]
theorem allFrom_end {α : Type} {p : α → Bool} (xs : List α) : allFrom p xs xs.length = true := by simp [allFrom]
theorem allFrom_zero {α : Type} (p : α → Bool) (xs : List α) : allFrom p xs 0 = xs.all p := rfl
def total {α : Type} (w : α → Nat) : List α → Nat
  | [] => 0
  | x :: xs => w x + total w xs
theorem total_drop {α : Type} (w : α → Nat) {xs : List α} {j : Nat} (h : j < xs.length) : total w (xs.drop j) = w xs[j] + total w (xs.drop (j + 1)) := by
  rw [List.drop_eq_getElem_cons h,total]
theorem total_mem {α : Type} (w : α → Nat) : ∀ {xs : List α} {x : α},x ∈ xs → w x ≤ total w xs
  | y :: xs,x,h => by
    rcases List.mem_cons.1 h with rfl | h
    · rw [total];omega
    · have := total_mem w h
      rw [total];omega
def left? (t : Nat) (a : Int) : Int := if (t : Int) ≤ a then a - (t : Int) else -1
theorem sz_loop {α : Type} {L : Nat → Int → Nat → Option Int} (xs : List α) (w : α → Nat) (B : Int) (hend : ∀ a,Ev (L xs.length a) a)
    (hyes : ∀ j (h : j < xs.length) a,a ≤ B → (w xs[j] : Int) ≤ a → ∀ r,Ev (L (j + 1) (a - (w xs[j] : Int))) r → Ev (L j a) r)
    (hno : ∀ j (h : j < xs.length) a,0 ≤ a → a ≤ B → a < (w xs[j] : Int) → Ev (L j a) (-1)) : ∀ a,0 ≤ a → a ≤ B → Ev (L 0 a) (left? (total w xs) a) := by
  have key : ∀ d j,j + d = xs.length → ∀ a,0 ≤ a → a ≤ B → Ev (L j a) (left? (total w (xs.drop j)) a) := by
    intro d
    induction d with
    | zero =>
      intro j hj a h0 hB
      obtain rfl : j = xs.length := by omega
      rw [List.drop_length,total,left?,if_pos (by omega),show a - ((0 : Nat) : Int) = a by omega]
      exact hend a
    | succ d ih =>
      intro j hj a h0 hB
      have h : j < xs.length := by omega
      rw [total_drop w h]
      by_cases hw : (w xs[j] : Int) ≤ a
      · refine hyes j h a hB hw _ ?_
        have := ih (j + 1) (by omega) (a - (w xs[j] : Int)) (by omega) (by omega)
        unfold left? at this ⊢
        by_cases c : (total w (xs.drop (j + 1)) : Int) ≤ a - (w xs[j] : Int)
        · rw [if_pos c] at this
          rw [if_pos (by omega),show a - ((w xs[j] + total w (xs.drop (j + 1)) : Nat) : Int) = a - (w xs[j] : Int) - (total w (xs.drop (j + 1)) : Int) by omega]
          exact this
        · rw [if_neg c] at this
          rw [if_neg (by omega)]
          exact this
      · rw [left?,if_neg (by omega)]
        exact hno j h a h0 hB (by omega)
  exact fun a h0 hB => by simpa using key xs.length 0 (by omega) a h0 hB
theorem left?_yes {t : Nat} {a : Int} (h : (t : Int) ≤ a) : left? t a = a - (t : Int) := if_pos h
theorem left?_no {t : Nat} {a : Int} (h : ¬ (t : Int) ≤ a) : left? t a = -1 := if_neg h
theorem left?_add {m t : Nat} {a : Int} (h : (m : Int) ≤ a) : left? t (a - (m : Int)) = left? (m + t) a := by
  unfold left?
  by_cases c : (t : Int) ≤ a - (m : Int)
  · rw [if_pos c,if_pos (by omega)];omega
  · rw [if_neg c,if_neg (by omega)]
theorem Ev.val {α : Type} {g : Nat → Option α} {r r' : α} (h : r = r') (k : Ev g r) : Ev g r' := h ▸ k
theorem Ev.ite_pos {α : Type} {c : Prop} [Decidable c] {g f : Nat → Option α} {r : α} (h : c) (k : Ev g r) : Ev (fun n => if c then g n else f n) r := by simp only [if_pos h];exact k
theorem Ev.ite_neg {α : Type} {c : Prop} [Decidable c] {g f : Nat → Option α} {r : α} (h : ¬ c) (k : Ev f r) : Ev (fun n => if c then g n else f n) r := by simp only [if_neg h];exact k
theorem total_map {α β : Type} (w : α → Nat) (w' : β → Nat) (c : α → β) (h : ∀ x,w' (c x) = w x) : ∀ xs : List α,total w' (xs.map c) = total w xs
  | [] => rfl
  | x :: xs => by rw [List.map_cons,total,total,h,total_map w w' c h xs]
theorem to_loop {α β : Type} {L : Nat → List β → Nat → Option (List β)} (xs : List α) (c : α → β) (z : β) (hend : ∀ ys,ys.length = xs.length → Ev (L xs.length ys) ys)
    (hstep : ∀ j (h : j < xs.length) ys,ys.length = xs.length → ∀ r,Ev (L (j + 1) (ys.set j (c xs[j]))) r → Ev (L j ys) r) : Ev (L 0 (List.replicate xs.length z)) (xs.map c) := by
  have key : ∀ d j,j + d = xs.length → Ev (L j ((xs.map c).take j ++ List.replicate (xs.length - j) z)) (xs.map c) := by
    intro d
    induction d with
    | zero =>
      intro j hj
      obtain rfl : j = xs.length := by omega
      have := hend (xs.map c) (by simp)
      rw [Nat.sub_self,List.replicate_zero,List.append_nil,List.take_of_length_le (by simp)]
      exact this
    | succ d ih =>
      intro j hj
      have h : j < xs.length := by omega
      refine hstep j h _ (by simp;omega) _ ?_
      have h2 := fill_set (xs.map c) z j (by simpa using h) (c xs[j]) (by simp)
      rw [List.length_map] at h2
      rw [h2]
      exact ih (j + 1) (by omega)
  simpa using key xs.length 0 (by omega)
theorem yes_loop {ρ : Type} {L : Nat → Nat → Option ρ} (n : Nat) (r : ρ) (hend : Ev (L n) r) (hstep : ∀ j,j < n → Ev (L (j + 1)) r → Ev (L j) r) : Ev (L 0) r :=
  count_up (R := fun _ => r) hend hstep 0 (Nat.zero_le _)
theorem all_loop {α : Type} {L : Nat → Nat → Option Bool} (xs : List α) (p : α → Bool) {b : Bool} (hend : Ev (L xs.length) b) (hyes : ∀ j (h : j < xs.length),p xs[j] = true → ∀ r,Ev (L (j + 1)) r → Ev (L j) r) (hno : ∀ j (h : j < xs.length),p xs[j] = false → Ev (L j) false) : Ev (L 0) (xs.all p && b) := by
  have key : ∀ d j,j + d = xs.length → Ev (L j) (allFrom p xs j && b) := by
    intro d
    induction d with
    | zero =>
      intro j hj
      obtain rfl : j = xs.length := by omega
      rw [allFrom_end,Bool.true_and]
      exact hend
    | succ d ih =>
      intro j hj
      have h : j < xs.length := by omega
      rw [allFrom_step h]
      cases e : p xs[j] with
      | true => rw [Bool.true_and];exact hyes j h e _ (ih (j + 1) (by omega))
      | false => rw [Bool.false_and,Bool.false_and];exact hno j h e
  have := key xs.length 0 (by omega)
  rwa [allFrom_zero] at this
end Go.Proofs.Ytobachfngmpeiaa.Lp
