/- Part of the proof of FnExactAble. -/
import Derived.Test.YtobachfngmpeiaaZFnExactAblea4
import Derived.Test.YtobachfngmpeiaaZFnExactAbles
set_option maxRecDepth 100000
namespace Go.Proofs.Ytobachfngmpeiaa.PFnExactAble
open Go.RowKit Go.Proofs.YtobachfngmpeiaaW.PrintWords Go.Proofs.YtobachfngmpeiaaW.PrintLast Go.Proofs.YtobachfngmpeiaaW.PrintMore
attribute [local go_sem] max2_int min2_int max_two min_two max_three min_three max_four min_four   -- for this text's walks alone
set_option linter.unusedVariables false
set_option linter.unusedSimpArgs false
def laws_eqSource.f (k : Nat) (l0_0 : List (S107)) (l0_1 : List (S94)) (l0_2 : List (S35)) (l1_0 : List (S107)) (l1_1 : List (S94)) (l1_2 : List (S35)) : Option (Bool) := (laws_eqThreadS.f k l0_0 l1_0).bind fun t162 => (if t162 = true then ((laws_eqChanS.f k l0_1 l1_1).bind fun t163 => (if t163 = true then ((laws_eqNoteS.f k l0_2 l1_2).bind fun t164 => (if t164 = true then (some true) else (some false))) else (some false))) else (some false))
set_option maxHeartbeats 8000000 in
theorem laws_eqSource.calls (k : Nat) (A0_0 : Option Addr) (c0_0 : Nat) (l0_0 : List (S107)) (A0_1 : Option Addr) (c0_1 : Nat) (l0_1 : List (S94)) (A0_2 : Option Addr) (c0_2 : Nat) (l0_2 : List (S35)) (A1_0 : Option Addr) (c1_0 : Nat) (l1_0 : List (S107)) (A1_1 : Option Addr) (c1_1 : Nat) (l1_1 : List (S94)) (A1_2 : Option Addr) (c1_2 : Nat) (l1_2 : List (S35)) (r : Bool) (w : World) (hr0_0 : Kd.C k107 w A0_0 l0_0.length l0_0) (hc0_0 : l0_0.length ≤ c0_0) (hr0_1 : Kd.C k94 w A0_1 l0_1.length l0_1) (hc0_1 : l0_1.length ≤ c0_1) (hr0_2 : Kd.C k35 w A0_2 l0_2.length l0_2) (hc0_2 : l0_2.length ≤ c0_2) (hr1_0 : Kd.C k107 w A1_0 l1_0.length l1_0) (hc1_0 : l1_0.length ≤ c1_0) (hr1_1 : Kd.C k94 w A1_1 l1_1.length l1_1) (hc1_1 : l1_1.length ≤ c1_1) (hr1_2 : Kd.C k35 w A1_2 l1_2.length l1_2) (hc1_2 : l1_2.length ≤ c1_2) (h : laws_eqSource.f k l0_0 l0_1 l0_2 l1_0 l1_1 l1_2 = some r) :
  Calls Try.prog 19 #[.agg #[.slice A0_0 l0_0.length c0_0,.slice A0_1 l0_1.length c0_1,.slice A0_2 l0_2.length c0_2],.agg #[.slice A1_0 l1_0.length c1_0,.slice A1_1 l1_1.length c1_1,.slice A1_2 l1_2.length c1_2]] w fun e w' => e = .returned (.bool r) ∧ Below w.heap.size w w' := by
 have hu28 := Try.underlying28
 have HR0_0 := aM_ hr0_0
 have HC0_0 := aM_ hc0_0
 clear hr0_0 hc0_0
 have HR0_1 := aM_ hr0_1
 have HC0_1 := aM_ hc0_1
 clear hr0_1 hc0_1
 have HR0_2 := aM_ hr0_2
 have HC0_2 := aM_ hc0_2
 clear hr0_2 hc0_2
 have HR1_0 := aM_ hr1_0
 have HC1_0 := aM_ hc1_0
 clear hr1_0 hc1_0
 have HR1_1 := aM_ hr1_1
 have HC1_1 := aM_ hc1_1
 clear hr1_1 hc1_1
 have HR1_2 := aM_ hr1_2
 have HC1_2 := aM_ hc1_2
 clear hr1_2 hc1_2
 have HB := aM_ (Below.refl w.heap.size w)
 have H : ((laws_eqThreadS.f k l0_0 l1_0).bind fun t162 => (if t162 = true then ((laws_eqChanS.f k l0_1 l1_1).bind fun t163 => (if t163 = true then ((laws_eqNoteS.f k l0_2 l1_2).bind fun t164 => (if t164 = true then (some true) else (some false))) else (some false))) else (some false))) = some r := h
 clear h
 replace H := Option.bind_eq_some_iff.mp H
 obtain ⟨t162,A30,H⟩ := H
 replace H : (if t162 = true then ((laws_eqChanS.f k l0_1 l1_1).bind fun t163 => (if t163 = true then ((laws_eqNoteS.f k l0_2 l1_2).bind fun t164 => (if t164 = true then (some true) else (some false))) else (some false))) else (some false)) = some r := H
 have A3 := aM_ A30
 clear A30
 by_cases c4 : t162 = true
 ·subst c4
  have H1 : ((laws_eqChanS.f k l0_1 l1_1).bind fun t163 => (if t163 = true then ((laws_eqNoteS.f k l0_2 l1_2).bind fun t164 => (if t164 = true then (some true) else (some false))) else (some false))) = some r := by rw [if_pos rfl] at H;exact H
  clear H
  have H := H1
  clear H1
  replace H := Option.bind_eq_some_iff.mp H
  obtain ⟨t163,A50,H⟩ := H
  replace H : (if t163 = true then ((laws_eqNoteS.f k l0_2 l1_2).bind fun t164 => (if t164 = true then (some true) else (some false))) else (some false)) = some r := H
  have A5 := aM_ A50
  clear A50
  by_cases c6 : t163 = true
  ·subst c6
   have H1 : ((laws_eqNoteS.f k l0_2 l1_2).bind fun t164 => (if t164 = true then (some true) else (some false))) = some r := by rw [if_pos rfl] at H;exact H
   clear H
   have H := H1
   clear H1
   replace H := Option.bind_eq_some_iff.mp H
   obtain ⟨t164,A70,H⟩ := H
   replace H : (if t164 = true then (some true) else (some false)) = some r := H
   have A7 := aM_ A70
   clear A70
   by_cases c8 : t164 = true
   ·subst c8
    have H1 : (some true) = some r := by rw [if_pos rfl] at H;exact H
    clear H
    have H := H1
    clear H1
    obtain rfl := sJ_ H
    go_enter Try.func19,Try.ntmps19
    go_wp2_with (first | (refine bX_ 2 (cs := #[.slice A0_0 l0_0.length c0_0,.slice A0_1 l0_1.length c0_1,.slice A0_2 l0_2.length c0_2]) (t := 28) ?_;intro gb160 hg w9 hbox hb;have BK160 := aM_ (hbox);have GE160 := aM_ (sZ_ hg HB.out);replace HB := aM_ (sT_ HB.out hb);clear hb hbox hg) | (refine bX_ 3 (cs := #[.slice A1_0 l1_0.length c1_0,.slice A1_1 l1_1.length c1_1,.slice A1_2 l1_2.length c1_2]) (t := 28) ?_;intro gb161 hg w10 hbox hb;have BK161 := aM_ (hbox);have GE161 := aM_ (sZ_ hg HB.out);have NB160_161 := aM_ (nL_ hg BK160.out);have NB161_160 := aM_ (nG_ hg BK160.out);replace BK160 := aM_ (nB_ BK160.out hb);replace HB := aM_ (sT_ HB.out hb);clear hb hbox hg;have hnb11 := nn_ NB160_161 NB161_160;have z_12 := bR3_ BK160.out;have z_13 := bR3_ BK161.out) | (refine gL_ (some 9) Try.func64 #[.slice A0_0 l0_0.length c0_0,.slice A1_0 l1_0.length c1_0] ?_;(with_reducible refine (laws_eqThreadS.calls k _ _ l0_0 _ _ l1_0 true _ ?side1 HC0_0.out ?side3 HC1_0.out A3.out).mono ?_);(case side1 => exact cS_ (Kd.C_below HR0_0.out HB.out));(case side3 => exact cS_ (Kd.C_below HR1_0.out HB.out));rintro e w14 ⟨rfl,hb⟩;refine ⟨_,rfl,?_⟩;replace BK160 := aM_ (nB_ BK160.out hb);replace BK161 := aM_ (nB_ BK161.out hb);replace HB := aM_ (sT_ HB.out hb);have z_15 := bR3_ BK160.out;have z_16 := bR3_ BK161.out) | (refine gL_ (some 15) Try.func65 #[.slice A0_1 l0_1.length c0_1,.slice A1_1 l1_1.length c1_1] ?_;(with_reducible refine (laws_eqChanS.calls k _ _ l0_1 _ _ l1_1 true _ ?side1 HC0_1.out ?side3 HC1_1.out A5.out).mono ?_);(case side1 => exact cS_ (Kd.C_below HR0_1.out HB.out));(case side3 => exact cS_ (Kd.C_below HR1_1.out HB.out));rintro e w17 ⟨rfl,hb⟩;refine ⟨_,rfl,?_⟩;replace BK160 := aM_ (nB_ BK160.out hb);replace BK161 := aM_ (nB_ BK161.out hb);replace HB := aM_ (sT_ HB.out hb);have z_18 := bR3_ BK160.out;have z_19 := bR3_ BK161.out) | (refine gL_ (some 21) Try.func66 #[.slice A0_2 l0_2.length c0_2,.slice A1_2 l1_2.length c1_2] ?_;(with_reducible refine (laws_eqNoteS.calls k _ _ l0_2 _ _ l1_2 true _ ?side1 HC0_2.out ?side3 HC1_2.out A7.out).mono ?_);(case side1 => exact cS_ (Kd.C_below HR0_2.out HB.out));(case side3 => exact cS_ (Kd.C_below HR1_2.out HB.out));rintro e w20 ⟨rfl,hb⟩;refine ⟨_,rfl,?_⟩;replace BK160 := aM_ (nB_ BK160.out hb);replace BK161 := aM_ (nB_ BK161.out hb);replace HB := aM_ (sT_ HB.out hb)))
    go_ret
    exact fI_ HB.out
   ·replace c8 := Bool.eq_false_iff.mpr c8
    subst c8
    have H1 := hF_ H
    clear H
    have H := H1
    clear H1
    obtain rfl := sJ_ H
    go_enter Try.func19,Try.ntmps19
    go_wp2_with (first | (refine bX_ 2 (cs := #[.slice A0_0 l0_0.length c0_0,.slice A0_1 l0_1.length c0_1,.slice A0_2 l0_2.length c0_2]) (t := 28) ?_;intro gb160 hg w21 hbox hb;have BK160 := aM_ (hbox);have GE160 := aM_ (sZ_ hg HB.out);replace HB := aM_ (sT_ HB.out hb);clear hb hbox hg) | (refine bX_ 3 (cs := #[.slice A1_0 l1_0.length c1_0,.slice A1_1 l1_1.length c1_1,.slice A1_2 l1_2.length c1_2]) (t := 28) ?_;intro gb161 hg w22 hbox hb;have BK161 := aM_ (hbox);have GE161 := aM_ (sZ_ hg HB.out);have NB160_161 := aM_ (nL_ hg BK160.out);have NB161_160 := aM_ (nG_ hg BK160.out);replace BK160 := aM_ (nB_ BK160.out hb);replace HB := aM_ (sT_ HB.out hb);clear hb hbox hg;have hnb23 := nn_ NB160_161 NB161_160;have z_24 := bR3_ BK160.out;have z_25 := bR3_ BK161.out) | (refine gL_ (some 9) Try.func64 #[.slice A0_0 l0_0.length c0_0,.slice A1_0 l1_0.length c1_0] ?_;(with_reducible refine (laws_eqThreadS.calls k _ _ l0_0 _ _ l1_0 true _ ?side1 HC0_0.out ?side3 HC1_0.out A3.out).mono ?_);(case side1 => exact cS_ (Kd.C_below HR0_0.out HB.out));(case side3 => exact cS_ (Kd.C_below HR1_0.out HB.out));rintro e w26 ⟨rfl,hb⟩;refine ⟨_,rfl,?_⟩;replace BK160 := aM_ (nB_ BK160.out hb);replace BK161 := aM_ (nB_ BK161.out hb);replace HB := aM_ (sT_ HB.out hb);have z_27 := bR3_ BK160.out;have z_28 := bR3_ BK161.out) | (refine gL_ (some 15) Try.func65 #[.slice A0_1 l0_1.length c0_1,.slice A1_1 l1_1.length c1_1] ?_;(with_reducible refine (laws_eqChanS.calls k _ _ l0_1 _ _ l1_1 true _ ?side1 HC0_1.out ?side3 HC1_1.out A5.out).mono ?_);(case side1 => exact cS_ (Kd.C_below HR0_1.out HB.out));(case side3 => exact cS_ (Kd.C_below HR1_1.out HB.out));rintro e w29 ⟨rfl,hb⟩;refine ⟨_,rfl,?_⟩;replace BK160 := aM_ (nB_ BK160.out hb);replace BK161 := aM_ (nB_ BK161.out hb);replace HB := aM_ (sT_ HB.out hb);have z_30 := bR3_ BK160.out;have z_31 := bR3_ BK161.out) | (refine gL_ (some 21) Try.func66 #[.slice A0_2 l0_2.length c0_2,.slice A1_2 l1_2.length c1_2] ?_;(with_reducible refine (laws_eqNoteS.calls k _ _ l0_2 _ _ l1_2 false _ ?side1 HC0_2.out ?side3 HC1_2.out A7.out).mono ?_);(case side1 => exact cS_ (Kd.C_below HR0_2.out HB.out));(case side3 => exact cS_ (Kd.C_below HR1_2.out HB.out));rintro e w32 ⟨rfl,hb⟩;refine ⟨_,rfl,?_⟩;replace BK160 := aM_ (nB_ BK160.out hb);replace BK161 := aM_ (nB_ BK161.out hb);replace HB := aM_ (sT_ HB.out hb)))
    go_ret
    exact fI_ HB.out
  ·replace c6 := Bool.eq_false_iff.mpr c6
   subst c6
   have H1 := hF_ H
   clear H
   have H := H1
   clear H1
   obtain rfl := sJ_ H
   go_enter Try.func19,Try.ntmps19
   go_wp2_with (first | (refine bX_ 2 (cs := #[.slice A0_0 l0_0.length c0_0,.slice A0_1 l0_1.length c0_1,.slice A0_2 l0_2.length c0_2]) (t := 28) ?_;intro gb160 hg w33 hbox hb;have BK160 := aM_ (hbox);have GE160 := aM_ (sZ_ hg HB.out);replace HB := aM_ (sT_ HB.out hb);clear hb hbox hg) | (refine bX_ 3 (cs := #[.slice A1_0 l1_0.length c1_0,.slice A1_1 l1_1.length c1_1,.slice A1_2 l1_2.length c1_2]) (t := 28) ?_;intro gb161 hg w34 hbox hb;have BK161 := aM_ (hbox);have GE161 := aM_ (sZ_ hg HB.out);have NB160_161 := aM_ (nL_ hg BK160.out);have NB161_160 := aM_ (nG_ hg BK160.out);replace BK160 := aM_ (nB_ BK160.out hb);replace HB := aM_ (sT_ HB.out hb);clear hb hbox hg;have hnb35 := nn_ NB160_161 NB161_160;have z_36 := bR3_ BK160.out;have z_37 := bR3_ BK161.out) | (refine gL_ (some 9) Try.func64 #[.slice A0_0 l0_0.length c0_0,.slice A1_0 l1_0.length c1_0] ?_;(with_reducible refine (laws_eqThreadS.calls k _ _ l0_0 _ _ l1_0 true _ ?side1 HC0_0.out ?side3 HC1_0.out A3.out).mono ?_);(case side1 => exact cS_ (Kd.C_below HR0_0.out HB.out));(case side3 => exact cS_ (Kd.C_below HR1_0.out HB.out));rintro e w38 ⟨rfl,hb⟩;refine ⟨_,rfl,?_⟩;replace BK160 := aM_ (nB_ BK160.out hb);replace BK161 := aM_ (nB_ BK161.out hb);replace HB := aM_ (sT_ HB.out hb);have z_39 := bR3_ BK160.out;have z_40 := bR3_ BK161.out) | (refine gL_ (some 15) Try.func65 #[.slice A0_1 l0_1.length c0_1,.slice A1_1 l1_1.length c1_1] ?_;(with_reducible refine (laws_eqChanS.calls k _ _ l0_1 _ _ l1_1 false _ ?side1 HC0_1.out ?side3 HC1_1.out A5.out).mono ?_);(case side1 => exact cS_ (Kd.C_below HR0_1.out HB.out));(case side3 => exact cS_ (Kd.C_below HR1_1.out HB.out));rintro e w41 ⟨rfl,hb⟩;refine ⟨_,rfl,?_⟩;replace BK160 := aM_ (nB_ BK160.out hb);replace BK161 := aM_ (nB_ BK161.out hb);replace HB := aM_ (sT_ HB.out hb)))
   go_ret
   exact fI_ HB.out
 ·replace c4 := Bool.eq_false_iff.mpr c4
  subst c4
  have H1 := hF_ H
  clear H
  have H := H1
  clear H1
  obtain rfl := sJ_ H
  go_enter Try.func19,Try.ntmps19
  go_wp2_with (first | (refine bX_ 2 (cs := #[.slice A0_0 l0_0.length c0_0,.slice A0_1 l0_1.length c0_1,.slice A0_2 l0_2.length c0_2]) (t := 28) ?_;intro gb160 hg w42 hbox hb;have BK160 := aM_ (hbox);have GE160 := aM_ (sZ_ hg HB.out);replace HB := aM_ (sT_ HB.out hb);clear hb hbox hg) | (refine bX_ 3 (cs := #[.slice A1_0 l1_0.length c1_0,.slice A1_1 l1_1.length c1_1,.slice A1_2 l1_2.length c1_2]) (t := 28) ?_;intro gb161 hg w43 hbox hb;have BK161 := aM_ (hbox);have GE161 := aM_ (sZ_ hg HB.out);have NB160_161 := aM_ (nL_ hg BK160.out);have NB161_160 := aM_ (nG_ hg BK160.out);replace BK160 := aM_ (nB_ BK160.out hb);replace HB := aM_ (sT_ HB.out hb);clear hb hbox hg;have hnb44 := nn_ NB160_161 NB161_160;have z_45 := bR3_ BK160.out;have z_46 := bR3_ BK161.out) | (refine gL_ (some 9) Try.func64 #[.slice A0_0 l0_0.length c0_0,.slice A1_0 l1_0.length c1_0] ?_;(with_reducible refine (laws_eqThreadS.calls k _ _ l0_0 _ _ l1_0 false _ ?side1 HC0_0.out ?side3 HC1_0.out A3.out).mono ?_);(case side1 => exact cS_ (Kd.C_below HR0_0.out HB.out));(case side3 => exact cS_ (Kd.C_below HR1_0.out HB.out));rintro e w47 ⟨rfl,hb⟩;refine ⟨_,rfl,?_⟩;replace BK160 := aM_ (nB_ BK160.out hb);replace BK161 := aM_ (nB_ BK161.out hb);replace HB := aM_ (sT_ HB.out hb)))
  go_ret
  exact fI_ HB.out
def laws_eqIns.f (a0_0 : Int) (a0_1 : Int) (a0_2 : Int) (a0_3 : Int) (a0_4 : Int) (a1_0 : Int) (a1_1 : Int) (a1_2 : Int) (a1_3 : Int) (a1_4 : Int) : Option (Bool) := if a0_0 = a1_0 then (if a0_1 = a1_1 then (if a0_2 = a1_2 then (if a0_3 = a1_3 then (if a0_4 = a1_4 then (some true) else (some false)) else (some false)) else (some false)) else (some false)) else (some false)
set_option maxHeartbeats 8000000 in
theorem laws_eqIns.calls (a0_0 : Int) (a0_1 : Int) (a0_2 : Int) (a0_3 : Int) (a0_4 : Int) (a1_0 : Int) (a1_1 : Int) (a1_2 : Int) (a1_3 : Int) (a1_4 : Int) (r : Bool) (w : World) (h : laws_eqIns.f a0_0 a0_1 a0_2 a0_3 a0_4 a1_0 a1_1 a1_2 a1_3 a1_4 = some r) :
  Calls Try.prog 165 #[.agg #[.int .i64 a0_0,.int .i64 a0_1,.int .i64 a0_2,.int .i64 a0_3,.int .i64 a0_4],.agg #[.int .i64 a1_0,.int .i64 a1_1,.int .i64 a1_2,.int .i64 a1_3,.int .i64 a1_4]] w fun e w' => e = .returned (.bool r) ∧ Below w.heap.size w w' := by
 have hu192 := Try.underlying192
 have HB := aM_ (Below.refl w.heap.size w)
 have H : (if a0_0 = a1_0 then (if a0_1 = a1_1 then (if a0_2 = a1_2 then (if a0_3 = a1_3 then (if a0_4 = a1_4 then (some true) else (some false)) else (some false)) else (some false)) else (some false)) else (some false)) = some r := h
 clear h
 by_cases c3 : a0_0 = a1_0
 ·rw [if_pos c3] at H
  have c3b0 : (a0_0 == a1_0) = true := beq_iff_eq.mpr c3
  have c3b1 : (a0_0 != a1_0) = false := bne_eq_false_iff_eq.mpr c3
  clear c3
  by_cases c4 : a0_1 = a1_1
  ·rw [if_pos c4] at H
   have c4b0 : (a0_1 == a1_1) = true := beq_iff_eq.mpr c4
   have c4b1 : (a0_1 != a1_1) = false := bne_eq_false_iff_eq.mpr c4
   clear c4
   by_cases c5 : a0_2 = a1_2
   ·rw [if_pos c5] at H
    have c5b0 : (a0_2 == a1_2) = true := beq_iff_eq.mpr c5
    have c5b1 : (a0_2 != a1_2) = false := bne_eq_false_iff_eq.mpr c5
    clear c5
    by_cases c6 : a0_3 = a1_3
    ·rw [if_pos c6] at H
     have c6b0 : (a0_3 == a1_3) = true := beq_iff_eq.mpr c6
     have c6b1 : (a0_3 != a1_3) = false := bne_eq_false_iff_eq.mpr c6
     clear c6
     by_cases c7 : a0_4 = a1_4
     ·rw [if_pos c7] at H
      have c7b0 : (a0_4 == a1_4) = true := beq_iff_eq.mpr c7
      have c7b1 : (a0_4 != a1_4) = false := bne_eq_false_iff_eq.mpr c7
      clear c7
      obtain rfl := sJ_ H
      go_enter Try.func165,Try.ntmps165
      go_wp2_with (first | (refine bX_ 2 (cs := #[.int .i64 a0_0,.int .i64 a0_1,.int .i64 a0_2,.int .i64 a0_3,.int .i64 a0_4]) (t := 192) ?_;intro gb165 hg w8 hbox hb;have BK165 := aM_ (hbox);have GE165 := aM_ (sZ_ hg HB.out);replace HB := aM_ (sT_ HB.out hb);clear hb hbox hg) | (refine bX_ 3 (cs := #[.int .i64 a1_0,.int .i64 a1_1,.int .i64 a1_2,.int .i64 a1_3,.int .i64 a1_4]) (t := 192) ?_;intro gb166 hg w9 hbox hb;have BK166 := aM_ (hbox);have GE166 := aM_ (sZ_ hg HB.out);have NB165_166 := aM_ (nL_ hg BK165.out);have NB166_165 := aM_ (nG_ hg BK165.out);replace BK165 := aM_ (nB_ BK165.out hb);replace HB := aM_ (sT_ HB.out hb);clear hb hbox hg;have hnb10 := nn_ NB165_166 NB166_165;have z_11 := bR5_ BK165.out;have z_12 := bR5_ BK166.out))
      go_ret
      exact fI_ HB.out
     ·rw [if_neg c7] at H
      have c7b0 : (a0_4 == a1_4) = false := beq_eq_false_iff_ne.mpr c7
      have c7b1 : (a0_4 != a1_4) = true := bne_iff_ne.mpr c7
      obtain rfl := sJ_ H
      go_enter Try.func165,Try.ntmps165
      go_wp2_with (first | (refine bX_ 2 (cs := #[.int .i64 a0_0,.int .i64 a0_1,.int .i64 a0_2,.int .i64 a0_3,.int .i64 a0_4]) (t := 192) ?_;intro gb165 hg w13 hbox hb;have BK165 := aM_ (hbox);have GE165 := aM_ (sZ_ hg HB.out);replace HB := aM_ (sT_ HB.out hb);clear hb hbox hg) | (refine bX_ 3 (cs := #[.int .i64 a1_0,.int .i64 a1_1,.int .i64 a1_2,.int .i64 a1_3,.int .i64 a1_4]) (t := 192) ?_;intro gb166 hg w14 hbox hb;have BK166 := aM_ (hbox);have GE166 := aM_ (sZ_ hg HB.out);have NB165_166 := aM_ (nL_ hg BK165.out);have NB166_165 := aM_ (nG_ hg BK165.out);replace BK165 := aM_ (nB_ BK165.out hb);replace HB := aM_ (sT_ HB.out hb);clear hb hbox hg;have hnb15 := nn_ NB165_166 NB166_165;have z_16 := bR5_ BK165.out;have z_17 := bR5_ BK166.out))
      go_ret
      exact fI_ HB.out
    ·rw [if_neg c6] at H
     have c6b0 : (a0_3 == a1_3) = false := beq_eq_false_iff_ne.mpr c6
     have c6b1 : (a0_3 != a1_3) = true := bne_iff_ne.mpr c6
     obtain rfl := sJ_ H
     go_enter Try.func165,Try.ntmps165
     go_wp2_with (first | (refine bX_ 2 (cs := #[.int .i64 a0_0,.int .i64 a0_1,.int .i64 a0_2,.int .i64 a0_3,.int .i64 a0_4]) (t := 192) ?_;intro gb165 hg w18 hbox hb;have BK165 := aM_ (hbox);have GE165 := aM_ (sZ_ hg HB.out);replace HB := aM_ (sT_ HB.out hb);clear hb hbox hg) | (refine bX_ 3 (cs := #[.int .i64 a1_0,.int .i64 a1_1,.int .i64 a1_2,.int .i64 a1_3,.int .i64 a1_4]) (t := 192) ?_;intro gb166 hg w19 hbox hb;have BK166 := aM_ (hbox);have GE166 := aM_ (sZ_ hg HB.out);have NB165_166 := aM_ (nL_ hg BK165.out);have NB166_165 := aM_ (nG_ hg BK165.out);replace BK165 := aM_ (nB_ BK165.out hb);replace HB := aM_ (sT_ HB.out hb);clear hb hbox hg;have hnb20 := nn_ NB165_166 NB166_165;have z_21 := bR5_ BK165.out;have z_22 := bR5_ BK166.out))
     go_ret
     exact fI_ HB.out
   ·rw [if_neg c5] at H
    have c5b0 : (a0_2 == a1_2) = false := beq_eq_false_iff_ne.mpr c5
    have c5b1 : (a0_2 != a1_2) = true := bne_iff_ne.mpr c5
    obtain rfl := sJ_ H
    go_enter Try.func165,Try.ntmps165
    go_wp2_with (first | (refine bX_ 2 (cs := #[.int .i64 a0_0,.int .i64 a0_1,.int .i64 a0_2,.int .i64 a0_3,.int .i64 a0_4]) (t := 192) ?_;intro gb165 hg w23 hbox hb;have BK165 := aM_ (hbox);have GE165 := aM_ (sZ_ hg HB.out);replace HB := aM_ (sT_ HB.out hb);clear hb hbox hg) | (refine bX_ 3 (cs := #[.int .i64 a1_0,.int .i64 a1_1,.int .i64 a1_2,.int .i64 a1_3,.int .i64 a1_4]) (t := 192) ?_;intro gb166 hg w24 hbox hb;have BK166 := aM_ (hbox);have GE166 := aM_ (sZ_ hg HB.out);have NB165_166 := aM_ (nL_ hg BK165.out);have NB166_165 := aM_ (nG_ hg BK165.out);replace BK165 := aM_ (nB_ BK165.out hb);replace HB := aM_ (sT_ HB.out hb);clear hb hbox hg;have hnb25 := nn_ NB165_166 NB166_165;have z_26 := bR5_ BK165.out;have z_27 := bR5_ BK166.out))
    go_ret
    exact fI_ HB.out
  ·rw [if_neg c4] at H
   have c4b0 : (a0_1 == a1_1) = false := beq_eq_false_iff_ne.mpr c4
   have c4b1 : (a0_1 != a1_1) = true := bne_iff_ne.mpr c4
   obtain rfl := sJ_ H
   go_enter Try.func165,Try.ntmps165
   go_wp2_with (first | (refine bX_ 2 (cs := #[.int .i64 a0_0,.int .i64 a0_1,.int .i64 a0_2,.int .i64 a0_3,.int .i64 a0_4]) (t := 192) ?_;intro gb165 hg w28 hbox hb;have BK165 := aM_ (hbox);have GE165 := aM_ (sZ_ hg HB.out);replace HB := aM_ (sT_ HB.out hb);clear hb hbox hg) | (refine bX_ 3 (cs := #[.int .i64 a1_0,.int .i64 a1_1,.int .i64 a1_2,.int .i64 a1_3,.int .i64 a1_4]) (t := 192) ?_;intro gb166 hg w29 hbox hb;have BK166 := aM_ (hbox);have GE166 := aM_ (sZ_ hg HB.out);have NB165_166 := aM_ (nL_ hg BK165.out);have NB166_165 := aM_ (nG_ hg BK165.out);replace BK165 := aM_ (nB_ BK165.out hb);replace HB := aM_ (sT_ HB.out hb);clear hb hbox hg;have hnb30 := nn_ NB165_166 NB166_165;have z_31 := bR5_ BK165.out;have z_32 := bR5_ BK166.out))
   go_ret
   exact fI_ HB.out
 ·rw [if_neg c3] at H
  have c3b0 : (a0_0 == a1_0) = false := beq_eq_false_iff_ne.mpr c3
  have c3b1 : (a0_0 != a1_0) = true := bne_iff_ne.mpr c3
  obtain rfl := sJ_ H
  go_enter Try.func165,Try.ntmps165
  go_wp2_with (first | (refine bX_ 2 (cs := #[.int .i64 a0_0,.int .i64 a0_1,.int .i64 a0_2,.int .i64 a0_3,.int .i64 a0_4]) (t := 192) ?_;intro gb165 hg w33 hbox hb;have BK165 := aM_ (hbox);have GE165 := aM_ (sZ_ hg HB.out);replace HB := aM_ (sT_ HB.out hb);clear hb hbox hg) | (refine bX_ 3 (cs := #[.int .i64 a1_0,.int .i64 a1_1,.int .i64 a1_2,.int .i64 a1_3,.int .i64 a1_4]) (t := 192) ?_;intro gb166 hg w34 hbox hb;have BK166 := aM_ (hbox);have GE166 := aM_ (sZ_ hg HB.out);have NB165_166 := aM_ (nL_ hg BK165.out);have NB166_165 := aM_ (nG_ hg BK165.out);replace BK165 := aM_ (nB_ BK165.out hb);replace HB := aM_ (sT_ HB.out hb);clear hb hbox hg;have hnb35 := nn_ NB165_166 NB166_165;have z_36 := bR5_ BK165.out;have z_37 := bR5_ BK166.out))
  go_ret
  exact fI_ HB.out
def laws_eqInsS.l0 : Nat → List (S192) → List (S192) → Int → Option (Bool)
  | 0,_,_,_ => none
  | k + 1,x0,x1,x5 => if x5 < (x0.length : Int) then (if 0 ≤ x5 then (if x5 < (x1.length : Int) then ((laws_eqIns.f ((rd_T192 x0 x5).f0) ((rd_T192 x0 x5).f1) ((rd_T192 x0 x5).f2) ((rd_T192 x0 x5).f3) ((rd_T192 x0 x5).f4) ((rd_T192 x1 x5).f0) ((rd_T192 x1 x5).f1) ((rd_T192 x1 x5).f2) ((rd_T192 x1 x5).f3) ((rd_T192 x1 x5).f4)).bind fun t169 => (if t169 = true then (laws_eqInsS.l0 k x0 x1 (wrap64 (x5 + 1))) else (some false))) else (none)) else (none)) else (some true)
def laws_eqInsS.f (k : Nat) (l0 : List (S192)) (l1 : List (S192)) : Option (Bool) := if (l0.length : Int) = (l1.length : Int) then (laws_eqInsS.l0 k l0 l1 0) else (some false)
def laws_eqInsS.T6 : Bool × List (List Nat × List Nat) := (true,[([],[]),([],[]),([0,1],[0,1]),([2],[2]),([],[]),([],[]),([4,5],[4,5]),([6],[6]),([3,7],[3,7]),([8],[8])])
def laws_eqInsS.B6 : List Nat := [0,0,3,7,0,0,48,112,255,511]
theorem laws_eqInsS.tab6 : rtab .any (opsOf Try.f130 6) = laws_eqInsS.T6 := by kernel_rfl
theorem laws_eqInsS.bits6 : waitsOk laws_eqInsS.T6.2 laws_eqInsS.B6 = true := by kernel_rfl
set_option maxHeartbeats 8000000 in
theorem laws_eqInsS.calls (k : Nat) (A0 : Option Addr) (c0 : Nat) (l0 : List (S192)) (A1 : Option Addr) (c1 : Nat) (l1 : List (S192)) (r : Bool) (w : World) (hr0 : Kd.C k192 w A0 l0.length l0) (hc0 : l0.length ≤ c0) (hr1 : Kd.C k192 w A1 l1.length l1) (hc1 : l1.length ≤ c1) (h : laws_eqInsS.f k l0 l1 = some r) :
  Calls Try.prog 130 #[.slice A0 l0.length c0,.slice A1 l1.length c1] w fun e w' => e = .returned (.bool r) ∧ Below w.heap.size w w' := by
 have hu192 := Try.underlying192
 have HR0 := aM_ hr0
 have HC0 := aM_ hc0
 clear hr0 hc0
 have HR1 := aM_ hr1
 have HC1 := aM_ hc1
 clear hr1 hc1
 have HB := aM_ (Below.refl w.heap.size w)
 have H : (if (l0.length : Int) = (l1.length : Int) then (laws_eqInsS.l0 k l0 l1 0) else (some false)) = some r := h
 clear h
 by_cases c3 : (l0.length : Int) = (l1.length : Int)
 ·rw [if_pos c3] at H
  have c3b0 : ((l0.length : Int) == (l1.length : Int)) = true := beq_iff_eq.mpr c3
  have c3b1 : ((l0.length : Int) != (l1.length : Int)) = false := bne_eq_false_iff_eq.mpr c3
  have c3b2 : (l0.length == l1.length) = true := by first | simpa using c3 | (simp at c3 ⊢;omega)
  clear c3
  have H' := aM_ H
  clear H
  go_enter Try.func130,Try.ntmps130
  go_wp2
  go_loopg [5] k (fun kq v5 w' => ∃ (x5_1 : Int),v5 = .int .i64 x5_1 ∧ Aside0 (laws_eqInsS.l0 kq l0 l1 x5_1 = some r) ∧ Aside0 (kq ≤ k) ∧ Aside0 (Below w.heap.size w w'))
  case atStart => exact ⟨(0),(by first | rfl | (simp;done) | (simp [*];done)),H',⟨Nat.le_refl _⟩,⟨gW_ HB.out⟩⟩
  case round =>
   clear H'
   (try clear c1);(try clear p2);(try clear c3);(try clear c3b0);(try clear c3b1);(try clear c3b2)
   obtain ⟨x5_1,rfl,HA,HK1,HB⟩ := hrel
   cases gk with
   | zero => exact absurd HA.out (by simp [laws_eqInsS.l0])
   | succ k1 =>
    have H := HA.out
    clear HA
    simp only [laws_eqInsS.l0] at H
    by_cases c4 : x5_1 < (l0.length : Int)
    ·rw [if_pos c4] at H
     have c4b0 : decide (x5_1 < (l0.length : Int)) = true := decide_eq_true c4
     clear c4
     by_cases c5 : 0 ≤ x5_1
     ·rw [if_pos c5] at H
      have c5b0 : decide (0 ≤ x5_1) = true := decide_eq_true c5
      clear c5
      by_cases c6 : x5_1 < (l1.length : Int)
      ·rw [if_pos c6] at H
       have c6b0 : decide (x5_1 < (l1.length : Int)) = true := decide_eq_true c6
       clear c6
       replace H := Option.bind_eq_some_iff.mp H
       obtain ⟨t169,A70,H⟩ := H
       replace H : (if t169 = true then (laws_eqInsS.l0 k1 l0 l1 (wrap64 (x5_1 + 1))) else (some false)) = some r := H
       have A7 := aM_ A70
       clear A70
       by_cases c8 : t169 = true
       ·subst c8
        have H1 : (laws_eqInsS.l0 k1 l0 l1 (wrap64 (x5_1 + 1))) = some r := by rw [if_pos rfl] at H;exact H
        clear H
        have H := H1
        clear H1
        have H' := aM_ H
        clear H
        try go_wp2
        replace HB := aM_ (below_drew1 HB.out)
        have p167 : 0 ≤ (x5_1 : Int) := pD_
        have q167 : x5_1 < (l0.length : Int) := pD_
        obtain ⟨ad167,e167,hx167_0,hx167_1,hx167_2,hx167_3,hx167_4⟩ := at_T192 HR0.out x5_1 p167 q167
        have hw167_4 := hx167_4
        have hw167_3 := hx167_3
        have hw167_2 := hx167_2
        have hw167_1 := hx167_1
        have hw167_0 := hx167_0
        cases e167
        replace hx167_0 := cB_ HB.out hx167_0
        replace hx167_1 := cB_ HB.out hx167_1
        replace hx167_2 := cB_ HB.out hx167_2
        replace hx167_3 := cB_ HB.out hx167_3
        replace hx167_4 := cB_ HB.out hx167_4
        replace p167 := eq_true p167
        replace q167 := eq_true q167
        have p168 : 0 ≤ (x5_1 : Int) := pD_
        have q168 : x5_1 < (l1.length : Int) := pD_
        obtain ⟨ad168,e168,hx168_0,hx168_1,hx168_2,hx168_3,hx168_4⟩ := at_T192 HR1.out x5_1 p168 q168
        have hw168_4 := hx168_4
        have hw168_3 := hx168_3
        have hw168_2 := hx168_2
        have hw168_1 := hx168_1
        have hw168_0 := hx168_0
        cases e168
        replace hx168_0 := cB_ HB.out hx168_0
        replace hx168_1 := cB_ HB.out hx168_1
        replace hx168_2 := cB_ HB.out hx168_2
        replace hx168_3 := cB_ HB.out hx168_3
        replace hx168_4 := cB_ HB.out hx168_4
        replace p168 := eq_true p168
        replace q168 := eq_true q168
        refine sTa_ 10 (fun w' => w'.cell? (ad167.add ((x5_1).toNat * 5)) = some (.int .i64 ((rd_T192 l0 x5_1).f0)) ∧ w'.cell? ⟨(ad167.add ((x5_1).toNat * 5)).block,(ad167.add ((x5_1).toNat * 5)).off + 1,none⟩ = some (.int .i64 ((rd_T192 l0 x5_1).f1)) ∧ w'.cell? ⟨(ad167.add ((x5_1).toNat * 5)).block,(ad167.add ((x5_1).toNat * 5)).off + 2,none⟩ = some (.int .i64 ((rd_T192 l0 x5_1).f2)) ∧ w'.cell? ⟨(ad167.add ((x5_1).toNat * 5)).block,(ad167.add ((x5_1).toNat * 5)).off + 3,none⟩ = some (.int .i64 ((rd_T192 l0 x5_1).f3)) ∧ w'.cell? ⟨(ad167.add ((x5_1).toNat * 5)).block,(ad167.add ((x5_1).toNat * 5)).off + 4,none⟩ = some (.int .i64 ((rd_T192 l0 x5_1).f4)) ∧ w'.cell? (ad168.add ((x5_1).toNat * 5)) = some (.int .i64 ((rd_T192 l1 x5_1).f0)) ∧ w'.cell? ⟨(ad168.add ((x5_1).toNat * 5)).block,(ad168.add ((x5_1).toNat * 5)).off + 1,none⟩ = some (.int .i64 ((rd_T192 l1 x5_1).f1)) ∧ w'.cell? ⟨(ad168.add ((x5_1).toNat * 5)).block,(ad168.add ((x5_1).toNat * 5)).off + 2,none⟩ = some (.int .i64 ((rd_T192 l1 x5_1).f2)) ∧ w'.cell? ⟨(ad168.add ((x5_1).toNat * 5)).block,(ad168.add ((x5_1).toNat * 5)).off + 3,none⟩ = some (.int .i64 ((rd_T192 l1 x5_1).f3)) ∧ w'.cell? ⟨(ad168.add ((x5_1).toNat * 5)).block,(ad168.add ((x5_1).toNat * 5)).off + 4,none⟩ = some (.int .i64 ((rd_T192 l1 x5_1).f4))) [] ⟨(cB_ HB.out hw167_0 :),(cB_ HB.out hw167_1 :),(cB_ HB.out hw167_2 :),(cB_ HB.out hw167_3 :),(cB_ HB.out hw167_4 :),(cB_ HB.out hw168_0 :),(cB_ HB.out hw168_1 :),(cB_ HB.out hw168_2 :),(cB_ HB.out hw168_3 :),(cB_ HB.out hw168_4 :)⟩ (fun hHeld => ?_);refine with_tabW laws_eqInsS.tab6 laws_eqInsS.bits6 (fun HT_ HW_ => ?_)
        generalize wr.drew = w9 at HB hx167_0 hx167_1 hx167_2 hx167_3 hx167_4 hx168_0 hx168_1 hx168_2 hx168_3 hx168_4 hHeld ⊢
        refine jU_ 0 17 10 1 ?_
        refine jU_ 1 18 10 3 ?_
        refine jU_ 2 19 10 7 ?_
        refine jU_ 4 21 10 23 ?_
        refine jU_ 5 22 10 55 ?_
        refine jU_ 6 23 10 119 ?_
        refine jK10_ 3 20 10 127 ?_
        refine jK10_ 7 24 10 255 ?_
        refine jN_ 8 25 10 511 (fun K hK => ?_)
        refine gO_ Try.func165 #[.agg #[.int .i64 ((rd_T192 l0 x5_1).f0),.int .i64 ((rd_T192 l0 x5_1).f1),.int .i64 ((rd_T192 l0 x5_1).f2),.int .i64 ((rd_T192 l0 x5_1).f3),.int .i64 ((rd_T192 l0 x5_1).f4)],.agg #[.int .i64 ((rd_T192 l1 x5_1).f0),.int .i64 ((rd_T192 l1 x5_1).f1),.int .i64 ((rd_T192 l1 x5_1).f2),.int .i64 ((rd_T192 l1 x5_1).f3),.int .i64 ((rd_T192 l1 x5_1).f4)]] ?_
        with_reducible refine (laws_eqIns.calls ((rd_T192 l0 x5_1).f0) ((rd_T192 l0 x5_1).f1) ((rd_T192 l0 x5_1).f2) ((rd_T192 l0 x5_1).f3) ((rd_T192 l0 x5_1).f4) ((rd_T192 l1 x5_1).f0) ((rd_T192 l1 x5_1).f1) ((rd_T192 l1 x5_1).f2) ((rd_T192 l1 x5_1).f3) ((rd_T192 l1 x5_1).f4) true _ A7.out).mono ?_
        rintro e w10 ⟨rfl,hb⟩
        refine ⟨_,rfl,?_⟩
        replace HB := aM_ (sT_ HB.out hb)
        (try clear hb)
        (try clear hb2)
        (try clear hk)
        (try clear hi)
        refine kO_ hK (some 25) ⟨(cB_ HB.out hw167_0 :),(cB_ HB.out hw167_1 :),(cB_ HB.out hw167_2 :),(cB_ HB.out hw167_3 :),(cB_ HB.out hw167_4 :),(cB_ HB.out hw168_0 :),(cB_ HB.out hw168_1 :),(cB_ HB.out hw168_2 :),(cB_ HB.out hw168_3 :),(cB_ HB.out hw168_4 :)⟩ (fun hHeld => ?_)
        clear hK K
        refine jU_ 9 26 10 1023 ?_
        refine done_ (done_of HT_.out (by kernel_rfl)) ?_
        try go_wp2
        go_roundg k1
        case measure => have := HK1.out;omega
        case rel => exact ⟨(wrap64 (x5_1 + 1)),(by first | rfl | (simp;done) | (simp [*];done)),H',⟨by have := HK1.out;omega⟩,⟨gW_ HB.out⟩⟩
       ·replace c8 := Bool.eq_false_iff.mpr c8
        subst c8
        have H1 := hF_ H
        clear H
        have H := H1
        clear H1
        obtain rfl := sJ_ H
        try go_wp2
        replace HB := aM_ (below_drew1 HB.out)
        have p167 : 0 ≤ (x5_1 : Int) := pD_
        have q167 : x5_1 < (l0.length : Int) := pD_
        obtain ⟨ad167,e167,hx167_0,hx167_1,hx167_2,hx167_3,hx167_4⟩ := at_T192 HR0.out x5_1 p167 q167
        have hw167_4 := hx167_4
        have hw167_3 := hx167_3
        have hw167_2 := hx167_2
        have hw167_1 := hx167_1
        have hw167_0 := hx167_0
        cases e167
        replace hx167_0 := cB_ HB.out hx167_0
        replace hx167_1 := cB_ HB.out hx167_1
        replace hx167_2 := cB_ HB.out hx167_2
        replace hx167_3 := cB_ HB.out hx167_3
        replace hx167_4 := cB_ HB.out hx167_4
        replace p167 := eq_true p167
        replace q167 := eq_true q167
        have p168 : 0 ≤ (x5_1 : Int) := pD_
        have q168 : x5_1 < (l1.length : Int) := pD_
        obtain ⟨ad168,e168,hx168_0,hx168_1,hx168_2,hx168_3,hx168_4⟩ := at_T192 HR1.out x5_1 p168 q168
        have hw168_4 := hx168_4
        have hw168_3 := hx168_3
        have hw168_2 := hx168_2
        have hw168_1 := hx168_1
        have hw168_0 := hx168_0
        cases e168
        replace hx168_0 := cB_ HB.out hx168_0
        replace hx168_1 := cB_ HB.out hx168_1
        replace hx168_2 := cB_ HB.out hx168_2
        replace hx168_3 := cB_ HB.out hx168_3
        replace hx168_4 := cB_ HB.out hx168_4
        replace p168 := eq_true p168
        replace q168 := eq_true q168
        refine sTa_ 10 (fun w' => w'.cell? (ad167.add ((x5_1).toNat * 5)) = some (.int .i64 ((rd_T192 l0 x5_1).f0)) ∧ w'.cell? ⟨(ad167.add ((x5_1).toNat * 5)).block,(ad167.add ((x5_1).toNat * 5)).off + 1,none⟩ = some (.int .i64 ((rd_T192 l0 x5_1).f1)) ∧ w'.cell? ⟨(ad167.add ((x5_1).toNat * 5)).block,(ad167.add ((x5_1).toNat * 5)).off + 2,none⟩ = some (.int .i64 ((rd_T192 l0 x5_1).f2)) ∧ w'.cell? ⟨(ad167.add ((x5_1).toNat * 5)).block,(ad167.add ((x5_1).toNat * 5)).off + 3,none⟩ = some (.int .i64 ((rd_T192 l0 x5_1).f3)) ∧ w'.cell? ⟨(ad167.add ((x5_1).toNat * 5)).block,(ad167.add ((x5_1).toNat * 5)).off + 4,none⟩ = some (.int .i64 ((rd_T192 l0 x5_1).f4)) ∧ w'.cell? (ad168.add ((x5_1).toNat * 5)) = some (.int .i64 ((rd_T192 l1 x5_1).f0)) ∧ w'.cell? ⟨(ad168.add ((x5_1).toNat * 5)).block,(ad168.add ((x5_1).toNat * 5)).off + 1,none⟩ = some (.int .i64 ((rd_T192 l1 x5_1).f1)) ∧ w'.cell? ⟨(ad168.add ((x5_1).toNat * 5)).block,(ad168.add ((x5_1).toNat * 5)).off + 2,none⟩ = some (.int .i64 ((rd_T192 l1 x5_1).f2)) ∧ w'.cell? ⟨(ad168.add ((x5_1).toNat * 5)).block,(ad168.add ((x5_1).toNat * 5)).off + 3,none⟩ = some (.int .i64 ((rd_T192 l1 x5_1).f3)) ∧ w'.cell? ⟨(ad168.add ((x5_1).toNat * 5)).block,(ad168.add ((x5_1).toNat * 5)).off + 4,none⟩ = some (.int .i64 ((rd_T192 l1 x5_1).f4))) [] ⟨(cB_ HB.out hw167_0 :),(cB_ HB.out hw167_1 :),(cB_ HB.out hw167_2 :),(cB_ HB.out hw167_3 :),(cB_ HB.out hw167_4 :),(cB_ HB.out hw168_0 :),(cB_ HB.out hw168_1 :),(cB_ HB.out hw168_2 :),(cB_ HB.out hw168_3 :),(cB_ HB.out hw168_4 :)⟩ (fun hHeld => ?_);refine with_tabW laws_eqInsS.tab6 laws_eqInsS.bits6 (fun HT_ HW_ => ?_)
        generalize wr.drew = w11 at HB hx167_0 hx167_1 hx167_2 hx167_3 hx167_4 hx168_0 hx168_1 hx168_2 hx168_3 hx168_4 hHeld ⊢
        refine jU_ 0 17 10 1 ?_
        refine jU_ 1 18 10 3 ?_
        refine jU_ 2 19 10 7 ?_
        refine jU_ 4 21 10 23 ?_
        refine jU_ 5 22 10 55 ?_
        refine jU_ 6 23 10 119 ?_
        refine jK10_ 3 20 10 127 ?_
        refine jK10_ 7 24 10 255 ?_
        refine jN_ 8 25 10 511 (fun K hK => ?_)
        refine gO_ Try.func165 #[.agg #[.int .i64 ((rd_T192 l0 x5_1).f0),.int .i64 ((rd_T192 l0 x5_1).f1),.int .i64 ((rd_T192 l0 x5_1).f2),.int .i64 ((rd_T192 l0 x5_1).f3),.int .i64 ((rd_T192 l0 x5_1).f4)],.agg #[.int .i64 ((rd_T192 l1 x5_1).f0),.int .i64 ((rd_T192 l1 x5_1).f1),.int .i64 ((rd_T192 l1 x5_1).f2),.int .i64 ((rd_T192 l1 x5_1).f3),.int .i64 ((rd_T192 l1 x5_1).f4)]] ?_
        with_reducible refine (laws_eqIns.calls ((rd_T192 l0 x5_1).f0) ((rd_T192 l0 x5_1).f1) ((rd_T192 l0 x5_1).f2) ((rd_T192 l0 x5_1).f3) ((rd_T192 l0 x5_1).f4) ((rd_T192 l1 x5_1).f0) ((rd_T192 l1 x5_1).f1) ((rd_T192 l1 x5_1).f2) ((rd_T192 l1 x5_1).f3) ((rd_T192 l1 x5_1).f4) false _ A7.out).mono ?_
        rintro e w12 ⟨rfl,hb⟩
        refine ⟨_,rfl,?_⟩
        replace HB := aM_ (sT_ HB.out hb)
        (try clear hb)
        (try clear hb2)
        (try clear hk)
        (try clear hi)
        refine kO_ hK (some 25) ⟨(cB_ HB.out hw167_0 :),(cB_ HB.out hw167_1 :),(cB_ HB.out hw167_2 :),(cB_ HB.out hw167_3 :),(cB_ HB.out hw167_4 :),(cB_ HB.out hw168_0 :),(cB_ HB.out hw168_1 :),(cB_ HB.out hw168_2 :),(cB_ HB.out hw168_3 :),(cB_ HB.out hw168_4 :)⟩ (fun hHeld => ?_)
        clear hK K
        refine jU_ 9 26 10 1023 ?_
        refine done_ (done_of HT_.out (by kernel_rfl)) ?_
        try go_wp2
        go_ret
        exact fI_ HB.out
      ·rw [if_neg c6] at H
       exact absurd H (by simp)
     ·rw [if_neg c5] at H
      exact absurd H (by simp)
    ·rw [if_neg c4] at H
     have c4b0 : decide (x5_1 < (l0.length : Int)) = false := decide_eq_false c4
     clear c4
     obtain rfl := sJ_ H
     go_wp2
     go_ret
     exact fI_ HB.out
 ·rw [if_neg c3] at H
  have c3b0 : ((l0.length : Int) == (l1.length : Int)) = false := beq_eq_false_iff_ne.mpr c3
  have c3b1 : ((l0.length : Int) != (l1.length : Int)) = true := bne_iff_ne.mpr c3
  have c3b2 : (l0.length == l1.length) = false := by first | simpa using c3 | (simp at c3 ⊢;omega)
  obtain rfl := sJ_ H
  go_enter Try.func130,Try.ntmps130
  go_wp2
  go_ret
  exact fI_ HB.out
end Go.Proofs.Ytobachfngmpeiaa.PFnExactAble
