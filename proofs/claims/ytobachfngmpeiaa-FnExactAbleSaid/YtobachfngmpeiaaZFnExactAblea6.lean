/- Part of the proof of FnExactAble. -/
import Derived.Test.YtobachfngmpeiaaZFnExactAblea5
import Derived.Test.YtobachfngmpeiaaZFnExactAbles
set_option maxRecDepth 100000
namespace Go.Proofs.Ytobachfngmpeiaa.PFnExactAble
open Go.RowKit Go.Proofs.YtobachfngmpeiaaW.PrintWords Go.Proofs.YtobachfngmpeiaaW.PrintLast Go.Proofs.YtobachfngmpeiaaW.PrintMore
attribute [local go_sem] max2_int min2_int max_two min_two max_three min_three max_four min_four   -- for this text's walks alone
set_option linter.unusedVariables false
set_option linter.unusedSimpArgs false
def laws_eqInsSS.l0 : Nat → List (List (S192)) → List (List (S192)) → Int → Option (Bool)
  | 0,_,_,_ => none
  | k + 1,x0,x1,x5 => if x5 < (x0.length : Int) then (if 0 ≤ x5 then (if x5 < (x1.length : Int) then ((laws_eqInsS.f k (rd_L4 x0 x5) (rd_L4 x1 x5)).bind fun t172 => (if t172 = true then (laws_eqInsSS.l0 k x0 x1 (wrap64 (x5 + 1))) else (some false))) else (none)) else (none)) else (some true)
def laws_eqInsSS.f (k : Nat) (l0 : List (List (S192))) (l1 : List (List (S192))) : Option (Bool) := if (l0.length : Int) = (l1.length : Int) then (laws_eqInsSS.l0 k l0 l1 0) else (some false)
def laws_eqInsSS.T6 : Bool × List (List Nat × List Nat) := (true,[([],[]),([],[]),([0,1],[0,1]),([2],[2]),([],[]),([],[]),([4,5],[4,5]),([6],[6]),([3,7],[3,7]),([8],[8])])
def laws_eqInsSS.B6 : List Nat := [0,0,3,7,0,0,48,112,255,511]
theorem laws_eqInsSS.tab6 : rtab .any (opsOf Try.f67 6) = laws_eqInsSS.T6 := by kernel_rfl
theorem laws_eqInsSS.bits6 : waitsOk laws_eqInsSS.T6.2 laws_eqInsSS.B6 = true := by kernel_rfl
set_option maxHeartbeats 8000000 in
theorem laws_eqInsSS.calls (k : Nat) (A0 : Option Addr) (c0 : Nat) (l0 : List (List (S192))) (A1 : Option Addr) (c1 : Nat) (l1 : List (List (S192))) (r : Bool) (w : World) (hr0 : Kd.C (Kd.slice 192 k192) w A0 l0.length l0) (hc0 : l0.length ≤ c0) (hr1 : Kd.C (Kd.slice 192 k192) w A1 l1.length l1) (hc1 : l1.length ≤ c1) (h : laws_eqInsSS.f k l0 l1 = some r) :
  Calls Try.prog 67 #[.slice A0 l0.length c0,.slice A1 l1.length c1] w fun e w' => e = .returned (.bool r) ∧ Below w.heap.size w w' := by
 have HR0 := aM_ hr0
 have HC0 := aM_ hc0
 clear hr0 hc0
 have HR1 := aM_ hr1
 have HC1 := aM_ hc1
 clear hr1 hc1
 have HB := aM_ (Below.refl w.heap.size w)
 have H : (if (l0.length : Int) = (l1.length : Int) then (laws_eqInsSS.l0 k l0 l1 0) else (some false)) = some r := h
 clear h
 by_cases c3 : (l0.length : Int) = (l1.length : Int)
 ·rw [if_pos c3] at H
  have c3b0 : ((l0.length : Int) == (l1.length : Int)) = true := beq_iff_eq.mpr c3
  have c3b1 : ((l0.length : Int) != (l1.length : Int)) = false := bne_eq_false_iff_eq.mpr c3
  have c3b2 : (l0.length == l1.length) = true := by first | simpa using c3 | (simp at c3 ⊢;omega)
  clear c3
  have H' := aM_ H
  clear H
  go_enter Try.func67,Try.ntmps67
  go_wp2
  go_loopg [5] k (fun kq v5 w' => ∃ (x5_1 : Int),v5 = .int .i64 x5_1 ∧ Aside0 (laws_eqInsSS.l0 kq l0 l1 x5_1 = some r) ∧ Aside0 (kq ≤ k) ∧ Aside0 (Below w.heap.size w w'))
  case atStart => exact ⟨(0),(by first | rfl | (simp;done) | (simp [*];done)),H',⟨Nat.le_refl _⟩,⟨gW_ HB.out⟩⟩
  case round =>
   clear H'
   (try clear c1);(try clear p2);(try clear c3);(try clear c3b0);(try clear c3b1);(try clear c3b2)
   obtain ⟨x5_1,rfl,HA,HK1,HB⟩ := hrel
   cases gk with
   | zero => exact absurd HA.out (by simp [laws_eqInsSS.l0])
   | succ k1 =>
    have H := HA.out
    clear HA
    simp only [laws_eqInsSS.l0] at H
    by_cases c4 : x5_1 < (l0.length : Int)
    ·rw [if_pos c4] at H
     have c4b0 : decide (x5_1 < (l0.length : Int)) = true := decide_eq_true c4
     clear c4
     by_cases c5 : 0 ≤ x5_1
     ·rw [if_pos c5] at H
      have c5b0 : decide (0 ≤ x5_1) = true := decide_eq_true c5
      clear c5
      by_cases c6 : x5_1 < (l1.length : Int)
      ·rw [if_pos c6] at H
       have c6b0 : decide (x5_1 < (l1.length : Int)) = true := decide_eq_true c6
       clear c6
       replace H := Option.bind_eq_some_iff.mp H
       obtain ⟨t172,A70,H⟩ := H
       replace H : (if t172 = true then (laws_eqInsSS.l0 k1 l0 l1 (wrap64 (x5_1 + 1))) else (some false)) = some r := H
       have A7 := aM_ A70
       clear A70
       by_cases c8 : t172 = true
       ·subst c8
        have H1 : (laws_eqInsSS.l0 k1 l0 l1 (wrap64 (x5_1 + 1))) = some r := by rw [if_pos rfl] at H;exact H
        clear H
        have H := H1
        clear H1
        have H' := aM_ H
        clear H
        try go_wp2
        replace HB := aM_ (below_drew1 HB.out)
        have p170 : 0 ≤ (x5_1 : Int) := pD_
        have q170 : x5_1 < (l0.length : Int) := pD_
        obtain ⟨ad170,A170_0,c170_0,e170,hx170_0,hl170_0,hi170_0⟩ := at_L4 HR0.out x5_1 p170 q170
        have hw170_0 := hx170_0
        cases e170
        replace hx170_0 := cB_ HB.out hx170_0
        have HR170_0 := aM_ hi170_0
        have HC170_0 := aM_ hl170_0
        clear hi170_0 hl170_0
        replace p170 := eq_true p170
        replace q170 := eq_true q170
        have p171 : 0 ≤ (x5_1 : Int) := pD_
        have q171 : x5_1 < (l1.length : Int) := pD_
        obtain ⟨ad171,A171_0,c171_0,e171,hx171_0,hl171_0,hi171_0⟩ := at_L4 HR1.out x5_1 p171 q171
        have hw171_0 := hx171_0
        cases e171
        replace hx171_0 := cB_ HB.out hx171_0
        have HR171_0 := aM_ hi171_0
        have HC171_0 := aM_ hl171_0
        clear hi171_0 hl171_0
        replace p171 := eq_true p171
        replace q171 := eq_true q171
        refine sTa_ 10 (fun w' => w'.cell? (ad170.add (x5_1).toNat) = some (.slice A170_0 (rd_L4 l0 x5_1).length c170_0) ∧ w'.cell? (ad171.add (x5_1).toNat) = some (.slice A171_0 (rd_L4 l1 x5_1).length c171_0)) [] ⟨(cB_ HB.out hw170_0 :),(cB_ HB.out hw171_0 :)⟩ (fun hHeld => ?_);refine with_tabW laws_eqInsSS.tab6 laws_eqInsSS.bits6 (fun HT_ HW_ => ?_)
        generalize wr.drew = w9 at HB HR170_0 HR171_0 hx170_0 hx171_0 hHeld ⊢
        refine jU_ 0 17 10 1 ?_
        refine jU_ 1 18 10 3 ?_
        refine jU_ 2 19 10 7 ?_
        refine jU_ 4 21 10 23 ?_
        refine jU_ 5 22 10 55 ?_
        refine jU_ 6 23 10 119 ?_
        refine jK2_ 3 20 10 127 ?_
        refine jK2_ 7 24 10 255 ?_
        refine jN_ 8 25 10 511 (fun K hK => ?_)
        refine gO_ Try.func130 #[.slice A170_0 (rd_L4 l0 x5_1).length c170_0,.slice A171_0 (rd_L4 l1 x5_1).length c171_0] ?_
        with_reducible refine (laws_eqInsS.calls k1 _ _ (rd_L4 l0 x5_1) _ _ (rd_L4 l1 x5_1) true _ ?side1 ?side2 ?side3 ?side4 A7.out).mono ?_
        (case side1 => exact cS_ (Kd.C_below HR170_0.out HB.out))
        (case side2 => exact HC170_0.out)
        (case side3 => exact cS_ (Kd.C_below HR171_0.out HB.out))
        (case side4 => exact HC171_0.out)
        rintro e w10 ⟨rfl,hb⟩
        refine ⟨_,rfl,?_⟩
        replace HB := aM_ (sT_ HB.out hb)
        (try clear hb)
        (try clear hb2)
        (try clear hk)
        (try clear hi)
        refine kO_ hK (some 25) ⟨(cB_ HB.out hw170_0 :),(cB_ HB.out hw171_0 :)⟩ (fun hHeld => ?_)
        clear hK K
        refine jU_ 9 26 10 1023 ?_
        refine done_ (done_of HT_.out (by kernel_rfl)) ?_
        try go_wp2
        go_roundg k1
        case measure => have := HK1.out;omega
        case rel => exact ⟨(wrap64 (x5_1 + 1)),(by first | rfl | (simp;done) | (simp [*];done)),H',⟨by have := HK1.out;omega⟩,⟨gW_ HB.out⟩⟩
       ·replace c8 := Bool.eq_false_iff.mpr c8
        subst c8
        have H1 := hF_ H
        clear H
        have H := H1
        clear H1
        obtain rfl := sJ_ H
        try go_wp2
        replace HB := aM_ (below_drew1 HB.out)
        have p170 : 0 ≤ (x5_1 : Int) := pD_
        have q170 : x5_1 < (l0.length : Int) := pD_
        obtain ⟨ad170,A170_0,c170_0,e170,hx170_0,hl170_0,hi170_0⟩ := at_L4 HR0.out x5_1 p170 q170
        have hw170_0 := hx170_0
        cases e170
        replace hx170_0 := cB_ HB.out hx170_0
        have HR170_0 := aM_ hi170_0
        have HC170_0 := aM_ hl170_0
        clear hi170_0 hl170_0
        replace p170 := eq_true p170
        replace q170 := eq_true q170
        have p171 : 0 ≤ (x5_1 : Int) := pD_
        have q171 : x5_1 < (l1.length : Int) := pD_
        obtain ⟨ad171,A171_0,c171_0,e171,hx171_0,hl171_0,hi171_0⟩ := at_L4 HR1.out x5_1 p171 q171
        have hw171_0 := hx171_0
        cases e171
        replace hx171_0 := cB_ HB.out hx171_0
        have HR171_0 := aM_ hi171_0
        have HC171_0 := aM_ hl171_0
        clear hi171_0 hl171_0
        replace p171 := eq_true p171
        replace q171 := eq_true q171
        refine sTa_ 10 (fun w' => w'.cell? (ad170.add (x5_1).toNat) = some (.slice A170_0 (rd_L4 l0 x5_1).length c170_0) ∧ w'.cell? (ad171.add (x5_1).toNat) = some (.slice A171_0 (rd_L4 l1 x5_1).length c171_0)) [] ⟨(cB_ HB.out hw170_0 :),(cB_ HB.out hw171_0 :)⟩ (fun hHeld => ?_);refine with_tabW laws_eqInsSS.tab6 laws_eqInsSS.bits6 (fun HT_ HW_ => ?_)
        generalize wr.drew = w11 at HB HR170_0 HR171_0 hx170_0 hx171_0 hHeld ⊢
        refine jU_ 0 17 10 1 ?_
        refine jU_ 1 18 10 3 ?_
        refine jU_ 2 19 10 7 ?_
        refine jU_ 4 21 10 23 ?_
        refine jU_ 5 22 10 55 ?_
        refine jU_ 6 23 10 119 ?_
        refine jK2_ 3 20 10 127 ?_
        refine jK2_ 7 24 10 255 ?_
        refine jN_ 8 25 10 511 (fun K hK => ?_)
        refine gO_ Try.func130 #[.slice A170_0 (rd_L4 l0 x5_1).length c170_0,.slice A171_0 (rd_L4 l1 x5_1).length c171_0] ?_
        with_reducible refine (laws_eqInsS.calls k1 _ _ (rd_L4 l0 x5_1) _ _ (rd_L4 l1 x5_1) false _ ?side1 ?side2 ?side3 ?side4 A7.out).mono ?_
        (case side1 => exact cS_ (Kd.C_below HR170_0.out HB.out))
        (case side2 => exact HC170_0.out)
        (case side3 => exact cS_ (Kd.C_below HR171_0.out HB.out))
        (case side4 => exact HC171_0.out)
        rintro e w12 ⟨rfl,hb⟩
        refine ⟨_,rfl,?_⟩
        replace HB := aM_ (sT_ HB.out hb)
        (try clear hb)
        (try clear hb2)
        (try clear hk)
        (try clear hi)
        refine kO_ hK (some 25) ⟨(cB_ HB.out hw170_0 :),(cB_ HB.out hw171_0 :)⟩ (fun hHeld => ?_)
        clear hK K
        refine jU_ 9 26 10 1023 ?_
        refine done_ (done_of HT_.out (by kernel_rfl)) ?_
        try go_wp2
        go_ret
        exact fI_ HB.out
      ·rw [if_neg c6] at H
       exact absurd H (by simp)
     ·rw [if_neg c5] at H
      exact absurd H (by simp)
    ·rw [if_neg c4] at H
     have c4b0 : decide (x5_1 < (l0.length : Int)) = false := decide_eq_false c4
     clear c4
     obtain rfl := sJ_ H
     go_wp2
     go_ret
     exact fI_ HB.out
 ·rw [if_neg c3] at H
  have c3b0 : ((l0.length : Int) == (l1.length : Int)) = false := beq_eq_false_iff_ne.mpr c3
  have c3b1 : ((l0.length : Int) != (l1.length : Int)) = true := bne_iff_ne.mpr c3
  have c3b2 : (l0.length == l1.length) = false := by first | simpa using c3 | (simp at c3 ⊢;omega)
  obtain rfl := sJ_ H
  go_enter Try.func67,Try.ntmps67
  go_wp2
  go_ret
  exact fI_ HB.out
def laws_eqProg.f (k : Nat) (l0_0 : List Int) (l0_1 : List (List (S192))) (l1_0 : List Int) (l1_1 : List (List (S192))) : Option (Bool) := (laws_eqIntS.f k l0_0 l1_0).bind fun t175 => (if t175 = true then ((laws_eqInsSS.f k l0_1 l1_1).bind fun t176 => (if t176 = true then (some true) else (some false))) else (some false))
set_option maxHeartbeats 8000000 in
theorem laws_eqProg.calls (k : Nat) (A0_0 : Option Addr) (c0_0 : Nat) (l0_0 : List Int) (A0_1 : Option Addr) (c0_1 : Nat) (l0_1 : List (List (S192))) (A1_0 : Option Addr) (c1_0 : Nat) (l1_0 : List Int) (A1_1 : Option Addr) (c1_1 : Nat) (l1_1 : List (List (S192))) (r : Bool) (w : World) (hr0_0 : Kd.C (Kd.int .i64) w A0_0 l0_0.length l0_0) (hc0_0 : l0_0.length ≤ c0_0) (hr0_1 : Kd.C (Kd.slice 192 k192) w A0_1 l0_1.length l0_1) (hc0_1 : l0_1.length ≤ c0_1) (hr1_0 : Kd.C (Kd.int .i64) w A1_0 l1_0.length l1_0) (hc1_0 : l1_0.length ≤ c1_0) (hr1_1 : Kd.C (Kd.slice 192 k192) w A1_1 l1_1.length l1_1) (hc1_1 : l1_1.length ≤ c1_1) (h : laws_eqProg.f k l0_0 l0_1 l1_0 l1_1 = some r) :
  Calls Try.prog 20 #[.agg #[.slice A0_0 l0_0.length c0_0,.slice A0_1 l0_1.length c0_1],.agg #[.slice A1_0 l1_0.length c1_0,.slice A1_1 l1_1.length c1_1]] w fun e w' => e = .returned (.bool r) ∧ Below w.heap.size w w' := by
 have hu44 := Try.underlying44
 have HR0_0 := aM_ hr0_0
 have HC0_0 := aM_ hc0_0
 clear hr0_0 hc0_0
 have HR0_1 := aM_ hr0_1
 have HC0_1 := aM_ hc0_1
 clear hr0_1 hc0_1
 have HR1_0 := aM_ hr1_0
 have HC1_0 := aM_ hc1_0
 clear hr1_0 hc1_0
 have HR1_1 := aM_ hr1_1
 have HC1_1 := aM_ hc1_1
 clear hr1_1 hc1_1
 have HB := aM_ (Below.refl w.heap.size w)
 have H : ((laws_eqIntS.f k l0_0 l1_0).bind fun t175 => (if t175 = true then ((laws_eqInsSS.f k l0_1 l1_1).bind fun t176 => (if t176 = true then (some true) else (some false))) else (some false))) = some r := h
 clear h
 replace H := Option.bind_eq_some_iff.mp H
 obtain ⟨t175,A30,H⟩ := H
 replace H : (if t175 = true then ((laws_eqInsSS.f k l0_1 l1_1).bind fun t176 => (if t176 = true then (some true) else (some false))) else (some false)) = some r := H
 have A3 := aM_ A30
 clear A30
 by_cases c4 : t175 = true
 ·subst c4
  have H1 : ((laws_eqInsSS.f k l0_1 l1_1).bind fun t176 => (if t176 = true then (some true) else (some false))) = some r := by rw [if_pos rfl] at H;exact H
  clear H
  have H := H1
  clear H1
  replace H := Option.bind_eq_some_iff.mp H
  obtain ⟨t176,A50,H⟩ := H
  replace H : (if t176 = true then (some true) else (some false)) = some r := H
  have A5 := aM_ A50
  clear A50
  by_cases c6 : t176 = true
  ·subst c6
   have H1 : (some true) = some r := by rw [if_pos rfl] at H;exact H
   clear H
   have H := H1
   clear H1
   obtain rfl := sJ_ H
   go_enter Try.func20,Try.ntmps20
   go_wp2_with (first | (refine bX_ 2 (cs := #[.slice A0_0 l0_0.length c0_0,.slice A0_1 l0_1.length c0_1]) (t := 44) ?_;intro gb173 hg w7 hbox hb;have BK173 := aM_ (hbox);have GE173 := aM_ (sZ_ hg HB.out);replace HB := aM_ (sT_ HB.out hb);clear hb hbox hg) | (refine bX_ 3 (cs := #[.slice A1_0 l1_0.length c1_0,.slice A1_1 l1_1.length c1_1]) (t := 44) ?_;intro gb174 hg w8 hbox hb;have BK174 := aM_ (hbox);have GE174 := aM_ (sZ_ hg HB.out);have NB173_174 := aM_ (nL_ hg BK173.out);have NB174_173 := aM_ (nG_ hg BK173.out);replace BK173 := aM_ (nB_ BK173.out hb);replace HB := aM_ (sT_ HB.out hb);clear hb hbox hg;have hnb9 := nn_ NB173_174 NB174_173;have z_10 := bR2_ BK173.out;have z_11 := bR2_ BK174.out) | (refine gL_ (some 9) Try.func39 #[.slice A0_0 l0_0.length c0_0,.slice A1_0 l1_0.length c1_0] ?_;(with_reducible refine (laws_eqIntS.calls k _ _ l0_0 _ _ l1_0 true _ ?side1 HC0_0.out ?side3 HC1_0.out A3.out).mono ?_);(case side1 => exact cS_ (Kd.C_below HR0_0.out HB.out));(case side3 => exact cS_ (Kd.C_below HR1_0.out HB.out));rintro e w' ⟨rfl,⟨nd,rfl⟩⟩;refine ⟨_,rfl,?_⟩) | (refine gL_ (some 15) Try.func67 #[.slice A0_1 l0_1.length c0_1,.slice A1_1 l1_1.length c1_1] ?_;(with_reducible refine (laws_eqInsSS.calls k _ _ l0_1 _ _ l1_1 true _ ?side1 HC0_1.out ?side3 HC1_1.out A5.out).mono ?_);(case side1 => exact cS_ (Kd.C_below HR0_1.out (gB_ HB.out)));(case side3 => exact cS_ (Kd.C_below HR1_1.out (gB_ HB.out)));rintro e w12 ⟨rfl,hb⟩;refine ⟨_,rfl,?_⟩;replace BK173 := aM_ (nB_ BK173.out hb);replace BK174 := aM_ (nB_ BK174.out hb);replace HB := aM_ (sT_ HB.out hb)))
   go_ret
   exact fI_ HB.out
  ·replace c6 := Bool.eq_false_iff.mpr c6
   subst c6
   have H1 := hF_ H
   clear H
   have H := H1
   clear H1
   obtain rfl := sJ_ H
   go_enter Try.func20,Try.ntmps20
   go_wp2_with (first | (refine bX_ 2 (cs := #[.slice A0_0 l0_0.length c0_0,.slice A0_1 l0_1.length c0_1]) (t := 44) ?_;intro gb173 hg w13 hbox hb;have BK173 := aM_ (hbox);have GE173 := aM_ (sZ_ hg HB.out);replace HB := aM_ (sT_ HB.out hb);clear hb hbox hg) | (refine bX_ 3 (cs := #[.slice A1_0 l1_0.length c1_0,.slice A1_1 l1_1.length c1_1]) (t := 44) ?_;intro gb174 hg w14 hbox hb;have BK174 := aM_ (hbox);have GE174 := aM_ (sZ_ hg HB.out);have NB173_174 := aM_ (nL_ hg BK173.out);have NB174_173 := aM_ (nG_ hg BK173.out);replace BK173 := aM_ (nB_ BK173.out hb);replace HB := aM_ (sT_ HB.out hb);clear hb hbox hg;have hnb15 := nn_ NB173_174 NB174_173;have z_16 := bR2_ BK173.out;have z_17 := bR2_ BK174.out) | (refine gL_ (some 9) Try.func39 #[.slice A0_0 l0_0.length c0_0,.slice A1_0 l1_0.length c1_0] ?_;(with_reducible refine (laws_eqIntS.calls k _ _ l0_0 _ _ l1_0 true _ ?side1 HC0_0.out ?side3 HC1_0.out A3.out).mono ?_);(case side1 => exact cS_ (Kd.C_below HR0_0.out HB.out));(case side3 => exact cS_ (Kd.C_below HR1_0.out HB.out));rintro e w' ⟨rfl,⟨nd,rfl⟩⟩;refine ⟨_,rfl,?_⟩) | (refine gL_ (some 15) Try.func67 #[.slice A0_1 l0_1.length c0_1,.slice A1_1 l1_1.length c1_1] ?_;(with_reducible refine (laws_eqInsSS.calls k _ _ l0_1 _ _ l1_1 false _ ?side1 HC0_1.out ?side3 HC1_1.out A5.out).mono ?_);(case side1 => exact cS_ (Kd.C_below HR0_1.out (gB_ HB.out)));(case side3 => exact cS_ (Kd.C_below HR1_1.out (gB_ HB.out)));rintro e w18 ⟨rfl,hb⟩;refine ⟨_,rfl,?_⟩;replace BK173 := aM_ (nB_ BK173.out hb);replace BK174 := aM_ (nB_ BK174.out hb);replace HB := aM_ (sT_ HB.out hb)))
   go_ret
   exact fI_ HB.out
 ·replace c4 := Bool.eq_false_iff.mpr c4
  subst c4
  have H1 := hF_ H
  clear H
  have H := H1
  clear H1
  obtain rfl := sJ_ H
  go_enter Try.func20,Try.ntmps20
  go_wp2_with (first | (refine bX_ 2 (cs := #[.slice A0_0 l0_0.length c0_0,.slice A0_1 l0_1.length c0_1]) (t := 44) ?_;intro gb173 hg w19 hbox hb;have BK173 := aM_ (hbox);have GE173 := aM_ (sZ_ hg HB.out);replace HB := aM_ (sT_ HB.out hb);clear hb hbox hg) | (refine bX_ 3 (cs := #[.slice A1_0 l1_0.length c1_0,.slice A1_1 l1_1.length c1_1]) (t := 44) ?_;intro gb174 hg w20 hbox hb;have BK174 := aM_ (hbox);have GE174 := aM_ (sZ_ hg HB.out);have NB173_174 := aM_ (nL_ hg BK173.out);have NB174_173 := aM_ (nG_ hg BK173.out);replace BK173 := aM_ (nB_ BK173.out hb);replace HB := aM_ (sT_ HB.out hb);clear hb hbox hg;have hnb21 := nn_ NB173_174 NB174_173;have z_22 := bR2_ BK173.out;have z_23 := bR2_ BK174.out) | (refine gL_ (some 9) Try.func39 #[.slice A0_0 l0_0.length c0_0,.slice A1_0 l1_0.length c1_0] ?_;(with_reducible refine (laws_eqIntS.calls k _ _ l0_0 _ _ l1_0 false _ ?side1 HC0_0.out ?side3 HC1_0.out A3.out).mono ?_);(case side1 => exact cS_ (Kd.C_below HR0_0.out HB.out));(case side3 => exact cS_ (Kd.C_below HR1_0.out HB.out));rintro e w' ⟨rfl,⟨nd,rfl⟩⟩;refine ⟨_,rfl,?_⟩))
  go_ret
  exact fI_ HB.out
def laws_szThread.f (a0_0 : Int) (l0_1 : List Int) (a0_2 : Int) (a1 : Int) : Option (Int) := (laws_szIntS.f l0_1 a1).bind fun t191 => (if t191 < 0 then (some (-1)) else (some t191))
set_option maxHeartbeats 8000000 in
theorem laws_szThread.calls (a0_0 : Int) (A0_1 : Option Addr) (c0_1 : Nat) (l0_1 : List Int) (a0_2 : Int) (a1 : Int) (r : Int) (w : World) (hr0_1 : Kd.C (Kd.int .i64) w A0_1 l0_1.length l0_1) (hc0_1 : l0_1.length ≤ c0_1) (h : laws_szThread.f a0_0 l0_1 a0_2 a1 = some r) :
  Calls Try.prog 144 #[.agg #[.int .i64 a0_0,.slice A0_1 l0_1.length c0_1,.int .i64 a0_2],.int .i64 a1] w fun e w' => e = .returned (.int .i64 r) ∧ Below w.heap.size w w' := by
 have hu184 := Try.underlying184
 have HR0_1 := aM_ hr0_1
 have HC0_1 := aM_ hc0_1
 clear hr0_1 hc0_1
 have HB := aM_ (Below.refl w.heap.size w)
 have H : ((laws_szIntS.f l0_1 a1).bind fun t191 => (if t191 < 0 then (some (-1)) else (some t191))) = some r := h
 clear h
 replace H := Option.bind_eq_some_iff.mp H
 obtain ⟨t191,A30,H⟩ := H
 replace H : (if t191 < 0 then (some (-1)) else (some t191)) = some r := H
 have A3 := aM_ A30
 clear A30
 by_cases c4 : t191 < 0
 ·rw [if_pos c4] at H
  have c4b0 : decide (t191 < 0) = true := decide_eq_true c4
  clear c4
  obtain rfl := sJ_ H
  go_enter Try.func144,Try.ntmps144
  go_wp2_with (first | (refine bX_ 2 (cs := #[.int .i64 a0_0,.slice A0_1 l0_1.length c0_1,.int .i64 a0_2]) (t := 184) ?_;intro gb190 hg w5 hbox hb;have BK190 := aM_ (hbox);have GE190 := aM_ (sZ_ hg HB.out);replace HB := aM_ (sT_ HB.out hb);clear hb hbox hg;have z_6 := bR3_ BK190.out) | (refine gL_ (some 8) Try.func58 #[.slice A0_1 l0_1.length c0_1,.int .i64 a1] ?_;(with_reducible refine (laws_szIntS.calls _ _ l0_1 a1 t191 _ ?side1 HC0_1.out A3.out).mono ?_);(case side1 => exact cS_ (Kd.C_below HR0_1.out HB.out));rintro e w' ⟨rfl,⟨nd,rfl⟩⟩;refine ⟨_,rfl,?_⟩))
  go_ret
  exact fI_ HB.out
 ·rw [if_neg c4] at H
  have c4b0 : decide (t191 < 0) = false := decide_eq_false c4
  clear c4
  obtain rfl := sJ_ H
  go_enter Try.func144,Try.ntmps144
  go_wp2_with (first | (refine bX_ 2 (cs := #[.int .i64 a0_0,.slice A0_1 l0_1.length c0_1,.int .i64 a0_2]) (t := 184) ?_;intro gb190 hg w7 hbox hb;have BK190 := aM_ (hbox);have GE190 := aM_ (sZ_ hg HB.out);replace HB := aM_ (sT_ HB.out hb);clear hb hbox hg;have z_8 := bR3_ BK190.out) | (refine gL_ (some 8) Try.func58 #[.slice A0_1 l0_1.length c0_1,.int .i64 a1] ?_;(with_reducible refine (laws_szIntS.calls _ _ l0_1 a1 t191 _ ?side1 HC0_1.out A3.out).mono ?_);(case side1 => exact cS_ (Kd.C_below HR0_1.out HB.out));rintro e w' ⟨rfl,⟨nd,rfl⟩⟩;refine ⟨_,rfl,?_⟩))
  go_ret
  exact fI_ HB.out
end Go.Proofs.Ytobachfngmpeiaa.PFnExactAble
