/- Part of the proof of FnExactAble. -/
import Derived.Test.YtobachfngmpeiaaZFnExactAblea2
import Derived.Test.YtobachfngmpeiaaZFnExactAbles
set_option maxRecDepth 100000
namespace Go.Proofs.Ytobachfngmpeiaa.PFnExactAble
open Go.RowKit Go.Proofs.YtobachfngmpeiaaW.PrintWords Go.Proofs.YtobachfngmpeiaaW.PrintLast Go.Proofs.YtobachfngmpeiaaW.PrintMore
attribute [local go_sem] max2_int min2_int max_two min_two max_three min_three max_four min_four   -- for this text's walks alone
set_option linter.unusedVariables false
set_option linter.unusedSimpArgs false
def laws_eqThread.f (k : Nat) (a0_0 : Int) (l0_1 : List Int) (a0_2 : Int) (a1_0 : Int) (l1_1 : List Int) (a1_2 : Int) : Option (Bool) := if a0_0 = a1_0 then ((laws_eqIntS.f k l0_1 l1_1).bind fun t145 => (if t145 = true then (if a0_2 = a1_2 then (some true) else (some false)) else (some false))) else (some false)
set_option maxHeartbeats 8000000 in
theorem laws_eqThread.calls (k : Nat) (a0_0 : Int) (A0_1 : Option Addr) (c0_1 : Nat) (l0_1 : List Int) (a0_2 : Int) (a1_0 : Int) (A1_1 : Option Addr) (c1_1 : Nat) (l1_1 : List Int) (a1_2 : Int) (r : Bool) (w : World) (hr0_1 : Kd.C (Kd.int .i64) w A0_1 l0_1.length l0_1) (hc0_1 : l0_1.length ≤ c0_1) (hr1_1 : Kd.C (Kd.int .i64) w A1_1 l1_1.length l1_1) (hc1_1 : l1_1.length ≤ c1_1) (h : laws_eqThread.f k a0_0 l0_1 a0_2 a1_0 l1_1 a1_2 = some r) :
  Calls Try.prog 127 #[.agg #[.int .i64 a0_0,.slice A0_1 l0_1.length c0_1,.int .i64 a0_2],.agg #[.int .i64 a1_0,.slice A1_1 l1_1.length c1_1,.int .i64 a1_2]] w fun e w' => e = .returned (.bool r) ∧ Below w.heap.size w w' := by
 have hu107 := Try.underlying107
 have HR0_1 := aM_ hr0_1
 have HC0_1 := aM_ hc0_1
 clear hr0_1 hc0_1
 have HR1_1 := aM_ hr1_1
 have HC1_1 := aM_ hc1_1
 clear hr1_1 hc1_1
 have HB := aM_ (Below.refl w.heap.size w)
 have H : (if a0_0 = a1_0 then ((laws_eqIntS.f k l0_1 l1_1).bind fun t145 => (if t145 = true then (if a0_2 = a1_2 then (some true) else (some false)) else (some false))) else (some false)) = some r := h
 clear h
 by_cases c3 : a0_0 = a1_0
 ·rw [if_pos c3] at H
  have c3b0 : (a0_0 == a1_0) = true := beq_iff_eq.mpr c3
  have c3b1 : (a0_0 != a1_0) = false := bne_eq_false_iff_eq.mpr c3
  clear c3
  replace H := Option.bind_eq_some_iff.mp H
  obtain ⟨t145,A40,H⟩ := H
  replace H : (if t145 = true then (if a0_2 = a1_2 then (some true) else (some false)) else (some false)) = some r := H
  have A4 := aM_ A40
  clear A40
  by_cases c5 : t145 = true
  ·subst c5
   have H1 : (if a0_2 = a1_2 then (some true) else (some false)) = some r := by rw [if_pos rfl] at H;exact H
   clear H
   have H := H1
   clear H1
   by_cases c6 : a0_2 = a1_2
   ·rw [if_pos c6] at H
    have c6b0 : (a0_2 == a1_2) = true := beq_iff_eq.mpr c6
    have c6b1 : (a0_2 != a1_2) = false := bne_eq_false_iff_eq.mpr c6
    clear c6
    obtain rfl := sJ_ H
    go_enter Try.func127,Try.ntmps127
    go_wp2_with (first | (refine bX_ 2 (cs := #[.int .i64 a0_0,.slice A0_1 l0_1.length c0_1,.int .i64 a0_2]) (t := 107) ?_;intro gb143 hg w7 hbox hb;have BK143 := aM_ (hbox);have GE143 := aM_ (sZ_ hg HB.out);replace HB := aM_ (sT_ HB.out hb);clear hb hbox hg) | (refine bX_ 3 (cs := #[.int .i64 a1_0,.slice A1_1 l1_1.length c1_1,.int .i64 a1_2]) (t := 107) ?_;intro gb144 hg w8 hbox hb;have BK144 := aM_ (hbox);have GE144 := aM_ (sZ_ hg HB.out);have NB143_144 := aM_ (nL_ hg BK143.out);have NB144_143 := aM_ (nG_ hg BK143.out);replace BK143 := aM_ (nB_ BK143.out hb);replace HB := aM_ (sT_ HB.out hb);clear hb hbox hg;have hnb9 := nn_ NB143_144 NB144_143;have z_10 := bR3_ BK143.out;have z_11 := bR3_ BK144.out) | (refine gL_ (some 14) Try.func39 #[.slice A0_1 l0_1.length c0_1,.slice A1_1 l1_1.length c1_1] ?_;(with_reducible refine (laws_eqIntS.calls k _ _ l0_1 _ _ l1_1 true _ ?side1 HC0_1.out ?side3 HC1_1.out A4.out).mono ?_);(case side1 => exact cS_ (Kd.C_below HR0_1.out HB.out));(case side3 => exact cS_ (Kd.C_below HR1_1.out HB.out));rintro e w' ⟨rfl,⟨nd,rfl⟩⟩;refine ⟨_,rfl,?_⟩))
    go_ret
    exact fI_ HB.out
   ·rw [if_neg c6] at H
    have c6b0 : (a0_2 == a1_2) = false := beq_eq_false_iff_ne.mpr c6
    have c6b1 : (a0_2 != a1_2) = true := bne_iff_ne.mpr c6
    obtain rfl := sJ_ H
    go_enter Try.func127,Try.ntmps127
    go_wp2_with (first | (refine bX_ 2 (cs := #[.int .i64 a0_0,.slice A0_1 l0_1.length c0_1,.int .i64 a0_2]) (t := 107) ?_;intro gb143 hg w12 hbox hb;have BK143 := aM_ (hbox);have GE143 := aM_ (sZ_ hg HB.out);replace HB := aM_ (sT_ HB.out hb);clear hb hbox hg) | (refine bX_ 3 (cs := #[.int .i64 a1_0,.slice A1_1 l1_1.length c1_1,.int .i64 a1_2]) (t := 107) ?_;intro gb144 hg w13 hbox hb;have BK144 := aM_ (hbox);have GE144 := aM_ (sZ_ hg HB.out);have NB143_144 := aM_ (nL_ hg BK143.out);have NB144_143 := aM_ (nG_ hg BK143.out);replace BK143 := aM_ (nB_ BK143.out hb);replace HB := aM_ (sT_ HB.out hb);clear hb hbox hg;have hnb14 := nn_ NB143_144 NB144_143;have z_15 := bR3_ BK143.out;have z_16 := bR3_ BK144.out) | (refine gL_ (some 14) Try.func39 #[.slice A0_1 l0_1.length c0_1,.slice A1_1 l1_1.length c1_1] ?_;(with_reducible refine (laws_eqIntS.calls k _ _ l0_1 _ _ l1_1 true _ ?side1 HC0_1.out ?side3 HC1_1.out A4.out).mono ?_);(case side1 => exact cS_ (Kd.C_below HR0_1.out HB.out));(case side3 => exact cS_ (Kd.C_below HR1_1.out HB.out));rintro e w' ⟨rfl,⟨nd,rfl⟩⟩;refine ⟨_,rfl,?_⟩))
    go_ret
    exact fI_ HB.out
  ·replace c5 := Bool.eq_false_iff.mpr c5
   subst c5
   have H1 := hF_ H
   clear H
   have H := H1
   clear H1
   obtain rfl := sJ_ H
   go_enter Try.func127,Try.ntmps127
   go_wp2_with (first | (refine bX_ 2 (cs := #[.int .i64 a0_0,.slice A0_1 l0_1.length c0_1,.int .i64 a0_2]) (t := 107) ?_;intro gb143 hg w17 hbox hb;have BK143 := aM_ (hbox);have GE143 := aM_ (sZ_ hg HB.out);replace HB := aM_ (sT_ HB.out hb);clear hb hbox hg) | (refine bX_ 3 (cs := #[.int .i64 a1_0,.slice A1_1 l1_1.length c1_1,.int .i64 a1_2]) (t := 107) ?_;intro gb144 hg w18 hbox hb;have BK144 := aM_ (hbox);have GE144 := aM_ (sZ_ hg HB.out);have NB143_144 := aM_ (nL_ hg BK143.out);have NB144_143 := aM_ (nG_ hg BK143.out);replace BK143 := aM_ (nB_ BK143.out hb);replace HB := aM_ (sT_ HB.out hb);clear hb hbox hg;have hnb19 := nn_ NB143_144 NB144_143;have z_20 := bR3_ BK143.out;have z_21 := bR3_ BK144.out) | (refine gL_ (some 14) Try.func39 #[.slice A0_1 l0_1.length c0_1,.slice A1_1 l1_1.length c1_1] ?_;(with_reducible refine (laws_eqIntS.calls k _ _ l0_1 _ _ l1_1 false _ ?side1 HC0_1.out ?side3 HC1_1.out A4.out).mono ?_);(case side1 => exact cS_ (Kd.C_below HR0_1.out HB.out));(case side3 => exact cS_ (Kd.C_below HR1_1.out HB.out));rintro e w' ⟨rfl,⟨nd,rfl⟩⟩;refine ⟨_,rfl,?_⟩))
   go_ret
   exact fI_ HB.out
 ·rw [if_neg c3] at H
  have c3b0 : (a0_0 == a1_0) = false := beq_eq_false_iff_ne.mpr c3
  have c3b1 : (a0_0 != a1_0) = true := bne_iff_ne.mpr c3
  obtain rfl := sJ_ H
  go_enter Try.func127,Try.ntmps127
  go_wp2_with (first | (refine bX_ 2 (cs := #[.int .i64 a0_0,.slice A0_1 l0_1.length c0_1,.int .i64 a0_2]) (t := 107) ?_;intro gb143 hg w22 hbox hb;have BK143 := aM_ (hbox);have GE143 := aM_ (sZ_ hg HB.out);replace HB := aM_ (sT_ HB.out hb);clear hb hbox hg) | (refine bX_ 3 (cs := #[.int .i64 a1_0,.slice A1_1 l1_1.length c1_1,.int .i64 a1_2]) (t := 107) ?_;intro gb144 hg w23 hbox hb;have BK144 := aM_ (hbox);have GE144 := aM_ (sZ_ hg HB.out);have NB143_144 := aM_ (nL_ hg BK143.out);have NB144_143 := aM_ (nG_ hg BK143.out);replace BK143 := aM_ (nB_ BK143.out hb);replace HB := aM_ (sT_ HB.out hb);clear hb hbox hg;have hnb24 := nn_ NB143_144 NB144_143;have z_25 := bR3_ BK143.out;have z_26 := bR3_ BK144.out))
  go_ret
  exact fI_ HB.out
def laws_eqThreadS.l0 : Nat → List (S107) → List (S107) → Int → Option (Bool)
  | 0,_,_,_ => none
  | k + 1,x0,x1,x5 => if x5 < (x0.length : Int) then (if 0 ≤ x5 then (if x5 < (x1.length : Int) then ((laws_eqThread.f k ((rd_T107 x0 x5).f0) ((rd_T107 x0 x5).f1) ((rd_T107 x0 x5).f2) ((rd_T107 x1 x5).f0) ((rd_T107 x1 x5).f1) ((rd_T107 x1 x5).f2)).bind fun t148 => (if t148 = true then (laws_eqThreadS.l0 k x0 x1 (wrap64 (x5 + 1))) else (some false))) else (none)) else (none)) else (some true)
def laws_eqThreadS.f (k : Nat) (l0 : List (S107)) (l1 : List (S107)) : Option (Bool) := if (l0.length : Int) = (l1.length : Int) then (laws_eqThreadS.l0 k l0 l1 0) else (some false)
def laws_eqThreadS.T6 : Bool × List (List Nat × List Nat) := (true,[([],[]),([],[]),([0,1],[0,1]),([2],[2]),([],[]),([],[]),([4,5],[4,5]),([6],[6]),([3,7],[3,7]),([8],[8])])
def laws_eqThreadS.B6 : List Nat := [0,0,3,7,0,0,48,112,255,511]
theorem laws_eqThreadS.tab6 : rtab .any (opsOf Try.f64 6) = laws_eqThreadS.T6 := by kernel_rfl
theorem laws_eqThreadS.bits6 : waitsOk laws_eqThreadS.T6.2 laws_eqThreadS.B6 = true := by kernel_rfl
set_option maxHeartbeats 8000000 in
theorem laws_eqThreadS.calls (k : Nat) (A0 : Option Addr) (c0 : Nat) (l0 : List (S107)) (A1 : Option Addr) (c1 : Nat) (l1 : List (S107)) (r : Bool) (w : World) (hr0 : Kd.C k107 w A0 l0.length l0) (hc0 : l0.length ≤ c0) (hr1 : Kd.C k107 w A1 l1.length l1) (hc1 : l1.length ≤ c1) (h : laws_eqThreadS.f k l0 l1 = some r) :
  Calls Try.prog 64 #[.slice A0 l0.length c0,.slice A1 l1.length c1] w fun e w' => e = .returned (.bool r) ∧ Below w.heap.size w w' := by
 have hu107 := Try.underlying107
 have HR0 := aM_ hr0
 have HC0 := aM_ hc0
 clear hr0 hc0
 have HR1 := aM_ hr1
 have HC1 := aM_ hc1
 clear hr1 hc1
 have HB := aM_ (Below.refl w.heap.size w)
 have H : (if (l0.length : Int) = (l1.length : Int) then (laws_eqThreadS.l0 k l0 l1 0) else (some false)) = some r := h
 clear h
 by_cases c3 : (l0.length : Int) = (l1.length : Int)
 ·rw [if_pos c3] at H
  have c3b0 : ((l0.length : Int) == (l1.length : Int)) = true := beq_iff_eq.mpr c3
  have c3b1 : ((l0.length : Int) != (l1.length : Int)) = false := bne_eq_false_iff_eq.mpr c3
  have c3b2 : (l0.length == l1.length) = true := by first | simpa using c3 | (simp at c3 ⊢;omega)
  clear c3
  have H' := aM_ H
  clear H
  go_enter Try.func64,Try.ntmps64
  go_wp2
  go_loopg [5] k (fun kq v5 w' => ∃ (x5_1 : Int),v5 = .int .i64 x5_1 ∧ Aside0 (laws_eqThreadS.l0 kq l0 l1 x5_1 = some r) ∧ Aside0 (kq ≤ k) ∧ Aside0 (Below w.heap.size w w'))
  case atStart => exact ⟨(0),(by first | rfl | (simp;done) | (simp [*];done)),H',⟨Nat.le_refl _⟩,⟨gW_ HB.out⟩⟩
  case round =>
   clear H'
   (try clear c1);(try clear p2);(try clear c3);(try clear c3b0);(try clear c3b1);(try clear c3b2)
   obtain ⟨x5_1,rfl,HA,HK1,HB⟩ := hrel
   cases gk with
   | zero => exact absurd HA.out (by simp [laws_eqThreadS.l0])
   | succ k1 =>
    have H := HA.out
    clear HA
    simp only [laws_eqThreadS.l0] at H
    by_cases c4 : x5_1 < (l0.length : Int)
    ·rw [if_pos c4] at H
     have c4b0 : decide (x5_1 < (l0.length : Int)) = true := decide_eq_true c4
     clear c4
     by_cases c5 : 0 ≤ x5_1
     ·rw [if_pos c5] at H
      have c5b0 : decide (0 ≤ x5_1) = true := decide_eq_true c5
      clear c5
      by_cases c6 : x5_1 < (l1.length : Int)
      ·rw [if_pos c6] at H
       have c6b0 : decide (x5_1 < (l1.length : Int)) = true := decide_eq_true c6
       clear c6
       replace H := Option.bind_eq_some_iff.mp H
       obtain ⟨t148,A70,H⟩ := H
       replace H : (if t148 = true then (laws_eqThreadS.l0 k1 l0 l1 (wrap64 (x5_1 + 1))) else (some false)) = some r := H
       have A7 := aM_ A70
       clear A70
       by_cases c8 : t148 = true
       ·subst c8
        have H1 : (laws_eqThreadS.l0 k1 l0 l1 (wrap64 (x5_1 + 1))) = some r := by rw [if_pos rfl] at H;exact H
        clear H
        have H := H1
        clear H1
        have H' := aM_ H
        clear H
        try go_wp2
        replace HB := aM_ (below_drew1 HB.out)
        have p146 : 0 ≤ (x5_1 : Int) := pD_
        have q146 : x5_1 < (l0.length : Int) := pD_
        obtain ⟨ad146,A146_1,c146_1,e146,hx146_0,hx146_1,hx146_2,hl146_1,hi146_1⟩ := at_T107 HR0.out x5_1 p146 q146
        have hw146_2 := hx146_2
        have hw146_1 := hx146_1
        have hw146_0 := hx146_0
        cases e146
        replace hx146_0 := cB_ HB.out hx146_0
        replace hx146_1 := cB_ HB.out hx146_1
        replace hx146_2 := cB_ HB.out hx146_2
        have HR146_1 := aM_ hi146_1
        have HC146_1 := aM_ hl146_1
        clear hi146_1 hl146_1
        replace p146 := eq_true p146
        replace q146 := eq_true q146
        have p147 : 0 ≤ (x5_1 : Int) := pD_
        have q147 : x5_1 < (l1.length : Int) := pD_
        obtain ⟨ad147,A147_1,c147_1,e147,hx147_0,hx147_1,hx147_2,hl147_1,hi147_1⟩ := at_T107 HR1.out x5_1 p147 q147
        have hw147_2 := hx147_2
        have hw147_1 := hx147_1
        have hw147_0 := hx147_0
        cases e147
        replace hx147_0 := cB_ HB.out hx147_0
        replace hx147_1 := cB_ HB.out hx147_1
        replace hx147_2 := cB_ HB.out hx147_2
        have HR147_1 := aM_ hi147_1
        have HC147_1 := aM_ hl147_1
        clear hi147_1 hl147_1
        replace p147 := eq_true p147
        replace q147 := eq_true q147
        refine sTa_ 10 (fun w' => w'.cell? (ad146.add ((x5_1).toNat * 3)) = some (.int .i64 ((rd_T107 l0 x5_1).f0)) ∧ w'.cell? ⟨(ad146.add ((x5_1).toNat * 3)).block,(ad146.add ((x5_1).toNat * 3)).off + 1,none⟩ = some (.slice A146_1 ((rd_T107 l0 x5_1).f1).length c146_1) ∧ w'.cell? ⟨(ad146.add ((x5_1).toNat * 3)).block,(ad146.add ((x5_1).toNat * 3)).off + 2,none⟩ = some (.int .i64 ((rd_T107 l0 x5_1).f2)) ∧ w'.cell? (ad147.add ((x5_1).toNat * 3)) = some (.int .i64 ((rd_T107 l1 x5_1).f0)) ∧ w'.cell? ⟨(ad147.add ((x5_1).toNat * 3)).block,(ad147.add ((x5_1).toNat * 3)).off + 1,none⟩ = some (.slice A147_1 ((rd_T107 l1 x5_1).f1).length c147_1) ∧ w'.cell? ⟨(ad147.add ((x5_1).toNat * 3)).block,(ad147.add ((x5_1).toNat * 3)).off + 2,none⟩ = some (.int .i64 ((rd_T107 l1 x5_1).f2))) [] ⟨(cB_ HB.out hw146_0 :),(cB_ HB.out hw146_1 :),(cB_ HB.out hw146_2 :),(cB_ HB.out hw147_0 :),(cB_ HB.out hw147_1 :),(cB_ HB.out hw147_2 :)⟩ (fun hHeld => ?_);refine with_tabW laws_eqThreadS.tab6 laws_eqThreadS.bits6 (fun HT_ HW_ => ?_)
        generalize wr.drew = w9 at HB HR146_1 HR147_1 hx146_0 hx146_1 hx146_2 hx147_0 hx147_1 hx147_2 hHeld ⊢
        refine jU_ 0 17 10 1 ?_
        refine jU_ 1 18 10 3 ?_
        refine jU_ 2 19 10 7 ?_
        refine jU_ 4 21 10 23 ?_
        refine jU_ 5 22 10 55 ?_
        refine jU_ 6 23 10 119 ?_
        refine jK6_ 3 20 10 127 ?_
        refine jK6_ 7 24 10 255 ?_
        refine jN_ 8 25 10 511 (fun K hK => ?_)
        refine gO_ Try.func127 #[.agg #[.int .i64 ((rd_T107 l0 x5_1).f0),.slice A146_1 ((rd_T107 l0 x5_1).f1).length c146_1,.int .i64 ((rd_T107 l0 x5_1).f2)],.agg #[.int .i64 ((rd_T107 l1 x5_1).f0),.slice A147_1 ((rd_T107 l1 x5_1).f1).length c147_1,.int .i64 ((rd_T107 l1 x5_1).f2)]] ?_
        with_reducible refine (laws_eqThread.calls k1 ((rd_T107 l0 x5_1).f0) _ _ ((rd_T107 l0 x5_1).f1) ((rd_T107 l0 x5_1).f2) ((rd_T107 l1 x5_1).f0) _ _ ((rd_T107 l1 x5_1).f1) ((rd_T107 l1 x5_1).f2) true _ ?side1 ?side2 ?side3 ?side4 A7.out).mono ?_
        (case side1 => exact cS_ (Kd.C_below HR146_1.out HB.out))
        (case side2 => exact HC146_1.out)
        (case side3 => exact cS_ (Kd.C_below HR147_1.out HB.out))
        (case side4 => exact HC147_1.out)
        rintro e w10 ⟨rfl,hb⟩
        refine ⟨_,rfl,?_⟩
        replace HB := aM_ (sT_ HB.out hb)
        (try clear hb)
        (try clear hb2)
        (try clear hk)
        (try clear hi)
        refine kO_ hK (some 25) ⟨(cB_ HB.out hw146_0 :),(cB_ HB.out hw146_1 :),(cB_ HB.out hw146_2 :),(cB_ HB.out hw147_0 :),(cB_ HB.out hw147_1 :),(cB_ HB.out hw147_2 :)⟩ (fun hHeld => ?_)
        clear hK K
        refine jU_ 9 26 10 1023 ?_
        refine done_ (done_of HT_.out (by kernel_rfl)) ?_
        try go_wp2
        go_roundg k1
        case measure => have := HK1.out;omega
        case rel => exact ⟨(wrap64 (x5_1 + 1)),(by first | rfl | (simp;done) | (simp [*];done)),H',⟨by have := HK1.out;omega⟩,⟨gW_ HB.out⟩⟩
       ·replace c8 := Bool.eq_false_iff.mpr c8
        subst c8
        have H1 := hF_ H
        clear H
        have H := H1
        clear H1
        obtain rfl := sJ_ H
        try go_wp2
        replace HB := aM_ (below_drew1 HB.out)
        have p146 : 0 ≤ (x5_1 : Int) := pD_
        have q146 : x5_1 < (l0.length : Int) := pD_
        obtain ⟨ad146,A146_1,c146_1,e146,hx146_0,hx146_1,hx146_2,hl146_1,hi146_1⟩ := at_T107 HR0.out x5_1 p146 q146
        have hw146_2 := hx146_2
        have hw146_1 := hx146_1
        have hw146_0 := hx146_0
        cases e146
        replace hx146_0 := cB_ HB.out hx146_0
        replace hx146_1 := cB_ HB.out hx146_1
        replace hx146_2 := cB_ HB.out hx146_2
        have HR146_1 := aM_ hi146_1
        have HC146_1 := aM_ hl146_1
        clear hi146_1 hl146_1
        replace p146 := eq_true p146
        replace q146 := eq_true q146
        have p147 : 0 ≤ (x5_1 : Int) := pD_
        have q147 : x5_1 < (l1.length : Int) := pD_
        obtain ⟨ad147,A147_1,c147_1,e147,hx147_0,hx147_1,hx147_2,hl147_1,hi147_1⟩ := at_T107 HR1.out x5_1 p147 q147
        have hw147_2 := hx147_2
        have hw147_1 := hx147_1
        have hw147_0 := hx147_0
        cases e147
        replace hx147_0 := cB_ HB.out hx147_0
        replace hx147_1 := cB_ HB.out hx147_1
        replace hx147_2 := cB_ HB.out hx147_2
        have HR147_1 := aM_ hi147_1
        have HC147_1 := aM_ hl147_1
        clear hi147_1 hl147_1
        replace p147 := eq_true p147
        replace q147 := eq_true q147
        refine sTa_ 10 (fun w' => w'.cell? (ad146.add ((x5_1).toNat * 3)) = some (.int .i64 ((rd_T107 l0 x5_1).f0)) ∧ w'.cell? ⟨(ad146.add ((x5_1).toNat * 3)).block,(ad146.add ((x5_1).toNat * 3)).off + 1,none⟩ = some (.slice A146_1 ((rd_T107 l0 x5_1).f1).length c146_1) ∧ w'.cell? ⟨(ad146.add ((x5_1).toNat * 3)).block,(ad146.add ((x5_1).toNat * 3)).off + 2,none⟩ = some (.int .i64 ((rd_T107 l0 x5_1).f2)) ∧ w'.cell? (ad147.add ((x5_1).toNat * 3)) = some (.int .i64 ((rd_T107 l1 x5_1).f0)) ∧ w'.cell? ⟨(ad147.add ((x5_1).toNat * 3)).block,(ad147.add ((x5_1).toNat * 3)).off + 1,none⟩ = some (.slice A147_1 ((rd_T107 l1 x5_1).f1).length c147_1) ∧ w'.cell? ⟨(ad147.add ((x5_1).toNat * 3)).block,(ad147.add ((x5_1).toNat * 3)).off + 2,none⟩ = some (.int .i64 ((rd_T107 l1 x5_1).f2))) [] ⟨(cB_ HB.out hw146_0 :),(cB_ HB.out hw146_1 :),(cB_ HB.out hw146_2 :),(cB_ HB.out hw147_0 :),(cB_ HB.out hw147_1 :),(cB_ HB.out hw147_2 :)⟩ (fun hHeld => ?_);refine with_tabW laws_eqThreadS.tab6 laws_eqThreadS.bits6 (fun HT_ HW_ => ?_)
        generalize wr.drew = w11 at HB HR146_1 HR147_1 hx146_0 hx146_1 hx146_2 hx147_0 hx147_1 hx147_2 hHeld ⊢
        refine jU_ 0 17 10 1 ?_
        refine jU_ 1 18 10 3 ?_
        refine jU_ 2 19 10 7 ?_
        refine jU_ 4 21 10 23 ?_
        refine jU_ 5 22 10 55 ?_
        refine jU_ 6 23 10 119 ?_
        refine jK6_ 3 20 10 127 ?_
        refine jK6_ 7 24 10 255 ?_
        refine jN_ 8 25 10 511 (fun K hK => ?_)
        refine gO_ Try.func127 #[.agg #[.int .i64 ((rd_T107 l0 x5_1).f0),.slice A146_1 ((rd_T107 l0 x5_1).f1).length c146_1,.int .i64 ((rd_T107 l0 x5_1).f2)],.agg #[.int .i64 ((rd_T107 l1 x5_1).f0),.slice A147_1 ((rd_T107 l1 x5_1).f1).length c147_1,.int .i64 ((rd_T107 l1 x5_1).f2)]] ?_
        with_reducible refine (laws_eqThread.calls k1 ((rd_T107 l0 x5_1).f0) _ _ ((rd_T107 l0 x5_1).f1) ((rd_T107 l0 x5_1).f2) ((rd_T107 l1 x5_1).f0) _ _ ((rd_T107 l1 x5_1).f1) ((rd_T107 l1 x5_1).f2) false _ ?side1 ?side2 ?side3 ?side4 A7.out).mono ?_
        (case side1 => exact cS_ (Kd.C_below HR146_1.out HB.out))
        (case side2 => exact HC146_1.out)
        (case side3 => exact cS_ (Kd.C_below HR147_1.out HB.out))
        (case side4 => exact HC147_1.out)
        rintro e w12 ⟨rfl,hb⟩
        refine ⟨_,rfl,?_⟩
        replace HB := aM_ (sT_ HB.out hb)
        (try clear hb)
        (try clear hb2)
        (try clear hk)
        (try clear hi)
        refine kO_ hK (some 25) ⟨(cB_ HB.out hw146_0 :),(cB_ HB.out hw146_1 :),(cB_ HB.out hw146_2 :),(cB_ HB.out hw147_0 :),(cB_ HB.out hw147_1 :),(cB_ HB.out hw147_2 :)⟩ (fun hHeld => ?_)
        clear hK K
        refine jU_ 9 26 10 1023 ?_
        refine done_ (done_of HT_.out (by kernel_rfl)) ?_
        try go_wp2
        go_ret
        exact fI_ HB.out
      ·rw [if_neg c6] at H
       exact absurd H (by simp)
     ·rw [if_neg c5] at H
      exact absurd H (by simp)
    ·rw [if_neg c4] at H
     have c4b0 : decide (x5_1 < (l0.length : Int)) = false := decide_eq_false c4
     clear c4
     obtain rfl := sJ_ H
     go_wp2
     go_ret
     exact fI_ HB.out
 ·rw [if_neg c3] at H
  have c3b0 : ((l0.length : Int) == (l1.length : Int)) = false := beq_eq_false_iff_ne.mpr c3
  have c3b1 : ((l0.length : Int) != (l1.length : Int)) = true := bne_iff_ne.mpr c3
  have c3b2 : (l0.length == l1.length) = false := by first | simpa using c3 | (simp at c3 ⊢;omega)
  obtain rfl := sJ_ H
  go_enter Try.func64,Try.ntmps64
  go_wp2
  go_ret
  exact fI_ HB.out
def laws_eqChan.f (k : Nat) (a0_0 : Int) (l0_1 : List Int) (a0_2 : Bool) (a1_0 : Int) (l1_1 : List Int) (a1_2 : Bool) : Option (Bool) := if a0_0 = a1_0 then ((laws_eqIntS.f k l0_1 l1_1).bind fun t151 => (if t151 = true then (if (a0_2 != a1_2) = true then (some false) else (some true)) else (some false))) else (some false)
set_option maxHeartbeats 8000000 in
theorem laws_eqChan.calls (k : Nat) (a0_0 : Int) (A0_1 : Option Addr) (c0_1 : Nat) (l0_1 : List Int) (a0_2 : Bool) (a1_0 : Int) (A1_1 : Option Addr) (c1_1 : Nat) (l1_1 : List Int) (a1_2 : Bool) (r : Bool) (w : World) (hr0_1 : Kd.C (Kd.int .i64) w A0_1 l0_1.length l0_1) (hc0_1 : l0_1.length ≤ c0_1) (hr1_1 : Kd.C (Kd.int .i64) w A1_1 l1_1.length l1_1) (hc1_1 : l1_1.length ≤ c1_1) (h : laws_eqChan.f k a0_0 l0_1 a0_2 a1_0 l1_1 a1_2 = some r) :
  Calls Try.prog 128 #[.agg #[.int .i64 a0_0,.slice A0_1 l0_1.length c0_1,.bool a0_2],.agg #[.int .i64 a1_0,.slice A1_1 l1_1.length c1_1,.bool a1_2]] w fun e w' => e = .returned (.bool r) ∧ Below w.heap.size w w' := by
 have hu94 := Try.underlying94
 have HR0_1 := aM_ hr0_1
 have HC0_1 := aM_ hc0_1
 clear hr0_1 hc0_1
 have HR1_1 := aM_ hr1_1
 have HC1_1 := aM_ hc1_1
 clear hr1_1 hc1_1
 have HB := aM_ (Below.refl w.heap.size w)
 have H : (if a0_0 = a1_0 then ((laws_eqIntS.f k l0_1 l1_1).bind fun t151 => (if t151 = true then (if (a0_2 != a1_2) = true then (some false) else (some true)) else (some false))) else (some false)) = some r := h
 clear h
 by_cases c3 : a0_0 = a1_0
 ·rw [if_pos c3] at H
  have c3b0 : (a0_0 == a1_0) = true := beq_iff_eq.mpr c3
  have c3b1 : (a0_0 != a1_0) = false := bne_eq_false_iff_eq.mpr c3
  clear c3
  replace H := Option.bind_eq_some_iff.mp H
  obtain ⟨t151,A40,H⟩ := H
  replace H : (if t151 = true then (if (a0_2 != a1_2) = true then (some false) else (some true)) else (some false)) = some r := H
  have A4 := aM_ A40
  clear A40
  by_cases c5 : t151 = true
  ·subst c5
   have H1 : (if (a0_2 != a1_2) = true then (some false) else (some true)) = some r := by rw [if_pos rfl] at H;exact H
   clear H
   have H := H1
   clear H1
   by_cases c6 : (a0_2 != a1_2) = true
   ·rw [if_pos c6] at H
    have c6b0 : (a0_2 != a1_2) = true := c6
    (try (have c6b1 : decide (a0_2 = a1_2) = false := by simpa using c6))
    (try (have c6b2 : (a0_2 == a1_2) = false := by simpa using c6))
    (try (have c6b3 : ¬ (a0_2 = a1_2) := by simpa using c6))
    clear c6
    obtain rfl := sJ_ H
    go_enter Try.func128,Try.ntmps128
    go_wp2_with (first | (refine bX_ 2 (cs := #[.int .i64 a0_0,.slice A0_1 l0_1.length c0_1,.bool a0_2]) (t := 94) ?_;intro gb149 hg w7 hbox hb;have BK149 := aM_ (hbox);have GE149 := aM_ (sZ_ hg HB.out);replace HB := aM_ (sT_ HB.out hb);clear hb hbox hg) | (refine bX_ 3 (cs := #[.int .i64 a1_0,.slice A1_1 l1_1.length c1_1,.bool a1_2]) (t := 94) ?_;intro gb150 hg w8 hbox hb;have BK150 := aM_ (hbox);have GE150 := aM_ (sZ_ hg HB.out);have NB149_150 := aM_ (nL_ hg BK149.out);have NB150_149 := aM_ (nG_ hg BK149.out);replace BK149 := aM_ (nB_ BK149.out hb);replace HB := aM_ (sT_ HB.out hb);clear hb hbox hg;have hnb9 := nn_ NB149_150 NB150_149;have z_10 := bR3_ BK149.out;have z_11 := bR3_ BK150.out) | (refine gL_ (some 14) Try.func39 #[.slice A0_1 l0_1.length c0_1,.slice A1_1 l1_1.length c1_1] ?_;(with_reducible refine (laws_eqIntS.calls k _ _ l0_1 _ _ l1_1 true _ ?side1 HC0_1.out ?side3 HC1_1.out A4.out).mono ?_);(case side1 => exact cS_ (Kd.C_below HR0_1.out HB.out));(case side3 => exact cS_ (Kd.C_below HR1_1.out HB.out));rintro e w' ⟨rfl,⟨nd,rfl⟩⟩;refine ⟨_,rfl,?_⟩))
    go_ret
    exact fI_ HB.out
   ·rw [if_neg c6] at H
    have c6b0 : (a0_2 != a1_2) = false := by simpa using c6
    (try (have c6b1 : decide (a0_2 = a1_2) = true := by simpa using c6))
    (try (have c6b2 : (a0_2 == a1_2) = true := by simpa using c6))
    clear c6
    obtain rfl := sJ_ H
    go_enter Try.func128,Try.ntmps128
    go_wp2_with (first | (refine bX_ 2 (cs := #[.int .i64 a0_0,.slice A0_1 l0_1.length c0_1,.bool a0_2]) (t := 94) ?_;intro gb149 hg w12 hbox hb;have BK149 := aM_ (hbox);have GE149 := aM_ (sZ_ hg HB.out);replace HB := aM_ (sT_ HB.out hb);clear hb hbox hg) | (refine bX_ 3 (cs := #[.int .i64 a1_0,.slice A1_1 l1_1.length c1_1,.bool a1_2]) (t := 94) ?_;intro gb150 hg w13 hbox hb;have BK150 := aM_ (hbox);have GE150 := aM_ (sZ_ hg HB.out);have NB149_150 := aM_ (nL_ hg BK149.out);have NB150_149 := aM_ (nG_ hg BK149.out);replace BK149 := aM_ (nB_ BK149.out hb);replace HB := aM_ (sT_ HB.out hb);clear hb hbox hg;have hnb14 := nn_ NB149_150 NB150_149;have z_15 := bR3_ BK149.out;have z_16 := bR3_ BK150.out) | (refine gL_ (some 14) Try.func39 #[.slice A0_1 l0_1.length c0_1,.slice A1_1 l1_1.length c1_1] ?_;(with_reducible refine (laws_eqIntS.calls k _ _ l0_1 _ _ l1_1 true _ ?side1 HC0_1.out ?side3 HC1_1.out A4.out).mono ?_);(case side1 => exact cS_ (Kd.C_below HR0_1.out HB.out));(case side3 => exact cS_ (Kd.C_below HR1_1.out HB.out));rintro e w' ⟨rfl,⟨nd,rfl⟩⟩;refine ⟨_,rfl,?_⟩))
    go_ret
    exact fI_ HB.out
  ·replace c5 := Bool.eq_false_iff.mpr c5
   subst c5
   have H1 := hF_ H
   clear H
   have H := H1
   clear H1
   obtain rfl := sJ_ H
   go_enter Try.func128,Try.ntmps128
   go_wp2_with (first | (refine bX_ 2 (cs := #[.int .i64 a0_0,.slice A0_1 l0_1.length c0_1,.bool a0_2]) (t := 94) ?_;intro gb149 hg w17 hbox hb;have BK149 := aM_ (hbox);have GE149 := aM_ (sZ_ hg HB.out);replace HB := aM_ (sT_ HB.out hb);clear hb hbox hg) | (refine bX_ 3 (cs := #[.int .i64 a1_0,.slice A1_1 l1_1.length c1_1,.bool a1_2]) (t := 94) ?_;intro gb150 hg w18 hbox hb;have BK150 := aM_ (hbox);have GE150 := aM_ (sZ_ hg HB.out);have NB149_150 := aM_ (nL_ hg BK149.out);have NB150_149 := aM_ (nG_ hg BK149.out);replace BK149 := aM_ (nB_ BK149.out hb);replace HB := aM_ (sT_ HB.out hb);clear hb hbox hg;have hnb19 := nn_ NB149_150 NB150_149;have z_20 := bR3_ BK149.out;have z_21 := bR3_ BK150.out) | (refine gL_ (some 14) Try.func39 #[.slice A0_1 l0_1.length c0_1,.slice A1_1 l1_1.length c1_1] ?_;(with_reducible refine (laws_eqIntS.calls k _ _ l0_1 _ _ l1_1 false _ ?side1 HC0_1.out ?side3 HC1_1.out A4.out).mono ?_);(case side1 => exact cS_ (Kd.C_below HR0_1.out HB.out));(case side3 => exact cS_ (Kd.C_below HR1_1.out HB.out));rintro e w' ⟨rfl,⟨nd,rfl⟩⟩;refine ⟨_,rfl,?_⟩))
   go_ret
   exact fI_ HB.out
 ·rw [if_neg c3] at H
  have c3b0 : (a0_0 == a1_0) = false := beq_eq_false_iff_ne.mpr c3
  have c3b1 : (a0_0 != a1_0) = true := bne_iff_ne.mpr c3
  obtain rfl := sJ_ H
  go_enter Try.func128,Try.ntmps128
  go_wp2_with (first | (refine bX_ 2 (cs := #[.int .i64 a0_0,.slice A0_1 l0_1.length c0_1,.bool a0_2]) (t := 94) ?_;intro gb149 hg w22 hbox hb;have BK149 := aM_ (hbox);have GE149 := aM_ (sZ_ hg HB.out);replace HB := aM_ (sT_ HB.out hb);clear hb hbox hg) | (refine bX_ 3 (cs := #[.int .i64 a1_0,.slice A1_1 l1_1.length c1_1,.bool a1_2]) (t := 94) ?_;intro gb150 hg w23 hbox hb;have BK150 := aM_ (hbox);have GE150 := aM_ (sZ_ hg HB.out);have NB149_150 := aM_ (nL_ hg BK149.out);have NB150_149 := aM_ (nG_ hg BK149.out);replace BK149 := aM_ (nB_ BK149.out hb);replace HB := aM_ (sT_ HB.out hb);clear hb hbox hg;have hnb24 := nn_ NB149_150 NB150_149;have z_25 := bR3_ BK149.out;have z_26 := bR3_ BK150.out))
  go_ret
  exact fI_ HB.out
end Go.Proofs.Ytobachfngmpeiaa.PFnExactAble
