/- Part of the proof of FnExactAble. -/
import Derived.Test.YtobachfngmpeiaaZFnExactAblea3
import Derived.Test.YtobachfngmpeiaaZFnExactAbles
set_option maxRecDepth 100000
namespace Go.Proofs.Ytobachfngmpeiaa.PFnExactAble
open Go.RowKit Go.Proofs.YtobachfngmpeiaaW.PrintWords Go.Proofs.YtobachfngmpeiaaW.PrintLast Go.Proofs.YtobachfngmpeiaaW.PrintMore
attribute [local go_sem] max2_int min2_int max_two min_two max_three min_three max_four min_four   -- for this text's walks alone
set_option linter.unusedVariables false
set_option linter.unusedSimpArgs false
def laws_eqChanS.l0 : Nat → List (S94) → List (S94) → Int → Option (Bool)
  | 0,_,_,_ => none
  | k + 1,x0,x1,x5 => if x5 < (x0.length : Int) then (if 0 ≤ x5 then (if x5 < (x1.length : Int) then ((laws_eqChan.f k ((rd_T94 x0 x5).f0) ((rd_T94 x0 x5).f1) ((rd_T94 x0 x5).f2) ((rd_T94 x1 x5).f0) ((rd_T94 x1 x5).f1) ((rd_T94 x1 x5).f2)).bind fun t154 => (if t154 = true then (laws_eqChanS.l0 k x0 x1 (wrap64 (x5 + 1))) else (some false))) else (none)) else (none)) else (some true)
def laws_eqChanS.f (k : Nat) (l0 : List (S94)) (l1 : List (S94)) : Option (Bool) := if (l0.length : Int) = (l1.length : Int) then (laws_eqChanS.l0 k l0 l1 0) else (some false)
def laws_eqChanS.T6 : Bool × List (List Nat × List Nat) := (true,[([],[]),([],[]),([0,1],[0,1]),([2],[2]),([],[]),([],[]),([4,5],[4,5]),([6],[6]),([3,7],[3,7]),([8],[8])])
def laws_eqChanS.B6 : List Nat := [0,0,3,7,0,0,48,112,255,511]
theorem laws_eqChanS.tab6 : rtab .any (opsOf Try.f65 6) = laws_eqChanS.T6 := by kernel_rfl
theorem laws_eqChanS.bits6 : waitsOk laws_eqChanS.T6.2 laws_eqChanS.B6 = true := by kernel_rfl
set_option maxHeartbeats 8000000 in
theorem laws_eqChanS.calls (k : Nat) (A0 : Option Addr) (c0 : Nat) (l0 : List (S94)) (A1 : Option Addr) (c1 : Nat) (l1 : List (S94)) (r : Bool) (w : World) (hr0 : Kd.C k94 w A0 l0.length l0) (hc0 : l0.length ≤ c0) (hr1 : Kd.C k94 w A1 l1.length l1) (hc1 : l1.length ≤ c1) (h : laws_eqChanS.f k l0 l1 = some r) :
  Calls Try.prog 65 #[.slice A0 l0.length c0,.slice A1 l1.length c1] w fun e w' => e = .returned (.bool r) ∧ Below w.heap.size w w' := by
 have hu94 := Try.underlying94
 have HR0 := aM_ hr0
 have HC0 := aM_ hc0
 clear hr0 hc0
 have HR1 := aM_ hr1
 have HC1 := aM_ hc1
 clear hr1 hc1
 have HB := aM_ (Below.refl w.heap.size w)
 have H : (if (l0.length : Int) = (l1.length : Int) then (laws_eqChanS.l0 k l0 l1 0) else (some false)) = some r := h
 clear h
 by_cases c3 : (l0.length : Int) = (l1.length : Int)
 ·rw [if_pos c3] at H
  have c3b0 : ((l0.length : Int) == (l1.length : Int)) = true := beq_iff_eq.mpr c3
  have c3b1 : ((l0.length : Int) != (l1.length : Int)) = false := bne_eq_false_iff_eq.mpr c3
  have c3b2 : (l0.length == l1.length) = true := by first | simpa using c3 | (simp at c3 ⊢;omega)
  clear c3
  have H' := aM_ H
  clear H
  go_enter Try.func65,Try.ntmps65
  go_wp2
  go_loopg [5] k (fun kq v5 w' => ∃ (x5_1 : Int),v5 = .int .i64 x5_1 ∧ Aside0 (laws_eqChanS.l0 kq l0 l1 x5_1 = some r) ∧ Aside0 (kq ≤ k) ∧ Aside0 (Below w.heap.size w w'))
  case atStart => exact ⟨(0),(by first | rfl | (simp;done) | (simp [*];done)),H',⟨Nat.le_refl _⟩,⟨gW_ HB.out⟩⟩
  case round =>
   clear H'
   (try clear c1);(try clear p2);(try clear c3);(try clear c3b0);(try clear c3b1);(try clear c3b2)
   obtain ⟨x5_1,rfl,HA,HK1,HB⟩ := hrel
   cases gk with
   | zero => exact absurd HA.out (by simp [laws_eqChanS.l0])
   | succ k1 =>
    have H := HA.out
    clear HA
    simp only [laws_eqChanS.l0] at H
    by_cases c4 : x5_1 < (l0.length : Int)
    ·rw [if_pos c4] at H
     have c4b0 : decide (x5_1 < (l0.length : Int)) = true := decide_eq_true c4
     clear c4
     by_cases c5 : 0 ≤ x5_1
     ·rw [if_pos c5] at H
      have c5b0 : decide (0 ≤ x5_1) = true := decide_eq_true c5
      clear c5
      by_cases c6 : x5_1 < (l1.length : Int)
      ·rw [if_pos c6] at H
       have c6b0 : decide (x5_1 < (l1.length : Int)) = true := decide_eq_true c6
       clear c6
       replace H := Option.bind_eq_some_iff.mp H
       obtain ⟨t154,A70,H⟩ := H
       replace H : (if t154 = true then (laws_eqChanS.l0 k1 l0 l1 (wrap64 (x5_1 + 1))) else (some false)) = some r := H
       have A7 := aM_ A70
       clear A70
       by_cases c8 : t154 = true
       ·subst c8
        have H1 : (laws_eqChanS.l0 k1 l0 l1 (wrap64 (x5_1 + 1))) = some r := by rw [if_pos rfl] at H;exact H
        clear H
        have H := H1
        clear H1
        have H' := aM_ H
        clear H
        try go_wp2
        replace HB := aM_ (below_drew1 HB.out)
        have p152 : 0 ≤ (x5_1 : Int) := pD_
        have q152 : x5_1 < (l0.length : Int) := pD_
        obtain ⟨ad152,A152_1,c152_1,e152,hx152_0,hx152_1,hx152_2,hl152_1,hi152_1⟩ := at_T94 HR0.out x5_1 p152 q152
        have hw152_2 := hx152_2
        have hw152_1 := hx152_1
        have hw152_0 := hx152_0
        cases e152
        replace hx152_0 := cB_ HB.out hx152_0
        replace hx152_1 := cB_ HB.out hx152_1
        replace hx152_2 := cB_ HB.out hx152_2
        have HR152_1 := aM_ hi152_1
        have HC152_1 := aM_ hl152_1
        clear hi152_1 hl152_1
        replace p152 := eq_true p152
        replace q152 := eq_true q152
        have p153 : 0 ≤ (x5_1 : Int) := pD_
        have q153 : x5_1 < (l1.length : Int) := pD_
        obtain ⟨ad153,A153_1,c153_1,e153,hx153_0,hx153_1,hx153_2,hl153_1,hi153_1⟩ := at_T94 HR1.out x5_1 p153 q153
        have hw153_2 := hx153_2
        have hw153_1 := hx153_1
        have hw153_0 := hx153_0
        cases e153
        replace hx153_0 := cB_ HB.out hx153_0
        replace hx153_1 := cB_ HB.out hx153_1
        replace hx153_2 := cB_ HB.out hx153_2
        have HR153_1 := aM_ hi153_1
        have HC153_1 := aM_ hl153_1
        clear hi153_1 hl153_1
        replace p153 := eq_true p153
        replace q153 := eq_true q153
        refine sTa_ 10 (fun w' => w'.cell? (ad152.add ((x5_1).toNat * 3)) = some (.int .i64 ((rd_T94 l0 x5_1).f0)) ∧ w'.cell? ⟨(ad152.add ((x5_1).toNat * 3)).block,(ad152.add ((x5_1).toNat * 3)).off + 1,none⟩ = some (.slice A152_1 ((rd_T94 l0 x5_1).f1).length c152_1) ∧ w'.cell? ⟨(ad152.add ((x5_1).toNat * 3)).block,(ad152.add ((x5_1).toNat * 3)).off + 2,none⟩ = some (.bool ((rd_T94 l0 x5_1).f2)) ∧ w'.cell? (ad153.add ((x5_1).toNat * 3)) = some (.int .i64 ((rd_T94 l1 x5_1).f0)) ∧ w'.cell? ⟨(ad153.add ((x5_1).toNat * 3)).block,(ad153.add ((x5_1).toNat * 3)).off + 1,none⟩ = some (.slice A153_1 ((rd_T94 l1 x5_1).f1).length c153_1) ∧ w'.cell? ⟨(ad153.add ((x5_1).toNat * 3)).block,(ad153.add ((x5_1).toNat * 3)).off + 2,none⟩ = some (.bool ((rd_T94 l1 x5_1).f2))) [] ⟨(cB_ HB.out hw152_0 :),(cB_ HB.out hw152_1 :),(cB_ HB.out hw152_2 :),(cB_ HB.out hw153_0 :),(cB_ HB.out hw153_1 :),(cB_ HB.out hw153_2 :)⟩ (fun hHeld => ?_);refine with_tabW laws_eqChanS.tab6 laws_eqChanS.bits6 (fun HT_ HW_ => ?_)
        generalize wr.drew = w9 at HB HR152_1 HR153_1 hx152_0 hx152_1 hx152_2 hx153_0 hx153_1 hx153_2 hHeld ⊢
        refine jU_ 0 17 10 1 ?_
        refine jU_ 1 18 10 3 ?_
        refine jU_ 2 19 10 7 ?_
        refine jU_ 4 21 10 23 ?_
        refine jU_ 5 22 10 55 ?_
        refine jU_ 6 23 10 119 ?_
        refine jK6_ 3 20 10 127 ?_
        refine jK6_ 7 24 10 255 ?_
        refine jN_ 8 25 10 511 (fun K hK => ?_)
        refine gO_ Try.func128 #[.agg #[.int .i64 ((rd_T94 l0 x5_1).f0),.slice A152_1 ((rd_T94 l0 x5_1).f1).length c152_1,.bool ((rd_T94 l0 x5_1).f2)],.agg #[.int .i64 ((rd_T94 l1 x5_1).f0),.slice A153_1 ((rd_T94 l1 x5_1).f1).length c153_1,.bool ((rd_T94 l1 x5_1).f2)]] ?_
        with_reducible refine (laws_eqChan.calls k1 ((rd_T94 l0 x5_1).f0) _ _ ((rd_T94 l0 x5_1).f1) ((rd_T94 l0 x5_1).f2) ((rd_T94 l1 x5_1).f0) _ _ ((rd_T94 l1 x5_1).f1) ((rd_T94 l1 x5_1).f2) true _ ?side1 ?side2 ?side3 ?side4 A7.out).mono ?_
        (case side1 => exact cS_ (Kd.C_below HR152_1.out HB.out))
        (case side2 => exact HC152_1.out)
        (case side3 => exact cS_ (Kd.C_below HR153_1.out HB.out))
        (case side4 => exact HC153_1.out)
        rintro e w10 ⟨rfl,hb⟩
        refine ⟨_,rfl,?_⟩
        replace HB := aM_ (sT_ HB.out hb)
        (try clear hb)
        (try clear hb2)
        (try clear hk)
        (try clear hi)
        refine kO_ hK (some 25) ⟨(cB_ HB.out hw152_0 :),(cB_ HB.out hw152_1 :),(cB_ HB.out hw152_2 :),(cB_ HB.out hw153_0 :),(cB_ HB.out hw153_1 :),(cB_ HB.out hw153_2 :)⟩ (fun hHeld => ?_)
        clear hK K
        refine jU_ 9 26 10 1023 ?_
        refine done_ (done_of HT_.out (by kernel_rfl)) ?_
        try go_wp2
        go_roundg k1
        case measure => have := HK1.out;omega
        case rel => exact ⟨(wrap64 (x5_1 + 1)),(by first | rfl | (simp;done) | (simp [*];done)),H',⟨by have := HK1.out;omega⟩,⟨gW_ HB.out⟩⟩
       ·replace c8 := Bool.eq_false_iff.mpr c8
        subst c8
        have H1 := hF_ H
        clear H
        have H := H1
        clear H1
        obtain rfl := sJ_ H
        try go_wp2
        replace HB := aM_ (below_drew1 HB.out)
        have p152 : 0 ≤ (x5_1 : Int) := pD_
        have q152 : x5_1 < (l0.length : Int) := pD_
        obtain ⟨ad152,A152_1,c152_1,e152,hx152_0,hx152_1,hx152_2,hl152_1,hi152_1⟩ := at_T94 HR0.out x5_1 p152 q152
        have hw152_2 := hx152_2
        have hw152_1 := hx152_1
        have hw152_0 := hx152_0
        cases e152
        replace hx152_0 := cB_ HB.out hx152_0
        replace hx152_1 := cB_ HB.out hx152_1
        replace hx152_2 := cB_ HB.out hx152_2
        have HR152_1 := aM_ hi152_1
        have HC152_1 := aM_ hl152_1
        clear hi152_1 hl152_1
        replace p152 := eq_true p152
        replace q152 := eq_true q152
        have p153 : 0 ≤ (x5_1 : Int) := pD_
        have q153 : x5_1 < (l1.length : Int) := pD_
        obtain ⟨ad153,A153_1,c153_1,e153,hx153_0,hx153_1,hx153_2,hl153_1,hi153_1⟩ := at_T94 HR1.out x5_1 p153 q153
        have hw153_2 := hx153_2
        have hw153_1 := hx153_1
        have hw153_0 := hx153_0
        cases e153
        replace hx153_0 := cB_ HB.out hx153_0
        replace hx153_1 := cB_ HB.out hx153_1
        replace hx153_2 := cB_ HB.out hx153_2
        have HR153_1 := aM_ hi153_1
        have HC153_1 := aM_ hl153_1
        clear hi153_1 hl153_1
        replace p153 := eq_true p153
        replace q153 := eq_true q153
        refine sTa_ 10 (fun w' => w'.cell? (ad152.add ((x5_1).toNat * 3)) = some (.int .i64 ((rd_T94 l0 x5_1).f0)) ∧ w'.cell? ⟨(ad152.add ((x5_1).toNat * 3)).block,(ad152.add ((x5_1).toNat * 3)).off + 1,none⟩ = some (.slice A152_1 ((rd_T94 l0 x5_1).f1).length c152_1) ∧ w'.cell? ⟨(ad152.add ((x5_1).toNat * 3)).block,(ad152.add ((x5_1).toNat * 3)).off + 2,none⟩ = some (.bool ((rd_T94 l0 x5_1).f2)) ∧ w'.cell? (ad153.add ((x5_1).toNat * 3)) = some (.int .i64 ((rd_T94 l1 x5_1).f0)) ∧ w'.cell? ⟨(ad153.add ((x5_1).toNat * 3)).block,(ad153.add ((x5_1).toNat * 3)).off + 1,none⟩ = some (.slice A153_1 ((rd_T94 l1 x5_1).f1).length c153_1) ∧ w'.cell? ⟨(ad153.add ((x5_1).toNat * 3)).block,(ad153.add ((x5_1).toNat * 3)).off + 2,none⟩ = some (.bool ((rd_T94 l1 x5_1).f2))) [] ⟨(cB_ HB.out hw152_0 :),(cB_ HB.out hw152_1 :),(cB_ HB.out hw152_2 :),(cB_ HB.out hw153_0 :),(cB_ HB.out hw153_1 :),(cB_ HB.out hw153_2 :)⟩ (fun hHeld => ?_);refine with_tabW laws_eqChanS.tab6 laws_eqChanS.bits6 (fun HT_ HW_ => ?_)
        generalize wr.drew = w11 at HB HR152_1 HR153_1 hx152_0 hx152_1 hx152_2 hx153_0 hx153_1 hx153_2 hHeld ⊢
        refine jU_ 0 17 10 1 ?_
        refine jU_ 1 18 10 3 ?_
        refine jU_ 2 19 10 7 ?_
        refine jU_ 4 21 10 23 ?_
        refine jU_ 5 22 10 55 ?_
        refine jU_ 6 23 10 119 ?_
        refine jK6_ 3 20 10 127 ?_
        refine jK6_ 7 24 10 255 ?_
        refine jN_ 8 25 10 511 (fun K hK => ?_)
        refine gO_ Try.func128 #[.agg #[.int .i64 ((rd_T94 l0 x5_1).f0),.slice A152_1 ((rd_T94 l0 x5_1).f1).length c152_1,.bool ((rd_T94 l0 x5_1).f2)],.agg #[.int .i64 ((rd_T94 l1 x5_1).f0),.slice A153_1 ((rd_T94 l1 x5_1).f1).length c153_1,.bool ((rd_T94 l1 x5_1).f2)]] ?_
        with_reducible refine (laws_eqChan.calls k1 ((rd_T94 l0 x5_1).f0) _ _ ((rd_T94 l0 x5_1).f1) ((rd_T94 l0 x5_1).f2) ((rd_T94 l1 x5_1).f0) _ _ ((rd_T94 l1 x5_1).f1) ((rd_T94 l1 x5_1).f2) false _ ?side1 ?side2 ?side3 ?side4 A7.out).mono ?_
        (case side1 => exact cS_ (Kd.C_below HR152_1.out HB.out))
        (case side2 => exact HC152_1.out)
        (case side3 => exact cS_ (Kd.C_below HR153_1.out HB.out))
        (case side4 => exact HC153_1.out)
        rintro e w12 ⟨rfl,hb⟩
        refine ⟨_,rfl,?_⟩
        replace HB := aM_ (sT_ HB.out hb)
        (try clear hb)
        (try clear hb2)
        (try clear hk)
        (try clear hi)
        refine kO_ hK (some 25) ⟨(cB_ HB.out hw152_0 :),(cB_ HB.out hw152_1 :),(cB_ HB.out hw152_2 :),(cB_ HB.out hw153_0 :),(cB_ HB.out hw153_1 :),(cB_ HB.out hw153_2 :)⟩ (fun hHeld => ?_)
        clear hK K
        refine jU_ 9 26 10 1023 ?_
        refine done_ (done_of HT_.out (by kernel_rfl)) ?_
        try go_wp2
        go_ret
        exact fI_ HB.out
      ·rw [if_neg c6] at H
       exact absurd H (by simp)
     ·rw [if_neg c5] at H
      exact absurd H (by simp)
    ·rw [if_neg c4] at H
     have c4b0 : decide (x5_1 < (l0.length : Int)) = false := decide_eq_false c4
     clear c4
     obtain rfl := sJ_ H
     go_wp2
     go_ret
     exact fI_ HB.out
 ·rw [if_neg c3] at H
  have c3b0 : ((l0.length : Int) == (l1.length : Int)) = false := beq_eq_false_iff_ne.mpr c3
  have c3b1 : ((l0.length : Int) != (l1.length : Int)) = true := bne_iff_ne.mpr c3
  have c3b2 : (l0.length == l1.length) = false := by first | simpa using c3 | (simp at c3 ⊢;omega)
  obtain rfl := sJ_ H
  go_enter Try.func65,Try.ntmps65
  go_wp2
  go_ret
  exact fI_ HB.out
def laws_eqNote.f (a0_0 : Int) (a0_1 : Int) (a1_0 : Int) (a1_1 : Int) : Option (Bool) := if a0_0 = a1_0 then (if a0_1 = a1_1 then (some true) else (some false)) else (some false)
set_option maxHeartbeats 8000000 in
theorem laws_eqNote.calls (a0_0 : Int) (a0_1 : Int) (a1_0 : Int) (a1_1 : Int) (r : Bool) (w : World) (h : laws_eqNote.f a0_0 a0_1 a1_0 a1_1 = some r) :
  Calls Try.prog 129 #[.agg #[.int .i64 a0_0,.int .i64 a0_1],.agg #[.int .i64 a1_0,.int .i64 a1_1]] w fun e w' => e = .returned (.bool r) ∧ Below w.heap.size w w' := by
 have hu35 := Try.underlying35
 have HB := aM_ (Below.refl w.heap.size w)
 have H : (if a0_0 = a1_0 then (if a0_1 = a1_1 then (some true) else (some false)) else (some false)) = some r := h
 clear h
 by_cases c3 : a0_0 = a1_0
 ·rw [if_pos c3] at H
  have c3b0 : (a0_0 == a1_0) = true := beq_iff_eq.mpr c3
  have c3b1 : (a0_0 != a1_0) = false := bne_eq_false_iff_eq.mpr c3
  clear c3
  by_cases c4 : a0_1 = a1_1
  ·rw [if_pos c4] at H
   have c4b0 : (a0_1 == a1_1) = true := beq_iff_eq.mpr c4
   have c4b1 : (a0_1 != a1_1) = false := bne_eq_false_iff_eq.mpr c4
   clear c4
   obtain rfl := sJ_ H
   go_enter Try.func129,Try.ntmps129
   go_wp2_with (first | (refine bX_ 2 (cs := #[.int .i64 a0_0,.int .i64 a0_1]) (t := 35) ?_;intro gb155 hg w5 hbox hb;have BK155 := aM_ (hbox);have GE155 := aM_ (sZ_ hg HB.out);replace HB := aM_ (sT_ HB.out hb);clear hb hbox hg) | (refine bX_ 3 (cs := #[.int .i64 a1_0,.int .i64 a1_1]) (t := 35) ?_;intro gb156 hg w6 hbox hb;have BK156 := aM_ (hbox);have GE156 := aM_ (sZ_ hg HB.out);have NB155_156 := aM_ (nL_ hg BK155.out);have NB156_155 := aM_ (nG_ hg BK155.out);replace BK155 := aM_ (nB_ BK155.out hb);replace HB := aM_ (sT_ HB.out hb);clear hb hbox hg;have hnb7 := nn_ NB155_156 NB156_155;have z_8 := bR2_ BK155.out;have z_9 := bR2_ BK156.out))
   go_ret
   exact fI_ HB.out
  ·rw [if_neg c4] at H
   have c4b0 : (a0_1 == a1_1) = false := beq_eq_false_iff_ne.mpr c4
   have c4b1 : (a0_1 != a1_1) = true := bne_iff_ne.mpr c4
   obtain rfl := sJ_ H
   go_enter Try.func129,Try.ntmps129
   go_wp2_with (first | (refine bX_ 2 (cs := #[.int .i64 a0_0,.int .i64 a0_1]) (t := 35) ?_;intro gb155 hg w10 hbox hb;have BK155 := aM_ (hbox);have GE155 := aM_ (sZ_ hg HB.out);replace HB := aM_ (sT_ HB.out hb);clear hb hbox hg) | (refine bX_ 3 (cs := #[.int .i64 a1_0,.int .i64 a1_1]) (t := 35) ?_;intro gb156 hg w11 hbox hb;have BK156 := aM_ (hbox);have GE156 := aM_ (sZ_ hg HB.out);have NB155_156 := aM_ (nL_ hg BK155.out);have NB156_155 := aM_ (nG_ hg BK155.out);replace BK155 := aM_ (nB_ BK155.out hb);replace HB := aM_ (sT_ HB.out hb);clear hb hbox hg;have hnb12 := nn_ NB155_156 NB156_155;have z_13 := bR2_ BK155.out;have z_14 := bR2_ BK156.out))
   go_ret
   exact fI_ HB.out
 ·rw [if_neg c3] at H
  have c3b0 : (a0_0 == a1_0) = false := beq_eq_false_iff_ne.mpr c3
  have c3b1 : (a0_0 != a1_0) = true := bne_iff_ne.mpr c3
  obtain rfl := sJ_ H
  go_enter Try.func129,Try.ntmps129
  go_wp2_with (first | (refine bX_ 2 (cs := #[.int .i64 a0_0,.int .i64 a0_1]) (t := 35) ?_;intro gb155 hg w15 hbox hb;have BK155 := aM_ (hbox);have GE155 := aM_ (sZ_ hg HB.out);replace HB := aM_ (sT_ HB.out hb);clear hb hbox hg) | (refine bX_ 3 (cs := #[.int .i64 a1_0,.int .i64 a1_1]) (t := 35) ?_;intro gb156 hg w16 hbox hb;have BK156 := aM_ (hbox);have GE156 := aM_ (sZ_ hg HB.out);have NB155_156 := aM_ (nL_ hg BK155.out);have NB156_155 := aM_ (nG_ hg BK155.out);replace BK155 := aM_ (nB_ BK155.out hb);replace HB := aM_ (sT_ HB.out hb);clear hb hbox hg;have hnb17 := nn_ NB155_156 NB156_155;have z_18 := bR2_ BK155.out;have z_19 := bR2_ BK156.out))
  go_ret
  exact fI_ HB.out
def laws_eqNoteS.l0 : Nat → List (S35) → List (S35) → Int → Option (Bool)
  | 0,_,_,_ => none
  | k + 1,x0,x1,x5 => if x5 < (x0.length : Int) then (if 0 ≤ x5 then (if x5 < (x1.length : Int) then ((laws_eqNote.f ((rd_T35 x0 x5).f0) ((rd_T35 x0 x5).f1) ((rd_T35 x1 x5).f0) ((rd_T35 x1 x5).f1)).bind fun t159 => (if t159 = true then (laws_eqNoteS.l0 k x0 x1 (wrap64 (x5 + 1))) else (some false))) else (none)) else (none)) else (some true)
def laws_eqNoteS.f (k : Nat) (l0 : List (S35)) (l1 : List (S35)) : Option (Bool) := if (l0.length : Int) = (l1.length : Int) then (laws_eqNoteS.l0 k l0 l1 0) else (some false)
def laws_eqNoteS.T6 : Bool × List (List Nat × List Nat) := (true,[([],[]),([],[]),([0,1],[0,1]),([2],[2]),([],[]),([],[]),([4,5],[4,5]),([6],[6]),([3,7],[3,7]),([8],[8])])
def laws_eqNoteS.B6 : List Nat := [0,0,3,7,0,0,48,112,255,511]
theorem laws_eqNoteS.tab6 : rtab .any (opsOf Try.f66 6) = laws_eqNoteS.T6 := by kernel_rfl
theorem laws_eqNoteS.bits6 : waitsOk laws_eqNoteS.T6.2 laws_eqNoteS.B6 = true := by kernel_rfl
set_option maxHeartbeats 8000000 in
theorem laws_eqNoteS.calls (k : Nat) (A0 : Option Addr) (c0 : Nat) (l0 : List (S35)) (A1 : Option Addr) (c1 : Nat) (l1 : List (S35)) (r : Bool) (w : World) (hr0 : Kd.C k35 w A0 l0.length l0) (hc0 : l0.length ≤ c0) (hr1 : Kd.C k35 w A1 l1.length l1) (hc1 : l1.length ≤ c1) (h : laws_eqNoteS.f k l0 l1 = some r) :
  Calls Try.prog 66 #[.slice A0 l0.length c0,.slice A1 l1.length c1] w fun e w' => e = .returned (.bool r) ∧ Below w.heap.size w w' := by
 have hu35 := Try.underlying35
 have HR0 := aM_ hr0
 have HC0 := aM_ hc0
 clear hr0 hc0
 have HR1 := aM_ hr1
 have HC1 := aM_ hc1
 clear hr1 hc1
 have HB := aM_ (Below.refl w.heap.size w)
 have H : (if (l0.length : Int) = (l1.length : Int) then (laws_eqNoteS.l0 k l0 l1 0) else (some false)) = some r := h
 clear h
 by_cases c3 : (l0.length : Int) = (l1.length : Int)
 ·rw [if_pos c3] at H
  have c3b0 : ((l0.length : Int) == (l1.length : Int)) = true := beq_iff_eq.mpr c3
  have c3b1 : ((l0.length : Int) != (l1.length : Int)) = false := bne_eq_false_iff_eq.mpr c3
  have c3b2 : (l0.length == l1.length) = true := by first | simpa using c3 | (simp at c3 ⊢;omega)
  clear c3
  have H' := aM_ H
  clear H
  go_enter Try.func66,Try.ntmps66
  go_wp2
  go_loopg [5] k (fun kq v5 w' => ∃ (x5_1 : Int),v5 = .int .i64 x5_1 ∧ Aside0 (laws_eqNoteS.l0 kq l0 l1 x5_1 = some r) ∧ Aside0 (kq ≤ k) ∧ Aside0 (Below w.heap.size w w'))
  case atStart => exact ⟨(0),(by first | rfl | (simp;done) | (simp [*];done)),H',⟨Nat.le_refl _⟩,⟨gW_ HB.out⟩⟩
  case round =>
   clear H'
   (try clear c1);(try clear p2);(try clear c3);(try clear c3b0);(try clear c3b1);(try clear c3b2)
   obtain ⟨x5_1,rfl,HA,HK1,HB⟩ := hrel
   cases gk with
   | zero => exact absurd HA.out (by simp [laws_eqNoteS.l0])
   | succ k1 =>
    have H := HA.out
    clear HA
    simp only [laws_eqNoteS.l0] at H
    by_cases c4 : x5_1 < (l0.length : Int)
    ·rw [if_pos c4] at H
     have c4b0 : decide (x5_1 < (l0.length : Int)) = true := decide_eq_true c4
     clear c4
     by_cases c5 : 0 ≤ x5_1
     ·rw [if_pos c5] at H
      have c5b0 : decide (0 ≤ x5_1) = true := decide_eq_true c5
      clear c5
      by_cases c6 : x5_1 < (l1.length : Int)
      ·rw [if_pos c6] at H
       have c6b0 : decide (x5_1 < (l1.length : Int)) = true := decide_eq_true c6
       clear c6
       replace H := Option.bind_eq_some_iff.mp H
       obtain ⟨t159,A70,H⟩ := H
       replace H : (if t159 = true then (laws_eqNoteS.l0 k1 l0 l1 (wrap64 (x5_1 + 1))) else (some false)) = some r := H
       have A7 := aM_ A70
       clear A70
       by_cases c8 : t159 = true
       ·subst c8
        have H1 : (laws_eqNoteS.l0 k1 l0 l1 (wrap64 (x5_1 + 1))) = some r := by rw [if_pos rfl] at H;exact H
        clear H
        have H := H1
        clear H1
        have H' := aM_ H
        clear H
        try go_wp2
        replace HB := aM_ (below_drew1 HB.out)
        have p157 : 0 ≤ (x5_1 : Int) := pD_
        have q157 : x5_1 < (l0.length : Int) := pD_
        obtain ⟨ad157,e157,hx157_0,hx157_1⟩ := at_T35 HR0.out x5_1 p157 q157
        have hw157_1 := hx157_1
        have hw157_0 := hx157_0
        cases e157
        replace hx157_0 := cB_ HB.out hx157_0
        replace hx157_1 := cB_ HB.out hx157_1
        replace p157 := eq_true p157
        replace q157 := eq_true q157
        have p158 : 0 ≤ (x5_1 : Int) := pD_
        have q158 : x5_1 < (l1.length : Int) := pD_
        obtain ⟨ad158,e158,hx158_0,hx158_1⟩ := at_T35 HR1.out x5_1 p158 q158
        have hw158_1 := hx158_1
        have hw158_0 := hx158_0
        cases e158
        replace hx158_0 := cB_ HB.out hx158_0
        replace hx158_1 := cB_ HB.out hx158_1
        replace p158 := eq_true p158
        replace q158 := eq_true q158
        refine sTa_ 10 (fun w' => w'.cell? (ad157.add ((x5_1).toNat * 2)) = some (.int .i64 ((rd_T35 l0 x5_1).f0)) ∧ w'.cell? ⟨(ad157.add ((x5_1).toNat * 2)).block,(ad157.add ((x5_1).toNat * 2)).off + 1,none⟩ = some (.int .i64 ((rd_T35 l0 x5_1).f1)) ∧ w'.cell? (ad158.add ((x5_1).toNat * 2)) = some (.int .i64 ((rd_T35 l1 x5_1).f0)) ∧ w'.cell? ⟨(ad158.add ((x5_1).toNat * 2)).block,(ad158.add ((x5_1).toNat * 2)).off + 1,none⟩ = some (.int .i64 ((rd_T35 l1 x5_1).f1))) [] ⟨(cB_ HB.out hw157_0 :),(cB_ HB.out hw157_1 :),(cB_ HB.out hw158_0 :),(cB_ HB.out hw158_1 :)⟩ (fun hHeld => ?_);refine with_tabW laws_eqNoteS.tab6 laws_eqNoteS.bits6 (fun HT_ HW_ => ?_)
        generalize wr.drew = w9 at HB hx157_0 hx157_1 hx158_0 hx158_1 hHeld ⊢
        refine jU_ 0 17 10 1 ?_
        refine jU_ 1 18 10 3 ?_
        refine jU_ 2 19 10 7 ?_
        refine jU_ 4 21 10 23 ?_
        refine jU_ 5 22 10 55 ?_
        refine jU_ 6 23 10 119 ?_
        refine jK4_ 3 20 10 127 ?_
        refine jK4_ 7 24 10 255 ?_
        refine jN_ 8 25 10 511 (fun K hK => ?_)
        refine gO_ Try.func129 #[.agg #[.int .i64 ((rd_T35 l0 x5_1).f0),.int .i64 ((rd_T35 l0 x5_1).f1)],.agg #[.int .i64 ((rd_T35 l1 x5_1).f0),.int .i64 ((rd_T35 l1 x5_1).f1)]] ?_
        with_reducible refine (laws_eqNote.calls ((rd_T35 l0 x5_1).f0) ((rd_T35 l0 x5_1).f1) ((rd_T35 l1 x5_1).f0) ((rd_T35 l1 x5_1).f1) true _ A7.out).mono ?_
        rintro e w10 ⟨rfl,hb⟩
        refine ⟨_,rfl,?_⟩
        replace HB := aM_ (sT_ HB.out hb)
        (try clear hb)
        (try clear hb2)
        (try clear hk)
        (try clear hi)
        refine kO_ hK (some 25) ⟨(cB_ HB.out hw157_0 :),(cB_ HB.out hw157_1 :),(cB_ HB.out hw158_0 :),(cB_ HB.out hw158_1 :)⟩ (fun hHeld => ?_)
        clear hK K
        refine jU_ 9 26 10 1023 ?_
        refine done_ (done_of HT_.out (by kernel_rfl)) ?_
        try go_wp2
        go_roundg k1
        case measure => have := HK1.out;omega
        case rel => exact ⟨(wrap64 (x5_1 + 1)),(by first | rfl | (simp;done) | (simp [*];done)),H',⟨by have := HK1.out;omega⟩,⟨gW_ HB.out⟩⟩
       ·replace c8 := Bool.eq_false_iff.mpr c8
        subst c8
        have H1 := hF_ H
        clear H
        have H := H1
        clear H1
        obtain rfl := sJ_ H
        try go_wp2
        replace HB := aM_ (below_drew1 HB.out)
        have p157 : 0 ≤ (x5_1 : Int) := pD_
        have q157 : x5_1 < (l0.length : Int) := pD_
        obtain ⟨ad157,e157,hx157_0,hx157_1⟩ := at_T35 HR0.out x5_1 p157 q157
        have hw157_1 := hx157_1
        have hw157_0 := hx157_0
        cases e157
        replace hx157_0 := cB_ HB.out hx157_0
        replace hx157_1 := cB_ HB.out hx157_1
        replace p157 := eq_true p157
        replace q157 := eq_true q157
        have p158 : 0 ≤ (x5_1 : Int) := pD_
        have q158 : x5_1 < (l1.length : Int) := pD_
        obtain ⟨ad158,e158,hx158_0,hx158_1⟩ := at_T35 HR1.out x5_1 p158 q158
        have hw158_1 := hx158_1
        have hw158_0 := hx158_0
        cases e158
        replace hx158_0 := cB_ HB.out hx158_0
        replace hx158_1 := cB_ HB.out hx158_1
        replace p158 := eq_true p158
        replace q158 := eq_true q158
        refine sTa_ 10 (fun w' => w'.cell? (ad157.add ((x5_1).toNat * 2)) = some (.int .i64 ((rd_T35 l0 x5_1).f0)) ∧ w'.cell? ⟨(ad157.add ((x5_1).toNat * 2)).block,(ad157.add ((x5_1).toNat * 2)).off + 1,none⟩ = some (.int .i64 ((rd_T35 l0 x5_1).f1)) ∧ w'.cell? (ad158.add ((x5_1).toNat * 2)) = some (.int .i64 ((rd_T35 l1 x5_1).f0)) ∧ w'.cell? ⟨(ad158.add ((x5_1).toNat * 2)).block,(ad158.add ((x5_1).toNat * 2)).off + 1,none⟩ = some (.int .i64 ((rd_T35 l1 x5_1).f1))) [] ⟨(cB_ HB.out hw157_0 :),(cB_ HB.out hw157_1 :),(cB_ HB.out hw158_0 :),(cB_ HB.out hw158_1 :)⟩ (fun hHeld => ?_);refine with_tabW laws_eqNoteS.tab6 laws_eqNoteS.bits6 (fun HT_ HW_ => ?_)
        generalize wr.drew = w11 at HB hx157_0 hx157_1 hx158_0 hx158_1 hHeld ⊢
        refine jU_ 0 17 10 1 ?_
        refine jU_ 1 18 10 3 ?_
        refine jU_ 2 19 10 7 ?_
        refine jU_ 4 21 10 23 ?_
        refine jU_ 5 22 10 55 ?_
        refine jU_ 6 23 10 119 ?_
        refine jK4_ 3 20 10 127 ?_
        refine jK4_ 7 24 10 255 ?_
        refine jN_ 8 25 10 511 (fun K hK => ?_)
        refine gO_ Try.func129 #[.agg #[.int .i64 ((rd_T35 l0 x5_1).f0),.int .i64 ((rd_T35 l0 x5_1).f1)],.agg #[.int .i64 ((rd_T35 l1 x5_1).f0),.int .i64 ((rd_T35 l1 x5_1).f1)]] ?_
        with_reducible refine (laws_eqNote.calls ((rd_T35 l0 x5_1).f0) ((rd_T35 l0 x5_1).f1) ((rd_T35 l1 x5_1).f0) ((rd_T35 l1 x5_1).f1) false _ A7.out).mono ?_
        rintro e w12 ⟨rfl,hb⟩
        refine ⟨_,rfl,?_⟩
        replace HB := aM_ (sT_ HB.out hb)
        (try clear hb)
        (try clear hb2)
        (try clear hk)
        (try clear hi)
        refine kO_ hK (some 25) ⟨(cB_ HB.out hw157_0 :),(cB_ HB.out hw157_1 :),(cB_ HB.out hw158_0 :),(cB_ HB.out hw158_1 :)⟩ (fun hHeld => ?_)
        clear hK K
        refine jU_ 9 26 10 1023 ?_
        refine done_ (done_of HT_.out (by kernel_rfl)) ?_
        try go_wp2
        go_ret
        exact fI_ HB.out
      ·rw [if_neg c6] at H
       exact absurd H (by simp)
     ·rw [if_neg c5] at H
      exact absurd H (by simp)
    ·rw [if_neg c4] at H
     have c4b0 : decide (x5_1 < (l0.length : Int)) = false := decide_eq_false c4
     clear c4
     obtain rfl := sJ_ H
     go_wp2
     go_ret
     exact fI_ HB.out
 ·rw [if_neg c3] at H
  have c3b0 : ((l0.length : Int) == (l1.length : Int)) = false := beq_eq_false_iff_ne.mpr c3
  have c3b1 : ((l0.length : Int) != (l1.length : Int)) = true := bne_iff_ne.mpr c3
  have c3b2 : (l0.length == l1.length) = false := by first | simpa using c3 | (simp at c3 ⊢;omega)
  obtain rfl := sJ_ H
  go_enter Try.func66,Try.ntmps66
  go_wp2
  go_ret
  exact fI_ HB.out
end Go.Proofs.Ytobachfngmpeiaa.PFnExactAble
