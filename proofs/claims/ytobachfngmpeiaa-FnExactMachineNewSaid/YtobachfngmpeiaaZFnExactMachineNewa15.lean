/- A part of the proof that the law FnExactMachineNew holds for every input. -/
import Derived.Test.YtobachfngmpeiaaZFnExactMachineNewa14
import Derived.Test.YtobachfngmpeiaaZFnExactMachineNews
namespace Go.Proofs.Ytobachfngmpeiaa.PFnExactMachineNew
open Go.RowKit Go.Proofs.YtobachfngmpeiaaW.PrintWords Go.Proofs.YtobachfngmpeiaaW.PrintLast Go.Proofs.YtobachfngmpeiaaW.PrintMore
attribute [local go_sem] max2_int min2_int max_two min_two max_three min_three max_four min_four   -- for this text's walks alone
set_option linter.unusedVariables false
set_option linter.unusedSimpArgs false
def laws_eqWriteS.l0 : Nat → List (S170) → List (S170) → Int → Option (Bool)
  | 0, _, _, _ => none
  | k + 1, x0, x1, x5 => if x5 < (x0.length : Int) then (if 0 ≤ x5 then (if x5 < (x1.length : Int) then ((laws_eqWrite.f k ((rd_T170 x0 x5).f0) ((rd_T170 x0 x5).f1) ((rd_T170 x1 x5).f0) ((rd_T170 x1 x5).f1)).bind fun t311 => (if t311 = true then (laws_eqWriteS.l0 k x0 x1 (wrap64 (x5 + 1))) else (some false))) else (none)) else (none)) else (some true)
def laws_eqWriteS.f (k : Nat) (l0 : List (S170)) (l1 : List (S170)) : Option (Bool) := if (l0.length : Int) = (l1.length : Int) then (laws_eqWriteS.l0 k l0 l1 0) else (some false)
def laws_eqWriteS.T6 : Bool × List (List Nat × List Nat) := (true, [([], []), ([], []), ([0, 1], [0, 1]), ([2], [2]), ([], []), ([], []), ([4, 5], [4, 5]), ([6], [6]), ([3, 7], [3, 7]), ([8], [8])])
def laws_eqWriteS.B6 : List Nat := [0, 0, 3, 7, 0, 0, 48, 112, 255, 511]
theorem laws_eqWriteS.tab6 : rtab .any (opsOf Try.f168 6) = laws_eqWriteS.T6 := by kernel_rfl
theorem laws_eqWriteS.bits6 : waitsOk laws_eqWriteS.T6.2 laws_eqWriteS.B6 = true := by kernel_rfl
set_option maxHeartbeats 8000000 in
set_option maxRecDepth 100000 in
theorem laws_eqWriteS.calls (k : Nat) (A0 : Option Addr) (c0 : Nat) (l0 : List (S170)) (A1 : Option Addr) (c1 : Nat) (l1 : List (S170)) (r : Bool) (w : World) (hr0 : Kd.C k170 w A0 l0.length l0) (hc0 : l0.length ≤ c0) (hr1 : Kd.C k170 w A1 l1.length l1) (hc1 : l1.length ≤ c1) (h : laws_eqWriteS.f k l0 l1 = some r) :
  Calls Try.prog 168 #[.slice A0 l0.length c0, .slice A1 l1.length c1] w fun e w' => e = .returned (.bool r) ∧ Below w.heap.size w w' := by
 have hu170 := Try.underlying170
 have HR0 := aM_ hr0
 have HC0 := aM_ hc0
 clear hr0 hc0
 have HR1 := aM_ hr1
 have HC1 := aM_ hc1
 clear hr1 hc1
 have HB := aM_ (Below.refl w.heap.size w)
 have H : (if (l0.length : Int) = (l1.length : Int) then (laws_eqWriteS.l0 k l0 l1 0) else (some false)) = some r := h
 clear h
 by_cases c3 : (l0.length : Int) = (l1.length : Int)
 ·rw [if_pos c3] at H
  have c3b0 : ((l0.length : Int) == (l1.length : Int)) = true := beq_iff_eq.mpr c3
  have c3b1 : ((l0.length : Int) != (l1.length : Int)) = false := bne_eq_false_iff_eq.mpr c3
  have c3b2 : (l0.length == l1.length) = true := by first | simpa using c3 | (simp at c3 ⊢; omega)
  clear c3
  have H' := aM_ H
  clear H
  go_enter Try.func168, Try.ntmps168
  go_wp2
  go_loopg [5] k (fun kq v5 w' => ∃ (x5_1 : Int), v5 = .int .i64 x5_1 ∧ Aside0 (laws_eqWriteS.l0 kq l0 l1 x5_1 = some r) ∧ Aside0 (kq ≤ k) ∧ Aside0 (Below w.heap.size w w'))
  case atStart => exact ⟨(0), (by first | rfl | (simp; done) | (simp [*]; done)), H', ⟨Nat.le_refl _⟩, ⟨gW_ HB.out⟩⟩
  case round =>
   clear H'
   try clear c1
   try clear p2
   try clear c3
   try clear c3b0
   try clear c3b1
   try clear c3b2
   obtain ⟨x5_1, rfl, HA, HK1, HB⟩ := hrel
   cases gk with
   | zero => exact absurd HA.out (by simp [laws_eqWriteS.l0])
   | succ k1 =>
    have H := HA.out
    clear HA
    simp only [laws_eqWriteS.l0] at H
    by_cases c4 : x5_1 < (l0.length : Int)
    ·rw [if_pos c4] at H
     have c4b0 : decide (x5_1 < (l0.length : Int)) = true := decide_eq_true c4
     clear c4
     by_cases c5 : 0 ≤ x5_1
     ·rw [if_pos c5] at H
      have c5b0 : decide (0 ≤ x5_1) = true := decide_eq_true c5
      clear c5
      by_cases c6 : x5_1 < (l1.length : Int)
      ·rw [if_pos c6] at H
       have c6b0 : decide (x5_1 < (l1.length : Int)) = true := decide_eq_true c6
       clear c6
       replace H := Option.bind_eq_some_iff.mp H
       obtain ⟨t311, A70, H⟩ := H
       replace H : (if t311 = true then (laws_eqWriteS.l0 k1 l0 l1 (wrap64 (x5_1 + 1))) else (some false)) = some r := H
       have A7 := aM_ A70
       clear A70
       by_cases c8 : t311 = true
       ·subst c8
        have H1 : (laws_eqWriteS.l0 k1 l0 l1 (wrap64 (x5_1 + 1))) = some r := by rw [if_pos rfl] at H; exact H
        clear H
        have H := H1
        clear H1
        have H' := aM_ H
        clear H
        try go_wp2
        replace HB := aM_ (below_drew1 HB.out)
        have p309 : 0 ≤ (x5_1 : Int) := of_decide_eq_true (by first | (with_reducible assumption) | assumption)
        have q309 : x5_1 < (l0.length : Int) := of_decide_eq_true (by first | (with_reducible assumption) | assumption)
        obtain ⟨ad309, A309_1, c309_1, e309, hx309_0, hx309_1, hl309_1, hi309_1⟩ := at_T170 HR0.out x5_1 p309 q309
        have hw309_1 := hx309_1
        have hw309_0 := hx309_0
        cases e309
        replace hx309_0 := cB_ HB.out hx309_0
        replace hx309_1 := cB_ HB.out hx309_1
        have HR309_1 := aM_ hi309_1
        have HC309_1 := aM_ hl309_1
        clear hi309_1 hl309_1
        replace p309 := eq_true p309
        replace q309 := eq_true q309
        have p310 : 0 ≤ (x5_1 : Int) := of_decide_eq_true (by first | (with_reducible assumption) | assumption)
        have q310 : x5_1 < (l1.length : Int) := of_decide_eq_true (by first | (with_reducible assumption) | assumption)
        obtain ⟨ad310, A310_1, c310_1, e310, hx310_0, hx310_1, hl310_1, hi310_1⟩ := at_T170 HR1.out x5_1 p310 q310
        have hw310_1 := hx310_1
        have hw310_0 := hx310_0
        cases e310
        replace hx310_0 := cB_ HB.out hx310_0
        replace hx310_1 := cB_ HB.out hx310_1
        have HR310_1 := aM_ hi310_1
        have HC310_1 := aM_ hl310_1
        clear hi310_1 hl310_1
        replace p310 := eq_true p310
        replace q310 := eq_true q310
        refine start_ (n := 10) (S := fun w' => w'.cell? (ad309.add ((x5_1).toNat * 2)) = some (.int .i64 ((rd_T170 l0 x5_1).f0)) ∧ w'.cell? ⟨(ad309.add ((x5_1).toNat * 2)).block, (ad309.add ((x5_1).toNat * 2)).off + 1, none⟩ = some (.slice A309_1 ((rd_T170 l0 x5_1).f1).length c309_1) ∧ w'.cell? (ad310.add ((x5_1).toNat * 2)) = some (.int .i64 ((rd_T170 l1 x5_1).f0)) ∧ w'.cell? ⟨(ad310.add ((x5_1).toNat * 2)).block, (ad310.add ((x5_1).toNat * 2)).off + 1, none⟩ = some (.slice A310_1 ((rd_T170 l1 x5_1).f1).length c310_1)) (ds := []) (mk_ 10 0) (by kernel_rfl) rfl rfl ⟨(cB_ HB.out hw309_0 :), (cB_ HB.out hw309_1 :), (cB_ HB.out hw310_0 :), (cB_ HB.out hw310_1 :)⟩ (fun hHeld => ?_); refine with_tabW laws_eqWriteS.tab6 laws_eqWriteS.bits6 (fun HT_ HW_ => ?_)
        generalize wr.drew = w9 at HB HR309_1 HR310_1 hx309_0 hx309_1 hx310_0 hx310_1 hHeld ⊢
        refine pU_ 0 17 (mk_ 10 1) ?_
        refine pU_ 1 18 (mk_ 10 3) ?_
        refine pU_ 2 19 (mk_ 10 7) ?_
        refine pU_ 4 21 (mk_ 10 23) ?_
        refine pU_ 5 22 (mk_ 10 55) ?_
        refine pU_ 6 23 (mk_ 10 119) ?_
        refine tK4_ 3 20 (mk_ 10 127) ?_
        refine tK4_ 7 24 (mk_ 10 255) ?_
        refine oN_ 8 25 (mk_ 10 511) (fun K hK => ?_)
        refine gO_ Try.func189 #[.agg #[.int .i64 ((rd_T170 l0 x5_1).f0), .slice A309_1 ((rd_T170 l0 x5_1).f1).length c309_1], .agg #[.int .i64 ((rd_T170 l1 x5_1).f0), .slice A310_1 ((rd_T170 l1 x5_1).f1).length c310_1]] ?_
        with_reducible refine (laws_eqWrite.calls k1 ((rd_T170 l0 x5_1).f0) _ _ ((rd_T170 l0 x5_1).f1) ((rd_T170 l1 x5_1).f0) _ _ ((rd_T170 l1 x5_1).f1) true _ ?side1 ?side2 ?side3 ?side4 A7.out).mono ?_
        (case side1 => exact cS_ (Kd.C_below HR309_1.out HB.out))
        (case side2 => exact HC309_1.out)
        (case side3 => exact cS_ (Kd.C_below HR310_1.out HB.out))
        (case side4 => exact HC310_1.out)
        rintro e w10 ⟨rfl, hb⟩
        refine ⟨_, rfl, ?_⟩
        replace HB := aM_ (sT_ HB.out hb)
        (try clear hb)
        (try clear hb2)
        (try clear hk)
        (try clear hi)
        refine kO_ hK (some 25) ⟨(cB_ HB.out hw309_0 :), (cB_ HB.out hw309_1 :), (cB_ HB.out hw310_0 :), (cB_ HB.out hw310_1 :)⟩ (fun hHeld => ?_)
        clear hK K
        refine pU_ 9 26 (mk_ 10 1023) ?_
        refine done_ (done_of HT_.out (by kernel_rfl)) ?_
        try go_wp2
        go_roundg k1
        case measure => have := HK1.out; omega
        case rel => exact ⟨(wrap64 (x5_1 + 1)), (by first | rfl | (simp; done) | (simp [*]; done)), H', ⟨by have := HK1.out; omega⟩, ⟨gW_ HB.out⟩⟩
       ·replace c8 := Bool.eq_false_iff.mpr c8
        subst c8
        have H1 : (some false) = some r := by rw [if_neg (show ¬ (false = true) by decide)] at H; exact H
        clear H
        have H := H1
        clear H1
        obtain rfl := Option.some.inj H
        try go_wp2
        replace HB := aM_ (below_drew1 HB.out)
        have p309 : 0 ≤ (x5_1 : Int) := of_decide_eq_true (by first | (with_reducible assumption) | assumption)
        have q309 : x5_1 < (l0.length : Int) := of_decide_eq_true (by first | (with_reducible assumption) | assumption)
        obtain ⟨ad309, A309_1, c309_1, e309, hx309_0, hx309_1, hl309_1, hi309_1⟩ := at_T170 HR0.out x5_1 p309 q309
        have hw309_1 := hx309_1
        have hw309_0 := hx309_0
        cases e309
        replace hx309_0 := cB_ HB.out hx309_0
        replace hx309_1 := cB_ HB.out hx309_1
        have HR309_1 := aM_ hi309_1
        have HC309_1 := aM_ hl309_1
        clear hi309_1 hl309_1
        replace p309 := eq_true p309
        replace q309 := eq_true q309
        have p310 : 0 ≤ (x5_1 : Int) := of_decide_eq_true (by first | (with_reducible assumption) | assumption)
        have q310 : x5_1 < (l1.length : Int) := of_decide_eq_true (by first | (with_reducible assumption) | assumption)
        obtain ⟨ad310, A310_1, c310_1, e310, hx310_0, hx310_1, hl310_1, hi310_1⟩ := at_T170 HR1.out x5_1 p310 q310
        have hw310_1 := hx310_1
        have hw310_0 := hx310_0
        cases e310
        replace hx310_0 := cB_ HB.out hx310_0
        replace hx310_1 := cB_ HB.out hx310_1
        have HR310_1 := aM_ hi310_1
        have HC310_1 := aM_ hl310_1
        clear hi310_1 hl310_1
        replace p310 := eq_true p310
        replace q310 := eq_true q310
        refine start_ (n := 10) (S := fun w' => w'.cell? (ad309.add ((x5_1).toNat * 2)) = some (.int .i64 ((rd_T170 l0 x5_1).f0)) ∧ w'.cell? ⟨(ad309.add ((x5_1).toNat * 2)).block, (ad309.add ((x5_1).toNat * 2)).off + 1, none⟩ = some (.slice A309_1 ((rd_T170 l0 x5_1).f1).length c309_1) ∧ w'.cell? (ad310.add ((x5_1).toNat * 2)) = some (.int .i64 ((rd_T170 l1 x5_1).f0)) ∧ w'.cell? ⟨(ad310.add ((x5_1).toNat * 2)).block, (ad310.add ((x5_1).toNat * 2)).off + 1, none⟩ = some (.slice A310_1 ((rd_T170 l1 x5_1).f1).length c310_1)) (ds := []) (mk_ 10 0) (by kernel_rfl) rfl rfl ⟨(cB_ HB.out hw309_0 :), (cB_ HB.out hw309_1 :), (cB_ HB.out hw310_0 :), (cB_ HB.out hw310_1 :)⟩ (fun hHeld => ?_); refine with_tabW laws_eqWriteS.tab6 laws_eqWriteS.bits6 (fun HT_ HW_ => ?_)
        generalize wr.drew = w11 at HB HR309_1 HR310_1 hx309_0 hx309_1 hx310_0 hx310_1 hHeld ⊢
        refine pU_ 0 17 (mk_ 10 1) ?_
        refine pU_ 1 18 (mk_ 10 3) ?_
        refine pU_ 2 19 (mk_ 10 7) ?_
        refine pU_ 4 21 (mk_ 10 23) ?_
        refine pU_ 5 22 (mk_ 10 55) ?_
        refine pU_ 6 23 (mk_ 10 119) ?_
        refine tK4_ 3 20 (mk_ 10 127) ?_
        refine tK4_ 7 24 (mk_ 10 255) ?_
        refine oN_ 8 25 (mk_ 10 511) (fun K hK => ?_)
        refine gO_ Try.func189 #[.agg #[.int .i64 ((rd_T170 l0 x5_1).f0), .slice A309_1 ((rd_T170 l0 x5_1).f1).length c309_1], .agg #[.int .i64 ((rd_T170 l1 x5_1).f0), .slice A310_1 ((rd_T170 l1 x5_1).f1).length c310_1]] ?_
        with_reducible refine (laws_eqWrite.calls k1 ((rd_T170 l0 x5_1).f0) _ _ ((rd_T170 l0 x5_1).f1) ((rd_T170 l1 x5_1).f0) _ _ ((rd_T170 l1 x5_1).f1) false _ ?side1 ?side2 ?side3 ?side4 A7.out).mono ?_
        (case side1 => exact cS_ (Kd.C_below HR309_1.out HB.out))
        (case side2 => exact HC309_1.out)
        (case side3 => exact cS_ (Kd.C_below HR310_1.out HB.out))
        (case side4 => exact HC310_1.out)
        rintro e w12 ⟨rfl, hb⟩
        refine ⟨_, rfl, ?_⟩
        replace HB := aM_ (sT_ HB.out hb)
        (try clear hb)
        (try clear hb2)
        (try clear hk)
        (try clear hi)
        refine kO_ hK (some 25) ⟨(cB_ HB.out hw309_0 :), (cB_ HB.out hw309_1 :), (cB_ HB.out hw310_0 :), (cB_ HB.out hw310_1 :)⟩ (fun hHeld => ?_)
        clear hK K
        refine pU_ 9 26 (mk_ 10 1023) ?_
        refine done_ (done_of HT_.out (by kernel_rfl)) ?_
        try go_wp2
        go_ret
        exact fI_ HB.out
      ·rw [if_neg c6] at H
       exact absurd H (by simp)
     ·rw [if_neg c5] at H
      exact absurd H (by simp)
    ·rw [if_neg c4] at H
     have c4b0 : decide (x5_1 < (l0.length : Int)) = false := decide_eq_false c4
     clear c4
     obtain rfl := Option.some.inj H
     go_wp2
     go_ret
     exact fI_ HB.out
 ·rw [if_neg c3] at H
  have c3b0 : ((l0.length : Int) == (l1.length : Int)) = false := beq_eq_false_iff_ne.mpr c3
  have c3b1 : ((l0.length : Int) != (l1.length : Int)) = true := bne_iff_ne.mpr c3
  have c3b2 : (l0.length == l1.length) = false := by first | simpa using c3 | (simp at c3 ⊢; omega)
  obtain rfl := Option.some.inj H
  go_enter Try.func168, Try.ntmps168
  go_wp2
  go_ret
  exact fI_ HB.out
def laws_eqWriteSS.l0 : Nat → List (List (S170)) → List (List (S170)) → Int → Option (Bool)
  | 0, _, _, _ => none
  | k + 1, x0, x1, x5 => if x5 < (x0.length : Int) then (if 0 ≤ x5 then (if x5 < (x1.length : Int) then ((laws_eqWriteS.f k (rd_L7 x0 x5) (rd_L7 x1 x5)).bind fun t314 => (if t314 = true then (laws_eqWriteSS.l0 k x0 x1 (wrap64 (x5 + 1))) else (some false))) else (none)) else (none)) else (some true)
def laws_eqWriteSS.f (k : Nat) (l0 : List (List (S170))) (l1 : List (List (S170))) : Option (Bool) := if (l0.length : Int) = (l1.length : Int) then (laws_eqWriteSS.l0 k l0 l1 0) else (some false)
def laws_eqWriteSS.T6 : Bool × List (List Nat × List Nat) := (true, [([], []), ([], []), ([0, 1], [0, 1]), ([2], [2]), ([], []), ([], []), ([4, 5], [4, 5]), ([6], [6]), ([3, 7], [3, 7]), ([8], [8])])
def laws_eqWriteSS.B6 : List Nat := [0, 0, 3, 7, 0, 0, 48, 112, 255, 511]
theorem laws_eqWriteSS.tab6 : rtab .any (opsOf Try.f139 6) = laws_eqWriteSS.T6 := by kernel_rfl
theorem laws_eqWriteSS.bits6 : waitsOk laws_eqWriteSS.T6.2 laws_eqWriteSS.B6 = true := by kernel_rfl
set_option maxHeartbeats 8000000 in
set_option maxRecDepth 100000 in
theorem laws_eqWriteSS.calls (k : Nat) (A0 : Option Addr) (c0 : Nat) (l0 : List (List (S170))) (A1 : Option Addr) (c1 : Nat) (l1 : List (List (S170))) (r : Bool) (w : World) (hr0 : Kd.C (Kd.slice 170 k170) w A0 l0.length l0) (hc0 : l0.length ≤ c0) (hr1 : Kd.C (Kd.slice 170 k170) w A1 l1.length l1) (hc1 : l1.length ≤ c1) (h : laws_eqWriteSS.f k l0 l1 = some r) :
  Calls Try.prog 139 #[.slice A0 l0.length c0, .slice A1 l1.length c1] w fun e w' => e = .returned (.bool r) ∧ Below w.heap.size w w' := by
 have HR0 := aM_ hr0
 have HC0 := aM_ hc0
 clear hr0 hc0
 have HR1 := aM_ hr1
 have HC1 := aM_ hc1
 clear hr1 hc1
 have HB := aM_ (Below.refl w.heap.size w)
 have H : (if (l0.length : Int) = (l1.length : Int) then (laws_eqWriteSS.l0 k l0 l1 0) else (some false)) = some r := h
 clear h
 by_cases c3 : (l0.length : Int) = (l1.length : Int)
 ·rw [if_pos c3] at H
  have c3b0 : ((l0.length : Int) == (l1.length : Int)) = true := beq_iff_eq.mpr c3
  have c3b1 : ((l0.length : Int) != (l1.length : Int)) = false := bne_eq_false_iff_eq.mpr c3
  have c3b2 : (l0.length == l1.length) = true := by first | simpa using c3 | (simp at c3 ⊢; omega)
  clear c3
  have H' := aM_ H
  clear H
  go_enter Try.func139, Try.ntmps139
  go_wp2
  go_loopg [5] k (fun kq v5 w' => ∃ (x5_1 : Int), v5 = .int .i64 x5_1 ∧ Aside0 (laws_eqWriteSS.l0 kq l0 l1 x5_1 = some r) ∧ Aside0 (kq ≤ k) ∧ Aside0 (Below w.heap.size w w'))
  case atStart => exact ⟨(0), (by first | rfl | (simp; done) | (simp [*]; done)), H', ⟨Nat.le_refl _⟩, ⟨gW_ HB.out⟩⟩
  case round =>
   clear H'
   try clear c1
   try clear p2
   try clear c3
   try clear c3b0
   try clear c3b1
   try clear c3b2
   obtain ⟨x5_1, rfl, HA, HK1, HB⟩ := hrel
   cases gk with
   | zero => exact absurd HA.out (by simp [laws_eqWriteSS.l0])
   | succ k1 =>
    have H := HA.out
    clear HA
    simp only [laws_eqWriteSS.l0] at H
    by_cases c4 : x5_1 < (l0.length : Int)
    ·rw [if_pos c4] at H
     have c4b0 : decide (x5_1 < (l0.length : Int)) = true := decide_eq_true c4
     clear c4
     by_cases c5 : 0 ≤ x5_1
     ·rw [if_pos c5] at H
      have c5b0 : decide (0 ≤ x5_1) = true := decide_eq_true c5
      clear c5
      by_cases c6 : x5_1 < (l1.length : Int)
      ·rw [if_pos c6] at H
       have c6b0 : decide (x5_1 < (l1.length : Int)) = true := decide_eq_true c6
       clear c6
       replace H := Option.bind_eq_some_iff.mp H
       obtain ⟨t314, A70, H⟩ := H
       replace H : (if t314 = true then (laws_eqWriteSS.l0 k1 l0 l1 (wrap64 (x5_1 + 1))) else (some false)) = some r := H
       have A7 := aM_ A70
       clear A70
       by_cases c8 : t314 = true
       ·subst c8
        have H1 : (laws_eqWriteSS.l0 k1 l0 l1 (wrap64 (x5_1 + 1))) = some r := by rw [if_pos rfl] at H; exact H
        clear H
        have H := H1
        clear H1
        have H' := aM_ H
        clear H
        try go_wp2
        replace HB := aM_ (below_drew1 HB.out)
        have p312 : 0 ≤ (x5_1 : Int) := of_decide_eq_true (by first | (with_reducible assumption) | assumption)
        have q312 : x5_1 < (l0.length : Int) := of_decide_eq_true (by first | (with_reducible assumption) | assumption)
        obtain ⟨ad312, A312_0, c312_0, e312, hx312_0, hl312_0, hi312_0⟩ := at_L7 HR0.out x5_1 p312 q312
        have hw312_0 := hx312_0
        cases e312
        replace hx312_0 := cB_ HB.out hx312_0
        have HR312_0 := aM_ hi312_0
        have HC312_0 := aM_ hl312_0
        clear hi312_0 hl312_0
        replace p312 := eq_true p312
        replace q312 := eq_true q312
        have p313 : 0 ≤ (x5_1 : Int) := of_decide_eq_true (by first | (with_reducible assumption) | assumption)
        have q313 : x5_1 < (l1.length : Int) := of_decide_eq_true (by first | (with_reducible assumption) | assumption)
        obtain ⟨ad313, A313_0, c313_0, e313, hx313_0, hl313_0, hi313_0⟩ := at_L7 HR1.out x5_1 p313 q313
        have hw313_0 := hx313_0
        cases e313
        replace hx313_0 := cB_ HB.out hx313_0
        have HR313_0 := aM_ hi313_0
        have HC313_0 := aM_ hl313_0
        clear hi313_0 hl313_0
        replace p313 := eq_true p313
        replace q313 := eq_true q313
        refine start_ (n := 10) (S := fun w' => w'.cell? (ad312.add (x5_1).toNat) = some (.slice A312_0 (rd_L7 l0 x5_1).length c312_0) ∧ w'.cell? (ad313.add (x5_1).toNat) = some (.slice A313_0 (rd_L7 l1 x5_1).length c313_0)) (ds := []) (mk_ 10 0) (by kernel_rfl) rfl rfl ⟨(cB_ HB.out hw312_0 :), (cB_ HB.out hw313_0 :)⟩ (fun hHeld => ?_); refine with_tabW laws_eqWriteSS.tab6 laws_eqWriteSS.bits6 (fun HT_ HW_ => ?_)
        generalize wr.drew = w9 at HB HR312_0 HR313_0 hx312_0 hx313_0 hHeld ⊢
        refine pU_ 0 17 (mk_ 10 1) ?_
        refine pU_ 1 18 (mk_ 10 3) ?_
        refine pU_ 2 19 (mk_ 10 7) ?_
        refine pU_ 4 21 (mk_ 10 23) ?_
        refine pU_ 5 22 (mk_ 10 55) ?_
        refine pU_ 6 23 (mk_ 10 119) ?_
        refine tK2_ 3 20 (mk_ 10 127) ?_
        refine tK2_ 7 24 (mk_ 10 255) ?_
        refine oN_ 8 25 (mk_ 10 511) (fun K hK => ?_)
        refine gO_ Try.func168 #[.slice A312_0 (rd_L7 l0 x5_1).length c312_0, .slice A313_0 (rd_L7 l1 x5_1).length c313_0] ?_
        with_reducible refine (laws_eqWriteS.calls k1 _ _ (rd_L7 l0 x5_1) _ _ (rd_L7 l1 x5_1) true _ ?side1 ?side2 ?side3 ?side4 A7.out).mono ?_
        (case side1 => exact cS_ (Kd.C_below HR312_0.out HB.out))
        (case side2 => exact HC312_0.out)
        (case side3 => exact cS_ (Kd.C_below HR313_0.out HB.out))
        (case side4 => exact HC313_0.out)
        rintro e w10 ⟨rfl, hb⟩
        refine ⟨_, rfl, ?_⟩
        replace HB := aM_ (sT_ HB.out hb)
        (try clear hb)
        (try clear hb2)
        (try clear hk)
        (try clear hi)
        refine kO_ hK (some 25) ⟨(cB_ HB.out hw312_0 :), (cB_ HB.out hw313_0 :)⟩ (fun hHeld => ?_)
        clear hK K
        refine pU_ 9 26 (mk_ 10 1023) ?_
        refine done_ (done_of HT_.out (by kernel_rfl)) ?_
        try go_wp2
        go_roundg k1
        case measure => have := HK1.out; omega
        case rel => exact ⟨(wrap64 (x5_1 + 1)), (by first | rfl | (simp; done) | (simp [*]; done)), H', ⟨by have := HK1.out; omega⟩, ⟨gW_ HB.out⟩⟩
       ·replace c8 := Bool.eq_false_iff.mpr c8
        subst c8
        have H1 : (some false) = some r := by rw [if_neg (show ¬ (false = true) by decide)] at H; exact H
        clear H
        have H := H1
        clear H1
        obtain rfl := Option.some.inj H
        try go_wp2
        replace HB := aM_ (below_drew1 HB.out)
        have p312 : 0 ≤ (x5_1 : Int) := of_decide_eq_true (by first | (with_reducible assumption) | assumption)
        have q312 : x5_1 < (l0.length : Int) := of_decide_eq_true (by first | (with_reducible assumption) | assumption)
        obtain ⟨ad312, A312_0, c312_0, e312, hx312_0, hl312_0, hi312_0⟩ := at_L7 HR0.out x5_1 p312 q312
        have hw312_0 := hx312_0
        cases e312
        replace hx312_0 := cB_ HB.out hx312_0
        have HR312_0 := aM_ hi312_0
        have HC312_0 := aM_ hl312_0
        clear hi312_0 hl312_0
        replace p312 := eq_true p312
        replace q312 := eq_true q312
        have p313 : 0 ≤ (x5_1 : Int) := of_decide_eq_true (by first | (with_reducible assumption) | assumption)
        have q313 : x5_1 < (l1.length : Int) := of_decide_eq_true (by first | (with_reducible assumption) | assumption)
        obtain ⟨ad313, A313_0, c313_0, e313, hx313_0, hl313_0, hi313_0⟩ := at_L7 HR1.out x5_1 p313 q313
        have hw313_0 := hx313_0
        cases e313
        replace hx313_0 := cB_ HB.out hx313_0
        have HR313_0 := aM_ hi313_0
        have HC313_0 := aM_ hl313_0
        clear hi313_0 hl313_0
        replace p313 := eq_true p313
        replace q313 := eq_true q313
        refine start_ (n := 10) (S := fun w' => w'.cell? (ad312.add (x5_1).toNat) = some (.slice A312_0 (rd_L7 l0 x5_1).length c312_0) ∧ w'.cell? (ad313.add (x5_1).toNat) = some (.slice A313_0 (rd_L7 l1 x5_1).length c313_0)) (ds := []) (mk_ 10 0) (by kernel_rfl) rfl rfl ⟨(cB_ HB.out hw312_0 :), (cB_ HB.out hw313_0 :)⟩ (fun hHeld => ?_); refine with_tabW laws_eqWriteSS.tab6 laws_eqWriteSS.bits6 (fun HT_ HW_ => ?_)
        generalize wr.drew = w11 at HB HR312_0 HR313_0 hx312_0 hx313_0 hHeld ⊢
        refine pU_ 0 17 (mk_ 10 1) ?_
        refine pU_ 1 18 (mk_ 10 3) ?_
        refine pU_ 2 19 (mk_ 10 7) ?_
        refine pU_ 4 21 (mk_ 10 23) ?_
        refine pU_ 5 22 (mk_ 10 55) ?_
        refine pU_ 6 23 (mk_ 10 119) ?_
        refine tK2_ 3 20 (mk_ 10 127) ?_
        refine tK2_ 7 24 (mk_ 10 255) ?_
        refine oN_ 8 25 (mk_ 10 511) (fun K hK => ?_)
        refine gO_ Try.func168 #[.slice A312_0 (rd_L7 l0 x5_1).length c312_0, .slice A313_0 (rd_L7 l1 x5_1).length c313_0] ?_
        with_reducible refine (laws_eqWriteS.calls k1 _ _ (rd_L7 l0 x5_1) _ _ (rd_L7 l1 x5_1) false _ ?side1 ?side2 ?side3 ?side4 A7.out).mono ?_
        (case side1 => exact cS_ (Kd.C_below HR312_0.out HB.out))
        (case side2 => exact HC312_0.out)
        (case side3 => exact cS_ (Kd.C_below HR313_0.out HB.out))
        (case side4 => exact HC313_0.out)
        rintro e w12 ⟨rfl, hb⟩
        refine ⟨_, rfl, ?_⟩
        replace HB := aM_ (sT_ HB.out hb)
        (try clear hb)
        (try clear hb2)
        (try clear hk)
        (try clear hi)
        refine kO_ hK (some 25) ⟨(cB_ HB.out hw312_0 :), (cB_ HB.out hw313_0 :)⟩ (fun hHeld => ?_)
        clear hK K
        refine pU_ 9 26 (mk_ 10 1023) ?_
        refine done_ (done_of HT_.out (by kernel_rfl)) ?_
        try go_wp2
        go_ret
        exact fI_ HB.out
      ·rw [if_neg c6] at H
       exact absurd H (by simp)
     ·rw [if_neg c5] at H
      exact absurd H (by simp)
    ·rw [if_neg c4] at H
     have c4b0 : decide (x5_1 < (l0.length : Int)) = false := decide_eq_false c4
     clear c4
     obtain rfl := Option.some.inj H
     go_wp2
     go_ret
     exact fI_ HB.out
 ·rw [if_neg c3] at H
  have c3b0 : ((l0.length : Int) == (l1.length : Int)) = false := beq_eq_false_iff_ne.mpr c3
  have c3b1 : ((l0.length : Int) != (l1.length : Int)) = true := bne_iff_ne.mpr c3
  have c3b2 : (l0.length == l1.length) = false := by first | simpa using c3 | (simp at c3 ⊢; omega)
  obtain rfl := Option.some.inj H
  go_enter Try.func139, Try.ntmps139
  go_wp2
  go_ret
  exact fI_ HB.out
def laws_eqMemory.f (k : Nat) (l0_0 : List (List (S170))) (l1_0 : List (List (S170))) : Option (Bool) := (laws_eqWriteSS.f k l0_0 l1_0).bind fun t317 => (if t317 = true then (some true) else (some false))
set_option maxHeartbeats 8000000 in
set_option maxRecDepth 100000 in
theorem laws_eqMemory.calls (k : Nat) (A0_0 : Option Addr) (c0_0 : Nat) (l0_0 : List (List (S170))) (A1_0 : Option Addr) (c1_0 : Nat) (l1_0 : List (List (S170))) (r : Bool) (w : World) (hr0_0 : Kd.C (Kd.slice 170 k170) w A0_0 l0_0.length l0_0) (hc0_0 : l0_0.length ≤ c0_0) (hr1_0 : Kd.C (Kd.slice 170 k170) w A1_0 l1_0.length l1_0) (hc1_0 : l1_0.length ≤ c1_0) (h : laws_eqMemory.f k l0_0 l1_0 = some r) :
  Calls Try.prog 83 #[.agg #[.slice A0_0 l0_0.length c0_0], .agg #[.slice A1_0 l1_0.length c1_0]] w fun e w' => e = .returned (.bool r) ∧ Below w.heap.size w w' := by
 have hu57 := Try.underlying57
 have HR0_0 := aM_ hr0_0
 have HC0_0 := aM_ hc0_0
 clear hr0_0 hc0_0
 have HR1_0 := aM_ hr1_0
 have HC1_0 := aM_ hc1_0
 clear hr1_0 hc1_0
 have HB := aM_ (Below.refl w.heap.size w)
 have H : ((laws_eqWriteSS.f k l0_0 l1_0).bind fun t317 => (if t317 = true then (some true) else (some false))) = some r := h
 clear h
 replace H := Option.bind_eq_some_iff.mp H
 obtain ⟨t317, A30, H⟩ := H
 replace H : (if t317 = true then (some true) else (some false)) = some r := H
 have A3 := aM_ A30
 clear A30
 by_cases c4 : t317 = true
 ·subst c4
  have H1 : (some true) = some r := by rw [if_pos rfl] at H; exact H
  clear H
  have H := H1
  clear H1
  obtain rfl := Option.some.inj H
  go_enter Try.func83, Try.ntmps83
  go_wp2_with (first | ((with_reducible refine gate_dst (N := 2) rfl ?_); refine bX_ 2 (cs := #[.slice A0_0 l0_0.length c0_0]) (t := 57) ?_; intro gb315 hg w5 hbox hb; have BK315 := aM_ (hbox); have GE315 := aM_ (sZ_ hg HB.out); replace HB := aM_ (sT_ HB.out hb); clear hb hbox hg) | ((with_reducible refine gate_dst (N := 3) rfl ?_); refine bX_ 3 (cs := #[.slice A1_0 l1_0.length c1_0]) (t := 57) ?_; intro gb316 hg w6 hbox hb; have BK316 := aM_ (hbox); have GE316 := aM_ (sZ_ hg HB.out); have NB315_316 := aM_ (nL_ hg BK315.out); have NB316_315 := aM_ (nG_ hg BK315.out); replace BK315 := aM_ (nB_ BK315.out hb); replace HB := aM_ (sT_ HB.out hb); clear hb hbox hg; have hnb7 := NB315_316.out; have hnc7 := NB316_315.out; have hcz8_0 : w6.cell? ⟨gb315, 0, none⟩ = some (.slice A0_0 l0_0.length c0_0) := (blk_cell BK315.out 0).trans rfl; have hfz8_0 := blk_frozen BK315.out 0; have hcz9_0 : w6.cell? ⟨gb316, 0, none⟩ = some (.slice A1_0 l1_0.length c1_0) := (blk_cell BK316.out 0).trans rfl; have hfz9_0 := blk_frozen BK316.out 0) | ((with_reducible refine gate_callee (f := 139) rfl ?_); refine gL_ (some 9) Try.func139 #[.slice A0_0 l0_0.length c0_0, .slice A1_0 l1_0.length c1_0] ?_; (with_reducible refine (laws_eqWriteSS.calls k _ _ l0_0 _ _ l1_0 true _ ?side1 ?side2 ?side3 ?side4 A3.out).mono ?_); (case side1 => exact cS_ (Kd.C_below HR0_0.out HB.out)); (case side2 => exact HC0_0.out); (case side3 => exact cS_ (Kd.C_below HR1_0.out HB.out)); (case side4 => exact HC1_0.out); rintro e w10 ⟨rfl, hb⟩; refine ⟨_, rfl, ?_⟩; replace BK315 := aM_ (nB_ BK315.out hb); replace BK316 := aM_ (nB_ BK316.out hb); replace HB := aM_ (sT_ HB.out hb)))
  go_ret
  exact fI_ HB.out
 ·replace c4 := Bool.eq_false_iff.mpr c4
  subst c4
  have H1 : (some false) = some r := by rw [if_neg (show ¬ (false = true) by decide)] at H; exact H
  clear H
  have H := H1
  clear H1
  obtain rfl := Option.some.inj H
  go_enter Try.func83, Try.ntmps83
  go_wp2_with (first | ((with_reducible refine gate_dst (N := 2) rfl ?_); refine bX_ 2 (cs := #[.slice A0_0 l0_0.length c0_0]) (t := 57) ?_; intro gb315 hg w11 hbox hb; have BK315 := aM_ (hbox); have GE315 := aM_ (sZ_ hg HB.out); replace HB := aM_ (sT_ HB.out hb); clear hb hbox hg) | ((with_reducible refine gate_dst (N := 3) rfl ?_); refine bX_ 3 (cs := #[.slice A1_0 l1_0.length c1_0]) (t := 57) ?_; intro gb316 hg w12 hbox hb; have BK316 := aM_ (hbox); have GE316 := aM_ (sZ_ hg HB.out); have NB315_316 := aM_ (nL_ hg BK315.out); have NB316_315 := aM_ (nG_ hg BK315.out); replace BK315 := aM_ (nB_ BK315.out hb); replace HB := aM_ (sT_ HB.out hb); clear hb hbox hg; have hnb13 := NB315_316.out; have hnc13 := NB316_315.out; have hcz14_0 : w12.cell? ⟨gb315, 0, none⟩ = some (.slice A0_0 l0_0.length c0_0) := (blk_cell BK315.out 0).trans rfl; have hfz14_0 := blk_frozen BK315.out 0; have hcz15_0 : w12.cell? ⟨gb316, 0, none⟩ = some (.slice A1_0 l1_0.length c1_0) := (blk_cell BK316.out 0).trans rfl; have hfz15_0 := blk_frozen BK316.out 0) | ((with_reducible refine gate_callee (f := 139) rfl ?_); refine gL_ (some 9) Try.func139 #[.slice A0_0 l0_0.length c0_0, .slice A1_0 l1_0.length c1_0] ?_; (with_reducible refine (laws_eqWriteSS.calls k _ _ l0_0 _ _ l1_0 false _ ?side1 ?side2 ?side3 ?side4 A3.out).mono ?_); (case side1 => exact cS_ (Kd.C_below HR0_0.out HB.out)); (case side2 => exact HC0_0.out); (case side3 => exact cS_ (Kd.C_below HR1_0.out HB.out)); (case side4 => exact HC1_0.out); rintro e w16 ⟨rfl, hb⟩; refine ⟨_, rfl, ?_⟩; replace BK315 := aM_ (nB_ BK315.out hb); replace BK316 := aM_ (nB_ BK316.out hb); replace HB := aM_ (sT_ HB.out hb)))
  go_ret
  exact fI_ HB.out
end Go.Proofs.Ytobachfngmpeiaa.PFnExactMachineNew
