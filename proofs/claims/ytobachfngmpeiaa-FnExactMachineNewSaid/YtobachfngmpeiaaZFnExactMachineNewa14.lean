/- A part of the proof that the law FnExactMachineNew holds for every input. -/
import Derived.Test.YtobachfngmpeiaaZFnExactMachineNewa13
import Derived.Test.YtobachfngmpeiaaZFnExactMachineNews
namespace Go.Proofs.Ytobachfngmpeiaa.PFnExactMachineNew
open Go.RowKit Go.Proofs.YtobachfngmpeiaaW.PrintWords Go.Proofs.YtobachfngmpeiaaW.PrintLast Go.Proofs.YtobachfngmpeiaaW.PrintMore
attribute [local go_sem] max2_int min2_int max_two min_two max_three min_three max_four min_four   -- for this text's walks alone
set_option linter.unusedVariables false
set_option linter.unusedSimpArgs false
def laws_eqCoreS.l0 : Nat → List (S123) → List (S123) → Int → Option (Bool)
  | 0, _, _, _ => none
  | k + 1, x0, x1, x5 => if x5 < (x0.length : Int) then (if 0 ≤ x5 then (if x5 < (x1.length : Int) then ((laws_eqCore.f k ((rd_T123 x0 x5).f0) ((rd_T123 x0 x5).f1) ((rd_T123 x0 x5).f2) ((rd_T123 x0 x5).f3) ((rd_T123 x1 x5).f0) ((rd_T123 x1 x5).f1) ((rd_T123 x1 x5).f2) ((rd_T123 x1 x5).f3)).bind fun t305 => (if t305 = true then (laws_eqCoreS.l0 k x0 x1 (wrap64 (x5 + 1))) else (some false))) else (none)) else (none)) else (some true)
def laws_eqCoreS.f (k : Nat) (l0 : List (S123)) (l1 : List (S123)) : Option (Bool) := if (l0.length : Int) = (l1.length : Int) then (laws_eqCoreS.l0 k l0 l1 0) else (some false)
def laws_eqCoreS.T6 : Bool × List (List Nat × List Nat) := (true, [([], []), ([], []), ([0, 1], [0, 1]), ([2], [2]), ([], []), ([], []), ([4, 5], [4, 5]), ([6], [6]), ([3, 7], [3, 7]), ([8], [8])])
def laws_eqCoreS.B6 : List Nat := [0, 0, 3, 7, 0, 0, 48, 112, 255, 511]
theorem laws_eqCoreS.tab6 : rtab .any (opsOf Try.f82 6) = laws_eqCoreS.T6 := by kernel_rfl
theorem laws_eqCoreS.bits6 : waitsOk laws_eqCoreS.T6.2 laws_eqCoreS.B6 = true := by kernel_rfl
set_option maxHeartbeats 8000000 in
set_option maxRecDepth 100000 in
theorem laws_eqCoreS.calls (k : Nat) (A0 : Option Addr) (c0 : Nat) (l0 : List (S123)) (A1 : Option Addr) (c1 : Nat) (l1 : List (S123)) (r : Bool) (w : World) (hr0 : Kd.C k123 w A0 l0.length l0) (hc0 : l0.length ≤ c0) (hr1 : Kd.C k123 w A1 l1.length l1) (hc1 : l1.length ≤ c1) (h : laws_eqCoreS.f k l0 l1 = some r) :
  Calls Try.prog 82 #[.slice A0 l0.length c0, .slice A1 l1.length c1] w fun e w' => e = .returned (.bool r) ∧ Below w.heap.size w w' := by
 have hu123 := Try.underlying123
 have HR0 := aM_ hr0
 have HC0 := aM_ hc0
 clear hr0 hc0
 have HR1 := aM_ hr1
 have HC1 := aM_ hc1
 clear hr1 hc1
 have HB := aM_ (Below.refl w.heap.size w)
 have H : (if (l0.length : Int) = (l1.length : Int) then (laws_eqCoreS.l0 k l0 l1 0) else (some false)) = some r := h
 clear h
 by_cases c3 : (l0.length : Int) = (l1.length : Int)
 ·rw [if_pos c3] at H
  have c3b0 : ((l0.length : Int) == (l1.length : Int)) = true := beq_iff_eq.mpr c3
  have c3b1 : ((l0.length : Int) != (l1.length : Int)) = false := bne_eq_false_iff_eq.mpr c3
  have c3b2 : (l0.length == l1.length) = true := by first | simpa using c3 | (simp at c3 ⊢; omega)
  clear c3
  have H' := aM_ H
  clear H
  go_enter Try.func82, Try.ntmps82
  go_wp2
  go_loopg [5] k (fun kq v5 w' => ∃ (x5_1 : Int), v5 = .int .i64 x5_1 ∧ Aside0 (laws_eqCoreS.l0 kq l0 l1 x5_1 = some r) ∧ Aside0 (kq ≤ k) ∧ Aside0 (Below w.heap.size w w'))
  case atStart => exact ⟨(0), (by first | rfl | (simp; done) | (simp [*]; done)), H', ⟨Nat.le_refl _⟩, ⟨gW_ HB.out⟩⟩
  case round =>
   clear H'
   try clear c1
   try clear p2
   try clear c3
   try clear c3b0
   try clear c3b1
   try clear c3b2
   obtain ⟨x5_1, rfl, HA, HK1, HB⟩ := hrel
   cases gk with
   | zero => exact absurd HA.out (by simp [laws_eqCoreS.l0])
   | succ k1 =>
    have H := HA.out
    clear HA
    simp only [laws_eqCoreS.l0] at H
    by_cases c4 : x5_1 < (l0.length : Int)
    ·rw [if_pos c4] at H
     have c4b0 : decide (x5_1 < (l0.length : Int)) = true := decide_eq_true c4
     clear c4
     by_cases c5 : 0 ≤ x5_1
     ·rw [if_pos c5] at H
      have c5b0 : decide (0 ≤ x5_1) = true := decide_eq_true c5
      clear c5
      by_cases c6 : x5_1 < (l1.length : Int)
      ·rw [if_pos c6] at H
       have c6b0 : decide (x5_1 < (l1.length : Int)) = true := decide_eq_true c6
       clear c6
       replace H := Option.bind_eq_some_iff.mp H
       obtain ⟨t305, A70, H⟩ := H
       replace H : (if t305 = true then (laws_eqCoreS.l0 k1 l0 l1 (wrap64 (x5_1 + 1))) else (some false)) = some r := H
       have A7 := aM_ A70
       clear A70
       by_cases c8 : t305 = true
       ·subst c8
        have H1 : (laws_eqCoreS.l0 k1 l0 l1 (wrap64 (x5_1 + 1))) = some r := by rw [if_pos rfl] at H; exact H
        clear H
        have H := H1
        clear H1
        have H' := aM_ H
        clear H
        try go_wp2
        replace HB := aM_ (below_drew1 HB.out)
        have p303 : 0 ≤ (x5_1 : Int) := of_decide_eq_true (by first | (with_reducible assumption) | assumption)
        have q303 : x5_1 < (l0.length : Int) := of_decide_eq_true (by first | (with_reducible assumption) | assumption)
        obtain ⟨ad303, A303_1, c303_1, A303_2, c303_2, e303, hx303_0, hx303_1, hx303_2, hx303_3, hl303_1, hi303_1, hl303_2, hi303_2⟩ := at_T123 HR0.out x5_1 p303 q303
        have hw303_3 := hx303_3
        have hw303_2 := hx303_2
        have hw303_1 := hx303_1
        have hw303_0 := hx303_0
        cases e303
        replace hx303_0 := cB_ HB.out hx303_0
        replace hx303_1 := cB_ HB.out hx303_1
        replace hx303_2 := cB_ HB.out hx303_2
        replace hx303_3 := cB_ HB.out hx303_3
        have HR303_1 := aM_ hi303_1
        have HC303_1 := aM_ hl303_1
        clear hi303_1 hl303_1
        have HR303_2 := aM_ hi303_2
        have HC303_2 := aM_ hl303_2
        clear hi303_2 hl303_2
        replace p303 := eq_true p303
        replace q303 := eq_true q303
        have p304 : 0 ≤ (x5_1 : Int) := of_decide_eq_true (by first | (with_reducible assumption) | assumption)
        have q304 : x5_1 < (l1.length : Int) := of_decide_eq_true (by first | (with_reducible assumption) | assumption)
        obtain ⟨ad304, A304_1, c304_1, A304_2, c304_2, e304, hx304_0, hx304_1, hx304_2, hx304_3, hl304_1, hi304_1, hl304_2, hi304_2⟩ := at_T123 HR1.out x5_1 p304 q304
        have hw304_3 := hx304_3
        have hw304_2 := hx304_2
        have hw304_1 := hx304_1
        have hw304_0 := hx304_0
        cases e304
        replace hx304_0 := cB_ HB.out hx304_0
        replace hx304_1 := cB_ HB.out hx304_1
        replace hx304_2 := cB_ HB.out hx304_2
        replace hx304_3 := cB_ HB.out hx304_3
        have HR304_1 := aM_ hi304_1
        have HC304_1 := aM_ hl304_1
        clear hi304_1 hl304_1
        have HR304_2 := aM_ hi304_2
        have HC304_2 := aM_ hl304_2
        clear hi304_2 hl304_2
        replace p304 := eq_true p304
        replace q304 := eq_true q304
        refine start_ (n := 10) (S := fun w' => w'.cell? (ad303.add ((x5_1).toNat * 4)) = some (.int .i64 ((rd_T123 l0 x5_1).f0)) ∧ w'.cell? ⟨(ad303.add ((x5_1).toNat * 4)).block, (ad303.add ((x5_1).toNat * 4)).off + 1, none⟩ = some (.slice A303_1 ((rd_T123 l0 x5_1).f1).length c303_1) ∧ w'.cell? ⟨(ad303.add ((x5_1).toNat * 4)).block, (ad303.add ((x5_1).toNat * 4)).off + 2, none⟩ = some (.slice A303_2 ((rd_T123 l0 x5_1).f2).length c303_2) ∧ w'.cell? ⟨(ad303.add ((x5_1).toNat * 4)).block, (ad303.add ((x5_1).toNat * 4)).off + 3, none⟩ = some (.int .i64 ((rd_T123 l0 x5_1).f3)) ∧ w'.cell? (ad304.add ((x5_1).toNat * 4)) = some (.int .i64 ((rd_T123 l1 x5_1).f0)) ∧ w'.cell? ⟨(ad304.add ((x5_1).toNat * 4)).block, (ad304.add ((x5_1).toNat * 4)).off + 1, none⟩ = some (.slice A304_1 ((rd_T123 l1 x5_1).f1).length c304_1) ∧ w'.cell? ⟨(ad304.add ((x5_1).toNat * 4)).block, (ad304.add ((x5_1).toNat * 4)).off + 2, none⟩ = some (.slice A304_2 ((rd_T123 l1 x5_1).f2).length c304_2) ∧ w'.cell? ⟨(ad304.add ((x5_1).toNat * 4)).block, (ad304.add ((x5_1).toNat * 4)).off + 3, none⟩ = some (.int .i64 ((rd_T123 l1 x5_1).f3))) (ds := []) (mk_ 10 0) (by kernel_rfl) rfl rfl ⟨(cB_ HB.out hw303_0 :), (cB_ HB.out hw303_1 :), (cB_ HB.out hw303_2 :), (cB_ HB.out hw303_3 :), (cB_ HB.out hw304_0 :), (cB_ HB.out hw304_1 :), (cB_ HB.out hw304_2 :), (cB_ HB.out hw304_3 :)⟩ (fun hHeld => ?_); refine with_tabW laws_eqCoreS.tab6 laws_eqCoreS.bits6 (fun HT_ HW_ => ?_)
        generalize wr.drew = w9 at HB HR303_1 HR303_2 HR304_1 HR304_2 hx303_0 hx303_1 hx303_2 hx303_3 hx304_0 hx304_1 hx304_2 hx304_3 hHeld ⊢
        refine pU_ 0 17 (mk_ 10 1) ?_
        refine pU_ 1 18 (mk_ 10 3) ?_
        refine pU_ 2 19 (mk_ 10 7) ?_
        refine pU_ 4 21 (mk_ 10 23) ?_
        refine pU_ 5 22 (mk_ 10 55) ?_
        refine pU_ 6 23 (mk_ 10 119) ?_
        refine tK8_ 3 20 (mk_ 10 127) ?_
        refine tK8_ 7 24 (mk_ 10 255) ?_
        refine oN_ 8 25 (mk_ 10 511) (fun K hK => ?_)
        refine gO_ Try.func138 #[.agg #[.int .i64 ((rd_T123 l0 x5_1).f0), .slice A303_1 ((rd_T123 l0 x5_1).f1).length c303_1, .slice A303_2 ((rd_T123 l0 x5_1).f2).length c303_2, .int .i64 ((rd_T123 l0 x5_1).f3)], .agg #[.int .i64 ((rd_T123 l1 x5_1).f0), .slice A304_1 ((rd_T123 l1 x5_1).f1).length c304_1, .slice A304_2 ((rd_T123 l1 x5_1).f2).length c304_2, .int .i64 ((rd_T123 l1 x5_1).f3)]] ?_
        with_reducible refine (laws_eqCore.calls k1 ((rd_T123 l0 x5_1).f0) _ _ ((rd_T123 l0 x5_1).f1) _ _ ((rd_T123 l0 x5_1).f2) ((rd_T123 l0 x5_1).f3) ((rd_T123 l1 x5_1).f0) _ _ ((rd_T123 l1 x5_1).f1) _ _ ((rd_T123 l1 x5_1).f2) ((rd_T123 l1 x5_1).f3) true _ ?side1 ?side2 ?side3 ?side4 ?side5 ?side6 ?side7 ?side8 A7.out).mono ?_
        (case side1 => exact cS_ (Kd.C_below HR303_1.out HB.out))
        (case side2 => exact HC303_1.out)
        (case side3 => exact cS_ (Kd.C_below HR303_2.out HB.out))
        (case side4 => exact HC303_2.out)
        (case side5 => exact cS_ (Kd.C_below HR304_1.out HB.out))
        (case side6 => exact HC304_1.out)
        (case side7 => exact cS_ (Kd.C_below HR304_2.out HB.out))
        (case side8 => exact HC304_2.out)
        rintro e w10 ⟨rfl, hb⟩
        refine ⟨_, rfl, ?_⟩
        replace HB := aM_ (sT_ HB.out hb)
        (try clear hb)
        (try clear hb2)
        (try clear hk)
        (try clear hi)
        refine kO_ hK (some 25) ⟨(cB_ HB.out hw303_0 :), (cB_ HB.out hw303_1 :), (cB_ HB.out hw303_2 :), (cB_ HB.out hw303_3 :), (cB_ HB.out hw304_0 :), (cB_ HB.out hw304_1 :), (cB_ HB.out hw304_2 :), (cB_ HB.out hw304_3 :)⟩ (fun hHeld => ?_)
        clear hK K
        refine pU_ 9 26 (mk_ 10 1023) ?_
        refine done_ (done_of HT_.out (by kernel_rfl)) ?_
        try go_wp2
        go_roundg k1
        case measure => have := HK1.out; omega
        case rel => exact ⟨(wrap64 (x5_1 + 1)), (by first | rfl | (simp; done) | (simp [*]; done)), H', ⟨by have := HK1.out; omega⟩, ⟨gW_ HB.out⟩⟩
       ·replace c8 := Bool.eq_false_iff.mpr c8
        subst c8
        have H1 : (some false) = some r := by rw [if_neg (show ¬ (false = true) by decide)] at H; exact H
        clear H
        have H := H1
        clear H1
        obtain rfl := Option.some.inj H
        try go_wp2
        replace HB := aM_ (below_drew1 HB.out)
        have p303 : 0 ≤ (x5_1 : Int) := of_decide_eq_true (by first | (with_reducible assumption) | assumption)
        have q303 : x5_1 < (l0.length : Int) := of_decide_eq_true (by first | (with_reducible assumption) | assumption)
        obtain ⟨ad303, A303_1, c303_1, A303_2, c303_2, e303, hx303_0, hx303_1, hx303_2, hx303_3, hl303_1, hi303_1, hl303_2, hi303_2⟩ := at_T123 HR0.out x5_1 p303 q303
        have hw303_3 := hx303_3
        have hw303_2 := hx303_2
        have hw303_1 := hx303_1
        have hw303_0 := hx303_0
        cases e303
        replace hx303_0 := cB_ HB.out hx303_0
        replace hx303_1 := cB_ HB.out hx303_1
        replace hx303_2 := cB_ HB.out hx303_2
        replace hx303_3 := cB_ HB.out hx303_3
        have HR303_1 := aM_ hi303_1
        have HC303_1 := aM_ hl303_1
        clear hi303_1 hl303_1
        have HR303_2 := aM_ hi303_2
        have HC303_2 := aM_ hl303_2
        clear hi303_2 hl303_2
        replace p303 := eq_true p303
        replace q303 := eq_true q303
        have p304 : 0 ≤ (x5_1 : Int) := of_decide_eq_true (by first | (with_reducible assumption) | assumption)
        have q304 : x5_1 < (l1.length : Int) := of_decide_eq_true (by first | (with_reducible assumption) | assumption)
        obtain ⟨ad304, A304_1, c304_1, A304_2, c304_2, e304, hx304_0, hx304_1, hx304_2, hx304_3, hl304_1, hi304_1, hl304_2, hi304_2⟩ := at_T123 HR1.out x5_1 p304 q304
        have hw304_3 := hx304_3
        have hw304_2 := hx304_2
        have hw304_1 := hx304_1
        have hw304_0 := hx304_0
        cases e304
        replace hx304_0 := cB_ HB.out hx304_0
        replace hx304_1 := cB_ HB.out hx304_1
        replace hx304_2 := cB_ HB.out hx304_2
        replace hx304_3 := cB_ HB.out hx304_3
        have HR304_1 := aM_ hi304_1
        have HC304_1 := aM_ hl304_1
        clear hi304_1 hl304_1
        have HR304_2 := aM_ hi304_2
        have HC304_2 := aM_ hl304_2
        clear hi304_2 hl304_2
        replace p304 := eq_true p304
        replace q304 := eq_true q304
        refine start_ (n := 10) (S := fun w' => w'.cell? (ad303.add ((x5_1).toNat * 4)) = some (.int .i64 ((rd_T123 l0 x5_1).f0)) ∧ w'.cell? ⟨(ad303.add ((x5_1).toNat * 4)).block, (ad303.add ((x5_1).toNat * 4)).off + 1, none⟩ = some (.slice A303_1 ((rd_T123 l0 x5_1).f1).length c303_1) ∧ w'.cell? ⟨(ad303.add ((x5_1).toNat * 4)).block, (ad303.add ((x5_1).toNat * 4)).off + 2, none⟩ = some (.slice A303_2 ((rd_T123 l0 x5_1).f2).length c303_2) ∧ w'.cell? ⟨(ad303.add ((x5_1).toNat * 4)).block, (ad303.add ((x5_1).toNat * 4)).off + 3, none⟩ = some (.int .i64 ((rd_T123 l0 x5_1).f3)) ∧ w'.cell? (ad304.add ((x5_1).toNat * 4)) = some (.int .i64 ((rd_T123 l1 x5_1).f0)) ∧ w'.cell? ⟨(ad304.add ((x5_1).toNat * 4)).block, (ad304.add ((x5_1).toNat * 4)).off + 1, none⟩ = some (.slice A304_1 ((rd_T123 l1 x5_1).f1).length c304_1) ∧ w'.cell? ⟨(ad304.add ((x5_1).toNat * 4)).block, (ad304.add ((x5_1).toNat * 4)).off + 2, none⟩ = some (.slice A304_2 ((rd_T123 l1 x5_1).f2).length c304_2) ∧ w'.cell? ⟨(ad304.add ((x5_1).toNat * 4)).block, (ad304.add ((x5_1).toNat * 4)).off + 3, none⟩ = some (.int .i64 ((rd_T123 l1 x5_1).f3))) (ds := []) (mk_ 10 0) (by kernel_rfl) rfl rfl ⟨(cB_ HB.out hw303_0 :), (cB_ HB.out hw303_1 :), (cB_ HB.out hw303_2 :), (cB_ HB.out hw303_3 :), (cB_ HB.out hw304_0 :), (cB_ HB.out hw304_1 :), (cB_ HB.out hw304_2 :), (cB_ HB.out hw304_3 :)⟩ (fun hHeld => ?_); refine with_tabW laws_eqCoreS.tab6 laws_eqCoreS.bits6 (fun HT_ HW_ => ?_)
        generalize wr.drew = w11 at HB HR303_1 HR303_2 HR304_1 HR304_2 hx303_0 hx303_1 hx303_2 hx303_3 hx304_0 hx304_1 hx304_2 hx304_3 hHeld ⊢
        refine pU_ 0 17 (mk_ 10 1) ?_
        refine pU_ 1 18 (mk_ 10 3) ?_
        refine pU_ 2 19 (mk_ 10 7) ?_
        refine pU_ 4 21 (mk_ 10 23) ?_
        refine pU_ 5 22 (mk_ 10 55) ?_
        refine pU_ 6 23 (mk_ 10 119) ?_
        refine tK8_ 3 20 (mk_ 10 127) ?_
        refine tK8_ 7 24 (mk_ 10 255) ?_
        refine oN_ 8 25 (mk_ 10 511) (fun K hK => ?_)
        refine gO_ Try.func138 #[.agg #[.int .i64 ((rd_T123 l0 x5_1).f0), .slice A303_1 ((rd_T123 l0 x5_1).f1).length c303_1, .slice A303_2 ((rd_T123 l0 x5_1).f2).length c303_2, .int .i64 ((rd_T123 l0 x5_1).f3)], .agg #[.int .i64 ((rd_T123 l1 x5_1).f0), .slice A304_1 ((rd_T123 l1 x5_1).f1).length c304_1, .slice A304_2 ((rd_T123 l1 x5_1).f2).length c304_2, .int .i64 ((rd_T123 l1 x5_1).f3)]] ?_
        with_reducible refine (laws_eqCore.calls k1 ((rd_T123 l0 x5_1).f0) _ _ ((rd_T123 l0 x5_1).f1) _ _ ((rd_T123 l0 x5_1).f2) ((rd_T123 l0 x5_1).f3) ((rd_T123 l1 x5_1).f0) _ _ ((rd_T123 l1 x5_1).f1) _ _ ((rd_T123 l1 x5_1).f2) ((rd_T123 l1 x5_1).f3) false _ ?side1 ?side2 ?side3 ?side4 ?side5 ?side6 ?side7 ?side8 A7.out).mono ?_
        (case side1 => exact cS_ (Kd.C_below HR303_1.out HB.out))
        (case side2 => exact HC303_1.out)
        (case side3 => exact cS_ (Kd.C_below HR303_2.out HB.out))
        (case side4 => exact HC303_2.out)
        (case side5 => exact cS_ (Kd.C_below HR304_1.out HB.out))
        (case side6 => exact HC304_1.out)
        (case side7 => exact cS_ (Kd.C_below HR304_2.out HB.out))
        (case side8 => exact HC304_2.out)
        rintro e w12 ⟨rfl, hb⟩
        refine ⟨_, rfl, ?_⟩
        replace HB := aM_ (sT_ HB.out hb)
        (try clear hb)
        (try clear hb2)
        (try clear hk)
        (try clear hi)
        refine kO_ hK (some 25) ⟨(cB_ HB.out hw303_0 :), (cB_ HB.out hw303_1 :), (cB_ HB.out hw303_2 :), (cB_ HB.out hw303_3 :), (cB_ HB.out hw304_0 :), (cB_ HB.out hw304_1 :), (cB_ HB.out hw304_2 :), (cB_ HB.out hw304_3 :)⟩ (fun hHeld => ?_)
        clear hK K
        refine pU_ 9 26 (mk_ 10 1023) ?_
        refine done_ (done_of HT_.out (by kernel_rfl)) ?_
        try go_wp2
        go_ret
        exact fI_ HB.out
      ·rw [if_neg c6] at H
       exact absurd H (by simp)
     ·rw [if_neg c5] at H
      exact absurd H (by simp)
    ·rw [if_neg c4] at H
     have c4b0 : decide (x5_1 < (l0.length : Int)) = false := decide_eq_false c4
     clear c4
     obtain rfl := Option.some.inj H
     go_wp2
     go_ret
     exact fI_ HB.out
 ·rw [if_neg c3] at H
  have c3b0 : ((l0.length : Int) == (l1.length : Int)) = false := beq_eq_false_iff_ne.mpr c3
  have c3b1 : ((l0.length : Int) != (l1.length : Int)) = true := bne_iff_ne.mpr c3
  have c3b2 : (l0.length == l1.length) = false := by first | simpa using c3 | (simp at c3 ⊢; omega)
  obtain rfl := Option.some.inj H
  go_enter Try.func82, Try.ntmps82
  go_wp2
  go_ret
  exact fI_ HB.out
def laws_eqWrite.f (k : Nat) (a0_0 : Int) (l0_1 : List Int) (a1_0 : Int) (l1_1 : List Int) : Option (Bool) := if a0_0 = a1_0 then ((laws_eqIntS.f k l0_1 l1_1).bind fun t308 => (if t308 = true then (some true) else (some false))) else (some false)
set_option maxHeartbeats 8000000 in
set_option maxRecDepth 100000 in
theorem laws_eqWrite.calls (k : Nat) (a0_0 : Int) (A0_1 : Option Addr) (c0_1 : Nat) (l0_1 : List Int) (a1_0 : Int) (A1_1 : Option Addr) (c1_1 : Nat) (l1_1 : List Int) (r : Bool) (w : World) (hr0_1 : Kd.C (Kd.int .i64) w A0_1 l0_1.length l0_1) (hc0_1 : l0_1.length ≤ c0_1) (hr1_1 : Kd.C (Kd.int .i64) w A1_1 l1_1.length l1_1) (hc1_1 : l1_1.length ≤ c1_1) (h : laws_eqWrite.f k a0_0 l0_1 a1_0 l1_1 = some r) :
  Calls Try.prog 189 #[.agg #[.int .i64 a0_0, .slice A0_1 l0_1.length c0_1], .agg #[.int .i64 a1_0, .slice A1_1 l1_1.length c1_1]] w fun e w' => e = .returned (.bool r) ∧ Below w.heap.size w w' := by
 have hu170 := Try.underlying170
 have HR0_1 := aM_ hr0_1
 have HC0_1 := aM_ hc0_1
 clear hr0_1 hc0_1
 have HR1_1 := aM_ hr1_1
 have HC1_1 := aM_ hc1_1
 clear hr1_1 hc1_1
 have HB := aM_ (Below.refl w.heap.size w)
 have H : (if a0_0 = a1_0 then ((laws_eqIntS.f k l0_1 l1_1).bind fun t308 => (if t308 = true then (some true) else (some false))) else (some false)) = some r := h
 clear h
 by_cases c3 : a0_0 = a1_0
 ·rw [if_pos c3] at H
  have c3b0 : (a0_0 == a1_0) = true := beq_iff_eq.mpr c3
  have c3b1 : (a0_0 != a1_0) = false := bne_eq_false_iff_eq.mpr c3
  clear c3
  replace H := Option.bind_eq_some_iff.mp H
  obtain ⟨t308, A40, H⟩ := H
  replace H : (if t308 = true then (some true) else (some false)) = some r := H
  have A4 := aM_ A40
  clear A40
  by_cases c5 : t308 = true
  ·subst c5
   have H1 : (some true) = some r := by rw [if_pos rfl] at H; exact H
   clear H
   have H := H1
   clear H1
   obtain rfl := Option.some.inj H
   go_enter Try.func189, Try.ntmps189
   go_wp2_with (first | ((with_reducible refine gate_dst (N := 2) rfl ?_); refine bX_ 2 (cs := #[.int .i64 a0_0, .slice A0_1 l0_1.length c0_1]) (t := 170) ?_; intro gb306 hg w6 hbox hb; have BK306 := aM_ (hbox); have GE306 := aM_ (sZ_ hg HB.out); replace HB := aM_ (sT_ HB.out hb); clear hb hbox hg) | ((with_reducible refine gate_dst (N := 3) rfl ?_); refine bX_ 3 (cs := #[.int .i64 a1_0, .slice A1_1 l1_1.length c1_1]) (t := 170) ?_; intro gb307 hg w7 hbox hb; have BK307 := aM_ (hbox); have GE307 := aM_ (sZ_ hg HB.out); have NB306_307 := aM_ (nL_ hg BK306.out); have NB307_306 := aM_ (nG_ hg BK306.out); replace BK306 := aM_ (nB_ BK306.out hb); replace HB := aM_ (sT_ HB.out hb); clear hb hbox hg; have hnb8 := NB306_307.out; have hnc8 := NB307_306.out; have z_9 := bR2_ BK306.out; have z_10 := bR2_ BK307.out) | ((with_reducible refine gate_callee (f := 39) rfl ?_); refine gL_ (some 14) Try.func39 #[.slice A0_1 l0_1.length c0_1, .slice A1_1 l1_1.length c1_1] ?_; (with_reducible refine (laws_eqIntS.calls k _ _ l0_1 _ _ l1_1 true _ ?side1 ?side2 ?side3 ?side4 A4.out).mono ?_); (case side1 => exact cS_ (Kd.C_below HR0_1.out HB.out)); (case side2 => exact HC0_1.out); (case side3 => exact cS_ (Kd.C_below HR1_1.out HB.out)); (case side4 => exact HC1_1.out); rintro e w' ⟨rfl, ⟨nd, rfl⟩⟩; refine ⟨_, rfl, ?_⟩))
   go_ret
   exact fI_ HB.out
  ·replace c5 := Bool.eq_false_iff.mpr c5
   subst c5
   have H1 : (some false) = some r := by rw [if_neg (show ¬ (false = true) by decide)] at H; exact H
   clear H
   have H := H1
   clear H1
   obtain rfl := Option.some.inj H
   go_enter Try.func189, Try.ntmps189
   go_wp2_with (first | ((with_reducible refine gate_dst (N := 2) rfl ?_); refine bX_ 2 (cs := #[.int .i64 a0_0, .slice A0_1 l0_1.length c0_1]) (t := 170) ?_; intro gb306 hg w11 hbox hb; have BK306 := aM_ (hbox); have GE306 := aM_ (sZ_ hg HB.out); replace HB := aM_ (sT_ HB.out hb); clear hb hbox hg) | ((with_reducible refine gate_dst (N := 3) rfl ?_); refine bX_ 3 (cs := #[.int .i64 a1_0, .slice A1_1 l1_1.length c1_1]) (t := 170) ?_; intro gb307 hg w12 hbox hb; have BK307 := aM_ (hbox); have GE307 := aM_ (sZ_ hg HB.out); have NB306_307 := aM_ (nL_ hg BK306.out); have NB307_306 := aM_ (nG_ hg BK306.out); replace BK306 := aM_ (nB_ BK306.out hb); replace HB := aM_ (sT_ HB.out hb); clear hb hbox hg; have hnb13 := NB306_307.out; have hnc13 := NB307_306.out; have z_14 := bR2_ BK306.out; have z_15 := bR2_ BK307.out) | ((with_reducible refine gate_callee (f := 39) rfl ?_); refine gL_ (some 14) Try.func39 #[.slice A0_1 l0_1.length c0_1, .slice A1_1 l1_1.length c1_1] ?_; (with_reducible refine (laws_eqIntS.calls k _ _ l0_1 _ _ l1_1 false _ ?side1 ?side2 ?side3 ?side4 A4.out).mono ?_); (case side1 => exact cS_ (Kd.C_below HR0_1.out HB.out)); (case side2 => exact HC0_1.out); (case side3 => exact cS_ (Kd.C_below HR1_1.out HB.out)); (case side4 => exact HC1_1.out); rintro e w' ⟨rfl, ⟨nd, rfl⟩⟩; refine ⟨_, rfl, ?_⟩))
   go_ret
   exact fI_ HB.out
 ·rw [if_neg c3] at H
  have c3b0 : (a0_0 == a1_0) = false := beq_eq_false_iff_ne.mpr c3
  have c3b1 : (a0_0 != a1_0) = true := bne_iff_ne.mpr c3
  obtain rfl := Option.some.inj H
  go_enter Try.func189, Try.ntmps189
  go_wp2_with (first | ((with_reducible refine gate_dst (N := 2) rfl ?_); refine bX_ 2 (cs := #[.int .i64 a0_0, .slice A0_1 l0_1.length c0_1]) (t := 170) ?_; intro gb306 hg w16 hbox hb; have BK306 := aM_ (hbox); have GE306 := aM_ (sZ_ hg HB.out); replace HB := aM_ (sT_ HB.out hb); clear hb hbox hg) | ((with_reducible refine gate_dst (N := 3) rfl ?_); refine bX_ 3 (cs := #[.int .i64 a1_0, .slice A1_1 l1_1.length c1_1]) (t := 170) ?_; intro gb307 hg w17 hbox hb; have BK307 := aM_ (hbox); have GE307 := aM_ (sZ_ hg HB.out); have NB306_307 := aM_ (nL_ hg BK306.out); have NB307_306 := aM_ (nG_ hg BK306.out); replace BK306 := aM_ (nB_ BK306.out hb); replace HB := aM_ (sT_ HB.out hb); clear hb hbox hg; have hnb18 := NB306_307.out; have hnc18 := NB307_306.out; have z_19 := bR2_ BK306.out; have z_20 := bR2_ BK307.out))
  go_ret
  exact fI_ HB.out
end Go.Proofs.Ytobachfngmpeiaa.PFnExactMachineNew
