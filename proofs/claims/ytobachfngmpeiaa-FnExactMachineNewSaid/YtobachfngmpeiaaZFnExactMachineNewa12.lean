/- A part of the proof that the law FnExactMachineNew holds for every input. -/
import Derived.Test.YtobachfngmpeiaaZFnExactMachineNewa11
import Derived.Test.YtobachfngmpeiaaZFnExactMachineNews
namespace Go.Proofs.Ytobachfngmpeiaa.PFnExactMachineNew
open Go.RowKit Go.Proofs.YtobachfngmpeiaaW.PrintWords Go.Proofs.YtobachfngmpeiaaW.PrintLast Go.Proofs.YtobachfngmpeiaaW.PrintMore
attribute [local go_sem] max2_int min2_int max_two min_two max_three min_three max_four min_four   -- for this text's walks alone
set_option linter.unusedVariables false
set_option linter.unusedSimpArgs false
def laws_eqStepS.l0 : Nat → List (S175) → List (S175) → Int → Option (Bool)
  | 0, _, _, _ => none
  | k + 1, x0, x1, x5 => if x5 < (x0.length : Int) then (if 0 ≤ x5 then (if x5 < (x1.length : Int) then ((laws_eqStep.f ((rd_T175 x0 x5).f0) ((rd_T175 x0 x5).f1) ((rd_T175 x0 x5).f2) ((rd_T175 x0 x5).f3) ((rd_T175 x0 x5).f4) ((rd_T175 x1 x5).f0) ((rd_T175 x1 x5).f1) ((rd_T175 x1 x5).f2) ((rd_T175 x1 x5).f3) ((rd_T175 x1 x5).f4)).bind fun t288 => (if t288 = true then (laws_eqStepS.l0 k x0 x1 (wrap64 (x5 + 1))) else (some false))) else (none)) else (none)) else (some true)
def laws_eqStepS.f (k : Nat) (l0 : List (S175)) (l1 : List (S175)) : Option (Bool) := if (l0.length : Int) = (l1.length : Int) then (laws_eqStepS.l0 k l0 l1 0) else (some false)
def laws_eqStepS.T6 : Bool × List (List Nat × List Nat) := (true, [([], []), ([], []), ([0, 1], [0, 1]), ([2], [2]), ([], []), ([], []), ([4, 5], [4, 5]), ([6], [6]), ([3, 7], [3, 7]), ([8], [8])])
def laws_eqStepS.B6 : List Nat := [0, 0, 3, 7, 0, 0, 48, 112, 255, 511]
theorem laws_eqStepS.tab6 : rtab .any (opsOf Try.f84 6) = laws_eqStepS.T6 := by kernel_rfl
theorem laws_eqStepS.bits6 : waitsOk laws_eqStepS.T6.2 laws_eqStepS.B6 = true := by kernel_rfl
set_option maxHeartbeats 8000000 in
set_option maxRecDepth 100000 in
theorem laws_eqStepS.calls (k : Nat) (A0 : Option Addr) (c0 : Nat) (l0 : List (S175)) (A1 : Option Addr) (c1 : Nat) (l1 : List (S175)) (r : Bool) (w : World) (hr0 : Kd.C k175 w A0 l0.length l0) (hc0 : l0.length ≤ c0) (hr1 : Kd.C k175 w A1 l1.length l1) (hc1 : l1.length ≤ c1) (h : laws_eqStepS.f k l0 l1 = some r) :
  Calls Try.prog 84 #[.slice A0 l0.length c0, .slice A1 l1.length c1] w fun e w' => e = .returned (.bool r) ∧ Below w.heap.size w w' := by
 have hu175 := Try.underlying175
 have HR0 := aM_ hr0
 have HC0 := aM_ hc0
 clear hr0 hc0
 have HR1 := aM_ hr1
 have HC1 := aM_ hc1
 clear hr1 hc1
 have HB := aM_ (Below.refl w.heap.size w)
 have H : (if (l0.length : Int) = (l1.length : Int) then (laws_eqStepS.l0 k l0 l1 0) else (some false)) = some r := h
 clear h
 by_cases c3 : (l0.length : Int) = (l1.length : Int)
 ·rw [if_pos c3] at H
  have c3b0 : ((l0.length : Int) == (l1.length : Int)) = true := beq_iff_eq.mpr c3
  have c3b1 : ((l0.length : Int) != (l1.length : Int)) = false := bne_eq_false_iff_eq.mpr c3
  have c3b2 : (l0.length == l1.length) = true := by first | simpa using c3 | (simp at c3 ⊢; omega)
  clear c3
  have H' := aM_ H
  clear H
  go_enter Try.func84, Try.ntmps84
  go_wp2
  go_loopg [5] k (fun kq v5 w' => ∃ (x5_1 : Int), v5 = .int .i64 x5_1 ∧ Aside0 (laws_eqStepS.l0 kq l0 l1 x5_1 = some r) ∧ Aside0 (kq ≤ k) ∧ Aside0 (Below w.heap.size w w'))
  case atStart => exact ⟨(0), (by first | rfl | (simp; done) | (simp [*]; done)), H', ⟨Nat.le_refl _⟩, ⟨gW_ HB.out⟩⟩
  case round =>
   clear H'
   try clear c1
   try clear p2
   try clear c3
   try clear c3b0
   try clear c3b1
   try clear c3b2
   obtain ⟨x5_1, rfl, HA, HK1, HB⟩ := hrel
   cases gk with
   | zero => exact absurd HA.out (by simp [laws_eqStepS.l0])
   | succ k1 =>
    have H := HA.out
    clear HA
    simp only [laws_eqStepS.l0] at H
    by_cases c4 : x5_1 < (l0.length : Int)
    ·rw [if_pos c4] at H
     have c4b0 : decide (x5_1 < (l0.length : Int)) = true := decide_eq_true c4
     clear c4
     by_cases c5 : 0 ≤ x5_1
     ·rw [if_pos c5] at H
      have c5b0 : decide (0 ≤ x5_1) = true := decide_eq_true c5
      clear c5
      by_cases c6 : x5_1 < (l1.length : Int)
      ·rw [if_pos c6] at H
       have c6b0 : decide (x5_1 < (l1.length : Int)) = true := decide_eq_true c6
       clear c6
       replace H := Option.bind_eq_some_iff.mp H
       obtain ⟨t288, A70, H⟩ := H
       replace H : (if t288 = true then (laws_eqStepS.l0 k1 l0 l1 (wrap64 (x5_1 + 1))) else (some false)) = some r := H
       have A7 := aM_ A70
       clear A70
       by_cases c8 : t288 = true
       ·subst c8
        have H1 : (laws_eqStepS.l0 k1 l0 l1 (wrap64 (x5_1 + 1))) = some r := by rw [if_pos rfl] at H; exact H
        clear H
        have H := H1
        clear H1
        have H' := aM_ H
        clear H
        try go_wp2
        replace HB := aM_ (below_drew1 HB.out)
        have p286 : 0 ≤ (x5_1 : Int) := of_decide_eq_true (by first | (with_reducible assumption) | assumption)
        have q286 : x5_1 < (l0.length : Int) := of_decide_eq_true (by first | (with_reducible assumption) | assumption)
        obtain ⟨ad286, e286, hx286_0, hx286_1, hx286_2, hx286_3, hx286_4⟩ := at_T175 HR0.out x5_1 p286 q286
        have hw286_4 := hx286_4
        have hw286_3 := hx286_3
        have hw286_2 := hx286_2
        have hw286_1 := hx286_1
        have hw286_0 := hx286_0
        cases e286
        replace hx286_0 := cB_ HB.out hx286_0
        replace hx286_1 := cB_ HB.out hx286_1
        replace hx286_2 := cB_ HB.out hx286_2
        replace hx286_3 := cB_ HB.out hx286_3
        replace hx286_4 := cB_ HB.out hx286_4
        replace p286 := eq_true p286
        replace q286 := eq_true q286
        have p287 : 0 ≤ (x5_1 : Int) := of_decide_eq_true (by first | (with_reducible assumption) | assumption)
        have q287 : x5_1 < (l1.length : Int) := of_decide_eq_true (by first | (with_reducible assumption) | assumption)
        obtain ⟨ad287, e287, hx287_0, hx287_1, hx287_2, hx287_3, hx287_4⟩ := at_T175 HR1.out x5_1 p287 q287
        have hw287_4 := hx287_4
        have hw287_3 := hx287_3
        have hw287_2 := hx287_2
        have hw287_1 := hx287_1
        have hw287_0 := hx287_0
        cases e287
        replace hx287_0 := cB_ HB.out hx287_0
        replace hx287_1 := cB_ HB.out hx287_1
        replace hx287_2 := cB_ HB.out hx287_2
        replace hx287_3 := cB_ HB.out hx287_3
        replace hx287_4 := cB_ HB.out hx287_4
        replace p287 := eq_true p287
        replace q287 := eq_true q287
        refine start_ (n := 10) (S := fun w' => w'.cell? (ad286.add ((x5_1).toNat * 5)) = some (.int .i64 ((rd_T175 l0 x5_1).f0)) ∧ w'.cell? ⟨(ad286.add ((x5_1).toNat * 5)).block, (ad286.add ((x5_1).toNat * 5)).off + 1, none⟩ = some (.int .i64 ((rd_T175 l0 x5_1).f1)) ∧ w'.cell? ⟨(ad286.add ((x5_1).toNat * 5)).block, (ad286.add ((x5_1).toNat * 5)).off + 2, none⟩ = some (.int .i64 ((rd_T175 l0 x5_1).f2)) ∧ w'.cell? ⟨(ad286.add ((x5_1).toNat * 5)).block, (ad286.add ((x5_1).toNat * 5)).off + 3, none⟩ = some (.int .i64 ((rd_T175 l0 x5_1).f3)) ∧ w'.cell? ⟨(ad286.add ((x5_1).toNat * 5)).block, (ad286.add ((x5_1).toNat * 5)).off + 4, none⟩ = some (.int .i64 ((rd_T175 l0 x5_1).f4)) ∧ w'.cell? (ad287.add ((x5_1).toNat * 5)) = some (.int .i64 ((rd_T175 l1 x5_1).f0)) ∧ w'.cell? ⟨(ad287.add ((x5_1).toNat * 5)).block, (ad287.add ((x5_1).toNat * 5)).off + 1, none⟩ = some (.int .i64 ((rd_T175 l1 x5_1).f1)) ∧ w'.cell? ⟨(ad287.add ((x5_1).toNat * 5)).block, (ad287.add ((x5_1).toNat * 5)).off + 2, none⟩ = some (.int .i64 ((rd_T175 l1 x5_1).f2)) ∧ w'.cell? ⟨(ad287.add ((x5_1).toNat * 5)).block, (ad287.add ((x5_1).toNat * 5)).off + 3, none⟩ = some (.int .i64 ((rd_T175 l1 x5_1).f3)) ∧ w'.cell? ⟨(ad287.add ((x5_1).toNat * 5)).block, (ad287.add ((x5_1).toNat * 5)).off + 4, none⟩ = some (.int .i64 ((rd_T175 l1 x5_1).f4))) (ds := []) (mk_ 10 0) (by kernel_rfl) rfl rfl ⟨(cB_ HB.out hw286_0 :), (cB_ HB.out hw286_1 :), (cB_ HB.out hw286_2 :), (cB_ HB.out hw286_3 :), (cB_ HB.out hw286_4 :), (cB_ HB.out hw287_0 :), (cB_ HB.out hw287_1 :), (cB_ HB.out hw287_2 :), (cB_ HB.out hw287_3 :), (cB_ HB.out hw287_4 :)⟩ (fun hHeld => ?_); refine with_tabW laws_eqStepS.tab6 laws_eqStepS.bits6 (fun HT_ HW_ => ?_)
        generalize wr.drew = w9 at HB hx286_0 hx286_1 hx286_2 hx286_3 hx286_4 hx287_0 hx287_1 hx287_2 hx287_3 hx287_4 hHeld ⊢
        refine pU_ 0 17 (mk_ 10 1) ?_
        refine pU_ 1 18 (mk_ 10 3) ?_
        refine pU_ 2 19 (mk_ 10 7) ?_
        refine pU_ 4 21 (mk_ 10 23) ?_
        refine pU_ 5 22 (mk_ 10 55) ?_
        refine pU_ 6 23 (mk_ 10 119) ?_
        refine tK10_ 3 20 (mk_ 10 127) ?_
        refine tK10_ 7 24 (mk_ 10 255) ?_
        refine oN_ 8 25 (mk_ 10 511) (fun K hK => ?_)
        refine gO_ Try.func140 #[.agg #[.int .i64 ((rd_T175 l0 x5_1).f0), .int .i64 ((rd_T175 l0 x5_1).f1), .int .i64 ((rd_T175 l0 x5_1).f2), .int .i64 ((rd_T175 l0 x5_1).f3), .int .i64 ((rd_T175 l0 x5_1).f4)], .agg #[.int .i64 ((rd_T175 l1 x5_1).f0), .int .i64 ((rd_T175 l1 x5_1).f1), .int .i64 ((rd_T175 l1 x5_1).f2), .int .i64 ((rd_T175 l1 x5_1).f3), .int .i64 ((rd_T175 l1 x5_1).f4)]] ?_
        with_reducible refine (laws_eqStep.calls ((rd_T175 l0 x5_1).f0) ((rd_T175 l0 x5_1).f1) ((rd_T175 l0 x5_1).f2) ((rd_T175 l0 x5_1).f3) ((rd_T175 l0 x5_1).f4) ((rd_T175 l1 x5_1).f0) ((rd_T175 l1 x5_1).f1) ((rd_T175 l1 x5_1).f2) ((rd_T175 l1 x5_1).f3) ((rd_T175 l1 x5_1).f4) true _ A7.out).mono ?_
        rintro e w10 ⟨rfl, hb⟩
        refine ⟨_, rfl, ?_⟩
        replace HB := aM_ (sT_ HB.out hb)
        (try clear hb)
        (try clear hb2)
        (try clear hk)
        (try clear hi)
        refine kO_ hK (some 25) ⟨(cB_ HB.out hw286_0 :), (cB_ HB.out hw286_1 :), (cB_ HB.out hw286_2 :), (cB_ HB.out hw286_3 :), (cB_ HB.out hw286_4 :), (cB_ HB.out hw287_0 :), (cB_ HB.out hw287_1 :), (cB_ HB.out hw287_2 :), (cB_ HB.out hw287_3 :), (cB_ HB.out hw287_4 :)⟩ (fun hHeld => ?_)
        clear hK K
        refine pU_ 9 26 (mk_ 10 1023) ?_
        refine done_ (done_of HT_.out (by kernel_rfl)) ?_
        try go_wp2
        go_roundg k1
        case measure => have := HK1.out; omega
        case rel => exact ⟨(wrap64 (x5_1 + 1)), (by first | rfl | (simp; done) | (simp [*]; done)), H', ⟨by have := HK1.out; omega⟩, ⟨gW_ HB.out⟩⟩
       ·replace c8 := Bool.eq_false_iff.mpr c8
        subst c8
        have H1 : (some false) = some r := by rw [if_neg (show ¬ (false = true) by decide)] at H; exact H
        clear H
        have H := H1
        clear H1
        obtain rfl := Option.some.inj H
        try go_wp2
        replace HB := aM_ (below_drew1 HB.out)
        have p286 : 0 ≤ (x5_1 : Int) := of_decide_eq_true (by first | (with_reducible assumption) | assumption)
        have q286 : x5_1 < (l0.length : Int) := of_decide_eq_true (by first | (with_reducible assumption) | assumption)
        obtain ⟨ad286, e286, hx286_0, hx286_1, hx286_2, hx286_3, hx286_4⟩ := at_T175 HR0.out x5_1 p286 q286
        have hw286_4 := hx286_4
        have hw286_3 := hx286_3
        have hw286_2 := hx286_2
        have hw286_1 := hx286_1
        have hw286_0 := hx286_0
        cases e286
        replace hx286_0 := cB_ HB.out hx286_0
        replace hx286_1 := cB_ HB.out hx286_1
        replace hx286_2 := cB_ HB.out hx286_2
        replace hx286_3 := cB_ HB.out hx286_3
        replace hx286_4 := cB_ HB.out hx286_4
        replace p286 := eq_true p286
        replace q286 := eq_true q286
        have p287 : 0 ≤ (x5_1 : Int) := of_decide_eq_true (by first | (with_reducible assumption) | assumption)
        have q287 : x5_1 < (l1.length : Int) := of_decide_eq_true (by first | (with_reducible assumption) | assumption)
        obtain ⟨ad287, e287, hx287_0, hx287_1, hx287_2, hx287_3, hx287_4⟩ := at_T175 HR1.out x5_1 p287 q287
        have hw287_4 := hx287_4
        have hw287_3 := hx287_3
        have hw287_2 := hx287_2
        have hw287_1 := hx287_1
        have hw287_0 := hx287_0
        cases e287
        replace hx287_0 := cB_ HB.out hx287_0
        replace hx287_1 := cB_ HB.out hx287_1
        replace hx287_2 := cB_ HB.out hx287_2
        replace hx287_3 := cB_ HB.out hx287_3
        replace hx287_4 := cB_ HB.out hx287_4
        replace p287 := eq_true p287
        replace q287 := eq_true q287
        refine start_ (n := 10) (S := fun w' => w'.cell? (ad286.add ((x5_1).toNat * 5)) = some (.int .i64 ((rd_T175 l0 x5_1).f0)) ∧ w'.cell? ⟨(ad286.add ((x5_1).toNat * 5)).block, (ad286.add ((x5_1).toNat * 5)).off + 1, none⟩ = some (.int .i64 ((rd_T175 l0 x5_1).f1)) ∧ w'.cell? ⟨(ad286.add ((x5_1).toNat * 5)).block, (ad286.add ((x5_1).toNat * 5)).off + 2, none⟩ = some (.int .i64 ((rd_T175 l0 x5_1).f2)) ∧ w'.cell? ⟨(ad286.add ((x5_1).toNat * 5)).block, (ad286.add ((x5_1).toNat * 5)).off + 3, none⟩ = some (.int .i64 ((rd_T175 l0 x5_1).f3)) ∧ w'.cell? ⟨(ad286.add ((x5_1).toNat * 5)).block, (ad286.add ((x5_1).toNat * 5)).off + 4, none⟩ = some (.int .i64 ((rd_T175 l0 x5_1).f4)) ∧ w'.cell? (ad287.add ((x5_1).toNat * 5)) = some (.int .i64 ((rd_T175 l1 x5_1).f0)) ∧ w'.cell? ⟨(ad287.add ((x5_1).toNat * 5)).block, (ad287.add ((x5_1).toNat * 5)).off + 1, none⟩ = some (.int .i64 ((rd_T175 l1 x5_1).f1)) ∧ w'.cell? ⟨(ad287.add ((x5_1).toNat * 5)).block, (ad287.add ((x5_1).toNat * 5)).off + 2, none⟩ = some (.int .i64 ((rd_T175 l1 x5_1).f2)) ∧ w'.cell? ⟨(ad287.add ((x5_1).toNat * 5)).block, (ad287.add ((x5_1).toNat * 5)).off + 3, none⟩ = some (.int .i64 ((rd_T175 l1 x5_1).f3)) ∧ w'.cell? ⟨(ad287.add ((x5_1).toNat * 5)).block, (ad287.add ((x5_1).toNat * 5)).off + 4, none⟩ = some (.int .i64 ((rd_T175 l1 x5_1).f4))) (ds := []) (mk_ 10 0) (by kernel_rfl) rfl rfl ⟨(cB_ HB.out hw286_0 :), (cB_ HB.out hw286_1 :), (cB_ HB.out hw286_2 :), (cB_ HB.out hw286_3 :), (cB_ HB.out hw286_4 :), (cB_ HB.out hw287_0 :), (cB_ HB.out hw287_1 :), (cB_ HB.out hw287_2 :), (cB_ HB.out hw287_3 :), (cB_ HB.out hw287_4 :)⟩ (fun hHeld => ?_); refine with_tabW laws_eqStepS.tab6 laws_eqStepS.bits6 (fun HT_ HW_ => ?_)
        generalize wr.drew = w11 at HB hx286_0 hx286_1 hx286_2 hx286_3 hx286_4 hx287_0 hx287_1 hx287_2 hx287_3 hx287_4 hHeld ⊢
        refine pU_ 0 17 (mk_ 10 1) ?_
        refine pU_ 1 18 (mk_ 10 3) ?_
        refine pU_ 2 19 (mk_ 10 7) ?_
        refine pU_ 4 21 (mk_ 10 23) ?_
        refine pU_ 5 22 (mk_ 10 55) ?_
        refine pU_ 6 23 (mk_ 10 119) ?_
        refine tK10_ 3 20 (mk_ 10 127) ?_
        refine tK10_ 7 24 (mk_ 10 255) ?_
        refine oN_ 8 25 (mk_ 10 511) (fun K hK => ?_)
        refine gO_ Try.func140 #[.agg #[.int .i64 ((rd_T175 l0 x5_1).f0), .int .i64 ((rd_T175 l0 x5_1).f1), .int .i64 ((rd_T175 l0 x5_1).f2), .int .i64 ((rd_T175 l0 x5_1).f3), .int .i64 ((rd_T175 l0 x5_1).f4)], .agg #[.int .i64 ((rd_T175 l1 x5_1).f0), .int .i64 ((rd_T175 l1 x5_1).f1), .int .i64 ((rd_T175 l1 x5_1).f2), .int .i64 ((rd_T175 l1 x5_1).f3), .int .i64 ((rd_T175 l1 x5_1).f4)]] ?_
        with_reducible refine (laws_eqStep.calls ((rd_T175 l0 x5_1).f0) ((rd_T175 l0 x5_1).f1) ((rd_T175 l0 x5_1).f2) ((rd_T175 l0 x5_1).f3) ((rd_T175 l0 x5_1).f4) ((rd_T175 l1 x5_1).f0) ((rd_T175 l1 x5_1).f1) ((rd_T175 l1 x5_1).f2) ((rd_T175 l1 x5_1).f3) ((rd_T175 l1 x5_1).f4) false _ A7.out).mono ?_
        rintro e w12 ⟨rfl, hb⟩
        refine ⟨_, rfl, ?_⟩
        replace HB := aM_ (sT_ HB.out hb)
        (try clear hb)
        (try clear hb2)
        (try clear hk)
        (try clear hi)
        refine kO_ hK (some 25) ⟨(cB_ HB.out hw286_0 :), (cB_ HB.out hw286_1 :), (cB_ HB.out hw286_2 :), (cB_ HB.out hw286_3 :), (cB_ HB.out hw286_4 :), (cB_ HB.out hw287_0 :), (cB_ HB.out hw287_1 :), (cB_ HB.out hw287_2 :), (cB_ HB.out hw287_3 :), (cB_ HB.out hw287_4 :)⟩ (fun hHeld => ?_)
        clear hK K
        refine pU_ 9 26 (mk_ 10 1023) ?_
        refine done_ (done_of HT_.out (by kernel_rfl)) ?_
        try go_wp2
        go_ret
        exact fI_ HB.out
      ·rw [if_neg c6] at H
       exact absurd H (by simp)
     ·rw [if_neg c5] at H
      exact absurd H (by simp)
    ·rw [if_neg c4] at H
     have c4b0 : decide (x5_1 < (l0.length : Int)) = false := decide_eq_false c4
     clear c4
     obtain rfl := Option.some.inj H
     go_wp2
     go_ret
     exact fI_ HB.out
 ·rw [if_neg c3] at H
  have c3b0 : ((l0.length : Int) == (l1.length : Int)) = false := beq_eq_false_iff_ne.mpr c3
  have c3b1 : ((l0.length : Int) != (l1.length : Int)) = true := bne_iff_ne.mpr c3
  have c3b2 : (l0.length == l1.length) = false := by first | simpa using c3 | (simp at c3 ⊢; omega)
  obtain rfl := Option.some.inj H
  go_enter Try.func84, Try.ntmps84
  go_wp2
  go_ret
  exact fI_ HB.out
def laws_eqStepSS.l0 : Nat → List (List (S175)) → List (List (S175)) → Int → Option (Bool)
  | 0, _, _, _ => none
  | k + 1, x0, x1, x5 => if x5 < (x0.length : Int) then (if 0 ≤ x5 then (if x5 < (x1.length : Int) then ((laws_eqStepS.f k (rd_L4 x0 x5) (rd_L4 x1 x5)).bind fun t291 => (if t291 = true then (laws_eqStepSS.l0 k x0 x1 (wrap64 (x5 + 1))) else (some false))) else (none)) else (none)) else (some true)
def laws_eqStepSS.f (k : Nat) (l0 : List (List (S175))) (l1 : List (List (S175))) : Option (Bool) := if (l0.length : Int) = (l1.length : Int) then (laws_eqStepSS.l0 k l0 l1 0) else (some false)
def laws_eqStepSS.T6 : Bool × List (List Nat × List Nat) := (true, [([], []), ([], []), ([0, 1], [0, 1]), ([2], [2]), ([], []), ([], []), ([4, 5], [4, 5]), ([6], [6]), ([3, 7], [3, 7]), ([8], [8])])
def laws_eqStepSS.B6 : List Nat := [0, 0, 3, 7, 0, 0, 48, 112, 255, 511]
theorem laws_eqStepSS.tab6 : rtab .any (opsOf Try.f29 6) = laws_eqStepSS.T6 := by kernel_rfl
theorem laws_eqStepSS.bits6 : waitsOk laws_eqStepSS.T6.2 laws_eqStepSS.B6 = true := by kernel_rfl
set_option maxHeartbeats 8000000 in
set_option maxRecDepth 100000 in
theorem laws_eqStepSS.calls (k : Nat) (A0 : Option Addr) (c0 : Nat) (l0 : List (List (S175))) (A1 : Option Addr) (c1 : Nat) (l1 : List (List (S175))) (r : Bool) (w : World) (hr0 : Kd.C (Kd.slice 175 k175) w A0 l0.length l0) (hc0 : l0.length ≤ c0) (hr1 : Kd.C (Kd.slice 175 k175) w A1 l1.length l1) (hc1 : l1.length ≤ c1) (h : laws_eqStepSS.f k l0 l1 = some r) :
  Calls Try.prog 29 #[.slice A0 l0.length c0, .slice A1 l1.length c1] w fun e w' => e = .returned (.bool r) ∧ Below w.heap.size w w' := by
 have HR0 := aM_ hr0
 have HC0 := aM_ hc0
 clear hr0 hc0
 have HR1 := aM_ hr1
 have HC1 := aM_ hc1
 clear hr1 hc1
 have HB := aM_ (Below.refl w.heap.size w)
 have H : (if (l0.length : Int) = (l1.length : Int) then (laws_eqStepSS.l0 k l0 l1 0) else (some false)) = some r := h
 clear h
 by_cases c3 : (l0.length : Int) = (l1.length : Int)
 ·rw [if_pos c3] at H
  have c3b0 : ((l0.length : Int) == (l1.length : Int)) = true := beq_iff_eq.mpr c3
  have c3b1 : ((l0.length : Int) != (l1.length : Int)) = false := bne_eq_false_iff_eq.mpr c3
  have c3b2 : (l0.length == l1.length) = true := by first | simpa using c3 | (simp at c3 ⊢; omega)
  clear c3
  have H' := aM_ H
  clear H
  go_enter Try.func29, Try.ntmps29
  go_wp2
  go_loopg [5] k (fun kq v5 w' => ∃ (x5_1 : Int), v5 = .int .i64 x5_1 ∧ Aside0 (laws_eqStepSS.l0 kq l0 l1 x5_1 = some r) ∧ Aside0 (kq ≤ k) ∧ Aside0 (Below w.heap.size w w'))
  case atStart => exact ⟨(0), (by first | rfl | (simp; done) | (simp [*]; done)), H', ⟨Nat.le_refl _⟩, ⟨gW_ HB.out⟩⟩
  case round =>
   clear H'
   try clear c1
   try clear c2
   try clear p2
   try clear c3
   try clear c3b0
   try clear c3b1
   try clear c3b2
   obtain ⟨x5_1, rfl, HA, HK1, HB⟩ := hrel
   cases gk with
   | zero => exact absurd HA.out (by simp [laws_eqStepSS.l0])
   | succ k1 =>
    have H := HA.out
    clear HA
    simp only [laws_eqStepSS.l0] at H
    by_cases c4 : x5_1 < (l0.length : Int)
    ·rw [if_pos c4] at H
     have c4b0 : decide (x5_1 < (l0.length : Int)) = true := decide_eq_true c4
     clear c4
     by_cases c5 : 0 ≤ x5_1
     ·rw [if_pos c5] at H
      have c5b0 : decide (0 ≤ x5_1) = true := decide_eq_true c5
      clear c5
      by_cases c6 : x5_1 < (l1.length : Int)
      ·rw [if_pos c6] at H
       have c6b0 : decide (x5_1 < (l1.length : Int)) = true := decide_eq_true c6
       clear c6
       replace H := Option.bind_eq_some_iff.mp H
       obtain ⟨t291, A70, H⟩ := H
       replace H : (if t291 = true then (laws_eqStepSS.l0 k1 l0 l1 (wrap64 (x5_1 + 1))) else (some false)) = some r := H
       have A7 := aM_ A70
       clear A70
       by_cases c8 : t291 = true
       ·subst c8
        have H1 : (laws_eqStepSS.l0 k1 l0 l1 (wrap64 (x5_1 + 1))) = some r := by rw [if_pos rfl] at H; exact H
        clear H
        have H := H1
        clear H1
        have H' := aM_ H
        clear H
        try go_wp2
        replace HB := aM_ (below_drew1 HB.out)
        have p289 : 0 ≤ (x5_1 : Int) := of_decide_eq_true (by first | (with_reducible assumption) | assumption)
        have q289 : x5_1 < (l0.length : Int) := of_decide_eq_true (by first | (with_reducible assumption) | assumption)
        obtain ⟨ad289, A289_0, c289_0, e289, hx289_0, hl289_0, hi289_0⟩ := at_L4 HR0.out x5_1 p289 q289
        have hw289_0 := hx289_0
        cases e289
        replace hx289_0 := cB_ HB.out hx289_0
        have HR289_0 := aM_ hi289_0
        have HC289_0 := aM_ hl289_0
        clear hi289_0 hl289_0
        replace p289 := eq_true p289
        replace q289 := eq_true q289
        have p290 : 0 ≤ (x5_1 : Int) := of_decide_eq_true (by first | (with_reducible assumption) | assumption)
        have q290 : x5_1 < (l1.length : Int) := of_decide_eq_true (by first | (with_reducible assumption) | assumption)
        obtain ⟨ad290, A290_0, c290_0, e290, hx290_0, hl290_0, hi290_0⟩ := at_L4 HR1.out x5_1 p290 q290
        have hw290_0 := hx290_0
        cases e290
        replace hx290_0 := cB_ HB.out hx290_0
        have HR290_0 := aM_ hi290_0
        have HC290_0 := aM_ hl290_0
        clear hi290_0 hl290_0
        replace p290 := eq_true p290
        replace q290 := eq_true q290
        refine start_ (n := 10) (S := fun w' => w'.cell? (ad289.add (x5_1).toNat) = some (.slice A289_0 (rd_L4 l0 x5_1).length c289_0) ∧ w'.cell? (ad290.add (x5_1).toNat) = some (.slice A290_0 (rd_L4 l1 x5_1).length c290_0)) (ds := []) (mk_ 10 0) (by kernel_rfl) rfl rfl ⟨(cB_ HB.out hw289_0 :), (cB_ HB.out hw290_0 :)⟩ (fun hHeld => ?_); refine with_tabW laws_eqStepSS.tab6 laws_eqStepSS.bits6 (fun HT_ HW_ => ?_)
        generalize wr.drew = w9 at HB HR289_0 HR290_0 hx289_0 hx290_0 hHeld ⊢
        refine pU_ 0 17 (mk_ 10 1) ?_
        refine pU_ 1 18 (mk_ 10 3) ?_
        refine pU_ 2 19 (mk_ 10 7) ?_
        refine pU_ 4 21 (mk_ 10 23) ?_
        refine pU_ 5 22 (mk_ 10 55) ?_
        refine pU_ 6 23 (mk_ 10 119) ?_
        refine tK2_ 3 20 (mk_ 10 127) ?_
        refine tK2_ 7 24 (mk_ 10 255) ?_
        refine oN_ 8 25 (mk_ 10 511) (fun K hK => ?_)
        refine gO_ Try.func84 #[.slice A289_0 (rd_L4 l0 x5_1).length c289_0, .slice A290_0 (rd_L4 l1 x5_1).length c290_0] ?_
        with_reducible refine (laws_eqStepS.calls k1 _ _ (rd_L4 l0 x5_1) _ _ (rd_L4 l1 x5_1) true _ ?side1 ?side2 ?side3 ?side4 A7.out).mono ?_
        (case side1 => exact cS_ (Kd.C_below HR289_0.out HB.out))
        (case side2 => exact HC289_0.out)
        (case side3 => exact cS_ (Kd.C_below HR290_0.out HB.out))
        (case side4 => exact HC290_0.out)
        rintro e w10 ⟨rfl, hb⟩
        refine ⟨_, rfl, ?_⟩
        replace HB := aM_ (sT_ HB.out hb)
        (try clear hb)
        (try clear hb2)
        (try clear hk)
        (try clear hi)
        refine kO_ hK (some 25) ⟨(cB_ HB.out hw289_0 :), (cB_ HB.out hw290_0 :)⟩ (fun hHeld => ?_)
        clear hK K
        refine pU_ 9 26 (mk_ 10 1023) ?_
        refine done_ (done_of HT_.out (by kernel_rfl)) ?_
        try go_wp2
        go_roundg k1
        case measure => have := HK1.out; omega
        case rel => exact ⟨(wrap64 (x5_1 + 1)), (by first | rfl | (simp; done) | (simp [*]; done)), H', ⟨by have := HK1.out; omega⟩, ⟨gW_ HB.out⟩⟩
       ·replace c8 := Bool.eq_false_iff.mpr c8
        subst c8
        have H1 : (some false) = some r := by rw [if_neg (show ¬ (false = true) by decide)] at H; exact H
        clear H
        have H := H1
        clear H1
        obtain rfl := Option.some.inj H
        try go_wp2
        replace HB := aM_ (below_drew1 HB.out)
        have p289 : 0 ≤ (x5_1 : Int) := of_decide_eq_true (by first | (with_reducible assumption) | assumption)
        have q289 : x5_1 < (l0.length : Int) := of_decide_eq_true (by first | (with_reducible assumption) | assumption)
        obtain ⟨ad289, A289_0, c289_0, e289, hx289_0, hl289_0, hi289_0⟩ := at_L4 HR0.out x5_1 p289 q289
        have hw289_0 := hx289_0
        cases e289
        replace hx289_0 := cB_ HB.out hx289_0
        have HR289_0 := aM_ hi289_0
        have HC289_0 := aM_ hl289_0
        clear hi289_0 hl289_0
        replace p289 := eq_true p289
        replace q289 := eq_true q289
        have p290 : 0 ≤ (x5_1 : Int) := of_decide_eq_true (by first | (with_reducible assumption) | assumption)
        have q290 : x5_1 < (l1.length : Int) := of_decide_eq_true (by first | (with_reducible assumption) | assumption)
        obtain ⟨ad290, A290_0, c290_0, e290, hx290_0, hl290_0, hi290_0⟩ := at_L4 HR1.out x5_1 p290 q290
        have hw290_0 := hx290_0
        cases e290
        replace hx290_0 := cB_ HB.out hx290_0
        have HR290_0 := aM_ hi290_0
        have HC290_0 := aM_ hl290_0
        clear hi290_0 hl290_0
        replace p290 := eq_true p290
        replace q290 := eq_true q290
        refine start_ (n := 10) (S := fun w' => w'.cell? (ad289.add (x5_1).toNat) = some (.slice A289_0 (rd_L4 l0 x5_1).length c289_0) ∧ w'.cell? (ad290.add (x5_1).toNat) = some (.slice A290_0 (rd_L4 l1 x5_1).length c290_0)) (ds := []) (mk_ 10 0) (by kernel_rfl) rfl rfl ⟨(cB_ HB.out hw289_0 :), (cB_ HB.out hw290_0 :)⟩ (fun hHeld => ?_); refine with_tabW laws_eqStepSS.tab6 laws_eqStepSS.bits6 (fun HT_ HW_ => ?_)
        generalize wr.drew = w11 at HB HR289_0 HR290_0 hx289_0 hx290_0 hHeld ⊢
        refine pU_ 0 17 (mk_ 10 1) ?_
        refine pU_ 1 18 (mk_ 10 3) ?_
        refine pU_ 2 19 (mk_ 10 7) ?_
        refine pU_ 4 21 (mk_ 10 23) ?_
        refine pU_ 5 22 (mk_ 10 55) ?_
        refine pU_ 6 23 (mk_ 10 119) ?_
        refine tK2_ 3 20 (mk_ 10 127) ?_
        refine tK2_ 7 24 (mk_ 10 255) ?_
        refine oN_ 8 25 (mk_ 10 511) (fun K hK => ?_)
        refine gO_ Try.func84 #[.slice A289_0 (rd_L4 l0 x5_1).length c289_0, .slice A290_0 (rd_L4 l1 x5_1).length c290_0] ?_
        with_reducible refine (laws_eqStepS.calls k1 _ _ (rd_L4 l0 x5_1) _ _ (rd_L4 l1 x5_1) false _ ?side1 ?side2 ?side3 ?side4 A7.out).mono ?_
        (case side1 => exact cS_ (Kd.C_below HR289_0.out HB.out))
        (case side2 => exact HC289_0.out)
        (case side3 => exact cS_ (Kd.C_below HR290_0.out HB.out))
        (case side4 => exact HC290_0.out)
        rintro e w12 ⟨rfl, hb⟩
        refine ⟨_, rfl, ?_⟩
        replace HB := aM_ (sT_ HB.out hb)
        (try clear hb)
        (try clear hb2)
        (try clear hk)
        (try clear hi)
        refine kO_ hK (some 25) ⟨(cB_ HB.out hw289_0 :), (cB_ HB.out hw290_0 :)⟩ (fun hHeld => ?_)
        clear hK K
        refine pU_ 9 26 (mk_ 10 1023) ?_
        refine done_ (done_of HT_.out (by kernel_rfl)) ?_
        try go_wp2
        go_ret
        exact fI_ HB.out
      ·rw [if_neg c6] at H
       exact absurd H (by simp)
     ·rw [if_neg c5] at H
      exact absurd H (by simp)
    ·rw [if_neg c4] at H
     have c4b0 : decide (x5_1 < (l0.length : Int)) = false := decide_eq_false c4
     clear c4
     obtain rfl := Option.some.inj H
     go_wp2
     go_ret
     exact fI_ HB.out
 ·rw [if_neg c3] at H
  have c3b0 : ((l0.length : Int) == (l1.length : Int)) = false := beq_eq_false_iff_ne.mpr c3
  have c3b1 : ((l0.length : Int) != (l1.length : Int)) = true := bne_iff_ne.mpr c3
  have c3b2 : (l0.length == l1.length) = false := by first | simpa using c3 | (simp at c3 ⊢; omega)
  obtain rfl := Option.some.inj H
  go_enter Try.func29, Try.ntmps29
  go_wp2
  go_ret
  exact fI_ HB.out
def laws_eqNote.f (a0_0 : Int) (a0_1 : Int) (a1_0 : Int) (a1_1 : Int) : Option (Bool) := if a0_0 = a1_0 then (if a0_1 = a1_1 then (some true) else (some false)) else (some false)
set_option maxHeartbeats 8000000 in
set_option maxRecDepth 100000 in
theorem laws_eqNote.calls (a0_0 : Int) (a0_1 : Int) (a1_0 : Int) (a1_1 : Int) (r : Bool) (w : World) (h : laws_eqNote.f a0_0 a0_1 a1_0 a1_1 = some r) :
  Calls Try.prog 129 #[.agg #[.int .i64 a0_0, .int .i64 a0_1], .agg #[.int .i64 a1_0, .int .i64 a1_1]] w fun e w' => e = .returned (.bool r) ∧ Below w.heap.size w w' := by
 have hu35 := Try.underlying35
 have HB := aM_ (Below.refl w.heap.size w)
 have H : (if a0_0 = a1_0 then (if a0_1 = a1_1 then (some true) else (some false)) else (some false)) = some r := h
 clear h
 by_cases c3 : a0_0 = a1_0
 ·rw [if_pos c3] at H
  have c3b0 : (a0_0 == a1_0) = true := beq_iff_eq.mpr c3
  have c3b1 : (a0_0 != a1_0) = false := bne_eq_false_iff_eq.mpr c3
  clear c3
  by_cases c4 : a0_1 = a1_1
  ·rw [if_pos c4] at H
   have c4b0 : (a0_1 == a1_1) = true := beq_iff_eq.mpr c4
   have c4b1 : (a0_1 != a1_1) = false := bne_eq_false_iff_eq.mpr c4
   clear c4
   obtain rfl := Option.some.inj H
   go_enter Try.func129, Try.ntmps129
   go_wp2_with (first | ((with_reducible refine gate_dst (N := 2) rfl ?_); refine bX_ 2 (cs := #[.int .i64 a0_0, .int .i64 a0_1]) (t := 35) ?_; intro gb292 hg w5 hbox hb; have BK292 := aM_ (hbox); have GE292 := aM_ (sZ_ hg HB.out); replace HB := aM_ (sT_ HB.out hb); clear hb hbox hg) | ((with_reducible refine gate_dst (N := 3) rfl ?_); refine bX_ 3 (cs := #[.int .i64 a1_0, .int .i64 a1_1]) (t := 35) ?_; intro gb293 hg w6 hbox hb; have BK293 := aM_ (hbox); have GE293 := aM_ (sZ_ hg HB.out); have NB292_293 := aM_ (nL_ hg BK292.out); have NB293_292 := aM_ (nG_ hg BK292.out); replace BK292 := aM_ (nB_ BK292.out hb); replace HB := aM_ (sT_ HB.out hb); clear hb hbox hg; have hnb7 := NB292_293.out; have hnc7 := NB293_292.out; have z_8 := bR2_ BK292.out; have z_9 := bR2_ BK293.out))
   go_ret
   exact fI_ HB.out
  ·rw [if_neg c4] at H
   have c4b0 : (a0_1 == a1_1) = false := beq_eq_false_iff_ne.mpr c4
   have c4b1 : (a0_1 != a1_1) = true := bne_iff_ne.mpr c4
   obtain rfl := Option.some.inj H
   go_enter Try.func129, Try.ntmps129
   go_wp2_with (first | ((with_reducible refine gate_dst (N := 2) rfl ?_); refine bX_ 2 (cs := #[.int .i64 a0_0, .int .i64 a0_1]) (t := 35) ?_; intro gb292 hg w10 hbox hb; have BK292 := aM_ (hbox); have GE292 := aM_ (sZ_ hg HB.out); replace HB := aM_ (sT_ HB.out hb); clear hb hbox hg) | ((with_reducible refine gate_dst (N := 3) rfl ?_); refine bX_ 3 (cs := #[.int .i64 a1_0, .int .i64 a1_1]) (t := 35) ?_; intro gb293 hg w11 hbox hb; have BK293 := aM_ (hbox); have GE293 := aM_ (sZ_ hg HB.out); have NB292_293 := aM_ (nL_ hg BK292.out); have NB293_292 := aM_ (nG_ hg BK292.out); replace BK292 := aM_ (nB_ BK292.out hb); replace HB := aM_ (sT_ HB.out hb); clear hb hbox hg; have hnb12 := NB292_293.out; have hnc12 := NB293_292.out; have z_13 := bR2_ BK292.out; have z_14 := bR2_ BK293.out))
   go_ret
   exact fI_ HB.out
 ·rw [if_neg c3] at H
  have c3b0 : (a0_0 == a1_0) = false := beq_eq_false_iff_ne.mpr c3
  have c3b1 : (a0_0 != a1_0) = true := bne_iff_ne.mpr c3
  obtain rfl := Option.some.inj H
  go_enter Try.func129, Try.ntmps129
  go_wp2_with (first | ((with_reducible refine gate_dst (N := 2) rfl ?_); refine bX_ 2 (cs := #[.int .i64 a0_0, .int .i64 a0_1]) (t := 35) ?_; intro gb292 hg w15 hbox hb; have BK292 := aM_ (hbox); have GE292 := aM_ (sZ_ hg HB.out); replace HB := aM_ (sT_ HB.out hb); clear hb hbox hg) | ((with_reducible refine gate_dst (N := 3) rfl ?_); refine bX_ 3 (cs := #[.int .i64 a1_0, .int .i64 a1_1]) (t := 35) ?_; intro gb293 hg w16 hbox hb; have BK293 := aM_ (hbox); have GE293 := aM_ (sZ_ hg HB.out); have NB292_293 := aM_ (nL_ hg BK292.out); have NB293_292 := aM_ (nG_ hg BK292.out); replace BK292 := aM_ (nB_ BK292.out hb); replace HB := aM_ (sT_ HB.out hb); clear hb hbox hg; have hnb17 := NB292_293.out; have hnc17 := NB293_292.out; have z_18 := bR2_ BK292.out; have z_19 := bR2_ BK293.out))
  go_ret
  exact fI_ HB.out
end Go.Proofs.Ytobachfngmpeiaa.PFnExactMachineNew
