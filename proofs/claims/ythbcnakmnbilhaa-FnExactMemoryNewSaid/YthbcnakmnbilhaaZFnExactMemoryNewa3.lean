/- A part of the proof that the law FnExactMemoryNew holds for every input: the words, functions and walks that its row needs, without a condition of their own. -/
import Derived.Test.YthbcnakmnbilhaaZFnExactMemoryNewa1
import Derived.Test.YthbcnakmnbilhaaZFnExactMemoryNewa2
import Derived.Test.YthbcnakmnbilhaaZFnExactMemoryNews
namespace Go.Proofs.Ythbcnakmnbilhaa.PFnExactMemoryNew
open Go.RowKit Go.Proofs.YthbcnakmnbilhaaW.PrintWords Go.Proofs.YthbcnakmnbilhaaW.PrintLast Go.Proofs.YthbcnakmnbilhaaW.PrintMore
attribute [local go_sem] max2_int min2_int max_two min_two max_three min_three max_four min_four   -- for this text's walks alone
set_option linter.unusedVariables false
set_option linter.unusedSimpArgs false
def laws_eqWriteS.l0 : Nat → List (S43) → List (S43) → Int → Option (Bool)
  | 0, _, _, _ => none
  | k + 1, x0, x1, x5 => if x5 < (x0.length : Int) then (if 0 ≤ x5 then (if x5 < (x1.length : Int) then ((laws_eqWrite.f k ((rd_T43 x0 x5).f0) ((rd_T43 x0 x5).f1) ((rd_T43 x1 x5).f0) ((rd_T43 x1 x5).f1)).bind fun t130 => (if t130 = true then (laws_eqWriteS.l0 k x0 x1 (wrap64 (x5 + 1))) else (some false))) else (none)) else (none)) else (some true)
def laws_eqWriteS.f (k : Nat) (l0 : List (S43)) (l1 : List (S43)) : Option (Bool) := if (l0.length : Int) = (l1.length : Int) then (laws_eqWriteS.l0 k l0 l1 0) else (some false)
def laws_eqWriteS.T6 : Bool × List (List Nat × List Nat) := (true, [([], []), ([], []), ([0, 1], [0, 1]), ([2], [2]), ([], []), ([], []), ([4, 5], [4, 5]), ([6], [6]), ([3, 7], [3, 7]), ([8], [8])])
def laws_eqWriteS.B6 : List Nat := [0, 0, 3, 7, 0, 0, 48, 112, 255, 511]
theorem laws_eqWriteS.tab6 : rtab .any (opsOf Try.f91 6) = laws_eqWriteS.T6 := by kernel_rfl
theorem laws_eqWriteS.bits6 : waitsOk laws_eqWriteS.T6.2 laws_eqWriteS.B6 = true := by kernel_rfl
set_option maxHeartbeats 8000000 in
set_option maxRecDepth 100000 in
theorem laws_eqWriteS.calls (k : Nat) (A0 : Option Addr) (c0 : Nat) (l0 : List (S43)) (A1 : Option Addr) (c1 : Nat) (l1 : List (S43)) (r : Bool) (w : World) (hr0 : Kd.C k43 w A0 l0.length l0) (hc0 : l0.length ≤ c0) (hr1 : Kd.C k43 w A1 l1.length l1) (hc1 : l1.length ≤ c1) (h : laws_eqWriteS.f k l0 l1 = some r) :
  Calls Try.prog 91 #[.slice A0 l0.length c0, .slice A1 l1.length c1] w fun e w' => e = .returned (.bool r) ∧ Below w.heap.size w w' := by
 have hu43 := Try.underlying43
 have HR0 := aM_ hr0
 have HC0 := aM_ hc0
 clear hr0 hc0
 have HR1 := aM_ hr1
 have HC1 := aM_ hc1
 clear hr1 hc1
 have HB := aM_ (Below.refl w.heap.size w)
 have H : (if (l0.length : Int) = (l1.length : Int) then (laws_eqWriteS.l0 k l0 l1 0) else (some false)) = some r := h
 clear h
 by_cases c3 : (l0.length : Int) = (l1.length : Int)
 ·rw [if_pos c3] at H
  have c3b0 : ((l0.length : Int) == (l1.length : Int)) = true := beq_iff_eq.mpr c3
  have c3b1 : ((l0.length : Int) != (l1.length : Int)) = false := bne_eq_false_iff_eq.mpr c3
  have c3b2 : (l0.length == l1.length) = true := by first | simpa using c3 | (simp at c3 ⊢; omega)
  clear c3
  have H' := aM_ H
  clear H
  go_enter Try.func91, Try.ntmps91
  go_wp2
  go_loopg [5] k (fun kq v5 w' => ∃ (x5_1 : Int), v5 = .int .i64 x5_1 ∧ Aside0 (laws_eqWriteS.l0 kq l0 l1 x5_1 = some r) ∧ Aside0 (kq ≤ k) ∧ Aside0 (Below w.heap.size w w'))
  case atStart => exact ⟨(0), (by first | rfl | (simp; done) | (simp [*]; done)), H', ⟨Nat.le_refl _⟩, ⟨gW_ HB.out⟩⟩
  case round =>
   clear H'
   try clear c1
   try clear p2
   try clear c3
   try clear c3b0
   try clear c3b1
   try clear c3b2
   obtain ⟨x5_1, rfl, HA, HK1, HB⟩ := hrel
   cases gk with
   | zero => exact absurd HA.out (by simp [laws_eqWriteS.l0])
   | succ k1 =>
    have H := HA.out
    clear HA
    simp only [laws_eqWriteS.l0] at H
    by_cases c4 : x5_1 < (l0.length : Int)
    ·rw [if_pos c4] at H
     have c4b0 : decide (x5_1 < (l0.length : Int)) = true := decide_eq_true c4
     clear c4
     by_cases c5 : 0 ≤ x5_1
     ·rw [if_pos c5] at H
      have c5b0 : decide (0 ≤ x5_1) = true := decide_eq_true c5
      clear c5
      by_cases c6 : x5_1 < (l1.length : Int)
      ·rw [if_pos c6] at H
       have c6b0 : decide (x5_1 < (l1.length : Int)) = true := decide_eq_true c6
       clear c6
       replace H := Option.bind_eq_some_iff.mp H
       obtain ⟨t130, A70, H⟩ := H
       replace H : (if t130 = true then (laws_eqWriteS.l0 k1 l0 l1 (wrap64 (x5_1 + 1))) else (some false)) = some r := H
       have A7 := aM_ A70
       clear A70
       by_cases c8 : t130 = true
       ·subst c8
        have H1 : (laws_eqWriteS.l0 k1 l0 l1 (wrap64 (x5_1 + 1))) = some r := by rw [if_pos rfl] at H; exact H
        clear H
        have H := H1
        clear H1
        have H' := aM_ H
        clear H
        try go_wp2
        have n0 := aM_ (below_drew1 HB.out)
        clear HB
        have HB := n0
        clear n0
        have p128 : 0 ≤ (x5_1 : Int) := of_decide_eq_true (by first | (with_reducible assumption) | assumption)
        have q128 : x5_1 < (l0.length : Int) := of_decide_eq_true (by first | (with_reducible assumption) | assumption)
        obtain ⟨ad128, A128_1, c128_1, e128, hx128_0, hx128_1, hl128_1, hi128_1⟩ := at_T43 HR0.out x5_1 p128 q128
        have hw128_1 := hx128_1
        have hw128_0 := hx128_0
        cases e128
        replace hx128_0 := cB_ HB.out hx128_0
        replace hx128_1 := cB_ HB.out hx128_1
        have HR128_1 := aM_ hi128_1
        have HC128_1 := aM_ hl128_1
        clear hi128_1 hl128_1
        replace p128 := eq_true p128
        replace q128 := eq_true q128
        have p129 : 0 ≤ (x5_1 : Int) := of_decide_eq_true (by first | (with_reducible assumption) | assumption)
        have q129 : x5_1 < (l1.length : Int) := of_decide_eq_true (by first | (with_reducible assumption) | assumption)
        obtain ⟨ad129, A129_1, c129_1, e129, hx129_0, hx129_1, hl129_1, hi129_1⟩ := at_T43 HR1.out x5_1 p129 q129
        have hw129_1 := hx129_1
        have hw129_0 := hx129_0
        cases e129
        replace hx129_0 := cB_ HB.out hx129_0
        replace hx129_1 := cB_ HB.out hx129_1
        have HR129_1 := aM_ hi129_1
        have HC129_1 := aM_ hl129_1
        clear hi129_1 hl129_1
        replace p129 := eq_true p129
        replace q129 := eq_true q129
        refine start_ (n := 10) (S := fun w' => w'.cell? (ad128.add ((x5_1).toNat * 2)) = some (.int .i64 ((rd_T43 l0 x5_1).f0)) ∧ w'.cell? ⟨(ad128.add ((x5_1).toNat * 2)).block, (ad128.add ((x5_1).toNat * 2)).off + 1, none⟩ = some (.slice A128_1 ((rd_T43 l0 x5_1).f1).length c128_1) ∧ w'.cell? (ad129.add ((x5_1).toNat * 2)) = some (.int .i64 ((rd_T43 l1 x5_1).f0)) ∧ w'.cell? ⟨(ad129.add ((x5_1).toNat * 2)).block, (ad129.add ((x5_1).toNat * 2)).off + 1, none⟩ = some (.slice A129_1 ((rd_T43 l1 x5_1).f1).length c129_1)) (ds := []) (mk_ 10 0) (by kernel_rfl) rfl rfl ⟨(cB_ HB.out hw128_0 :), (cB_ HB.out hw128_1 :), (cB_ HB.out hw129_0 :), (cB_ HB.out hw129_1 :)⟩ (fun hHeld => ?_); refine with_tabW laws_eqWriteS.tab6 laws_eqWriteS.bits6 (fun HT_ HW_ => ?_)
        generalize wr.drew = w9 at HB HR128_1 HR129_1 hx128_0 hx128_1 hx129_0 hx129_1 hHeld ⊢
        refine pU_ 0 (some 17) (mk_ 10 1) ?_
        refine pU_ 1 (some 18) (mk_ 10 3) ?_
        refine pU_ 2 (some 19) (mk_ 10 7) ?_
        refine pU_ 4 (some 21) (mk_ 10 23) ?_
        refine pU_ 5 (some 22) (mk_ 10 55) ?_
        refine pU_ 6 (some 23) (mk_ 10 119) ?_
        refine tK4_ 3 (some 20) (mk_ 10 127) ?_
        refine tK4_ 7 (some 24) (mk_ 10 255) ?_
        refine oN_ 8 (some 25) (mk_ 10 511) (fun K hK => ?_)
        refine gO_ Try.func112 #[.agg #[.int .i64 ((rd_T43 l0 x5_1).f0), .slice A128_1 ((rd_T43 l0 x5_1).f1).length c128_1], .agg #[.int .i64 ((rd_T43 l1 x5_1).f0), .slice A129_1 ((rd_T43 l1 x5_1).f1).length c129_1]] ?_
        with_reducible refine (laws_eqWrite.calls k1 ((rd_T43 l0 x5_1).f0) _ _ ((rd_T43 l0 x5_1).f1) ((rd_T43 l1 x5_1).f0) _ _ ((rd_T43 l1 x5_1).f1) true _ ?side1 ?side2 ?side3 ?side4 A7.out).mono ?_
        (case side1 => exact cS_ (Kd.C_below HR128_1.out HB.out))
        (case side2 => exact HC128_1.out)
        (case side3 => exact cS_ (Kd.C_below HR129_1.out HB.out))
        (case side4 => exact HC129_1.out)
        rintro e w10 ⟨rfl, hb⟩
        refine ⟨_, rfl, ?_⟩
        have n0 := aM_ (sT_ HB.out hb)
        clear HB
        have HB := n0
        clear n0
        (try clear hb)
        (try clear hb2)
        (try clear hk)
        (try clear hi)
        refine hK.out _ _ ⟨(cB_ HB.out hw128_0 :), (cB_ HB.out hw128_1 :), (cB_ HB.out hw129_0 :), (cB_ HB.out hw129_1 :)⟩ (fun hHeld => ?_)
        clear hK K
        refine norm_ (a' := ?_) ?_ ?_
        rotate_left
        ·show Act.put _ (some 25) _ = _
         simp only [pt_, pn_, sI_, s0_, s1_, i64_w, i32_w]
         rfl
        refine pU_ 9 (some 26) (mk_ 10 1023) ?_
        refine done_ (done_of HT_.out (by kernel_rfl)) ?_
        try go_wp2
        go_roundg k1
        case measure => have := HK1.out; omega
        case rel => exact ⟨(wrap64 (x5_1 + 1)), (by first | rfl | (simp; done) | (simp [*]; done)), H', ⟨by have := HK1.out; omega⟩, ⟨gW_ HB.out⟩⟩
       ·replace c8 := Bool.eq_false_iff.mpr c8
        subst c8
        have H1 : (some false) = some r := by rw [if_neg (show ¬ (false = true) by decide)] at H; exact H
        clear H
        have H := H1
        clear H1
        obtain rfl := Option.some.inj H
        try go_wp2
        have n0 := aM_ (below_drew1 HB.out)
        clear HB
        have HB := n0
        clear n0
        have p128 : 0 ≤ (x5_1 : Int) := of_decide_eq_true (by first | (with_reducible assumption) | assumption)
        have q128 : x5_1 < (l0.length : Int) := of_decide_eq_true (by first | (with_reducible assumption) | assumption)
        obtain ⟨ad128, A128_1, c128_1, e128, hx128_0, hx128_1, hl128_1, hi128_1⟩ := at_T43 HR0.out x5_1 p128 q128
        have hw128_1 := hx128_1
        have hw128_0 := hx128_0
        cases e128
        replace hx128_0 := cB_ HB.out hx128_0
        replace hx128_1 := cB_ HB.out hx128_1
        have HR128_1 := aM_ hi128_1
        have HC128_1 := aM_ hl128_1
        clear hi128_1 hl128_1
        replace p128 := eq_true p128
        replace q128 := eq_true q128
        have p129 : 0 ≤ (x5_1 : Int) := of_decide_eq_true (by first | (with_reducible assumption) | assumption)
        have q129 : x5_1 < (l1.length : Int) := of_decide_eq_true (by first | (with_reducible assumption) | assumption)
        obtain ⟨ad129, A129_1, c129_1, e129, hx129_0, hx129_1, hl129_1, hi129_1⟩ := at_T43 HR1.out x5_1 p129 q129
        have hw129_1 := hx129_1
        have hw129_0 := hx129_0
        cases e129
        replace hx129_0 := cB_ HB.out hx129_0
        replace hx129_1 := cB_ HB.out hx129_1
        have HR129_1 := aM_ hi129_1
        have HC129_1 := aM_ hl129_1
        clear hi129_1 hl129_1
        replace p129 := eq_true p129
        replace q129 := eq_true q129
        refine start_ (n := 10) (S := fun w' => w'.cell? (ad128.add ((x5_1).toNat * 2)) = some (.int .i64 ((rd_T43 l0 x5_1).f0)) ∧ w'.cell? ⟨(ad128.add ((x5_1).toNat * 2)).block, (ad128.add ((x5_1).toNat * 2)).off + 1, none⟩ = some (.slice A128_1 ((rd_T43 l0 x5_1).f1).length c128_1) ∧ w'.cell? (ad129.add ((x5_1).toNat * 2)) = some (.int .i64 ((rd_T43 l1 x5_1).f0)) ∧ w'.cell? ⟨(ad129.add ((x5_1).toNat * 2)).block, (ad129.add ((x5_1).toNat * 2)).off + 1, none⟩ = some (.slice A129_1 ((rd_T43 l1 x5_1).f1).length c129_1)) (ds := []) (mk_ 10 0) (by kernel_rfl) rfl rfl ⟨(cB_ HB.out hw128_0 :), (cB_ HB.out hw128_1 :), (cB_ HB.out hw129_0 :), (cB_ HB.out hw129_1 :)⟩ (fun hHeld => ?_); refine with_tabW laws_eqWriteS.tab6 laws_eqWriteS.bits6 (fun HT_ HW_ => ?_)
        generalize wr.drew = w11 at HB HR128_1 HR129_1 hx128_0 hx128_1 hx129_0 hx129_1 hHeld ⊢
        refine pU_ 0 (some 17) (mk_ 10 1) ?_
        refine pU_ 1 (some 18) (mk_ 10 3) ?_
        refine pU_ 2 (some 19) (mk_ 10 7) ?_
        refine pU_ 4 (some 21) (mk_ 10 23) ?_
        refine pU_ 5 (some 22) (mk_ 10 55) ?_
        refine pU_ 6 (some 23) (mk_ 10 119) ?_
        refine tK4_ 3 (some 20) (mk_ 10 127) ?_
        refine tK4_ 7 (some 24) (mk_ 10 255) ?_
        refine oN_ 8 (some 25) (mk_ 10 511) (fun K hK => ?_)
        refine gO_ Try.func112 #[.agg #[.int .i64 ((rd_T43 l0 x5_1).f0), .slice A128_1 ((rd_T43 l0 x5_1).f1).length c128_1], .agg #[.int .i64 ((rd_T43 l1 x5_1).f0), .slice A129_1 ((rd_T43 l1 x5_1).f1).length c129_1]] ?_
        with_reducible refine (laws_eqWrite.calls k1 ((rd_T43 l0 x5_1).f0) _ _ ((rd_T43 l0 x5_1).f1) ((rd_T43 l1 x5_1).f0) _ _ ((rd_T43 l1 x5_1).f1) false _ ?side1 ?side2 ?side3 ?side4 A7.out).mono ?_
        (case side1 => exact cS_ (Kd.C_below HR128_1.out HB.out))
        (case side2 => exact HC128_1.out)
        (case side3 => exact cS_ (Kd.C_below HR129_1.out HB.out))
        (case side4 => exact HC129_1.out)
        rintro e w12 ⟨rfl, hb⟩
        refine ⟨_, rfl, ?_⟩
        have n0 := aM_ (sT_ HB.out hb)
        clear HB
        have HB := n0
        clear n0
        (try clear hb)
        (try clear hb2)
        (try clear hk)
        (try clear hi)
        refine hK.out _ _ ⟨(cB_ HB.out hw128_0 :), (cB_ HB.out hw128_1 :), (cB_ HB.out hw129_0 :), (cB_ HB.out hw129_1 :)⟩ (fun hHeld => ?_)
        clear hK K
        refine norm_ (a' := ?_) ?_ ?_
        rotate_left
        ·show Act.put _ (some 25) _ = _
         simp only [pt_, pn_, sI_, s0_, s1_, i64_w, i32_w]
         rfl
        refine pU_ 9 (some 26) (mk_ 10 1023) ?_
        refine done_ (done_of HT_.out (by kernel_rfl)) ?_
        try go_wp2
        go_ret
        exact fI_ HB.out
      ·rw [if_neg c6] at H
       exact absurd H (by simp)
     ·rw [if_neg c5] at H
      exact absurd H (by simp)
    ·rw [if_neg c4] at H
     have c4b0 : decide (x5_1 < (l0.length : Int)) = false := decide_eq_false c4
     clear c4
     obtain rfl := Option.some.inj H
     go_wp2
     go_ret
     exact fI_ HB.out
 ·rw [if_neg c3] at H
  have c3b0 : ((l0.length : Int) == (l1.length : Int)) = false := beq_eq_false_iff_ne.mpr c3
  have c3b1 : ((l0.length : Int) != (l1.length : Int)) = true := bne_iff_ne.mpr c3
  have c3b2 : (l0.length == l1.length) = false := by first | simpa using c3 | (simp at c3 ⊢; omega)
  obtain rfl := Option.some.inj H
  go_enter Try.func91, Try.ntmps91
  go_wp2
  go_ret
  exact fI_ HB.out
def laws_eqWriteSS.l0 : Nat → List (List (S43)) → List (List (S43)) → Int → Option (Bool)
  | 0, _, _, _ => none
  | k + 1, x0, x1, x5 => if x5 < (x0.length : Int) then (if 0 ≤ x5 then (if x5 < (x1.length : Int) then ((laws_eqWriteS.f k (rd_L3 x0 x5) (rd_L3 x1 x5)).bind fun t133 => (if t133 = true then (laws_eqWriteSS.l0 k x0 x1 (wrap64 (x5 + 1))) else (some false))) else (none)) else (none)) else (some true)
def laws_eqWriteSS.f (k : Nat) (l0 : List (List (S43))) (l1 : List (List (S43))) : Option (Bool) := if (l0.length : Int) = (l1.length : Int) then (laws_eqWriteSS.l0 k l0 l1 0) else (some false)
def laws_eqWriteSS.T6 : Bool × List (List Nat × List Nat) := (true, [([], []), ([], []), ([0, 1], [0, 1]), ([2], [2]), ([], []), ([], []), ([4, 5], [4, 5]), ([6], [6]), ([3, 7], [3, 7]), ([8], [8])])
def laws_eqWriteSS.B6 : List Nat := [0, 0, 3, 7, 0, 0, 48, 112, 255, 511]
theorem laws_eqWriteSS.tab6 : rtab .any (opsOf Try.f52 6) = laws_eqWriteSS.T6 := by kernel_rfl
theorem laws_eqWriteSS.bits6 : waitsOk laws_eqWriteSS.T6.2 laws_eqWriteSS.B6 = true := by kernel_rfl
set_option maxHeartbeats 8000000 in
set_option maxRecDepth 100000 in
theorem laws_eqWriteSS.calls (k : Nat) (A0 : Option Addr) (c0 : Nat) (l0 : List (List (S43))) (A1 : Option Addr) (c1 : Nat) (l1 : List (List (S43))) (r : Bool) (w : World) (hr0 : Kd.C (Kd.slice 43 k43) w A0 l0.length l0) (hc0 : l0.length ≤ c0) (hr1 : Kd.C (Kd.slice 43 k43) w A1 l1.length l1) (hc1 : l1.length ≤ c1) (h : laws_eqWriteSS.f k l0 l1 = some r) :
  Calls Try.prog 52 #[.slice A0 l0.length c0, .slice A1 l1.length c1] w fun e w' => e = .returned (.bool r) ∧ Below w.heap.size w w' := by
 have HR0 := aM_ hr0
 have HC0 := aM_ hc0
 clear hr0 hc0
 have HR1 := aM_ hr1
 have HC1 := aM_ hc1
 clear hr1 hc1
 have HB := aM_ (Below.refl w.heap.size w)
 have H : (if (l0.length : Int) = (l1.length : Int) then (laws_eqWriteSS.l0 k l0 l1 0) else (some false)) = some r := h
 clear h
 by_cases c3 : (l0.length : Int) = (l1.length : Int)
 ·rw [if_pos c3] at H
  have c3b0 : ((l0.length : Int) == (l1.length : Int)) = true := beq_iff_eq.mpr c3
  have c3b1 : ((l0.length : Int) != (l1.length : Int)) = false := bne_eq_false_iff_eq.mpr c3
  have c3b2 : (l0.length == l1.length) = true := by first | simpa using c3 | (simp at c3 ⊢; omega)
  clear c3
  have H' := aM_ H
  clear H
  go_enter Try.func52, Try.ntmps52
  go_wp2
  go_loopg [5] k (fun kq v5 w' => ∃ (x5_1 : Int), v5 = .int .i64 x5_1 ∧ Aside0 (laws_eqWriteSS.l0 kq l0 l1 x5_1 = some r) ∧ Aside0 (kq ≤ k) ∧ Aside0 (Below w.heap.size w w'))
  case atStart => exact ⟨(0), (by first | rfl | (simp; done) | (simp [*]; done)), H', ⟨Nat.le_refl _⟩, ⟨gW_ HB.out⟩⟩
  case round =>
   clear H'
   try clear c1
   try clear p2
   try clear c3
   try clear c3b0
   try clear c3b1
   try clear c3b2
   obtain ⟨x5_1, rfl, HA, HK1, HB⟩ := hrel
   cases gk with
   | zero => exact absurd HA.out (by simp [laws_eqWriteSS.l0])
   | succ k1 =>
    have H := HA.out
    clear HA
    simp only [laws_eqWriteSS.l0] at H
    by_cases c4 : x5_1 < (l0.length : Int)
    ·rw [if_pos c4] at H
     have c4b0 : decide (x5_1 < (l0.length : Int)) = true := decide_eq_true c4
     clear c4
     by_cases c5 : 0 ≤ x5_1
     ·rw [if_pos c5] at H
      have c5b0 : decide (0 ≤ x5_1) = true := decide_eq_true c5
      clear c5
      by_cases c6 : x5_1 < (l1.length : Int)
      ·rw [if_pos c6] at H
       have c6b0 : decide (x5_1 < (l1.length : Int)) = true := decide_eq_true c6
       clear c6
       replace H := Option.bind_eq_some_iff.mp H
       obtain ⟨t133, A70, H⟩ := H
       replace H : (if t133 = true then (laws_eqWriteSS.l0 k1 l0 l1 (wrap64 (x5_1 + 1))) else (some false)) = some r := H
       have A7 := aM_ A70
       clear A70
       by_cases c8 : t133 = true
       ·subst c8
        have H1 : (laws_eqWriteSS.l0 k1 l0 l1 (wrap64 (x5_1 + 1))) = some r := by rw [if_pos rfl] at H; exact H
        clear H
        have H := H1
        clear H1
        have H' := aM_ H
        clear H
        try go_wp2
        have n0 := aM_ (below_drew1 HB.out)
        clear HB
        have HB := n0
        clear n0
        have p131 : 0 ≤ (x5_1 : Int) := of_decide_eq_true (by first | (with_reducible assumption) | assumption)
        have q131 : x5_1 < (l0.length : Int) := of_decide_eq_true (by first | (with_reducible assumption) | assumption)
        obtain ⟨ad131, A131_0, c131_0, e131, hx131_0, hl131_0, hi131_0⟩ := at_L3 HR0.out x5_1 p131 q131
        have hw131_0 := hx131_0
        cases e131
        replace hx131_0 := cB_ HB.out hx131_0
        have HR131_0 := aM_ hi131_0
        have HC131_0 := aM_ hl131_0
        clear hi131_0 hl131_0
        replace p131 := eq_true p131
        replace q131 := eq_true q131
        have p132 : 0 ≤ (x5_1 : Int) := of_decide_eq_true (by first | (with_reducible assumption) | assumption)
        have q132 : x5_1 < (l1.length : Int) := of_decide_eq_true (by first | (with_reducible assumption) | assumption)
        obtain ⟨ad132, A132_0, c132_0, e132, hx132_0, hl132_0, hi132_0⟩ := at_L3 HR1.out x5_1 p132 q132
        have hw132_0 := hx132_0
        cases e132
        replace hx132_0 := cB_ HB.out hx132_0
        have HR132_0 := aM_ hi132_0
        have HC132_0 := aM_ hl132_0
        clear hi132_0 hl132_0
        replace p132 := eq_true p132
        replace q132 := eq_true q132
        refine start_ (n := 10) (S := fun w' => w'.cell? (ad131.add (x5_1).toNat) = some (.slice A131_0 (rd_L3 l0 x5_1).length c131_0) ∧ w'.cell? (ad132.add (x5_1).toNat) = some (.slice A132_0 (rd_L3 l1 x5_1).length c132_0)) (ds := []) (mk_ 10 0) (by kernel_rfl) rfl rfl ⟨(cB_ HB.out hw131_0 :), (cB_ HB.out hw132_0 :)⟩ (fun hHeld => ?_); refine with_tabW laws_eqWriteSS.tab6 laws_eqWriteSS.bits6 (fun HT_ HW_ => ?_)
        generalize wr.drew = w9 at HB HR131_0 HR132_0 hx131_0 hx132_0 hHeld ⊢
        refine pU_ 0 (some 17) (mk_ 10 1) ?_
        refine pU_ 1 (some 18) (mk_ 10 3) ?_
        refine pU_ 2 (some 19) (mk_ 10 7) ?_
        refine pU_ 4 (some 21) (mk_ 10 23) ?_
        refine pU_ 5 (some 22) (mk_ 10 55) ?_
        refine pU_ 6 (some 23) (mk_ 10 119) ?_
        refine tK2_ 3 (some 20) (mk_ 10 127) ?_
        refine tK2_ 7 (some 24) (mk_ 10 255) ?_
        refine oN_ 8 (some 25) (mk_ 10 511) (fun K hK => ?_)
        refine gO_ Try.func91 #[.slice A131_0 (rd_L3 l0 x5_1).length c131_0, .slice A132_0 (rd_L3 l1 x5_1).length c132_0] ?_
        with_reducible refine (laws_eqWriteS.calls k1 _ _ (rd_L3 l0 x5_1) _ _ (rd_L3 l1 x5_1) true _ ?side1 ?side2 ?side3 ?side4 A7.out).mono ?_
        (case side1 => exact cS_ (Kd.C_below HR131_0.out HB.out))
        (case side2 => exact HC131_0.out)
        (case side3 => exact cS_ (Kd.C_below HR132_0.out HB.out))
        (case side4 => exact HC132_0.out)
        rintro e w10 ⟨rfl, hb⟩
        refine ⟨_, rfl, ?_⟩
        have n0 := aM_ (sT_ HB.out hb)
        clear HB
        have HB := n0
        clear n0
        (try clear hb)
        (try clear hb2)
        (try clear hk)
        (try clear hi)
        refine hK.out _ _ ⟨(cB_ HB.out hw131_0 :), (cB_ HB.out hw132_0 :)⟩ (fun hHeld => ?_)
        clear hK K
        refine norm_ (a' := ?_) ?_ ?_
        rotate_left
        ·show Act.put _ (some 25) _ = _
         simp only [pt_, pn_, sI_, s0_, s1_, i64_w, i32_w]
         rfl
        refine pU_ 9 (some 26) (mk_ 10 1023) ?_
        refine done_ (done_of HT_.out (by kernel_rfl)) ?_
        try go_wp2
        go_roundg k1
        case measure => have := HK1.out; omega
        case rel => exact ⟨(wrap64 (x5_1 + 1)), (by first | rfl | (simp; done) | (simp [*]; done)), H', ⟨by have := HK1.out; omega⟩, ⟨gW_ HB.out⟩⟩
       ·replace c8 := Bool.eq_false_iff.mpr c8
        subst c8
        have H1 : (some false) = some r := by rw [if_neg (show ¬ (false = true) by decide)] at H; exact H
        clear H
        have H := H1
        clear H1
        obtain rfl := Option.some.inj H
        try go_wp2
        have n0 := aM_ (below_drew1 HB.out)
        clear HB
        have HB := n0
        clear n0
        have p131 : 0 ≤ (x5_1 : Int) := of_decide_eq_true (by first | (with_reducible assumption) | assumption)
        have q131 : x5_1 < (l0.length : Int) := of_decide_eq_true (by first | (with_reducible assumption) | assumption)
        obtain ⟨ad131, A131_0, c131_0, e131, hx131_0, hl131_0, hi131_0⟩ := at_L3 HR0.out x5_1 p131 q131
        have hw131_0 := hx131_0
        cases e131
        replace hx131_0 := cB_ HB.out hx131_0
        have HR131_0 := aM_ hi131_0
        have HC131_0 := aM_ hl131_0
        clear hi131_0 hl131_0
        replace p131 := eq_true p131
        replace q131 := eq_true q131
        have p132 : 0 ≤ (x5_1 : Int) := of_decide_eq_true (by first | (with_reducible assumption) | assumption)
        have q132 : x5_1 < (l1.length : Int) := of_decide_eq_true (by first | (with_reducible assumption) | assumption)
        obtain ⟨ad132, A132_0, c132_0, e132, hx132_0, hl132_0, hi132_0⟩ := at_L3 HR1.out x5_1 p132 q132
        have hw132_0 := hx132_0
        cases e132
        replace hx132_0 := cB_ HB.out hx132_0
        have HR132_0 := aM_ hi132_0
        have HC132_0 := aM_ hl132_0
        clear hi132_0 hl132_0
        replace p132 := eq_true p132
        replace q132 := eq_true q132
        refine start_ (n := 10) (S := fun w' => w'.cell? (ad131.add (x5_1).toNat) = some (.slice A131_0 (rd_L3 l0 x5_1).length c131_0) ∧ w'.cell? (ad132.add (x5_1).toNat) = some (.slice A132_0 (rd_L3 l1 x5_1).length c132_0)) (ds := []) (mk_ 10 0) (by kernel_rfl) rfl rfl ⟨(cB_ HB.out hw131_0 :), (cB_ HB.out hw132_0 :)⟩ (fun hHeld => ?_); refine with_tabW laws_eqWriteSS.tab6 laws_eqWriteSS.bits6 (fun HT_ HW_ => ?_)
        generalize wr.drew = w11 at HB HR131_0 HR132_0 hx131_0 hx132_0 hHeld ⊢
        refine pU_ 0 (some 17) (mk_ 10 1) ?_
        refine pU_ 1 (some 18) (mk_ 10 3) ?_
        refine pU_ 2 (some 19) (mk_ 10 7) ?_
        refine pU_ 4 (some 21) (mk_ 10 23) ?_
        refine pU_ 5 (some 22) (mk_ 10 55) ?_
        refine pU_ 6 (some 23) (mk_ 10 119) ?_
        refine tK2_ 3 (some 20) (mk_ 10 127) ?_
        refine tK2_ 7 (some 24) (mk_ 10 255) ?_
        refine oN_ 8 (some 25) (mk_ 10 511) (fun K hK => ?_)
        refine gO_ Try.func91 #[.slice A131_0 (rd_L3 l0 x5_1).length c131_0, .slice A132_0 (rd_L3 l1 x5_1).length c132_0] ?_
        with_reducible refine (laws_eqWriteS.calls k1 _ _ (rd_L3 l0 x5_1) _ _ (rd_L3 l1 x5_1) false _ ?side1 ?side2 ?side3 ?side4 A7.out).mono ?_
        (case side1 => exact cS_ (Kd.C_below HR131_0.out HB.out))
        (case side2 => exact HC131_0.out)
        (case side3 => exact cS_ (Kd.C_below HR132_0.out HB.out))
        (case side4 => exact HC132_0.out)
        rintro e w12 ⟨rfl, hb⟩
        refine ⟨_, rfl, ?_⟩
        have n0 := aM_ (sT_ HB.out hb)
        clear HB
        have HB := n0
        clear n0
        (try clear hb)
        (try clear hb2)
        (try clear hk)
        (try clear hi)
        refine hK.out _ _ ⟨(cB_ HB.out hw131_0 :), (cB_ HB.out hw132_0 :)⟩ (fun hHeld => ?_)
        clear hK K
        refine norm_ (a' := ?_) ?_ ?_
        rotate_left
        ·show Act.put _ (some 25) _ = _
         simp only [pt_, pn_, sI_, s0_, s1_, i64_w, i32_w]
         rfl
        refine pU_ 9 (some 26) (mk_ 10 1023) ?_
        refine done_ (done_of HT_.out (by kernel_rfl)) ?_
        try go_wp2
        go_ret
        exact fI_ HB.out
      ·rw [if_neg c6] at H
       exact absurd H (by simp)
     ·rw [if_neg c5] at H
      exact absurd H (by simp)
    ·rw [if_neg c4] at H
     have c4b0 : decide (x5_1 < (l0.length : Int)) = false := decide_eq_false c4
     clear c4
     obtain rfl := Option.some.inj H
     go_wp2
     go_ret
     exact fI_ HB.out
 ·rw [if_neg c3] at H
  have c3b0 : ((l0.length : Int) == (l1.length : Int)) = false := beq_eq_false_iff_ne.mpr c3
  have c3b1 : ((l0.length : Int) != (l1.length : Int)) = true := bne_iff_ne.mpr c3
  have c3b2 : (l0.length == l1.length) = false := by first | simpa using c3 | (simp at c3 ⊢; omega)
  obtain rfl := Option.some.inj H
  go_enter Try.func52, Try.ntmps52
  go_wp2
  go_ret
  exact fI_ HB.out
def laws_eqMemory.f (k : Nat) (l0_0 : List (List (S43))) (l1_0 : List (List (S43))) : Option (Bool) := (laws_eqWriteSS.f k l0_0 l1_0).bind fun t136 => (if t136 = true then (some true) else (some false))
set_option maxHeartbeats 8000000 in
set_option maxRecDepth 100000 in
theorem laws_eqMemory.calls (k : Nat) (A0_0 : Option Addr) (c0_0 : Nat) (l0_0 : List (List (S43))) (A1_0 : Option Addr) (c1_0 : Nat) (l1_0 : List (List (S43))) (r : Bool) (w : World) (hr0_0 : Kd.C (Kd.slice 43 k43) w A0_0 l0_0.length l0_0) (hc0_0 : l0_0.length ≤ c0_0) (hr1_0 : Kd.C (Kd.slice 43 k43) w A1_0 l1_0.length l1_0) (hc1_0 : l1_0.length ≤ c1_0) (h : laws_eqMemory.f k l0_0 l1_0 = some r) :
  Calls Try.prog 15 #[.agg #[.slice A0_0 l0_0.length c0_0], .agg #[.slice A1_0 l1_0.length c1_0]] w fun e w' => e = .returned (.bool r) ∧ Below w.heap.size w w' := by
 have hu24 := Try.underlying24
 have HR0_0 := aM_ hr0_0
 have HC0_0 := aM_ hc0_0
 clear hr0_0 hc0_0
 have HR1_0 := aM_ hr1_0
 have HC1_0 := aM_ hc1_0
 clear hr1_0 hc1_0
 have HB := aM_ (Below.refl w.heap.size w)
 have H : ((laws_eqWriteSS.f k l0_0 l1_0).bind fun t136 => (if t136 = true then (some true) else (some false))) = some r := h
 clear h
 replace H := Option.bind_eq_some_iff.mp H
 obtain ⟨t136, A30, H⟩ := H
 replace H : (if t136 = true then (some true) else (some false)) = some r := H
 have A3 := aM_ A30
 clear A30
 by_cases c4 : t136 = true
 ·subst c4
  have H1 : (some true) = some r := by rw [if_pos rfl] at H; exact H
  clear H
  have H := H1
  clear H1
  obtain rfl := Option.some.inj H
  go_enter Try.func15, Try.ntmps15
  go_wp2_with (first | ((with_reducible refine gate_dst (N := 2) rfl ?_); refine bX_ 2 (cs := #[.slice A0_0 l0_0.length c0_0]) (t := 24) ?_; intro gb134 hg w5 hbox hb; have n0 := aM_ (sT_ HB.out hb); have n1 := aM_ (hbox); have n2 := aM_ (sZ_ hg HB.out); have n3 := aM_ (sZ_ hg HB.out); clear HB; have HB := n0; have BK134 := n1; have GW134 := n2; have GE134 := n3; clear n0 n1 n2 n3; clear hb hbox hg) | ((with_reducible refine gate_dst (N := 3) rfl ?_); refine bX_ 3 (cs := #[.slice A1_0 l1_0.length c1_0]) (t := 24) ?_; intro gb135 hg w6 hbox hb; have n0 := aM_ (nB_ BK134.out hb); have n1 := aM_ (sT_ HB.out hb); have n2 := aM_ (hbox); have n3 := aM_ (sZ_ hg HB.out); have n4 := aM_ (sZ_ hg HB.out); have n5 := aM_ (nL_ hg BK134.out); have n6 := aM_ (nG_ hg BK134.out); clear BK134; clear HB; have BK134 := n0; have HB := n1; have BK135 := n2; have GW135 := n3; have GE135 := n4; have NB134_135 := n5; have NB135_134 := n6; clear n0 n1 n2 n3 n4 n5 n6; clear hb hbox hg; have hnb7 := NB134_135.out; have hnc7 := NB135_134.out; have hcz8_0 : w6.cell? ⟨gb134, 0, none⟩ = some (.slice A0_0 l0_0.length c0_0) := (blk_cell BK134.out 0).trans rfl; have hfz8_0 := blk_frozen BK134.out 0; have hcz9_0 : w6.cell? ⟨gb135, 0, none⟩ = some (.slice A1_0 l1_0.length c1_0) := (blk_cell BK135.out 0).trans rfl; have hfz9_0 := blk_frozen BK135.out 0) | ((with_reducible refine gate_callee (f := 52) rfl ?_); refine gL_ (some 9) Try.func52 #[.slice A0_0 l0_0.length c0_0, .slice A1_0 l1_0.length c1_0] ?_; (with_reducible refine (laws_eqWriteSS.calls k _ _ l0_0 _ _ l1_0 true _ ?side1 ?side2 ?side3 ?side4 A3.out).mono ?_); (case side1 => exact cS_ (Kd.C_below HR0_0.out HB.out)); (case side2 => exact HC0_0.out); (case side3 => exact cS_ (Kd.C_below HR1_0.out HB.out)); (case side4 => exact HC1_0.out); rintro e w10 ⟨rfl, hb⟩; refine ⟨_, rfl, ?_⟩; have n0 := aM_ (nB_ BK134.out hb); have n1 := aM_ (nB_ BK135.out hb); have n2 := aM_ (sT_ HB.out hb); clear BK134; clear BK135; clear HB; have BK134 := n0; have BK135 := n1; have HB := n2; clear n0 n1 n2))
  go_ret
  exact fI_ HB.out
 ·replace c4 := Bool.eq_false_iff.mpr c4
  subst c4
  have H1 : (some false) = some r := by rw [if_neg (show ¬ (false = true) by decide)] at H; exact H
  clear H
  have H := H1
  clear H1
  obtain rfl := Option.some.inj H
  go_enter Try.func15, Try.ntmps15
  go_wp2_with (first | ((with_reducible refine gate_dst (N := 2) rfl ?_); refine bX_ 2 (cs := #[.slice A0_0 l0_0.length c0_0]) (t := 24) ?_; intro gb134 hg w11 hbox hb; have n0 := aM_ (sT_ HB.out hb); have n1 := aM_ (hbox); have n2 := aM_ (sZ_ hg HB.out); have n3 := aM_ (sZ_ hg HB.out); clear HB; have HB := n0; have BK134 := n1; have GW134 := n2; have GE134 := n3; clear n0 n1 n2 n3; clear hb hbox hg) | ((with_reducible refine gate_dst (N := 3) rfl ?_); refine bX_ 3 (cs := #[.slice A1_0 l1_0.length c1_0]) (t := 24) ?_; intro gb135 hg w12 hbox hb; have n0 := aM_ (nB_ BK134.out hb); have n1 := aM_ (sT_ HB.out hb); have n2 := aM_ (hbox); have n3 := aM_ (sZ_ hg HB.out); have n4 := aM_ (sZ_ hg HB.out); have n5 := aM_ (nL_ hg BK134.out); have n6 := aM_ (nG_ hg BK134.out); clear BK134; clear HB; have BK134 := n0; have HB := n1; have BK135 := n2; have GW135 := n3; have GE135 := n4; have NB134_135 := n5; have NB135_134 := n6; clear n0 n1 n2 n3 n4 n5 n6; clear hb hbox hg; have hnb13 := NB134_135.out; have hnc13 := NB135_134.out; have hcz14_0 : w12.cell? ⟨gb134, 0, none⟩ = some (.slice A0_0 l0_0.length c0_0) := (blk_cell BK134.out 0).trans rfl; have hfz14_0 := blk_frozen BK134.out 0; have hcz15_0 : w12.cell? ⟨gb135, 0, none⟩ = some (.slice A1_0 l1_0.length c1_0) := (blk_cell BK135.out 0).trans rfl; have hfz15_0 := blk_frozen BK135.out 0) | ((with_reducible refine gate_callee (f := 52) rfl ?_); refine gL_ (some 9) Try.func52 #[.slice A0_0 l0_0.length c0_0, .slice A1_0 l1_0.length c1_0] ?_; (with_reducible refine (laws_eqWriteSS.calls k _ _ l0_0 _ _ l1_0 false _ ?side1 ?side2 ?side3 ?side4 A3.out).mono ?_); (case side1 => exact cS_ (Kd.C_below HR0_0.out HB.out)); (case side2 => exact HC0_0.out); (case side3 => exact cS_ (Kd.C_below HR1_0.out HB.out)); (case side4 => exact HC1_0.out); rintro e w16 ⟨rfl, hb⟩; refine ⟨_, rfl, ?_⟩; have n0 := aM_ (nB_ BK134.out hb); have n1 := aM_ (nB_ BK135.out hb); have n2 := aM_ (sT_ HB.out hb); clear BK134; clear BK135; clear HB; have BK134 := n0; have BK135 := n1; have HB := n2; clear n0 n1 n2))
  go_ret
  exact fI_ HB.out
end Go.Proofs.Ythbcnakmnbilhaa.PFnExactMemoryNew
namespace Go.Proofs.Ythbcnakmnbilhaa.PFnExactMemoryNew
open Go.RowKit Go.Proofs.YthbcnakmnbilhaaW.PrintWords Go.Proofs.YthbcnakmnbilhaaW.PrintLast Go.Proofs.YthbcnakmnbilhaaW.PrintMore Go.Proofs.Ythbcnakmnbilhaa.Marks
set_option linter.unusedVariables false
set_option linter.unusedSimpArgs false
def wt43 (x : S43) : Nat := (fun q : _ => 1 + (wsum (fun _ => 1) (q.2))) ((x.f0, x.f1))
def laws_FnExactMemoryNew.f (k : Nat)  : Option Bool := (spec_MemoryNew.f k).bind fun t1 => (impl_MemoryNew.f k).bind fun t2 => (laws_eqMemory.f k t2 t1).bind fun eA7 => if eA7 = true then if wsum (wsum wt43) t2 ≤ 1152921504606846976 then (impl_MemoryNew.f k).bind fun t3 => (laws_eqMemory.f k t3 t1).bind fun eA13 => if eA13 = true then some true else some false else none else some false
end Go.Proofs.Ythbcnakmnbilhaa.PFnExactMemoryNew
