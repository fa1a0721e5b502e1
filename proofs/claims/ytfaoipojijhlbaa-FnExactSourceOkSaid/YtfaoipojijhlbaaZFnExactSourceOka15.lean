/- A part of the proof that the law FnExactSourceOk holds for every input: the words, functions and walks that its row needs, without a condition of their own. -/
import Derived.Test.YtfaoipojijhlbaaZFnExactSourceOka2
import Derived.Test.YtfaoipojijhlbaaZFnExactSourceOka14
import Derived.Test.YtfaoipojijhlbaaZFnExactSourceOks
namespace Go.Proofs.Ytfaoipojijhlbaa.PFnExactSourceOk
open Go.RowKit Go.Proofs.YtfaoipojijhlbaaW.PrintWords Go.Proofs.YtfaoipojijhlbaaW.PrintLast Go.Proofs.YtfaoipojijhlbaaW.PrintMore
attribute [local go_sem] max2_int min2_int max_two min_two max_three min_three max_four min_four   -- for this text's walks alone
set_option linter.unusedVariables false
set_option linter.unusedSimpArgs false
def laws_eqChanS.l0 : Nat → List (S91) → List (S91) → Int → Option (Bool)
  | 0, _, _, _ => none
  | k + 1, x0, x1, x5 => if x5 < (x0.length : Int) then (if 0 ≤ x5 then (if x5 < (x1.length : Int) then ((laws_eqChan.f k ((rd_T91 x0 x5).f0) ((rd_T91 x0 x5).f1) ((rd_T91 x0 x5).f2) ((rd_T91 x1 x5).f0) ((rd_T91 x1 x5).f1) ((rd_T91 x1 x5).f2)).bind fun t318 => (if t318 = true then (laws_eqChanS.l0 k x0 x1 (wrap64 (x5 + 1))) else (some false))) else (none)) else (none)) else (some true)
def laws_eqChanS.f (k : Nat) (l0 : List (S91)) (l1 : List (S91)) : Option (Bool) := if (l0.length : Int) = (l1.length : Int) then (laws_eqChanS.l0 k l0 l1 0) else (some false)
def laws_eqChanS.T6 : Bool × List (List Nat × List Nat) := (true, [([], []), ([], []), ([0, 1], [0, 1]), ([2], [2]), ([], []), ([], []), ([4, 5], [4, 5]), ([6], [6]), ([3, 7], [3, 7]), ([8], [8])])
def laws_eqChanS.B6 : List Nat := [0, 0, 3, 7, 0, 0, 48, 112, 255, 511]
theorem laws_eqChanS.tab6 : rtab .any (opsOf Try.f53 6) = laws_eqChanS.T6 := by kernel_rfl
theorem laws_eqChanS.bits6 : waitsOk laws_eqChanS.T6.2 laws_eqChanS.B6 = true := by kernel_rfl
set_option maxHeartbeats 8000000 in
set_option maxRecDepth 100000 in
theorem laws_eqChanS.calls (k : Nat) (A0 : Option Addr) (c0 : Nat) (l0 : List (S91)) (A1 : Option Addr) (c1 : Nat) (l1 : List (S91)) (r : Bool) (w : World) (hr0 : Kd.C k91 w A0 l0.length l0) (hc0 : l0.length ≤ c0) (hr1 : Kd.C k91 w A1 l1.length l1) (hc1 : l1.length ≤ c1) (h : laws_eqChanS.f k l0 l1 = some r) :
  Calls Try.prog 53 #[.slice A0 l0.length c0, .slice A1 l1.length c1] w fun e w' => e = .returned (.bool r) ∧ Below w.heap.size w w' := by
 have hu91 := Try.underlying91
 have HR0 := aM_ hr0
 have HC0 := aM_ hc0
 clear hr0 hc0
 have HR1 := aM_ hr1
 have HC1 := aM_ hc1
 clear hr1 hc1
 have HB := aM_ (Below.refl w.heap.size w)
 have H : (if (l0.length : Int) = (l1.length : Int) then (laws_eqChanS.l0 k l0 l1 0) else (some false)) = some r := h
 clear h
 by_cases c3 : (l0.length : Int) = (l1.length : Int)
 ·rw [if_pos c3] at H
  have c3b0 : ((l0.length : Int) == (l1.length : Int)) = true := beq_iff_eq.mpr c3
  have c3b1 : ((l0.length : Int) != (l1.length : Int)) = false := bne_eq_false_iff_eq.mpr c3
  have c3b2 : (l0.length == l1.length) = true := by first | simpa using c3 | (simp at c3 ⊢; omega)
  clear c3
  have H' := aM_ H
  clear H
  go_enter Try.func53, Try.ntmps53
  go_wp2
  go_loopg [5] k (fun kq v5 w' => ∃ (x5_1 : Int), v5 = .int .i64 x5_1 ∧ Aside0 (laws_eqChanS.l0 kq l0 l1 x5_1 = some r) ∧ Aside0 (kq ≤ k) ∧ Aside0 (Below w.heap.size w w'))
  case atStart => exact ⟨(0), (by first | rfl | (simp; done) | (simp [*]; done)), H', ⟨Nat.le_refl _⟩, ⟨gW_ HB.out⟩⟩
  case round =>
   clear H'
   try clear c1
   try clear p2
   try clear c3
   try clear c3b0
   try clear c3b1
   try clear c3b2
   obtain ⟨x5_1, rfl, HA, HK1, HB⟩ := hrel
   cases gk with
   | zero => exact absurd HA.out (by simp [laws_eqChanS.l0])
   | succ k1 =>
    have H := HA.out
    clear HA
    simp only [laws_eqChanS.l0] at H
    by_cases c4 : x5_1 < (l0.length : Int)
    ·rw [if_pos c4] at H
     have c4b0 : decide (x5_1 < (l0.length : Int)) = true := decide_eq_true c4
     clear c4
     by_cases c5 : 0 ≤ x5_1
     ·rw [if_pos c5] at H
      have c5b0 : decide (0 ≤ x5_1) = true := decide_eq_true c5
      clear c5
      by_cases c6 : x5_1 < (l1.length : Int)
      ·rw [if_pos c6] at H
       have c6b0 : decide (x5_1 < (l1.length : Int)) = true := decide_eq_true c6
       clear c6
       replace H := Option.bind_eq_some_iff.mp H
       obtain ⟨t318, A70, H⟩ := H
       replace H : (if t318 = true then (laws_eqChanS.l0 k1 l0 l1 (wrap64 (x5_1 + 1))) else (some false)) = some r := H
       have A7 := aM_ A70
       clear A70
       by_cases c8 : t318 = true
       ·subst c8
        have H1 : (laws_eqChanS.l0 k1 l0 l1 (wrap64 (x5_1 + 1))) = some r := by rw [if_pos rfl] at H; exact H
        clear H
        have H := H1
        clear H1
        have H' := aM_ H
        clear H
        try go_wp2
        have n0 := aM_ (below_drew1 HB.out)
        clear HB
        have HB := n0
        clear n0
        have p316 : 0 ≤ (x5_1 : Int) := of_decide_eq_true (by first | (with_reducible assumption) | assumption)
        have q316 : x5_1 < (l0.length : Int) := of_decide_eq_true (by first | (with_reducible assumption) | assumption)
        obtain ⟨ad316, A316_1, c316_1, e316, hx316_0, hx316_1, hx316_2, hl316_1, hi316_1⟩ := at_T91 HR0.out x5_1 p316 q316
        have hw316_2 := hx316_2
        have hw316_1 := hx316_1
        have hw316_0 := hx316_0
        cases e316
        replace hx316_0 := cB_ HB.out hx316_0
        replace hx316_1 := cB_ HB.out hx316_1
        replace hx316_2 := cB_ HB.out hx316_2
        have HR316_1 := aM_ hi316_1
        have HC316_1 := aM_ hl316_1
        clear hi316_1 hl316_1
        replace p316 := eq_true p316
        replace q316 := eq_true q316
        have p317 : 0 ≤ (x5_1 : Int) := of_decide_eq_true (by first | (with_reducible assumption) | assumption)
        have q317 : x5_1 < (l1.length : Int) := of_decide_eq_true (by first | (with_reducible assumption) | assumption)
        obtain ⟨ad317, A317_1, c317_1, e317, hx317_0, hx317_1, hx317_2, hl317_1, hi317_1⟩ := at_T91 HR1.out x5_1 p317 q317
        have hw317_2 := hx317_2
        have hw317_1 := hx317_1
        have hw317_0 := hx317_0
        cases e317
        replace hx317_0 := cB_ HB.out hx317_0
        replace hx317_1 := cB_ HB.out hx317_1
        replace hx317_2 := cB_ HB.out hx317_2
        have HR317_1 := aM_ hi317_1
        have HC317_1 := aM_ hl317_1
        clear hi317_1 hl317_1
        replace p317 := eq_true p317
        replace q317 := eq_true q317
        refine start_ (n := 10) (S := fun w' => w'.cell? (ad316.add ((x5_1).toNat * 3)) = some (.int .i64 ((rd_T91 l0 x5_1).f0)) ∧ w'.cell? ⟨(ad316.add ((x5_1).toNat * 3)).block, (ad316.add ((x5_1).toNat * 3)).off + 1, none⟩ = some (.slice A316_1 ((rd_T91 l0 x5_1).f1).length c316_1) ∧ w'.cell? ⟨(ad316.add ((x5_1).toNat * 3)).block, (ad316.add ((x5_1).toNat * 3)).off + 2, none⟩ = some (.bool ((rd_T91 l0 x5_1).f2)) ∧ w'.cell? (ad317.add ((x5_1).toNat * 3)) = some (.int .i64 ((rd_T91 l1 x5_1).f0)) ∧ w'.cell? ⟨(ad317.add ((x5_1).toNat * 3)).block, (ad317.add ((x5_1).toNat * 3)).off + 1, none⟩ = some (.slice A317_1 ((rd_T91 l1 x5_1).f1).length c317_1) ∧ w'.cell? ⟨(ad317.add ((x5_1).toNat * 3)).block, (ad317.add ((x5_1).toNat * 3)).off + 2, none⟩ = some (.bool ((rd_T91 l1 x5_1).f2))) (ds := []) (mk_ 10 0) (by kernel_rfl) rfl rfl ⟨(cB_ HB.out hw316_0 :), (cB_ HB.out hw316_1 :), (cB_ HB.out hw316_2 :), (cB_ HB.out hw317_0 :), (cB_ HB.out hw317_1 :), (cB_ HB.out hw317_2 :)⟩ (fun hHeld => ?_); refine with_tabW laws_eqChanS.tab6 laws_eqChanS.bits6 (fun HT_ HW_ => ?_)
        generalize wr.drew = w9 at HB HR316_1 HR317_1 hx316_0 hx316_1 hx316_2 hx317_0 hx317_1 hx317_2 hHeld ⊢
        refine pU_ 0 (some 17) (mk_ 10 1) ?_
        refine pU_ 1 (some 18) (mk_ 10 3) ?_
        refine pU_ 2 (some 19) (mk_ 10 7) ?_
        refine pU_ 4 (some 21) (mk_ 10 23) ?_
        refine pU_ 5 (some 22) (mk_ 10 55) ?_
        refine pU_ 6 (some 23) (mk_ 10 119) ?_
        refine tK6_ 3 (some 20) (mk_ 10 127) ?_
        refine tK6_ 7 (some 24) (mk_ 10 255) ?_
        refine oN_ 8 (some 25) (mk_ 10 511) (fun K hK => ?_)
        refine gO_ Try.func82 #[.agg #[.int .i64 ((rd_T91 l0 x5_1).f0), .slice A316_1 ((rd_T91 l0 x5_1).f1).length c316_1, .bool ((rd_T91 l0 x5_1).f2)], .agg #[.int .i64 ((rd_T91 l1 x5_1).f0), .slice A317_1 ((rd_T91 l1 x5_1).f1).length c317_1, .bool ((rd_T91 l1 x5_1).f2)]] ?_
        with_reducible refine (laws_eqChan.calls k1 ((rd_T91 l0 x5_1).f0) _ _ ((rd_T91 l0 x5_1).f1) ((rd_T91 l0 x5_1).f2) ((rd_T91 l1 x5_1).f0) _ _ ((rd_T91 l1 x5_1).f1) ((rd_T91 l1 x5_1).f2) true _ ?side1 ?side2 ?side3 ?side4 A7.out).mono ?_
        (case side1 => exact cS_ (Kd.C_below HR316_1.out HB.out))
        (case side2 => exact HC316_1.out)
        (case side3 => exact cS_ (Kd.C_below HR317_1.out HB.out))
        (case side4 => exact HC317_1.out)
        rintro e w10 ⟨rfl, hb⟩
        refine ⟨_, rfl, ?_⟩
        have n0 := aM_ (sT_ HB.out hb)
        clear HB
        have HB := n0
        clear n0
        (try clear hb)
        (try clear hb2)
        (try clear hk)
        (try clear hi)
        refine hK.out _ _ ⟨(cB_ HB.out hw316_0 :), (cB_ HB.out hw316_1 :), (cB_ HB.out hw316_2 :), (cB_ HB.out hw317_0 :), (cB_ HB.out hw317_1 :), (cB_ HB.out hw317_2 :)⟩ (fun hHeld => ?_)
        clear hK K
        refine norm_ (a' := ?_) ?_ ?_
        rotate_left
        ·show Act.put _ (some 25) _ = _
         simp only [pt_, pn_, sI_, s0_, s1_, i64_w, i32_w]
         rfl
        refine pU_ 9 (some 26) (mk_ 10 1023) ?_
        refine done_ (done_of HT_.out (by kernel_rfl)) ?_
        try go_wp2
        go_roundg k1
        case measure => have := HK1.out; omega
        case rel => exact ⟨(wrap64 (x5_1 + 1)), (by first | rfl | (simp; done) | (simp [*]; done)), H', ⟨by have := HK1.out; omega⟩, ⟨gW_ HB.out⟩⟩
       ·replace c8 := Bool.eq_false_iff.mpr c8
        subst c8
        have H1 : (some false) = some r := by rw [if_neg (show ¬ (false = true) by decide)] at H; exact H
        clear H
        have H := H1
        clear H1
        obtain rfl := Option.some.inj H
        try go_wp2
        have n0 := aM_ (below_drew1 HB.out)
        clear HB
        have HB := n0
        clear n0
        have p316 : 0 ≤ (x5_1 : Int) := of_decide_eq_true (by first | (with_reducible assumption) | assumption)
        have q316 : x5_1 < (l0.length : Int) := of_decide_eq_true (by first | (with_reducible assumption) | assumption)
        obtain ⟨ad316, A316_1, c316_1, e316, hx316_0, hx316_1, hx316_2, hl316_1, hi316_1⟩ := at_T91 HR0.out x5_1 p316 q316
        have hw316_2 := hx316_2
        have hw316_1 := hx316_1
        have hw316_0 := hx316_0
        cases e316
        replace hx316_0 := cB_ HB.out hx316_0
        replace hx316_1 := cB_ HB.out hx316_1
        replace hx316_2 := cB_ HB.out hx316_2
        have HR316_1 := aM_ hi316_1
        have HC316_1 := aM_ hl316_1
        clear hi316_1 hl316_1
        replace p316 := eq_true p316
        replace q316 := eq_true q316
        have p317 : 0 ≤ (x5_1 : Int) := of_decide_eq_true (by first | (with_reducible assumption) | assumption)
        have q317 : x5_1 < (l1.length : Int) := of_decide_eq_true (by first | (with_reducible assumption) | assumption)
        obtain ⟨ad317, A317_1, c317_1, e317, hx317_0, hx317_1, hx317_2, hl317_1, hi317_1⟩ := at_T91 HR1.out x5_1 p317 q317
        have hw317_2 := hx317_2
        have hw317_1 := hx317_1
        have hw317_0 := hx317_0
        cases e317
        replace hx317_0 := cB_ HB.out hx317_0
        replace hx317_1 := cB_ HB.out hx317_1
        replace hx317_2 := cB_ HB.out hx317_2
        have HR317_1 := aM_ hi317_1
        have HC317_1 := aM_ hl317_1
        clear hi317_1 hl317_1
        replace p317 := eq_true p317
        replace q317 := eq_true q317
        refine start_ (n := 10) (S := fun w' => w'.cell? (ad316.add ((x5_1).toNat * 3)) = some (.int .i64 ((rd_T91 l0 x5_1).f0)) ∧ w'.cell? ⟨(ad316.add ((x5_1).toNat * 3)).block, (ad316.add ((x5_1).toNat * 3)).off + 1, none⟩ = some (.slice A316_1 ((rd_T91 l0 x5_1).f1).length c316_1) ∧ w'.cell? ⟨(ad316.add ((x5_1).toNat * 3)).block, (ad316.add ((x5_1).toNat * 3)).off + 2, none⟩ = some (.bool ((rd_T91 l0 x5_1).f2)) ∧ w'.cell? (ad317.add ((x5_1).toNat * 3)) = some (.int .i64 ((rd_T91 l1 x5_1).f0)) ∧ w'.cell? ⟨(ad317.add ((x5_1).toNat * 3)).block, (ad317.add ((x5_1).toNat * 3)).off + 1, none⟩ = some (.slice A317_1 ((rd_T91 l1 x5_1).f1).length c317_1) ∧ w'.cell? ⟨(ad317.add ((x5_1).toNat * 3)).block, (ad317.add ((x5_1).toNat * 3)).off + 2, none⟩ = some (.bool ((rd_T91 l1 x5_1).f2))) (ds := []) (mk_ 10 0) (by kernel_rfl) rfl rfl ⟨(cB_ HB.out hw316_0 :), (cB_ HB.out hw316_1 :), (cB_ HB.out hw316_2 :), (cB_ HB.out hw317_0 :), (cB_ HB.out hw317_1 :), (cB_ HB.out hw317_2 :)⟩ (fun hHeld => ?_); refine with_tabW laws_eqChanS.tab6 laws_eqChanS.bits6 (fun HT_ HW_ => ?_)
        generalize wr.drew = w11 at HB HR316_1 HR317_1 hx316_0 hx316_1 hx316_2 hx317_0 hx317_1 hx317_2 hHeld ⊢
        refine pU_ 0 (some 17) (mk_ 10 1) ?_
        refine pU_ 1 (some 18) (mk_ 10 3) ?_
        refine pU_ 2 (some 19) (mk_ 10 7) ?_
        refine pU_ 4 (some 21) (mk_ 10 23) ?_
        refine pU_ 5 (some 22) (mk_ 10 55) ?_
        refine pU_ 6 (some 23) (mk_ 10 119) ?_
        refine tK6_ 3 (some 20) (mk_ 10 127) ?_
        refine tK6_ 7 (some 24) (mk_ 10 255) ?_
        refine oN_ 8 (some 25) (mk_ 10 511) (fun K hK => ?_)
        refine gO_ Try.func82 #[.agg #[.int .i64 ((rd_T91 l0 x5_1).f0), .slice A316_1 ((rd_T91 l0 x5_1).f1).length c316_1, .bool ((rd_T91 l0 x5_1).f2)], .agg #[.int .i64 ((rd_T91 l1 x5_1).f0), .slice A317_1 ((rd_T91 l1 x5_1).f1).length c317_1, .bool ((rd_T91 l1 x5_1).f2)]] ?_
        with_reducible refine (laws_eqChan.calls k1 ((rd_T91 l0 x5_1).f0) _ _ ((rd_T91 l0 x5_1).f1) ((rd_T91 l0 x5_1).f2) ((rd_T91 l1 x5_1).f0) _ _ ((rd_T91 l1 x5_1).f1) ((rd_T91 l1 x5_1).f2) false _ ?side1 ?side2 ?side3 ?side4 A7.out).mono ?_
        (case side1 => exact cS_ (Kd.C_below HR316_1.out HB.out))
        (case side2 => exact HC316_1.out)
        (case side3 => exact cS_ (Kd.C_below HR317_1.out HB.out))
        (case side4 => exact HC317_1.out)
        rintro e w12 ⟨rfl, hb⟩
        refine ⟨_, rfl, ?_⟩
        have n0 := aM_ (sT_ HB.out hb)
        clear HB
        have HB := n0
        clear n0
        (try clear hb)
        (try clear hb2)
        (try clear hk)
        (try clear hi)
        refine hK.out _ _ ⟨(cB_ HB.out hw316_0 :), (cB_ HB.out hw316_1 :), (cB_ HB.out hw316_2 :), (cB_ HB.out hw317_0 :), (cB_ HB.out hw317_1 :), (cB_ HB.out hw317_2 :)⟩ (fun hHeld => ?_)
        clear hK K
        refine norm_ (a' := ?_) ?_ ?_
        rotate_left
        ·show Act.put _ (some 25) _ = _
         simp only [pt_, pn_, sI_, s0_, s1_, i64_w, i32_w]
         rfl
        refine pU_ 9 (some 26) (mk_ 10 1023) ?_
        refine done_ (done_of HT_.out (by kernel_rfl)) ?_
        try go_wp2
        go_ret
        exact fI_ HB.out
      ·rw [if_neg c6] at H
       exact absurd H (by simp)
     ·rw [if_neg c5] at H
      exact absurd H (by simp)
    ·rw [if_neg c4] at H
     have c4b0 : decide (x5_1 < (l0.length : Int)) = false := decide_eq_false c4
     clear c4
     obtain rfl := Option.some.inj H
     go_wp2
     go_ret
     exact fI_ HB.out
 ·rw [if_neg c3] at H
  have c3b0 : ((l0.length : Int) == (l1.length : Int)) = false := beq_eq_false_iff_ne.mpr c3
  have c3b1 : ((l0.length : Int) != (l1.length : Int)) = true := bne_iff_ne.mpr c3
  have c3b2 : (l0.length == l1.length) = false := by first | simpa using c3 | (simp at c3 ⊢; omega)
  obtain rfl := Option.some.inj H
  go_enter Try.func53, Try.ntmps53
  go_wp2
  go_ret
  exact fI_ HB.out
def laws_eqNote.f (a0_0 : Int) (a0_1 : Int) (a1_0 : Int) (a1_1 : Int) : Option (Bool) := if a0_0 = a1_0 then (if a0_1 = a1_1 then (some true) else (some false)) else (some false)
set_option maxHeartbeats 8000000 in
set_option maxRecDepth 100000 in
theorem laws_eqNote.calls (a0_0 : Int) (a0_1 : Int) (a1_0 : Int) (a1_1 : Int) (r : Bool) (w : World) (h : laws_eqNote.f a0_0 a0_1 a1_0 a1_1 = some r) :
  Calls Try.prog 83 #[.agg #[.int .i64 a0_0, .int .i64 a0_1], .agg #[.int .i64 a1_0, .int .i64 a1_1]] w fun e w' => e = .returned (.bool r) ∧ Below w.heap.size w w' := by
 have hu93 := Try.underlying93
 have HB := aM_ (Below.refl w.heap.size w)
 have H : (if a0_0 = a1_0 then (if a0_1 = a1_1 then (some true) else (some false)) else (some false)) = some r := h
 clear h
 by_cases c3 : a0_0 = a1_0
 ·rw [if_pos c3] at H
  have c3b0 : (a0_0 == a1_0) = true := beq_iff_eq.mpr c3
  have c3b1 : (a0_0 != a1_0) = false := bne_eq_false_iff_eq.mpr c3
  clear c3
  by_cases c4 : a0_1 = a1_1
  ·rw [if_pos c4] at H
   have c4b0 : (a0_1 == a1_1) = true := beq_iff_eq.mpr c4
   have c4b1 : (a0_1 != a1_1) = false := bne_eq_false_iff_eq.mpr c4
   clear c4
   obtain rfl := Option.some.inj H
   go_enter Try.func83, Try.ntmps83
   go_wp2_with (first | ((with_reducible refine gate_dst (N := 2) rfl ?_); refine bX_ 2 (cs := #[.int .i64 a0_0, .int .i64 a0_1]) (t := 93) ?_; intro gb319 hg w5 hbox hb; have n0 := aM_ (sT_ HB.out hb); have n1 := aM_ (hbox); have n2 := aM_ (sZ_ hg HB.out); have n3 := aM_ (sZ_ hg HB.out); clear HB; have HB := n0; have BK319 := n1; have GW319 := n2; have GE319 := n3; clear n0 n1 n2 n3; clear hb hbox hg) | ((with_reducible refine gate_dst (N := 3) rfl ?_); refine bX_ 3 (cs := #[.int .i64 a1_0, .int .i64 a1_1]) (t := 93) ?_; intro gb320 hg w6 hbox hb; have n0 := aM_ (nB_ BK319.out hb); have n1 := aM_ (sT_ HB.out hb); have n2 := aM_ (hbox); have n3 := aM_ (sZ_ hg HB.out); have n4 := aM_ (sZ_ hg HB.out); have n5 := aM_ (nL_ hg BK319.out); have n6 := aM_ (nG_ hg BK319.out); clear BK319; clear HB; have BK319 := n0; have HB := n1; have BK320 := n2; have GW320 := n3; have GE320 := n4; have NB319_320 := n5; have NB320_319 := n6; clear n0 n1 n2 n3 n4 n5 n6; clear hb hbox hg; have hnb7 := NB319_320.out; have hnc7 := NB320_319.out; obtain ⟨hcz8_0, hcz8_1, hfz8_0, hfz8_1⟩ := bR2_ BK319.out; obtain ⟨hcz9_0, hcz9_1, hfz9_0, hfz9_1⟩ := bR2_ BK320.out))
   go_ret
   exact fI_ HB.out
  ·rw [if_neg c4] at H
   have c4b0 : (a0_1 == a1_1) = false := beq_eq_false_iff_ne.mpr c4
   have c4b1 : (a0_1 != a1_1) = true := bne_iff_ne.mpr c4
   obtain rfl := Option.some.inj H
   go_enter Try.func83, Try.ntmps83
   go_wp2_with (first | ((with_reducible refine gate_dst (N := 2) rfl ?_); refine bX_ 2 (cs := #[.int .i64 a0_0, .int .i64 a0_1]) (t := 93) ?_; intro gb319 hg w10 hbox hb; have n0 := aM_ (sT_ HB.out hb); have n1 := aM_ (hbox); have n2 := aM_ (sZ_ hg HB.out); have n3 := aM_ (sZ_ hg HB.out); clear HB; have HB := n0; have BK319 := n1; have GW319 := n2; have GE319 := n3; clear n0 n1 n2 n3; clear hb hbox hg) | ((with_reducible refine gate_dst (N := 3) rfl ?_); refine bX_ 3 (cs := #[.int .i64 a1_0, .int .i64 a1_1]) (t := 93) ?_; intro gb320 hg w11 hbox hb; have n0 := aM_ (nB_ BK319.out hb); have n1 := aM_ (sT_ HB.out hb); have n2 := aM_ (hbox); have n3 := aM_ (sZ_ hg HB.out); have n4 := aM_ (sZ_ hg HB.out); have n5 := aM_ (nL_ hg BK319.out); have n6 := aM_ (nG_ hg BK319.out); clear BK319; clear HB; have BK319 := n0; have HB := n1; have BK320 := n2; have GW320 := n3; have GE320 := n4; have NB319_320 := n5; have NB320_319 := n6; clear n0 n1 n2 n3 n4 n5 n6; clear hb hbox hg; have hnb12 := NB319_320.out; have hnc12 := NB320_319.out; obtain ⟨hcz13_0, hcz13_1, hfz13_0, hfz13_1⟩ := bR2_ BK319.out; obtain ⟨hcz14_0, hcz14_1, hfz14_0, hfz14_1⟩ := bR2_ BK320.out))
   go_ret
   exact fI_ HB.out
 ·rw [if_neg c3] at H
  have c3b0 : (a0_0 == a1_0) = false := beq_eq_false_iff_ne.mpr c3
  have c3b1 : (a0_0 != a1_0) = true := bne_iff_ne.mpr c3
  obtain rfl := Option.some.inj H
  go_enter Try.func83, Try.ntmps83
  go_wp2_with (first | ((with_reducible refine gate_dst (N := 2) rfl ?_); refine bX_ 2 (cs := #[.int .i64 a0_0, .int .i64 a0_1]) (t := 93) ?_; intro gb319 hg w15 hbox hb; have n0 := aM_ (sT_ HB.out hb); have n1 := aM_ (hbox); have n2 := aM_ (sZ_ hg HB.out); have n3 := aM_ (sZ_ hg HB.out); clear HB; have HB := n0; have BK319 := n1; have GW319 := n2; have GE319 := n3; clear n0 n1 n2 n3; clear hb hbox hg) | ((with_reducible refine gate_dst (N := 3) rfl ?_); refine bX_ 3 (cs := #[.int .i64 a1_0, .int .i64 a1_1]) (t := 93) ?_; intro gb320 hg w16 hbox hb; have n0 := aM_ (nB_ BK319.out hb); have n1 := aM_ (sT_ HB.out hb); have n2 := aM_ (hbox); have n3 := aM_ (sZ_ hg HB.out); have n4 := aM_ (sZ_ hg HB.out); have n5 := aM_ (nL_ hg BK319.out); have n6 := aM_ (nG_ hg BK319.out); clear BK319; clear HB; have BK319 := n0; have HB := n1; have BK320 := n2; have GW320 := n3; have GE320 := n4; have NB319_320 := n5; have NB320_319 := n6; clear n0 n1 n2 n3 n4 n5 n6; clear hb hbox hg; have hnb17 := NB319_320.out; have hnc17 := NB320_319.out; obtain ⟨hcz18_0, hcz18_1, hfz18_0, hfz18_1⟩ := bR2_ BK319.out; obtain ⟨hcz19_0, hcz19_1, hfz19_0, hfz19_1⟩ := bR2_ BK320.out))
  go_ret
  exact fI_ HB.out
def laws_eqNoteS.l0 : Nat → List (S93) → List (S93) → Int → Option (Bool)
  | 0, _, _, _ => none
  | k + 1, x0, x1, x5 => if x5 < (x0.length : Int) then (if 0 ≤ x5 then (if x5 < (x1.length : Int) then ((laws_eqNote.f ((rd_T93 x0 x5).f0) ((rd_T93 x0 x5).f1) ((rd_T93 x1 x5).f0) ((rd_T93 x1 x5).f1)).bind fun t323 => (if t323 = true then (laws_eqNoteS.l0 k x0 x1 (wrap64 (x5 + 1))) else (some false))) else (none)) else (none)) else (some true)
def laws_eqNoteS.f (k : Nat) (l0 : List (S93)) (l1 : List (S93)) : Option (Bool) := if (l0.length : Int) = (l1.length : Int) then (laws_eqNoteS.l0 k l0 l1 0) else (some false)
def laws_eqNoteS.T6 : Bool × List (List Nat × List Nat) := (true, [([], []), ([], []), ([0, 1], [0, 1]), ([2], [2]), ([], []), ([], []), ([4, 5], [4, 5]), ([6], [6]), ([3, 7], [3, 7]), ([8], [8])])
def laws_eqNoteS.B6 : List Nat := [0, 0, 3, 7, 0, 0, 48, 112, 255, 511]
theorem laws_eqNoteS.tab6 : rtab .any (opsOf Try.f54 6) = laws_eqNoteS.T6 := by kernel_rfl
theorem laws_eqNoteS.bits6 : waitsOk laws_eqNoteS.T6.2 laws_eqNoteS.B6 = true := by kernel_rfl
set_option maxHeartbeats 8000000 in
set_option maxRecDepth 100000 in
theorem laws_eqNoteS.calls (k : Nat) (A0 : Option Addr) (c0 : Nat) (l0 : List (S93)) (A1 : Option Addr) (c1 : Nat) (l1 : List (S93)) (r : Bool) (w : World) (hr0 : Kd.C k93 w A0 l0.length l0) (hc0 : l0.length ≤ c0) (hr1 : Kd.C k93 w A1 l1.length l1) (hc1 : l1.length ≤ c1) (h : laws_eqNoteS.f k l0 l1 = some r) :
  Calls Try.prog 54 #[.slice A0 l0.length c0, .slice A1 l1.length c1] w fun e w' => e = .returned (.bool r) ∧ Below w.heap.size w w' := by
 have hu93 := Try.underlying93
 have HR0 := aM_ hr0
 have HC0 := aM_ hc0
 clear hr0 hc0
 have HR1 := aM_ hr1
 have HC1 := aM_ hc1
 clear hr1 hc1
 have HB := aM_ (Below.refl w.heap.size w)
 have H : (if (l0.length : Int) = (l1.length : Int) then (laws_eqNoteS.l0 k l0 l1 0) else (some false)) = some r := h
 clear h
 by_cases c3 : (l0.length : Int) = (l1.length : Int)
 ·rw [if_pos c3] at H
  have c3b0 : ((l0.length : Int) == (l1.length : Int)) = true := beq_iff_eq.mpr c3
  have c3b1 : ((l0.length : Int) != (l1.length : Int)) = false := bne_eq_false_iff_eq.mpr c3
  have c3b2 : (l0.length == l1.length) = true := by first | simpa using c3 | (simp at c3 ⊢; omega)
  clear c3
  have H' := aM_ H
  clear H
  go_enter Try.func54, Try.ntmps54
  go_wp2
  go_loopg [5] k (fun kq v5 w' => ∃ (x5_1 : Int), v5 = .int .i64 x5_1 ∧ Aside0 (laws_eqNoteS.l0 kq l0 l1 x5_1 = some r) ∧ Aside0 (kq ≤ k) ∧ Aside0 (Below w.heap.size w w'))
  case atStart => exact ⟨(0), (by first | rfl | (simp; done) | (simp [*]; done)), H', ⟨Nat.le_refl _⟩, ⟨gW_ HB.out⟩⟩
  case round =>
   clear H'
   try clear c1
   try clear p2
   try clear c3
   try clear c3b0
   try clear c3b1
   try clear c3b2
   obtain ⟨x5_1, rfl, HA, HK1, HB⟩ := hrel
   cases gk with
   | zero => exact absurd HA.out (by simp [laws_eqNoteS.l0])
   | succ k1 =>
    have H := HA.out
    clear HA
    simp only [laws_eqNoteS.l0] at H
    by_cases c4 : x5_1 < (l0.length : Int)
    ·rw [if_pos c4] at H
     have c4b0 : decide (x5_1 < (l0.length : Int)) = true := decide_eq_true c4
     clear c4
     by_cases c5 : 0 ≤ x5_1
     ·rw [if_pos c5] at H
      have c5b0 : decide (0 ≤ x5_1) = true := decide_eq_true c5
      clear c5
      by_cases c6 : x5_1 < (l1.length : Int)
      ·rw [if_pos c6] at H
       have c6b0 : decide (x5_1 < (l1.length : Int)) = true := decide_eq_true c6
       clear c6
       replace H := Option.bind_eq_some_iff.mp H
       obtain ⟨t323, A70, H⟩ := H
       replace H : (if t323 = true then (laws_eqNoteS.l0 k1 l0 l1 (wrap64 (x5_1 + 1))) else (some false)) = some r := H
       have A7 := aM_ A70
       clear A70
       by_cases c8 : t323 = true
       ·subst c8
        have H1 : (laws_eqNoteS.l0 k1 l0 l1 (wrap64 (x5_1 + 1))) = some r := by rw [if_pos rfl] at H; exact H
        clear H
        have H := H1
        clear H1
        have H' := aM_ H
        clear H
        try go_wp2
        have n0 := aM_ (below_drew1 HB.out)
        clear HB
        have HB := n0
        clear n0
        have p321 : 0 ≤ (x5_1 : Int) := of_decide_eq_true (by first | (with_reducible assumption) | assumption)
        have q321 : x5_1 < (l0.length : Int) := of_decide_eq_true (by first | (with_reducible assumption) | assumption)
        obtain ⟨ad321, e321, hx321_0, hx321_1⟩ := at_T93 HR0.out x5_1 p321 q321
        have hw321_1 := hx321_1
        have hw321_0 := hx321_0
        cases e321
        replace hx321_0 := cB_ HB.out hx321_0
        replace hx321_1 := cB_ HB.out hx321_1
        replace p321 := eq_true p321
        replace q321 := eq_true q321
        have p322 : 0 ≤ (x5_1 : Int) := of_decide_eq_true (by first | (with_reducible assumption) | assumption)
        have q322 : x5_1 < (l1.length : Int) := of_decide_eq_true (by first | (with_reducible assumption) | assumption)
        obtain ⟨ad322, e322, hx322_0, hx322_1⟩ := at_T93 HR1.out x5_1 p322 q322
        have hw322_1 := hx322_1
        have hw322_0 := hx322_0
        cases e322
        replace hx322_0 := cB_ HB.out hx322_0
        replace hx322_1 := cB_ HB.out hx322_1
        replace p322 := eq_true p322
        replace q322 := eq_true q322
        refine start_ (n := 10) (S := fun w' => w'.cell? (ad321.add ((x5_1).toNat * 2)) = some (.int .i64 ((rd_T93 l0 x5_1).f0)) ∧ w'.cell? ⟨(ad321.add ((x5_1).toNat * 2)).block, (ad321.add ((x5_1).toNat * 2)).off + 1, none⟩ = some (.int .i64 ((rd_T93 l0 x5_1).f1)) ∧ w'.cell? (ad322.add ((x5_1).toNat * 2)) = some (.int .i64 ((rd_T93 l1 x5_1).f0)) ∧ w'.cell? ⟨(ad322.add ((x5_1).toNat * 2)).block, (ad322.add ((x5_1).toNat * 2)).off + 1, none⟩ = some (.int .i64 ((rd_T93 l1 x5_1).f1))) (ds := []) (mk_ 10 0) (by kernel_rfl) rfl rfl ⟨(cB_ HB.out hw321_0 :), (cB_ HB.out hw321_1 :), (cB_ HB.out hw322_0 :), (cB_ HB.out hw322_1 :)⟩ (fun hHeld => ?_); refine with_tabW laws_eqNoteS.tab6 laws_eqNoteS.bits6 (fun HT_ HW_ => ?_)
        generalize wr.drew = w9 at HB hx321_0 hx321_1 hx322_0 hx322_1 hHeld ⊢
        refine pU_ 0 (some 17) (mk_ 10 1) ?_
        refine pU_ 1 (some 18) (mk_ 10 3) ?_
        refine pU_ 2 (some 19) (mk_ 10 7) ?_
        refine pU_ 4 (some 21) (mk_ 10 23) ?_
        refine pU_ 5 (some 22) (mk_ 10 55) ?_
        refine pU_ 6 (some 23) (mk_ 10 119) ?_
        refine tK4_ 3 (some 20) (mk_ 10 127) ?_
        refine tK4_ 7 (some 24) (mk_ 10 255) ?_
        refine oN_ 8 (some 25) (mk_ 10 511) (fun K hK => ?_)
        refine gO_ Try.func83 #[.agg #[.int .i64 ((rd_T93 l0 x5_1).f0), .int .i64 ((rd_T93 l0 x5_1).f1)], .agg #[.int .i64 ((rd_T93 l1 x5_1).f0), .int .i64 ((rd_T93 l1 x5_1).f1)]] ?_
        with_reducible refine (laws_eqNote.calls ((rd_T93 l0 x5_1).f0) ((rd_T93 l0 x5_1).f1) ((rd_T93 l1 x5_1).f0) ((rd_T93 l1 x5_1).f1) true _ A7.out).mono ?_
        rintro e w10 ⟨rfl, hb⟩
        refine ⟨_, rfl, ?_⟩
        have n0 := aM_ (sT_ HB.out hb)
        clear HB
        have HB := n0
        clear n0
        (try clear hb)
        (try clear hb2)
        (try clear hk)
        (try clear hi)
        refine hK.out _ _ ⟨(cB_ HB.out hw321_0 :), (cB_ HB.out hw321_1 :), (cB_ HB.out hw322_0 :), (cB_ HB.out hw322_1 :)⟩ (fun hHeld => ?_)
        clear hK K
        refine norm_ (a' := ?_) ?_ ?_
        rotate_left
        ·show Act.put _ (some 25) _ = _
         simp only [pt_, pn_, sI_, s0_, s1_, i64_w, i32_w]
         rfl
        refine pU_ 9 (some 26) (mk_ 10 1023) ?_
        refine done_ (done_of HT_.out (by kernel_rfl)) ?_
        try go_wp2
        go_roundg k1
        case measure => have := HK1.out; omega
        case rel => exact ⟨(wrap64 (x5_1 + 1)), (by first | rfl | (simp; done) | (simp [*]; done)), H', ⟨by have := HK1.out; omega⟩, ⟨gW_ HB.out⟩⟩
       ·replace c8 := Bool.eq_false_iff.mpr c8
        subst c8
        have H1 : (some false) = some r := by rw [if_neg (show ¬ (false = true) by decide)] at H; exact H
        clear H
        have H := H1
        clear H1
        obtain rfl := Option.some.inj H
        try go_wp2
        have n0 := aM_ (below_drew1 HB.out)
        clear HB
        have HB := n0
        clear n0
        have p321 : 0 ≤ (x5_1 : Int) := of_decide_eq_true (by first | (with_reducible assumption) | assumption)
        have q321 : x5_1 < (l0.length : Int) := of_decide_eq_true (by first | (with_reducible assumption) | assumption)
        obtain ⟨ad321, e321, hx321_0, hx321_1⟩ := at_T93 HR0.out x5_1 p321 q321
        have hw321_1 := hx321_1
        have hw321_0 := hx321_0
        cases e321
        replace hx321_0 := cB_ HB.out hx321_0
        replace hx321_1 := cB_ HB.out hx321_1
        replace p321 := eq_true p321
        replace q321 := eq_true q321
        have p322 : 0 ≤ (x5_1 : Int) := of_decide_eq_true (by first | (with_reducible assumption) | assumption)
        have q322 : x5_1 < (l1.length : Int) := of_decide_eq_true (by first | (with_reducible assumption) | assumption)
        obtain ⟨ad322, e322, hx322_0, hx322_1⟩ := at_T93 HR1.out x5_1 p322 q322
        have hw322_1 := hx322_1
        have hw322_0 := hx322_0
        cases e322
        replace hx322_0 := cB_ HB.out hx322_0
        replace hx322_1 := cB_ HB.out hx322_1
        replace p322 := eq_true p322
        replace q322 := eq_true q322
        refine start_ (n := 10) (S := fun w' => w'.cell? (ad321.add ((x5_1).toNat * 2)) = some (.int .i64 ((rd_T93 l0 x5_1).f0)) ∧ w'.cell? ⟨(ad321.add ((x5_1).toNat * 2)).block, (ad321.add ((x5_1).toNat * 2)).off + 1, none⟩ = some (.int .i64 ((rd_T93 l0 x5_1).f1)) ∧ w'.cell? (ad322.add ((x5_1).toNat * 2)) = some (.int .i64 ((rd_T93 l1 x5_1).f0)) ∧ w'.cell? ⟨(ad322.add ((x5_1).toNat * 2)).block, (ad322.add ((x5_1).toNat * 2)).off + 1, none⟩ = some (.int .i64 ((rd_T93 l1 x5_1).f1))) (ds := []) (mk_ 10 0) (by kernel_rfl) rfl rfl ⟨(cB_ HB.out hw321_0 :), (cB_ HB.out hw321_1 :), (cB_ HB.out hw322_0 :), (cB_ HB.out hw322_1 :)⟩ (fun hHeld => ?_); refine with_tabW laws_eqNoteS.tab6 laws_eqNoteS.bits6 (fun HT_ HW_ => ?_)
        generalize wr.drew = w11 at HB hx321_0 hx321_1 hx322_0 hx322_1 hHeld ⊢
        refine pU_ 0 (some 17) (mk_ 10 1) ?_
        refine pU_ 1 (some 18) (mk_ 10 3) ?_
        refine pU_ 2 (some 19) (mk_ 10 7) ?_
        refine pU_ 4 (some 21) (mk_ 10 23) ?_
        refine pU_ 5 (some 22) (mk_ 10 55) ?_
        refine pU_ 6 (some 23) (mk_ 10 119) ?_
        refine tK4_ 3 (some 20) (mk_ 10 127) ?_
        refine tK4_ 7 (some 24) (mk_ 10 255) ?_
        refine oN_ 8 (some 25) (mk_ 10 511) (fun K hK => ?_)
        refine gO_ Try.func83 #[.agg #[.int .i64 ((rd_T93 l0 x5_1).f0), .int .i64 ((rd_T93 l0 x5_1).f1)], .agg #[.int .i64 ((rd_T93 l1 x5_1).f0), .int .i64 ((rd_T93 l1 x5_1).f1)]] ?_
        with_reducible refine (laws_eqNote.calls ((rd_T93 l0 x5_1).f0) ((rd_T93 l0 x5_1).f1) ((rd_T93 l1 x5_1).f0) ((rd_T93 l1 x5_1).f1) false _ A7.out).mono ?_
        rintro e w12 ⟨rfl, hb⟩
        refine ⟨_, rfl, ?_⟩
        have n0 := aM_ (sT_ HB.out hb)
        clear HB
        have HB := n0
        clear n0
        (try clear hb)
        (try clear hb2)
        (try clear hk)
        (try clear hi)
        refine hK.out _ _ ⟨(cB_ HB.out hw321_0 :), (cB_ HB.out hw321_1 :), (cB_ HB.out hw322_0 :), (cB_ HB.out hw322_1 :)⟩ (fun hHeld => ?_)
        clear hK K
        refine norm_ (a' := ?_) ?_ ?_
        rotate_left
        ·show Act.put _ (some 25) _ = _
         simp only [pt_, pn_, sI_, s0_, s1_, i64_w, i32_w]
         rfl
        refine pU_ 9 (some 26) (mk_ 10 1023) ?_
        refine done_ (done_of HT_.out (by kernel_rfl)) ?_
        try go_wp2
        go_ret
        exact fI_ HB.out
      ·rw [if_neg c6] at H
       exact absurd H (by simp)
     ·rw [if_neg c5] at H
      exact absurd H (by simp)
    ·rw [if_neg c4] at H
     have c4b0 : decide (x5_1 < (l0.length : Int)) = false := decide_eq_false c4
     clear c4
     obtain rfl := Option.some.inj H
     go_wp2
     go_ret
     exact fI_ HB.out
 ·rw [if_neg c3] at H
  have c3b0 : ((l0.length : Int) == (l1.length : Int)) = false := beq_eq_false_iff_ne.mpr c3
  have c3b1 : ((l0.length : Int) != (l1.length : Int)) = true := bne_iff_ne.mpr c3
  have c3b2 : (l0.length == l1.length) = false := by first | simpa using c3 | (simp at c3 ⊢; omega)
  obtain rfl := Option.some.inj H
  go_enter Try.func54, Try.ntmps54
  go_wp2
  go_ret
  exact fI_ HB.out
end Go.Proofs.Ytfaoipojijhlbaa.PFnExactSourceOk
namespace Go.Proofs.Ytfaoipojijhlbaa.PFnExactSourceOk
open Go.RowKit Go.Proofs.YtfaoipojijhlbaaW.PrintWords Go.Proofs.YtfaoipojijhlbaaW.PrintLast Go.Proofs.YtfaoipojijhlbaaW.PrintMore
attribute [local go_sem] max2_int min2_int max_two min_two max_three min_three max_four min_four   -- for this text's walks alone
set_option linter.unusedVariables false
set_option linter.unusedSimpArgs false
def laws_eqSource.f (k : Nat) (l0_0 : List (S86)) (l0_1 : List (S91)) (l0_2 : List (S93)) (l1_0 : List (S86)) (l1_1 : List (S91)) (l1_2 : List (S93)) : Option (Bool) := (laws_eqThreadS.f k l0_0 l1_0).bind fun t326 => (if t326 = true then ((laws_eqChanS.f k l0_1 l1_1).bind fun t327 => (if t327 = true then ((laws_eqNoteS.f k l0_2 l1_2).bind fun t328 => (if t328 = true then (some true) else (some false))) else (some false))) else (some false))
set_option maxHeartbeats 8000000 in
set_option maxRecDepth 100000 in
theorem laws_eqSource.calls (k : Nat) (A0_0 : Option Addr) (c0_0 : Nat) (l0_0 : List (S86)) (A0_1 : Option Addr) (c0_1 : Nat) (l0_1 : List (S91)) (A0_2 : Option Addr) (c0_2 : Nat) (l0_2 : List (S93)) (A1_0 : Option Addr) (c1_0 : Nat) (l1_0 : List (S86)) (A1_1 : Option Addr) (c1_1 : Nat) (l1_1 : List (S91)) (A1_2 : Option Addr) (c1_2 : Nat) (l1_2 : List (S93)) (r : Bool) (w : World) (hr0_0 : Kd.C k86 w A0_0 l0_0.length l0_0) (hc0_0 : l0_0.length ≤ c0_0) (hr0_1 : Kd.C k91 w A0_1 l0_1.length l0_1) (hc0_1 : l0_1.length ≤ c0_1) (hr0_2 : Kd.C k93 w A0_2 l0_2.length l0_2) (hc0_2 : l0_2.length ≤ c0_2) (hr1_0 : Kd.C k86 w A1_0 l1_0.length l1_0) (hc1_0 : l1_0.length ≤ c1_0) (hr1_1 : Kd.C k91 w A1_1 l1_1.length l1_1) (hc1_1 : l1_1.length ≤ c1_1) (hr1_2 : Kd.C k93 w A1_2 l1_2.length l1_2) (hc1_2 : l1_2.length ≤ c1_2) (h : laws_eqSource.f k l0_0 l0_1 l0_2 l1_0 l1_1 l1_2 = some r) :
  Calls Try.prog 20 #[.agg #[.slice A0_0 l0_0.length c0_0, .slice A0_1 l0_1.length c0_1, .slice A0_2 l0_2.length c0_2], .agg #[.slice A1_0 l1_0.length c1_0, .slice A1_1 l1_1.length c1_1, .slice A1_2 l1_2.length c1_2]] w fun e w' => e = .returned (.bool r) ∧ Below w.heap.size w w' := by
 have hu55 := Try.underlying55
 have HR0_0 := aM_ hr0_0
 have HC0_0 := aM_ hc0_0
 clear hr0_0 hc0_0
 have HR0_1 := aM_ hr0_1
 have HC0_1 := aM_ hc0_1
 clear hr0_1 hc0_1
 have HR0_2 := aM_ hr0_2
 have HC0_2 := aM_ hc0_2
 clear hr0_2 hc0_2
 have HR1_0 := aM_ hr1_0
 have HC1_0 := aM_ hc1_0
 clear hr1_0 hc1_0
 have HR1_1 := aM_ hr1_1
 have HC1_1 := aM_ hc1_1
 clear hr1_1 hc1_1
 have HR1_2 := aM_ hr1_2
 have HC1_2 := aM_ hc1_2
 clear hr1_2 hc1_2
 have HB := aM_ (Below.refl w.heap.size w)
 have H : ((laws_eqThreadS.f k l0_0 l1_0).bind fun t326 => (if t326 = true then ((laws_eqChanS.f k l0_1 l1_1).bind fun t327 => (if t327 = true then ((laws_eqNoteS.f k l0_2 l1_2).bind fun t328 => (if t328 = true then (some true) else (some false))) else (some false))) else (some false))) = some r := h
 clear h
 replace H := Option.bind_eq_some_iff.mp H
 obtain ⟨t326, A30, H⟩ := H
 replace H : (if t326 = true then ((laws_eqChanS.f k l0_1 l1_1).bind fun t327 => (if t327 = true then ((laws_eqNoteS.f k l0_2 l1_2).bind fun t328 => (if t328 = true then (some true) else (some false))) else (some false))) else (some false)) = some r := H
 have A3 := aM_ A30
 clear A30
 by_cases c4 : t326 = true
 ·subst c4
  have H1 : ((laws_eqChanS.f k l0_1 l1_1).bind fun t327 => (if t327 = true then ((laws_eqNoteS.f k l0_2 l1_2).bind fun t328 => (if t328 = true then (some true) else (some false))) else (some false))) = some r := by rw [if_pos rfl] at H; exact H
  clear H
  have H := H1
  clear H1
  replace H := Option.bind_eq_some_iff.mp H
  obtain ⟨t327, A50, H⟩ := H
  replace H : (if t327 = true then ((laws_eqNoteS.f k l0_2 l1_2).bind fun t328 => (if t328 = true then (some true) else (some false))) else (some false)) = some r := H
  have A5 := aM_ A50
  clear A50
  by_cases c6 : t327 = true
  ·subst c6
   have H1 : ((laws_eqNoteS.f k l0_2 l1_2).bind fun t328 => (if t328 = true then (some true) else (some false))) = some r := by rw [if_pos rfl] at H; exact H
   clear H
   have H := H1
   clear H1
   replace H := Option.bind_eq_some_iff.mp H
   obtain ⟨t328, A70, H⟩ := H
   replace H : (if t328 = true then (some true) else (some false)) = some r := H
   have A7 := aM_ A70
   clear A70
   by_cases c8 : t328 = true
   ·subst c8
    have H1 : (some true) = some r := by rw [if_pos rfl] at H; exact H
    clear H
    have H := H1
    clear H1
    obtain rfl := Option.some.inj H
    go_enter Try.func20, Try.ntmps20
    go_wp2_with (first | ((with_reducible refine gate_dst (N := 2) rfl ?_); refine bX_ 2 (cs := #[.slice A0_0 l0_0.length c0_0, .slice A0_1 l0_1.length c0_1, .slice A0_2 l0_2.length c0_2]) (t := 55) ?_; intro gb324 hg w9 hbox hb; have n0 := aM_ (sT_ HB.out hb); have n1 := aM_ (hbox); have n2 := aM_ (sZ_ hg HB.out); have n3 := aM_ (sZ_ hg HB.out); clear HB; have HB := n0; have BK324 := n1; have GW324 := n2; have GE324 := n3; clear n0 n1 n2 n3; clear hb hbox hg) | ((with_reducible refine gate_dst (N := 3) rfl ?_); refine bX_ 3 (cs := #[.slice A1_0 l1_0.length c1_0, .slice A1_1 l1_1.length c1_1, .slice A1_2 l1_2.length c1_2]) (t := 55) ?_; intro gb325 hg w10 hbox hb; have n0 := aM_ (nB_ BK324.out hb); have n1 := aM_ (sT_ HB.out hb); have n2 := aM_ (hbox); have n3 := aM_ (sZ_ hg HB.out); have n4 := aM_ (sZ_ hg HB.out); have n5 := aM_ (nL_ hg BK324.out); have n6 := aM_ (nG_ hg BK324.out); clear BK324; clear HB; have BK324 := n0; have HB := n1; have BK325 := n2; have GW325 := n3; have GE325 := n4; have NB324_325 := n5; have NB325_324 := n6; clear n0 n1 n2 n3 n4 n5 n6; clear hb hbox hg; have hnb11 := NB324_325.out; have hnc11 := NB325_324.out; obtain ⟨hcz12_0, hcz12_1, hcz12_2, hfz12_0, hfz12_1, hfz12_2⟩ := bR3_ BK324.out; obtain ⟨hcz13_0, hcz13_1, hcz13_2, hfz13_0, hfz13_1, hfz13_2⟩ := bR3_ BK325.out) | ((with_reducible refine gate_callee (f := 52) rfl ?_); refine gL_ (some 9) Try.func52 #[.slice A0_0 l0_0.length c0_0, .slice A1_0 l1_0.length c1_0] ?_; (with_reducible refine (laws_eqThreadS.calls k _ _ l0_0 _ _ l1_0 true _ ?side1 ?side2 ?side3 ?side4 A3.out).mono ?_); (case side1 => exact cS_ (Kd.C_below HR0_0.out HB.out)); (case side2 => exact HC0_0.out); (case side3 => exact cS_ (Kd.C_below HR1_0.out HB.out)); (case side4 => exact HC1_0.out); rintro e w14 ⟨rfl, hb⟩; refine ⟨_, rfl, ?_⟩; have n0 := aM_ (nB_ BK324.out hb); have n1 := aM_ (nB_ BK325.out hb); have n2 := aM_ (sT_ HB.out hb); clear BK324; clear BK325; clear HB; have BK324 := n0; have BK325 := n1; have HB := n2; clear n0 n1 n2; obtain ⟨hcz15_0, hcz15_1, hcz15_2, hfz15_0, hfz15_1, hfz15_2⟩ := bR3_ BK324.out; obtain ⟨hcz16_0, hcz16_1, hcz16_2, hfz16_0, hfz16_1, hfz16_2⟩ := bR3_ BK325.out) | ((with_reducible refine gate_callee (f := 53) rfl ?_); refine gL_ (some 15) Try.func53 #[.slice A0_1 l0_1.length c0_1, .slice A1_1 l1_1.length c1_1] ?_; (with_reducible refine (laws_eqChanS.calls k _ _ l0_1 _ _ l1_1 true _ ?side1 ?side2 ?side3 ?side4 A5.out).mono ?_); (case side1 => exact cS_ (Kd.C_below HR0_1.out HB.out)); (case side2 => exact HC0_1.out); (case side3 => exact cS_ (Kd.C_below HR1_1.out HB.out)); (case side4 => exact HC1_1.out); rintro e w17 ⟨rfl, hb⟩; refine ⟨_, rfl, ?_⟩; have n0 := aM_ (nB_ BK324.out hb); have n1 := aM_ (nB_ BK325.out hb); have n2 := aM_ (sT_ HB.out hb); clear BK324; clear BK325; clear HB; have BK324 := n0; have BK325 := n1; have HB := n2; clear n0 n1 n2; obtain ⟨hcz18_0, hcz18_1, hcz18_2, hfz18_0, hfz18_1, hfz18_2⟩ := bR3_ BK324.out; obtain ⟨hcz19_0, hcz19_1, hcz19_2, hfz19_0, hfz19_1, hfz19_2⟩ := bR3_ BK325.out) | ((with_reducible refine gate_callee (f := 54) rfl ?_); refine gL_ (some 21) Try.func54 #[.slice A0_2 l0_2.length c0_2, .slice A1_2 l1_2.length c1_2] ?_; (with_reducible refine (laws_eqNoteS.calls k _ _ l0_2 _ _ l1_2 true _ ?side1 ?side2 ?side3 ?side4 A7.out).mono ?_); (case side1 => exact cS_ (Kd.C_below HR0_2.out HB.out)); (case side2 => exact HC0_2.out); (case side3 => exact cS_ (Kd.C_below HR1_2.out HB.out)); (case side4 => exact HC1_2.out); rintro e w20 ⟨rfl, hb⟩; refine ⟨_, rfl, ?_⟩; have n0 := aM_ (nB_ BK324.out hb); have n1 := aM_ (nB_ BK325.out hb); have n2 := aM_ (sT_ HB.out hb); clear BK324; clear BK325; clear HB; have BK324 := n0; have BK325 := n1; have HB := n2; clear n0 n1 n2))
    go_ret
    exact fI_ HB.out
   ·replace c8 := Bool.eq_false_iff.mpr c8
    subst c8
    have H1 : (some false) = some r := by rw [if_neg (show ¬ (false = true) by decide)] at H; exact H
    clear H
    have H := H1
    clear H1
    obtain rfl := Option.some.inj H
    go_enter Try.func20, Try.ntmps20
    go_wp2_with (first | ((with_reducible refine gate_dst (N := 2) rfl ?_); refine bX_ 2 (cs := #[.slice A0_0 l0_0.length c0_0, .slice A0_1 l0_1.length c0_1, .slice A0_2 l0_2.length c0_2]) (t := 55) ?_; intro gb324 hg w21 hbox hb; have n0 := aM_ (sT_ HB.out hb); have n1 := aM_ (hbox); have n2 := aM_ (sZ_ hg HB.out); have n3 := aM_ (sZ_ hg HB.out); clear HB; have HB := n0; have BK324 := n1; have GW324 := n2; have GE324 := n3; clear n0 n1 n2 n3; clear hb hbox hg) | ((with_reducible refine gate_dst (N := 3) rfl ?_); refine bX_ 3 (cs := #[.slice A1_0 l1_0.length c1_0, .slice A1_1 l1_1.length c1_1, .slice A1_2 l1_2.length c1_2]) (t := 55) ?_; intro gb325 hg w22 hbox hb; have n0 := aM_ (nB_ BK324.out hb); have n1 := aM_ (sT_ HB.out hb); have n2 := aM_ (hbox); have n3 := aM_ (sZ_ hg HB.out); have n4 := aM_ (sZ_ hg HB.out); have n5 := aM_ (nL_ hg BK324.out); have n6 := aM_ (nG_ hg BK324.out); clear BK324; clear HB; have BK324 := n0; have HB := n1; have BK325 := n2; have GW325 := n3; have GE325 := n4; have NB324_325 := n5; have NB325_324 := n6; clear n0 n1 n2 n3 n4 n5 n6; clear hb hbox hg; have hnb23 := NB324_325.out; have hnc23 := NB325_324.out; obtain ⟨hcz24_0, hcz24_1, hcz24_2, hfz24_0, hfz24_1, hfz24_2⟩ := bR3_ BK324.out; obtain ⟨hcz25_0, hcz25_1, hcz25_2, hfz25_0, hfz25_1, hfz25_2⟩ := bR3_ BK325.out) | ((with_reducible refine gate_callee (f := 52) rfl ?_); refine gL_ (some 9) Try.func52 #[.slice A0_0 l0_0.length c0_0, .slice A1_0 l1_0.length c1_0] ?_; (with_reducible refine (laws_eqThreadS.calls k _ _ l0_0 _ _ l1_0 true _ ?side1 ?side2 ?side3 ?side4 A3.out).mono ?_); (case side1 => exact cS_ (Kd.C_below HR0_0.out HB.out)); (case side2 => exact HC0_0.out); (case side3 => exact cS_ (Kd.C_below HR1_0.out HB.out)); (case side4 => exact HC1_0.out); rintro e w26 ⟨rfl, hb⟩; refine ⟨_, rfl, ?_⟩; have n0 := aM_ (nB_ BK324.out hb); have n1 := aM_ (nB_ BK325.out hb); have n2 := aM_ (sT_ HB.out hb); clear BK324; clear BK325; clear HB; have BK324 := n0; have BK325 := n1; have HB := n2; clear n0 n1 n2; obtain ⟨hcz27_0, hcz27_1, hcz27_2, hfz27_0, hfz27_1, hfz27_2⟩ := bR3_ BK324.out; obtain ⟨hcz28_0, hcz28_1, hcz28_2, hfz28_0, hfz28_1, hfz28_2⟩ := bR3_ BK325.out) | ((with_reducible refine gate_callee (f := 53) rfl ?_); refine gL_ (some 15) Try.func53 #[.slice A0_1 l0_1.length c0_1, .slice A1_1 l1_1.length c1_1] ?_; (with_reducible refine (laws_eqChanS.calls k _ _ l0_1 _ _ l1_1 true _ ?side1 ?side2 ?side3 ?side4 A5.out).mono ?_); (case side1 => exact cS_ (Kd.C_below HR0_1.out HB.out)); (case side2 => exact HC0_1.out); (case side3 => exact cS_ (Kd.C_below HR1_1.out HB.out)); (case side4 => exact HC1_1.out); rintro e w29 ⟨rfl, hb⟩; refine ⟨_, rfl, ?_⟩; have n0 := aM_ (nB_ BK324.out hb); have n1 := aM_ (nB_ BK325.out hb); have n2 := aM_ (sT_ HB.out hb); clear BK324; clear BK325; clear HB; have BK324 := n0; have BK325 := n1; have HB := n2; clear n0 n1 n2; obtain ⟨hcz30_0, hcz30_1, hcz30_2, hfz30_0, hfz30_1, hfz30_2⟩ := bR3_ BK324.out; obtain ⟨hcz31_0, hcz31_1, hcz31_2, hfz31_0, hfz31_1, hfz31_2⟩ := bR3_ BK325.out) | ((with_reducible refine gate_callee (f := 54) rfl ?_); refine gL_ (some 21) Try.func54 #[.slice A0_2 l0_2.length c0_2, .slice A1_2 l1_2.length c1_2] ?_; (with_reducible refine (laws_eqNoteS.calls k _ _ l0_2 _ _ l1_2 false _ ?side1 ?side2 ?side3 ?side4 A7.out).mono ?_); (case side1 => exact cS_ (Kd.C_below HR0_2.out HB.out)); (case side2 => exact HC0_2.out); (case side3 => exact cS_ (Kd.C_below HR1_2.out HB.out)); (case side4 => exact HC1_2.out); rintro e w32 ⟨rfl, hb⟩; refine ⟨_, rfl, ?_⟩; have n0 := aM_ (nB_ BK324.out hb); have n1 := aM_ (nB_ BK325.out hb); have n2 := aM_ (sT_ HB.out hb); clear BK324; clear BK325; clear HB; have BK324 := n0; have BK325 := n1; have HB := n2; clear n0 n1 n2))
    go_ret
    exact fI_ HB.out
  ·replace c6 := Bool.eq_false_iff.mpr c6
   subst c6
   have H1 : (some false) = some r := by rw [if_neg (show ¬ (false = true) by decide)] at H; exact H
   clear H
   have H := H1
   clear H1
   obtain rfl := Option.some.inj H
   go_enter Try.func20, Try.ntmps20
   go_wp2_with (first | ((with_reducible refine gate_dst (N := 2) rfl ?_); refine bX_ 2 (cs := #[.slice A0_0 l0_0.length c0_0, .slice A0_1 l0_1.length c0_1, .slice A0_2 l0_2.length c0_2]) (t := 55) ?_; intro gb324 hg w33 hbox hb; have n0 := aM_ (sT_ HB.out hb); have n1 := aM_ (hbox); have n2 := aM_ (sZ_ hg HB.out); have n3 := aM_ (sZ_ hg HB.out); clear HB; have HB := n0; have BK324 := n1; have GW324 := n2; have GE324 := n3; clear n0 n1 n2 n3; clear hb hbox hg) | ((with_reducible refine gate_dst (N := 3) rfl ?_); refine bX_ 3 (cs := #[.slice A1_0 l1_0.length c1_0, .slice A1_1 l1_1.length c1_1, .slice A1_2 l1_2.length c1_2]) (t := 55) ?_; intro gb325 hg w34 hbox hb; have n0 := aM_ (nB_ BK324.out hb); have n1 := aM_ (sT_ HB.out hb); have n2 := aM_ (hbox); have n3 := aM_ (sZ_ hg HB.out); have n4 := aM_ (sZ_ hg HB.out); have n5 := aM_ (nL_ hg BK324.out); have n6 := aM_ (nG_ hg BK324.out); clear BK324; clear HB; have BK324 := n0; have HB := n1; have BK325 := n2; have GW325 := n3; have GE325 := n4; have NB324_325 := n5; have NB325_324 := n6; clear n0 n1 n2 n3 n4 n5 n6; clear hb hbox hg; have hnb35 := NB324_325.out; have hnc35 := NB325_324.out; obtain ⟨hcz36_0, hcz36_1, hcz36_2, hfz36_0, hfz36_1, hfz36_2⟩ := bR3_ BK324.out; obtain ⟨hcz37_0, hcz37_1, hcz37_2, hfz37_0, hfz37_1, hfz37_2⟩ := bR3_ BK325.out) | ((with_reducible refine gate_callee (f := 52) rfl ?_); refine gL_ (some 9) Try.func52 #[.slice A0_0 l0_0.length c0_0, .slice A1_0 l1_0.length c1_0] ?_; (with_reducible refine (laws_eqThreadS.calls k _ _ l0_0 _ _ l1_0 true _ ?side1 ?side2 ?side3 ?side4 A3.out).mono ?_); (case side1 => exact cS_ (Kd.C_below HR0_0.out HB.out)); (case side2 => exact HC0_0.out); (case side3 => exact cS_ (Kd.C_below HR1_0.out HB.out)); (case side4 => exact HC1_0.out); rintro e w38 ⟨rfl, hb⟩; refine ⟨_, rfl, ?_⟩; have n0 := aM_ (nB_ BK324.out hb); have n1 := aM_ (nB_ BK325.out hb); have n2 := aM_ (sT_ HB.out hb); clear BK324; clear BK325; clear HB; have BK324 := n0; have BK325 := n1; have HB := n2; clear n0 n1 n2; obtain ⟨hcz39_0, hcz39_1, hcz39_2, hfz39_0, hfz39_1, hfz39_2⟩ := bR3_ BK324.out; obtain ⟨hcz40_0, hcz40_1, hcz40_2, hfz40_0, hfz40_1, hfz40_2⟩ := bR3_ BK325.out) | ((with_reducible refine gate_callee (f := 53) rfl ?_); refine gL_ (some 15) Try.func53 #[.slice A0_1 l0_1.length c0_1, .slice A1_1 l1_1.length c1_1] ?_; (with_reducible refine (laws_eqChanS.calls k _ _ l0_1 _ _ l1_1 false _ ?side1 ?side2 ?side3 ?side4 A5.out).mono ?_); (case side1 => exact cS_ (Kd.C_below HR0_1.out HB.out)); (case side2 => exact HC0_1.out); (case side3 => exact cS_ (Kd.C_below HR1_1.out HB.out)); (case side4 => exact HC1_1.out); rintro e w41 ⟨rfl, hb⟩; refine ⟨_, rfl, ?_⟩; have n0 := aM_ (nB_ BK324.out hb); have n1 := aM_ (nB_ BK325.out hb); have n2 := aM_ (sT_ HB.out hb); clear BK324; clear BK325; clear HB; have BK324 := n0; have BK325 := n1; have HB := n2; clear n0 n1 n2))
   go_ret
   exact fI_ HB.out
 ·replace c4 := Bool.eq_false_iff.mpr c4
  subst c4
  have H1 : (some false) = some r := by rw [if_neg (show ¬ (false = true) by decide)] at H; exact H
  clear H
  have H := H1
  clear H1
  obtain rfl := Option.some.inj H
  go_enter Try.func20, Try.ntmps20
  go_wp2_with (first | ((with_reducible refine gate_dst (N := 2) rfl ?_); refine bX_ 2 (cs := #[.slice A0_0 l0_0.length c0_0, .slice A0_1 l0_1.length c0_1, .slice A0_2 l0_2.length c0_2]) (t := 55) ?_; intro gb324 hg w42 hbox hb; have n0 := aM_ (sT_ HB.out hb); have n1 := aM_ (hbox); have n2 := aM_ (sZ_ hg HB.out); have n3 := aM_ (sZ_ hg HB.out); clear HB; have HB := n0; have BK324 := n1; have GW324 := n2; have GE324 := n3; clear n0 n1 n2 n3; clear hb hbox hg) | ((with_reducible refine gate_dst (N := 3) rfl ?_); refine bX_ 3 (cs := #[.slice A1_0 l1_0.length c1_0, .slice A1_1 l1_1.length c1_1, .slice A1_2 l1_2.length c1_2]) (t := 55) ?_; intro gb325 hg w43 hbox hb; have n0 := aM_ (nB_ BK324.out hb); have n1 := aM_ (sT_ HB.out hb); have n2 := aM_ (hbox); have n3 := aM_ (sZ_ hg HB.out); have n4 := aM_ (sZ_ hg HB.out); have n5 := aM_ (nL_ hg BK324.out); have n6 := aM_ (nG_ hg BK324.out); clear BK324; clear HB; have BK324 := n0; have HB := n1; have BK325 := n2; have GW325 := n3; have GE325 := n4; have NB324_325 := n5; have NB325_324 := n6; clear n0 n1 n2 n3 n4 n5 n6; clear hb hbox hg; have hnb44 := NB324_325.out; have hnc44 := NB325_324.out; obtain ⟨hcz45_0, hcz45_1, hcz45_2, hfz45_0, hfz45_1, hfz45_2⟩ := bR3_ BK324.out; obtain ⟨hcz46_0, hcz46_1, hcz46_2, hfz46_0, hfz46_1, hfz46_2⟩ := bR3_ BK325.out) | ((with_reducible refine gate_callee (f := 52) rfl ?_); refine gL_ (some 9) Try.func52 #[.slice A0_0 l0_0.length c0_0, .slice A1_0 l1_0.length c1_0] ?_; (with_reducible refine (laws_eqThreadS.calls k _ _ l0_0 _ _ l1_0 false _ ?side1 ?side2 ?side3 ?side4 A3.out).mono ?_); (case side1 => exact cS_ (Kd.C_below HR0_0.out HB.out)); (case side2 => exact HC0_0.out); (case side3 => exact cS_ (Kd.C_below HR1_0.out HB.out)); (case side4 => exact HC1_0.out); rintro e w47 ⟨rfl, hb⟩; refine ⟨_, rfl, ?_⟩; have n0 := aM_ (nB_ BK324.out hb); have n1 := aM_ (nB_ BK325.out hb); have n2 := aM_ (sT_ HB.out hb); clear BK324; clear BK325; clear HB; have BK324 := n0; have BK325 := n1; have HB := n2; clear n0 n1 n2))
  go_ret
  exact fI_ HB.out
end Go.Proofs.Ytfaoipojijhlbaa.PFnExactSourceOk
