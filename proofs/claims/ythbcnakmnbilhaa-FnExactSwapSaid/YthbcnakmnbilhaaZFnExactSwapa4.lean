/- A part of the proof that the law FnExactSwap holds for every input: the words, functions and walks that its row needs, without a condition of their own. -/
import Derived.Test.YthbcnakmnbilhaaZFnExactSwapa2
import Derived.Test.YthbcnakmnbilhaaZFnExactSwaps
namespace Go.Proofs.Ythbcnakmnbilhaa.PFnExactSwap
open Go.RowKit Go.Proofs.YthbcnakmnbilhaaW.PrintWords Go.Proofs.YthbcnakmnbilhaaW.PrintLast Go.Proofs.YthbcnakmnbilhaaW.PrintMore
attribute [local go_sem] max2_int min2_int max_two min_two max_three min_three max_four min_four   -- for this text's walks alone
set_option linter.unusedVariables false
set_option linter.unusedSimpArgs false
def laws_eqWriteSS.l0 : Nat → List (List (S43)) → List (List (S43)) → Int → Option (Bool)
  | 0, _, _, _ => none
  | k + 1, x0, x1, x5 => if x5 < (x0.length : Int) then (if 0 ≤ x5 then (if x5 < (x1.length : Int) then ((laws_eqWriteS.f k (rd_L3 x0 x5) (rd_L3 x1 x5)).bind fun t111 => (if t111 = true then (laws_eqWriteSS.l0 k x0 x1 (wrap64 (x5 + 1))) else (some false))) else (none)) else (none)) else (some true)
def laws_eqWriteSS.f (k : Nat) (l0 : List (List (S43))) (l1 : List (List (S43))) : Option (Bool) := if (l0.length : Int) = (l1.length : Int) then (laws_eqWriteSS.l0 k l0 l1 0) else (some false)
def laws_eqWriteSS.T6 : Bool × List (List Nat × List Nat) := (true, [([], []), ([], []), ([0, 1], [0, 1]), ([2], [2]), ([], []), ([], []), ([4, 5], [4, 5]), ([6], [6]), ([3, 7], [3, 7]), ([8], [8])])
def laws_eqWriteSS.B6 : List Nat := [0, 0, 3, 7, 0, 0, 48, 112, 255, 511]
theorem laws_eqWriteSS.tab6 : rtab .any (opsOf Try.f52 6) = laws_eqWriteSS.T6 := by kernel_rfl
theorem laws_eqWriteSS.bits6 : waitsOk laws_eqWriteSS.T6.2 laws_eqWriteSS.B6 = true := by kernel_rfl
set_option maxHeartbeats 8000000 in
set_option maxRecDepth 100000 in
theorem laws_eqWriteSS.calls (k : Nat) (A0 : Option Addr) (c0 : Nat) (l0 : List (List (S43))) (A1 : Option Addr) (c1 : Nat) (l1 : List (List (S43))) (r : Bool) (w : World) (hr0 : Kd.C (Kd.slice 43 k43) w A0 l0.length l0) (hc0 : l0.length ≤ c0) (hr1 : Kd.C (Kd.slice 43 k43) w A1 l1.length l1) (hc1 : l1.length ≤ c1) (h : laws_eqWriteSS.f k l0 l1 = some r) :
  Calls Try.prog 52 #[.slice A0 l0.length c0, .slice A1 l1.length c1] w fun e w' => e = .returned (.bool r) ∧ Below w.heap.size w w' := by
 have HR0 := aM_ hr0
 have HC0 := aM_ hc0
 clear hr0 hc0
 have HR1 := aM_ hr1
 have HC1 := aM_ hc1
 clear hr1 hc1
 have HB := aM_ (Below.refl w.heap.size w)
 have H : (if (l0.length : Int) = (l1.length : Int) then (laws_eqWriteSS.l0 k l0 l1 0) else (some false)) = some r := h
 clear h
 by_cases c3 : (l0.length : Int) = (l1.length : Int)
 ·rw [if_pos c3] at H
  have c3b0 : ((l0.length : Int) == (l1.length : Int)) = true := beq_iff_eq.mpr c3
  have c3b1 : ((l0.length : Int) != (l1.length : Int)) = false := bne_eq_false_iff_eq.mpr c3
  have c3b2 : (l0.length == l1.length) = true := by first | simpa using c3 | (simp at c3 ⊢; omega)
  clear c3
  have H' := aM_ H
  clear H
  go_enter Try.func52, Try.ntmps52
  go_wp2
  go_loopg [5] k (fun kq v5 w' => ∃ (x5_1 : Int), v5 = .int .i64 x5_1 ∧ Aside0 (laws_eqWriteSS.l0 kq l0 l1 x5_1 = some r) ∧ Aside0 (kq ≤ k) ∧ Aside0 (Below w.heap.size w w'))
  case atStart => exact ⟨(0), (by first | rfl | (simp; done) | (simp [*]; done)), H', ⟨Nat.le_refl _⟩, ⟨gW_ HB.out⟩⟩
  case round =>
   clear H'
   try clear c1
   try clear p2
   try clear c3
   try clear c3b0
   try clear c3b1
   try clear c3b2
   obtain ⟨x5_1, rfl, HA, HK1, HB⟩ := hrel
   cases gk with
   | zero => exact absurd HA.out (by simp [laws_eqWriteSS.l0])
   | succ k1 =>
    have H := HA.out
    clear HA
    simp only [laws_eqWriteSS.l0] at H
    by_cases c4 : x5_1 < (l0.length : Int)
    ·rw [if_pos c4] at H
     have c4b0 : decide (x5_1 < (l0.length : Int)) = true := decide_eq_true c4
     clear c4
     by_cases c5 : 0 ≤ x5_1
     ·rw [if_pos c5] at H
      have c5b0 : decide (0 ≤ x5_1) = true := decide_eq_true c5
      clear c5
      by_cases c6 : x5_1 < (l1.length : Int)
      ·rw [if_pos c6] at H
       have c6b0 : decide (x5_1 < (l1.length : Int)) = true := decide_eq_true c6
       clear c6
       replace H := Option.bind_eq_some_iff.mp H
       obtain ⟨t111, A70, H⟩ := H
       replace H : (if t111 = true then (laws_eqWriteSS.l0 k1 l0 l1 (wrap64 (x5_1 + 1))) else (some false)) = some r := H
       have A7 := aM_ A70
       clear A70
       by_cases c8 : t111 = true
       ·subst c8
        have H1 : (laws_eqWriteSS.l0 k1 l0 l1 (wrap64 (x5_1 + 1))) = some r := by rw [if_pos rfl] at H; exact H
        clear H
        have H := H1
        clear H1
        have H' := aM_ H
        clear H
        try go_wp2
        have n0 := aM_ (below_drew1 HB.out)
        clear HB
        have HB := n0
        clear n0
        have p109 : 0 ≤ (x5_1 : Int) := of_decide_eq_true (by first | (with_reducible assumption) | assumption)
        have q109 : x5_1 < (l0.length : Int) := of_decide_eq_true (by first | (with_reducible assumption) | assumption)
        obtain ⟨ad109, A109_0, c109_0, e109, hx109_0, hl109_0, hi109_0⟩ := at_L3 HR0.out x5_1 p109 q109
        have hw109_0 := hx109_0
        cases e109
        replace hx109_0 := cB_ HB.out hx109_0
        have HR109_0 := aM_ hi109_0
        have HC109_0 := aM_ hl109_0
        clear hi109_0 hl109_0
        replace p109 := eq_true p109
        replace q109 := eq_true q109
        have p110 : 0 ≤ (x5_1 : Int) := of_decide_eq_true (by first | (with_reducible assumption) | assumption)
        have q110 : x5_1 < (l1.length : Int) := of_decide_eq_true (by first | (with_reducible assumption) | assumption)
        obtain ⟨ad110, A110_0, c110_0, e110, hx110_0, hl110_0, hi110_0⟩ := at_L3 HR1.out x5_1 p110 q110
        have hw110_0 := hx110_0
        cases e110
        replace hx110_0 := cB_ HB.out hx110_0
        have HR110_0 := aM_ hi110_0
        have HC110_0 := aM_ hl110_0
        clear hi110_0 hl110_0
        replace p110 := eq_true p110
        replace q110 := eq_true q110
        refine start_ (n := 10) (S := fun w' => w'.cell? (ad109.add (x5_1).toNat) = some (.slice A109_0 (rd_L3 l0 x5_1).length c109_0) ∧ w'.cell? (ad110.add (x5_1).toNat) = some (.slice A110_0 (rd_L3 l1 x5_1).length c110_0)) (ds := []) (mk_ 10 0) (by kernel_rfl) rfl rfl ⟨(cB_ HB.out hw109_0 :), (cB_ HB.out hw110_0 :)⟩ (fun hHeld => ?_); refine with_tabW laws_eqWriteSS.tab6 laws_eqWriteSS.bits6 (fun HT_ HW_ => ?_)
        generalize wr.drew = w9 at HB HR109_0 HR110_0 hx109_0 hx110_0 hHeld ⊢
        refine pU_ 0 (some 17) (mk_ 10 1) ?_
        refine pU_ 1 (some 18) (mk_ 10 3) ?_
        refine pU_ 2 (some 19) (mk_ 10 7) ?_
        refine pU_ 4 (some 21) (mk_ 10 23) ?_
        refine pU_ 5 (some 22) (mk_ 10 55) ?_
        refine pU_ 6 (some 23) (mk_ 10 119) ?_
        refine tK2_ 3 (some 20) (mk_ 10 127) ?_
        refine tK2_ 7 (some 24) (mk_ 10 255) ?_
        refine oN_ 8 (some 25) (mk_ 10 511) (fun K hK => ?_)
        refine gO_ Try.func91 #[.slice A109_0 (rd_L3 l0 x5_1).length c109_0, .slice A110_0 (rd_L3 l1 x5_1).length c110_0] ?_
        with_reducible refine (laws_eqWriteS.calls k1 _ _ (rd_L3 l0 x5_1) _ _ (rd_L3 l1 x5_1) true _ ?side1 ?side2 ?side3 ?side4 A7.out).mono ?_
        (case side1 => exact cS_ (Kd.C_below HR109_0.out HB.out))
        (case side2 => exact HC109_0.out)
        (case side3 => exact cS_ (Kd.C_below HR110_0.out HB.out))
        (case side4 => exact HC110_0.out)
        rintro e w10 ⟨rfl, hb⟩
        refine ⟨_, rfl, ?_⟩
        have n0 := aM_ (sT_ HB.out hb)
        clear HB
        have HB := n0
        clear n0
        (try clear hb)
        (try clear hb2)
        (try clear hk)
        (try clear hi)
        refine hK.out _ _ ⟨(cB_ HB.out hw109_0 :), (cB_ HB.out hw110_0 :)⟩ (fun hHeld => ?_)
        clear hK K
        refine norm_ (a' := ?_) ?_ ?_
        rotate_left
        ·show Act.put _ (some 25) _ = _
         simp only [pt_, pn_, sI_, s0_, s1_, i64_w, i32_w]
         rfl
        refine pU_ 9 (some 26) (mk_ 10 1023) ?_
        refine done_ (done_of HT_.out (by kernel_rfl)) ?_
        try go_wp2
        go_roundg k1
        case measure => have := HK1.out; omega
        case rel => exact ⟨(wrap64 (x5_1 + 1)), (by first | rfl | (simp; done) | (simp [*]; done)), H', ⟨by have := HK1.out; omega⟩, ⟨gW_ HB.out⟩⟩
       ·replace c8 := Bool.eq_false_iff.mpr c8
        subst c8
        have H1 : (some false) = some r := by rw [if_neg (show ¬ (false = true) by decide)] at H; exact H
        clear H
        have H := H1
        clear H1
        obtain rfl := Option.some.inj H
        try go_wp2
        have n0 := aM_ (below_drew1 HB.out)
        clear HB
        have HB := n0
        clear n0
        have p109 : 0 ≤ (x5_1 : Int) := of_decide_eq_true (by first | (with_reducible assumption) | assumption)
        have q109 : x5_1 < (l0.length : Int) := of_decide_eq_true (by first | (with_reducible assumption) | assumption)
        obtain ⟨ad109, A109_0, c109_0, e109, hx109_0, hl109_0, hi109_0⟩ := at_L3 HR0.out x5_1 p109 q109
        have hw109_0 := hx109_0
        cases e109
        replace hx109_0 := cB_ HB.out hx109_0
        have HR109_0 := aM_ hi109_0
        have HC109_0 := aM_ hl109_0
        clear hi109_0 hl109_0
        replace p109 := eq_true p109
        replace q109 := eq_true q109
        have p110 : 0 ≤ (x5_1 : Int) := of_decide_eq_true (by first | (with_reducible assumption) | assumption)
        have q110 : x5_1 < (l1.length : Int) := of_decide_eq_true (by first | (with_reducible assumption) | assumption)
        obtain ⟨ad110, A110_0, c110_0, e110, hx110_0, hl110_0, hi110_0⟩ := at_L3 HR1.out x5_1 p110 q110
        have hw110_0 := hx110_0
        cases e110
        replace hx110_0 := cB_ HB.out hx110_0
        have HR110_0 := aM_ hi110_0
        have HC110_0 := aM_ hl110_0
        clear hi110_0 hl110_0
        replace p110 := eq_true p110
        replace q110 := eq_true q110
        refine start_ (n := 10) (S := fun w' => w'.cell? (ad109.add (x5_1).toNat) = some (.slice A109_0 (rd_L3 l0 x5_1).length c109_0) ∧ w'.cell? (ad110.add (x5_1).toNat) = some (.slice A110_0 (rd_L3 l1 x5_1).length c110_0)) (ds := []) (mk_ 10 0) (by kernel_rfl) rfl rfl ⟨(cB_ HB.out hw109_0 :), (cB_ HB.out hw110_0 :)⟩ (fun hHeld => ?_); refine with_tabW laws_eqWriteSS.tab6 laws_eqWriteSS.bits6 (fun HT_ HW_ => ?_)
        generalize wr.drew = w11 at HB HR109_0 HR110_0 hx109_0 hx110_0 hHeld ⊢
        refine pU_ 0 (some 17) (mk_ 10 1) ?_
        refine pU_ 1 (some 18) (mk_ 10 3) ?_
        refine pU_ 2 (some 19) (mk_ 10 7) ?_
        refine pU_ 4 (some 21) (mk_ 10 23) ?_
        refine pU_ 5 (some 22) (mk_ 10 55) ?_
        refine pU_ 6 (some 23) (mk_ 10 119) ?_
        refine tK2_ 3 (some 20) (mk_ 10 127) ?_
        refine tK2_ 7 (some 24) (mk_ 10 255) ?_
        refine oN_ 8 (some 25) (mk_ 10 511) (fun K hK => ?_)
        refine gO_ Try.func91 #[.slice A109_0 (rd_L3 l0 x5_1).length c109_0, .slice A110_0 (rd_L3 l1 x5_1).length c110_0] ?_
        with_reducible refine (laws_eqWriteS.calls k1 _ _ (rd_L3 l0 x5_1) _ _ (rd_L3 l1 x5_1) false _ ?side1 ?side2 ?side3 ?side4 A7.out).mono ?_
        (case side1 => exact cS_ (Kd.C_below HR109_0.out HB.out))
        (case side2 => exact HC109_0.out)
        (case side3 => exact cS_ (Kd.C_below HR110_0.out HB.out))
        (case side4 => exact HC110_0.out)
        rintro e w12 ⟨rfl, hb⟩
        refine ⟨_, rfl, ?_⟩
        have n0 := aM_ (sT_ HB.out hb)
        clear HB
        have HB := n0
        clear n0
        (try clear hb)
        (try clear hb2)
        (try clear hk)
        (try clear hi)
        refine hK.out _ _ ⟨(cB_ HB.out hw109_0 :), (cB_ HB.out hw110_0 :)⟩ (fun hHeld => ?_)
        clear hK K
        refine norm_ (a' := ?_) ?_ ?_
        rotate_left
        ·show Act.put _ (some 25) _ = _
         simp only [pt_, pn_, sI_, s0_, s1_, i64_w, i32_w]
         rfl
        refine pU_ 9 (some 26) (mk_ 10 1023) ?_
        refine done_ (done_of HT_.out (by kernel_rfl)) ?_
        try go_wp2
        go_ret
        exact fI_ HB.out
      ·rw [if_neg c6] at H
       exact absurd H (by simp)
     ·rw [if_neg c5] at H
      exact absurd H (by simp)
    ·rw [if_neg c4] at H
     have c4b0 : decide (x5_1 < (l0.length : Int)) = false := decide_eq_false c4
     clear c4
     obtain rfl := Option.some.inj H
     go_wp2
     go_ret
     exact fI_ HB.out
 ·rw [if_neg c3] at H
  have c3b0 : ((l0.length : Int) == (l1.length : Int)) = false := beq_eq_false_iff_ne.mpr c3
  have c3b1 : ((l0.length : Int) != (l1.length : Int)) = true := bne_iff_ne.mpr c3
  have c3b2 : (l0.length == l1.length) = false := by first | simpa using c3 | (simp at c3 ⊢; omega)
  obtain rfl := Option.some.inj H
  go_enter Try.func52, Try.ntmps52
  go_wp2
  go_ret
  exact fI_ HB.out
def laws_eqMemory.f (k : Nat) (l0_0 : List (List (S43))) (l1_0 : List (List (S43))) : Option (Bool) := (laws_eqWriteSS.f k l0_0 l1_0).bind fun t114 => (if t114 = true then (some true) else (some false))
set_option maxHeartbeats 8000000 in
set_option maxRecDepth 100000 in
theorem laws_eqMemory.calls (k : Nat) (A0_0 : Option Addr) (c0_0 : Nat) (l0_0 : List (List (S43))) (A1_0 : Option Addr) (c1_0 : Nat) (l1_0 : List (List (S43))) (r : Bool) (w : World) (hr0_0 : Kd.C (Kd.slice 43 k43) w A0_0 l0_0.length l0_0) (hc0_0 : l0_0.length ≤ c0_0) (hr1_0 : Kd.C (Kd.slice 43 k43) w A1_0 l1_0.length l1_0) (hc1_0 : l1_0.length ≤ c1_0) (h : laws_eqMemory.f k l0_0 l1_0 = some r) :
  Calls Try.prog 15 #[.agg #[.slice A0_0 l0_0.length c0_0], .agg #[.slice A1_0 l1_0.length c1_0]] w fun e w' => e = .returned (.bool r) ∧ Below w.heap.size w w' := by
 have hu24 := Try.underlying24
 have HR0_0 := aM_ hr0_0
 have HC0_0 := aM_ hc0_0
 clear hr0_0 hc0_0
 have HR1_0 := aM_ hr1_0
 have HC1_0 := aM_ hc1_0
 clear hr1_0 hc1_0
 have HB := aM_ (Below.refl w.heap.size w)
 have H : ((laws_eqWriteSS.f k l0_0 l1_0).bind fun t114 => (if t114 = true then (some true) else (some false))) = some r := h
 clear h
 replace H := Option.bind_eq_some_iff.mp H
 obtain ⟨t114, A30, H⟩ := H
 replace H : (if t114 = true then (some true) else (some false)) = some r := H
 have A3 := aM_ A30
 clear A30
 by_cases c4 : t114 = true
 ·subst c4
  have H1 : (some true) = some r := by rw [if_pos rfl] at H; exact H
  clear H
  have H := H1
  clear H1
  obtain rfl := Option.some.inj H
  go_enter Try.func15, Try.ntmps15
  go_wp2_with (first | ((with_reducible refine gate_dst (N := 2) rfl ?_); refine bX_ 2 (cs := #[.slice A0_0 l0_0.length c0_0]) (t := 24) ?_; intro gb112 hg w5 hbox hb; have n0 := aM_ (sT_ HB.out hb); have n1 := aM_ (hbox); have n2 := aM_ (sZ_ hg HB.out); have n3 := aM_ (sZ_ hg HB.out); clear HB; have HB := n0; have BK112 := n1; have GW112 := n2; have GE112 := n3; clear n0 n1 n2 n3; clear hb hbox hg) | ((with_reducible refine gate_dst (N := 3) rfl ?_); refine bX_ 3 (cs := #[.slice A1_0 l1_0.length c1_0]) (t := 24) ?_; intro gb113 hg w6 hbox hb; have n0 := aM_ (nB_ BK112.out hb); have n1 := aM_ (sT_ HB.out hb); have n2 := aM_ (hbox); have n3 := aM_ (sZ_ hg HB.out); have n4 := aM_ (sZ_ hg HB.out); have n5 := aM_ (nL_ hg BK112.out); have n6 := aM_ (nG_ hg BK112.out); clear BK112; clear HB; have BK112 := n0; have HB := n1; have BK113 := n2; have GW113 := n3; have GE113 := n4; have NB112_113 := n5; have NB113_112 := n6; clear n0 n1 n2 n3 n4 n5 n6; clear hb hbox hg; have hnb7 := NB112_113.out; have hnc7 := NB113_112.out; have hcz8_0 : w6.cell? ⟨gb112, 0, none⟩ = some (.slice A0_0 l0_0.length c0_0) := (blk_cell BK112.out 0).trans rfl; have hfz8_0 := blk_frozen BK112.out 0; have hcz9_0 : w6.cell? ⟨gb113, 0, none⟩ = some (.slice A1_0 l1_0.length c1_0) := (blk_cell BK113.out 0).trans rfl; have hfz9_0 := blk_frozen BK113.out 0) | ((with_reducible refine gate_callee (f := 52) rfl ?_); refine gL_ (some 9) Try.func52 #[.slice A0_0 l0_0.length c0_0, .slice A1_0 l1_0.length c1_0] ?_; (with_reducible refine (laws_eqWriteSS.calls k _ _ l0_0 _ _ l1_0 true _ ?side1 ?side2 ?side3 ?side4 A3.out).mono ?_); (case side1 => exact cS_ (Kd.C_below HR0_0.out HB.out)); (case side2 => exact HC0_0.out); (case side3 => exact cS_ (Kd.C_below HR1_0.out HB.out)); (case side4 => exact HC1_0.out); rintro e w10 ⟨rfl, hb⟩; refine ⟨_, rfl, ?_⟩; have n0 := aM_ (nB_ BK112.out hb); have n1 := aM_ (nB_ BK113.out hb); have n2 := aM_ (sT_ HB.out hb); clear BK112; clear BK113; clear HB; have BK112 := n0; have BK113 := n1; have HB := n2; clear n0 n1 n2))
  go_ret
  exact fI_ HB.out
 ·replace c4 := Bool.eq_false_iff.mpr c4
  subst c4
  have H1 : (some false) = some r := by rw [if_neg (show ¬ (false = true) by decide)] at H; exact H
  clear H
  have H := H1
  clear H1
  obtain rfl := Option.some.inj H
  go_enter Try.func15, Try.ntmps15
  go_wp2_with (first | ((with_reducible refine gate_dst (N := 2) rfl ?_); refine bX_ 2 (cs := #[.slice A0_0 l0_0.length c0_0]) (t := 24) ?_; intro gb112 hg w11 hbox hb; have n0 := aM_ (sT_ HB.out hb); have n1 := aM_ (hbox); have n2 := aM_ (sZ_ hg HB.out); have n3 := aM_ (sZ_ hg HB.out); clear HB; have HB := n0; have BK112 := n1; have GW112 := n2; have GE112 := n3; clear n0 n1 n2 n3; clear hb hbox hg) | ((with_reducible refine gate_dst (N := 3) rfl ?_); refine bX_ 3 (cs := #[.slice A1_0 l1_0.length c1_0]) (t := 24) ?_; intro gb113 hg w12 hbox hb; have n0 := aM_ (nB_ BK112.out hb); have n1 := aM_ (sT_ HB.out hb); have n2 := aM_ (hbox); have n3 := aM_ (sZ_ hg HB.out); have n4 := aM_ (sZ_ hg HB.out); have n5 := aM_ (nL_ hg BK112.out); have n6 := aM_ (nG_ hg BK112.out); clear BK112; clear HB; have BK112 := n0; have HB := n1; have BK113 := n2; have GW113 := n3; have GE113 := n4; have NB112_113 := n5; have NB113_112 := n6; clear n0 n1 n2 n3 n4 n5 n6; clear hb hbox hg; have hnb13 := NB112_113.out; have hnc13 := NB113_112.out; have hcz14_0 : w12.cell? ⟨gb112, 0, none⟩ = some (.slice A0_0 l0_0.length c0_0) := (blk_cell BK112.out 0).trans rfl; have hfz14_0 := blk_frozen BK112.out 0; have hcz15_0 : w12.cell? ⟨gb113, 0, none⟩ = some (.slice A1_0 l1_0.length c1_0) := (blk_cell BK113.out 0).trans rfl; have hfz15_0 := blk_frozen BK113.out 0) | ((with_reducible refine gate_callee (f := 52) rfl ?_); refine gL_ (some 9) Try.func52 #[.slice A0_0 l0_0.length c0_0, .slice A1_0 l1_0.length c1_0] ?_; (with_reducible refine (laws_eqWriteSS.calls k _ _ l0_0 _ _ l1_0 false _ ?side1 ?side2 ?side3 ?side4 A3.out).mono ?_); (case side1 => exact cS_ (Kd.C_below HR0_0.out HB.out)); (case side2 => exact HC0_0.out); (case side3 => exact cS_ (Kd.C_below HR1_0.out HB.out)); (case side4 => exact HC1_0.out); rintro e w16 ⟨rfl, hb⟩; refine ⟨_, rfl, ?_⟩; have n0 := aM_ (nB_ BK112.out hb); have n1 := aM_ (nB_ BK113.out hb); have n2 := aM_ (sT_ HB.out hb); clear BK112; clear BK113; clear HB; have BK112 := n0; have BK113 := n1; have HB := n2; clear n0 n1 n2))
  go_ret
  exact fI_ HB.out
end Go.Proofs.Ythbcnakmnbilhaa.PFnExactSwap
