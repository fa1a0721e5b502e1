/- A part of the proof that the law FnExactSourceOk holds for every input: the words, functions and walks that its row needs, without a condition of their own. -/
import Derived.Test.YtfaoipojijhlbaaZFnExactSourceOka2
import Derived.Test.YtfaoipojijhlbaaZFnExactSourceOka12
import Derived.Test.YtfaoipojijhlbaaZFnExactSourceOks
namespace Go.Proofs.Ytfaoipojijhlbaa.PFnExactSourceOk
open Go.RowKit Go.Proofs.YtfaoipojijhlbaaW.PrintWords Go.Proofs.YtfaoipojijhlbaaW.PrintLast Go.Proofs.YtfaoipojijhlbaaW.PrintMore
attribute [local go_sem] max2_int min2_int max_two min_two max_three min_three max_four min_four   -- for this text's walks alone
set_option linter.unusedVariables false
set_option linter.unusedSimpArgs false
def laws_eqInsSS.l0 : Nat → List (List (S155)) → List (List (S155)) → Int → Option (Bool)
  | 0, _, _, _ => none
  | k + 1, x0, x1, x5 => if x5 < (x0.length : Int) then (if 0 ≤ x5 then (if x5 < (x1.length : Int) then ((laws_eqInsS.f k (rd_L9 x0 x5) (rd_L9 x1 x5)).bind fun t302 => (if t302 = true then (laws_eqInsSS.l0 k x0 x1 (wrap64 (x5 + 1))) else (some false))) else (none)) else (none)) else (some true)
def laws_eqInsSS.f (k : Nat) (l0 : List (List (S155))) (l1 : List (List (S155))) : Option (Bool) := if (l0.length : Int) = (l1.length : Int) then (laws_eqInsSS.l0 k l0 l1 0) else (some false)
def laws_eqInsSS.T6 : Bool × List (List Nat × List Nat) := (true, [([], []), ([], []), ([0, 1], [0, 1]), ([2], [2]), ([], []), ([], []), ([4, 5], [4, 5]), ([6], [6]), ([3, 7], [3, 7]), ([8], [8])])
def laws_eqInsSS.B6 : List Nat := [0, 0, 3, 7, 0, 0, 48, 112, 255, 511]
theorem laws_eqInsSS.tab6 : rtab .any (opsOf Try.f51 6) = laws_eqInsSS.T6 := by kernel_rfl
theorem laws_eqInsSS.bits6 : waitsOk laws_eqInsSS.T6.2 laws_eqInsSS.B6 = true := by kernel_rfl
set_option maxHeartbeats 8000000 in
set_option maxRecDepth 100000 in
theorem laws_eqInsSS.calls (k : Nat) (A0 : Option Addr) (c0 : Nat) (l0 : List (List (S155))) (A1 : Option Addr) (c1 : Nat) (l1 : List (List (S155))) (r : Bool) (w : World) (hr0 : Kd.C (Kd.slice 155 k155) w A0 l0.length l0) (hc0 : l0.length ≤ c0) (hr1 : Kd.C (Kd.slice 155 k155) w A1 l1.length l1) (hc1 : l1.length ≤ c1) (h : laws_eqInsSS.f k l0 l1 = some r) :
  Calls Try.prog 51 #[.slice A0 l0.length c0, .slice A1 l1.length c1] w fun e w' => e = .returned (.bool r) ∧ Below w.heap.size w w' := by
 have HR0 := aM_ hr0
 have HC0 := aM_ hc0
 clear hr0 hc0
 have HR1 := aM_ hr1
 have HC1 := aM_ hc1
 clear hr1 hc1
 have HB := aM_ (Below.refl w.heap.size w)
 have H : (if (l0.length : Int) = (l1.length : Int) then (laws_eqInsSS.l0 k l0 l1 0) else (some false)) = some r := h
 clear h
 by_cases c3 : (l0.length : Int) = (l1.length : Int)
 ·rw [if_pos c3] at H
  have c3b0 : ((l0.length : Int) == (l1.length : Int)) = true := beq_iff_eq.mpr c3
  have c3b1 : ((l0.length : Int) != (l1.length : Int)) = false := bne_eq_false_iff_eq.mpr c3
  have c3b2 : (l0.length == l1.length) = true := by first | simpa using c3 | (simp at c3 ⊢; omega)
  clear c3
  have H' := aM_ H
  clear H
  go_enter Try.func51, Try.ntmps51
  go_wp2
  go_loopg [5] k (fun kq v5 w' => ∃ (x5_1 : Int), v5 = .int .i64 x5_1 ∧ Aside0 (laws_eqInsSS.l0 kq l0 l1 x5_1 = some r) ∧ Aside0 (kq ≤ k) ∧ Aside0 (Below w.heap.size w w'))
  case atStart => exact ⟨(0), (by first | rfl | (simp; done) | (simp [*]; done)), H', ⟨Nat.le_refl _⟩, ⟨gW_ HB.out⟩⟩
  case round =>
   clear H'
   try clear c1
   try clear p2
   try clear c3
   try clear c3b0
   try clear c3b1
   try clear c3b2
   obtain ⟨x5_1, rfl, HA, HK1, HB⟩ := hrel
   cases gk with
   | zero => exact absurd HA.out (by simp [laws_eqInsSS.l0])
   | succ k1 =>
    have H := HA.out
    clear HA
    simp only [laws_eqInsSS.l0] at H
    by_cases c4 : x5_1 < (l0.length : Int)
    ·rw [if_pos c4] at H
     have c4b0 : decide (x5_1 < (l0.length : Int)) = true := decide_eq_true c4
     clear c4
     by_cases c5 : 0 ≤ x5_1
     ·rw [if_pos c5] at H
      have c5b0 : decide (0 ≤ x5_1) = true := decide_eq_true c5
      clear c5
      by_cases c6 : x5_1 < (l1.length : Int)
      ·rw [if_pos c6] at H
       have c6b0 : decide (x5_1 < (l1.length : Int)) = true := decide_eq_true c6
       clear c6
       replace H := Option.bind_eq_some_iff.mp H
       obtain ⟨t302, A70, H⟩ := H
       replace H : (if t302 = true then (laws_eqInsSS.l0 k1 l0 l1 (wrap64 (x5_1 + 1))) else (some false)) = some r := H
       have A7 := aM_ A70
       clear A70
       by_cases c8 : t302 = true
       ·subst c8
        have H1 : (laws_eqInsSS.l0 k1 l0 l1 (wrap64 (x5_1 + 1))) = some r := by rw [if_pos rfl] at H; exact H
        clear H
        have H := H1
        clear H1
        have H' := aM_ H
        clear H
        try go_wp2
        have n0 := aM_ (below_drew1 HB.out)
        clear HB
        have HB := n0
        clear n0
        have p300 : 0 ≤ (x5_1 : Int) := of_decide_eq_true (by first | (with_reducible assumption) | assumption)
        have q300 : x5_1 < (l0.length : Int) := of_decide_eq_true (by first | (with_reducible assumption) | assumption)
        obtain ⟨ad300, A300_0, c300_0, e300, hx300_0, hl300_0, hi300_0⟩ := at_L9 HR0.out x5_1 p300 q300
        have hw300_0 := hx300_0
        cases e300
        replace hx300_0 := cB_ HB.out hx300_0
        have HR300_0 := aM_ hi300_0
        have HC300_0 := aM_ hl300_0
        clear hi300_0 hl300_0
        replace p300 := eq_true p300
        replace q300 := eq_true q300
        have p301 : 0 ≤ (x5_1 : Int) := of_decide_eq_true (by first | (with_reducible assumption) | assumption)
        have q301 : x5_1 < (l1.length : Int) := of_decide_eq_true (by first | (with_reducible assumption) | assumption)
        obtain ⟨ad301, A301_0, c301_0, e301, hx301_0, hl301_0, hi301_0⟩ := at_L9 HR1.out x5_1 p301 q301
        have hw301_0 := hx301_0
        cases e301
        replace hx301_0 := cB_ HB.out hx301_0
        have HR301_0 := aM_ hi301_0
        have HC301_0 := aM_ hl301_0
        clear hi301_0 hl301_0
        replace p301 := eq_true p301
        replace q301 := eq_true q301
        refine start_ (n := 10) (S := fun w' => w'.cell? (ad300.add (x5_1).toNat) = some (.slice A300_0 (rd_L9 l0 x5_1).length c300_0) ∧ w'.cell? (ad301.add (x5_1).toNat) = some (.slice A301_0 (rd_L9 l1 x5_1).length c301_0)) (ds := []) (mk_ 10 0) (by kernel_rfl) rfl rfl ⟨(cB_ HB.out hw300_0 :), (cB_ HB.out hw301_0 :)⟩ (fun hHeld => ?_); refine with_tabW laws_eqInsSS.tab6 laws_eqInsSS.bits6 (fun HT_ HW_ => ?_)
        generalize wr.drew = w9 at HB HR300_0 HR301_0 hx300_0 hx301_0 hHeld ⊢
        refine pU_ 0 (some 17) (mk_ 10 1) ?_
        refine pU_ 1 (some 18) (mk_ 10 3) ?_
        refine pU_ 2 (some 19) (mk_ 10 7) ?_
        refine pU_ 4 (some 21) (mk_ 10 23) ?_
        refine pU_ 5 (some 22) (mk_ 10 55) ?_
        refine pU_ 6 (some 23) (mk_ 10 119) ?_
        refine tK2_ 3 (some 20) (mk_ 10 127) ?_
        refine tK2_ 7 (some 24) (mk_ 10 255) ?_
        refine oN_ 8 (some 25) (mk_ 10 511) (fun K hK => ?_)
        refine gO_ Try.func80 #[.slice A300_0 (rd_L9 l0 x5_1).length c300_0, .slice A301_0 (rd_L9 l1 x5_1).length c301_0] ?_
        with_reducible refine (laws_eqInsS.calls k1 _ _ (rd_L9 l0 x5_1) _ _ (rd_L9 l1 x5_1) true _ ?side1 ?side2 ?side3 ?side4 A7.out).mono ?_
        (case side1 => exact cS_ (Kd.C_below HR300_0.out HB.out))
        (case side2 => exact HC300_0.out)
        (case side3 => exact cS_ (Kd.C_below HR301_0.out HB.out))
        (case side4 => exact HC301_0.out)
        rintro e w10 ⟨rfl, hb⟩
        refine ⟨_, rfl, ?_⟩
        have n0 := aM_ (sT_ HB.out hb)
        clear HB
        have HB := n0
        clear n0
        (try clear hb)
        (try clear hb2)
        (try clear hk)
        (try clear hi)
        refine hK.out _ _ ⟨(cB_ HB.out hw300_0 :), (cB_ HB.out hw301_0 :)⟩ (fun hHeld => ?_)
        clear hK K
        refine norm_ (a' := ?_) ?_ ?_
        rotate_left
        ·show Act.put _ (some 25) _ = _
         simp only [pt_, pn_, sI_, s0_, s1_, i64_w, i32_w]
         rfl
        refine pU_ 9 (some 26) (mk_ 10 1023) ?_
        refine done_ (done_of HT_.out (by kernel_rfl)) ?_
        try go_wp2
        go_roundg k1
        case measure => have := HK1.out; omega
        case rel => exact ⟨(wrap64 (x5_1 + 1)), (by first | rfl | (simp; done) | (simp [*]; done)), H', ⟨by have := HK1.out; omega⟩, ⟨gW_ HB.out⟩⟩
       ·replace c8 := Bool.eq_false_iff.mpr c8
        subst c8
        have H1 : (some false) = some r := by rw [if_neg (show ¬ (false = true) by decide)] at H; exact H
        clear H
        have H := H1
        clear H1
        obtain rfl := Option.some.inj H
        try go_wp2
        have n0 := aM_ (below_drew1 HB.out)
        clear HB
        have HB := n0
        clear n0
        have p300 : 0 ≤ (x5_1 : Int) := of_decide_eq_true (by first | (with_reducible assumption) | assumption)
        have q300 : x5_1 < (l0.length : Int) := of_decide_eq_true (by first | (with_reducible assumption) | assumption)
        obtain ⟨ad300, A300_0, c300_0, e300, hx300_0, hl300_0, hi300_0⟩ := at_L9 HR0.out x5_1 p300 q300
        have hw300_0 := hx300_0
        cases e300
        replace hx300_0 := cB_ HB.out hx300_0
        have HR300_0 := aM_ hi300_0
        have HC300_0 := aM_ hl300_0
        clear hi300_0 hl300_0
        replace p300 := eq_true p300
        replace q300 := eq_true q300
        have p301 : 0 ≤ (x5_1 : Int) := of_decide_eq_true (by first | (with_reducible assumption) | assumption)
        have q301 : x5_1 < (l1.length : Int) := of_decide_eq_true (by first | (with_reducible assumption) | assumption)
        obtain ⟨ad301, A301_0, c301_0, e301, hx301_0, hl301_0, hi301_0⟩ := at_L9 HR1.out x5_1 p301 q301
        have hw301_0 := hx301_0
        cases e301
        replace hx301_0 := cB_ HB.out hx301_0
        have HR301_0 := aM_ hi301_0
        have HC301_0 := aM_ hl301_0
        clear hi301_0 hl301_0
        replace p301 := eq_true p301
        replace q301 := eq_true q301
        refine start_ (n := 10) (S := fun w' => w'.cell? (ad300.add (x5_1).toNat) = some (.slice A300_0 (rd_L9 l0 x5_1).length c300_0) ∧ w'.cell? (ad301.add (x5_1).toNat) = some (.slice A301_0 (rd_L9 l1 x5_1).length c301_0)) (ds := []) (mk_ 10 0) (by kernel_rfl) rfl rfl ⟨(cB_ HB.out hw300_0 :), (cB_ HB.out hw301_0 :)⟩ (fun hHeld => ?_); refine with_tabW laws_eqInsSS.tab6 laws_eqInsSS.bits6 (fun HT_ HW_ => ?_)
        generalize wr.drew = w11 at HB HR300_0 HR301_0 hx300_0 hx301_0 hHeld ⊢
        refine pU_ 0 (some 17) (mk_ 10 1) ?_
        refine pU_ 1 (some 18) (mk_ 10 3) ?_
        refine pU_ 2 (some 19) (mk_ 10 7) ?_
        refine pU_ 4 (some 21) (mk_ 10 23) ?_
        refine pU_ 5 (some 22) (mk_ 10 55) ?_
        refine pU_ 6 (some 23) (mk_ 10 119) ?_
        refine tK2_ 3 (some 20) (mk_ 10 127) ?_
        refine tK2_ 7 (some 24) (mk_ 10 255) ?_
        refine oN_ 8 (some 25) (mk_ 10 511) (fun K hK => ?_)
        refine gO_ Try.func80 #[.slice A300_0 (rd_L9 l0 x5_1).length c300_0, .slice A301_0 (rd_L9 l1 x5_1).length c301_0] ?_
        with_reducible refine (laws_eqInsS.calls k1 _ _ (rd_L9 l0 x5_1) _ _ (rd_L9 l1 x5_1) false _ ?side1 ?side2 ?side3 ?side4 A7.out).mono ?_
        (case side1 => exact cS_ (Kd.C_below HR300_0.out HB.out))
        (case side2 => exact HC300_0.out)
        (case side3 => exact cS_ (Kd.C_below HR301_0.out HB.out))
        (case side4 => exact HC301_0.out)
        rintro e w12 ⟨rfl, hb⟩
        refine ⟨_, rfl, ?_⟩
        have n0 := aM_ (sT_ HB.out hb)
        clear HB
        have HB := n0
        clear n0
        (try clear hb)
        (try clear hb2)
        (try clear hk)
        (try clear hi)
        refine hK.out _ _ ⟨(cB_ HB.out hw300_0 :), (cB_ HB.out hw301_0 :)⟩ (fun hHeld => ?_)
        clear hK K
        refine norm_ (a' := ?_) ?_ ?_
        rotate_left
        ·show Act.put _ (some 25) _ = _
         simp only [pt_, pn_, sI_, s0_, s1_, i64_w, i32_w]
         rfl
        refine pU_ 9 (some 26) (mk_ 10 1023) ?_
        refine done_ (done_of HT_.out (by kernel_rfl)) ?_
        try go_wp2
        go_ret
        exact fI_ HB.out
      ·rw [if_neg c6] at H
       exact absurd H (by simp)
     ·rw [if_neg c5] at H
      exact absurd H (by simp)
    ·rw [if_neg c4] at H
     have c4b0 : decide (x5_1 < (l0.length : Int)) = false := decide_eq_false c4
     clear c4
     obtain rfl := Option.some.inj H
     go_wp2
     go_ret
     exact fI_ HB.out
 ·rw [if_neg c3] at H
  have c3b0 : ((l0.length : Int) == (l1.length : Int)) = false := beq_eq_false_iff_ne.mpr c3
  have c3b1 : ((l0.length : Int) != (l1.length : Int)) = true := bne_iff_ne.mpr c3
  have c3b2 : (l0.length == l1.length) = false := by first | simpa using c3 | (simp at c3 ⊢; omega)
  obtain rfl := Option.some.inj H
  go_enter Try.func51, Try.ntmps51
  go_wp2
  go_ret
  exact fI_ HB.out
def laws_eqProg.f (k : Nat) (l0_0 : List Int) (l0_1 : List (List (S155))) (l1_0 : List Int) (l1_1 : List (List (S155))) : Option (Bool) := (laws_eqIntS.f k l0_0 l1_0).bind fun t305 => (if t305 = true then ((laws_eqInsSS.f k l0_1 l1_1).bind fun t306 => (if t306 = true then (some true) else (some false))) else (some false))
set_option maxHeartbeats 8000000 in
set_option maxRecDepth 100000 in
theorem laws_eqProg.calls (k : Nat) (A0_0 : Option Addr) (c0_0 : Nat) (l0_0 : List Int) (A0_1 : Option Addr) (c0_1 : Nat) (l0_1 : List (List (S155))) (A1_0 : Option Addr) (c1_0 : Nat) (l1_0 : List Int) (A1_1 : Option Addr) (c1_1 : Nat) (l1_1 : List (List (S155))) (r : Bool) (w : World) (hr0_0 : Kd.C (Kd.int .i64) w A0_0 l0_0.length l0_0) (hc0_0 : l0_0.length ≤ c0_0) (hr0_1 : Kd.C (Kd.slice 155 k155) w A0_1 l0_1.length l0_1) (hc0_1 : l0_1.length ≤ c0_1) (hr1_0 : Kd.C (Kd.int .i64) w A1_0 l1_0.length l1_0) (hc1_0 : l1_0.length ≤ c1_0) (hr1_1 : Kd.C (Kd.slice 155 k155) w A1_1 l1_1.length l1_1) (hc1_1 : l1_1.length ≤ c1_1) (h : laws_eqProg.f k l0_0 l0_1 l1_0 l1_1 = some r) :
  Calls Try.prog 19 #[.agg #[.slice A0_0 l0_0.length c0_0, .slice A0_1 l0_1.length c0_1], .agg #[.slice A1_0 l1_0.length c1_0, .slice A1_1 l1_1.length c1_1]] w fun e w' => e = .returned (.bool r) ∧ Below w.heap.size w w' := by
 have hu49 := Try.underlying49
 have HR0_0 := aM_ hr0_0
 have HC0_0 := aM_ hc0_0
 clear hr0_0 hc0_0
 have HR0_1 := aM_ hr0_1
 have HC0_1 := aM_ hc0_1
 clear hr0_1 hc0_1
 have HR1_0 := aM_ hr1_0
 have HC1_0 := aM_ hc1_0
 clear hr1_0 hc1_0
 have HR1_1 := aM_ hr1_1
 have HC1_1 := aM_ hc1_1
 clear hr1_1 hc1_1
 have HB := aM_ (Below.refl w.heap.size w)
 have H : ((laws_eqIntS.f k l0_0 l1_0).bind fun t305 => (if t305 = true then ((laws_eqInsSS.f k l0_1 l1_1).bind fun t306 => (if t306 = true then (some true) else (some false))) else (some false))) = some r := h
 clear h
 replace H := Option.bind_eq_some_iff.mp H
 obtain ⟨t305, A30, H⟩ := H
 replace H : (if t305 = true then ((laws_eqInsSS.f k l0_1 l1_1).bind fun t306 => (if t306 = true then (some true) else (some false))) else (some false)) = some r := H
 have A3 := aM_ A30
 clear A30
 by_cases c4 : t305 = true
 ·subst c4
  have H1 : ((laws_eqInsSS.f k l0_1 l1_1).bind fun t306 => (if t306 = true then (some true) else (some false))) = some r := by rw [if_pos rfl] at H; exact H
  clear H
  have H := H1
  clear H1
  replace H := Option.bind_eq_some_iff.mp H
  obtain ⟨t306, A50, H⟩ := H
  replace H : (if t306 = true then (some true) else (some false)) = some r := H
  have A5 := aM_ A50
  clear A50
  by_cases c6 : t306 = true
  ·subst c6
   have H1 : (some true) = some r := by rw [if_pos rfl] at H; exact H
   clear H
   have H := H1
   clear H1
   obtain rfl := Option.some.inj H
   go_enter Try.func19, Try.ntmps19
   go_wp2_with (first | ((with_reducible refine gate_dst (N := 2) rfl ?_); refine bX_ 2 (cs := #[.slice A0_0 l0_0.length c0_0, .slice A0_1 l0_1.length c0_1]) (t := 49) ?_; intro gb303 hg w7 hbox hb; have n0 := aM_ (sT_ HB.out hb); have n1 := aM_ (hbox); have n2 := aM_ (sZ_ hg HB.out); have n3 := aM_ (sZ_ hg HB.out); clear HB; have HB := n0; have BK303 := n1; have GW303 := n2; have GE303 := n3; clear n0 n1 n2 n3; clear hb hbox hg) | ((with_reducible refine gate_dst (N := 3) rfl ?_); refine bX_ 3 (cs := #[.slice A1_0 l1_0.length c1_0, .slice A1_1 l1_1.length c1_1]) (t := 49) ?_; intro gb304 hg w8 hbox hb; have n0 := aM_ (nB_ BK303.out hb); have n1 := aM_ (sT_ HB.out hb); have n2 := aM_ (hbox); have n3 := aM_ (sZ_ hg HB.out); have n4 := aM_ (sZ_ hg HB.out); have n5 := aM_ (nL_ hg BK303.out); have n6 := aM_ (nG_ hg BK303.out); clear BK303; clear HB; have BK303 := n0; have HB := n1; have BK304 := n2; have GW304 := n3; have GE304 := n4; have NB303_304 := n5; have NB304_303 := n6; clear n0 n1 n2 n3 n4 n5 n6; clear hb hbox hg; have hnb9 := NB303_304.out; have hnc9 := NB304_303.out; obtain ⟨hcz10_0, hcz10_1, hfz10_0, hfz10_1⟩ := bR2_ BK303.out; obtain ⟨hcz11_0, hcz11_1, hfz11_0, hfz11_1⟩ := bR2_ BK304.out) | ((with_reducible refine gate_callee (f := 12) rfl ?_); refine gL_ (some 9) Try.func12 #[.slice A0_0 l0_0.length c0_0, .slice A1_0 l1_0.length c1_0] ?_; (with_reducible refine (laws_eqIntS.calls k _ _ l0_0 _ _ l1_0 true _ ?side1 ?side2 ?side3 ?side4 A3.out).mono ?_); (case side1 => exact cS_ (Kd.C_below HR0_0.out HB.out)); (case side2 => exact HC0_0.out); (case side3 => exact cS_ (Kd.C_below HR1_0.out HB.out)); (case side4 => exact HC1_0.out); rintro e w' ⟨rfl, ⟨nd, rfl⟩⟩; refine ⟨_, rfl, ?_⟩) | ((with_reducible refine gate_callee (f := 51) rfl ?_); refine gL_ (some 15) Try.func51 #[.slice A0_1 l0_1.length c0_1, .slice A1_1 l1_1.length c1_1] ?_; (with_reducible refine (laws_eqInsSS.calls k _ _ l0_1 _ _ l1_1 true _ ?side1 ?side2 ?side3 ?side4 A5.out).mono ?_); (case side1 => exact cS_ (Kd.C_below HR0_1.out (by repeat (first | (with_reducible first | exact HB.out | apply hA_ | apply hN_ | apply hD_ | refine below_set ?_ GE303.out | refine below_set ?_ GE304.out) | exact HB.out)))); (case side2 => exact HC0_1.out); (case side3 => exact cS_ (Kd.C_below HR1_1.out (by repeat (first | (with_reducible first | exact HB.out | apply hA_ | apply hN_ | apply hD_ | refine below_set ?_ GE303.out | refine below_set ?_ GE304.out) | exact HB.out)))); (case side4 => exact HC1_1.out); rintro e w12 ⟨rfl, hb⟩; refine ⟨_, rfl, ?_⟩; have n0 := aM_ (nB_ BK303.out hb); have n1 := aM_ (nB_ BK304.out hb); have n2 := aM_ (sT_ HB.out hb); clear BK303; clear BK304; clear HB; have BK303 := n0; have BK304 := n1; have HB := n2; clear n0 n1 n2))
   go_ret
   exact fI_ HB.out
  ·replace c6 := Bool.eq_false_iff.mpr c6
   subst c6
   have H1 : (some false) = some r := by rw [if_neg (show ¬ (false = true) by decide)] at H; exact H
   clear H
   have H := H1
   clear H1
   obtain rfl := Option.some.inj H
   go_enter Try.func19, Try.ntmps19
   go_wp2_with (first | ((with_reducible refine gate_dst (N := 2) rfl ?_); refine bX_ 2 (cs := #[.slice A0_0 l0_0.length c0_0, .slice A0_1 l0_1.length c0_1]) (t := 49) ?_; intro gb303 hg w13 hbox hb; have n0 := aM_ (sT_ HB.out hb); have n1 := aM_ (hbox); have n2 := aM_ (sZ_ hg HB.out); have n3 := aM_ (sZ_ hg HB.out); clear HB; have HB := n0; have BK303 := n1; have GW303 := n2; have GE303 := n3; clear n0 n1 n2 n3; clear hb hbox hg) | ((with_reducible refine gate_dst (N := 3) rfl ?_); refine bX_ 3 (cs := #[.slice A1_0 l1_0.length c1_0, .slice A1_1 l1_1.length c1_1]) (t := 49) ?_; intro gb304 hg w14 hbox hb; have n0 := aM_ (nB_ BK303.out hb); have n1 := aM_ (sT_ HB.out hb); have n2 := aM_ (hbox); have n3 := aM_ (sZ_ hg HB.out); have n4 := aM_ (sZ_ hg HB.out); have n5 := aM_ (nL_ hg BK303.out); have n6 := aM_ (nG_ hg BK303.out); clear BK303; clear HB; have BK303 := n0; have HB := n1; have BK304 := n2; have GW304 := n3; have GE304 := n4; have NB303_304 := n5; have NB304_303 := n6; clear n0 n1 n2 n3 n4 n5 n6; clear hb hbox hg; have hnb15 := NB303_304.out; have hnc15 := NB304_303.out; obtain ⟨hcz16_0, hcz16_1, hfz16_0, hfz16_1⟩ := bR2_ BK303.out; obtain ⟨hcz17_0, hcz17_1, hfz17_0, hfz17_1⟩ := bR2_ BK304.out) | ((with_reducible refine gate_callee (f := 12) rfl ?_); refine gL_ (some 9) Try.func12 #[.slice A0_0 l0_0.length c0_0, .slice A1_0 l1_0.length c1_0] ?_; (with_reducible refine (laws_eqIntS.calls k _ _ l0_0 _ _ l1_0 true _ ?side1 ?side2 ?side3 ?side4 A3.out).mono ?_); (case side1 => exact cS_ (Kd.C_below HR0_0.out HB.out)); (case side2 => exact HC0_0.out); (case side3 => exact cS_ (Kd.C_below HR1_0.out HB.out)); (case side4 => exact HC1_0.out); rintro e w' ⟨rfl, ⟨nd, rfl⟩⟩; refine ⟨_, rfl, ?_⟩) | ((with_reducible refine gate_callee (f := 51) rfl ?_); refine gL_ (some 15) Try.func51 #[.slice A0_1 l0_1.length c0_1, .slice A1_1 l1_1.length c1_1] ?_; (with_reducible refine (laws_eqInsSS.calls k _ _ l0_1 _ _ l1_1 false _ ?side1 ?side2 ?side3 ?side4 A5.out).mono ?_); (case side1 => exact cS_ (Kd.C_below HR0_1.out (by repeat (first | (with_reducible first | exact HB.out | apply hA_ | apply hN_ | apply hD_ | refine below_set ?_ GE303.out | refine below_set ?_ GE304.out) | exact HB.out)))); (case side2 => exact HC0_1.out); (case side3 => exact cS_ (Kd.C_below HR1_1.out (by repeat (first | (with_reducible first | exact HB.out | apply hA_ | apply hN_ | apply hD_ | refine below_set ?_ GE303.out | refine below_set ?_ GE304.out) | exact HB.out)))); (case side4 => exact HC1_1.out); rintro e w18 ⟨rfl, hb⟩; refine ⟨_, rfl, ?_⟩; have n0 := aM_ (nB_ BK303.out hb); have n1 := aM_ (nB_ BK304.out hb); have n2 := aM_ (sT_ HB.out hb); clear BK303; clear BK304; clear HB; have BK303 := n0; have BK304 := n1; have HB := n2; clear n0 n1 n2))
   go_ret
   exact fI_ HB.out
 ·replace c4 := Bool.eq_false_iff.mpr c4
  subst c4
  have H1 : (some false) = some r := by rw [if_neg (show ¬ (false = true) by decide)] at H; exact H
  clear H
  have H := H1
  clear H1
  obtain rfl := Option.some.inj H
  go_enter Try.func19, Try.ntmps19
  go_wp2_with (first | ((with_reducible refine gate_dst (N := 2) rfl ?_); refine bX_ 2 (cs := #[.slice A0_0 l0_0.length c0_0, .slice A0_1 l0_1.length c0_1]) (t := 49) ?_; intro gb303 hg w19 hbox hb; have n0 := aM_ (sT_ HB.out hb); have n1 := aM_ (hbox); have n2 := aM_ (sZ_ hg HB.out); have n3 := aM_ (sZ_ hg HB.out); clear HB; have HB := n0; have BK303 := n1; have GW303 := n2; have GE303 := n3; clear n0 n1 n2 n3; clear hb hbox hg) | ((with_reducible refine gate_dst (N := 3) rfl ?_); refine bX_ 3 (cs := #[.slice A1_0 l1_0.length c1_0, .slice A1_1 l1_1.length c1_1]) (t := 49) ?_; intro gb304 hg w20 hbox hb; have n0 := aM_ (nB_ BK303.out hb); have n1 := aM_ (sT_ HB.out hb); have n2 := aM_ (hbox); have n3 := aM_ (sZ_ hg HB.out); have n4 := aM_ (sZ_ hg HB.out); have n5 := aM_ (nL_ hg BK303.out); have n6 := aM_ (nG_ hg BK303.out); clear BK303; clear HB; have BK303 := n0; have HB := n1; have BK304 := n2; have GW304 := n3; have GE304 := n4; have NB303_304 := n5; have NB304_303 := n6; clear n0 n1 n2 n3 n4 n5 n6; clear hb hbox hg; have hnb21 := NB303_304.out; have hnc21 := NB304_303.out; obtain ⟨hcz22_0, hcz22_1, hfz22_0, hfz22_1⟩ := bR2_ BK303.out; obtain ⟨hcz23_0, hcz23_1, hfz23_0, hfz23_1⟩ := bR2_ BK304.out) | ((with_reducible refine gate_callee (f := 12) rfl ?_); refine gL_ (some 9) Try.func12 #[.slice A0_0 l0_0.length c0_0, .slice A1_0 l1_0.length c1_0] ?_; (with_reducible refine (laws_eqIntS.calls k _ _ l0_0 _ _ l1_0 false _ ?side1 ?side2 ?side3 ?side4 A3.out).mono ?_); (case side1 => exact cS_ (Kd.C_below HR0_0.out HB.out)); (case side2 => exact HC0_0.out); (case side3 => exact cS_ (Kd.C_below HR1_0.out HB.out)); (case side4 => exact HC1_0.out); rintro e w' ⟨rfl, ⟨nd, rfl⟩⟩; refine ⟨_, rfl, ?_⟩))
  go_ret
  exact fI_ HB.out
def laws_eqThread.f (k : Nat) (a0_0 : Int) (l0_1 : List Int) (a0_2 : Int) (a1_0 : Int) (l1_1 : List Int) (a1_2 : Int) : Option (Bool) := if a0_0 = a1_0 then ((laws_eqIntS.f k l0_1 l1_1).bind fun t309 => (if t309 = true then (if a0_2 = a1_2 then (some true) else (some false)) else (some false))) else (some false)
set_option maxHeartbeats 8000000 in
set_option maxRecDepth 100000 in
theorem laws_eqThread.calls (k : Nat) (a0_0 : Int) (A0_1 : Option Addr) (c0_1 : Nat) (l0_1 : List Int) (a0_2 : Int) (a1_0 : Int) (A1_1 : Option Addr) (c1_1 : Nat) (l1_1 : List Int) (a1_2 : Int) (r : Bool) (w : World) (hr0_1 : Kd.C (Kd.int .i64) w A0_1 l0_1.length l0_1) (hc0_1 : l0_1.length ≤ c0_1) (hr1_1 : Kd.C (Kd.int .i64) w A1_1 l1_1.length l1_1) (hc1_1 : l1_1.length ≤ c1_1) (h : laws_eqThread.f k a0_0 l0_1 a0_2 a1_0 l1_1 a1_2 = some r) :
  Calls Try.prog 81 #[.agg #[.int .i64 a0_0, .slice A0_1 l0_1.length c0_1, .int .i64 a0_2], .agg #[.int .i64 a1_0, .slice A1_1 l1_1.length c1_1, .int .i64 a1_2]] w fun e w' => e = .returned (.bool r) ∧ Below w.heap.size w w' := by
 have hu86 := Try.underlying86
 have HR0_1 := aM_ hr0_1
 have HC0_1 := aM_ hc0_1
 clear hr0_1 hc0_1
 have HR1_1 := aM_ hr1_1
 have HC1_1 := aM_ hc1_1
 clear hr1_1 hc1_1
 have HB := aM_ (Below.refl w.heap.size w)
 have H : (if a0_0 = a1_0 then ((laws_eqIntS.f k l0_1 l1_1).bind fun t309 => (if t309 = true then (if a0_2 = a1_2 then (some true) else (some false)) else (some false))) else (some false)) = some r := h
 clear h
 by_cases c3 : a0_0 = a1_0
 ·rw [if_pos c3] at H
  have c3b0 : (a0_0 == a1_0) = true := beq_iff_eq.mpr c3
  have c3b1 : (a0_0 != a1_0) = false := bne_eq_false_iff_eq.mpr c3
  clear c3
  replace H := Option.bind_eq_some_iff.mp H
  obtain ⟨t309, A40, H⟩ := H
  replace H : (if t309 = true then (if a0_2 = a1_2 then (some true) else (some false)) else (some false)) = some r := H
  have A4 := aM_ A40
  clear A40
  by_cases c5 : t309 = true
  ·subst c5
   have H1 : (if a0_2 = a1_2 then (some true) else (some false)) = some r := by rw [if_pos rfl] at H; exact H
   clear H
   have H := H1
   clear H1
   by_cases c6 : a0_2 = a1_2
   ·rw [if_pos c6] at H
    have c6b0 : (a0_2 == a1_2) = true := beq_iff_eq.mpr c6
    have c6b1 : (a0_2 != a1_2) = false := bne_eq_false_iff_eq.mpr c6
    clear c6
    obtain rfl := Option.some.inj H
    go_enter Try.func81, Try.ntmps81
    go_wp2_with (first | ((with_reducible refine gate_dst (N := 2) rfl ?_); refine bX_ 2 (cs := #[.int .i64 a0_0, .slice A0_1 l0_1.length c0_1, .int .i64 a0_2]) (t := 86) ?_; intro gb307 hg w7 hbox hb; have n0 := aM_ (sT_ HB.out hb); have n1 := aM_ (hbox); have n2 := aM_ (sZ_ hg HB.out); have n3 := aM_ (sZ_ hg HB.out); clear HB; have HB := n0; have BK307 := n1; have GW307 := n2; have GE307 := n3; clear n0 n1 n2 n3; clear hb hbox hg) | ((with_reducible refine gate_dst (N := 3) rfl ?_); refine bX_ 3 (cs := #[.int .i64 a1_0, .slice A1_1 l1_1.length c1_1, .int .i64 a1_2]) (t := 86) ?_; intro gb308 hg w8 hbox hb; have n0 := aM_ (nB_ BK307.out hb); have n1 := aM_ (sT_ HB.out hb); have n2 := aM_ (hbox); have n3 := aM_ (sZ_ hg HB.out); have n4 := aM_ (sZ_ hg HB.out); have n5 := aM_ (nL_ hg BK307.out); have n6 := aM_ (nG_ hg BK307.out); clear BK307; clear HB; have BK307 := n0; have HB := n1; have BK308 := n2; have GW308 := n3; have GE308 := n4; have NB307_308 := n5; have NB308_307 := n6; clear n0 n1 n2 n3 n4 n5 n6; clear hb hbox hg; have hnb9 := NB307_308.out; have hnc9 := NB308_307.out; obtain ⟨hcz10_0, hcz10_1, hcz10_2, hfz10_0, hfz10_1, hfz10_2⟩ := bR3_ BK307.out; obtain ⟨hcz11_0, hcz11_1, hcz11_2, hfz11_0, hfz11_1, hfz11_2⟩ := bR3_ BK308.out) | ((with_reducible refine gate_callee (f := 12) rfl ?_); refine gL_ (some 14) Try.func12 #[.slice A0_1 l0_1.length c0_1, .slice A1_1 l1_1.length c1_1] ?_; (with_reducible refine (laws_eqIntS.calls k _ _ l0_1 _ _ l1_1 true _ ?side1 ?side2 ?side3 ?side4 A4.out).mono ?_); (case side1 => exact cS_ (Kd.C_below HR0_1.out HB.out)); (case side2 => exact HC0_1.out); (case side3 => exact cS_ (Kd.C_below HR1_1.out HB.out)); (case side4 => exact HC1_1.out); rintro e w' ⟨rfl, ⟨nd, rfl⟩⟩; refine ⟨_, rfl, ?_⟩))
    go_ret
    exact fI_ HB.out
   ·rw [if_neg c6] at H
    have c6b0 : (a0_2 == a1_2) = false := beq_eq_false_iff_ne.mpr c6
    have c6b1 : (a0_2 != a1_2) = true := bne_iff_ne.mpr c6
    obtain rfl := Option.some.inj H
    go_enter Try.func81, Try.ntmps81
    go_wp2_with (first | ((with_reducible refine gate_dst (N := 2) rfl ?_); refine bX_ 2 (cs := #[.int .i64 a0_0, .slice A0_1 l0_1.length c0_1, .int .i64 a0_2]) (t := 86) ?_; intro gb307 hg w12 hbox hb; have n0 := aM_ (sT_ HB.out hb); have n1 := aM_ (hbox); have n2 := aM_ (sZ_ hg HB.out); have n3 := aM_ (sZ_ hg HB.out); clear HB; have HB := n0; have BK307 := n1; have GW307 := n2; have GE307 := n3; clear n0 n1 n2 n3; clear hb hbox hg) | ((with_reducible refine gate_dst (N := 3) rfl ?_); refine bX_ 3 (cs := #[.int .i64 a1_0, .slice A1_1 l1_1.length c1_1, .int .i64 a1_2]) (t := 86) ?_; intro gb308 hg w13 hbox hb; have n0 := aM_ (nB_ BK307.out hb); have n1 := aM_ (sT_ HB.out hb); have n2 := aM_ (hbox); have n3 := aM_ (sZ_ hg HB.out); have n4 := aM_ (sZ_ hg HB.out); have n5 := aM_ (nL_ hg BK307.out); have n6 := aM_ (nG_ hg BK307.out); clear BK307; clear HB; have BK307 := n0; have HB := n1; have BK308 := n2; have GW308 := n3; have GE308 := n4; have NB307_308 := n5; have NB308_307 := n6; clear n0 n1 n2 n3 n4 n5 n6; clear hb hbox hg; have hnb14 := NB307_308.out; have hnc14 := NB308_307.out; obtain ⟨hcz15_0, hcz15_1, hcz15_2, hfz15_0, hfz15_1, hfz15_2⟩ := bR3_ BK307.out; obtain ⟨hcz16_0, hcz16_1, hcz16_2, hfz16_0, hfz16_1, hfz16_2⟩ := bR3_ BK308.out) | ((with_reducible refine gate_callee (f := 12) rfl ?_); refine gL_ (some 14) Try.func12 #[.slice A0_1 l0_1.length c0_1, .slice A1_1 l1_1.length c1_1] ?_; (with_reducible refine (laws_eqIntS.calls k _ _ l0_1 _ _ l1_1 true _ ?side1 ?side2 ?side3 ?side4 A4.out).mono ?_); (case side1 => exact cS_ (Kd.C_below HR0_1.out HB.out)); (case side2 => exact HC0_1.out); (case side3 => exact cS_ (Kd.C_below HR1_1.out HB.out)); (case side4 => exact HC1_1.out); rintro e w' ⟨rfl, ⟨nd, rfl⟩⟩; refine ⟨_, rfl, ?_⟩))
    go_ret
    exact fI_ HB.out
  ·replace c5 := Bool.eq_false_iff.mpr c5
   subst c5
   have H1 : (some false) = some r := by rw [if_neg (show ¬ (false = true) by decide)] at H; exact H
   clear H
   have H := H1
   clear H1
   obtain rfl := Option.some.inj H
   go_enter Try.func81, Try.ntmps81
   go_wp2_with (first | ((with_reducible refine gate_dst (N := 2) rfl ?_); refine bX_ 2 (cs := #[.int .i64 a0_0, .slice A0_1 l0_1.length c0_1, .int .i64 a0_2]) (t := 86) ?_; intro gb307 hg w17 hbox hb; have n0 := aM_ (sT_ HB.out hb); have n1 := aM_ (hbox); have n2 := aM_ (sZ_ hg HB.out); have n3 := aM_ (sZ_ hg HB.out); clear HB; have HB := n0; have BK307 := n1; have GW307 := n2; have GE307 := n3; clear n0 n1 n2 n3; clear hb hbox hg) | ((with_reducible refine gate_dst (N := 3) rfl ?_); refine bX_ 3 (cs := #[.int .i64 a1_0, .slice A1_1 l1_1.length c1_1, .int .i64 a1_2]) (t := 86) ?_; intro gb308 hg w18 hbox hb; have n0 := aM_ (nB_ BK307.out hb); have n1 := aM_ (sT_ HB.out hb); have n2 := aM_ (hbox); have n3 := aM_ (sZ_ hg HB.out); have n4 := aM_ (sZ_ hg HB.out); have n5 := aM_ (nL_ hg BK307.out); have n6 := aM_ (nG_ hg BK307.out); clear BK307; clear HB; have BK307 := n0; have HB := n1; have BK308 := n2; have GW308 := n3; have GE308 := n4; have NB307_308 := n5; have NB308_307 := n6; clear n0 n1 n2 n3 n4 n5 n6; clear hb hbox hg; have hnb19 := NB307_308.out; have hnc19 := NB308_307.out; obtain ⟨hcz20_0, hcz20_1, hcz20_2, hfz20_0, hfz20_1, hfz20_2⟩ := bR3_ BK307.out; obtain ⟨hcz21_0, hcz21_1, hcz21_2, hfz21_0, hfz21_1, hfz21_2⟩ := bR3_ BK308.out) | ((with_reducible refine gate_callee (f := 12) rfl ?_); refine gL_ (some 14) Try.func12 #[.slice A0_1 l0_1.length c0_1, .slice A1_1 l1_1.length c1_1] ?_; (with_reducible refine (laws_eqIntS.calls k _ _ l0_1 _ _ l1_1 false _ ?side1 ?side2 ?side3 ?side4 A4.out).mono ?_); (case side1 => exact cS_ (Kd.C_below HR0_1.out HB.out)); (case side2 => exact HC0_1.out); (case side3 => exact cS_ (Kd.C_below HR1_1.out HB.out)); (case side4 => exact HC1_1.out); rintro e w' ⟨rfl, ⟨nd, rfl⟩⟩; refine ⟨_, rfl, ?_⟩))
   go_ret
   exact fI_ HB.out
 ·rw [if_neg c3] at H
  have c3b0 : (a0_0 == a1_0) = false := beq_eq_false_iff_ne.mpr c3
  have c3b1 : (a0_0 != a1_0) = true := bne_iff_ne.mpr c3
  obtain rfl := Option.some.inj H
  go_enter Try.func81, Try.ntmps81
  go_wp2_with (first | ((with_reducible refine gate_dst (N := 2) rfl ?_); refine bX_ 2 (cs := #[.int .i64 a0_0, .slice A0_1 l0_1.length c0_1, .int .i64 a0_2]) (t := 86) ?_; intro gb307 hg w22 hbox hb; have n0 := aM_ (sT_ HB.out hb); have n1 := aM_ (hbox); have n2 := aM_ (sZ_ hg HB.out); have n3 := aM_ (sZ_ hg HB.out); clear HB; have HB := n0; have BK307 := n1; have GW307 := n2; have GE307 := n3; clear n0 n1 n2 n3; clear hb hbox hg) | ((with_reducible refine gate_dst (N := 3) rfl ?_); refine bX_ 3 (cs := #[.int .i64 a1_0, .slice A1_1 l1_1.length c1_1, .int .i64 a1_2]) (t := 86) ?_; intro gb308 hg w23 hbox hb; have n0 := aM_ (nB_ BK307.out hb); have n1 := aM_ (sT_ HB.out hb); have n2 := aM_ (hbox); have n3 := aM_ (sZ_ hg HB.out); have n4 := aM_ (sZ_ hg HB.out); have n5 := aM_ (nL_ hg BK307.out); have n6 := aM_ (nG_ hg BK307.out); clear BK307; clear HB; have BK307 := n0; have HB := n1; have BK308 := n2; have GW308 := n3; have GE308 := n4; have NB307_308 := n5; have NB308_307 := n6; clear n0 n1 n2 n3 n4 n5 n6; clear hb hbox hg; have hnb24 := NB307_308.out; have hnc24 := NB308_307.out; obtain ⟨hcz25_0, hcz25_1, hcz25_2, hfz25_0, hfz25_1, hfz25_2⟩ := bR3_ BK307.out; obtain ⟨hcz26_0, hcz26_1, hcz26_2, hfz26_0, hfz26_1, hfz26_2⟩ := bR3_ BK308.out))
  go_ret
  exact fI_ HB.out
end Go.Proofs.Ytfaoipojijhlbaa.PFnExactSourceOk
