/- A part of the proof that the law FnTexts holds for every input: the words, functions and walks that its row needs, without a condition of their own. -/
import Derived.Test.YtdbobicbbfmepaaDoorZFnTextsa4
import Derived.Test.YtdbobicbbfmepaaDoorZFnTextsa7
import Derived.Test.YtdbobicbbfmepaaDoorZFnTextsa9
import Derived.Test.YtdbobicbbfmepaaDoorZFnTextsa10
import Derived.Test.YtdbobicbbfmepaaDoorZFnTextss
namespace Go.Proofs.YtdbobicbbfmepaaDoor.PFnTexts
open Go.RowKit Go.Proofs.YtdbobicbbfmepaaDoorW.PrintWords Go.Proofs.YtdbobicbbfmepaaDoorW.PrintLast Go.Proofs.YtdbobicbbfmepaaDoorW.PrintMore
attribute [local go_sem] max2_int min2_int max_two min_two max_three min_three max_four min_four   -- for this text's walks alone
set_option linter.unusedVariables false
set_option linter.unusedSimpArgs false
def impl_CodeOk.l0 : Nat → List (S25) → List (S25) → Int → Int → Option (Bool)
  | 0, _, _, _, _ => none
  | k + 1, x0, x10, x11, x12 => if x12 < x11 then (if 0 ≤ x12 then (if x12 < (x10.length : Int) then ((impl_StepOk.f k ((rd_T25 x10 x12).f0) ((rd_T25 x10 x12).f1) ((rd_T25 x10 x12).f2) ((rd_T25 x10 x12).f3) ((rd_T25 x10 x12).f4) (x0.length : Int)).bind fun t423 => (if t423 = true then (impl_CodeOk.l0 k x0 x10 x11 (wrap64 (x12 + 1))) else (some false))) else (none)) else (none)) else (if 0 ≤ (wrap64 ((x0.length : Int) - 1)) then (if (wrap64 ((x0.length : Int) - 1)) < (x0.length : Int) then (if ((rd_T25 x0 (wrap64 ((x0.length : Int) - 1))).f0) = 10 then (some true) else (if ((rd_T25 x0 (wrap64 ((x0.length : Int) - 1))).f0) = 12 then (some true) else (some (((rd_T25 x0 (wrap64 ((x0.length : Int) - 1))).f0) == 13)))) else (none)) else (none))
def impl_CodeOk.f (k : Nat) (l0 : List (S25)) : Option (Bool) := (impl_within.f (l0.length : Int) 1 800).bind fun t420 => (if t420 = true then (impl_CodeOk.l0 k l0 l0 (l0.length : Int) 0) else (some false))
set_option maxHeartbeats 8000000 in
set_option maxRecDepth 100000 in
theorem impl_CodeOk.calls (k : Nat) (A0 : Option Addr) (c0 : Nat) (l0 : List (S25)) (r : Bool) (w : World) (hr0 : Kd.C k25 w A0 l0.length l0) (hc0 : l0.length ≤ c0) (h : impl_CodeOk.f k l0 = some r) :
  Calls Tryd.prog 21 #[.slice A0 l0.length c0] w fun e w' => e = .returned (.bool r) ∧ Below w.heap.size w w' := by
 have hu25 := Tryd.underlying25
 have HR0 := aM_ hr0
 have HC0 := aM_ hc0
 clear hr0 hc0
 have HB := aM_ (Below.refl w.heap.size w)
 have H : ((impl_within.f (l0.length : Int) 1 800).bind fun t420 => (if t420 = true then (impl_CodeOk.l0 k l0 l0 (l0.length : Int) 0) else (some false))) = some r := h
 clear h
 replace H := Option.bind_eq_some_iff.mp H
 obtain ⟨t420, A20, H⟩ := H
 replace H : (if t420 = true then (impl_CodeOk.l0 k l0 l0 (l0.length : Int) 0) else (some false)) = some r := H
 have A2 := aM_ A20
 clear A20
 by_cases c3 : t420 = true
 ·subst c3
  have H1 : (impl_CodeOk.l0 k l0 l0 (l0.length : Int) 0) = some r := by rw [if_pos rfl] at H; exact H
  clear H
  have H := H1
  clear H1
  have H' := aM_ H
  clear H
  go_enter Tryd.func21, Tryd.ntmps21
  go_wp2_with (first | ((with_reducible refine gate_callee (f := 51) rfl ?_); refine gL_ (some 8) Tryd.func51 #[.int .i64 (l0.length : Int), .int .i64 1, .int .i64 800] ?_; (with_reducible refine (impl_within.calls (l0.length : Int) 1 800 true _ A2.out).mono ?_); rintro e w' ⟨rfl, ⟨nd, rfl⟩⟩; refine ⟨_, rfl, ?_⟩))
  go_loopg [12] k (fun kq v12 w' => ∃ (x12_1 : Int), v12 = .int .i64 x12_1 ∧ Aside0 (impl_CodeOk.l0 kq l0 l0 (l0.length : Int) x12_1 = some r) ∧ Aside0 (kq ≤ k) ∧ Aside0 (Below w.heap.size w w'))
  case atStart => exact ⟨(0), (by first | rfl | (simp; done) | (simp [*]; done)), H', ⟨Nat.le_refl _⟩, ⟨gW_ HB.out⟩⟩
  case round =>
   clear H'
   try clear c2
   try clear p2
   try clear c3
   obtain ⟨x12_1, rfl, HA, HK1, HB⟩ := hrel
   cases gk with
   | zero => exact absurd HA.out (by simp [impl_CodeOk.l0])
   | succ k1 =>
    have H := HA.out
    clear HA
    simp only [impl_CodeOk.l0] at H
    by_cases c4 : x12_1 < (l0.length : Int)
    ·rw [if_pos c4] at H
     have c4b0 : decide (x12_1 < (l0.length : Int)) = true := decide_eq_true c4
     clear c4
     by_cases c5 : 0 ≤ x12_1
     ·rw [if_pos c5] at H
      have c5b0 : decide (0 ≤ x12_1) = true := decide_eq_true c5
      clear c5
      by_cases c6 : x12_1 < (l0.length : Int)
      ·rw [if_pos c6] at H
       have c6b0 : decide (x12_1 < (l0.length : Int)) = true := decide_eq_true c6
       clear c6
       replace H := Option.bind_eq_some_iff.mp H
       obtain ⟨t423, A70, H⟩ := H
       replace H : (if t423 = true then (impl_CodeOk.l0 k1 l0 l0 (l0.length : Int) (wrap64 (x12_1 + 1))) else (some false)) = some r := H
       have A7 := aM_ A70
       clear A70
       by_cases c8 : t423 = true
       ·subst c8
        have H1 : (impl_CodeOk.l0 k1 l0 l0 (l0.length : Int) (wrap64 (x12_1 + 1))) = some r := by rw [if_pos rfl] at H; exact H
        clear H
        have H := H1
        clear H1
        have H' := aM_ H
        clear H
        have p421 : 0 ≤ (x12_1 : Int) := of_decide_eq_true (by first | (with_reducible assumption) | assumption)
        have q421 : x12_1 < (l0.length : Int) := of_decide_eq_true (by first | (with_reducible assumption) | assumption)
        obtain ⟨ad421, e421, hx421_0, hx421_1, hx421_2, hx421_3, hx421_4⟩ := at_T25 HR0.out x12_1 p421 q421
        cases e421
        replace hx421_0 := cB_ HB.out hx421_0
        replace hx421_1 := cB_ HB.out hx421_1
        replace hx421_2 := cB_ HB.out hx421_2
        replace hx421_3 := cB_ HB.out hx421_3
        replace hx421_4 := cB_ HB.out hx421_4
        replace p421 := eq_true p421
        replace q421 := eq_true q421
        go_wp2_with (first | ((with_reducible refine gate_dst (N := 4) rfl ?_); refine bX_ 4 (cs := #[.int .i64 0, .int .i64 0, .int .i64 0, .int .i64 0, .int .i64 0]) (t := 25) ?_; intro gb422 hg w9 hbox hb; have n0 := aM_ (sT_ HB.out hb); have n1 := aM_ (hbox); have n2 := aM_ (sZ_ hg HB.out); have n3 := aM_ (sZ_ hg HB.out); clear HB; have HB := n0; have BK422 := n1; have GW422 := n2; have GE422 := n3; clear n0 n1 n2 n3; clear hb hbox hg; obtain ⟨hcz10_0, hcz10_1, hcz10_2, hcz10_3, hcz10_4, hfz10_0, hfz10_1, hfz10_2, hfz10_3, hfz10_4⟩ := bR5_ BK422.out) | ((with_reducible refine gate_callee (f := 19) rfl ?_); refine gL_ (some 19) Tryd.func19 #[.agg #[.int .i64 ((rd_T25 l0 x12_1).f0), .int .i64 ((rd_T25 l0 x12_1).f1), .int .i64 ((rd_T25 l0 x12_1).f2), .int .i64 ((rd_T25 l0 x12_1).f3), .int .i64 ((rd_T25 l0 x12_1).f4)], .int .i64 (l0.length : Int)] ?_; (with_reducible refine (impl_StepOk.calls k1 ((rd_T25 l0 x12_1).f0) ((rd_T25 l0 x12_1).f1) ((rd_T25 l0 x12_1).f2) ((rd_T25 l0 x12_1).f3) ((rd_T25 l0 x12_1).f4) (l0.length : Int) true _ A7.out).mono ?_); rintro e w11 ⟨rfl, hb⟩; refine ⟨_, rfl, ?_⟩; have n0 := aM_ (blk_below (g := gb422) (o := .cells #[.int .i64 ((rd_T25 l0 x12_1).f0), .int .i64 ((rd_T25 l0 x12_1).f1), .int .i64 ((rd_T25 l0 x12_1).f2), .int .i64 ((rd_T25 l0 x12_1).f3), .int .i64 ((rd_T25 l0 x12_1).f4)] 25 (0, 0)) (by (with_reducible repeat (first | refine bN_ ?_ _ | refine bD_ ?_ | refine bA_ ?_ _)); refine blk_put (cs := #[.int .i64 ((rd_T25 l0 x12_1).f0), .int .i64 ((rd_T25 l0 x12_1).f1), .int .i64 ((rd_T25 l0 x12_1).f2), .int .i64 ((rd_T25 l0 x12_1).f3), .int .i64 0]) ?_ 4 _ rfl; (with_reducible repeat (first | refine bN_ ?_ _ | refine bD_ ?_ | refine bA_ ?_ _)); refine blk_put (cs := #[.int .i64 ((rd_T25 l0 x12_1).f0), .int .i64 ((rd_T25 l0 x12_1).f1), .int .i64 ((rd_T25 l0 x12_1).f2), .int .i64 0, .int .i64 0]) ?_ 3 _ rfl; (with_reducible repeat (first | refine bN_ ?_ _ | refine bD_ ?_ | refine bA_ ?_ _)); refine blk_put (cs := #[.int .i64 ((rd_T25 l0 x12_1).f0), .int .i64 ((rd_T25 l0 x12_1).f1), .int .i64 0, .int .i64 0, .int .i64 0]) ?_ 2 _ rfl; (with_reducible repeat (first | refine bN_ ?_ _ | refine bD_ ?_ | refine bA_ ?_ _)); refine blk_put (cs := #[.int .i64 ((rd_T25 l0 x12_1).f0), .int .i64 0, .int .i64 0, .int .i64 0, .int .i64 0]) ?_ 1 _ rfl; (with_reducible repeat (first | refine bN_ ?_ _ | refine bD_ ?_ | refine bA_ ?_ _)); refine blk_put (cs := #[.int .i64 0, .int .i64 0, .int .i64 0, .int .i64 0, .int .i64 0]) ?_ 0 _ rfl; (with_reducible repeat (first | refine bN_ ?_ _ | refine bD_ ?_ | refine bA_ ?_ _)); exact BK422.out) hb); have n1 := aM_ (sT_ HB.out hb); clear BK422; clear HB; have BK422 := n0; have HB := n1; clear n0 n1))
        go_roundg k1
        case measure => have := HK1.out; omega
        case rel => exact ⟨(wrap64 (x12_1 + 1)), (by first | rfl | (simp; done) | (simp [*]; done)), H', ⟨by have := HK1.out; omega⟩, ⟨gW_ HB.out⟩⟩
       ·replace c8 := Bool.eq_false_iff.mpr c8
        subst c8
        have H1 : (some false) = some r := by rw [if_neg (show ¬ (false = true) by decide)] at H; exact H
        clear H
        have H := H1
        clear H1
        obtain rfl := Option.some.inj H
        have p421 : 0 ≤ (x12_1 : Int) := of_decide_eq_true (by first | (with_reducible assumption) | assumption)
        have q421 : x12_1 < (l0.length : Int) := of_decide_eq_true (by first | (with_reducible assumption) | assumption)
        obtain ⟨ad421, e421, hx421_0, hx421_1, hx421_2, hx421_3, hx421_4⟩ := at_T25 HR0.out x12_1 p421 q421
        cases e421
        replace hx421_0 := cB_ HB.out hx421_0
        replace hx421_1 := cB_ HB.out hx421_1
        replace hx421_2 := cB_ HB.out hx421_2
        replace hx421_3 := cB_ HB.out hx421_3
        replace hx421_4 := cB_ HB.out hx421_4
        replace p421 := eq_true p421
        replace q421 := eq_true q421
        go_wp2_with (first | ((with_reducible refine gate_dst (N := 4) rfl ?_); refine bX_ 4 (cs := #[.int .i64 0, .int .i64 0, .int .i64 0, .int .i64 0, .int .i64 0]) (t := 25) ?_; intro gb422 hg w12 hbox hb; have n0 := aM_ (sT_ HB.out hb); have n1 := aM_ (hbox); have n2 := aM_ (sZ_ hg HB.out); have n3 := aM_ (sZ_ hg HB.out); clear HB; have HB := n0; have BK422 := n1; have GW422 := n2; have GE422 := n3; clear n0 n1 n2 n3; clear hb hbox hg; obtain ⟨hcz13_0, hcz13_1, hcz13_2, hcz13_3, hcz13_4, hfz13_0, hfz13_1, hfz13_2, hfz13_3, hfz13_4⟩ := bR5_ BK422.out) | ((with_reducible refine gate_callee (f := 19) rfl ?_); refine gL_ (some 19) Tryd.func19 #[.agg #[.int .i64 ((rd_T25 l0 x12_1).f0), .int .i64 ((rd_T25 l0 x12_1).f1), .int .i64 ((rd_T25 l0 x12_1).f2), .int .i64 ((rd_T25 l0 x12_1).f3), .int .i64 ((rd_T25 l0 x12_1).f4)], .int .i64 (l0.length : Int)] ?_; (with_reducible refine (impl_StepOk.calls k1 ((rd_T25 l0 x12_1).f0) ((rd_T25 l0 x12_1).f1) ((rd_T25 l0 x12_1).f2) ((rd_T25 l0 x12_1).f3) ((rd_T25 l0 x12_1).f4) (l0.length : Int) false _ A7.out).mono ?_); rintro e w14 ⟨rfl, hb⟩; refine ⟨_, rfl, ?_⟩; have n0 := aM_ (blk_below (g := gb422) (o := .cells #[.int .i64 ((rd_T25 l0 x12_1).f0), .int .i64 ((rd_T25 l0 x12_1).f1), .int .i64 ((rd_T25 l0 x12_1).f2), .int .i64 ((rd_T25 l0 x12_1).f3), .int .i64 ((rd_T25 l0 x12_1).f4)] 25 (0, 0)) (by (with_reducible repeat (first | refine bN_ ?_ _ | refine bD_ ?_ | refine bA_ ?_ _)); refine blk_put (cs := #[.int .i64 ((rd_T25 l0 x12_1).f0), .int .i64 ((rd_T25 l0 x12_1).f1), .int .i64 ((rd_T25 l0 x12_1).f2), .int .i64 ((rd_T25 l0 x12_1).f3), .int .i64 0]) ?_ 4 _ rfl; (with_reducible repeat (first | refine bN_ ?_ _ | refine bD_ ?_ | refine bA_ ?_ _)); refine blk_put (cs := #[.int .i64 ((rd_T25 l0 x12_1).f0), .int .i64 ((rd_T25 l0 x12_1).f1), .int .i64 ((rd_T25 l0 x12_1).f2), .int .i64 0, .int .i64 0]) ?_ 3 _ rfl; (with_reducible repeat (first | refine bN_ ?_ _ | refine bD_ ?_ | refine bA_ ?_ _)); refine blk_put (cs := #[.int .i64 ((rd_T25 l0 x12_1).f0), .int .i64 ((rd_T25 l0 x12_1).f1), .int .i64 0, .int .i64 0, .int .i64 0]) ?_ 2 _ rfl; (with_reducible repeat (first | refine bN_ ?_ _ | refine bD_ ?_ | refine bA_ ?_ _)); refine blk_put (cs := #[.int .i64 ((rd_T25 l0 x12_1).f0), .int .i64 0, .int .i64 0, .int .i64 0, .int .i64 0]) ?_ 1 _ rfl; (with_reducible repeat (first | refine bN_ ?_ _ | refine bD_ ?_ | refine bA_ ?_ _)); refine blk_put (cs := #[.int .i64 0, .int .i64 0, .int .i64 0, .int .i64 0, .int .i64 0]) ?_ 0 _ rfl; (with_reducible repeat (first | refine bN_ ?_ _ | refine bD_ ?_ | refine bA_ ?_ _)); exact BK422.out) hb); have n1 := aM_ (sT_ HB.out hb); clear BK422; clear HB; have BK422 := n0; have HB := n1; clear n0 n1))
        go_ret
        exact fI_ HB.out
      ·rw [if_neg c6] at H
       exact absurd H (by simp)
     ·rw [if_neg c5] at H
      exact absurd H (by simp)
    ·rw [if_neg c4] at H
     have c4b0 : decide (x12_1 < (l0.length : Int)) = false := decide_eq_false c4
     clear c4
     obtain ⟨ji15, hji15⟩ : ∃ j_ : Int, (wrap64 ((l0.length : Int) - 1)) = j_ := ⟨_, rfl⟩
     replace H : (if 0 ≤ (ji15) then (if (ji15) < (l0.length : Int) then (if ((rd_T25 l0 (ji15)).f0) = 10 then (some true) else (if ((rd_T25 l0 (ji15)).f0) = 12 then (some true) else (some (((rd_T25 l0 (ji15)).f0) == 13)))) else (none)) else (none)) = some r := by first | (rw [hji15] at H; exact H) | (simp only [hji15] at H ⊢; exact H)
     have hji15w : (IntKind.i64.wrap ((l0.length : Int) - 1)) = ji15 := (i64_w _).trans hji15
     by_cases c16 : 0 ≤ (ji15)
     ·rw [if_pos c16] at H
      have c16b0 : decide (0 ≤ (ji15)) = true := decide_eq_true c16
      clear c16
      by_cases c17 : (ji15) < (l0.length : Int)
      ·rw [if_pos c17] at H
       have c17b0 : decide ((ji15) < (l0.length : Int)) = true := decide_eq_true c17
       clear c17
       by_cases c18 : ((rd_T25 l0 (ji15)).f0) = 10
       ·rw [if_pos c18] at H
        have c18b0 : (((rd_T25 l0 (ji15)).f0) == 10) = true := beq_iff_eq.mpr c18
        have c18b1 : (((rd_T25 l0 (ji15)).f0) != 10) = false := bne_eq_false_iff_eq.mpr c18
        clear c18
        obtain rfl := Option.some.inj H
        have p424 : 0 ≤ ((ji15) : Int) := of_decide_eq_true (by first | (with_reducible assumption) | assumption)
        have q424 : (ji15) < (l0.length : Int) := of_decide_eq_true (by first | (with_reducible assumption) | assumption)
        obtain ⟨ad424, e424, hx424_0, hx424_1, hx424_2, hx424_3, hx424_4⟩ := at_T25 HR0.out (ji15) p424 q424
        cases e424
        replace hx424_0 := cB_ HB.out hx424_0
        replace hx424_1 := cB_ HB.out hx424_1
        replace hx424_2 := cB_ HB.out hx424_2
        replace hx424_3 := cB_ HB.out hx424_3
        replace hx424_4 := cB_ HB.out hx424_4
        replace p424 := eq_true p424
        replace q424 := eq_true q424
        go_wp2
        go_ret
        exact ⟨by first | rfl | (simp [errW_none, errW_some] <;> rfl) | (simp only [← hji15]; first | rfl | (simp [errW_none, errW_some] <;> rfl)) | (simp [*, errW_none, errW_some] <;> rfl), gB_ HB.out⟩
       ·rw [if_neg c18] at H
        have c18b0 : (((rd_T25 l0 (ji15)).f0) == 10) = false := beq_eq_false_iff_ne.mpr c18
        have c18b1 : (((rd_T25 l0 (ji15)).f0) != 10) = true := bne_iff_ne.mpr c18
        by_cases c19 : ((rd_T25 l0 (ji15)).f0) = 12
        ·rw [if_pos c19] at H
         have c19b0 : (((rd_T25 l0 (ji15)).f0) == 12) = true := beq_iff_eq.mpr c19
         have c19b1 : (((rd_T25 l0 (ji15)).f0) != 12) = false := bne_eq_false_iff_eq.mpr c19
         clear c19
         obtain rfl := Option.some.inj H
         have p424 : 0 ≤ ((ji15) : Int) := of_decide_eq_true (by first | (with_reducible assumption) | assumption)
         have q424 : (ji15) < (l0.length : Int) := of_decide_eq_true (by first | (with_reducible assumption) | assumption)
         obtain ⟨ad424, e424, hx424_0, hx424_1, hx424_2, hx424_3, hx424_4⟩ := at_T25 HR0.out (ji15) p424 q424
         cases e424
         replace hx424_0 := cB_ HB.out hx424_0
         replace hx424_1 := cB_ HB.out hx424_1
         replace hx424_2 := cB_ HB.out hx424_2
         replace hx424_3 := cB_ HB.out hx424_3
         replace hx424_4 := cB_ HB.out hx424_4
         replace p424 := eq_true p424
         replace q424 := eq_true q424
         go_wp2
         go_ret
         exact ⟨by first | rfl | (simp [errW_none, errW_some] <;> rfl) | (simp only [← hji15]; first | rfl | (simp [errW_none, errW_some] <;> rfl)) | (simp [*, errW_none, errW_some] <;> rfl), gB_ HB.out⟩
        ·rw [if_neg c19] at H
         have c19b0 : (((rd_T25 l0 (ji15)).f0) == 12) = false := beq_eq_false_iff_ne.mpr c19
         have c19b1 : (((rd_T25 l0 (ji15)).f0) != 12) = true := bne_iff_ne.mpr c19
         obtain rfl := Option.some.inj H
         have p424 : 0 ≤ ((ji15) : Int) := of_decide_eq_true (by first | (with_reducible assumption) | assumption)
         have q424 : (ji15) < (l0.length : Int) := of_decide_eq_true (by first | (with_reducible assumption) | assumption)
         obtain ⟨ad424, e424, hx424_0, hx424_1, hx424_2, hx424_3, hx424_4⟩ := at_T25 HR0.out (ji15) p424 q424
         cases e424
         replace hx424_0 := cB_ HB.out hx424_0
         replace hx424_1 := cB_ HB.out hx424_1
         replace hx424_2 := cB_ HB.out hx424_2
         replace hx424_3 := cB_ HB.out hx424_3
         replace hx424_4 := cB_ HB.out hx424_4
         replace p424 := eq_true p424
         replace q424 := eq_true q424
         go_wp2
         go_ret
         exact ⟨by first | rfl | (simp [errW_none, errW_some] <;> rfl) | (simp only [← hji15]; first | rfl | (simp [errW_none, errW_some] <;> rfl)) | (simp [*, errW_none, errW_some] <;> rfl), gB_ HB.out⟩
      ·rw [if_neg c17] at H
       exact absurd H (by simp)
     ·rw [if_neg c16] at H
      exact absurd H (by simp)
 ·replace c3 := Bool.eq_false_iff.mpr c3
  subst c3
  have H1 : (some false) = some r := by rw [if_neg (show ¬ (false = true) by decide)] at H; exact H
  clear H
  have H := H1
  clear H1
  obtain rfl := Option.some.inj H
  go_enter Tryd.func21, Tryd.ntmps21
  go_wp2_with (first | ((with_reducible refine gate_callee (f := 51) rfl ?_); refine gL_ (some 8) Tryd.func51 #[.int .i64 (l0.length : Int), .int .i64 1, .int .i64 800] ?_; (with_reducible refine (impl_within.calls (l0.length : Int) 1 800 false _ A2.out).mono ?_); rintro e w' ⟨rfl, ⟨nd, rfl⟩⟩; refine ⟨_, rfl, ?_⟩))
  go_ret
  exact fI_ HB.out
def impl_CodeText.l0 : Nat → ByteArray → List (S25) → Int → Int → Option (ByteArray)
  | 0, _, _, _, _ => none
  | k + 1, x3, x10, x11, x12 => if x12 < x11 then (if 0 ≤ x12 then (if x12 < (x10.length : Int) then ((impl_StepText.f k ((rd_T25 x10 x12).f0) ((rd_T25 x10 x12).f1) ((rd_T25 x10 x12).f2) ((rd_T25 x10 x12).f3) ((rd_T25 x10 x12).f4)).bind fun t428 => (if t428.size + 1 ≤ 9223372036854775807 then (if x3.size + (t428 ++ (⟨#[10]⟩ : ByteArray)).size ≤ 9223372036854775807 then (impl_CodeText.l0 k (x3 ++ (t428 ++ (⟨#[10]⟩ : ByteArray))) x10 x11 (wrap64 (x12 + 1))) else (none)) else (none))) else (none)) else (none)) else (some x3)
def impl_CodeText.f (k : Nat) (l0 : List (S25)) : Option (ByteArray) := (impl_CodeOk.f k l0).bind fun t425 => (if t425 = true then (impl_CodeText.l0 k (⟨#[]⟩ : ByteArray) l0 (l0.length : Int) 0) else (some (⟨#[]⟩ : ByteArray)))
set_option maxHeartbeats 8000000 in
set_option maxRecDepth 100000 in
theorem impl_CodeText.calls (k : Nat) (A0 : Option Addr) (c0 : Nat) (l0 : List (S25)) (r : ByteArray) (w : World) (hr0 : Kd.C k25 w A0 l0.length l0) (hc0 : l0.length ≤ c0) (h : impl_CodeText.f k l0 = some r) (hT : Tab.Laid w) :
  Calls Tryd.prog 12 #[.slice A0 l0.length c0] w fun e w' => e = .returned (.string r) ∧ Below w.heap.size w w' := by
 have hu25 := Tryd.underlying25
 have HR0 := aM_ hr0
 have HC0 := aM_ hc0
 clear hr0 hc0
 have HB := aM_ (Below.refl w.heap.size w)
 have H : ((impl_CodeOk.f k l0).bind fun t425 => (if t425 = true then (impl_CodeText.l0 k (⟨#[]⟩ : ByteArray) l0 (l0.length : Int) 0) else (some (⟨#[]⟩ : ByteArray)))) = some r := h
 clear h
 replace H := Option.bind_eq_some_iff.mp H
 obtain ⟨t425, A20, H⟩ := H
 replace H : (if t425 = true then (impl_CodeText.l0 k (⟨#[]⟩ : ByteArray) l0 (l0.length : Int) 0) else (some (⟨#[]⟩ : ByteArray))) = some r := H
 have A2 := aM_ A20
 clear A20
 by_cases c3 : t425 = true
 ·subst c3
  have H1 : (impl_CodeText.l0 k (⟨#[]⟩ : ByteArray) l0 (l0.length : Int) 0) = some r := by rw [if_pos rfl] at H; exact H
  clear H
  have H := H1
  clear H1
  have H' := aM_ H
  clear H
  go_enter Tryd.func12, Tryd.ntmps12
  go_wp2_with (first | ((with_reducible refine gate_callee (f := 21) rfl ?_); refine gL_ (some 7) Tryd.func21 #[.slice A0 l0.length c0] ?_; (with_reducible refine (impl_CodeOk.calls k _ _ l0 true _ ?side1 ?side2 A2.out).mono ?_); (case side1 => exact cS_ HR0.out); (case side2 => exact HC0.out); rintro e w4 ⟨rfl, hb⟩; refine ⟨_, rfl, ?_⟩; have n0 := aM_ (sT_ HB.out hb); clear HB; have HB := n0; clear n0))
  go_loopg [3, 12] k (fun kq v3 v12 w' => ∃ (x3_1 : ByteArray) (x12_1 : Int), v3 = .string x3_1 ∧ v12 = .int .i64 x12_1 ∧ Aside0 (impl_CodeText.l0 kq x3_1 l0 (l0.length : Int) x12_1 = some r) ∧ Aside0 (kq ≤ k) ∧ Aside0 (Below w.heap.size w w'))
  case atStart => exact ⟨((⟨#[]⟩ : ByteArray)), (0), (by first | rfl | (simp; done) | (simp [*]; done)), (by first | rfl | (simp; done) | (simp [*]; done)), H', ⟨Nat.le_refl _⟩, ⟨gW_ HB.out⟩⟩
  case round =>
   clear H'
   try clear c1
   try clear c2
   try clear p2
   try clear c3
   obtain ⟨x3_1, x12_1, rfl, rfl, HA, HK1, HB⟩ := hrel
   cases gk with
   | zero => exact absurd HA.out (by simp [impl_CodeText.l0])
   | succ k1 =>
    have H := HA.out
    clear HA
    simp only [impl_CodeText.l0] at H
    by_cases c5 : x12_1 < (l0.length : Int)
    ·rw [if_pos c5] at H
     have c5b0 : decide (x12_1 < (l0.length : Int)) = true := decide_eq_true c5
     clear c5
     by_cases c6 : 0 ≤ x12_1
     ·rw [if_pos c6] at H
      have c6b0 : decide (0 ≤ x12_1) = true := decide_eq_true c6
      clear c6
      by_cases c7 : x12_1 < (l0.length : Int)
      ·rw [if_pos c7] at H
       have c7b0 : decide (x12_1 < (l0.length : Int)) = true := decide_eq_true c7
       clear c7
       replace H := Option.bind_eq_some_iff.mp H
       obtain ⟨t428, A80, H⟩ := H
       replace H : (if t428.size + 1 ≤ 9223372036854775807 then (if x3_1.size + (t428 ++ (⟨#[10]⟩ : ByteArray)).size ≤ 9223372036854775807 then (impl_CodeText.l0 k1 (x3_1 ++ (t428 ++ (⟨#[10]⟩ : ByteArray))) l0 (l0.length : Int) (wrap64 (x12_1 + 1))) else (none)) else (none)) = some r := H
       have A8 := aM_ A80
       clear A80
       by_cases c9 : t428.size + 1 ≤ 9223372036854775807
       ·rw [if_pos c9] at H
        have c9b0 := eq_true c9
        have c9b1 : decide (t428.size + 1 ≤ 9223372036854775807) = true := decide_eq_true c9
        try have c9b2 : (9223372036854775807 < t428.size + 1) = False := eq_false (Nat.not_lt.2 c9)
        by_cases c10 : x3_1.size + (t428 ++ (⟨#[10]⟩ : ByteArray)).size ≤ 9223372036854775807
        ·rw [if_pos c10] at H
         have c10b0 := eq_true c10
         have c10b1 : decide (x3_1.size + (t428 ++ (⟨#[10]⟩ : ByteArray)).size ≤ 9223372036854775807) = true := decide_eq_true c10
         (try (have c10n := c10; simp only [ByteArray.size_append, Tab.sz_mk, List.size_toArray, List.length_cons, List.length_nil, Nat.zero_add, Nat.reduceAdd] at c10n; have c10b4 := eq_true c10n; have c10b5 := eq_false (Nat.not_lt.2 c10n)))
         try have c10b2 : (9223372036854775807 < x3_1.size + (t428 ++ (⟨#[10]⟩ : ByteArray)).size) = False := eq_false (Nat.not_lt.2 c10)
         have H' := aM_ H
         clear H
         have p426 : 0 ≤ (x12_1 : Int) := of_decide_eq_true (by first | (with_reducible assumption) | assumption)
         have q426 : x12_1 < (l0.length : Int) := of_decide_eq_true (by first | (with_reducible assumption) | assumption)
         obtain ⟨ad426, e426, hx426_0, hx426_1, hx426_2, hx426_3, hx426_4⟩ := at_T25 HR0.out x12_1 p426 q426
         cases e426
         replace hx426_0 := cB_ HB.out hx426_0
         replace hx426_1 := cB_ HB.out hx426_1
         replace hx426_2 := cB_ HB.out hx426_2
         replace hx426_3 := cB_ HB.out hx426_3
         replace hx426_4 := cB_ HB.out hx426_4
         replace p426 := eq_true p426
         replace q426 := eq_true q426
         go_wp2_with (first | ((with_reducible refine gate_dst (N := 5) rfl ?_); refine bX_ 5 (cs := #[.int .i64 0, .int .i64 0, .int .i64 0, .int .i64 0, .int .i64 0]) (t := 25) ?_; intro gb427 hg w11 hbox hb; have n0 := aM_ (sT_ HB.out hb); have n1 := aM_ (hbox); have n2 := aM_ (sZ_ hg HB.out); have n3 := aM_ (sZ_ hg HB.out); clear HB; have HB := n0; have BK427 := n1; have GW427 := n2; have GE427 := n3; clear n0 n1 n2 n3; clear hb hbox hg; obtain ⟨hcz12_0, hcz12_1, hcz12_2, hcz12_3, hcz12_4, hfz12_0, hfz12_1, hfz12_2, hfz12_3, hfz12_4⟩ := bR5_ BK427.out) | ((with_reducible refine gate_callee (f := 11) rfl ?_); refine gL_ (some 18) Tryd.func11 #[.agg #[.int .i64 ((rd_T25 l0 x12_1).f0), .int .i64 ((rd_T25 l0 x12_1).f1), .int .i64 ((rd_T25 l0 x12_1).f2), .int .i64 ((rd_T25 l0 x12_1).f3), .int .i64 ((rd_T25 l0 x12_1).f4)]] ?_; (with_reducible refine (impl_StepText.calls k1 ((rd_T25 l0 x12_1).f0) ((rd_T25 l0 x12_1).f1) ((rd_T25 l0 x12_1).f2) ((rd_T25 l0 x12_1).f3) ((rd_T25 l0 x12_1).f4) t428 _ A8.out ?sT).mono ?_); (case sT => exact TabL_ hT HB.out); rintro e w13 ⟨rfl, hb⟩; refine ⟨_, rfl, ?_⟩; have n0 := aM_ (blk_below (g := gb427) (o := .cells #[.int .i64 ((rd_T25 l0 x12_1).f0), .int .i64 ((rd_T25 l0 x12_1).f1), .int .i64 ((rd_T25 l0 x12_1).f2), .int .i64 ((rd_T25 l0 x12_1).f3), .int .i64 ((rd_T25 l0 x12_1).f4)] 25 (0, 0)) (by (with_reducible repeat (first | refine bN_ ?_ _ | refine bD_ ?_ | refine bA_ ?_ _)); refine blk_put (cs := #[.int .i64 ((rd_T25 l0 x12_1).f0), .int .i64 ((rd_T25 l0 x12_1).f1), .int .i64 ((rd_T25 l0 x12_1).f2), .int .i64 ((rd_T25 l0 x12_1).f3), .int .i64 0]) ?_ 4 _ rfl; (with_reducible repeat (first | refine bN_ ?_ _ | refine bD_ ?_ | refine bA_ ?_ _)); refine blk_put (cs := #[.int .i64 ((rd_T25 l0 x12_1).f0), .int .i64 ((rd_T25 l0 x12_1).f1), .int .i64 ((rd_T25 l0 x12_1).f2), .int .i64 0, .int .i64 0]) ?_ 3 _ rfl; (with_reducible repeat (first | refine bN_ ?_ _ | refine bD_ ?_ | refine bA_ ?_ _)); refine blk_put (cs := #[.int .i64 ((rd_T25 l0 x12_1).f0), .int .i64 ((rd_T25 l0 x12_1).f1), .int .i64 0, .int .i64 0, .int .i64 0]) ?_ 2 _ rfl; (with_reducible repeat (first | refine bN_ ?_ _ | refine bD_ ?_ | refine bA_ ?_ _)); refine blk_put (cs := #[.int .i64 ((rd_T25 l0 x12_1).f0), .int .i64 0, .int .i64 0, .int .i64 0, .int .i64 0]) ?_ 1 _ rfl; (with_reducible repeat (first | refine bN_ ?_ _ | refine bD_ ?_ | refine bA_ ?_ _)); refine blk_put (cs := #[.int .i64 0, .int .i64 0, .int .i64 0, .int .i64 0, .int .i64 0]) ?_ 0 _ rfl; (with_reducible repeat (first | refine bN_ ?_ _ | refine bD_ ?_ | refine bA_ ?_ _)); exact BK427.out) hb); have n1 := aM_ (sT_ HB.out hb); clear BK427; clear HB; have BK427 := n0; have HB := n1; clear n0 n1))
         (all_goals try (exfalso; have e1_ : (⟨#[32]⟩ : ByteArray).size = 1 := rfl; have e2_ : (⟨#[10]⟩ : ByteArray).size = 1 := rfl; simp only [ByteArray.size_append] at c10; omega))
         go_roundg k1
         case measure => have := HK1.out; omega
         case rel => exact ⟨(x3_1 ++ (t428 ++ (⟨#[10]⟩ : ByteArray))), (wrap64 (x12_1 + 1)), (by first | rfl | (simp; done) | (simp [*]; done)), (by first | rfl | (simp; done) | (simp [*]; done)), H', ⟨by have := HK1.out; omega⟩, ⟨gW_ HB.out⟩⟩
        ·rw [if_neg c10] at H
         exact absurd H (by simp)
       ·rw [if_neg c9] at H
        exact absurd H (by simp)
      ·rw [if_neg c7] at H
       exact absurd H (by simp)
     ·rw [if_neg c6] at H
      exact absurd H (by simp)
    ·rw [if_neg c5] at H
     have c5b0 : decide (x12_1 < (l0.length : Int)) = false := decide_eq_false c5
     clear c5
     obtain rfl := Option.some.inj H
     go_wp2
     go_ret
     exact fI_ HB.out
 ·replace c3 := Bool.eq_false_iff.mpr c3
  subst c3
  have H1 : (some (⟨#[]⟩ : ByteArray)) = some r := by rw [if_neg (show ¬ (false = true) by decide)] at H; exact H
  clear H
  have H := H1
  clear H1
  obtain rfl := Option.some.inj H
  go_enter Tryd.func12, Tryd.ntmps12
  go_wp2_with (first | ((with_reducible refine gate_callee (f := 21) rfl ?_); refine gL_ (some 7) Tryd.func21 #[.slice A0 l0.length c0] ?_; (with_reducible refine (impl_CodeOk.calls k _ _ l0 false _ ?side1 ?side2 A2.out).mono ?_); (case side1 => exact cS_ HR0.out); (case side2 => exact HC0.out); rintro e w14 ⟨rfl, hb⟩; refine ⟨_, rfl, ?_⟩; have n0 := aM_ (sT_ HB.out hb); clear HB; have HB := n0; clear n0))
  go_ret
  exact fI_ HB.out
def strings_Join.f (l0 : List ByteArray) (a1 : ByteArray) : Option ByteArray := Tab.joinF l0 a1
theorem strings_Join.calls (A0 : Option Addr) (c0 : Nat) (l0 : List ByteArray) (a1 : ByteArray) (r : ByteArray) (w : World) (hr0 : Kd.C Kd.string w A0 l0.length l0) (hc0 : l0.length ≤ c0) (h : strings_Join.f l0 a1 = some r) :
  Calls Tryd.prog 43 #[.slice A0 l0.length c0, .string a1] w fun e w' => e = .returned (.string r) ∧ Below w.heap.size w w' := Tab.join_calls A0 c0 l0 a1 r w hr0 hc0 h
def impl_TraceText.l0 : Nat → List ByteArray → List (S61) → Int → Int → Option (ByteArray)
  | 0, _, _, _, _ => none
  | k + 1, x3, x10, x11, x12 => if x12 < x11 then (if 0 ≤ x12 then (if x12 < (x10.length : Int) then ((impl_digits.f ((rd_T61 x10 x12).f0)).bind fun t434 => (if t434.size + 1 ≤ 9223372036854775807 then ((impl_digits.f ((rd_T61 x10 x12).f1)).bind fun t435 => (if (t434 ++ (⟨#[58]⟩ : ByteArray)).size + t435.size ≤ 9223372036854775807 then (if x3.length < 8796093022208 then (impl_TraceText.l0 k (x3 ++ [(t434 ++ (⟨#[58]⟩ : ByteArray)) ++ t435]) x10 x11 (wrap64 (x12 + 1))) else (none)) else (none))) else (none))) else (none)) else (none)) else ((strings_Join.f x3 (⟨#[32]⟩ : ByteArray)).bind fun t439 => (some t439))
def impl_TraceText.f (k : Nat) (l0 : List (S61)) : Option (ByteArray) := if (l0.length : Int) = 0 then (some (⟨#[45]⟩ : ByteArray)) else (impl_TraceText.l0 k (([] : List ByteArray)) l0 (l0.length : Int) 0)
def impl_TraceText.T7 : Bool × List (List Nat × List Nat) := (true, [([], []), ([], []), ([1], [1]), ([2], [2]), ([3], [3]), ([], []), ([5], [5]), ([6, 3], [6]), ([4, 7], [4, 7]), ([8], [8]), ([0, 9, 7], [0, 9]), ([10, 10, 0, 1, 2, 3, 4, 5, 6, 7, 8, 9, 10], [0, 10])])
def impl_TraceText.B7 : List Nat := [0, 0, 2, 6, 14, 0, 32, 110, 254, 510, 1023, 2047]
theorem impl_TraceText.tab7 : rtab .any (opsOf Tryd.f13 7) = impl_TraceText.T7 := by kernel_rfl
theorem impl_TraceText.bits7 : waitsOk impl_TraceText.T7.2 impl_TraceText.B7 = true := by kernel_rfl
set_option maxHeartbeats 8000000 in
set_option maxRecDepth 100000 in
theorem impl_TraceText.calls (k : Nat) (A0 : Option Addr) (c0 : Nat) (l0 : List (S61)) (r : ByteArray) (w : World) (hr0 : Kd.C k61 w A0 l0.length l0) (hc0 : l0.length ≤ c0) (h : impl_TraceText.f k l0 = some r) (hT : Tab.Laid w) :
  Calls Tryd.prog 13 #[.slice A0 l0.length c0] w fun e w' => e = .returned (.string r) ∧ Below w.heap.size w w' := by
 have hu61 := Tryd.underlying61
 have HR0 := aM_ hr0
 have HC0 := aM_ hc0
 clear hr0 hc0
 have HB := aM_ (Below.refl w.heap.size w)
 have H : (if (l0.length : Int) = 0 then (some (⟨#[45]⟩ : ByteArray)) else (impl_TraceText.l0 k (([] : List ByteArray)) l0 (l0.length : Int) 0)) = some r := h
 clear h
 by_cases c2 : (l0.length : Int) = 0
 ·rw [if_pos c2] at H
  have c2b0 : ((l0.length : Int) == 0) = true := beq_iff_eq.mpr c2
  have c2b1 : ((l0.length : Int) != 0) = false := bne_eq_false_iff_eq.mpr c2
  clear c2
  obtain rfl := Option.some.inj H
  go_enter Tryd.func13, Tryd.ntmps13
  go_wp2
  go_ret
  exact fI_ HB.out
 ·rw [if_neg c2] at H
  have c2b0 : ((l0.length : Int) == 0) = false := beq_eq_false_iff_ne.mpr c2
  have c2b1 : ((l0.length : Int) != 0) = true := bne_iff_ne.mpr c2
  have c2b2 : ¬ (l0 = []) := fun h_ => c2 (by rw [h_]; rfl)
  obtain ⟨y429, hy429⟩ : ∃ y_ : List ByteArray, y_ = (([] : List ByteArray)) := ⟨_, rfl⟩
  replace H : (impl_TraceText.l0 k y429 l0 (l0.length : Int) 0) = some r := by first | (rw [hy429]; with_reducible exact H) | (have H2_ := (Option.bind_some _ _).symm.trans H; rw [hy429]; with_reducible exact H2_) | (have H2_ := (Option.bind_some _ _).symm.trans H; with_reducible exact H2_) | with_reducible exact H | (rw [hy429]; exact H) | exact H
  have Ny429 := aM_ hy429
  clear hy429
  have H' := aM_ H
  clear H
  go_enter Tryd.func13, Tryd.ntmps13
  go_wp2_with (first | ((with_reducible refine gate_dst (N := 9) rfl ?_); refine Kd.R_lit Kd.string _ 9 ?hg (N := 9) ?hd (xs := ([] : List ByteArray)) (inner := []) (ok := fun _ => True) (okp := fun _ => True) ?hr ?hp (fun _ hk => hk) trivial (Below.refl _ _) (Nat.le_refl _) (by simp) ?_; (case hd => rfl); (case hg => rfl); (case hr => first | (go_simp; done) | (go_simp; rfl)); (case hp => exact (Reps.none _ _)); intro v430 w3 ho4 hb hg_ hnew_; clear hg_ hnew_; (first | rw [← Ny429.out] at ho4 | (simp only [Int.reduceToNat] at ho4; rw [← Ny429.out] at ho4)); have n0 := aM_ (Kd.R_lower ho4 (below_size (gB_ HB.out))); have n1 := aM_ (sT_ HB.out hb); clear HB; have HO431 := n0; have HB := n1; clear n0 n1; clear hb ho4))
  go_loopg [3, 12] k (fun kq v3 v12 w' => ∃ (x3_1 : List ByteArray) (x12_1 : Int), v12 = .int .i64 x12_1 ∧ Aside0 (impl_TraceText.l0 kq x3_1 l0 (l0.length : Int) x12_1 = some r) ∧ Aside0 (kq ≤ k) ∧ Aside0 (Kd.R Kd.string 9 w' w.heap.size (fun _ => True) v3 x3_1) ∧ Aside0 (Below w.heap.size w w'))
  case atStart => exact ⟨(y429), (0), (by first | rfl | (simp; done) | (simp [*]; done)), H', ⟨Nat.le_refl _⟩, ⟨by (with_reducible repeat (first | apply rA_ | apply rN_ | apply rD_)); exact HO431.out⟩, ⟨gW_ HB.out⟩⟩
  case round =>
   clear H'
   try clear c1
   try clear c2
   try clear c2b0
   try clear c2b1
   try clear c2b2
   try clear p2
   obtain ⟨x3_1, x12_1, rfl, HA, HK1, HO_3, HB⟩ := hrel
   cases gk with
   | zero => exact absurd HA.out (by simp [impl_TraceText.l0])
   | succ k1 =>
    have H := HA.out
    clear HA
    simp only [impl_TraceText.l0] at H
    by_cases c5 : x12_1 < (l0.length : Int)
    ·rw [if_pos c5] at H
     have c5b0 : decide (x12_1 < (l0.length : Int)) = true := decide_eq_true c5
     clear c5
     by_cases c6 : 0 ≤ x12_1
     ·rw [if_pos c6] at H
      have c6b0 : decide (0 ≤ x12_1) = true := decide_eq_true c6
      clear c6
      by_cases c7 : x12_1 < (l0.length : Int)
      ·rw [if_pos c7] at H
       have c7b0 : decide (x12_1 < (l0.length : Int)) = true := decide_eq_true c7
       clear c7
       replace H := Option.bind_eq_some_iff.mp H
       obtain ⟨t434, A80, H⟩ := H
       replace H : (if t434.size + 1 ≤ 9223372036854775807 then ((impl_digits.f ((rd_T61 l0 x12_1).f1)).bind fun t435 => (if (t434 ++ (⟨#[58]⟩ : ByteArray)).size + t435.size ≤ 9223372036854775807 then (if x3_1.length < 8796093022208 then (impl_TraceText.l0 k1 (x3_1 ++ [(t434 ++ (⟨#[58]⟩ : ByteArray)) ++ t435]) l0 (l0.length : Int) (wrap64 (x12_1 + 1))) else (none)) else (none))) else (none)) = some r := H
       have A8 := aM_ A80
       clear A80
       by_cases c9 : t434.size + 1 ≤ 9223372036854775807
       ·rw [if_pos c9] at H
        have c9b0 := eq_true c9
        have c9b1 : decide (t434.size + 1 ≤ 9223372036854775807) = true := decide_eq_true c9
        try have c9b2 : (9223372036854775807 < t434.size + 1) = False := eq_false (Nat.not_lt.2 c9)
        replace H := Option.bind_eq_some_iff.mp H
        obtain ⟨t435, A100, H⟩ := H
        replace H : (if (t434 ++ (⟨#[58]⟩ : ByteArray)).size + t435.size ≤ 9223372036854775807 then (if x3_1.length < 8796093022208 then (impl_TraceText.l0 k1 (x3_1 ++ [(t434 ++ (⟨#[58]⟩ : ByteArray)) ++ t435]) l0 (l0.length : Int) (wrap64 (x12_1 + 1))) else (none)) else (none)) = some r := H
        have A10 := aM_ A100
        clear A100
        by_cases c11 : (t434 ++ (⟨#[58]⟩ : ByteArray)).size + t435.size ≤ 9223372036854775807
        ·rw [if_pos c11] at H
         have c11b0 := eq_true c11
         have c11b1 : decide ((t434 ++ (⟨#[58]⟩ : ByteArray)).size + t435.size ≤ 9223372036854775807) = true := decide_eq_true c11
         (try (have c11n := c11; simp only [ByteArray.size_append, Tab.sz_mk, List.size_toArray, List.length_cons, List.length_nil, Nat.zero_add, Nat.reduceAdd] at c11n; have c11b4 := eq_true c11n; have c11b5 := eq_false (Nat.not_lt.2 c11n)))
         try have c11b2 : (9223372036854775807 < (t434 ++ (⟨#[58]⟩ : ByteArray)).size + t435.size) = False := eq_false (Nat.not_lt.2 c11)
         by_cases c12 : x3_1.length < 8796093022208
         ·rw [if_pos c12] at H
          have LMc12 := aM_ c12
          clear c12
          obtain ⟨y436, hy436⟩ : ∃ y_ : List ByteArray, y_ = (x3_1 ++ [(t434 ++ (⟨#[58]⟩ : ByteArray)) ++ t435]) := ⟨_, rfl⟩
          replace H : (impl_TraceText.l0 k1 y436 l0 (l0.length : Int) (wrap64 (x12_1 + 1))) = some r := by first | (rw [hy436]; with_reducible exact H) | (have H2_ := (Option.bind_some _ _).symm.trans H; rw [hy436]; with_reducible exact H2_) | (have H2_ := (Option.bind_some _ _).symm.trans H; with_reducible exact H2_) | with_reducible exact H | (rw [hy436]; exact H) | exact H
          have Ny436 := aM_ hy436
          clear hy436
          have H' := aM_ H
          clear H
          have p432 : 0 ≤ (x12_1 : Int) := of_decide_eq_true (by first | (with_reducible assumption) | assumption)
          have q432 : x12_1 < (l0.length : Int) := of_decide_eq_true (by first | (with_reducible assumption) | assumption)
          obtain ⟨ad432, e432, hx432_0, hx432_1⟩ := at_T61 HR0.out x12_1 p432 q432
          cases e432
          replace hx432_0 := cB_ HB.out hx432_0
          replace hx432_1 := cB_ HB.out hx432_1
          replace p432 := eq_true p432
          replace q432 := eq_true q432
          try go_wp2_with (first | ((with_reducible refine gate_dst (N := 5) rfl ?_); refine bX_ 5 (cs := #[.int .i64 0, .int .i64 0]) (t := 61) ?_; intro gb433 hg w13 hbox hb; have n0 := aM_ (bR_ HO_3.out hb); have n1 := aM_ (sT_ HB.out hb); have n2 := aM_ (hbox); have n3 := aM_ (sZ_ hg HB.out); have n4 := aM_ (sZ_ hg HB.out); clear HO_3; clear HB; have HO_3 := n0; have HB := n1; have BK433 := n2; have GW433 := n3; have GE433 := n4; clear n0 n1 n2 n3 n4; clear hb hbox hg; obtain ⟨hcz14_0, hcz14_1, hfz14_0, hfz14_1⟩ := bR2_ BK433.out))
          (all_goals try (exfalso; have e1_ : (⟨#[32]⟩ : ByteArray).size = 1 := rfl; have e2_ : (⟨#[10]⟩ : ByteArray).size = 1 := rfl; simp only [ByteArray.size_append] at c11; omega))
          have n0 : Aside0 (Kd.R Kd.string 9 ((w13.setCell ⟨gb433, 0, none⟩ (.int .i64 ((rd_T61 l0 x12_1).f0))).setCell ⟨gb433, 1, none⟩ (.int .i64 ((rd_T61 l0 x12_1).f1))) w.heap.size (fun _ => True) u3 x3_1) := ⟨by (with_reducible repeat (first | apply rA_ | apply rN_ | apply rD_)); exact Kd.R_mono (Kd.R_far (p := ⟨gb433, 1, none⟩) (Kd.R_far (p := ⟨gb433, 0, none⟩) (Kd.R_types HO_3.out BK433.out (by decide)) (fun _ hk => hk.2) (.int .i64 ((rd_T61 l0 x12_1).f0))) (fun _ hk => hk.2) (.int .i64 ((rd_T61 l0 x12_1).f1))) (fun _ hk => trivial)⟩
          have n1 : Aside0 (((w13.setCell ⟨gb433, 0, none⟩ (.int .i64 ((rd_T61 l0 x12_1).f0))).setCell ⟨gb433, 1, none⟩ (.int .i64 ((rd_T61 l0 x12_1).f1))).heap[gb433]? = some (.cells #[.int .i64 ((rd_T61 l0 x12_1).f0), .int .i64 ((rd_T61 l0 x12_1).f1)] 61 (0, 0))) := ⟨by (with_reducible repeat (first | refine bN_ ?_ _ | refine bD_ ?_ | refine bA_ ?_ _)); refine blk_put (cs := #[.int .i64 ((rd_T61 l0 x12_1).f0), .int .i64 0]) ?_ 1 _ rfl; (with_reducible repeat (first | refine bN_ ?_ _ | refine bD_ ?_ | refine bA_ ?_ _)); refine blk_put (cs := #[.int .i64 0, .int .i64 0]) ?_ 0 _ rfl; (with_reducible repeat (first | refine bN_ ?_ _ | refine bD_ ?_ | refine bA_ ?_ _)); exact BK433.out⟩
          have n2 : Aside0 (Below w.heap.size w ((w13.setCell ⟨gb433, 0, none⟩ (.int .i64 ((rd_T61 l0 x12_1).f0))).setCell ⟨gb433, 1, none⟩ (.int .i64 ((rd_T61 l0 x12_1).f1)))) := ⟨gW_ HB.out⟩
          (try clear HO_3)
          (try clear BK433)
          (try clear HB)
          generalize ((w13.setCell ⟨gb433, 0, none⟩ (.int .i64 ((rd_T61 l0 x12_1).f0))).setCell ⟨gb433, 1, none⟩ (.int .i64 ((rd_T61 l0 x12_1).f1))) = w15 at n0 n1 n2 ⊢
          have HO_3 := n0
          have BK433 := n1
          have HB := n2
          clear n0 n1 n2
          have n0 := aM_ (Kd.R_drew HO_3.out)
          have n1 := aM_ (blk_drew BK433.out)
          have n2 := aM_ (below_drew1 HB.out)
          clear HO_3
          clear BK433
          clear HB
          have HO_3 := n0
          have BK433 := n1
          have HB := n2
          clear n0 n1 n2
          refine start_ (n := 12) (S := fun w' => w'.cell? ⟨gb433, 0, none⟩ = some (.int .i64 ((rd_T61 l0 x12_1).f0)) ∧ w'.cell? ⟨gb433, 1, none⟩ = some (.int .i64 ((rd_T61 l0 x12_1).f1))) (ds := []) (mk_ 12 0) (by kernel_rfl) rfl rfl (bC2_ BK433.out) (fun hHeld => ?_); refine with_tabW impl_TraceText.tab7 impl_TraceText.bits7 (fun HT_ HW_ => ?_)
          generalize w15.drew = w16 at HO_3 BK433 HB hHeld ⊢
          refine pU_ 0 (some 16) (mk_ 12 1) ?_
          refine pU_ 1 (some 17) (mk_ 12 3) ?_
          refine pU_ 5 (some 21) (mk_ 12 35) ?_
          refine tK2_ 2 (some 18) (mk_ 12 39) ?_
          refine tK2_ 6 (some 22) (mk_ 12 103) ?_
          refine oN_ 3 (some 19) (mk_ 12 111) (fun K hK => ?_)
          refine gO_ Tryd.func40 #[.int .i64 ((rd_T61 l0 x12_1).f0)] ?_
          with_reducible refine (impl_digits.calls ((rd_T61 l0 x12_1).f0) t434 _ A8.out ?sT).mono ?_
          (case sT => exact TabL_ hT HB.out)
          rintro e w17 ⟨rfl, hb⟩
          refine ⟨_, rfl, ?_⟩
          have n0 := aM_ (bR_ HO_3.out hb)
          have n1 := aM_ (nB_ BK433.out hb)
          have n2 := aM_ (sT_ HB.out hb)
          clear HO_3
          clear BK433
          clear HB
          have HO_3 := n0
          have BK433 := n1
          have HB := n2
          clear n0 n1 n2
          (try clear hb)
          (try clear hb2)
          (try clear hk)
          (try clear hi)
          refine hK.out _ _ (bC2_ BK433.out) (fun hHeld => ?_)
          clear hK K
          refine norm_ (a' := ?_) ?_ ?_
          rotate_left
          ·show Act.put _ (some 19) _ = _
           simp only [pt_, pn_, sI_, s0_, s1_, i64_w, i32_w]
           rfl
          refine pU_ 4 (some 20) (mk_ 12 127) ?_
          refine oN_ 7 (some 23) (mk_ 12 255) (fun K hK => ?_)
          refine gO_ Tryd.func40 #[.int .i64 ((rd_T61 l0 x12_1).f1)] ?_
          with_reducible refine (impl_digits.calls ((rd_T61 l0 x12_1).f1) t435 _ A10.out ?sT).mono ?_
          (case sT => exact TabL_ hT HB.out)
          rintro e w18 ⟨rfl, hb⟩
          refine ⟨_, rfl, ?_⟩
          have n0 := aM_ (bR_ HO_3.out hb)
          have n1 := aM_ (nB_ BK433.out hb)
          have n2 := aM_ (sT_ HB.out hb)
          clear HO_3
          clear BK433
          clear HB
          have HO_3 := n0
          have BK433 := n1
          have HB := n2
          clear n0 n1 n2
          (try clear hb)
          (try clear hb2)
          (try clear hk)
          (try clear hi)
          refine hK.out _ _ (bC2_ BK433.out) (fun hHeld => ?_)
          clear hK K
          refine norm_ (a' := ?_) ?_ ?_
          rotate_left
          ·show Act.put _ (some 23) _ = _
           simp only [pt_, pn_, sI_, s0_, s1_, i64_w, i32_w]
           rfl
          refine pU_ 8 (some 24) (mk_ 12 511) ?_
          refine oN_ 9 (some 25) (mk_ 12 1023) (fun K hK => ?_)
          refine value_ (w1 := ?_) (v := ?_) (by rfl) rfl ?_ ?_
          rotate_left 2
          ·go_simp
           constructor
           ·rfl
           ·rfl
          refine hK.out _ _ ⟨(blk_cell (blk_alloc BK433.out _) 0).trans rfl, (blk_cell (blk_alloc BK433.out _) 1).trans rfl⟩ (fun hHeld => ?_)
          clear hK K
          refine norm_ (a' := ?_) ?_ ?_
          rotate_left
          ·show Act.put _ (some 25) _ = _
           simp only [pt_, pn_, sI_, s0_, s1_, i64_w, i32_w]
           rfl
          refine oN_ 10 (some 26) (mk_ 12 2047) (fun K hK => ?_)
          refine Kd.R_append_step Kd.string (w0 := w) w.heap.size (by rfl) (.tmp 16) (.tmp 25) 64 9 (.string ⟨#[]⟩) 16 rfl Tryd.underlying64 info9 rfl (by decide) (by omega) u3 x3_1 ((t434 ++ (⟨#[58]⟩ : ByteArray)) ++ t435) [.string ((t434 ++ (⟨#[58]⟩ : ByteArray)) ++ t435)] (fun _ => True) (fun _ => False) rfl rfl ?aP (fun _ hk => hk.elim) ?aF ?aO ?aB ?aS ?aL ?_
          (case aP => exact rfl)
          (case aB => exact (gB_ HB.out))
          (case aF => exact (fun _ _ => trivial))
          (case aO => exact (by (with_reducible repeat (first | apply rA_ | apply rN_ | apply rD_)); exact HO_3.out))
          (case aS => exact (below_size (gB_ HB.out)))
          (case aL => have := LMc12.out; omega)
          intro v437 w19 ho hb hg hat
          rw [← Ny436.out] at ho
          have n0 := aM_ (blk_grown (g := gb433) (o := .cells #[.int .i64 ((rd_T61 l0 x12_1).f0), .int .i64 ((rd_T61 l0 x12_1).f1)] 61 (0, 0)) (by (with_reducible repeat (first | refine bN_ ?_ _ | refine bD_ ?_ | refine bA_ ?_ _)); exact BK433.out) hg (Kd.R_ne HO_3.out BK433.out (by decide)))
          have n1 := aM_ (hb)
          have n2 := aM_ (ho)
          clear BK433
          clear HB
          clear HO_3
          have BK433 := n0
          have HB := n1
          have HO438 := n2
          clear n0 n1 n2
          clear ho hb hg hat
          refine hK.out _ _ (bC2_ BK433.out) (fun hHeld => ?_)
          clear hK K
          refine norm_ (a' := ?_) ?_ ?_
          rotate_left
          ·show Act.put _ (some 26) _ = _
           simp only [pt_, pn_, sI_, s0_, s1_, i64_w, i32_w]
           rfl
          refine pU_ 11 (some 3) (mk_ 12 4095) ?_
          refine done_ (done_of HT_.out (by kernel_rfl)) ?_
          try go_wp2
          go_roundg k1
          case measure => have := HK1.out; omega
          case rel => exact ⟨(y436), (wrap64 (x12_1 + 1)), (by first | rfl | (simp; done) | (simp [*]; done)), H', ⟨by have := HK1.out; omega⟩, ⟨by (with_reducible repeat (first | apply rA_ | apply rN_ | apply rD_)); exact HO438.out⟩, ⟨gW_ HB.out⟩⟩
         ·rw [if_neg c12] at H
          exact absurd H (by simp)
        ·rw [if_neg c11] at H
         exact absurd H (by simp)
       ·rw [if_neg c9] at H
        exact absurd H (by simp)
      ·rw [if_neg c7] at H
       exact absurd H (by simp)
     ·rw [if_neg c6] at H
      exact absurd H (by simp)
    ·rw [if_neg c5] at H
     have c5b0 : decide (x12_1 < (l0.length : Int)) = false := decide_eq_false c5
     clear c5
     replace H := Option.bind_eq_some_iff.mp H
     obtain ⟨t439, A200, H⟩ := H
     replace H : (some t439) = some r := H
     have A20 := aM_ A200
     clear A200
     obtain rfl := Option.some.inj H
     obtain ⟨Ao21, co21, eo21⟩ := Kd.R_slice HO_3.out
     subst eo21
     go_wp2_with (first | ((with_reducible refine gate_callee (f := 43) rfl ?_); refine gL_ (some 29) Tryd.func43 #[.slice Ao21 x3_1.length co21, .string (⟨#[32]⟩ : ByteArray)] ?_; (with_reducible refine (strings_Join.calls _ _ x3_1 (⟨#[32]⟩ : ByteArray) t439 _ ?side1 ?side2 A20.out).mono ?_); (case side1 => exact cS_ (Kd.R_reads' HO_3.out).2.2); (case side2 => exact (Kd.R_reads' HO_3.out).2.1); rintro e w22 ⟨rfl, hb⟩; refine ⟨_, rfl, ?_⟩; have n0 := aM_ (bR_ HO_3.out hb); have n1 := aM_ (sT_ HB.out hb); clear HO_3; clear HB; have HO_3 := n0; have HB := n1; clear n0 n1))
     go_ret
     exact fI_ HB.out
def impl_ChanOk.f (a0_0 : Int) (l0_1 : List Int) (a0_2 : Bool) : Option (Bool) := (impl_within.f a0_0 1 4).bind fun t441 => (if t441 = true then (some (decide ((l0_1.length : Int) ≤ a0_0))) else (some false))
set_option maxHeartbeats 8000000 in
set_option maxRecDepth 100000 in
theorem impl_ChanOk.calls (a0_0 : Int) (A0_1 : Option Addr) (c0_1 : Nat) (l0_1 : List Int) (a0_2 : Bool) (r : Bool) (w : World) (hr0_1 : Kd.C (Kd.int .i64) w A0_1 l0_1.length l0_1) (hc0_1 : l0_1.length ≤ c0_1) (h : impl_ChanOk.f a0_0 l0_1 a0_2 = some r) :
  Calls Tryd.prog 20 #[.agg #[.int .i64 a0_0, .slice A0_1 l0_1.length c0_1, .bool a0_2]] w fun e w' => e = .returned (.bool r) ∧ Below w.heap.size w w' := by
 have hu33 := Tryd.underlying33
 have HR0_1 := aM_ hr0_1
 have HC0_1 := aM_ hc0_1
 clear hr0_1 hc0_1
 have HB := aM_ (Below.refl w.heap.size w)
 have H : ((impl_within.f a0_0 1 4).bind fun t441 => (if t441 = true then (some (decide ((l0_1.length : Int) ≤ a0_0))) else (some false))) = some r := h
 clear h
 replace H := Option.bind_eq_some_iff.mp H
 obtain ⟨t441, A20, H⟩ := H
 replace H : (if t441 = true then (some (decide ((l0_1.length : Int) ≤ a0_0))) else (some false)) = some r := H
 have A2 := aM_ A20
 clear A20
 by_cases c3 : t441 = true
 ·subst c3
  have H1 : (some (decide ((l0_1.length : Int) ≤ a0_0))) = some r := by rw [if_pos rfl] at H; exact H
  clear H
  have H := H1
  clear H1
  obtain rfl := Option.some.inj H
  go_enter Tryd.func20, Tryd.ntmps20
  go_wp2_with (first | ((with_reducible refine gate_dst (N := 1) rfl ?_); (try (refine gate_guard (by rfl) ?_; dsimp only)); refine bX_ 1 (cs := #[.int .i64 a0_0, .slice A0_1 l0_1.length c0_1, .bool a0_2]) (t := 33) ?_; intro gb440 hg w4 hbox hb; have n0 := aM_ (sT_ HB.out hb); have n1 := aM_ (hbox); have n2 := aM_ (sZ_ hg HB.out); have n3 := aM_ (sZ_ hg HB.out); clear HB; have HB := n0; have BK440 := n1; have GW440 := n2; have GE440 := n3; clear n0 n1 n2 n3; clear hb hbox hg; obtain ⟨hcz5_0, hcz5_1, hcz5_2, hfz5_0, hfz5_1, hfz5_2⟩ := bR3_ BK440.out) | ((with_reducible refine gate_callee (f := 51) rfl ?_); refine gL_ (some 5) Tryd.func51 #[.int .i64 a0_0, .int .i64 1, .int .i64 4] ?_; (with_reducible refine (impl_within.calls a0_0 1 4 true _ A2.out).mono ?_); rintro e w' ⟨rfl, ⟨nd, rfl⟩⟩; refine ⟨_, rfl, ?_⟩))
  go_ret
  exact fI_ HB.out
 ·replace c3 := Bool.eq_false_iff.mpr c3
  subst c3
  have H1 : (some false) = some r := by rw [if_neg (show ¬ (false = true) by decide)] at H; exact H
  clear H
  have H := H1
  clear H1
  obtain rfl := Option.some.inj H
  go_enter Tryd.func20, Tryd.ntmps20
  go_wp2_with (first | ((with_reducible refine gate_dst (N := 1) rfl ?_); (try (refine gate_guard (by rfl) ?_; dsimp only)); refine bX_ 1 (cs := #[.int .i64 a0_0, .slice A0_1 l0_1.length c0_1, .bool a0_2]) (t := 33) ?_; intro gb440 hg w6 hbox hb; have n0 := aM_ (sT_ HB.out hb); have n1 := aM_ (hbox); have n2 := aM_ (sZ_ hg HB.out); have n3 := aM_ (sZ_ hg HB.out); clear HB; have HB := n0; have BK440 := n1; have GW440 := n2; have GE440 := n3; clear n0 n1 n2 n3; clear hb hbox hg; obtain ⟨hcz7_0, hcz7_1, hcz7_2, hfz7_0, hfz7_1, hfz7_2⟩ := bR3_ BK440.out) | ((with_reducible refine gate_callee (f := 51) rfl ?_); refine gL_ (some 5) Tryd.func51 #[.int .i64 a0_0, .int .i64 1, .int .i64 4] ?_; (with_reducible refine (impl_within.calls a0_0 1 4 false _ A2.out).mono ?_); rintro e w' ⟨rfl, ⟨nd, rfl⟩⟩; refine ⟨_, rfl, ?_⟩))
  go_ret
  exact fI_ HB.out
end Go.Proofs.YtdbobicbbfmepaaDoor.PFnTexts
