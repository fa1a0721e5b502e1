/- A part of the proof that the law FnExactSourceOk holds for every input: the words, functions and walks that its row needs, without a condition of their own. -/
import Derived.Test.YtfaoipojijhlbaaZFnExactSourceOka2
import Derived.Test.YtfaoipojijhlbaaZFnExactSourceOka7
import Derived.Test.YtfaoipojijhlbaaZFnExactSourceOka9
import Derived.Test.YtfaoipojijhlbaaZFnExactSourceOks
namespace Go.Proofs.Ytfaoipojijhlbaa.PFnExactSourceOk
open Go.RowKit Go.Proofs.YtfaoipojijhlbaaW.PrintWords Go.Proofs.YtfaoipojijhlbaaW.PrintLast Go.Proofs.YtfaoipojijhlbaaW.PrintMore
attribute [local go_sem] max2_int min2_int max_two min_two max_three min_three max_four min_four   -- for this text's walks alone
set_option linter.unusedVariables false
set_option linter.unusedSimpArgs false
mutual
def impl_BodyOk.j0 : Nat → List (S155) → Int → Bool → Option (Bool)
  | 0, _, _, _ => none
  | k + 1, x0, x1, x16 => if x16 = true then (some false) else (impl_BodyOk.l0 k x0 x1 x0 (x0.length : Int) 0)
def impl_BodyOk.l0 : Nat → List (S155) → Int → List (S155) → Int → Int → Option (Bool)
  | 0, _, _, _, _, _ => none
  | k + 1, x0, x1, x17, x18, x19 => if x19 < x18 then (if 0 ≤ x19 then (if x19 < (x17.length : Int) then ((impl_InsOk.f k ((rd_T155 x17 x19).f0) ((rd_T155 x17 x19).f1) ((rd_T155 x17 x19).f2) ((rd_T155 x17 x19).f3) ((rd_T155 x17 x19).f4) (x0.length : Int) x1).bind fun t269 => (if t269 = true then (impl_BodyOk.l0 k x0 x1 x17 x18 (wrap64 (x19 + 1))) else (some false))) else (none)) else (none)) else (if 0 ≤ (wrap64 ((x0.length : Int) - 1)) then (if (wrap64 ((x0.length : Int) - 1)) < (x0.length : Int) then (if ((rd_T155 x0 (wrap64 ((x0.length : Int) - 1))).f0) = 13 then (some true) else (some (((rd_T155 x0 (wrap64 ((x0.length : Int) - 1))).f0) == 11))) else (none)) else (none))
end
def impl_BodyOk.f (k : Nat) (l0 : List (S155)) (a1 : Int) : Option (Bool) := (impl_within.f a1 0 3).bind fun t264 => (if t264 = true then ((impl_within.f (l0.length : Int) 1 24).bind fun t265 => (impl_BodyOk.j0 k l0 a1 (!t265))) else (impl_BodyOk.j0 k l0 a1 true))
set_option maxHeartbeats 8000000 in
set_option maxRecDepth 100000 in
theorem impl_BodyOk.calls (k : Nat) (A0 : Option Addr) (c0 : Nat) (l0 : List (S155)) (a1 : Int) (r : Bool) (w : World) (hr0 : Kd.C k155 w A0 l0.length l0) (hc0 : l0.length ≤ c0) (h : impl_BodyOk.f k l0 a1 = some r) :
  Calls Try.prog 79 #[.slice A0 l0.length c0, .int .i64 a1] w fun e w' => e = .returned (.bool r) ∧ Below w.heap.size w w' := by
 have hu155 := Try.underlying155
 have HR0 := aM_ hr0
 have HC0 := aM_ hc0
 clear hr0 hc0
 have HB := aM_ (Below.refl w.heap.size w)
 have H : ((impl_within.f a1 0 3).bind fun t264 => (if t264 = true then ((impl_within.f (l0.length : Int) 1 24).bind fun t265 => (impl_BodyOk.j0 k l0 a1 (!t265))) else (impl_BodyOk.j0 k l0 a1 true))) = some r := h
 clear h
 have HC3 := aM_ H
 clear H
 go_enter Try.func79, Try.ntmps79
 go_upto_region 1 with (fail)
 go_cut [16] (fun v16 wc => ∃ (kq : Nat) (x16_2 : Bool), v16 = .bool x16_2 ∧ Aside0 (impl_BodyOk.j0 kq l0 a1 x16_2 = some r) ∧ Aside0 (kq ≤ k) ∧ Aside0 (Below w.heap.size w wc))
 case first =>
  have H := HC3.out
  clear HC3
  replace H := Option.bind_eq_some_iff.mp H
  obtain ⟨t264, A40, H⟩ := H
  replace H : (if t264 = true then ((impl_within.f (l0.length : Int) 1 24).bind fun t265 => (impl_BodyOk.j0 k l0 a1 (!t265))) else (impl_BodyOk.j0 k l0 a1 true)) = some r := H
  have A4 := aM_ A40
  clear A40
  by_cases c5 : t264 = true
  ·subst c5
   have H1 : ((impl_within.f (l0.length : Int) 1 24).bind fun t265 => (impl_BodyOk.j0 k l0 a1 (!t265))) = some r := by rw [if_pos rfl] at H; exact H
   clear H
   have H := H1
   clear H1
   replace H := Option.bind_eq_some_iff.mp H
   obtain ⟨t265, A60, H⟩ := H
   replace H : (impl_BodyOk.j0 k l0 a1 (!t265)) = some r := H
   have A6 := aM_ A60
   clear A60
   have H' := aM_ H
   clear H
   go_wp2_with (first | ((with_reducible refine gate_callee (f := 49) rfl ?_); refine gL_ (some 9) Try.func49 #[.int .i64 a1, .int .i64 0, .int .i64 3] ?_; (with_reducible refine (impl_within.calls a1 0 3 true _ A4.out).mono ?_); rintro e w' ⟨rfl, ⟨nd, rfl⟩⟩; refine ⟨_, rfl, ?_⟩) | (go_at_call 49; (with_reducible refine (impl_within.calls (l0.length : Int) 1 24 t265 _ A6.out).mono ?_); rintro e w' ⟨rfl, ⟨nd, rfl⟩⟩))
   go_meet
   case rel => exact ⟨_, (!t265), (by first | rfl | (simp; done) | (simp [*]; done)), H', ⟨by first | omega | exact Nat.le_refl _⟩, ⟨gW_ HB.out⟩⟩
  ·replace c5 := Bool.eq_false_iff.mpr c5
   subst c5
   have H1 : (impl_BodyOk.j0 k l0 a1 true) = some r := by rw [if_neg (show ¬ (false = true) by decide)] at H; exact H
   clear H
   have H := H1
   clear H1
   have H' := aM_ H
   clear H
   go_wp2_with (first | ((with_reducible refine gate_callee (f := 49) rfl ?_); refine gL_ (some 9) Try.func49 #[.int .i64 a1, .int .i64 0, .int .i64 3] ?_; (with_reducible refine (impl_within.calls a1 0 3 false _ A4.out).mono ?_); rintro e w' ⟨rfl, ⟨nd, rfl⟩⟩; refine ⟨_, rfl, ?_⟩))
   go_meet
   case rel => exact ⟨_, (true), (by first | rfl | (simp; done) | (simp [*]; done)), H', ⟨by first | omega | exact Nat.le_refl _⟩, ⟨gW_ HB.out⟩⟩
 case rest =>
  clear HC3
  try clear p2
  try clear c4
  try clear c5
  obtain ⟨kq, x16_2, rfl, HA, HJ2, HB⟩ := hcut
  cases kq with
  | zero => exact absurd HA.out (by simp [impl_BodyOk.j0])
  | succ kj2 =>
   have H := HA.out
   clear HA
   simp only [impl_BodyOk.j0] at H
   by_cases c7 : x16_2 = true
   ·subst c7
    have H1 : (some false) = some r := by rw [if_pos rfl] at H; exact H
    clear H
    have H := H1
    clear H1
    obtain rfl := Option.some.inj H
    go_wp2
    go_ret
    exact fI_ HB.out
   ·replace c7 := Bool.eq_false_iff.mpr c7
    subst c7
    have H1 : (impl_BodyOk.l0 kj2 l0 a1 l0 (l0.length : Int) 0) = some r := by rw [if_neg (show ¬ (false = true) by decide)] at H; exact H
    clear H
    have H := H1
    clear H1
    have H' := aM_ H
    clear H
    go_wp2
    go_loopg [19] kj2 (fun kq v19 w' => ∃ (x19_2 : Int), v19 = .int .i64 x19_2 ∧ Aside0 (impl_BodyOk.l0 kq l0 a1 l0 (l0.length : Int) x19_2 = some r) ∧ Aside0 (kq ≤ kj2) ∧ Aside0 (Below w.heap.size w w'))
    case atStart => exact ⟨(0), (by first | rfl | (simp; done) | (simp [*]; done)), H', ⟨Nat.le_refl _⟩, ⟨gW_ HB.out⟩⟩
    case round =>
     clear H'
     try clear p2
     try clear c4
     try clear c5
     try clear c7
     try clear p2
     obtain ⟨x19_2, rfl, HA, HK2, HB⟩ := hrel
     cases gk with
     | zero => exact absurd HA.out (by simp [impl_BodyOk.l0])
     | succ k2 =>
      have H := HA.out
      clear HA
      simp only [impl_BodyOk.l0] at H
      by_cases c8 : x19_2 < (l0.length : Int)
      ·rw [if_pos c8] at H
       have c8b0 : decide (x19_2 < (l0.length : Int)) = true := decide_eq_true c8
       clear c8
       by_cases c9 : 0 ≤ x19_2
       ·rw [if_pos c9] at H
        have c9b0 : decide (0 ≤ x19_2) = true := decide_eq_true c9
        clear c9
        by_cases c10 : x19_2 < (l0.length : Int)
        ·rw [if_pos c10] at H
         have c10b0 : decide (x19_2 < (l0.length : Int)) = true := decide_eq_true c10
         clear c10
         replace H := Option.bind_eq_some_iff.mp H
         obtain ⟨t269, A110, H⟩ := H
         replace H : (if t269 = true then (impl_BodyOk.l0 k2 l0 a1 l0 (l0.length : Int) (wrap64 (x19_2 + 1))) else (some false)) = some r := H
         have A11 := aM_ A110
         clear A110
         by_cases c12 : t269 = true
         ·subst c12
          have H1 : (impl_BodyOk.l0 k2 l0 a1 l0 (l0.length : Int) (wrap64 (x19_2 + 1))) = some r := by rw [if_pos rfl] at H; exact H
          clear H
          have H := H1
          clear H1
          have H' := aM_ H
          clear H
          have p267 : 0 ≤ (x19_2 : Int) := of_decide_eq_true (by first | (with_reducible assumption) | assumption)
          have q267 : x19_2 < (l0.length : Int) := of_decide_eq_true (by first | (with_reducible assumption) | assumption)
          obtain ⟨ad267, e267, hx267_0, hx267_1, hx267_2, hx267_3, hx267_4⟩ := at_T155 HR0.out x19_2 p267 q267
          cases e267
          replace hx267_0 := cB_ HB.out hx267_0
          replace hx267_1 := cB_ HB.out hx267_1
          replace hx267_2 := cB_ HB.out hx267_2
          replace hx267_3 := cB_ HB.out hx267_3
          replace hx267_4 := cB_ HB.out hx267_4
          replace p267 := eq_true p267
          replace q267 := eq_true q267
          go_wp2_with (first | ((with_reducible refine gate_dst (N := 6) rfl ?_); (try (refine gate_guard (by rfl) ?_; dsimp only)); refine bX_ 6 (cs := #[.int .i64 0, .int .i64 0, .int .i64 0, .int .i64 0, .int .i64 0]) (t := 155) ?_; intro gb268 hg w13 hbox hb; have n0 := aM_ (sT_ HB.out hb); have n1 := aM_ (hbox); have n2 := aM_ (sZ_ hg HB.out); have n3 := aM_ (sZ_ hg HB.out); clear HB; have HB := n0; have BK268 := n1; have GW268 := n2; have GE268 := n3; clear n0 n1 n2 n3; clear hb hbox hg; obtain ⟨hcz14_0, hcz14_1, hcz14_2, hcz14_3, hcz14_4, hfz14_0, hfz14_1, hfz14_2, hfz14_3, hfz14_4⟩ := bR5_ BK268.out) | ((with_reducible refine gate_callee (f := 97) rfl ?_); refine gL_ (some 27) Try.func97 #[.agg #[.int .i64 ((rd_T155 l0 x19_2).f0), .int .i64 ((rd_T155 l0 x19_2).f1), .int .i64 ((rd_T155 l0 x19_2).f2), .int .i64 ((rd_T155 l0 x19_2).f3), .int .i64 ((rd_T155 l0 x19_2).f4)], .int .i64 (l0.length : Int), .int .i64 a1] ?_; (with_reducible refine (impl_InsOk.calls k2 ((rd_T155 l0 x19_2).f0) ((rd_T155 l0 x19_2).f1) ((rd_T155 l0 x19_2).f2) ((rd_T155 l0 x19_2).f3) ((rd_T155 l0 x19_2).f4) (l0.length : Int) a1 true _ A11.out).mono ?_); rintro e w15 ⟨rfl, hb⟩; refine ⟨_, rfl, ?_⟩; have n0 := aM_ (blk_below (g := gb268) (o := .cells #[.int .i64 ((rd_T155 l0 x19_2).f0), .int .i64 ((rd_T155 l0 x19_2).f1), .int .i64 ((rd_T155 l0 x19_2).f2), .int .i64 ((rd_T155 l0 x19_2).f3), .int .i64 ((rd_T155 l0 x19_2).f4)] 155 (0, 0)) (by (with_reducible repeat (first | refine bN_ ?_ _ | refine bD_ ?_ | refine bA_ ?_ _)); refine blk_put (cs := #[.int .i64 ((rd_T155 l0 x19_2).f0), .int .i64 ((rd_T155 l0 x19_2).f1), .int .i64 ((rd_T155 l0 x19_2).f2), .int .i64 ((rd_T155 l0 x19_2).f3), .int .i64 0]) ?_ 4 _ rfl; (with_reducible repeat (first | refine bN_ ?_ _ | refine bD_ ?_ | refine bA_ ?_ _)); refine blk_put (cs := #[.int .i64 ((rd_T155 l0 x19_2).f0), .int .i64 ((rd_T155 l0 x19_2).f1), .int .i64 ((rd_T155 l0 x19_2).f2), .int .i64 0, .int .i64 0]) ?_ 3 _ rfl; (with_reducible repeat (first | refine bN_ ?_ _ | refine bD_ ?_ | refine bA_ ?_ _)); refine blk_put (cs := #[.int .i64 ((rd_T155 l0 x19_2).f0), .int .i64 ((rd_T155 l0 x19_2).f1), .int .i64 0, .int .i64 0, .int .i64 0]) ?_ 2 _ rfl; (with_reducible repeat (first | refine bN_ ?_ _ | refine bD_ ?_ | refine bA_ ?_ _)); refine blk_put (cs := #[.int .i64 ((rd_T155 l0 x19_2).f0), .int .i64 0, .int .i64 0, .int .i64 0, .int .i64 0]) ?_ 1 _ rfl; (with_reducible repeat (first | refine bN_ ?_ _ | refine bD_ ?_ | refine bA_ ?_ _)); refine blk_put (cs := #[.int .i64 0, .int .i64 0, .int .i64 0, .int .i64 0, .int .i64 0]) ?_ 0 _ rfl; (with_reducible repeat (first | refine bN_ ?_ _ | refine bD_ ?_ | refine bA_ ?_ _)); exact BK268.out) hb); have n1 := aM_ (sT_ HB.out hb); clear BK268; clear HB; have BK268 := n0; have HB := n1; clear n0 n1))
          go_roundg k2
          case measure => have := HJ2.out; have := HK2.out; omega
          case rel => exact ⟨(wrap64 (x19_2 + 1)), (by first | rfl | (simp; done) | (simp [*]; done)), H', ⟨by have := HJ2.out; have := HK2.out; omega⟩, ⟨gW_ HB.out⟩⟩
         ·replace c12 := Bool.eq_false_iff.mpr c12
          subst c12
          have H1 : (some false) = some r := by rw [if_neg (show ¬ (false = true) by decide)] at H; exact H
          clear H
          have H := H1
          clear H1
          obtain rfl := Option.some.inj H
          have p267 : 0 ≤ (x19_2 : Int) := of_decide_eq_true (by first | (with_reducible assumption) | assumption)
          have q267 : x19_2 < (l0.length : Int) := of_decide_eq_true (by first | (with_reducible assumption) | assumption)
          obtain ⟨ad267, e267, hx267_0, hx267_1, hx267_2, hx267_3, hx267_4⟩ := at_T155 HR0.out x19_2 p267 q267
          cases e267
          replace hx267_0 := cB_ HB.out hx267_0
          replace hx267_1 := cB_ HB.out hx267_1
          replace hx267_2 := cB_ HB.out hx267_2
          replace hx267_3 := cB_ HB.out hx267_3
          replace hx267_4 := cB_ HB.out hx267_4
          replace p267 := eq_true p267
          replace q267 := eq_true q267
          go_wp2_with (first | ((with_reducible refine gate_dst (N := 6) rfl ?_); (try (refine gate_guard (by rfl) ?_; dsimp only)); refine bX_ 6 (cs := #[.int .i64 0, .int .i64 0, .int .i64 0, .int .i64 0, .int .i64 0]) (t := 155) ?_; intro gb268 hg w16 hbox hb; have n0 := aM_ (sT_ HB.out hb); have n1 := aM_ (hbox); have n2 := aM_ (sZ_ hg HB.out); have n3 := aM_ (sZ_ hg HB.out); clear HB; have HB := n0; have BK268 := n1; have GW268 := n2; have GE268 := n3; clear n0 n1 n2 n3; clear hb hbox hg; obtain ⟨hcz17_0, hcz17_1, hcz17_2, hcz17_3, hcz17_4, hfz17_0, hfz17_1, hfz17_2, hfz17_3, hfz17_4⟩ := bR5_ BK268.out) | ((with_reducible refine gate_callee (f := 97) rfl ?_); refine gL_ (some 27) Try.func97 #[.agg #[.int .i64 ((rd_T155 l0 x19_2).f0), .int .i64 ((rd_T155 l0 x19_2).f1), .int .i64 ((rd_T155 l0 x19_2).f2), .int .i64 ((rd_T155 l0 x19_2).f3), .int .i64 ((rd_T155 l0 x19_2).f4)], .int .i64 (l0.length : Int), .int .i64 a1] ?_; (with_reducible refine (impl_InsOk.calls k2 ((rd_T155 l0 x19_2).f0) ((rd_T155 l0 x19_2).f1) ((rd_T155 l0 x19_2).f2) ((rd_T155 l0 x19_2).f3) ((rd_T155 l0 x19_2).f4) (l0.length : Int) a1 false _ A11.out).mono ?_); rintro e w18 ⟨rfl, hb⟩; refine ⟨_, rfl, ?_⟩; have n0 := aM_ (blk_below (g := gb268) (o := .cells #[.int .i64 ((rd_T155 l0 x19_2).f0), .int .i64 ((rd_T155 l0 x19_2).f1), .int .i64 ((rd_T155 l0 x19_2).f2), .int .i64 ((rd_T155 l0 x19_2).f3), .int .i64 ((rd_T155 l0 x19_2).f4)] 155 (0, 0)) (by (with_reducible repeat (first | refine bN_ ?_ _ | refine bD_ ?_ | refine bA_ ?_ _)); refine blk_put (cs := #[.int .i64 ((rd_T155 l0 x19_2).f0), .int .i64 ((rd_T155 l0 x19_2).f1), .int .i64 ((rd_T155 l0 x19_2).f2), .int .i64 ((rd_T155 l0 x19_2).f3), .int .i64 0]) ?_ 4 _ rfl; (with_reducible repeat (first | refine bN_ ?_ _ | refine bD_ ?_ | refine bA_ ?_ _)); refine blk_put (cs := #[.int .i64 ((rd_T155 l0 x19_2).f0), .int .i64 ((rd_T155 l0 x19_2).f1), .int .i64 ((rd_T155 l0 x19_2).f2), .int .i64 0, .int .i64 0]) ?_ 3 _ rfl; (with_reducible repeat (first | refine bN_ ?_ _ | refine bD_ ?_ | refine bA_ ?_ _)); refine blk_put (cs := #[.int .i64 ((rd_T155 l0 x19_2).f0), .int .i64 ((rd_T155 l0 x19_2).f1), .int .i64 0, .int .i64 0, .int .i64 0]) ?_ 2 _ rfl; (with_reducible repeat (first | refine bN_ ?_ _ | refine bD_ ?_ | refine bA_ ?_ _)); refine blk_put (cs := #[.int .i64 ((rd_T155 l0 x19_2).f0), .int .i64 0, .int .i64 0, .int .i64 0, .int .i64 0]) ?_ 1 _ rfl; (with_reducible repeat (first | refine bN_ ?_ _ | refine bD_ ?_ | refine bA_ ?_ _)); refine blk_put (cs := #[.int .i64 0, .int .i64 0, .int .i64 0, .int .i64 0, .int .i64 0]) ?_ 0 _ rfl; (with_reducible repeat (first | refine bN_ ?_ _ | refine bD_ ?_ | refine bA_ ?_ _)); exact BK268.out) hb); have n1 := aM_ (sT_ HB.out hb); clear BK268; clear HB; have BK268 := n0; have HB := n1; clear n0 n1))
          go_ret
          exact fI_ HB.out
        ·rw [if_neg c10] at H
         exact absurd H (by simp)
       ·rw [if_neg c9] at H
        exact absurd H (by simp)
      ·rw [if_neg c8] at H
       have c8b0 : decide (x19_2 < (l0.length : Int)) = false := decide_eq_false c8
       clear c8
       obtain ⟨ji19, hji19⟩ : ∃ j_ : Int, (wrap64 ((l0.length : Int) - 1)) = j_ := ⟨_, rfl⟩
       replace H : (if 0 ≤ (ji19) then (if (ji19) < (l0.length : Int) then (if ((rd_T155 l0 (ji19)).f0) = 13 then (some true) else (some (((rd_T155 l0 (ji19)).f0) == 11))) else (none)) else (none)) = some r := by first | (rw [hji19] at H; exact H) | (simp only [hji19] at H ⊢; exact H)
       have hji19w : (IntKind.i64.wrap ((l0.length : Int) - 1)) = ji19 := (i64_w _).trans hji19
       by_cases c20 : 0 ≤ (ji19)
       ·rw [if_pos c20] at H
        have c20b0 : decide (0 ≤ (ji19)) = true := decide_eq_true c20
        clear c20
        by_cases c21 : (ji19) < (l0.length : Int)
        ·rw [if_pos c21] at H
         have c21b0 : decide ((ji19) < (l0.length : Int)) = true := decide_eq_true c21
         clear c21
         by_cases c22 : ((rd_T155 l0 (ji19)).f0) = 13
         ·rw [if_pos c22] at H
          have c22b0 : (((rd_T155 l0 (ji19)).f0) == 13) = true := beq_iff_eq.mpr c22
          have c22b1 : (((rd_T155 l0 (ji19)).f0) != 13) = false := bne_eq_false_iff_eq.mpr c22
          clear c22
          obtain rfl := Option.some.inj H
          have p266 : 0 ≤ ((ji19) : Int) := of_decide_eq_true (by first | (with_reducible assumption) | assumption)
          have q266 : (ji19) < (l0.length : Int) := of_decide_eq_true (by first | (with_reducible assumption) | assumption)
          obtain ⟨ad266, e266, hx266_0, hx266_1, hx266_2, hx266_3, hx266_4⟩ := at_T155 HR0.out (ji19) p266 q266
          cases e266
          replace hx266_0 := cB_ HB.out hx266_0
          replace hx266_1 := cB_ HB.out hx266_1
          replace hx266_2 := cB_ HB.out hx266_2
          replace hx266_3 := cB_ HB.out hx266_3
          replace hx266_4 := cB_ HB.out hx266_4
          replace p266 := eq_true p266
          replace q266 := eq_true q266
          go_wp2
          go_ret
          exact ⟨by first | rfl | (simp [errW_none, errW_some] <;> rfl) | (simp only [← hji19]; first | rfl | (simp [errW_none, errW_some] <;> rfl)) | (simp [*, errW_none, errW_some] <;> rfl), by repeat (first | (with_reducible first | exact HB.out | apply hA_ | apply hN_ | apply hD_) | exact HB.out)⟩
         ·rw [if_neg c22] at H
          have c22b0 : (((rd_T155 l0 (ji19)).f0) == 13) = false := beq_eq_false_iff_ne.mpr c22
          have c22b1 : (((rd_T155 l0 (ji19)).f0) != 13) = true := bne_iff_ne.mpr c22
          obtain rfl := Option.some.inj H
          have p266 : 0 ≤ ((ji19) : Int) := of_decide_eq_true (by first | (with_reducible assumption) | assumption)
          have q266 : (ji19) < (l0.length : Int) := of_decide_eq_true (by first | (with_reducible assumption) | assumption)
          obtain ⟨ad266, e266, hx266_0, hx266_1, hx266_2, hx266_3, hx266_4⟩ := at_T155 HR0.out (ji19) p266 q266
          cases e266
          replace hx266_0 := cB_ HB.out hx266_0
          replace hx266_1 := cB_ HB.out hx266_1
          replace hx266_2 := cB_ HB.out hx266_2
          replace hx266_3 := cB_ HB.out hx266_3
          replace hx266_4 := cB_ HB.out hx266_4
          replace p266 := eq_true p266
          replace q266 := eq_true q266
          go_wp2
          go_ret
          exact ⟨by first | rfl | (simp [errW_none, errW_some] <;> rfl) | (simp only [← hji19]; first | rfl | (simp [errW_none, errW_some] <;> rfl)) | (simp [*, errW_none, errW_some] <;> rfl), by repeat (first | (with_reducible first | exact HB.out | apply hA_ | apply hN_ | apply hD_) | exact HB.out)⟩
        ·rw [if_neg c21] at H
         exact absurd H (by simp)
       ·rw [if_neg c20] at H
        exact absurd H (by simp)
def impl_ProgOk.l0 : Nat → List (List (S155)) → Int → Int → List Int → List (List (S155)) → Option (Bool)
  | 0, _, _, _, _, _ => none
  | k + 1, x6, x7, x8, x271000, x271001 => if x8 < x7 then (if 0 ≤ x8 then (if x8 < (x6.length : Int) then ((impl_BodyOk.f k (rd_L9 x6 x8) (x271000.length : Int)).bind fun t272 => (if t272 = true then (impl_ProgOk.l0 k x6 x7 (wrap64 (x8 + 1)) x271000 x271001) else (some false))) else (none)) else (none)) else (if (x271000.length : Int) ≤ 3 then ((impl_capsOk.f k x271000).bind fun t273 => (if t273 = true then ((impl_within.f (x271001.length : Int) 1 4).bind fun t274 => (some t274)) else (some false))) else (some false))
def impl_ProgOk.f (k : Nat) (l0_0 : List Int) (l0_1 : List (List (S155))) : Option (Bool) := impl_ProgOk.l0 k l0_1 (l0_1.length : Int) 0 l0_0 l0_1
set_option maxHeartbeats 8000000 in
set_option maxRecDepth 100000 in
theorem impl_ProgOk.calls (k : Nat) (A0_0 : Option Addr) (c0_0 : Nat) (l0_0 : List Int) (A0_1 : Option Addr) (c0_1 : Nat) (l0_1 : List (List (S155))) (r : Bool) (w : World) (hr0_0 : Kd.C (Kd.int .i64) w A0_0 l0_0.length l0_0) (hc0_0 : l0_0.length ≤ c0_0) (hr0_1 : Kd.C (Kd.slice 155 k155) w A0_1 l0_1.length l0_1) (hc0_1 : l0_1.length ≤ c0_1) (h : impl_ProgOk.f k l0_0 l0_1 = some r) :
  Calls Try.prog 47 #[.agg #[.slice A0_0 l0_0.length c0_0, .slice A0_1 l0_1.length c0_1]] w fun e w' => e = .returned (.bool r) ∧ Below w.heap.size w w' := by
 have hu49 := Try.underlying49
 have HR0_0 := aM_ hr0_0
 have HC0_0 := aM_ hc0_0
 clear hr0_0 hc0_0
 have HR0_1 := aM_ hr0_1
 have HC0_1 := aM_ hc0_1
 clear hr0_1 hc0_1
 have HB := aM_ (Below.refl w.heap.size w)
 have H : (impl_ProgOk.l0 k l0_1 (l0_1.length : Int) 0 l0_0 l0_1) = some r := h
 clear h
 have H' := aM_ H
 clear H
 go_enter Try.func47, Try.ntmps47
 go_wp2_with (first | ((with_reducible refine gate_dst (N := 1) rfl ?_); (try (refine gate_guard (by rfl) ?_; dsimp only)); refine bX_ 1 (cs := #[.slice A0_0 l0_0.length c0_0, .slice A0_1 l0_1.length c0_1]) (t := 49) ?_; intro gb270 hg w2 hbox hb; have n0 := aM_ (sT_ HB.out hb); have n1 := aM_ (hbox); have n2 := aM_ (sZ_ hg HB.out); have n3 := aM_ (sZ_ hg HB.out); clear HB; have HB := n0; have BK270 := n1; have GW270 := n2; have GE270 := n3; clear n0 n1 n2 n3; clear hb hbox hg; obtain ⟨hcz3_0, hcz3_1, hfz3_0, hfz3_1⟩ := bR2_ BK270.out))
 go_loopg [8] k (fun kq v8 w' => ∃ (x8_1 : Int), v8 = .int .i64 x8_1 ∧ Aside0 (impl_ProgOk.l0 kq l0_1 (l0_1.length : Int) x8_1 l0_0 l0_1 = some r) ∧ Aside0 (kq ≤ k) ∧ Aside0 (w'.heap[gb270]? = some (.cells #[(.slice A0_0 l0_0.length c0_0), (.slice A0_1 l0_1.length c0_1)] 49 (0, 0))) ∧ Aside0 (Below w.heap.size w w'))
 case atStart => exact ⟨(0), (by first | rfl | (simp; done) | (simp [*]; done)), H', ⟨Nat.le_refl _⟩, ⟨rW_ BK270.out⟩, ⟨gW_ HB.out⟩⟩
 case round =>
  clear H'
  try clear p2
  try clear hcz3_0
  try clear hcz3_1
  try clear hfz3_0
  try clear hfz3_1
  obtain ⟨x8_1, rfl, HA, HK1, BK270, HB⟩ := hrel
  cases gk with
  | zero => exact absurd HA.out (by simp [impl_ProgOk.l0])
  | succ k1 =>
   have H := HA.out
   clear HA
   simp only [impl_ProgOk.l0] at H
   by_cases c4 : x8_1 < (l0_1.length : Int)
   ·rw [if_pos c4] at H
    have c4b0 : decide (x8_1 < (l0_1.length : Int)) = true := decide_eq_true c4
    clear c4
    by_cases c5 : 0 ≤ x8_1
    ·rw [if_pos c5] at H
     have c5b0 : decide (0 ≤ x8_1) = true := decide_eq_true c5
     clear c5
     by_cases c6 : x8_1 < (l0_1.length : Int)
     ·rw [if_pos c6] at H
      have c6b0 : decide (x8_1 < (l0_1.length : Int)) = true := decide_eq_true c6
      clear c6
      replace H := Option.bind_eq_some_iff.mp H
      obtain ⟨t272, A70, H⟩ := H
      replace H : (if t272 = true then (impl_ProgOk.l0 k1 l0_1 (l0_1.length : Int) (wrap64 (x8_1 + 1)) l0_0 l0_1) else (some false)) = some r := H
      have A7 := aM_ A70
      clear A70
      by_cases c8 : t272 = true
      ·subst c8
       have H1 : (impl_ProgOk.l0 k1 l0_1 (l0_1.length : Int) (wrap64 (x8_1 + 1)) l0_0 l0_1) = some r := by rw [if_pos rfl] at H; exact H
       clear H
       have H := H1
       clear H1
       have H' := aM_ H
       clear H
       have p271 : 0 ≤ (x8_1 : Int) := of_decide_eq_true (by first | (with_reducible assumption) | assumption)
       have q271 : x8_1 < (l0_1.length : Int) := of_decide_eq_true (by first | (with_reducible assumption) | assumption)
       obtain ⟨ad271, A271_0, c271_0, e271, hx271_0, hl271_0, hi271_0⟩ := at_L9 HR0_1.out x8_1 p271 q271
       cases e271
       replace hx271_0 := cB_ HB.out hx271_0
       have HR271_0 := aM_ hi271_0
       have HC271_0 := aM_ hl271_0
       clear hi271_0 hl271_0
       replace p271 := eq_true p271
       replace q271 := eq_true q271
       obtain ⟨hcz9_0, hcz9_1, hfz9_0, hfz9_1⟩ := bR2_ BK270.out
       go_wp2_with (first | ((with_reducible refine gate_callee (f := 79) rfl ?_); refine gL_ (some 16) Try.func79 #[.slice A271_0 (rd_L9 l0_1 x8_1).length c271_0, .int .i64 (l0_0.length : Int)] ?_; (with_reducible refine (impl_BodyOk.calls k1 _ _ (rd_L9 l0_1 x8_1) (l0_0.length : Int) true _ ?side1 ?side2 A7.out).mono ?_); (case side1 => exact cS_ (Kd.C_below HR271_0.out HB.out)); (case side2 => exact HC271_0.out); rintro e w10 ⟨rfl, hb⟩; refine ⟨_, rfl, ?_⟩; have n0 := aM_ (nB_ BK270.out hb); have n1 := aM_ (sT_ HB.out hb); clear BK270; clear HB; have BK270 := n0; have HB := n1; clear n0 n1))
       go_roundg k1
       case measure => have := HK1.out; omega
       case rel => exact ⟨(wrap64 (x8_1 + 1)), (by first | rfl | (simp; done) | (simp [*]; done)), H', ⟨by have := HK1.out; omega⟩, ⟨rW_ BK270.out⟩, ⟨gW_ HB.out⟩⟩
      ·replace c8 := Bool.eq_false_iff.mpr c8
       subst c8
       have H1 : (some false) = some r := by rw [if_neg (show ¬ (false = true) by decide)] at H; exact H
       clear H
       have H := H1
       clear H1
       obtain rfl := Option.some.inj H
       have p271 : 0 ≤ (x8_1 : Int) := of_decide_eq_true (by first | (with_reducible assumption) | assumption)
       have q271 : x8_1 < (l0_1.length : Int) := of_decide_eq_true (by first | (with_reducible assumption) | assumption)
       obtain ⟨ad271, A271_0, c271_0, e271, hx271_0, hl271_0, hi271_0⟩ := at_L9 HR0_1.out x8_1 p271 q271
       cases e271
       replace hx271_0 := cB_ HB.out hx271_0
       have HR271_0 := aM_ hi271_0
       have HC271_0 := aM_ hl271_0
       clear hi271_0 hl271_0
       replace p271 := eq_true p271
       replace q271 := eq_true q271
       obtain ⟨hcz11_0, hcz11_1, hfz11_0, hfz11_1⟩ := bR2_ BK270.out
       go_wp2_with (first | ((with_reducible refine gate_callee (f := 79) rfl ?_); refine gL_ (some 16) Try.func79 #[.slice A271_0 (rd_L9 l0_1 x8_1).length c271_0, .int .i64 (l0_0.length : Int)] ?_; (with_reducible refine (impl_BodyOk.calls k1 _ _ (rd_L9 l0_1 x8_1) (l0_0.length : Int) false _ ?side1 ?side2 A7.out).mono ?_); (case side1 => exact cS_ (Kd.C_below HR271_0.out HB.out)); (case side2 => exact HC271_0.out); rintro e w12 ⟨rfl, hb⟩; refine ⟨_, rfl, ?_⟩; have n0 := aM_ (nB_ BK270.out hb); have n1 := aM_ (sT_ HB.out hb); clear BK270; clear HB; have BK270 := n0; have HB := n1; clear n0 n1))
       go_ret
       exact fI_ HB.out
     ·rw [if_neg c6] at H
      exact absurd H (by simp)
    ·rw [if_neg c5] at H
     exact absurd H (by simp)
   ·rw [if_neg c4] at H
    have c4b0 : decide (x8_1 < (l0_1.length : Int)) = false := decide_eq_false c4
    clear c4
    by_cases c13 : (l0_0.length : Int) ≤ 3
    ·rw [if_pos c13] at H
     have c13b0 : decide ((l0_0.length : Int) ≤ 3) = true := decide_eq_true c13
     have c13b1 : decide (l0_0.length ≤ 3) = true := decide_eq_true (by omega)
     clear c13
     replace H := Option.bind_eq_some_iff.mp H
     obtain ⟨t273, A140, H⟩ := H
     replace H : (if t273 = true then ((impl_within.f (l0_1.length : Int) 1 4).bind fun t274 => (some t274)) else (some false)) = some r := H
     have A14 := aM_ A140
     clear A140
     by_cases c15 : t273 = true
     ·subst c15
      have H1 : ((impl_within.f (l0_1.length : Int) 1 4).bind fun t274 => (some t274)) = some r := by rw [if_pos rfl] at H; exact H
      clear H
      have H := H1
      clear H1
      replace H := Option.bind_eq_some_iff.mp H
      obtain ⟨t274, A160, H⟩ := H
      replace H : (some t274) = some r := H
      have A16 := aM_ A160
      clear A160
      obtain rfl := Option.some.inj H
      obtain ⟨hcz17_0, hcz17_1, hfz17_0, hfz17_1⟩ := bR2_ BK270.out
      go_wp2_with (first | (go_at_call 69; (with_reducible refine (impl_capsOk.calls k1 _ _ l0_0 true _ ?side1 ?side2 A14.out).mono ?_); (case side1 => exact cS_ (Kd.C_below HR0_0.out HB.out)); (case side2 => exact HC0_0.out); rintro e w' ⟨rfl, ⟨nd, rfl⟩⟩) | (go_at_call 49; (with_reducible refine (impl_within.calls (l0_1.length : Int) 1 4 t274 _ A16.out).mono ?_); rintro e w' ⟨rfl, ⟨nd, rfl⟩⟩))
      go_ret
      exact fI_ HB.out
     ·replace c15 := Bool.eq_false_iff.mpr c15
      subst c15
      have H1 : (some false) = some r := by rw [if_neg (show ¬ (false = true) by decide)] at H; exact H
      clear H
      have H := H1
      clear H1
      obtain rfl := Option.some.inj H
      obtain ⟨hcz18_0, hcz18_1, hfz18_0, hfz18_1⟩ := bR2_ BK270.out
      go_wp2_with (first | (go_at_call 69; (with_reducible refine (impl_capsOk.calls k1 _ _ l0_0 false _ ?side1 ?side2 A14.out).mono ?_); (case side1 => exact cS_ (Kd.C_below HR0_0.out HB.out)); (case side2 => exact HC0_0.out); rintro e w' ⟨rfl, ⟨nd, rfl⟩⟩))
      go_ret
      exact fI_ HB.out
    ·rw [if_neg c13] at H
     have c13b0 : decide ((l0_0.length : Int) ≤ 3) = false := decide_eq_false c13
     have c13b1 : decide (l0_0.length ≤ 3) = false := decide_eq_false (by omega)
     clear c13
     obtain rfl := Option.some.inj H
     obtain ⟨hcz19_0, hcz19_1, hfz19_0, hfz19_1⟩ := bR2_ BK270.out
     go_wp2
     go_ret
     exact fI_ HB.out
def impl_notesOk.l0 : Nat → List (S93) → Int → List (S93) → Int → Int → Option (Bool)
  | 0, _, _, _, _, _ => none
  | k + 1, x0, x1, x7, x8, x9 => if x9 < x8 then (if 0 ≤ x9 then (if x9 < (x7.length : Int) then ((impl_within.f ((rd_T93 x7 x9).f0) 0 (wrap64 (x1 - 1))).bind fun t277 => (if t277 = true then (impl_notesOk.l0 k x0 x1 x7 x8 (wrap64 (x9 + 1))) else (some false))) else (none)) else (none)) else (some (decide ((x0.length : Int) ≤ 4000)))
def impl_notesOk.f (k : Nat) (l0 : List (S93)) (a1 : Int) : Option (Bool) := impl_notesOk.l0 k l0 a1 l0 (l0.length : Int) 0
set_option maxHeartbeats 8000000 in
set_option maxRecDepth 100000 in
theorem impl_notesOk.calls (k : Nat) (A0 : Option Addr) (c0 : Nat) (l0 : List (S93)) (a1 : Int) (r : Bool) (w : World) (hr0 : Kd.C k93 w A0 l0.length l0) (hc0 : l0.length ≤ c0) (h : impl_notesOk.f k l0 a1 = some r) :
  Calls Try.prog 48 #[.slice A0 l0.length c0, .int .i64 a1] w fun e w' => e = .returned (.bool r) ∧ Below w.heap.size w w' := by
 have hu93 := Try.underlying93
 have HR0 := aM_ hr0
 have HC0 := aM_ hc0
 clear hr0 hc0
 have HB := aM_ (Below.refl w.heap.size w)
 have H : (impl_notesOk.l0 k l0 a1 l0 (l0.length : Int) 0) = some r := h
 clear h
 have H' := aM_ H
 clear H
 go_enter Try.func48, Try.ntmps48
 go_wp2
 go_loopg [9] k (fun kq v9 w' => ∃ (x9_1 : Int), v9 = .int .i64 x9_1 ∧ Aside0 (impl_notesOk.l0 kq l0 a1 l0 (l0.length : Int) x9_1 = some r) ∧ Aside0 (kq ≤ k) ∧ Aside0 (Below w.heap.size w w'))
 case atStart => exact ⟨(0), (by first | rfl | (simp; done) | (simp [*]; done)), H', ⟨Nat.le_refl _⟩, ⟨gW_ HB.out⟩⟩
 case round =>
  clear H'
  try clear p2
  obtain ⟨x9_1, rfl, HA, HK1, HB⟩ := hrel
  cases gk with
  | zero => exact absurd HA.out (by simp [impl_notesOk.l0])
  | succ k1 =>
   have H := HA.out
   clear HA
   simp only [impl_notesOk.l0] at H
   by_cases c3 : x9_1 < (l0.length : Int)
   ·rw [if_pos c3] at H
    have c3b0 : decide (x9_1 < (l0.length : Int)) = true := decide_eq_true c3
    clear c3
    by_cases c4 : 0 ≤ x9_1
    ·rw [if_pos c4] at H
     have c4b0 : decide (0 ≤ x9_1) = true := decide_eq_true c4
     clear c4
     by_cases c5 : x9_1 < (l0.length : Int)
     ·rw [if_pos c5] at H
      have c5b0 : decide (x9_1 < (l0.length : Int)) = true := decide_eq_true c5
      clear c5
      replace H := Option.bind_eq_some_iff.mp H
      obtain ⟨t277, A60, H⟩ := H
      replace H : (if t277 = true then (impl_notesOk.l0 k1 l0 a1 l0 (l0.length : Int) (wrap64 (x9_1 + 1))) else (some false)) = some r := H
      have A6 := aM_ A60
      clear A60
      by_cases c7 : t277 = true
      ·subst c7
       have H1 : (impl_notesOk.l0 k1 l0 a1 l0 (l0.length : Int) (wrap64 (x9_1 + 1))) = some r := by rw [if_pos rfl] at H; exact H
       clear H
       have H := H1
       clear H1
       have H' := aM_ H
       clear H
       have p275 : 0 ≤ (x9_1 : Int) := of_decide_eq_true (by first | (with_reducible assumption) | assumption)
       have q275 : x9_1 < (l0.length : Int) := of_decide_eq_true (by first | (with_reducible assumption) | assumption)
       obtain ⟨ad275, e275, hx275_0, hx275_1⟩ := at_T93 HR0.out x9_1 p275 q275
       cases e275
       replace hx275_0 := cB_ HB.out hx275_0
       replace hx275_1 := cB_ HB.out hx275_1
       replace p275 := eq_true p275
       replace q275 := eq_true q275
       go_wp2_with (first | ((with_reducible refine gate_dst (N := 6) rfl ?_); refine bX_ 6 (cs := #[.int .i64 0, .int .i64 0]) (t := 93) ?_; intro gb276 hg w8 hbox hb; have n0 := aM_ (sT_ HB.out hb); have n1 := aM_ (hbox); have n2 := aM_ (sZ_ hg HB.out); have n3 := aM_ (sZ_ hg HB.out); clear HB; have HB := n0; have BK276 := n1; have GW276 := n2; have GE276 := n3; clear n0 n1 n2 n3; clear hb hbox hg; obtain ⟨hcz9_0, hcz9_1, hfz9_0, hfz9_1⟩ := bR2_ BK276.out) | ((with_reducible refine gate_callee (f := 49) rfl ?_); refine gL_ (some 17) Try.func49 #[.int .i64 ((rd_T93 l0 x9_1).f0), .int .i64 0, .int .i64 (wrap64 (a1 - 1))] ?_; (with_reducible refine (impl_within.calls ((rd_T93 l0 x9_1).f0) 0 (wrap64 (a1 - 1)) true _ A6.out).mono ?_); rintro e w' ⟨rfl, ⟨nd, rfl⟩⟩; refine ⟨_, rfl, ?_⟩))
       go_roundg k1
       case measure => have := HK1.out; omega
       case rel => exact ⟨(wrap64 (x9_1 + 1)), (by first | rfl | (simp; done) | (simp [*]; done)), H', ⟨by have := HK1.out; omega⟩, ⟨gW_ HB.out⟩⟩
      ·replace c7 := Bool.eq_false_iff.mpr c7
       subst c7
       have H1 : (some false) = some r := by rw [if_neg (show ¬ (false = true) by decide)] at H; exact H
       clear H
       have H := H1
       clear H1
       obtain rfl := Option.some.inj H
       have p275 : 0 ≤ (x9_1 : Int) := of_decide_eq_true (by first | (with_reducible assumption) | assumption)
       have q275 : x9_1 < (l0.length : Int) := of_decide_eq_true (by first | (with_reducible assumption) | assumption)
       obtain ⟨ad275, e275, hx275_0, hx275_1⟩ := at_T93 HR0.out x9_1 p275 q275
       cases e275
       replace hx275_0 := cB_ HB.out hx275_0
       replace hx275_1 := cB_ HB.out hx275_1
       replace p275 := eq_true p275
       replace q275 := eq_true q275
       go_wp2_with (first | ((with_reducible refine gate_dst (N := 6) rfl ?_); refine bX_ 6 (cs := #[.int .i64 0, .int .i64 0]) (t := 93) ?_; intro gb276 hg w10 hbox hb; have n0 := aM_ (sT_ HB.out hb); have n1 := aM_ (hbox); have n2 := aM_ (sZ_ hg HB.out); have n3 := aM_ (sZ_ hg HB.out); clear HB; have HB := n0; have BK276 := n1; have GW276 := n2; have GE276 := n3; clear n0 n1 n2 n3; clear hb hbox hg; obtain ⟨hcz11_0, hcz11_1, hfz11_0, hfz11_1⟩ := bR2_ BK276.out) | ((with_reducible refine gate_callee (f := 49) rfl ?_); refine gL_ (some 17) Try.func49 #[.int .i64 ((rd_T93 l0 x9_1).f0), .int .i64 0, .int .i64 (wrap64 (a1 - 1))] ?_; (with_reducible refine (impl_within.calls ((rd_T93 l0 x9_1).f0) 0 (wrap64 (a1 - 1)) false _ A6.out).mono ?_); rintro e w' ⟨rfl, ⟨nd, rfl⟩⟩; refine ⟨_, rfl, ?_⟩))
       go_ret
       exact fI_ HB.out
     ·rw [if_neg c5] at H
      exact absurd H (by simp)
    ·rw [if_neg c4] at H
     exact absurd H (by simp)
   ·rw [if_neg c3] at H
    have c3b0 : decide (x9_1 < (l0.length : Int)) = false := decide_eq_false c3
    clear c3
    obtain rfl := Option.some.inj H
    go_wp2
    go_ret
    exact fI_ HB.out
def impl_ChanOk.f (a0_0 : Int) (l0_1 : List Int) (a0_2 : Bool) : Option (Bool) := (impl_within.f a0_0 1 4).bind fun t279 => (if t279 = true then (some (decide ((l0_1.length : Int) ≤ a0_0))) else (some false))
set_option maxHeartbeats 8000000 in
set_option maxRecDepth 100000 in
theorem impl_ChanOk.calls (a0_0 : Int) (A0_1 : Option Addr) (c0_1 : Nat) (l0_1 : List Int) (a0_2 : Bool) (r : Bool) (w : World) (hr0_1 : Kd.C (Kd.int .i64) w A0_1 l0_1.length l0_1) (hc0_1 : l0_1.length ≤ c0_1) (h : impl_ChanOk.f a0_0 l0_1 a0_2 = some r) :
  Calls Try.prog 50 #[.agg #[.int .i64 a0_0, .slice A0_1 l0_1.length c0_1, .bool a0_2]] w fun e w' => e = .returned (.bool r) ∧ Below w.heap.size w w' := by
 have hu91 := Try.underlying91
 have HR0_1 := aM_ hr0_1
 have HC0_1 := aM_ hc0_1
 clear hr0_1 hc0_1
 have HB := aM_ (Below.refl w.heap.size w)
 have H : ((impl_within.f a0_0 1 4).bind fun t279 => (if t279 = true then (some (decide ((l0_1.length : Int) ≤ a0_0))) else (some false))) = some r := h
 clear h
 replace H := Option.bind_eq_some_iff.mp H
 obtain ⟨t279, A20, H⟩ := H
 replace H : (if t279 = true then (some (decide ((l0_1.length : Int) ≤ a0_0))) else (some false)) = some r := H
 have A2 := aM_ A20
 clear A20
 by_cases c3 : t279 = true
 ·subst c3
  have H1 : (some (decide ((l0_1.length : Int) ≤ a0_0))) = some r := by rw [if_pos rfl] at H; exact H
  clear H
  have H := H1
  clear H1
  obtain rfl := Option.some.inj H
  go_enter Try.func50, Try.ntmps50
  go_wp2_with (first | ((with_reducible refine gate_dst (N := 1) rfl ?_); (try (refine gate_guard (by rfl) ?_; dsimp only)); refine bX_ 1 (cs := #[.int .i64 a0_0, .slice A0_1 l0_1.length c0_1, .bool a0_2]) (t := 91) ?_; intro gb278 hg w4 hbox hb; have n0 := aM_ (sT_ HB.out hb); have n1 := aM_ (hbox); have n2 := aM_ (sZ_ hg HB.out); have n3 := aM_ (sZ_ hg HB.out); clear HB; have HB := n0; have BK278 := n1; have GW278 := n2; have GE278 := n3; clear n0 n1 n2 n3; clear hb hbox hg; obtain ⟨hcz5_0, hcz5_1, hcz5_2, hfz5_0, hfz5_1, hfz5_2⟩ := bR3_ BK278.out) | ((with_reducible refine gate_callee (f := 49) rfl ?_); refine gL_ (some 5) Try.func49 #[.int .i64 a0_0, .int .i64 1, .int .i64 4] ?_; (with_reducible refine (impl_within.calls a0_0 1 4 true _ A2.out).mono ?_); rintro e w' ⟨rfl, ⟨nd, rfl⟩⟩; refine ⟨_, rfl, ?_⟩))
  go_ret
  exact fI_ HB.out
 ·replace c3 := Bool.eq_false_iff.mpr c3
  subst c3
  have H1 : (some false) = some r := by rw [if_neg (show ¬ (false = true) by decide)] at H; exact H
  clear H
  have H := H1
  clear H1
  obtain rfl := Option.some.inj H
  go_enter Try.func50, Try.ntmps50
  go_wp2_with (first | ((with_reducible refine gate_dst (N := 1) rfl ?_); (try (refine gate_guard (by rfl) ?_; dsimp only)); refine bX_ 1 (cs := #[.int .i64 a0_0, .slice A0_1 l0_1.length c0_1, .bool a0_2]) (t := 91) ?_; intro gb278 hg w6 hbox hb; have n0 := aM_ (sT_ HB.out hb); have n1 := aM_ (hbox); have n2 := aM_ (sZ_ hg HB.out); have n3 := aM_ (sZ_ hg HB.out); clear HB; have HB := n0; have BK278 := n1; have GW278 := n2; have GE278 := n3; clear n0 n1 n2 n3; clear hb hbox hg; obtain ⟨hcz7_0, hcz7_1, hcz7_2, hfz7_0, hfz7_1, hfz7_2⟩ := bR3_ BK278.out) | ((with_reducible refine gate_callee (f := 49) rfl ?_); refine gL_ (some 5) Try.func49 #[.int .i64 a0_0, .int .i64 1, .int .i64 4] ?_; (with_reducible refine (impl_within.calls a0_0 1 4 false _ A2.out).mono ?_); rintro e w' ⟨rfl, ⟨nd, rfl⟩⟩; refine ⟨_, rfl, ?_⟩))
  go_ret
  exact fI_ HB.out
end Go.Proofs.Ytfaoipojijhlbaa.PFnExactSourceOk
