/- A part of the proof that the law FnExactSourceNew holds for every input: the words, functions and walks that its row needs, without a condition of their own. -/
import Derived.Test.YtobachfngmpeiaaZFnExactSourceNewa2
import Derived.Test.YtobachfngmpeiaaZFnExactSourceNewa6
import Derived.Test.YtobachfngmpeiaaZFnExactSourceNewa8
import Derived.Test.YtobachfngmpeiaaZFnExactSourceNews
namespace Go.Proofs.Ytobachfngmpeiaa.PFnExactSourceNew
open Go.RowKit Go.Proofs.YtobachfngmpeiaaW.PrintWords Go.Proofs.YtobachfngmpeiaaW.PrintLast Go.Proofs.YtobachfngmpeiaaW.PrintMore
attribute [local go_sem] max2_int min2_int max_two min_two max_three min_three max_four min_four   -- for this text's walks alone
set_option linter.unusedVariables false
set_option linter.unusedSimpArgs false
mutual
def impl_BodyOk.j0 : Nat → List (S192) → Int → Bool → Option (Bool)
  | 0, _, _, _ => none
  | k + 1, x0, x1, x16 => if x16 = true then (some false) else (impl_BodyOk.l0 k x0 x1 x0 (x0.length : Int) 0)
def impl_BodyOk.l0 : Nat → List (S192) → Int → List (S192) → Int → Int → Option (Bool)
  | 0, _, _, _, _, _ => none
  | k + 1, x0, x1, x17, x18, x19 => if x19 < x18 then (if 0 ≤ x19 then (if x19 < (x17.length : Int) then ((impl_InsOk.f k ((rd_T192 x17 x19).f0) ((rd_T192 x17 x19).f1) ((rd_T192 x17 x19).f2) ((rd_T192 x17 x19).f3) ((rd_T192 x17 x19).f4) (x0.length : Int) x1).bind fun t201 => (if t201 = true then (impl_BodyOk.l0 k x0 x1 x17 x18 (wrap64 (x19 + 1))) else (some false))) else (none)) else (none)) else (if 0 ≤ (wrap64 ((x0.length : Int) - 1)) then (if (wrap64 ((x0.length : Int) - 1)) < (x0.length : Int) then (if ((rd_T192 x0 (wrap64 ((x0.length : Int) - 1))).f0) = 13 then (some true) else (some (((rd_T192 x0 (wrap64 ((x0.length : Int) - 1))).f0) == 11))) else (none)) else (none))
end
def impl_BodyOk.f (k : Nat) (l0 : List (S192)) (a1 : Int) : Option (Bool) := (impl_within.f a1 0 3).bind fun t196 => (if t196 = true then ((impl_within.f (l0.length : Int) 1 24).bind fun t197 => (impl_BodyOk.j0 k l0 a1 (!t197))) else (impl_BodyOk.j0 k l0 a1 true))
set_option maxHeartbeats 8000000 in
set_option maxRecDepth 100000 in
theorem impl_BodyOk.calls (k : Nat) (A0 : Option Addr) (c0 : Nat) (l0 : List (S192)) (a1 : Int) (r : Bool) (w : World) (hr0 : Kd.C k192 w A0 l0.length l0) (hc0 : l0.length ≤ c0) (h : impl_BodyOk.f k l0 a1 = some r) :
  Calls Try.prog 126 #[.slice A0 l0.length c0, .int .i64 a1] w fun e w' => e = .returned (.bool r) ∧ Below w.heap.size w w' := by
 have hu192 := Try.underlying192
 have HR0 := aM_ hr0
 have HC0 := aM_ hc0
 clear hr0 hc0
 have HB := aM_ (Below.refl w.heap.size w)
 have H : ((impl_within.f a1 0 3).bind fun t196 => (if t196 = true then ((impl_within.f (l0.length : Int) 1 24).bind fun t197 => (impl_BodyOk.j0 k l0 a1 (!t197))) else (impl_BodyOk.j0 k l0 a1 true))) = some r := h
 clear h
 have HC3 := aM_ H
 clear H
 go_enter Try.func126, Try.ntmps126
 go_upto_region 1 with (fail)
 go_cut [16] (fun v16 wc => ∃ (kq : Nat) (x16_2 : Bool), v16 = .bool x16_2 ∧ Aside0 (impl_BodyOk.j0 kq l0 a1 x16_2 = some r) ∧ Aside0 (kq ≤ k) ∧ Aside0 (Below w.heap.size w wc))
 case first =>
  have H := HC3.out
  clear HC3
  replace H := Option.bind_eq_some_iff.mp H
  obtain ⟨t196, A40, H⟩ := H
  replace H : (if t196 = true then ((impl_within.f (l0.length : Int) 1 24).bind fun t197 => (impl_BodyOk.j0 k l0 a1 (!t197))) else (impl_BodyOk.j0 k l0 a1 true)) = some r := H
  have A4 := aM_ A40
  clear A40
  by_cases c5 : t196 = true
  ·subst c5
   have H1 : ((impl_within.f (l0.length : Int) 1 24).bind fun t197 => (impl_BodyOk.j0 k l0 a1 (!t197))) = some r := by rw [if_pos rfl] at H; exact H
   clear H
   have H := H1
   clear H1
   replace H := Option.bind_eq_some_iff.mp H
   obtain ⟨t197, A60, H⟩ := H
   replace H : (impl_BodyOk.j0 k l0 a1 (!t197)) = some r := H
   have A6 := aM_ A60
   clear A60
   have H' := aM_ H
   clear H
   go_wp2_with (first | ((with_reducible refine gate_callee (f := 106) rfl ?_); refine gL_ (some 9) Try.func106 #[.int .i64 a1, .int .i64 0, .int .i64 3] ?_; (with_reducible refine (impl_within.calls a1 0 3 true _ A4.out).mono ?_); rintro e w' ⟨rfl, ⟨nd, rfl⟩⟩; refine ⟨_, rfl, ?_⟩) | (go_at_call 106; (with_reducible refine (impl_within.calls (l0.length : Int) 1 24 t197 _ A6.out).mono ?_); rintro e w' ⟨rfl, ⟨nd, rfl⟩⟩))
   go_meet
   case rel => exact ⟨_, (!t197), (by first | rfl | (simp; done) | (simp [*]; done)), H', ⟨by first | omega | exact Nat.le_refl _⟩, ⟨gW_ HB.out⟩⟩
  ·replace c5 := Bool.eq_false_iff.mpr c5
   subst c5
   have H1 : (impl_BodyOk.j0 k l0 a1 true) = some r := by rw [if_neg (show ¬ (false = true) by decide)] at H; exact H
   clear H
   have H := H1
   clear H1
   have H' := aM_ H
   clear H
   go_wp2_with (first | ((with_reducible refine gate_callee (f := 106) rfl ?_); refine gL_ (some 9) Try.func106 #[.int .i64 a1, .int .i64 0, .int .i64 3] ?_; (with_reducible refine (impl_within.calls a1 0 3 false _ A4.out).mono ?_); rintro e w' ⟨rfl, ⟨nd, rfl⟩⟩; refine ⟨_, rfl, ?_⟩))
   go_meet
   case rel => exact ⟨_, (true), (by first | rfl | (simp; done) | (simp [*]; done)), H', ⟨by first | omega | exact Nat.le_refl _⟩, ⟨gW_ HB.out⟩⟩
 case rest =>
  clear HC3
  try clear c1
  try clear p2
  try clear c5
  obtain ⟨kq, x16_2, rfl, HA, HJ2, HB⟩ := hcut
  cases kq with
  | zero => exact absurd HA.out (by simp [impl_BodyOk.j0])
  | succ kj2 =>
   have H := HA.out
   clear HA
   simp only [impl_BodyOk.j0] at H
   by_cases c7 : x16_2 = true
   ·subst c7
    have H1 : (some false) = some r := by rw [if_pos rfl] at H; exact H
    clear H
    have H := H1
    clear H1
    obtain rfl := Option.some.inj H
    go_wp2
    go_ret
    exact fI_ HB.out
   ·replace c7 := Bool.eq_false_iff.mpr c7
    subst c7
    have H1 : (impl_BodyOk.l0 kj2 l0 a1 l0 (l0.length : Int) 0) = some r := by rw [if_neg (show ¬ (false = true) by decide)] at H; exact H
    clear H
    have H := H1
    clear H1
    have H' := aM_ H
    clear H
    go_wp2
    go_loopg [19] kj2 (fun kq v19 w' => ∃ (x19_2 : Int), v19 = .int .i64 x19_2 ∧ Aside0 (impl_BodyOk.l0 kq l0 a1 l0 (l0.length : Int) x19_2 = some r) ∧ Aside0 (kq ≤ kj2) ∧ Aside0 (Below w.heap.size w w'))
    case atStart => exact ⟨(0), (by first | rfl | (simp; done) | (simp [*]; done)), H', ⟨Nat.le_refl _⟩, ⟨gW_ HB.out⟩⟩
    case round =>
     clear H'
     try clear c1
     try clear p2
     try clear c5
     try clear c7
     try clear p2
     obtain ⟨x19_2, rfl, HA, HK2, HB⟩ := hrel
     cases gk with
     | zero => exact absurd HA.out (by simp [impl_BodyOk.l0])
     | succ k2 =>
      have H := HA.out
      clear HA
      simp only [impl_BodyOk.l0] at H
      by_cases c8 : x19_2 < (l0.length : Int)
      ·rw [if_pos c8] at H
       have c8b0 : decide (x19_2 < (l0.length : Int)) = true := decide_eq_true c8
       clear c8
       by_cases c9 : 0 ≤ x19_2
       ·rw [if_pos c9] at H
        have c9b0 : decide (0 ≤ x19_2) = true := decide_eq_true c9
        clear c9
        by_cases c10 : x19_2 < (l0.length : Int)
        ·rw [if_pos c10] at H
         have c10b0 : decide (x19_2 < (l0.length : Int)) = true := decide_eq_true c10
         clear c10
         replace H := Option.bind_eq_some_iff.mp H
         obtain ⟨t201, A110, H⟩ := H
         replace H : (if t201 = true then (impl_BodyOk.l0 k2 l0 a1 l0 (l0.length : Int) (wrap64 (x19_2 + 1))) else (some false)) = some r := H
         have A11 := aM_ A110
         clear A110
         by_cases c12 : t201 = true
         ·subst c12
          have H1 : (impl_BodyOk.l0 k2 l0 a1 l0 (l0.length : Int) (wrap64 (x19_2 + 1))) = some r := by rw [if_pos rfl] at H; exact H
          clear H
          have H := H1
          clear H1
          have H' := aM_ H
          clear H
          have p199 : 0 ≤ (x19_2 : Int) := of_decide_eq_true (by first | (with_reducible assumption) | assumption)
          have q199 : x19_2 < (l0.length : Int) := of_decide_eq_true (by first | (with_reducible assumption) | assumption)
          obtain ⟨ad199, e199, hx199_0, hx199_1, hx199_2, hx199_3, hx199_4⟩ := at_T192 HR0.out x19_2 p199 q199
          cases e199
          replace hx199_0 := cB_ HB.out hx199_0
          replace hx199_1 := cB_ HB.out hx199_1
          replace hx199_2 := cB_ HB.out hx199_2
          replace hx199_3 := cB_ HB.out hx199_3
          replace hx199_4 := cB_ HB.out hx199_4
          replace p199 := eq_true p199
          replace q199 := eq_true q199
          go_wp2_with (first | ((with_reducible refine gate_dst (N := 6) rfl ?_); (try (refine gate_guard (by rfl) ?_; dsimp only)); refine bX_ 6 (cs := #[.int .i64 0, .int .i64 0, .int .i64 0, .int .i64 0, .int .i64 0]) (t := 192) ?_; intro gb200 hg w13 hbox hb; have n0 := aM_ (sT_ HB.out hb); have n1 := aM_ (hbox); have n2 := aM_ (sZ_ hg HB.out); have n3 := aM_ (sZ_ hg HB.out); clear HB; have HB := n0; have BK200 := n1; have GW200 := n2; have GE200 := n3; clear n0 n1 n2 n3; clear hb hbox hg; obtain ⟨hcz14_0, hcz14_1, hcz14_2, hcz14_3, hcz14_4, hfz14_0, hfz14_1, hfz14_2, hfz14_3, hfz14_4⟩ := bR5_ BK200.out) | ((with_reducible refine gate_callee (f := 164) rfl ?_); refine gL_ (some 27) Try.func164 #[.agg #[.int .i64 ((rd_T192 l0 x19_2).f0), .int .i64 ((rd_T192 l0 x19_2).f1), .int .i64 ((rd_T192 l0 x19_2).f2), .int .i64 ((rd_T192 l0 x19_2).f3), .int .i64 ((rd_T192 l0 x19_2).f4)], .int .i64 (l0.length : Int), .int .i64 a1] ?_; (with_reducible refine (impl_InsOk.calls k2 ((rd_T192 l0 x19_2).f0) ((rd_T192 l0 x19_2).f1) ((rd_T192 l0 x19_2).f2) ((rd_T192 l0 x19_2).f3) ((rd_T192 l0 x19_2).f4) (l0.length : Int) a1 true _ A11.out).mono ?_); rintro e w15 ⟨rfl, hb⟩; refine ⟨_, rfl, ?_⟩; have n0 := aM_ (blk_below (g := gb200) (o := .cells #[.int .i64 ((rd_T192 l0 x19_2).f0), .int .i64 ((rd_T192 l0 x19_2).f1), .int .i64 ((rd_T192 l0 x19_2).f2), .int .i64 ((rd_T192 l0 x19_2).f3), .int .i64 ((rd_T192 l0 x19_2).f4)] 192 (0, 0)) (by (with_reducible repeat (first | refine bN_ ?_ _ | refine bD_ ?_ | refine bA_ ?_ _)); refine blk_put (cs := #[.int .i64 ((rd_T192 l0 x19_2).f0), .int .i64 ((rd_T192 l0 x19_2).f1), .int .i64 ((rd_T192 l0 x19_2).f2), .int .i64 ((rd_T192 l0 x19_2).f3), .int .i64 0]) ?_ 4 _ rfl; refine blk_put (cs := #[.int .i64 ((rd_T192 l0 x19_2).f0), .int .i64 ((rd_T192 l0 x19_2).f1), .int .i64 ((rd_T192 l0 x19_2).f2), .int .i64 0, .int .i64 0]) ?_ 3 _ rfl; refine blk_put (cs := #[.int .i64 ((rd_T192 l0 x19_2).f0), .int .i64 ((rd_T192 l0 x19_2).f1), .int .i64 0, .int .i64 0, .int .i64 0]) ?_ 2 _ rfl; refine blk_put (cs := #[.int .i64 ((rd_T192 l0 x19_2).f0), .int .i64 0, .int .i64 0, .int .i64 0, .int .i64 0]) ?_ 1 _ rfl; refine blk_put (cs := #[.int .i64 0, .int .i64 0, .int .i64 0, .int .i64 0, .int .i64 0]) ?_ 0 _ rfl; exact rW_ BK200.out) hb); have n1 := aM_ (sT_ HB.out hb); clear BK200; clear HB; have BK200 := n0; have HB := n1; clear n0 n1))
          go_roundg k2
          case measure => have := HJ2.out; have := HK2.out; omega
          case rel => exact ⟨(wrap64 (x19_2 + 1)), (by first | rfl | (simp; done) | (simp [*]; done)), H', ⟨by have := HJ2.out; have := HK2.out; omega⟩, ⟨gW_ HB.out⟩⟩
         ·replace c12 := Bool.eq_false_iff.mpr c12
          subst c12
          have H1 : (some false) = some r := by rw [if_neg (show ¬ (false = true) by decide)] at H; exact H
          clear H
          have H := H1
          clear H1
          obtain rfl := Option.some.inj H
          have p199 : 0 ≤ (x19_2 : Int) := of_decide_eq_true (by first | (with_reducible assumption) | assumption)
          have q199 : x19_2 < (l0.length : Int) := of_decide_eq_true (by first | (with_reducible assumption) | assumption)
          obtain ⟨ad199, e199, hx199_0, hx199_1, hx199_2, hx199_3, hx199_4⟩ := at_T192 HR0.out x19_2 p199 q199
          cases e199
          replace hx199_0 := cB_ HB.out hx199_0
          replace hx199_1 := cB_ HB.out hx199_1
          replace hx199_2 := cB_ HB.out hx199_2
          replace hx199_3 := cB_ HB.out hx199_3
          replace hx199_4 := cB_ HB.out hx199_4
          replace p199 := eq_true p199
          replace q199 := eq_true q199
          go_wp2_with (first | ((with_reducible refine gate_dst (N := 6) rfl ?_); (try (refine gate_guard (by rfl) ?_; dsimp only)); refine bX_ 6 (cs := #[.int .i64 0, .int .i64 0, .int .i64 0, .int .i64 0, .int .i64 0]) (t := 192) ?_; intro gb200 hg w16 hbox hb; have n0 := aM_ (sT_ HB.out hb); have n1 := aM_ (hbox); have n2 := aM_ (sZ_ hg HB.out); have n3 := aM_ (sZ_ hg HB.out); clear HB; have HB := n0; have BK200 := n1; have GW200 := n2; have GE200 := n3; clear n0 n1 n2 n3; clear hb hbox hg; obtain ⟨hcz17_0, hcz17_1, hcz17_2, hcz17_3, hcz17_4, hfz17_0, hfz17_1, hfz17_2, hfz17_3, hfz17_4⟩ := bR5_ BK200.out) | ((with_reducible refine gate_callee (f := 164) rfl ?_); refine gL_ (some 27) Try.func164 #[.agg #[.int .i64 ((rd_T192 l0 x19_2).f0), .int .i64 ((rd_T192 l0 x19_2).f1), .int .i64 ((rd_T192 l0 x19_2).f2), .int .i64 ((rd_T192 l0 x19_2).f3), .int .i64 ((rd_T192 l0 x19_2).f4)], .int .i64 (l0.length : Int), .int .i64 a1] ?_; (with_reducible refine (impl_InsOk.calls k2 ((rd_T192 l0 x19_2).f0) ((rd_T192 l0 x19_2).f1) ((rd_T192 l0 x19_2).f2) ((rd_T192 l0 x19_2).f3) ((rd_T192 l0 x19_2).f4) (l0.length : Int) a1 false _ A11.out).mono ?_); rintro e w18 ⟨rfl, hb⟩; refine ⟨_, rfl, ?_⟩; have n0 := aM_ (blk_below (g := gb200) (o := .cells #[.int .i64 ((rd_T192 l0 x19_2).f0), .int .i64 ((rd_T192 l0 x19_2).f1), .int .i64 ((rd_T192 l0 x19_2).f2), .int .i64 ((rd_T192 l0 x19_2).f3), .int .i64 ((rd_T192 l0 x19_2).f4)] 192 (0, 0)) (by (with_reducible repeat (first | refine bN_ ?_ _ | refine bD_ ?_ | refine bA_ ?_ _)); refine blk_put (cs := #[.int .i64 ((rd_T192 l0 x19_2).f0), .int .i64 ((rd_T192 l0 x19_2).f1), .int .i64 ((rd_T192 l0 x19_2).f2), .int .i64 ((rd_T192 l0 x19_2).f3), .int .i64 0]) ?_ 4 _ rfl; refine blk_put (cs := #[.int .i64 ((rd_T192 l0 x19_2).f0), .int .i64 ((rd_T192 l0 x19_2).f1), .int .i64 ((rd_T192 l0 x19_2).f2), .int .i64 0, .int .i64 0]) ?_ 3 _ rfl; refine blk_put (cs := #[.int .i64 ((rd_T192 l0 x19_2).f0), .int .i64 ((rd_T192 l0 x19_2).f1), .int .i64 0, .int .i64 0, .int .i64 0]) ?_ 2 _ rfl; refine blk_put (cs := #[.int .i64 ((rd_T192 l0 x19_2).f0), .int .i64 0, .int .i64 0, .int .i64 0, .int .i64 0]) ?_ 1 _ rfl; refine blk_put (cs := #[.int .i64 0, .int .i64 0, .int .i64 0, .int .i64 0, .int .i64 0]) ?_ 0 _ rfl; exact rW_ BK200.out) hb); have n1 := aM_ (sT_ HB.out hb); clear BK200; clear HB; have BK200 := n0; have HB := n1; clear n0 n1))
          go_ret
          exact fI_ HB.out
        ·rw [if_neg c10] at H
         exact absurd H (by simp)
       ·rw [if_neg c9] at H
        exact absurd H (by simp)
      ·rw [if_neg c8] at H
       have c8b0 : decide (x19_2 < (l0.length : Int)) = false := decide_eq_false c8
       clear c8
       obtain ⟨ji19, hji19⟩ : ∃ j_ : Int, (wrap64 ((l0.length : Int) - 1)) = j_ := ⟨_, rfl⟩
       replace H : (if 0 ≤ (ji19) then (if (ji19) < (l0.length : Int) then (if ((rd_T192 l0 (ji19)).f0) = 13 then (some true) else (some (((rd_T192 l0 (ji19)).f0) == 11))) else (none)) else (none)) = some r := by first | (rw [hji19] at H; exact H) | (simp only [hji19] at H ⊢; exact H)
       have hji19w : (IntKind.i64.wrap ((l0.length : Int) - 1)) = ji19 := (i64_w _).trans hji19
       by_cases c20 : 0 ≤ (ji19)
       ·rw [if_pos c20] at H
        have c20b0 : decide (0 ≤ (ji19)) = true := decide_eq_true c20
        clear c20
        by_cases c21 : (ji19) < (l0.length : Int)
        ·rw [if_pos c21] at H
         have c21b0 : decide ((ji19) < (l0.length : Int)) = true := decide_eq_true c21
         clear c21
         by_cases c22 : ((rd_T192 l0 (ji19)).f0) = 13
         ·rw [if_pos c22] at H
          have c22b0 : (((rd_T192 l0 (ji19)).f0) == 13) = true := beq_iff_eq.mpr c22
          have c22b1 : (((rd_T192 l0 (ji19)).f0) != 13) = false := bne_eq_false_iff_eq.mpr c22
          clear c22
          obtain rfl := Option.some.inj H
          have p198 : 0 ≤ ((ji19) : Int) := of_decide_eq_true (by first | (with_reducible assumption) | assumption)
          have q198 : (ji19) < (l0.length : Int) := of_decide_eq_true (by first | (with_reducible assumption) | assumption)
          obtain ⟨ad198, e198, hx198_0, hx198_1, hx198_2, hx198_3, hx198_4⟩ := at_T192 HR0.out (ji19) p198 q198
          cases e198
          replace hx198_0 := cB_ HB.out hx198_0
          replace hx198_1 := cB_ HB.out hx198_1
          replace hx198_2 := cB_ HB.out hx198_2
          replace hx198_3 := cB_ HB.out hx198_3
          replace hx198_4 := cB_ HB.out hx198_4
          replace p198 := eq_true p198
          replace q198 := eq_true q198
          go_wp2
          go_ret
          exact ⟨by first | rfl | (simp [errW_none, errW_some] <;> rfl) | (simp only [← hji19]; first | rfl | (simp [errW_none, errW_some] <;> rfl)) | (simp [*, errW_none, errW_some] <;> rfl), gB_ HB.out⟩
         ·rw [if_neg c22] at H
          have c22b0 : (((rd_T192 l0 (ji19)).f0) == 13) = false := beq_eq_false_iff_ne.mpr c22
          have c22b1 : (((rd_T192 l0 (ji19)).f0) != 13) = true := bne_iff_ne.mpr c22
          obtain rfl := Option.some.inj H
          have p198 : 0 ≤ ((ji19) : Int) := of_decide_eq_true (by first | (with_reducible assumption) | assumption)
          have q198 : (ji19) < (l0.length : Int) := of_decide_eq_true (by first | (with_reducible assumption) | assumption)
          obtain ⟨ad198, e198, hx198_0, hx198_1, hx198_2, hx198_3, hx198_4⟩ := at_T192 HR0.out (ji19) p198 q198
          cases e198
          replace hx198_0 := cB_ HB.out hx198_0
          replace hx198_1 := cB_ HB.out hx198_1
          replace hx198_2 := cB_ HB.out hx198_2
          replace hx198_3 := cB_ HB.out hx198_3
          replace hx198_4 := cB_ HB.out hx198_4
          replace p198 := eq_true p198
          replace q198 := eq_true q198
          go_wp2
          go_ret
          exact ⟨by first | rfl | (simp [errW_none, errW_some] <;> rfl) | (simp only [← hji19]; first | rfl | (simp [errW_none, errW_some] <;> rfl)) | (simp [*, errW_none, errW_some] <;> rfl), gB_ HB.out⟩
        ·rw [if_neg c21] at H
         exact absurd H (by simp)
       ·rw [if_neg c20] at H
        exact absurd H (by simp)
def impl_ProgOk.l0 : Nat → List (List (S192)) → Int → Int → List Int → List (List (S192)) → Option (Bool)
  | 0, _, _, _, _, _ => none
  | k + 1, x6, x7, x8, x203000, x203001 => if x8 < x7 then (if 0 ≤ x8 then (if x8 < (x6.length : Int) then ((impl_BodyOk.f k (rd_L4 x6 x8) (x203000.length : Int)).bind fun t204 => (if t204 = true then (impl_ProgOk.l0 k x6 x7 (wrap64 (x8 + 1)) x203000 x203001) else (some false))) else (none)) else (none)) else (if (x203000.length : Int) ≤ 3 then ((impl_capsOk.f k x203000).bind fun t205 => (if t205 = true then ((impl_within.f (x203001.length : Int) 1 4).bind fun t206 => (some t206)) else (some false))) else (some false))
def impl_ProgOk.f (k : Nat) (l0_0 : List Int) (l0_1 : List (List (S192))) : Option (Bool) := impl_ProgOk.l0 k l0_1 (l0_1.length : Int) 0 l0_0 l0_1
set_option maxHeartbeats 8000000 in
set_option maxRecDepth 100000 in
theorem impl_ProgOk.calls (k : Nat) (A0_0 : Option Addr) (c0_0 : Nat) (l0_0 : List Int) (A0_1 : Option Addr) (c0_1 : Nat) (l0_1 : List (List (S192))) (r : Bool) (w : World) (hr0_0 : Kd.C (Kd.int .i64) w A0_0 l0_0.length l0_0) (hc0_0 : l0_0.length ≤ c0_0) (hr0_1 : Kd.C (Kd.slice 192 k192) w A0_1 l0_1.length l0_1) (hc0_1 : l0_1.length ≤ c0_1) (h : impl_ProgOk.f k l0_0 l0_1 = some r) :
  Calls Try.prog 63 #[.agg #[.slice A0_0 l0_0.length c0_0, .slice A0_1 l0_1.length c0_1]] w fun e w' => e = .returned (.bool r) ∧ Below w.heap.size w w' := by
 have hu44 := Try.underlying44
 have HR0_0 := aM_ hr0_0
 have HC0_0 := aM_ hc0_0
 clear hr0_0 hc0_0
 have HR0_1 := aM_ hr0_1
 have HC0_1 := aM_ hc0_1
 clear hr0_1 hc0_1
 have HB := aM_ (Below.refl w.heap.size w)
 have H : (impl_ProgOk.l0 k l0_1 (l0_1.length : Int) 0 l0_0 l0_1) = some r := h
 clear h
 have H' := aM_ H
 clear H
 go_enter Try.func63, Try.ntmps63
 go_wp2_with (first | ((with_reducible refine gate_dst (N := 1) rfl ?_); (try (refine gate_guard (by rfl) ?_; dsimp only)); refine bX_ 1 (cs := #[.slice A0_0 l0_0.length c0_0, .slice A0_1 l0_1.length c0_1]) (t := 44) ?_; intro gb202 hg w2 hbox hb; have n0 := aM_ (sT_ HB.out hb); have n1 := aM_ (hbox); have n2 := aM_ (sZ_ hg HB.out); have n3 := aM_ (sZ_ hg HB.out); clear HB; have HB := n0; have BK202 := n1; have GW202 := n2; have GE202 := n3; clear n0 n1 n2 n3; clear hb hbox hg; obtain ⟨hcz3_0, hcz3_1, hfz3_0, hfz3_1⟩ := bR2_ BK202.out))
 go_loopg [8] k (fun kq v8 w' => ∃ (x8_1 : Int), v8 = .int .i64 x8_1 ∧ Aside0 (impl_ProgOk.l0 kq l0_1 (l0_1.length : Int) x8_1 l0_0 l0_1 = some r) ∧ Aside0 (kq ≤ k) ∧ Aside0 (w'.heap[gb202]? = some (.cells #[(.slice A0_0 l0_0.length c0_0), (.slice A0_1 l0_1.length c0_1)] 44 (0, 0))) ∧ Aside0 (Below w.heap.size w w'))
 case atStart => exact ⟨(0), (by first | rfl | (simp; done) | (simp [*]; done)), H', ⟨Nat.le_refl _⟩, ⟨rW_ BK202.out⟩, ⟨gW_ HB.out⟩⟩
 case round =>
  clear H'
  try clear p2
  try clear hcz3_0 hcz3_1 hfz3_0 hfz3_1
  obtain ⟨x8_1, rfl, HA, HK1, BK202, HB⟩ := hrel
  cases gk with
  | zero => exact absurd HA.out (by simp [impl_ProgOk.l0])
  | succ k1 =>
   have H := HA.out
   clear HA
   simp only [impl_ProgOk.l0] at H
   by_cases c4 : x8_1 < (l0_1.length : Int)
   ·rw [if_pos c4] at H
    have c4b0 : decide (x8_1 < (l0_1.length : Int)) = true := decide_eq_true c4
    clear c4
    by_cases c5 : 0 ≤ x8_1
    ·rw [if_pos c5] at H
     have c5b0 : decide (0 ≤ x8_1) = true := decide_eq_true c5
     clear c5
     by_cases c6 : x8_1 < (l0_1.length : Int)
     ·rw [if_pos c6] at H
      have c6b0 : decide (x8_1 < (l0_1.length : Int)) = true := decide_eq_true c6
      clear c6
      replace H := Option.bind_eq_some_iff.mp H
      obtain ⟨t204, A70, H⟩ := H
      replace H : (if t204 = true then (impl_ProgOk.l0 k1 l0_1 (l0_1.length : Int) (wrap64 (x8_1 + 1)) l0_0 l0_1) else (some false)) = some r := H
      have A7 := aM_ A70
      clear A70
      by_cases c8 : t204 = true
      ·subst c8
       have H1 : (impl_ProgOk.l0 k1 l0_1 (l0_1.length : Int) (wrap64 (x8_1 + 1)) l0_0 l0_1) = some r := by rw [if_pos rfl] at H; exact H
       clear H
       have H := H1
       clear H1
       have H' := aM_ H
       clear H
       have p203 : 0 ≤ (x8_1 : Int) := of_decide_eq_true (by first | (with_reducible assumption) | assumption)
       have q203 : x8_1 < (l0_1.length : Int) := of_decide_eq_true (by first | (with_reducible assumption) | assumption)
       obtain ⟨ad203, A203_0, c203_0, e203, hx203_0, hl203_0, hi203_0⟩ := at_L4 HR0_1.out x8_1 p203 q203
       cases e203
       replace hx203_0 := cB_ HB.out hx203_0
       have HR203_0 := aM_ hi203_0
       have HC203_0 := aM_ hl203_0
       clear hi203_0 hl203_0
       replace p203 := eq_true p203
       replace q203 := eq_true q203
       obtain ⟨hcz9_0, hcz9_1, hfz9_0, hfz9_1⟩ := bR2_ BK202.out
       go_wp2_with (first | ((with_reducible refine gate_callee (f := 126) rfl ?_); refine gL_ (some 16) Try.func126 #[.slice A203_0 (rd_L4 l0_1 x8_1).length c203_0, .int .i64 (l0_0.length : Int)] ?_; (with_reducible refine (impl_BodyOk.calls k1 _ _ (rd_L4 l0_1 x8_1) (l0_0.length : Int) true _ ?side1 ?side2 A7.out).mono ?_); (case side1 => exact cS_ (Kd.C_below HR203_0.out HB.out)); (case side2 => exact HC203_0.out); rintro e w10 ⟨rfl, hb⟩; refine ⟨_, rfl, ?_⟩; have n0 := aM_ (nB_ BK202.out hb); have n1 := aM_ (sT_ HB.out hb); clear BK202; clear HB; have BK202 := n0; have HB := n1; clear n0 n1))
       go_roundg k1
       case measure => have := HK1.out; omega
       case rel => exact ⟨(wrap64 (x8_1 + 1)), (by first | rfl | (simp; done) | (simp [*]; done)), H', ⟨by have := HK1.out; omega⟩, ⟨rW_ BK202.out⟩, ⟨gW_ HB.out⟩⟩
      ·replace c8 := Bool.eq_false_iff.mpr c8
       subst c8
       have H1 : (some false) = some r := by rw [if_neg (show ¬ (false = true) by decide)] at H; exact H
       clear H
       have H := H1
       clear H1
       obtain rfl := Option.some.inj H
       have p203 : 0 ≤ (x8_1 : Int) := of_decide_eq_true (by first | (with_reducible assumption) | assumption)
       have q203 : x8_1 < (l0_1.length : Int) := of_decide_eq_true (by first | (with_reducible assumption) | assumption)
       obtain ⟨ad203, A203_0, c203_0, e203, hx203_0, hl203_0, hi203_0⟩ := at_L4 HR0_1.out x8_1 p203 q203
       cases e203
       replace hx203_0 := cB_ HB.out hx203_0
       have HR203_0 := aM_ hi203_0
       have HC203_0 := aM_ hl203_0
       clear hi203_0 hl203_0
       replace p203 := eq_true p203
       replace q203 := eq_true q203
       obtain ⟨hcz11_0, hcz11_1, hfz11_0, hfz11_1⟩ := bR2_ BK202.out
       go_wp2_with (first | ((with_reducible refine gate_callee (f := 126) rfl ?_); refine gL_ (some 16) Try.func126 #[.slice A203_0 (rd_L4 l0_1 x8_1).length c203_0, .int .i64 (l0_0.length : Int)] ?_; (with_reducible refine (impl_BodyOk.calls k1 _ _ (rd_L4 l0_1 x8_1) (l0_0.length : Int) false _ ?side1 ?side2 A7.out).mono ?_); (case side1 => exact cS_ (Kd.C_below HR203_0.out HB.out)); (case side2 => exact HC203_0.out); rintro e w12 ⟨rfl, hb⟩; refine ⟨_, rfl, ?_⟩; have n0 := aM_ (nB_ BK202.out hb); have n1 := aM_ (sT_ HB.out hb); clear BK202; clear HB; have BK202 := n0; have HB := n1; clear n0 n1))
       go_ret
       exact fI_ HB.out
     ·rw [if_neg c6] at H
      exact absurd H (by simp)
    ·rw [if_neg c5] at H
     exact absurd H (by simp)
   ·rw [if_neg c4] at H
    have c4b0 : decide (x8_1 < (l0_1.length : Int)) = false := decide_eq_false c4
    clear c4
    by_cases c13 : (l0_0.length : Int) ≤ 3
    ·rw [if_pos c13] at H
     have c13b0 : decide ((l0_0.length : Int) ≤ 3) = true := decide_eq_true c13
     have c13b1 : decide (l0_0.length ≤ 3) = true := decide_eq_true (by omega)
     clear c13
     replace H := Option.bind_eq_some_iff.mp H
     obtain ⟨t205, A140, H⟩ := H
     replace H : (if t205 = true then ((impl_within.f (l0_1.length : Int) 1 4).bind fun t206 => (some t206)) else (some false)) = some r := H
     have A14 := aM_ A140
     clear A140
     by_cases c15 : t205 = true
     ·subst c15
      have H1 : ((impl_within.f (l0_1.length : Int) 1 4).bind fun t206 => (some t206)) = some r := by rw [if_pos rfl] at H; exact H
      clear H
      have H := H1
      clear H1
      replace H := Option.bind_eq_some_iff.mp H
      obtain ⟨t206, A160, H⟩ := H
      replace H : (some t206) = some r := H
      have A16 := aM_ A160
      clear A160
      obtain rfl := Option.some.inj H
      obtain ⟨hcz17_0, hcz17_1, hfz17_0, hfz17_1⟩ := bR2_ BK202.out
      go_wp2_with (first | (go_at_call 109; (with_reducible refine (impl_capsOk.calls k1 _ _ l0_0 true _ ?side1 ?side2 A14.out).mono ?_); (case side1 => exact cS_ (Kd.C_below HR0_0.out HB.out)); (case side2 => exact HC0_0.out); rintro e w' ⟨rfl, ⟨nd, rfl⟩⟩) | (go_at_call 106; (with_reducible refine (impl_within.calls (l0_1.length : Int) 1 4 t206 _ A16.out).mono ?_); rintro e w' ⟨rfl, ⟨nd, rfl⟩⟩))
      go_ret
      exact fI_ HB.out
     ·replace c15 := Bool.eq_false_iff.mpr c15
      subst c15
      have H1 : (some false) = some r := by rw [if_neg (show ¬ (false = true) by decide)] at H; exact H
      clear H
      have H := H1
      clear H1
      obtain rfl := Option.some.inj H
      obtain ⟨hcz18_0, hcz18_1, hfz18_0, hfz18_1⟩ := bR2_ BK202.out
      go_wp2_with (first | (go_at_call 109; (with_reducible refine (impl_capsOk.calls k1 _ _ l0_0 false _ ?side1 ?side2 A14.out).mono ?_); (case side1 => exact cS_ (Kd.C_below HR0_0.out HB.out)); (case side2 => exact HC0_0.out); rintro e w' ⟨rfl, ⟨nd, rfl⟩⟩))
      go_ret
      exact fI_ HB.out
    ·rw [if_neg c13] at H
     have c13b0 : decide ((l0_0.length : Int) ≤ 3) = false := decide_eq_false c13
     have c13b1 : decide (l0_0.length ≤ 3) = false := decide_eq_false (by omega)
     clear c13
     obtain rfl := Option.some.inj H
     obtain ⟨hcz19_0, hcz19_1, hfz19_0, hfz19_1⟩ := bR2_ BK202.out
     go_wp2
     go_ret
     exact fI_ HB.out
end Go.Proofs.Ytobachfngmpeiaa.PFnExactSourceNew
