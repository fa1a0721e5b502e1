/- Part of the proof of FnExactAble. -/
import Derived.Test.YtobachfngmpeiaaZFnExactAblea19
import Derived.Test.YtobachfngmpeiaaZFnExactAblea21
import Derived.Test.YtobachfngmpeiaaZFnExactAbles
set_option maxRecDepth 100000
namespace Go.Proofs.Ytobachfngmpeiaa.PFnExactAble
open Go.RowKit Go.Proofs.YtobachfngmpeiaaW.PrintWords Go.Proofs.YtobachfngmpeiaaW.PrintLast Go.Proofs.YtobachfngmpeiaaW.PrintMore
attribute [local go_sem] max2_int min2_int max_two min_two max_three min_three max_four min_four   -- for this text's walks alone
set_option linter.unusedVariables false
set_option linter.unusedSimpArgs false
mutual
def impl_BodyOk.j0 : Nat → List (S192) → Int → Bool → Option (Bool)
  | 0,_,_,_ => none
  | k + 1,x0,x1,x16 => if x16 = true then (some false) else (impl_BodyOk.l0 k x0 x1 x0 (x0.length : Int) 0)
def impl_BodyOk.l0 : Nat → List (S192) → Int → List (S192) → Int → Int → Option (Bool)
  | 0,_,_,_,_,_ => none
  | k + 1,x0,x1,x17,x18,x19 => if x19 < x18 then (if 0 ≤ x19 then (if x19 < (x17.length : Int) then ((impl_InsOk.f k ((rd_T192 x17 x19).f0) ((rd_T192 x17 x19).f1) ((rd_T192 x17 x19).f2) ((rd_T192 x17 x19).f3) ((rd_T192 x17 x19).f4) (x0.length : Int) x1).bind fun t415 => (if t415 = true then (impl_BodyOk.l0 k x0 x1 x17 x18 (wrap64 (x19 + 1))) else (some false))) else (none)) else (none)) else (if 0 ≤ (wrap64 ((x0.length : Int) - 1)) then (if (wrap64 ((x0.length : Int) - 1)) < (x0.length : Int) then (if ((rd_T192 x0 (wrap64 ((x0.length : Int) - 1))).f0) = 13 then (some true) else (some (((rd_T192 x0 (wrap64 ((x0.length : Int) - 1))).f0) == 11))) else (none)) else (none))
end
def impl_BodyOk.f (k : Nat) (l0 : List (S192)) (a1 : Int) : Option (Bool) := (impl_within.f a1 0 3).bind fun t410 => (if t410 = true then ((impl_within.f (l0.length : Int) 1 24).bind fun t411 => (impl_BodyOk.j0 k l0 a1 (!t411))) else (impl_BodyOk.j0 k l0 a1 true))
set_option maxHeartbeats 8000000 in
theorem impl_BodyOk.calls (k : Nat) (A0 : Option Addr) (c0 : Nat) (l0 : List (S192)) (a1 : Int) (r : Bool) (w : World) (hr0 : Kd.C k192 w A0 l0.length l0) (hc0 : l0.length ≤ c0) (h : impl_BodyOk.f k l0 a1 = some r) :
  Calls Try.prog 126 #[.slice A0 l0.length c0,.int .i64 a1] w fun e w' => e = .returned (.bool r) ∧ Below w.heap.size w w' := by
 have hu192 := Try.underlying192
 have HR0 := aM_ hr0
 have HC0 := aM_ hc0
 clear hr0 hc0
 have HB := aM_ (Below.refl w.heap.size w)
 have H : ((impl_within.f a1 0 3).bind fun t410 => (if t410 = true then ((impl_within.f (l0.length : Int) 1 24).bind fun t411 => (impl_BodyOk.j0 k l0 a1 (!t411))) else (impl_BodyOk.j0 k l0 a1 true))) = some r := h
 clear h
 have HC3 := aM_ H
 clear H
 go_enter Try.func126,Try.ntmps126
 go_upto_region 1 with (fail)
 go_cut [16] (fun v16 wc => ∃ (kq : Nat) (x16_2 : Bool),v16 = .bool x16_2 ∧ Aside0 (impl_BodyOk.j0 kq l0 a1 x16_2 = some r) ∧ Aside0 (kq ≤ k) ∧ Aside0 (Below w.heap.size w wc))
 case first =>
  have H := HC3.out
  clear HC3
  replace H := Option.bind_eq_some_iff.mp H
  obtain ⟨t410,A40,H⟩ := H
  replace H : (if t410 = true then ((impl_within.f (l0.length : Int) 1 24).bind fun t411 => (impl_BodyOk.j0 k l0 a1 (!t411))) else (impl_BodyOk.j0 k l0 a1 true)) = some r := H
  have A4 := aM_ A40
  clear A40
  by_cases c5 : t410 = true
  ·subst c5
   have H1 : ((impl_within.f (l0.length : Int) 1 24).bind fun t411 => (impl_BodyOk.j0 k l0 a1 (!t411))) = some r := by rw [if_pos rfl] at H;exact H
   clear H
   have H := H1
   clear H1
   replace H := Option.bind_eq_some_iff.mp H
   obtain ⟨t411,A60,H⟩ := H
   replace H : (impl_BodyOk.j0 k l0 a1 (!t411)) = some r := H
   have A6 := aM_ A60
   clear A60
   have H' := aM_ H
   clear H
   go_wp2_with (first | (refine gL_ (some 9) Try.func106 #[.int .i64 a1,.int .i64 0,.int .i64 3] ?_;(with_reducible refine (impl_within.calls a1 0 3 true _ A4.out).mono ?_);rintro e w' ⟨rfl,⟨nd,rfl⟩⟩;refine ⟨_,rfl,?_⟩) | (go_at_call 106;(with_reducible refine (impl_within.calls (l0.length : Int) 1 24 t411 _ A6.out).mono ?_);rintro e w' ⟨rfl,⟨nd,rfl⟩⟩))
   go_meet
   case rel => exact ⟨_,(!t411),(by first | rfl | (simp;done) | (simp [*];done)),H',⟨by first | omega | exact Nat.le_refl _⟩,⟨gW_ HB.out⟩⟩
  ·replace c5 := Bool.eq_false_iff.mpr c5
   subst c5
   have H1 : (impl_BodyOk.j0 k l0 a1 true) = some r := by rw [if_neg (show ¬ (false = true) by decide)] at H;exact H
   clear H
   have H := H1
   clear H1
   have H' := aM_ H
   clear H
   go_wp2_with (first | (refine gL_ (some 9) Try.func106 #[.int .i64 a1,.int .i64 0,.int .i64 3] ?_;(with_reducible refine (impl_within.calls a1 0 3 false _ A4.out).mono ?_);rintro e w' ⟨rfl,⟨nd,rfl⟩⟩;refine ⟨_,rfl,?_⟩))
   go_meet
   case rel => exact ⟨_,(true),(by first | rfl | (simp;done) | (simp [*];done)),H',⟨by first | omega | exact Nat.le_refl _⟩,⟨gW_ HB.out⟩⟩
 case rest =>
  clear HC3
  (try clear c1);(try clear p2);(try clear c5)
  obtain ⟨kq,x16_2,rfl,HA,HJ2,HB⟩ := hcut
  cases kq with
  | zero => exact absurd HA.out (by simp [impl_BodyOk.j0])
  | succ kj2 =>
   have H := HA.out
   clear HA
   simp only [impl_BodyOk.j0] at H
   by_cases c7 : x16_2 = true
   ·subst c7
    have H1 : (some false) = some r := by rw [if_pos rfl] at H;exact H
    clear H
    have H := H1
    clear H1
    obtain rfl := sJ_ H
    go_wp2
    go_ret
    exact fI_ HB.out
   ·replace c7 := Bool.eq_false_iff.mpr c7
    subst c7
    have H1 : (impl_BodyOk.l0 kj2 l0 a1 l0 (l0.length : Int) 0) = some r := by rw [if_neg (show ¬ (false = true) by decide)] at H;exact H
    clear H
    have H := H1
    clear H1
    have H' := aM_ H
    clear H
    go_wp2
    go_loopg [19] kj2 (fun kq v19 w' => ∃ (x19_2 : Int),v19 = .int .i64 x19_2 ∧ Aside0 (impl_BodyOk.l0 kq l0 a1 l0 (l0.length : Int) x19_2 = some r) ∧ Aside0 (kq ≤ kj2) ∧ Aside0 (Below w.heap.size w w'))
    case atStart => exact ⟨(0),(by first | rfl | (simp;done) | (simp [*];done)),H',⟨Nat.le_refl _⟩,⟨gW_ HB.out⟩⟩
    case round =>
     clear H'
     (try clear c1);(try clear p2);(try clear c5);(try clear c7);(try clear p2)
     obtain ⟨x19_2,rfl,HA,HK2,HB⟩ := hrel
     cases gk with
     | zero => exact absurd HA.out (by simp [impl_BodyOk.l0])
     | succ k2 =>
      have H := HA.out
      clear HA
      simp only [impl_BodyOk.l0] at H
      by_cases c8 : x19_2 < (l0.length : Int)
      ·rw [if_pos c8] at H
       have c8b0 : decide (x19_2 < (l0.length : Int)) = true := decide_eq_true c8
       clear c8
       by_cases c9 : 0 ≤ x19_2
       ·rw [if_pos c9] at H
        have c9b0 : decide (0 ≤ x19_2) = true := decide_eq_true c9
        clear c9
        by_cases c10 : x19_2 < (l0.length : Int)
        ·rw [if_pos c10] at H
         have c10b0 : decide (x19_2 < (l0.length : Int)) = true := decide_eq_true c10
         clear c10
         replace H := Option.bind_eq_some_iff.mp H
         obtain ⟨t415,A110,H⟩ := H
         replace H : (if t415 = true then (impl_BodyOk.l0 k2 l0 a1 l0 (l0.length : Int) (wrap64 (x19_2 + 1))) else (some false)) = some r := H
         have A11 := aM_ A110
         clear A110
         by_cases c12 : t415 = true
         ·subst c12
          have H1 : (impl_BodyOk.l0 k2 l0 a1 l0 (l0.length : Int) (wrap64 (x19_2 + 1))) = some r := by rw [if_pos rfl] at H;exact H
          clear H
          have H := H1
          clear H1
          have H' := aM_ H
          clear H
          have p413 : 0 ≤ (x19_2 : Int) := pD_
          have q413 : x19_2 < (l0.length : Int) := pD_
          obtain ⟨ad413,e413,hx413_0,hx413_1,hx413_2,hx413_3,hx413_4⟩ := at_T192 HR0.out x19_2 p413 q413
          cases e413
          replace hx413_0 := cB_ HB.out hx413_0
          replace hx413_1 := cB_ HB.out hx413_1
          replace hx413_2 := cB_ HB.out hx413_2
          replace hx413_3 := cB_ HB.out hx413_3
          replace hx413_4 := cB_ HB.out hx413_4
          replace p413 := eq_true p413
          replace q413 := eq_true q413
          go_wp2_with (first | ((with_reducible refine gate_dst (N := 6) rfl ?_);(try (refine gate_guard (by rfl) ?_;dsimp only));refine bX_ 6 (cs := #[.int .i64 0,.int .i64 0,.int .i64 0,.int .i64 0,.int .i64 0]) (t := 192) ?_;intro gb414 hg w13 hbox hb;have BK414 := aM_ (hbox);have GE414 := aM_ (sZ_ hg HB.out);replace HB := aM_ (sT_ HB.out hb);clear hb hbox hg;have z_14 := bR5_ BK414.out) | (refine gL_ (some 27) Try.func164 #[.agg #[.int .i64 ((rd_T192 l0 x19_2).f0),.int .i64 ((rd_T192 l0 x19_2).f1),.int .i64 ((rd_T192 l0 x19_2).f2),.int .i64 ((rd_T192 l0 x19_2).f3),.int .i64 ((rd_T192 l0 x19_2).f4)],.int .i64 (l0.length : Int),.int .i64 a1] ?_;(with_reducible refine (impl_InsOk.calls k2 ((rd_T192 l0 x19_2).f0) ((rd_T192 l0 x19_2).f1) ((rd_T192 l0 x19_2).f2) ((rd_T192 l0 x19_2).f3) ((rd_T192 l0 x19_2).f4) (l0.length : Int) a1 true _ A11.out).mono ?_);rintro e w15 ⟨rfl,hb⟩;refine ⟨_,rfl,?_⟩;replace BK414 := aM_ (blk_below (g := gb414) (o := .cells #[.int .i64 ((rd_T192 l0 x19_2).f0),.int .i64 ((rd_T192 l0 x19_2).f1),.int .i64 ((rd_T192 l0 x19_2).f2),.int .i64 ((rd_T192 l0 x19_2).f3),.int .i64 ((rd_T192 l0 x19_2).f4)] 192 (0,0)) (by (with_reducible repeat (first | refine bN_ ?_ _ | refine bD_ ?_ | refine bA_ ?_ _));refine blk_put (cs := #[.int .i64 ((rd_T192 l0 x19_2).f0),.int .i64 ((rd_T192 l0 x19_2).f1),.int .i64 ((rd_T192 l0 x19_2).f2),.int .i64 ((rd_T192 l0 x19_2).f3),.int .i64 0]) ?_ 4 _ rfl;refine blk_put (cs := #[.int .i64 ((rd_T192 l0 x19_2).f0),.int .i64 ((rd_T192 l0 x19_2).f1),.int .i64 ((rd_T192 l0 x19_2).f2),.int .i64 0,.int .i64 0]) ?_ 3 _ rfl;refine blk_put (cs := #[.int .i64 ((rd_T192 l0 x19_2).f0),.int .i64 ((rd_T192 l0 x19_2).f1),.int .i64 0,.int .i64 0,.int .i64 0]) ?_ 2 _ rfl;refine blk_put (cs := #[.int .i64 ((rd_T192 l0 x19_2).f0),.int .i64 0,.int .i64 0,.int .i64 0,.int .i64 0]) ?_ 1 _ rfl;refine blk_put (cs := #[.int .i64 0,.int .i64 0,.int .i64 0,.int .i64 0,.int .i64 0]) ?_ 0 _ rfl;exact rW_ BK414.out) hb);replace HB := aM_ (sT_ HB.out hb)))
          go_roundg k2
          case measure => have := HJ2.out;have := HK2.out;omega
          case rel => exact ⟨(wrap64 (x19_2 + 1)),(by first | rfl | (simp;done) | (simp [*];done)),H',⟨by have := HJ2.out;have := HK2.out;omega⟩,⟨gW_ HB.out⟩⟩
         ·replace c12 := Bool.eq_false_iff.mpr c12
          subst c12
          have H1 := hF_ H
          clear H
          have H := H1
          clear H1
          obtain rfl := sJ_ H
          have p413 : 0 ≤ (x19_2 : Int) := pD_
          have q413 : x19_2 < (l0.length : Int) := pD_
          obtain ⟨ad413,e413,hx413_0,hx413_1,hx413_2,hx413_3,hx413_4⟩ := at_T192 HR0.out x19_2 p413 q413
          cases e413
          replace hx413_0 := cB_ HB.out hx413_0
          replace hx413_1 := cB_ HB.out hx413_1
          replace hx413_2 := cB_ HB.out hx413_2
          replace hx413_3 := cB_ HB.out hx413_3
          replace hx413_4 := cB_ HB.out hx413_4
          replace p413 := eq_true p413
          replace q413 := eq_true q413
          go_wp2_with (first | ((with_reducible refine gate_dst (N := 6) rfl ?_);(try (refine gate_guard (by rfl) ?_;dsimp only));refine bX_ 6 (cs := #[.int .i64 0,.int .i64 0,.int .i64 0,.int .i64 0,.int .i64 0]) (t := 192) ?_;intro gb414 hg w16 hbox hb;have BK414 := aM_ (hbox);have GE414 := aM_ (sZ_ hg HB.out);replace HB := aM_ (sT_ HB.out hb);clear hb hbox hg;have z_17 := bR5_ BK414.out) | (refine gL_ (some 27) Try.func164 #[.agg #[.int .i64 ((rd_T192 l0 x19_2).f0),.int .i64 ((rd_T192 l0 x19_2).f1),.int .i64 ((rd_T192 l0 x19_2).f2),.int .i64 ((rd_T192 l0 x19_2).f3),.int .i64 ((rd_T192 l0 x19_2).f4)],.int .i64 (l0.length : Int),.int .i64 a1] ?_;(with_reducible refine (impl_InsOk.calls k2 ((rd_T192 l0 x19_2).f0) ((rd_T192 l0 x19_2).f1) ((rd_T192 l0 x19_2).f2) ((rd_T192 l0 x19_2).f3) ((rd_T192 l0 x19_2).f4) (l0.length : Int) a1 false _ A11.out).mono ?_);rintro e w18 ⟨rfl,hb⟩;refine ⟨_,rfl,?_⟩;replace BK414 := aM_ (blk_below (g := gb414) (o := .cells #[.int .i64 ((rd_T192 l0 x19_2).f0),.int .i64 ((rd_T192 l0 x19_2).f1),.int .i64 ((rd_T192 l0 x19_2).f2),.int .i64 ((rd_T192 l0 x19_2).f3),.int .i64 ((rd_T192 l0 x19_2).f4)] 192 (0,0)) (by (with_reducible repeat (first | refine bN_ ?_ _ | refine bD_ ?_ | refine bA_ ?_ _));refine blk_put (cs := #[.int .i64 ((rd_T192 l0 x19_2).f0),.int .i64 ((rd_T192 l0 x19_2).f1),.int .i64 ((rd_T192 l0 x19_2).f2),.int .i64 ((rd_T192 l0 x19_2).f3),.int .i64 0]) ?_ 4 _ rfl;refine blk_put (cs := #[.int .i64 ((rd_T192 l0 x19_2).f0),.int .i64 ((rd_T192 l0 x19_2).f1),.int .i64 ((rd_T192 l0 x19_2).f2),.int .i64 0,.int .i64 0]) ?_ 3 _ rfl;refine blk_put (cs := #[.int .i64 ((rd_T192 l0 x19_2).f0),.int .i64 ((rd_T192 l0 x19_2).f1),.int .i64 0,.int .i64 0,.int .i64 0]) ?_ 2 _ rfl;refine blk_put (cs := #[.int .i64 ((rd_T192 l0 x19_2).f0),.int .i64 0,.int .i64 0,.int .i64 0,.int .i64 0]) ?_ 1 _ rfl;refine blk_put (cs := #[.int .i64 0,.int .i64 0,.int .i64 0,.int .i64 0,.int .i64 0]) ?_ 0 _ rfl;exact rW_ BK414.out) hb);replace HB := aM_ (sT_ HB.out hb)))
          go_ret
          exact fI_ HB.out
        ·rw [if_neg c10] at H
         exact absurd H (by simp)
       ·rw [if_neg c9] at H
        exact absurd H (by simp)
      ·rw [if_neg c8] at H
       have c8b0 : decide (x19_2 < (l0.length : Int)) = false := decide_eq_false c8
       clear c8
       obtain ⟨ji19,hji19⟩ : ∃ j_ : Int,(wrap64 ((l0.length : Int) - 1)) = j_ := ⟨_,rfl⟩
       replace H : (if 0 ≤ (ji19) then (if (ji19) < (l0.length : Int) then (if ((rd_T192 l0 (ji19)).f0) = 13 then (some true) else (some (((rd_T192 l0 (ji19)).f0) == 11))) else (none)) else (none)) = some r := by first | (rw [hji19] at H;exact H) | (simp only [hji19] at H ⊢;exact H)
       have hji19w : (IntKind.i64.wrap ((l0.length : Int) - 1)) = ji19 := (i64_w _).trans hji19
       by_cases c20 : 0 ≤ (ji19)
       ·rw [if_pos c20] at H
        have c20b0 : decide (0 ≤ (ji19)) = true := decide_eq_true c20
        clear c20
        by_cases c21 : (ji19) < (l0.length : Int)
        ·rw [if_pos c21] at H
         have c21b0 : decide ((ji19) < (l0.length : Int)) = true := decide_eq_true c21
         clear c21
         by_cases c22 : ((rd_T192 l0 (ji19)).f0) = 13
         ·rw [if_pos c22] at H
          have c22b0 : (((rd_T192 l0 (ji19)).f0) == 13) = true := beq_iff_eq.mpr c22
          have c22b1 : (((rd_T192 l0 (ji19)).f0) != 13) = false := bne_eq_false_iff_eq.mpr c22
          clear c22
          obtain rfl := sJ_ H
          have p412 : 0 ≤ ((ji19) : Int) := pD_
          have q412 : (ji19) < (l0.length : Int) := pD_
          obtain ⟨ad412,e412,hx412_0,hx412_1,hx412_2,hx412_3,hx412_4⟩ := at_T192 HR0.out (ji19) p412 q412
          cases e412
          replace hx412_0 := cB_ HB.out hx412_0
          replace hx412_1 := cB_ HB.out hx412_1
          replace hx412_2 := cB_ HB.out hx412_2
          replace hx412_3 := cB_ HB.out hx412_3
          replace hx412_4 := cB_ HB.out hx412_4
          replace p412 := eq_true p412
          replace q412 := eq_true q412
          go_wp2
          go_ret
          exact ⟨by first | rfl | (simp [errW_none,errW_some] <;> rfl) | (simp only [← hji19];first | rfl | (simp [errW_none,errW_some] <;> rfl)) | (simp [*,errW_none,errW_some] <;> rfl),gB_ HB.out⟩
         ·rw [if_neg c22] at H
          have c22b0 : (((rd_T192 l0 (ji19)).f0) == 13) = false := beq_eq_false_iff_ne.mpr c22
          have c22b1 : (((rd_T192 l0 (ji19)).f0) != 13) = true := bne_iff_ne.mpr c22
          obtain rfl := sJ_ H
          have p412 : 0 ≤ ((ji19) : Int) := pD_
          have q412 : (ji19) < (l0.length : Int) := pD_
          obtain ⟨ad412,e412,hx412_0,hx412_1,hx412_2,hx412_3,hx412_4⟩ := at_T192 HR0.out (ji19) p412 q412
          cases e412
          replace hx412_0 := cB_ HB.out hx412_0
          replace hx412_1 := cB_ HB.out hx412_1
          replace hx412_2 := cB_ HB.out hx412_2
          replace hx412_3 := cB_ HB.out hx412_3
          replace hx412_4 := cB_ HB.out hx412_4
          replace p412 := eq_true p412
          replace q412 := eq_true q412
          go_wp2
          go_ret
          exact ⟨by first | rfl | (simp [errW_none,errW_some] <;> rfl) | (simp only [← hji19];first | rfl | (simp [errW_none,errW_some] <;> rfl)) | (simp [*,errW_none,errW_some] <;> rfl),gB_ HB.out⟩
        ·rw [if_neg c21] at H
         exact absurd H (by simp)
       ·rw [if_neg c20] at H
        exact absurd H (by simp)
def impl_ProgOk.l0 : Nat → List (List (S192)) → Int → Int → List Int → List (List (S192)) → Option (Bool)
  | 0,_,_,_,_,_ => none
  | k + 1,x6,x7,x8,x417000,x417001 => if x8 < x7 then (if 0 ≤ x8 then (if x8 < (x6.length : Int) then ((impl_BodyOk.f k (rd_L4 x6 x8) (x417000.length : Int)).bind fun t418 => (if t418 = true then (impl_ProgOk.l0 k x6 x7 (wrap64 (x8 + 1)) x417000 x417001) else (some false))) else (none)) else (none)) else (if (x417000.length : Int) ≤ 3 then ((impl_capsOk.f k x417000).bind fun t419 => (if t419 = true then ((impl_within.f (x417001.length : Int) 1 4).bind fun t420 => (some t420)) else (some false))) else (some false))
def impl_ProgOk.f (k : Nat) (l0_0 : List Int) (l0_1 : List (List (S192))) : Option (Bool) := impl_ProgOk.l0 k l0_1 (l0_1.length : Int) 0 l0_0 l0_1
set_option maxHeartbeats 8000000 in
theorem impl_ProgOk.calls (k : Nat) (A0_0 : Option Addr) (c0_0 : Nat) (l0_0 : List Int) (A0_1 : Option Addr) (c0_1 : Nat) (l0_1 : List (List (S192))) (r : Bool) (w : World) (hr0_0 : Kd.C (Kd.int .i64) w A0_0 l0_0.length l0_0) (hc0_0 : l0_0.length ≤ c0_0) (hr0_1 : Kd.C (Kd.slice 192 k192) w A0_1 l0_1.length l0_1) (hc0_1 : l0_1.length ≤ c0_1) (h : impl_ProgOk.f k l0_0 l0_1 = some r) :
  Calls Try.prog 63 #[.agg #[.slice A0_0 l0_0.length c0_0,.slice A0_1 l0_1.length c0_1]] w fun e w' => e = .returned (.bool r) ∧ Below w.heap.size w w' := by
 have hu44 := Try.underlying44
 have HR0_0 := aM_ hr0_0
 have HC0_0 := aM_ hc0_0
 clear hr0_0 hc0_0
 have HR0_1 := aM_ hr0_1
 have HC0_1 := aM_ hc0_1
 clear hr0_1 hc0_1
 have HB := aM_ (Below.refl w.heap.size w)
 have H : (impl_ProgOk.l0 k l0_1 (l0_1.length : Int) 0 l0_0 l0_1) = some r := h
 clear h
 have H' := aM_ H
 clear H
 go_enter Try.func63,Try.ntmps63
 go_wp2_with (first | ((with_reducible refine gate_dst (N := 1) rfl ?_);(try (refine gate_guard (by rfl) ?_;dsimp only));refine bX_ 1 (cs := #[.slice A0_0 l0_0.length c0_0,.slice A0_1 l0_1.length c0_1]) (t := 44) ?_;intro gb416 hg w2 hbox hb;have BK416 := aM_ (hbox);have GE416 := aM_ (sZ_ hg HB.out);replace HB := aM_ (sT_ HB.out hb);clear hb hbox hg;have z_3 := bR2_ BK416.out))
 go_loopg [8] k (fun kq v8 w' => ∃ (x8_1 : Int),v8 = .int .i64 x8_1 ∧ Aside0 (impl_ProgOk.l0 kq l0_1 (l0_1.length : Int) x8_1 l0_0 l0_1 = some r) ∧ Aside0 (kq ≤ k) ∧ Aside0 (w'.heap[gb416]? = some (.cells #[(.slice A0_0 l0_0.length c0_0),(.slice A0_1 l0_1.length c0_1)] 44 (0,0))) ∧ Aside0 (Below w.heap.size w w'))
 case atStart => exact ⟨(0),(by first | rfl | (simp;done) | (simp [*];done)),H',⟨Nat.le_refl _⟩,⟨rW_ BK416.out⟩,⟨gW_ HB.out⟩⟩
 case round =>
  clear H'
  (try clear p2);(try clear z_3)
  obtain ⟨x8_1,rfl,HA,HK1,BK416,HB⟩ := hrel
  cases gk with
  | zero => exact absurd HA.out (by simp [impl_ProgOk.l0])
  | succ k1 =>
   have H := HA.out
   clear HA
   simp only [impl_ProgOk.l0] at H
   by_cases c4 : x8_1 < (l0_1.length : Int)
   ·rw [if_pos c4] at H
    have c4b0 : decide (x8_1 < (l0_1.length : Int)) = true := decide_eq_true c4
    clear c4
    by_cases c5 : 0 ≤ x8_1
    ·rw [if_pos c5] at H
     have c5b0 : decide (0 ≤ x8_1) = true := decide_eq_true c5
     clear c5
     by_cases c6 : x8_1 < (l0_1.length : Int)
     ·rw [if_pos c6] at H
      have c6b0 : decide (x8_1 < (l0_1.length : Int)) = true := decide_eq_true c6
      clear c6
      replace H := Option.bind_eq_some_iff.mp H
      obtain ⟨t418,A70,H⟩ := H
      replace H : (if t418 = true then (impl_ProgOk.l0 k1 l0_1 (l0_1.length : Int) (wrap64 (x8_1 + 1)) l0_0 l0_1) else (some false)) = some r := H
      have A7 := aM_ A70
      clear A70
      by_cases c8 : t418 = true
      ·subst c8
       have H1 : (impl_ProgOk.l0 k1 l0_1 (l0_1.length : Int) (wrap64 (x8_1 + 1)) l0_0 l0_1) = some r := by rw [if_pos rfl] at H;exact H
       clear H
       have H := H1
       clear H1
       have H' := aM_ H
       clear H
       have p417 : 0 ≤ (x8_1 : Int) := pD_
       have q417 : x8_1 < (l0_1.length : Int) := pD_
       obtain ⟨ad417,A417_0,c417_0,e417,hx417_0,hl417_0,hi417_0⟩ := at_L4 HR0_1.out x8_1 p417 q417
       cases e417
       replace hx417_0 := cB_ HB.out hx417_0
       have HR417_0 := aM_ hi417_0
       have HC417_0 := aM_ hl417_0
       clear hi417_0 hl417_0
       replace p417 := eq_true p417
       replace q417 := eq_true q417
       have z_9 := bR2_ BK416.out
       go_wp2_with (first | (refine gL_ (some 16) Try.func126 #[.slice A417_0 (rd_L4 l0_1 x8_1).length c417_0,.int .i64 (l0_0.length : Int)] ?_;(with_reducible refine (impl_BodyOk.calls k1 _ _ (rd_L4 l0_1 x8_1) (l0_0.length : Int) true _ ?side1 HC417_0.out A7.out).mono ?_);(case side1 => exact cS_ (Kd.C_below HR417_0.out HB.out));rintro e w10 ⟨rfl,hb⟩;refine ⟨_,rfl,?_⟩;replace BK416 := aM_ (nB_ BK416.out hb);replace HB := aM_ (sT_ HB.out hb)))
       go_roundg k1
       case measure => have := HK1.out;omega
       case rel => exact ⟨(wrap64 (x8_1 + 1)),(by first | rfl | (simp;done) | (simp [*];done)),H',⟨by have := HK1.out;omega⟩,⟨rW_ BK416.out⟩,⟨gW_ HB.out⟩⟩
      ·replace c8 := Bool.eq_false_iff.mpr c8
       subst c8
       have H1 := hF_ H
       clear H
       have H := H1
       clear H1
       obtain rfl := sJ_ H
       have p417 : 0 ≤ (x8_1 : Int) := pD_
       have q417 : x8_1 < (l0_1.length : Int) := pD_
       obtain ⟨ad417,A417_0,c417_0,e417,hx417_0,hl417_0,hi417_0⟩ := at_L4 HR0_1.out x8_1 p417 q417
       cases e417
       replace hx417_0 := cB_ HB.out hx417_0
       have HR417_0 := aM_ hi417_0
       have HC417_0 := aM_ hl417_0
       clear hi417_0 hl417_0
       replace p417 := eq_true p417
       replace q417 := eq_true q417
       have z_11 := bR2_ BK416.out
       go_wp2_with (first | (refine gL_ (some 16) Try.func126 #[.slice A417_0 (rd_L4 l0_1 x8_1).length c417_0,.int .i64 (l0_0.length : Int)] ?_;(with_reducible refine (impl_BodyOk.calls k1 _ _ (rd_L4 l0_1 x8_1) (l0_0.length : Int) false _ ?side1 HC417_0.out A7.out).mono ?_);(case side1 => exact cS_ (Kd.C_below HR417_0.out HB.out));rintro e w12 ⟨rfl,hb⟩;refine ⟨_,rfl,?_⟩;replace BK416 := aM_ (nB_ BK416.out hb);replace HB := aM_ (sT_ HB.out hb)))
       go_ret
       exact fI_ HB.out
     ·rw [if_neg c6] at H
      exact absurd H (by simp)
    ·rw [if_neg c5] at H
     exact absurd H (by simp)
   ·rw [if_neg c4] at H
    have c4b0 : decide (x8_1 < (l0_1.length : Int)) = false := decide_eq_false c4
    clear c4
    by_cases c13 : (l0_0.length : Int) ≤ 3
    ·rw [if_pos c13] at H
     have c13b0 : decide ((l0_0.length : Int) ≤ 3) = true := decide_eq_true c13
     have c13b1 : decide (l0_0.length ≤ 3) = true := decide_eq_true (by omega)
     clear c13
     replace H := Option.bind_eq_some_iff.mp H
     obtain ⟨t419,A140,H⟩ := H
     replace H : (if t419 = true then ((impl_within.f (l0_1.length : Int) 1 4).bind fun t420 => (some t420)) else (some false)) = some r := H
     have A14 := aM_ A140
     clear A140
     by_cases c15 : t419 = true
     ·subst c15
      have H1 : ((impl_within.f (l0_1.length : Int) 1 4).bind fun t420 => (some t420)) = some r := by rw [if_pos rfl] at H;exact H
      clear H
      have H := H1
      clear H1
      replace H := Option.bind_eq_some_iff.mp H
      obtain ⟨t420,A160,H⟩ := H
      replace H : (some t420) = some r := H
      have A16 := aM_ A160
      clear A160
      obtain rfl := sJ_ H
      have z_17 := bR2_ BK416.out
      go_wp2_with (first | (go_at_call 109;(with_reducible refine (impl_capsOk.calls k1 _ _ l0_0 true _ ?side1 HC0_0.out A14.out).mono ?_);(case side1 => exact cS_ (Kd.C_below HR0_0.out HB.out));rintro e w' ⟨rfl,⟨nd,rfl⟩⟩) | (go_at_call 106;(with_reducible refine (impl_within.calls (l0_1.length : Int) 1 4 t420 _ A16.out).mono ?_);rintro e w' ⟨rfl,⟨nd,rfl⟩⟩))
      go_ret
      exact fI_ HB.out
     ·replace c15 := Bool.eq_false_iff.mpr c15
      subst c15
      have H1 := hF_ H
      clear H
      have H := H1
      clear H1
      obtain rfl := sJ_ H
      have z_18 := bR2_ BK416.out
      go_wp2_with (first | (go_at_call 109;(with_reducible refine (impl_capsOk.calls k1 _ _ l0_0 false _ ?side1 HC0_0.out A14.out).mono ?_);(case side1 => exact cS_ (Kd.C_below HR0_0.out HB.out));rintro e w' ⟨rfl,⟨nd,rfl⟩⟩))
      go_ret
      exact fI_ HB.out
    ·rw [if_neg c13] at H
     have c13b0 : decide ((l0_0.length : Int) ≤ 3) = false := decide_eq_false c13
     have c13b1 : decide (l0_0.length ≤ 3) = false := decide_eq_false (by omega)
     clear c13
     obtain rfl := sJ_ H
     have z_19 := bR2_ BK416.out
     go_wp2
     go_ret
     exact fI_ HB.out
def impl_notesOk.l0 : Nat → List (S35) → Int → List (S35) → Int → Int → Option (Bool)
  | 0,_,_,_,_,_ => none
  | k + 1,x0,x1,x7,x8,x9 => if x9 < x8 then (if 0 ≤ x9 then (if x9 < (x7.length : Int) then ((impl_within.f ((rd_T35 x7 x9).f0) 0 (wrap64 (x1 - 1))).bind fun t423 => (if t423 = true then (impl_notesOk.l0 k x0 x1 x7 x8 (wrap64 (x9 + 1))) else (some false))) else (none)) else (none)) else (some (decide ((x0.length : Int) ≤ 4000)))
def impl_notesOk.f (k : Nat) (l0 : List (S35)) (a1 : Int) : Option (Bool) := impl_notesOk.l0 k l0 a1 l0 (l0.length : Int) 0
set_option maxHeartbeats 8000000 in
theorem impl_notesOk.calls (k : Nat) (A0 : Option Addr) (c0 : Nat) (l0 : List (S35)) (a1 : Int) (r : Bool) (w : World) (hr0 : Kd.C k35 w A0 l0.length l0) (hc0 : l0.length ≤ c0) (h : impl_notesOk.f k l0 a1 = some r) :
  Calls Try.prog 135 #[.slice A0 l0.length c0,.int .i64 a1] w fun e w' => e = .returned (.bool r) ∧ Below w.heap.size w w' := by
 have hu35 := Try.underlying35
 have HR0 := aM_ hr0
 have HC0 := aM_ hc0
 clear hr0 hc0
 have HB := aM_ (Below.refl w.heap.size w)
 have H : (impl_notesOk.l0 k l0 a1 l0 (l0.length : Int) 0) = some r := h
 clear h
 have H' := aM_ H
 clear H
 go_enter Try.func135,Try.ntmps135
 go_wp2
 go_loopg [9] k (fun kq v9 w' => ∃ (x9_1 : Int),v9 = .int .i64 x9_1 ∧ Aside0 (impl_notesOk.l0 kq l0 a1 l0 (l0.length : Int) x9_1 = some r) ∧ Aside0 (kq ≤ k) ∧ Aside0 (Below w.heap.size w w'))
 case atStart => exact ⟨(0),(by first | rfl | (simp;done) | (simp [*];done)),H',⟨Nat.le_refl _⟩,⟨gW_ HB.out⟩⟩
 case round =>
  clear H'
  (try clear c1);(try clear p2)
  obtain ⟨x9_1,rfl,HA,HK1,HB⟩ := hrel
  cases gk with
  | zero => exact absurd HA.out (by simp [impl_notesOk.l0])
  | succ k1 =>
   have H := HA.out
   clear HA
   simp only [impl_notesOk.l0] at H
   by_cases c3 : x9_1 < (l0.length : Int)
   ·rw [if_pos c3] at H
    have c3b0 : decide (x9_1 < (l0.length : Int)) = true := decide_eq_true c3
    clear c3
    by_cases c4 : 0 ≤ x9_1
    ·rw [if_pos c4] at H
     have c4b0 : decide (0 ≤ x9_1) = true := decide_eq_true c4
     clear c4
     by_cases c5 : x9_1 < (l0.length : Int)
     ·rw [if_pos c5] at H
      have c5b0 : decide (x9_1 < (l0.length : Int)) = true := decide_eq_true c5
      clear c5
      replace H := Option.bind_eq_some_iff.mp H
      obtain ⟨t423,A60,H⟩ := H
      replace H : (if t423 = true then (impl_notesOk.l0 k1 l0 a1 l0 (l0.length : Int) (wrap64 (x9_1 + 1))) else (some false)) = some r := H
      have A6 := aM_ A60
      clear A60
      by_cases c7 : t423 = true
      ·subst c7
       have H1 : (impl_notesOk.l0 k1 l0 a1 l0 (l0.length : Int) (wrap64 (x9_1 + 1))) = some r := by rw [if_pos rfl] at H;exact H
       clear H
       have H := H1
       clear H1
       have H' := aM_ H
       clear H
       have p421 : 0 ≤ (x9_1 : Int) := pD_
       have q421 : x9_1 < (l0.length : Int) := pD_
       obtain ⟨ad421,e421,hx421_0,hx421_1⟩ := at_T35 HR0.out x9_1 p421 q421
       cases e421
       replace hx421_0 := cB_ HB.out hx421_0
       replace hx421_1 := cB_ HB.out hx421_1
       replace p421 := eq_true p421
       replace q421 := eq_true q421
       go_wp2_with (first | (refine bX_ 6 (cs := #[.int .i64 0,.int .i64 0]) (t := 35) ?_;intro gb422 hg w8 hbox hb;have BK422 := aM_ (hbox);have GE422 := aM_ (sZ_ hg HB.out);replace HB := aM_ (sT_ HB.out hb);clear hb hbox hg;have z_9 := bR2_ BK422.out) | (refine gL_ (some 17) Try.func106 #[.int .i64 ((rd_T35 l0 x9_1).f0),.int .i64 0,.int .i64 (wrap64 (a1 - 1))] ?_;(with_reducible refine (impl_within.calls ((rd_T35 l0 x9_1).f0) 0 (wrap64 (a1 - 1)) true _ A6.out).mono ?_);rintro e w' ⟨rfl,⟨nd,rfl⟩⟩;refine ⟨_,rfl,?_⟩))
       go_roundg k1
       case measure => have := HK1.out;omega
       case rel => exact ⟨(wrap64 (x9_1 + 1)),(by first | rfl | (simp;done) | (simp [*];done)),H',⟨by have := HK1.out;omega⟩,⟨gW_ HB.out⟩⟩
      ·replace c7 := Bool.eq_false_iff.mpr c7
       subst c7
       have H1 := hF_ H
       clear H
       have H := H1
       clear H1
       obtain rfl := sJ_ H
       have p421 : 0 ≤ (x9_1 : Int) := pD_
       have q421 : x9_1 < (l0.length : Int) := pD_
       obtain ⟨ad421,e421,hx421_0,hx421_1⟩ := at_T35 HR0.out x9_1 p421 q421
       cases e421
       replace hx421_0 := cB_ HB.out hx421_0
       replace hx421_1 := cB_ HB.out hx421_1
       replace p421 := eq_true p421
       replace q421 := eq_true q421
       go_wp2_with (first | (refine bX_ 6 (cs := #[.int .i64 0,.int .i64 0]) (t := 35) ?_;intro gb422 hg w10 hbox hb;have BK422 := aM_ (hbox);have GE422 := aM_ (sZ_ hg HB.out);replace HB := aM_ (sT_ HB.out hb);clear hb hbox hg;have z_11 := bR2_ BK422.out) | (refine gL_ (some 17) Try.func106 #[.int .i64 ((rd_T35 l0 x9_1).f0),.int .i64 0,.int .i64 (wrap64 (a1 - 1))] ?_;(with_reducible refine (impl_within.calls ((rd_T35 l0 x9_1).f0) 0 (wrap64 (a1 - 1)) false _ A6.out).mono ?_);rintro e w' ⟨rfl,⟨nd,rfl⟩⟩;refine ⟨_,rfl,?_⟩))
       go_ret
       exact fI_ HB.out
     ·rw [if_neg c5] at H
      exact absurd H (by simp)
    ·rw [if_neg c4] at H
     exact absurd H (by simp)
   ·rw [if_neg c3] at H
    have c3b0 : decide (x9_1 < (l0.length : Int)) = false := decide_eq_false c3
    clear c3
    obtain rfl := sJ_ H
    go_wp2
    go_ret
    exact fI_ HB.out
end Go.Proofs.Ytobachfngmpeiaa.PFnExactAble
