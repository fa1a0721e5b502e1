/- Part of the proof of FnExactAble. -/
import Derived.Test.YtobachfngmpeiaaZFnExactAblea8
import Derived.Test.YtobachfngmpeiaaZFnExactAbles
namespace Go.Proofs.Ytobachfngmpeiaa.PFnExactAble
open Go.RowKit Go.Proofs.YtobachfngmpeiaaW.PrintWords Go.Proofs.YtobachfngmpeiaaW.PrintLast Go.Proofs.YtobachfngmpeiaaW.PrintMore
attribute [local go_sem] max2_int min2_int max_two min_two max_three min_three max_four min_four   -- for this text's walks alone
set_option linter.unusedVariables false
set_option linter.unusedSimpArgs false
attribute [local go_sem high] eqA192
mutual
def spec_InsOk.j0 : Nat → Int → Int → Bool → Int → Int → Int → Int → Int → Option (Bool)
  | 0,_,_,_,_,_,_,_,_ => none
  | k + 1,x1,x2,x29,x257000,x257001,x257002,x257003,x257004 => if x29 = true then (some false) else (if x257004 ≥ 0 then (spec_InsOk.j1 k x2 (decide (x257004 < x1)) x257000 x257001 x257002 x257003 x257004) else (spec_InsOk.j1 k x2 false x257000 x257001 x257002 x257003 x257004))
def spec_InsOk.j1 : Nat → Int → Bool → Int → Int → Int → Int → Int → Option (Bool)
  | 0,_,_,_,_,_,_,_ => none
  | k + 1,x2,x7,x257000,x257001,x257002,x257003,x257004 => (spec_l1In.f x257004 0 (wrap64 (x2 - 1))).bind fun t261 => (if x257000 = 1 then ((spec_l1In.f x257004 (-1000000000) 1000000000).bind fun t262 => (if t262 = true then (if x257002 = 0 then (some (x257003 == 0)) else (some false)) else (some false))) else (if x257000 = 2 then (spec_InsOk.j2 k x7 t261 x257000 (x257000 == 2) x257000 x257001 x257002 x257003 x257004) else (if x257000 = 3 then (spec_InsOk.j2 k x7 t261 x257000 (x257000 == 3) x257000 x257001 x257002 x257003 x257004) else (spec_InsOk.j2 k x7 t261 x257000 (x257000 == 4) x257000 x257001 x257002 x257003 x257004))))
def spec_InsOk.j2 : Nat → Bool → Bool → Int → Bool → Int → Int → Int → Int → Int → Option (Bool)
  | 0,_,_,_,_,_,_,_,_,_ => none
  | k + 1,x7,x8,x45,x61,x257000,x257001,x257002,x257003,x257004 => if x61 = true then (some (x257004 == 0)) else (if x45 = 5 then (if x8 = true then (if x257001 = 0 then (some (x257003 == 0)) else (some false)) else (some false)) else (if x45 = 6 then (spec_InsOk.j3 k x7 x8 x45 (x45 == 6) x257000 x257001 x257002 x257003 x257004) else (spec_InsOk.j3 k x7 x8 x45 (x45 == 8) x257000 x257001 x257002 x257003 x257004)))
def spec_InsOk.j3 : Nat → Bool → Bool → Int → Bool → Int → Int → Int → Int → Int → Option (Bool)
  | 0,_,_,_,_,_,_,_,_,_ => none
  | k + 1,x7,x8,x45,x81,x257000,x257001,x257002,x257003,x257004 => if x81 = true then (if x8 = true then (if x257002 = 0 then (some (x257001 != x257003)) else (some false)) else (some false)) else (if x45 = 7 then (if x8 = true then (some (x257003 == 0)) else (some false)) else (if x45 = 9 then (if x8 = true then (if x257001 = 0 then (if x257002 = 0 then (some (x257003 == 0)) else (some false)) else (some false)) else (some false)) else (if x45 = 10 then (if x257001 = 0 then (if x257003 = 0 then (some (x257004 == 0)) else (some false)) else (some false)) else (if x45 = 11 then (if x7 = true then (if x257001 = 0 then (if x257002 = 0 then (some (x257003 == 0)) else (some false)) else (some false)) else (some false)) else (if x45 = 12 then (if x7 = true then (if x257001 = 0 then (some (x257003 == 0)) else (some false)) else (some false)) else (if x45 = 13 then (some (x257000 == 13 && (x257001 == 0 && (x257002 == 0 && (x257003 == 0 && (x257004 == 0)))))) else (some false)))))))
end
def spec_InsOk.f (k : Nat) (a0_0 : Int) (a0_1 : Int) (a0_2 : Int) (a0_3 : Int) (a0_4 : Int) (a1 : Int) (a2 : Int) : Option (Bool) := (spec_l1In.f a0_1 0 3).bind fun t257 => (if t257 = true then ((spec_l1In.f a0_2 0 3).bind fun t258 => (if t258 = true then ((spec_l1In.f a0_3 0 3).bind fun t259 => (if t259 = true then ((spec_l1In.f a2 0 3).bind fun t260 => (spec_InsOk.j0 k a1 a2 (!t260) a0_0 a0_1 a0_2 a0_3 a0_4)) else (spec_InsOk.j0 k a1 a2 true a0_0 a0_1 a0_2 a0_3 a0_4))) else (spec_InsOk.j0 k a1 a2 true a0_0 a0_1 a0_2 a0_3 a0_4))) else (spec_InsOk.j0 k a1 a2 true a0_0 a0_1 a0_2 a0_3 a0_4))
set_option maxHeartbeats 8000000 in
set_option maxRecDepth 100000 in
theorem spec_InsOk.calls (k : Nat) (a0_0 : Int) (a0_1 : Int) (a0_2 : Int) (a0_3 : Int) (a0_4 : Int) (a1 : Int) (a2 : Int) (r : Bool) (w : World) (h : spec_InsOk.f k a0_0 a0_1 a0_2 a0_3 a0_4 a1 a2 = some r) :
  Calls Try.prog 162 #[.agg #[.int .i64 a0_0,.int .i64 a0_1,.int .i64 a0_2,.int .i64 a0_3,.int .i64 a0_4],.int .i64 a1,.int .i64 a2] w fun e w' => e = .returned (.bool r) ∧ Below w.heap.size w w' := by
 have hu192 := Try.underlying192
 have HB := aM_ (Below.refl w.heap.size w)
 have H : ((spec_l1In.f a0_1 0 3).bind fun t257 => (if t257 = true then ((spec_l1In.f a0_2 0 3).bind fun t258 => (if t258 = true then ((spec_l1In.f a0_3 0 3).bind fun t259 => (if t259 = true then ((spec_l1In.f a2 0 3).bind fun t260 => (spec_InsOk.j0 k a1 a2 (!t260) a0_0 a0_1 a0_2 a0_3 a0_4)) else (spec_InsOk.j0 k a1 a2 true a0_0 a0_1 a0_2 a0_3 a0_4))) else (spec_InsOk.j0 k a1 a2 true a0_0 a0_1 a0_2 a0_3 a0_4))) else (spec_InsOk.j0 k a1 a2 true a0_0 a0_1 a0_2 a0_3 a0_4))) = some r := h
 clear h
 have HC4 := aM_ H
 clear H
 go_enter Try.func162,Try.ntmps162
 go_upto_region 1 with (first | (refine bX_ 3 (cs := #[.int .i64 a0_0,.int .i64 a0_1,.int .i64 a0_2,.int .i64 a0_3,.int .i64 a0_4]) (t := 192) ?_;intro gb256 hg w5 hbox hb;have BK256 := aM_ (hbox);have GE256 := aM_ (sZ_ hg HB.out);replace HB := aM_ (sT_ HB.out hb);clear hb hbox hg))
 (try simp only [Act.put,List.setIfInBounds_toArray,List.set_cons_zero,List.set_cons_succ])
 go_cut [29] (fun v29 wc => ∃ (kq : Nat) (x29_3 : Bool),v29 = .bool x29_3 ∧ Aside0 (spec_InsOk.j0 kq a1 a2 x29_3 a0_0 a0_1 a0_2 a0_3 a0_4 = some r) ∧ Aside0 (kq ≤ k) ∧ Aside0 (wc.heap[gb256]? = some (.cells #[.int .i64 a0_0,.int .i64 a0_1,.int .i64 a0_2,.int .i64 a0_3,.int .i64 a0_4] 192 (0,0))) ∧ Aside0 (Below w.heap.size w wc))
 case first =>
  have H := HC4.out
  clear HC4
  replace H := Option.bind_eq_some_iff.mp H
  obtain ⟨t257,A60,H⟩ := H
  replace H : (if t257 = true then ((spec_l1In.f a0_2 0 3).bind fun t258 => (if t258 = true then ((spec_l1In.f a0_3 0 3).bind fun t259 => (if t259 = true then ((spec_l1In.f a2 0 3).bind fun t260 => (spec_InsOk.j0 k a1 a2 (!t260) a0_0 a0_1 a0_2 a0_3 a0_4)) else (spec_InsOk.j0 k a1 a2 true a0_0 a0_1 a0_2 a0_3 a0_4))) else (spec_InsOk.j0 k a1 a2 true a0_0 a0_1 a0_2 a0_3 a0_4))) else (spec_InsOk.j0 k a1 a2 true a0_0 a0_1 a0_2 a0_3 a0_4)) = some r := H
  have A6 := aM_ A60
  clear A60
  by_cases c7 : t257 = true
  ·subst c7
   have H1 : ((spec_l1In.f a0_2 0 3).bind fun t258 => (if t258 = true then ((spec_l1In.f a0_3 0 3).bind fun t259 => (if t259 = true then ((spec_l1In.f a2 0 3).bind fun t260 => (spec_InsOk.j0 k a1 a2 (!t260) a0_0 a0_1 a0_2 a0_3 a0_4)) else (spec_InsOk.j0 k a1 a2 true a0_0 a0_1 a0_2 a0_3 a0_4))) else (spec_InsOk.j0 k a1 a2 true a0_0 a0_1 a0_2 a0_3 a0_4))) = some r := by rw [if_pos rfl] at H;exact H
   clear H
   have H := H1
   clear H1
   replace H := Option.bind_eq_some_iff.mp H
   obtain ⟨t258,A80,H⟩ := H
   replace H : (if t258 = true then ((spec_l1In.f a0_3 0 3).bind fun t259 => (if t259 = true then ((spec_l1In.f a2 0 3).bind fun t260 => (spec_InsOk.j0 k a1 a2 (!t260) a0_0 a0_1 a0_2 a0_3 a0_4)) else (spec_InsOk.j0 k a1 a2 true a0_0 a0_1 a0_2 a0_3 a0_4))) else (spec_InsOk.j0 k a1 a2 true a0_0 a0_1 a0_2 a0_3 a0_4)) = some r := H
   have A8 := aM_ A80
   clear A80
   by_cases c9 : t258 = true
   ·subst c9
    have H1 : ((spec_l1In.f a0_3 0 3).bind fun t259 => (if t259 = true then ((spec_l1In.f a2 0 3).bind fun t260 => (spec_InsOk.j0 k a1 a2 (!t260) a0_0 a0_1 a0_2 a0_3 a0_4)) else (spec_InsOk.j0 k a1 a2 true a0_0 a0_1 a0_2 a0_3 a0_4))) = some r := by rw [if_pos rfl] at H;exact H
    clear H
    have H := H1
    clear H1
    replace H := Option.bind_eq_some_iff.mp H
    obtain ⟨t259,A100,H⟩ := H
    replace H : (if t259 = true then ((spec_l1In.f a2 0 3).bind fun t260 => (spec_InsOk.j0 k a1 a2 (!t260) a0_0 a0_1 a0_2 a0_3 a0_4)) else (spec_InsOk.j0 k a1 a2 true a0_0 a0_1 a0_2 a0_3 a0_4)) = some r := H
    have A10 := aM_ A100
    clear A100
    by_cases c11 : t259 = true
    ·subst c11
     have H1 : ((spec_l1In.f a2 0 3).bind fun t260 => (spec_InsOk.j0 k a1 a2 (!t260) a0_0 a0_1 a0_2 a0_3 a0_4)) = some r := by rw [if_pos rfl] at H;exact H
     clear H
     have H := H1
     clear H1
     replace H := Option.bind_eq_some_iff.mp H
     obtain ⟨t260,A120,H⟩ := H
     replace H : (spec_InsOk.j0 k a1 a2 (!t260) a0_0 a0_1 a0_2 a0_3 a0_4) = some r := H
     have A12 := aM_ A120
     clear A120
     have H' := aM_ H
     clear H
     have z_13 := bR5_ BK256.out
     go_wp2_with (first | (refine gL_ (some 11) Try.func111 #[.int .i64 a0_1,.int .i64 0,.int .i64 3] ?_;(with_reducible refine (spec_l1In.calls a0_1 0 3 true _ A6.out).mono ?_);rintro e w' ⟨rfl,⟨nd,rfl⟩⟩;refine ⟨_,rfl,?_⟩) | (go_at_call 111;(with_reducible refine (spec_l1In.calls a0_2 0 3 true _ A8.out).mono ?_);rintro e w' ⟨rfl,⟨nd,rfl⟩⟩) | (go_at_call 111;(with_reducible refine (spec_l1In.calls a0_3 0 3 true _ A10.out).mono ?_);rintro e w' ⟨rfl,⟨nd,rfl⟩⟩) | (go_at_call 111;(with_reducible refine (spec_l1In.calls a2 0 3 t260 _ A12.out).mono ?_);rintro e w' ⟨rfl,⟨nd,rfl⟩⟩))
     go_meet
     case rel => exact ⟨_,(!t260),(by first | rfl | (simp;done) | (simp [*];done)),H',⟨by first | omega | exact Nat.le_refl _⟩,⟨rW_ BK256.out⟩,⟨gW_ HB.out⟩⟩
    ·replace c11 := Bool.eq_false_iff.mpr c11
     subst c11
     have H1 : (spec_InsOk.j0 k a1 a2 true a0_0 a0_1 a0_2 a0_3 a0_4) = some r := by rw [if_neg (show ¬ (false = true) by decide)] at H;exact H
     clear H
     have H := H1
     clear H1
     have H' := aM_ H
     clear H
     have z_14 := bR5_ BK256.out
     go_wp2_with (first | (refine gL_ (some 11) Try.func111 #[.int .i64 a0_1,.int .i64 0,.int .i64 3] ?_;(with_reducible refine (spec_l1In.calls a0_1 0 3 true _ A6.out).mono ?_);rintro e w' ⟨rfl,⟨nd,rfl⟩⟩;refine ⟨_,rfl,?_⟩) | (go_at_call 111;(with_reducible refine (spec_l1In.calls a0_2 0 3 true _ A8.out).mono ?_);rintro e w' ⟨rfl,⟨nd,rfl⟩⟩) | (go_at_call 111;(with_reducible refine (spec_l1In.calls a0_3 0 3 false _ A10.out).mono ?_);rintro e w' ⟨rfl,⟨nd,rfl⟩⟩))
     go_meet
     case rel => exact ⟨_,(true),(by first | rfl | (simp;done) | (simp [*];done)),H',⟨by first | omega | exact Nat.le_refl _⟩,⟨rW_ BK256.out⟩,⟨gW_ HB.out⟩⟩
   ·replace c9 := Bool.eq_false_iff.mpr c9
    subst c9
    have H1 : (spec_InsOk.j0 k a1 a2 true a0_0 a0_1 a0_2 a0_3 a0_4) = some r := by rw [if_neg (show ¬ (false = true) by decide)] at H;exact H
    clear H
    have H := H1
    clear H1
    have H' := aM_ H
    clear H
    have z_15 := bR5_ BK256.out
    go_wp2_with (first | (refine gL_ (some 11) Try.func111 #[.int .i64 a0_1,.int .i64 0,.int .i64 3] ?_;(with_reducible refine (spec_l1In.calls a0_1 0 3 true _ A6.out).mono ?_);rintro e w' ⟨rfl,⟨nd,rfl⟩⟩;refine ⟨_,rfl,?_⟩) | (go_at_call 111;(with_reducible refine (spec_l1In.calls a0_2 0 3 false _ A8.out).mono ?_);rintro e w' ⟨rfl,⟨nd,rfl⟩⟩))
    go_meet
    case rel => exact ⟨_,(true),(by first | rfl | (simp;done) | (simp [*];done)),H',⟨by first | omega | exact Nat.le_refl _⟩,⟨rW_ BK256.out⟩,⟨gW_ HB.out⟩⟩
  ·replace c7 := Bool.eq_false_iff.mpr c7
   subst c7
   have H1 : (spec_InsOk.j0 k a1 a2 true a0_0 a0_1 a0_2 a0_3 a0_4) = some r := by rw [if_neg (show ¬ (false = true) by decide)] at H;exact H
   clear H
   have H := H1
   clear H1
   have H' := aM_ H
   clear H
   have z_16 := bR5_ BK256.out
   go_wp2_with (first | (refine gL_ (some 11) Try.func111 #[.int .i64 a0_1,.int .i64 0,.int .i64 3] ?_;(with_reducible refine (spec_l1In.calls a0_1 0 3 false _ A6.out).mono ?_);rintro e w' ⟨rfl,⟨nd,rfl⟩⟩;refine ⟨_,rfl,?_⟩))
   go_meet
   case rel => exact ⟨_,(true),(by first | rfl | (simp;done) | (simp [*];done)),H',⟨by first | omega | exact Nat.le_refl _⟩,⟨rW_ BK256.out⟩,⟨gW_ HB.out⟩⟩
 case rest =>
  clear HC4
  (try clear c1);(try clear p2);(try clear c7);(try clear c9);(try clear c11);(try clear c16);(try clear z_13);(try clear z_14);(try clear z_15);(try clear z_16)
  obtain ⟨kq,x29_3,rfl,HA,HJ3,BK256,HB⟩ := hcut
  cases kq with
  | zero => exact absurd HA.out (by simp [spec_InsOk.j0])
  | succ kj3 =>
   have H := HA.out
   clear HA
   simp only [spec_InsOk.j0] at H
   by_cases c17 : x29_3 = true
   ·subst c17
    have H1 : (some false) = some r := by rw [if_pos rfl] at H;exact H
    clear H
    have H := H1
    clear H1
    obtain rfl := sJ_ H
    go_wp2
    go_ret
    exact fI_ HB.out
   ·replace c17 := Bool.eq_false_iff.mpr c17
    subst c17
    have H1 : (if a0_4 ≥ 0 then (spec_InsOk.j1 kj3 a2 (decide (a0_4 < a1)) a0_0 a0_1 a0_2 a0_3 a0_4) else (spec_InsOk.j1 kj3 a2 false a0_0 a0_1 a0_2 a0_3 a0_4)) = some r := by rw [if_neg (show ¬ (false = true) by decide)] at H;exact H
    clear H
    have H := H1
    clear H1
    have HC18 := aM_ H
    clear H
    go_upto_region 3 with (fail)
    go_cut [7] (fun v7 wc => ∃ (kq : Nat) (x7_17 : Bool),v7 = .bool x7_17 ∧ Aside0 (spec_InsOk.j1 kq a2 x7_17 a0_0 a0_1 a0_2 a0_3 a0_4 = some r) ∧ Aside0 (kq ≤ kj3) ∧ Aside0 (wc.heap[gb256]? = some (.cells #[.int .i64 a0_0,.int .i64 a0_1,.int .i64 a0_2,.int .i64 a0_3,.int .i64 a0_4] 192 (0,0))) ∧ Aside0 (Below w.heap.size w wc))
    case first =>
     have H := HC18.out
     clear HC18
     by_cases c19 : a0_4 ≥ 0
     ·rw [if_pos c19] at H
      have c19b0 : decide (0 ≤ a0_4) = true := decide_eq_true c19
      clear c19
      (first | rw [c19b0] | (simp only [i64_w,i32_w];rw [c19b0]) | skip)
      have H' := aM_ H
      clear H
      have z_20 := bR5_ BK256.out
      go_wp2
      go_meet
      case rel => exact ⟨_,(decide (a0_4 < a1)),(by first | rfl | (simp;done) | (simp [*];done)),H',⟨by have := HJ3.out;first | omega | exact Nat.le_refl _⟩,⟨rW_ BK256.out⟩,⟨gW_ HB.out⟩⟩
     ·rw [if_neg c19] at H
      have c19b0 : decide (0 ≤ a0_4) = false := decide_eq_false c19
      clear c19
      (first | rw [c19b0] | (simp only [i64_w,i32_w];rw [c19b0]) | skip)
      have H' := aM_ H
      clear H
      have z_21 := bR5_ BK256.out
      go_wp2
      go_meet
      case rel => exact ⟨_,(false),(by first | rfl | (simp;done) | (simp [*];done)),H',⟨by have := HJ3.out;first | omega | exact Nat.le_refl _⟩,⟨rW_ BK256.out⟩,⟨gW_ HB.out⟩⟩
    case rest =>
     clear HC18
     (try clear c1);(try clear p2);(try clear c7);(try clear c9);(try clear c11);(try clear c16);(try clear c17);(try clear c19);(try clear c19b0);(try clear z_13);(try clear z_14);(try clear z_15);(try clear z_16);(try clear z_20);(try clear z_21);(try clear p2)
     obtain ⟨kq,x7_17,rfl,HA,HJ17,BK256,HB⟩ := hcut
     cases kq with
     | zero => exact absurd HA.out (by simp [spec_InsOk.j1])
     | succ kj17 =>
      have H := HA.out
      clear HA
      simp only [spec_InsOk.j1] at H
      replace H := Option.bind_eq_some_iff.mp H
      obtain ⟨t261,A220,H⟩ := H
      replace H : (if a0_0 = 1 then ((spec_l1In.f a0_4 (-1000000000) 1000000000).bind fun t262 => (if t262 = true then (if a0_2 = 0 then (some (a0_3 == 0)) else (some false)) else (some false))) else (if a0_0 = 2 then (spec_InsOk.j2 kj17 x7_17 t261 a0_0 (a0_0 == 2) a0_0 a0_1 a0_2 a0_3 a0_4) else (if a0_0 = 3 then (spec_InsOk.j2 kj17 x7_17 t261 a0_0 (a0_0 == 3) a0_0 a0_1 a0_2 a0_3 a0_4) else (spec_InsOk.j2 kj17 x7_17 t261 a0_0 (a0_0 == 4) a0_0 a0_1 a0_2 a0_3 a0_4)))) = some r := H
      have A22 := aM_ A220
      clear A220
      by_cases c23 : a0_0 = 1
      ·rw [if_pos c23] at H
       have c23b0 : (a0_0 == 1) = true := beq_iff_eq.mpr c23
       have c23b1 : (a0_0 != 1) = false := bne_eq_false_iff_eq.mpr c23
       clear c23
       replace H := Option.bind_eq_some_iff.mp H
       obtain ⟨t262,A240,H⟩ := H
       replace H : (if t262 = true then (if a0_2 = 0 then (some (a0_3 == 0)) else (some false)) else (some false)) = some r := H
       have A24 := aM_ A240
       clear A240
       by_cases c25 : t262 = true
       ·subst c25
        have H1 : (if a0_2 = 0 then (some (a0_3 == 0)) else (some false)) = some r := by rw [if_pos rfl] at H;exact H
        clear H
        have H := H1
        clear H1
        by_cases c26 : a0_2 = 0
        ·rw [if_pos c26] at H
         have c26b0 : (a0_2 == 0) = true := beq_iff_eq.mpr c26
         have c26b1 : (a0_2 != 0) = false := bne_eq_false_iff_eq.mpr c26
         clear c26
         obtain rfl := sJ_ H
         have z_27 := bR5_ BK256.out
         go_wp2_with (first | (refine gL_ (some 43) Try.func111 #[.int .i64 a0_4,.int .i64 0,.int .i64 (wrap64 (a2 - 1))] ?_;(with_reducible refine (spec_l1In.calls a0_4 0 (wrap64 (a2 - 1)) t261 _ A22.out).mono ?_);rintro e w' ⟨rfl,⟨nd,rfl⟩⟩;refine ⟨_,rfl,?_⟩) | (refine gL_ (some 50) Try.func111 #[.int .i64 a0_4,.int .i64 (-1000000000),.int .i64 1000000000] ?_;(with_reducible refine (spec_l1In.calls a0_4 (-1000000000) 1000000000 true _ A24.out).mono ?_);rintro e w' ⟨rfl,⟨nd,rfl⟩⟩;refine ⟨_,rfl,?_⟩))
         go_ret
         exact fI_ HB.out
        ·rw [if_neg c26] at H
         have c26b0 : (a0_2 == 0) = false := beq_eq_false_iff_ne.mpr c26
         have c26b1 : (a0_2 != 0) = true := bne_iff_ne.mpr c26
         obtain rfl := sJ_ H
         have z_28 := bR5_ BK256.out
         go_wp2_with (first | (refine gL_ (some 43) Try.func111 #[.int .i64 a0_4,.int .i64 0,.int .i64 (wrap64 (a2 - 1))] ?_;(with_reducible refine (spec_l1In.calls a0_4 0 (wrap64 (a2 - 1)) t261 _ A22.out).mono ?_);rintro e w' ⟨rfl,⟨nd,rfl⟩⟩;refine ⟨_,rfl,?_⟩) | (refine gL_ (some 50) Try.func111 #[.int .i64 a0_4,.int .i64 (-1000000000),.int .i64 1000000000] ?_;(with_reducible refine (spec_l1In.calls a0_4 (-1000000000) 1000000000 true _ A24.out).mono ?_);rintro e w' ⟨rfl,⟨nd,rfl⟩⟩;refine ⟨_,rfl,?_⟩))
         go_ret
         exact fI_ HB.out
       ·replace c25 := Bool.eq_false_iff.mpr c25
        subst c25
        have H1 := hF_ H
        clear H
        have H := H1
        clear H1
        obtain rfl := sJ_ H
        have z_29 := bR5_ BK256.out
        go_wp2_with (first | (refine gL_ (some 43) Try.func111 #[.int .i64 a0_4,.int .i64 0,.int .i64 (wrap64 (a2 - 1))] ?_;(with_reducible refine (spec_l1In.calls a0_4 0 (wrap64 (a2 - 1)) t261 _ A22.out).mono ?_);rintro e w' ⟨rfl,⟨nd,rfl⟩⟩;refine ⟨_,rfl,?_⟩) | (refine gL_ (some 50) Try.func111 #[.int .i64 a0_4,.int .i64 (-1000000000),.int .i64 1000000000] ?_;(with_reducible refine (spec_l1In.calls a0_4 (-1000000000) 1000000000 false _ A24.out).mono ?_);rintro e w' ⟨rfl,⟨nd,rfl⟩⟩;refine ⟨_,rfl,?_⟩))
        go_ret
        exact fI_ HB.out
      ·rw [if_neg c23] at H
       have c23b0 : (a0_0 == 1) = false := beq_eq_false_iff_ne.mpr c23
       have c23b1 : (a0_0 != 1) = true := bne_iff_ne.mpr c23
       have HC30 := aM_ H
       clear H
       have z_31 := bR5_ BK256.out
       go_upto_if 61 with (first | (refine gL_ (some 43) Try.func111 #[.int .i64 a0_4,.int .i64 0,.int .i64 (wrap64 (a2 - 1))] ?_;(with_reducible refine (spec_l1In.calls a0_4 0 (wrap64 (a2 - 1)) t261 _ A22.out).mono ?_);rintro e w' ⟨rfl,⟨nd,rfl⟩⟩;refine ⟨_,rfl,?_⟩))
       (try simp only [Act.put,List.setIfInBounds_toArray,List.set_cons_zero,List.set_cons_succ])
       go_cut [61] (fun v61 wc => ∃ (kq : Nat) (x61_29 : Bool),v61 = .bool x61_29 ∧ Aside0 (spec_InsOk.j2 kq x7_17 t261 a0_0 x61_29 a0_0 a0_1 a0_2 a0_3 a0_4 = some r) ∧ Aside0 (kq ≤ kj17) ∧ Aside0 (wc.heap[gb256]? = some (.cells #[.int .i64 a0_0,.int .i64 a0_1,.int .i64 a0_2,.int .i64 a0_3,.int .i64 a0_4] 192 (0,0))) ∧ Aside0 (Below w.heap.size w wc))
       case first =>
        have H := HC30.out
        clear HC30
        by_cases c32 : a0_0 = 2
        ·rw [if_pos c32] at H
         have c32b0 : (a0_0 == 2) = true := beq_iff_eq.mpr c32
         have c32b1 : (a0_0 != 2) = false := bne_eq_false_iff_eq.mpr c32
         clear c32
         (first | rw [c32b0] | (simp only [i64_w,i32_w];rw [c32b0]) | skip)
         have H' := aM_ H
         clear H
         go_wp2
         go_meet
         case rel => exact ⟨_,((a0_0 == 2)),(by first | rfl | (simp;done) | (simp [*];done)),H',⟨by have := HJ3.out;have := HJ17.out;first | omega | exact Nat.le_refl _⟩,⟨rW_ BK256.out⟩,⟨gW_ HB.out⟩⟩
        ·rw [if_neg c32] at H
         have c32b0 : (a0_0 == 2) = false := beq_eq_false_iff_ne.mpr c32
         have c32b1 : (a0_0 != 2) = true := bne_iff_ne.mpr c32
         (first | rw [c32b0] | (simp only [i64_w,i32_w];rw [c32b0]) | skip)
         by_cases c33 : a0_0 = 3
         ·rw [if_pos c33] at H
          have c33b0 : (a0_0 == 3) = true := beq_iff_eq.mpr c33
          have c33b1 : (a0_0 != 3) = false := bne_eq_false_iff_eq.mpr c33
          clear c33
          have H' := aM_ H
          clear H
          go_wp2
          go_meet
          case rel => exact ⟨_,((a0_0 == 3)),(by first | rfl | (simp;done) | (simp [*];done)),H',⟨by have := HJ3.out;have := HJ17.out;first | omega | exact Nat.le_refl _⟩,⟨rW_ BK256.out⟩,⟨gW_ HB.out⟩⟩
         ·rw [if_neg c33] at H
          have c33b0 : (a0_0 == 3) = false := beq_eq_false_iff_ne.mpr c33
          have c33b1 : (a0_0 != 3) = true := bne_iff_ne.mpr c33
          have H' := aM_ H
          clear H
          go_wp2
          go_meet
          case rel => exact ⟨_,((a0_0 == 4)),(by first | rfl | (simp;done) | (simp [*];done)),H',⟨by have := HJ3.out;have := HJ17.out;first | omega | exact Nat.le_refl _⟩,⟨rW_ BK256.out⟩,⟨gW_ HB.out⟩⟩
       case rest =>
        clear HC30
        (try clear c1);(try clear c2);(try clear p2);(try clear c3);(try clear p6);(try clear c7);(try clear c9);(try clear c11);(try clear c16);(try clear c17);(try clear c19);(try clear c19b0);(try clear c23);(try clear c23b0);(try clear c23b1);(try clear c25);(try clear c26);(try clear c26b0);(try clear c26b1);(try clear c32);(try clear c32b0);(try clear c32b1);(try clear c33);(try clear c33b0);(try clear c33b1);(try clear z_13);(try clear z_14);(try clear z_15);(try clear z_16);(try clear z_20);(try clear z_21);(try clear z_27);(try clear z_28);(try clear z_29);(try clear z_31);(try clear p2)
        obtain ⟨kq,x61_29,rfl,HA,HJ29,BK256,HB⟩ := hcut
        cases kq with
        | zero => exact absurd HA.out (by simp [spec_InsOk.j2])
        | succ kj29 =>
         have H := HA.out
         clear HA
         simp only [spec_InsOk.j2] at H
         by_cases c34 : x61_29 = true
         ·subst c34
          have H1 : (some (a0_4 == 0)) = some r := by rw [if_pos rfl] at H;exact H
          clear H
          have H := H1
          clear H1
          obtain rfl := sJ_ H
          have z_35 := bR5_ BK256.out
          go_wp2
          go_ret
          exact fI_ HB.out
         ·replace c34 := Bool.eq_false_iff.mpr c34
          subst c34
          have H1 : (if a0_0 = 5 then (if t261 = true then (if a0_1 = 0 then (some (a0_3 == 0)) else (some false)) else (some false)) else (if a0_0 = 6 then (spec_InsOk.j3 kj29 x7_17 t261 a0_0 (a0_0 == 6) a0_0 a0_1 a0_2 a0_3 a0_4) else (spec_InsOk.j3 kj29 x7_17 t261 a0_0 (a0_0 == 8) a0_0 a0_1 a0_2 a0_3 a0_4))) = some r := by rw [if_neg (show ¬ (false = true) by decide)] at H;exact H
          clear H
          have H := H1
          clear H1
          by_cases c36 : a0_0 = 5
          ·rw [if_pos c36] at H
           have c36b0 : (a0_0 == 5) = true := beq_iff_eq.mpr c36
           have c36b1 : (a0_0 != 5) = false := bne_eq_false_iff_eq.mpr c36
           clear c36
           by_cases c37 : t261 = true
           ·subst c37
            have H1 : (if a0_1 = 0 then (some (a0_3 == 0)) else (some false)) = some r := by rw [if_pos rfl] at H;exact H
            clear H
            have H := H1
            clear H1
            by_cases c38 : a0_1 = 0
            ·rw [if_pos c38] at H
             have c38b0 : (a0_1 == 0) = true := beq_iff_eq.mpr c38
             have c38b1 : (a0_1 != 0) = false := bne_eq_false_iff_eq.mpr c38
             clear c38
             obtain rfl := sJ_ H
             have z_39 := bR5_ BK256.out
             go_wp2
             go_ret
             exact fI_ HB.out
            ·rw [if_neg c38] at H
             have c38b0 : (a0_1 == 0) = false := beq_eq_false_iff_ne.mpr c38
             have c38b1 : (a0_1 != 0) = true := bne_iff_ne.mpr c38
             obtain rfl := sJ_ H
             have z_40 := bR5_ BK256.out
             go_wp2
             go_ret
             exact fI_ HB.out
           ·replace c37 := Bool.eq_false_iff.mpr c37
            subst c37
            have H1 := hF_ H
            clear H
            have H := H1
            clear H1
            obtain rfl := sJ_ H
            go_wp2
            go_ret
            exact fI_ HB.out
          ·rw [if_neg c36] at H
           have c36b0 : (a0_0 == 5) = false := beq_eq_false_iff_ne.mpr c36
           have c36b1 : (a0_0 != 5) = true := bne_iff_ne.mpr c36
           have HC41 := aM_ H
           clear H
           go_upto_if 81 with (fail)
           go_cut [81] (fun v81 wc => ∃ (kq : Nat) (x81_40 : Bool),v81 = .bool x81_40 ∧ Aside0 (spec_InsOk.j3 kq x7_17 t261 a0_0 x81_40 a0_0 a0_1 a0_2 a0_3 a0_4 = some r) ∧ Aside0 (kq ≤ kj29) ∧ Aside0 (wc.heap[gb256]? = some (.cells #[.int .i64 a0_0,.int .i64 a0_1,.int .i64 a0_2,.int .i64 a0_3,.int .i64 a0_4] 192 (0,0))) ∧ Aside0 (Below w.heap.size w wc))
           case first =>
            have H := HC41.out
            clear HC41
            by_cases c42 : a0_0 = 6
            ·rw [if_pos c42] at H
             have c42b0 : (a0_0 == 6) = true := beq_iff_eq.mpr c42
             have c42b1 : (a0_0 != 6) = false := bne_eq_false_iff_eq.mpr c42
             clear c42
             (first | rw [c42b0] | (simp only [i64_w,i32_w];rw [c42b0]) | skip)
             have H' := aM_ H
             clear H
             go_wp2
             go_meet
             case rel => exact ⟨_,((a0_0 == 6)),(by first | rfl | (simp;done) | (simp [*];done)),H',⟨by have := HJ3.out;have := HJ17.out;have := HJ29.out;first | omega | exact Nat.le_refl _⟩,⟨rW_ BK256.out⟩,⟨gW_ HB.out⟩⟩
            ·rw [if_neg c42] at H
             have c42b0 : (a0_0 == 6) = false := beq_eq_false_iff_ne.mpr c42
             have c42b1 : (a0_0 != 6) = true := bne_iff_ne.mpr c42
             (first | rw [c42b0] | (simp only [i64_w,i32_w];rw [c42b0]) | skip)
             have H' := aM_ H
             clear H
             go_wp2
             go_meet
             case rel => exact ⟨_,((a0_0 == 8)),(by first | rfl | (simp;done) | (simp [*];done)),H',⟨by have := HJ3.out;have := HJ17.out;have := HJ29.out;first | omega | exact Nat.le_refl _⟩,⟨rW_ BK256.out⟩,⟨gW_ HB.out⟩⟩
           case rest =>
            clear HC41
            (try clear c1);(try clear c2);(try clear p2);(try clear c3);(try clear c4);(try clear p6);(try clear c7);(try clear c9);(try clear c11);(try clear c16);(try clear c17);(try clear c19);(try clear c19b0);(try clear c23);(try clear c23b0);(try clear c23b1);(try clear c25);(try clear c26);(try clear c26b0);(try clear c26b1);(try clear c32);(try clear c32b0);(try clear c32b1);(try clear c33);(try clear c33b0);(try clear c33b1);(try clear c34);(try clear c36);(try clear c36b0);(try clear c36b1);(try clear c37);(try clear c38);(try clear c38b0);(try clear c38b1);(try clear c42);(try clear c42b0);(try clear c42b1);(try clear z_13);(try clear z_14);(try clear z_15);(try clear z_16);(try clear z_20);(try clear z_21);(try clear z_27);(try clear z_28);(try clear z_29);(try clear z_31);(try clear z_35);(try clear z_39);(try clear z_40);(try clear p2);(try clear p6)
            obtain ⟨kq,x81_40,rfl,HA,HJ40,BK256,HB⟩ := hcut
            cases kq with
            | zero => exact absurd HA.out (by simp [spec_InsOk.j3])
            | succ kj40 =>
             have H := HA.out
             clear HA
             simp only [spec_InsOk.j3] at H
             by_cases c43 : x81_40 = true
             ·subst c43
              have H1 : (if t261 = true then (if a0_2 = 0 then (some (a0_1 != a0_3)) else (some false)) else (some false)) = some r := by rw [if_pos rfl] at H;exact H
              clear H
              have H := H1
              clear H1
              by_cases c44 : t261 = true
              ·subst c44
               have H1 : (if a0_2 = 0 then (some (a0_1 != a0_3)) else (some false)) = some r := by rw [if_pos rfl] at H;exact H
               clear H
               have H := H1
               clear H1
               by_cases c45 : a0_2 = 0
               ·rw [if_pos c45] at H
                have c45b0 : (a0_2 == 0) = true := beq_iff_eq.mpr c45
                have c45b1 : (a0_2 != 0) = false := bne_eq_false_iff_eq.mpr c45
                clear c45
                obtain rfl := sJ_ H
                have z_46 := bR5_ BK256.out
                go_wp2
                go_ret
                exact fI_ HB.out
               ·rw [if_neg c45] at H
                have c45b0 : (a0_2 == 0) = false := beq_eq_false_iff_ne.mpr c45
                have c45b1 : (a0_2 != 0) = true := bne_iff_ne.mpr c45
                obtain rfl := sJ_ H
                have z_47 := bR5_ BK256.out
                go_wp2
                go_ret
                exact fI_ HB.out
              ·replace c44 := Bool.eq_false_iff.mpr c44
               subst c44
               have H1 := hF_ H
               clear H
               have H := H1
               clear H1
               obtain rfl := sJ_ H
               go_wp2
               go_ret
               exact fI_ HB.out
             ·replace c43 := Bool.eq_false_iff.mpr c43
              subst c43
              have H1 : (if a0_0 = 7 then (if t261 = true then (some (a0_3 == 0)) else (some false)) else (if a0_0 = 9 then (if t261 = true then (if a0_1 = 0 then (if a0_2 = 0 then (some (a0_3 == 0)) else (some false)) else (some false)) else (some false)) else (if a0_0 = 10 then (if a0_1 = 0 then (if a0_3 = 0 then (some (a0_4 == 0)) else (some false)) else (some false)) else (if a0_0 = 11 then (if x7_17 = true then (if a0_1 = 0 then (if a0_2 = 0 then (some (a0_3 == 0)) else (some false)) else (some false)) else (some false)) else (if a0_0 = 12 then (if x7_17 = true then (if a0_1 = 0 then (some (a0_3 == 0)) else (some false)) else (some false)) else (if a0_0 = 13 then (some (a0_0 == 13 && (a0_1 == 0 && (a0_2 == 0 && (a0_3 == 0 && (a0_4 == 0)))))) else (some false))))))) = some r := by rw [if_neg (show ¬ (false = true) by decide)] at H;exact H
              clear H
              have H := H1
              clear H1
              by_cases c48 : a0_0 = 7
              ·rw [if_pos c48] at H
               have c48b0 : (a0_0 == 7) = true := beq_iff_eq.mpr c48
               have c48b1 : (a0_0 != 7) = false := bne_eq_false_iff_eq.mpr c48
               clear c48
               by_cases c49 : t261 = true
               ·subst c49
                have H1 : (some (a0_3 == 0)) = some r := by rw [if_pos rfl] at H;exact H
                clear H
                have H := H1
                clear H1
                obtain rfl := sJ_ H
                have z_50 := bR5_ BK256.out
                go_wp2
                go_ret
                exact fI_ HB.out
               ·replace c49 := Bool.eq_false_iff.mpr c49
                subst c49
                have H1 := hF_ H
                clear H
                have H := H1
                clear H1
                obtain rfl := sJ_ H
                go_wp2
                go_ret
                exact fI_ HB.out
              ·rw [if_neg c48] at H
               have c48b0 : (a0_0 == 7) = false := beq_eq_false_iff_ne.mpr c48
               have c48b1 : (a0_0 != 7) = true := bne_iff_ne.mpr c48
               by_cases c51 : a0_0 = 9
               ·rw [if_pos c51] at H
                have c51b0 : (a0_0 == 9) = true := beq_iff_eq.mpr c51
                have c51b1 : (a0_0 != 9) = false := bne_eq_false_iff_eq.mpr c51
                clear c51
                by_cases c52 : t261 = true
                ·subst c52
                 have H1 : (if a0_1 = 0 then (if a0_2 = 0 then (some (a0_3 == 0)) else (some false)) else (some false)) = some r := by rw [if_pos rfl] at H;exact H
                 clear H
                 have H := H1
                 clear H1
                 by_cases c53 : a0_1 = 0
                 ·rw [if_pos c53] at H
                  have c53b0 : (a0_1 == 0) = true := beq_iff_eq.mpr c53
                  have c53b1 : (a0_1 != 0) = false := bne_eq_false_iff_eq.mpr c53
                  clear c53
                  by_cases c54 : a0_2 = 0
                  ·rw [if_pos c54] at H
                   have c54b0 : (a0_2 == 0) = true := beq_iff_eq.mpr c54
                   have c54b1 : (a0_2 != 0) = false := bne_eq_false_iff_eq.mpr c54
                   clear c54
                   obtain rfl := sJ_ H
                   have z_55 := bR5_ BK256.out
                   go_wp2
                   go_ret
                   exact fI_ HB.out
                  ·rw [if_neg c54] at H
                   have c54b0 : (a0_2 == 0) = false := beq_eq_false_iff_ne.mpr c54
                   have c54b1 : (a0_2 != 0) = true := bne_iff_ne.mpr c54
                   obtain rfl := sJ_ H
                   have z_56 := bR5_ BK256.out
                   go_wp2
                   go_ret
                   exact fI_ HB.out
                 ·rw [if_neg c53] at H
                  have c53b0 : (a0_1 == 0) = false := beq_eq_false_iff_ne.mpr c53
                  have c53b1 : (a0_1 != 0) = true := bne_iff_ne.mpr c53
                  obtain rfl := sJ_ H
                  have z_57 := bR5_ BK256.out
                  go_wp2
                  go_ret
                  exact fI_ HB.out
                ·replace c52 := Bool.eq_false_iff.mpr c52
                 subst c52
                 have H1 := hF_ H
                 clear H
                 have H := H1
                 clear H1
                 obtain rfl := sJ_ H
                 go_wp2
                 go_ret
                 exact fI_ HB.out
               ·rw [if_neg c51] at H
                have c51b0 : (a0_0 == 9) = false := beq_eq_false_iff_ne.mpr c51
                have c51b1 : (a0_0 != 9) = true := bne_iff_ne.mpr c51
                by_cases c58 : a0_0 = 10
                ·rw [if_pos c58] at H
                 have c58b0 : (a0_0 == 10) = true := beq_iff_eq.mpr c58
                 have c58b1 : (a0_0 != 10) = false := bne_eq_false_iff_eq.mpr c58
                 clear c58
                 by_cases c59 : a0_1 = 0
                 ·rw [if_pos c59] at H
                  have c59b0 : (a0_1 == 0) = true := beq_iff_eq.mpr c59
                  have c59b1 : (a0_1 != 0) = false := bne_eq_false_iff_eq.mpr c59
                  clear c59
                  by_cases c60 : a0_3 = 0
                  ·rw [if_pos c60] at H
                   have c60b0 : (a0_3 == 0) = true := beq_iff_eq.mpr c60
                   have c60b1 : (a0_3 != 0) = false := bne_eq_false_iff_eq.mpr c60
                   clear c60
                   obtain rfl := sJ_ H
                   have z_61 := bR5_ BK256.out
                   go_wp2
                   go_ret
                   exact fI_ HB.out
                  ·rw [if_neg c60] at H
                   have c60b0 : (a0_3 == 0) = false := beq_eq_false_iff_ne.mpr c60
                   have c60b1 : (a0_3 != 0) = true := bne_iff_ne.mpr c60
                   obtain rfl := sJ_ H
                   have z_62 := bR5_ BK256.out
                   go_wp2
                   go_ret
                   exact fI_ HB.out
                 ·rw [if_neg c59] at H
                  have c59b0 : (a0_1 == 0) = false := beq_eq_false_iff_ne.mpr c59
                  have c59b1 : (a0_1 != 0) = true := bne_iff_ne.mpr c59
                  obtain rfl := sJ_ H
                  have z_63 := bR5_ BK256.out
                  go_wp2
                  go_ret
                  exact fI_ HB.out
                ·rw [if_neg c58] at H
                 have c58b0 : (a0_0 == 10) = false := beq_eq_false_iff_ne.mpr c58
                 have c58b1 : (a0_0 != 10) = true := bne_iff_ne.mpr c58
                 by_cases c64 : a0_0 = 11
                 ·rw [if_pos c64] at H
                  have c64b0 : (a0_0 == 11) = true := beq_iff_eq.mpr c64
                  have c64b1 : (a0_0 != 11) = false := bne_eq_false_iff_eq.mpr c64
                  clear c64
                  by_cases c65 : x7_17 = true
                  ·subst c65
                   have H1 : (if a0_1 = 0 then (if a0_2 = 0 then (some (a0_3 == 0)) else (some false)) else (some false)) = some r := by rw [if_pos rfl] at H;exact H
                   clear H
                   have H := H1
                   clear H1
                   by_cases c66 : a0_1 = 0
                   ·rw [if_pos c66] at H
                    have c66b0 : (a0_1 == 0) = true := beq_iff_eq.mpr c66
                    have c66b1 : (a0_1 != 0) = false := bne_eq_false_iff_eq.mpr c66
                    clear c66
                    by_cases c67 : a0_2 = 0
                    ·rw [if_pos c67] at H
                     have c67b0 : (a0_2 == 0) = true := beq_iff_eq.mpr c67
                     have c67b1 : (a0_2 != 0) = false := bne_eq_false_iff_eq.mpr c67
                     clear c67
                     obtain rfl := sJ_ H
                     have z_68 := bR5_ BK256.out
                     go_wp2
                     go_ret
                     exact fI_ HB.out
                    ·rw [if_neg c67] at H
                     have c67b0 : (a0_2 == 0) = false := beq_eq_false_iff_ne.mpr c67
                     have c67b1 : (a0_2 != 0) = true := bne_iff_ne.mpr c67
                     obtain rfl := sJ_ H
                     have z_69 := bR5_ BK256.out
                     go_wp2
                     go_ret
                     exact fI_ HB.out
                   ·rw [if_neg c66] at H
                    have c66b0 : (a0_1 == 0) = false := beq_eq_false_iff_ne.mpr c66
                    have c66b1 : (a0_1 != 0) = true := bne_iff_ne.mpr c66
                    obtain rfl := sJ_ H
                    have z_70 := bR5_ BK256.out
                    go_wp2
                    go_ret
                    exact fI_ HB.out
                  ·replace c65 := Bool.eq_false_iff.mpr c65
                   subst c65
                   have H1 := hF_ H
                   clear H
                   have H := H1
                   clear H1
                   obtain rfl := sJ_ H
                   go_wp2
                   go_ret
                   exact fI_ HB.out
                 ·rw [if_neg c64] at H
                  have c64b0 : (a0_0 == 11) = false := beq_eq_false_iff_ne.mpr c64
                  have c64b1 : (a0_0 != 11) = true := bne_iff_ne.mpr c64
                  by_cases c71 : a0_0 = 12
                  ·rw [if_pos c71] at H
                   have c71b0 : (a0_0 == 12) = true := beq_iff_eq.mpr c71
                   have c71b1 : (a0_0 != 12) = false := bne_eq_false_iff_eq.mpr c71
                   clear c71
                   by_cases c72 : x7_17 = true
                   ·subst c72
                    have H1 : (if a0_1 = 0 then (some (a0_3 == 0)) else (some false)) = some r := by rw [if_pos rfl] at H;exact H
                    clear H
                    have H := H1
                    clear H1
                    by_cases c73 : a0_1 = 0
                    ·rw [if_pos c73] at H
                     have c73b0 : (a0_1 == 0) = true := beq_iff_eq.mpr c73
                     have c73b1 : (a0_1 != 0) = false := bne_eq_false_iff_eq.mpr c73
                     clear c73
                     obtain rfl := sJ_ H
                     have z_74 := bR5_ BK256.out
                     go_wp2
                     go_ret
                     exact fI_ HB.out
                    ·rw [if_neg c73] at H
                     have c73b0 : (a0_1 == 0) = false := beq_eq_false_iff_ne.mpr c73
                     have c73b1 : (a0_1 != 0) = true := bne_iff_ne.mpr c73
                     obtain rfl := sJ_ H
                     have z_75 := bR5_ BK256.out
                     go_wp2
                     go_ret
                     exact fI_ HB.out
                   ·replace c72 := Bool.eq_false_iff.mpr c72
                    subst c72
                    have H1 := hF_ H
                    clear H
                    have H := H1
                    clear H1
                    obtain rfl := sJ_ H
                    go_wp2
                    go_ret
                    exact fI_ HB.out
                  ·rw [if_neg c71] at H
                   have c71b0 : (a0_0 == 12) = false := beq_eq_false_iff_ne.mpr c71
                   have c71b1 : (a0_0 != 12) = true := bne_iff_ne.mpr c71
                   by_cases c76 : a0_0 = 13
                   ·rw [if_pos c76] at H
                    have c76b0 : (a0_0 == 13) = true := beq_iff_eq.mpr c76
                    have c76b1 : (a0_0 != 13) = false := bne_eq_false_iff_eq.mpr c76
                    clear c76
                    obtain rfl := sJ_ H
                    have z_77 := bR5_ BK256.out
                    go_wp2
                    go_ret
                    exact fI_ HB.out
                   ·rw [if_neg c76] at H
                    have c76b0 : (a0_0 == 13) = false := beq_eq_false_iff_ne.mpr c76
                    have c76b1 : (a0_0 != 13) = true := bne_iff_ne.mpr c76
                    obtain rfl := sJ_ H
                    go_wp2
                    go_ret
                    exact fI_ HB.out
end Go.Proofs.Ytobachfngmpeiaa.PFnExactAble
