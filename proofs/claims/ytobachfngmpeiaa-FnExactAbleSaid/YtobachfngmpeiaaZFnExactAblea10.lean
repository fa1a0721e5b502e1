/- Part of the proof of FnExactAble. -/
import Derived.Test.YtobachfngmpeiaaZFnExactAblea9
import Derived.Test.YtobachfngmpeiaaZFnExactAbles
set_option maxRecDepth 100000
namespace Go.Proofs.Ytobachfngmpeiaa.PFnExactAble
open Go.RowKit Go.Proofs.YtobachfngmpeiaaW.PrintWords Go.Proofs.YtobachfngmpeiaaW.PrintLast Go.Proofs.YtobachfngmpeiaaW.PrintMore
attribute [local go_sem] max2_int min2_int max_two min_two max_three min_three max_four min_four   -- for this text's walks alone
set_option linter.unusedVariables false
set_option linter.unusedSimpArgs false
def spec_BodyOk.l0 : Nat → List (S192) → Int → Int → Int → Option (Bool)
  | 0,_,_,_,_ => none
  | k + 1,x0,x1,x5,x6 => if x6 < x5 then (if 0 ≤ x6 then (if x6 < (x0.length : Int) then ((spec_InsOk.f k ((rd_T192 x0 x6).f0) ((rd_T192 x0 x6).f1) ((rd_T192 x0 x6).f2) ((rd_T192 x0 x6).f3) ((rd_T192 x0 x6).f4) x5 x1).bind fun t264 => (if t264 = true then (spec_BodyOk.l0 k x0 x1 x5 (wrap64 (x6 + 1))) else (some false))) else (none)) else (none)) else ((spec_l1In.f x5 1 24).bind fun t265 => (if t265 = true then ((spec_l1In.f x1 0 3).bind fun t266 => (if t266 = true then (if 0 ≤ (wrap64 (x5 - 1)) then (if (wrap64 (x5 - 1)) < (x0.length : Int) then (if ((rd_T192 x0 (wrap64 (x5 - 1))).f0) = 13 then (some true) else (some (((rd_T192 x0 (wrap64 (x5 - 1))).f0) == 11))) else (none)) else (none)) else (some false))) else (some false)))
def spec_BodyOk.f (k : Nat) (l0 : List (S192)) (a1 : Int) : Option (Bool) := spec_BodyOk.l0 k l0 a1 (l0.length : Int) 0
set_option maxHeartbeats 8000000 in
theorem spec_BodyOk.calls (k : Nat) (A0 : Option Addr) (c0 : Nat) (l0 : List (S192)) (a1 : Int) (r : Bool) (w : World) (hr0 : Kd.C k192 w A0 l0.length l0) (hc0 : l0.length ≤ c0) (h : spec_BodyOk.f k l0 a1 = some r) :
  Calls Try.prog 124 #[.slice A0 l0.length c0,.int .i64 a1] w fun e w' => e = .returned (.bool r) ∧ Below w.heap.size w w' := by
 have hu192 := Try.underlying192
 have HR0 := aM_ hr0
 have HC0 := aM_ hc0
 clear hr0 hc0
 have HB := aM_ (Below.refl w.heap.size w)
 have H : (spec_BodyOk.l0 k l0 a1 (l0.length : Int) 0) = some r := h
 clear h
 have H' := aM_ H
 clear H
 go_enter Try.func124,Try.ntmps124
 go_wp2
 go_loopg [6] k (fun kq v6 w' => ∃ (x6_1 : Int),v6 = .int .i64 x6_1 ∧ Aside0 (spec_BodyOk.l0 kq l0 a1 (l0.length : Int) x6_1 = some r) ∧ Aside0 (kq ≤ k) ∧ Aside0 (Below w.heap.size w w'))
 case atStart => exact ⟨(0),(by first | rfl | (simp;done) | (simp [*];done)),H',⟨Nat.le_refl _⟩,⟨gW_ HB.out⟩⟩
 case round =>
  clear H'
  (try clear c1);(try clear p2)
  obtain ⟨x6_1,rfl,HA,HK1,HB⟩ := hrel
  cases gk with
  | zero => exact absurd HA.out (by simp [spec_BodyOk.l0])
  | succ k1 =>
   have H := HA.out
   clear HA
   simp only [spec_BodyOk.l0] at H
   by_cases c3 : x6_1 < (l0.length : Int)
   ·rw [if_pos c3] at H
    have c3b0 : decide (x6_1 < (l0.length : Int)) = true := decide_eq_true c3
    clear c3
    by_cases c4 : 0 ≤ x6_1
    ·rw [if_pos c4] at H
     have c4b0 : decide (0 ≤ x6_1) = true := decide_eq_true c4
     clear c4
     by_cases c5 : x6_1 < (l0.length : Int)
     ·rw [if_pos c5] at H
      have c5b0 : decide (x6_1 < (l0.length : Int)) = true := decide_eq_true c5
      clear c5
      replace H := Option.bind_eq_some_iff.mp H
      obtain ⟨t264,A60,H⟩ := H
      replace H : (if t264 = true then (spec_BodyOk.l0 k1 l0 a1 (l0.length : Int) (wrap64 (x6_1 + 1))) else (some false)) = some r := H
      have A6 := aM_ A60
      clear A60
      by_cases c7 : t264 = true
      ·subst c7
       have H1 : (spec_BodyOk.l0 k1 l0 a1 (l0.length : Int) (wrap64 (x6_1 + 1))) = some r := by rw [if_pos rfl] at H;exact H
       clear H
       have H := H1
       clear H1
       have H' := aM_ H
       clear H
       have p263 : 0 ≤ (x6_1 : Int) := pD_
       have q263 : x6_1 < (l0.length : Int) := pD_
       obtain ⟨ad263,e263,hx263_0,hx263_1,hx263_2,hx263_3,hx263_4⟩ := at_T192 HR0.out x6_1 p263 q263
       cases e263
       replace hx263_0 := cB_ HB.out hx263_0
       replace hx263_1 := cB_ HB.out hx263_1
       replace hx263_2 := cB_ HB.out hx263_2
       replace hx263_3 := cB_ HB.out hx263_3
       replace hx263_4 := cB_ HB.out hx263_4
       replace p263 := eq_true p263
       replace q263 := eq_true q263
       go_wp2_with (first | (refine gL_ (some 20) Try.func162 #[.agg #[.int .i64 ((rd_T192 l0 x6_1).f0),.int .i64 ((rd_T192 l0 x6_1).f1),.int .i64 ((rd_T192 l0 x6_1).f2),.int .i64 ((rd_T192 l0 x6_1).f3),.int .i64 ((rd_T192 l0 x6_1).f4)],.int .i64 (l0.length : Int),.int .i64 a1] ?_;(with_reducible refine (spec_InsOk.calls k1 ((rd_T192 l0 x6_1).f0) ((rd_T192 l0 x6_1).f1) ((rd_T192 l0 x6_1).f2) ((rd_T192 l0 x6_1).f3) ((rd_T192 l0 x6_1).f4) (l0.length : Int) a1 true _ A6.out).mono ?_);rintro e w8 ⟨rfl,hb⟩;refine ⟨_,rfl,?_⟩;replace HB := aM_ (sT_ HB.out hb)))
       go_roundg k1
       case measure => have := HK1.out;omega
       case rel => exact ⟨(wrap64 (x6_1 + 1)),(by first | rfl | (simp;done) | (simp [*];done)),H',⟨by have := HK1.out;omega⟩,⟨gW_ HB.out⟩⟩
      ·replace c7 := Bool.eq_false_iff.mpr c7
       subst c7
       have H1 := hF_ H
       clear H
       have H := H1
       clear H1
       obtain rfl := sJ_ H
       have p263 : 0 ≤ (x6_1 : Int) := pD_
       have q263 : x6_1 < (l0.length : Int) := pD_
       obtain ⟨ad263,e263,hx263_0,hx263_1,hx263_2,hx263_3,hx263_4⟩ := at_T192 HR0.out x6_1 p263 q263
       cases e263
       replace hx263_0 := cB_ HB.out hx263_0
       replace hx263_1 := cB_ HB.out hx263_1
       replace hx263_2 := cB_ HB.out hx263_2
       replace hx263_3 := cB_ HB.out hx263_3
       replace hx263_4 := cB_ HB.out hx263_4
       replace p263 := eq_true p263
       replace q263 := eq_true q263
       go_wp2_with (first | (refine gL_ (some 20) Try.func162 #[.agg #[.int .i64 ((rd_T192 l0 x6_1).f0),.int .i64 ((rd_T192 l0 x6_1).f1),.int .i64 ((rd_T192 l0 x6_1).f2),.int .i64 ((rd_T192 l0 x6_1).f3),.int .i64 ((rd_T192 l0 x6_1).f4)],.int .i64 (l0.length : Int),.int .i64 a1] ?_;(with_reducible refine (spec_InsOk.calls k1 ((rd_T192 l0 x6_1).f0) ((rd_T192 l0 x6_1).f1) ((rd_T192 l0 x6_1).f2) ((rd_T192 l0 x6_1).f3) ((rd_T192 l0 x6_1).f4) (l0.length : Int) a1 false _ A6.out).mono ?_);rintro e w9 ⟨rfl,hb⟩;refine ⟨_,rfl,?_⟩;replace HB := aM_ (sT_ HB.out hb)))
       go_ret
       exact fI_ HB.out
     ·rw [if_neg c5] at H
      exact absurd H (by simp)
    ·rw [if_neg c4] at H
     exact absurd H (by simp)
   ·rw [if_neg c3] at H
    have c3b0 : decide (x6_1 < (l0.length : Int)) = false := decide_eq_false c3
    clear c3
    replace H := Option.bind_eq_some_iff.mp H
    obtain ⟨t265,A100,H⟩ := H
    replace H : (if t265 = true then ((spec_l1In.f a1 0 3).bind fun t266 => (if t266 = true then (if 0 ≤ (wrap64 ((l0.length : Int) - 1)) then (if (wrap64 ((l0.length : Int) - 1)) < (l0.length : Int) then (if ((rd_T192 l0 (wrap64 ((l0.length : Int) - 1))).f0) = 13 then (some true) else (some (((rd_T192 l0 (wrap64 ((l0.length : Int) - 1))).f0) == 11))) else (none)) else (none)) else (some false))) else (some false)) = some r := H
    have A10 := aM_ A100
    clear A100
    by_cases c11 : t265 = true
    ·subst c11
     have H1 : ((spec_l1In.f a1 0 3).bind fun t266 => (if t266 = true then (if 0 ≤ (wrap64 ((l0.length : Int) - 1)) then (if (wrap64 ((l0.length : Int) - 1)) < (l0.length : Int) then (if ((rd_T192 l0 (wrap64 ((l0.length : Int) - 1))).f0) = 13 then (some true) else (some (((rd_T192 l0 (wrap64 ((l0.length : Int) - 1))).f0) == 11))) else (none)) else (none)) else (some false))) = some r := by rw [if_pos rfl] at H;exact H
     clear H
     have H := H1
     clear H1
     replace H := Option.bind_eq_some_iff.mp H
     obtain ⟨t266,A120,H⟩ := H
     replace H : (if t266 = true then (if 0 ≤ (wrap64 ((l0.length : Int) - 1)) then (if (wrap64 ((l0.length : Int) - 1)) < (l0.length : Int) then (if ((rd_T192 l0 (wrap64 ((l0.length : Int) - 1))).f0) = 13 then (some true) else (some (((rd_T192 l0 (wrap64 ((l0.length : Int) - 1))).f0) == 11))) else (none)) else (none)) else (some false)) = some r := H
     have A12 := aM_ A120
     clear A120
     by_cases c13 : t266 = true
     ·subst c13
      have H1 : (if 0 ≤ (wrap64 ((l0.length : Int) - 1)) then (if (wrap64 ((l0.length : Int) - 1)) < (l0.length : Int) then (if ((rd_T192 l0 (wrap64 ((l0.length : Int) - 1))).f0) = 13 then (some true) else (some (((rd_T192 l0 (wrap64 ((l0.length : Int) - 1))).f0) == 11))) else (none)) else (none)) = some r := by rw [if_pos rfl] at H;exact H
      clear H
      have H := H1
      clear H1
      obtain ⟨ji14,hji14⟩ : ∃ j_ : Int,(wrap64 ((l0.length : Int) - 1)) = j_ := ⟨_,rfl⟩
      replace H : (if 0 ≤ (ji14) then (if (ji14) < (l0.length : Int) then (if ((rd_T192 l0 (ji14)).f0) = 13 then (some true) else (some (((rd_T192 l0 (ji14)).f0) == 11))) else (none)) else (none)) = some r := by first | (rw [hji14] at H;exact H) | (simp only [hji14] at H ⊢;exact H)
      (try rw [hji14] at A10)
      (try rw [hji14] at A12)
      have hji14w : (IntKind.i64.wrap ((l0.length : Int) - 1)) = ji14 := (i64_w _).trans hji14
      by_cases c15 : 0 ≤ (ji14)
      ·rw [if_pos c15] at H
       have c15b0 : decide (0 ≤ (ji14)) = true := decide_eq_true c15
       clear c15
       by_cases c16 : (ji14) < (l0.length : Int)
       ·rw [if_pos c16] at H
        have c16b0 : decide ((ji14) < (l0.length : Int)) = true := decide_eq_true c16
        clear c16
        by_cases c17 : ((rd_T192 l0 (ji14)).f0) = 13
        ·rw [if_pos c17] at H
         have c17b0 : (((rd_T192 l0 (ji14)).f0) == 13) = true := beq_iff_eq.mpr c17
         have c17b1 : (((rd_T192 l0 (ji14)).f0) != 13) = false := bne_eq_false_iff_eq.mpr c17
         clear c17
         obtain rfl := sJ_ H
         go_wp2_with (first | (refine gL_ (some 23) Try.func111 #[.int .i64 (l0.length : Int),.int .i64 1,.int .i64 24] ?_;(with_reducible refine (spec_l1In.calls (l0.length : Int) 1 24 true _ A10.out).mono ?_);rintro e w' ⟨rfl,⟨nd,rfl⟩⟩;refine ⟨_,rfl,?_⟩) | (go_at_call 111;(with_reducible refine (spec_l1In.calls a1 0 3 true _ A12.out).mono ?_);rintro e w' ⟨rfl,⟨nd,rfl⟩⟩;have p267 : 0 ≤ ((ji14) : Int) := pD_;have q267 : (ji14) < (l0.length : Int) := pD_;obtain ⟨ad267,e267,hx267_0,hx267_1,hx267_2,hx267_3,hx267_4⟩ := at_T192 HR0.out (ji14) p267 q267;cases e267;replace hx267_0 := cB_ HB.out hx267_0;replace hx267_1 := cB_ HB.out hx267_1;replace hx267_2 := cB_ HB.out hx267_2;replace hx267_3 := cB_ HB.out hx267_3;replace hx267_4 := cB_ HB.out hx267_4;replace p267 := eq_true p267;replace q267 := eq_true q267))
         go_ret
         exact ⟨by first | rfl | (simp [errW_none,errW_some] <;> rfl) | (simp only [← hji14];first | rfl | (simp [errW_none,errW_some] <;> rfl)) | (simp [*,errW_none,errW_some] <;> rfl),gB_ HB.out⟩
        ·rw [if_neg c17] at H
         have c17b0 : (((rd_T192 l0 (ji14)).f0) == 13) = false := beq_eq_false_iff_ne.mpr c17
         have c17b1 : (((rd_T192 l0 (ji14)).f0) != 13) = true := bne_iff_ne.mpr c17
         obtain rfl := sJ_ H
         go_wp2_with (first | (refine gL_ (some 23) Try.func111 #[.int .i64 (l0.length : Int),.int .i64 1,.int .i64 24] ?_;(with_reducible refine (spec_l1In.calls (l0.length : Int) 1 24 true _ A10.out).mono ?_);rintro e w' ⟨rfl,⟨nd,rfl⟩⟩;refine ⟨_,rfl,?_⟩) | (go_at_call 111;(with_reducible refine (spec_l1In.calls a1 0 3 true _ A12.out).mono ?_);rintro e w' ⟨rfl,⟨nd,rfl⟩⟩;have p267 : 0 ≤ ((ji14) : Int) := pD_;have q267 : (ji14) < (l0.length : Int) := pD_;obtain ⟨ad267,e267,hx267_0,hx267_1,hx267_2,hx267_3,hx267_4⟩ := at_T192 HR0.out (ji14) p267 q267;cases e267;replace hx267_0 := cB_ HB.out hx267_0;replace hx267_1 := cB_ HB.out hx267_1;replace hx267_2 := cB_ HB.out hx267_2;replace hx267_3 := cB_ HB.out hx267_3;replace hx267_4 := cB_ HB.out hx267_4;replace p267 := eq_true p267;replace q267 := eq_true q267;have p268 : 0 ≤ ((ji14) : Int) := pD_;have q268 : (ji14) < (l0.length : Int) := pD_;obtain ⟨ad268,e268,hx268_0,hx268_1,hx268_2,hx268_3,hx268_4⟩ := at_T192 HR0.out (ji14) p268 q268;obtain rfl : ad267 = ad268 := (by injection e268);replace hx268_0 := cB_ HB.out hx268_0;replace hx268_1 := cB_ HB.out hx268_1;replace hx268_2 := cB_ HB.out hx268_2;replace hx268_3 := cB_ HB.out hx268_3;replace hx268_4 := cB_ HB.out hx268_4;replace p268 := eq_true p268;replace q268 := eq_true q268))
         go_ret
         exact ⟨by first | rfl | (simp [errW_none,errW_some] <;> rfl) | (simp only [← hji14];first | rfl | (simp [errW_none,errW_some] <;> rfl)) | (simp [*,errW_none,errW_some] <;> rfl),gB_ HB.out⟩
       ·rw [if_neg c16] at H
        exact absurd H (by simp)
      ·rw [if_neg c15] at H
       exact absurd H (by simp)
     ·replace c13 := Bool.eq_false_iff.mpr c13
      subst c13
      have H1 := hF_ H
      clear H
      have H := H1
      clear H1
      obtain rfl := sJ_ H
      go_wp2_with (first | (refine gL_ (some 23) Try.func111 #[.int .i64 (l0.length : Int),.int .i64 1,.int .i64 24] ?_;(with_reducible refine (spec_l1In.calls (l0.length : Int) 1 24 true _ A10.out).mono ?_);rintro e w' ⟨rfl,⟨nd,rfl⟩⟩;refine ⟨_,rfl,?_⟩) | (go_at_call 111;(with_reducible refine (spec_l1In.calls a1 0 3 false _ A12.out).mono ?_);rintro e w' ⟨rfl,⟨nd,rfl⟩⟩))
      go_ret
      exact fI_ HB.out
    ·replace c11 := Bool.eq_false_iff.mpr c11
     subst c11
     have H1 := hF_ H
     clear H
     have H := H1
     clear H1
     obtain rfl := sJ_ H
     go_wp2_with (first | (refine gL_ (some 23) Try.func111 #[.int .i64 (l0.length : Int),.int .i64 1,.int .i64 24] ?_;(with_reducible refine (spec_l1In.calls (l0.length : Int) 1 24 false _ A10.out).mono ?_);rintro e w' ⟨rfl,⟨nd,rfl⟩⟩;refine ⟨_,rfl,?_⟩))
     go_ret
     exact fI_ HB.out
mutual
def spec_ProgOk.l0 : Nat → Int → List Int → List (List (S192)) → Option (Bool)
  | 0,_,_,_ => none
  | k + 1,x3,x270000,x270001 => if x3 < (x270000.length : Int) then (if 0 ≤ x3 then ((spec_l1In.f (rd x270000 x3) 1 4).bind fun t271 => (if t271 = true then (spec_ProgOk.l0 k (wrap64 (x3 + 1)) x270000 x270001) else (some false))) else (none)) else (spec_ProgOk.l1 k 0 x270000 x270001)
def spec_ProgOk.l1 : Nat → Int → List Int → List (List (S192)) → Option (Bool)
  | 0,_,_,_ => none
  | k + 1,x4,x270000,x270001 => if x4 < (x270001.length : Int) then (if 0 ≤ x4 then ((spec_BodyOk.f k (rd_L4 x270001 x4) (x270000.length : Int)).bind fun t274 => (if t274 = true then (spec_ProgOk.l1 k (wrap64 (x4 + 1)) x270000 x270001) else (some false))) else (none)) else (if (x270000.length : Int) ≤ 3 then ((spec_l1In.f (x270001.length : Int) 1 4).bind fun t272 => (some t272)) else (some false))
end
def spec_ProgOk.f (k : Nat) (l0_0 : List Int) (l0_1 : List (List (S192))) : Option (Bool) := spec_ProgOk.l0 k 0 l0_0 l0_1
def spec_ProgOk.T9 : Bool × List (List Nat × List Nat) := (true,[([],[]),([0],[0]),([],[]),([1,2],[1,2]),([3],[3]),([],[]),([5],[5]),([6],[6]),([4,7],[4,7]),([8],[8])])
def spec_ProgOk.B9 : List Nat := [0,1,0,7,15,0,32,96,255,511]
theorem spec_ProgOk.tab9 : rtab .any (opsOf Try.f60 9) = spec_ProgOk.T9 := by kernel_rfl
theorem spec_ProgOk.bits9 : waitsOk spec_ProgOk.T9.2 spec_ProgOk.B9 = true := by kernel_rfl
set_option maxHeartbeats 8000000 in
theorem spec_ProgOk.calls (k : Nat) (A0_0 : Option Addr) (c0_0 : Nat) (l0_0 : List Int) (A0_1 : Option Addr) (c0_1 : Nat) (l0_1 : List (List (S192))) (r : Bool) (w : World) (hr0_0 : Kd.C (Kd.int .i64) w A0_0 l0_0.length l0_0) (hc0_0 : l0_0.length ≤ c0_0) (hr0_1 : Kd.C (Kd.slice 192 k192) w A0_1 l0_1.length l0_1) (hc0_1 : l0_1.length ≤ c0_1) (h : spec_ProgOk.f k l0_0 l0_1 = some r) :
  Calls Try.prog 60 #[.agg #[.slice A0_0 l0_0.length c0_0,.slice A0_1 l0_1.length c0_1]] w fun e w' => e = .returned (.bool r) ∧ Below w.heap.size w w' := by
 have hu44 := Try.underlying44
 have HR0_0 := aM_ hr0_0
 have HC0_0 := aM_ hc0_0
 clear hr0_0 hc0_0
 have HR0_1 := aM_ hr0_1
 have HC0_1 := aM_ hc0_1
 clear hr0_1 hc0_1
 have HB := aM_ (Below.refl w.heap.size w)
 have H : (spec_ProgOk.l0 k 0 l0_0 l0_1) = some r := h
 clear h
 have H' := aM_ H
 clear H
 go_enter Try.func60,Try.ntmps60
 go_wp2_with (first | ((with_reducible refine gate_dst (N := 1) rfl ?_);(try (refine gate_guard (by rfl) ?_;dsimp only));refine bX_ 1 (cs := #[.slice A0_0 l0_0.length c0_0,.slice A0_1 l0_1.length c0_1]) (t := 44) ?_;intro gb269 hg w2 hbox hb;have BK269 := aM_ (hbox);have GE269 := aM_ (sZ_ hg HB.out);replace HB := aM_ (sT_ HB.out hb);clear hb hbox hg))
 go_loopg [3] k (fun kq v3 w' => ∃ (x3_1 : Int),v3 = .int .i64 x3_1 ∧ Aside0 (spec_ProgOk.l0 kq x3_1 l0_0 l0_1 = some r) ∧ Aside0 (kq ≤ k) ∧ Aside0 (w'.heap[gb269]? = some (.cells #[(.slice A0_0 l0_0.length c0_0),(.slice A0_1 l0_1.length c0_1)] 44 (0,0))) ∧ Aside0 (Below w.heap.size w w'))
 case atStart => exact ⟨(0),(by first | rfl | (simp;done) | (simp [*];done)),H',⟨Nat.le_refl _⟩,⟨rW_ BK269.out⟩,⟨gW_ HB.out⟩⟩
 case round =>
  clear H'
  try clear p2
  obtain ⟨x3_1,rfl,HA,HK1,BK269,HB⟩ := hrel
  cases gk with
  | zero => exact absurd HA.out (by simp [spec_ProgOk.l0])
  | succ k1 =>
   have H := HA.out
   clear HA
   simp only [spec_ProgOk.l0] at H
   by_cases c3 : x3_1 < (l0_0.length : Int)
   ·rw [if_pos c3] at H
    have c3b0 : decide (x3_1 < (l0_0.length : Int)) = true := decide_eq_true c3
    clear c3
    by_cases c4 : 0 ≤ x3_1
    ·rw [if_pos c4] at H
     have c4b0 : decide (0 ≤ x3_1) = true := decide_eq_true c4
     clear c4
     replace H := Option.bind_eq_some_iff.mp H
     obtain ⟨t271,A50,H⟩ := H
     replace H : (if t271 = true then (spec_ProgOk.l0 k1 (wrap64 (x3_1 + 1)) l0_0 l0_1) else (some false)) = some r := H
     have A5 := aM_ A50
     clear A50
     by_cases c6 : t271 = true
     ·subst c6
      have H1 : (spec_ProgOk.l0 k1 (wrap64 (x3_1 + 1)) l0_0 l0_1) = some r := by rw [if_pos rfl] at H;exact H
      clear H
      have H := H1
      clear H1
      have H' := aM_ H
      clear H
      have z_7 := bR2_ BK269.out
      have p270 : 0 ≤ (x3_1 : Int) := pD_
      have q270 : x3_1 < (l0_0.length : Int) := pD_
      obtain ⟨ad270,e270,hx270_0⟩ := Kd.at_int HR0_0.out x3_1 p270 q270
      cases e270
      replace hx270_0 := cB_ HB.out hx270_0
      replace p270 := eq_true p270
      replace q270 := eq_true q270
      go_wp2_with (first | (refine gL_ (some 17) Try.func111 #[.int .i64 (rd l0_0 x3_1),.int .i64 1,.int .i64 4] ?_;(with_reducible refine (spec_l1In.calls (rd l0_0 x3_1) 1 4 true _ A5.out).mono ?_);rintro e w' ⟨rfl,⟨nd,rfl⟩⟩;refine ⟨_,rfl,?_⟩))
      go_roundg k1
      case measure => have := HK1.out;omega
      case rel => exact ⟨(wrap64 (x3_1 + 1)),(by first | rfl | (simp;done) | (simp [*];done)),H',⟨by have := HK1.out;omega⟩,⟨rW_ BK269.out⟩,⟨gW_ HB.out⟩⟩
     ·replace c6 := Bool.eq_false_iff.mpr c6
      subst c6
      have H1 := hF_ H
      clear H
      have H := H1
      clear H1
      obtain rfl := sJ_ H
      have z_8 := bR2_ BK269.out
      have p270 : 0 ≤ (x3_1 : Int) := pD_
      have q270 : x3_1 < (l0_0.length : Int) := pD_
      obtain ⟨ad270,e270,hx270_0⟩ := Kd.at_int HR0_0.out x3_1 p270 q270
      cases e270
      replace hx270_0 := cB_ HB.out hx270_0
      replace p270 := eq_true p270
      replace q270 := eq_true q270
      go_wp2_with (first | (refine gL_ (some 17) Try.func111 #[.int .i64 (rd l0_0 x3_1),.int .i64 1,.int .i64 4] ?_;(with_reducible refine (spec_l1In.calls (rd l0_0 x3_1) 1 4 false _ A5.out).mono ?_);rintro e w' ⟨rfl,⟨nd,rfl⟩⟩;refine ⟨_,rfl,?_⟩))
      go_ret
      exact fI_ HB.out
    ·rw [if_neg c4] at H
     exact absurd H (by simp)
   ·rw [if_neg c3] at H
    have c3b0 : decide (x3_1 < (l0_0.length : Int)) = false := decide_eq_false c3
    clear c3
    have H' := aM_ H
    clear H
    have z_9 := bR2_ BK269.out
    go_wp2
    go_loopg [4] k1 (fun kq v4 w' => ∃ (x4_2 : Int),v4 = .int .i64 x4_2 ∧ Aside0 (spec_ProgOk.l1 kq x4_2 l0_0 l0_1 = some r) ∧ Aside0 (kq ≤ k1) ∧ Aside0 (w'.heap[gb269]? = some (.cells #[(.slice A0_0 l0_0.length c0_0),(.slice A0_1 l0_1.length c0_1)] 44 (0,0))) ∧ Aside0 (Below w.heap.size w w'))
    case atStart => exact ⟨(0),(by first | rfl | (simp;done) | (simp [*];done)),H',⟨Nat.le_refl _⟩,⟨rW_ BK269.out⟩,⟨gW_ HB.out⟩⟩
    case round =>
     clear H'
     (try clear c1);(try clear p2);(try clear q2);(try clear hx2);(try clear c3);(try clear c3b0);(try clear c4);(try clear c4b0);(try clear c6);(try clear p6);(try clear z_7);(try clear z_8);(try clear z_9);(try clear hx270_0);(try clear p2);(try clear p270);(try clear q270)
     obtain ⟨x4_2,rfl,HA,HK2,BK269,HB⟩ := hrel
     cases gk with
     | zero => exact absurd HA.out (by simp [spec_ProgOk.l1])
     | succ k2 =>
      have H := HA.out
      clear HA
      simp only [spec_ProgOk.l1] at H
      by_cases c10 : x4_2 < (l0_1.length : Int)
      ·rw [if_pos c10] at H
       have c10b0 : decide (x4_2 < (l0_1.length : Int)) = true := decide_eq_true c10
       clear c10
       by_cases c11 : 0 ≤ x4_2
       ·rw [if_pos c11] at H
        have c11b0 : decide (0 ≤ x4_2) = true := decide_eq_true c11
        clear c11
        replace H := Option.bind_eq_some_iff.mp H
        obtain ⟨t274,A120,H⟩ := H
        replace H : (if t274 = true then (spec_ProgOk.l1 k2 (wrap64 (x4_2 + 1)) l0_0 l0_1) else (some false)) = some r := H
        have A12 := aM_ A120
        clear A120
        by_cases c13 : t274 = true
        ·subst c13
         have H1 : (spec_ProgOk.l1 k2 (wrap64 (x4_2 + 1)) l0_0 l0_1) = some r := by rw [if_pos rfl] at H;exact H
         clear H
         have H := H1
         clear H1
         have H' := aM_ H
         clear H
         have z_14 := bR2_ BK269.out
         try go_wp2
         replace BK269 := aM_ (blk_drew BK269.out)
         replace HB := aM_ (below_drew1 HB.out)
         have p273 : 0 ≤ (x4_2 : Int) := pD_
         have q273 : x4_2 < (l0_1.length : Int) := pD_
         obtain ⟨ad273,A273_0,c273_0,e273,hx273_0,hl273_0,hi273_0⟩ := at_L4 HR0_1.out x4_2 p273 q273
         have hw273_0 := hx273_0
         cases e273
         replace hx273_0 := cB_ HB.out hx273_0
         have HR273_0 := aM_ hi273_0
         have HC273_0 := aM_ hl273_0
         clear hi273_0 hl273_0
         replace p273 := eq_true p273
         replace q273 := eq_true q273
         refine sTa_ 10 (fun w' => K_ w' gb269 0 (.slice A0_0 l0_0.length c0_0) ∧ K_ w' gb269 1 (.slice (some ad273) l0_1.length c0_1) ∧ w'.cell? (ad273.add (x4_2).toNat) = some (.slice A273_0 (rd_L4 l0_1 x4_2).length c273_0)) [] ⟨(blk_cell BK269.out 0).trans rfl,(blk_cell BK269.out 1).trans rfl,(cB_ HB.out hw273_0 :)⟩ (fun hHeld => ?_);refine with_tabW spec_ProgOk.tab9 spec_ProgOk.bits9 (fun HT_ HW_ => ?_)
         generalize wr.drew = w15 at BK269 HB HR273_0 hx273_0 hHeld ⊢
         refine jU_ 0 26 10 1 ?_
         refine jU_ 2 28 10 5 ?_
         refine jU_ 5 31 10 37 ?_
         refine jK3_ 1 27 10 39 ?_
         refine jU_ 3 29 10 47 ?_
         refine jK3_ 4 30 10 63 ?_
         refine jK3_ 6 32 10 127 ?_
         refine jU_ 7 33 10 255 ?_
         refine jN_ 8 34 10 511 (fun K hK => ?_)
         refine gO_ Try.func124 #[.slice A273_0 (rd_L4 l0_1 x4_2).length c273_0,.int .i64 (l0_0.length : Int)] ?_
         with_reducible refine (spec_BodyOk.calls k2 _ _ (rd_L4 l0_1 x4_2) (l0_0.length : Int) true _ ?side1 ?side2 A12.out).mono ?_
         (case side1 => exact cS_ (Kd.C_below HR273_0.out HB.out))
         (case side2 => exact HC273_0.out)
         rintro e w16 ⟨rfl,hb⟩
         refine ⟨_,rfl,?_⟩
         replace BK269 := aM_ (nB_ BK269.out hb)
         replace HB := aM_ (sT_ HB.out hb)
         (try clear hb)
         (try clear hb2)
         (try clear hk)
         (try clear hi)
         refine kO_ hK (some 34) ⟨(blk_cell BK269.out 0).trans rfl,(blk_cell BK269.out 1).trans rfl,(cB_ HB.out hw273_0 :)⟩ (fun hHeld => ?_)
         clear hK K
         refine jU_ 9 35 10 1023 ?_
         refine done_ (done_of HT_.out (by kernel_rfl)) ?_
         try go_wp2
         go_roundg k2
         case measure => have := HK1.out;have := HK2.out;omega
         case rel => exact ⟨(wrap64 (x4_2 + 1)),(by first | rfl | (simp;done) | (simp [*];done)),H',⟨by have := HK1.out;have := HK2.out;omega⟩,⟨rW_ BK269.out⟩,⟨gW_ HB.out⟩⟩
        ·replace c13 := Bool.eq_false_iff.mpr c13
         subst c13
         have H1 := hF_ H
         clear H
         have H := H1
         clear H1
         obtain rfl := sJ_ H
         have z_17 := bR2_ BK269.out
         try go_wp2
         replace BK269 := aM_ (blk_drew BK269.out)
         replace HB := aM_ (below_drew1 HB.out)
         have p273 : 0 ≤ (x4_2 : Int) := pD_
         have q273 : x4_2 < (l0_1.length : Int) := pD_
         obtain ⟨ad273,A273_0,c273_0,e273,hx273_0,hl273_0,hi273_0⟩ := at_L4 HR0_1.out x4_2 p273 q273
         have hw273_0 := hx273_0
         cases e273
         replace hx273_0 := cB_ HB.out hx273_0
         have HR273_0 := aM_ hi273_0
         have HC273_0 := aM_ hl273_0
         clear hi273_0 hl273_0
         replace p273 := eq_true p273
         replace q273 := eq_true q273
         refine sTa_ 10 (fun w' => K_ w' gb269 0 (.slice A0_0 l0_0.length c0_0) ∧ K_ w' gb269 1 (.slice (some ad273) l0_1.length c0_1) ∧ w'.cell? (ad273.add (x4_2).toNat) = some (.slice A273_0 (rd_L4 l0_1 x4_2).length c273_0)) [] ⟨(blk_cell BK269.out 0).trans rfl,(blk_cell BK269.out 1).trans rfl,(cB_ HB.out hw273_0 :)⟩ (fun hHeld => ?_);refine with_tabW spec_ProgOk.tab9 spec_ProgOk.bits9 (fun HT_ HW_ => ?_)
         generalize wr.drew = w18 at BK269 HB HR273_0 hx273_0 hHeld ⊢
         refine jU_ 0 26 10 1 ?_
         refine jU_ 2 28 10 5 ?_
         refine jU_ 5 31 10 37 ?_
         refine jK3_ 1 27 10 39 ?_
         refine jU_ 3 29 10 47 ?_
         refine jK3_ 4 30 10 63 ?_
         refine jK3_ 6 32 10 127 ?_
         refine jU_ 7 33 10 255 ?_
         refine jN_ 8 34 10 511 (fun K hK => ?_)
         refine gO_ Try.func124 #[.slice A273_0 (rd_L4 l0_1 x4_2).length c273_0,.int .i64 (l0_0.length : Int)] ?_
         with_reducible refine (spec_BodyOk.calls k2 _ _ (rd_L4 l0_1 x4_2) (l0_0.length : Int) false _ ?side1 ?side2 A12.out).mono ?_
         (case side1 => exact cS_ (Kd.C_below HR273_0.out HB.out))
         (case side2 => exact HC273_0.out)
         rintro e w19 ⟨rfl,hb⟩
         refine ⟨_,rfl,?_⟩
         replace BK269 := aM_ (nB_ BK269.out hb)
         replace HB := aM_ (sT_ HB.out hb)
         (try clear hb)
         (try clear hb2)
         (try clear hk)
         (try clear hi)
         refine kO_ hK (some 34) ⟨(blk_cell BK269.out 0).trans rfl,(blk_cell BK269.out 1).trans rfl,(cB_ HB.out hw273_0 :)⟩ (fun hHeld => ?_)
         clear hK K
         refine jU_ 9 35 10 1023 ?_
         refine done_ (done_of HT_.out (by kernel_rfl)) ?_
         try go_wp2
         go_ret
         exact fI_ HB.out
       ·rw [if_neg c11] at H
        exact absurd H (by simp)
      ·rw [if_neg c10] at H
       have c10b0 : decide (x4_2 < (l0_1.length : Int)) = false := decide_eq_false c10
       clear c10
       by_cases c20 : (l0_0.length : Int) ≤ 3
       ·rw [if_pos c20] at H
        have c20b0 : decide ((l0_0.length : Int) ≤ 3) = true := decide_eq_true c20
        have c20b1 : decide (l0_0.length ≤ 3) = true := decide_eq_true (by omega)
        clear c20
        replace H := Option.bind_eq_some_iff.mp H
        obtain ⟨t272,A210,H⟩ := H
        replace H : (some t272) = some r := H
        have A21 := aM_ A210
        clear A210
        obtain rfl := sJ_ H
        have z_22 := bR2_ BK269.out
        go_wp2_with (first | (go_at_call 111;(with_reducible refine (spec_l1In.calls (l0_1.length : Int) 1 4 t272 _ A21.out).mono ?_);rintro e w' ⟨rfl,⟨nd,rfl⟩⟩))
        go_ret
        exact fI_ HB.out
       ·rw [if_neg c20] at H
        have c20b0 : decide ((l0_0.length : Int) ≤ 3) = false := decide_eq_false c20
        have c20b1 : decide (l0_0.length ≤ 3) = false := decide_eq_false (by omega)
        clear c20
        obtain rfl := sJ_ H
        have z_23 := bR2_ BK269.out
        go_wp2
        go_ret
        exact fI_ HB.out
def spec_ChanOk.f (a0_0 : Int) (l0_1 : List Int) (a0_2 : Bool) : Option (Bool) := (spec_l1In.f a0_0 1 4).bind fun t276 => (if t276 = true then (some (decide ((l0_1.length : Int) ≤ a0_0))) else (some false))
set_option maxHeartbeats 8000000 in
theorem spec_ChanOk.calls (a0_0 : Int) (A0_1 : Option Addr) (c0_1 : Nat) (l0_1 : List Int) (a0_2 : Bool) (r : Bool) (w : World) (hr0_1 : Kd.C (Kd.int .i64) w A0_1 l0_1.length l0_1) (hc0_1 : l0_1.length ≤ c0_1) (h : spec_ChanOk.f a0_0 l0_1 a0_2 = some r) :
  Calls Try.prog 146 #[.agg #[.int .i64 a0_0,.slice A0_1 l0_1.length c0_1,.bool a0_2]] w fun e w' => e = .returned (.bool r) ∧ Below w.heap.size w w' := by
 have hu94 := Try.underlying94
 have HR0_1 := aM_ hr0_1
 have HC0_1 := aM_ hc0_1
 clear hr0_1 hc0_1
 have HB := aM_ (Below.refl w.heap.size w)
 have H : ((spec_l1In.f a0_0 1 4).bind fun t276 => (if t276 = true then (some (decide ((l0_1.length : Int) ≤ a0_0))) else (some false))) = some r := h
 clear h
 replace H := Option.bind_eq_some_iff.mp H
 obtain ⟨t276,A20,H⟩ := H
 replace H : (if t276 = true then (some (decide ((l0_1.length : Int) ≤ a0_0))) else (some false)) = some r := H
 have A2 := aM_ A20
 clear A20
 by_cases c3 : t276 = true
 ·subst c3
  have H1 : (some (decide ((l0_1.length : Int) ≤ a0_0))) = some r := by rw [if_pos rfl] at H;exact H
  clear H
  have H := H1
  clear H1
  obtain rfl := sJ_ H
  go_enter Try.func146,Try.ntmps146
  go_wp2_with (first | ((with_reducible refine gate_dst (N := 1) rfl ?_);(try (refine gate_guard (by rfl) ?_;dsimp only));refine bX_ 1 (cs := #[.int .i64 a0_0,.slice A0_1 l0_1.length c0_1,.bool a0_2]) (t := 94) ?_;intro gb275 hg w4 hbox hb;have BK275 := aM_ (hbox);have GE275 := aM_ (sZ_ hg HB.out);replace HB := aM_ (sT_ HB.out hb);clear hb hbox hg;have z_5 := bR3_ BK275.out) | (refine gL_ (some 5) Try.func111 #[.int .i64 a0_0,.int .i64 1,.int .i64 4] ?_;(with_reducible refine (spec_l1In.calls a0_0 1 4 true _ A2.out).mono ?_);rintro e w' ⟨rfl,⟨nd,rfl⟩⟩;refine ⟨_,rfl,?_⟩))
  go_ret
  exact fI_ HB.out
 ·replace c3 := Bool.eq_false_iff.mpr c3
  subst c3
  have H1 := hF_ H
  clear H
  have H := H1
  clear H1
  obtain rfl := sJ_ H
  go_enter Try.func146,Try.ntmps146
  go_wp2_with (first | ((with_reducible refine gate_dst (N := 1) rfl ?_);(try (refine gate_guard (by rfl) ?_;dsimp only));refine bX_ 1 (cs := #[.int .i64 a0_0,.slice A0_1 l0_1.length c0_1,.bool a0_2]) (t := 94) ?_;intro gb275 hg w6 hbox hb;have BK275 := aM_ (hbox);have GE275 := aM_ (sZ_ hg HB.out);replace HB := aM_ (sT_ HB.out hb);clear hb hbox hg;have z_7 := bR3_ BK275.out) | (refine gL_ (some 5) Try.func111 #[.int .i64 a0_0,.int .i64 1,.int .i64 4] ?_;(with_reducible refine (spec_l1In.calls a0_0 1 4 false _ A2.out).mono ?_);rintro e w' ⟨rfl,⟨nd,rfl⟩⟩;refine ⟨_,rfl,?_⟩))
  go_ret
  exact fI_ HB.out
end Go.Proofs.Ytobachfngmpeiaa.PFnExactAble
