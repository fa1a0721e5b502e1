/- A part of the proof that the law FnExactChanSame holds for every input: the words, functions and walks that its row needs, without a condition of their own. -/
import Derived.Test.YtobachfngmpeiaaZFnExactChanSamea2
import Derived.Test.YtobachfngmpeiaaZFnExactChanSamea17
import Derived.Test.YtobachfngmpeiaaZFnExactChanSames
namespace Go.Proofs.Ytobachfngmpeiaa.PFnExactChanSame
open Go.RowKit Go.Proofs.YtobachfngmpeiaaW.PrintWords Go.Proofs.YtobachfngmpeiaaW.PrintLast Go.Proofs.YtobachfngmpeiaaW.PrintMore
attribute [local go_sem] max2_int min2_int max_two min_two max_three min_three max_four min_four   -- for this text's walks alone
set_option linter.unusedVariables false
set_option linter.unusedSimpArgs false
mutual
def impl_Base.j0 : Nat → List Int → Int → Bool → Option (Int)
  | 0,_,_,_ => none
  | k + 1,x0,x1,x19 => if x19 = true then (some (-1)) else (impl_Base.l0 k x1 0 0 x0 (x0.length : Int) 0)
def impl_Base.l0 : Nat → Int → Int → Int → List Int → Int → Int → Option (Int)
  | 0,_,_,_,_,_,_ => none
  | k + 1,x1,x5,x6,x20,x21,x22 => if x22 < x21 then (if 0 ≤ x22 then (if x22 < (x20.length : Int) then (if x22 < x1 then (impl_Base.l0 k x1 (wrap64 (x5 + (wrap64 ((rd x20 x22) + 4)))) (wrap64 (x6 + (wrap64 ((rd x20 x22) + 4)))) x20 x21 (wrap64 (x22 + 1))) else (impl_Base.l0 k x1 x5 (wrap64 (x6 + (wrap64 ((rd x20 x22) + 4)))) x20 x21 (wrap64 (x22 + 1)))) else (none)) else (none)) else (if x6 > 24 then (some (-1)) else (some x5))
end
def impl_Base.f (k : Nat) (l0 : List Int) (a1 : Int) : Option (Int) := (impl_within.f a1 0 (wrap64 ((l0.length : Int) - 1))).bind fun t446 => (if t446 = true then ((impl_capsOk.f k l0).bind fun t447 => (impl_Base.j0 k l0 a1 (!t447))) else (impl_Base.j0 k l0 a1 true))
set_option maxHeartbeats 8000000 in
set_option maxRecDepth 100000 in
theorem impl_Base.calls (k : Nat) (A0 : Option Addr) (c0 : Nat) (l0 : List Int) (a1 : Int) (r : Int) (w : World) (hr0 : Kd.C (Kd.int .i64) w A0 l0.length l0) (hc0 : l0.length ≤ c0) (h : impl_Base.f k l0 a1 = some r) :
  Calls Try.prog 47 #[.slice A0 l0.length c0,.int .i64 a1] w fun e w' => e = .returned (.int .i64 r) ∧ Drawn0 w w' := by
 have HR0 := aM_ hr0
 have HC0 := aM_ hc0
 clear hr0 hc0
 have H : ((impl_within.f a1 0 (wrap64 ((l0.length : Int) - 1))).bind fun t446 => (if t446 = true then ((impl_capsOk.f k l0).bind fun t447 => (impl_Base.j0 k l0 a1 (!t447))) else (impl_Base.j0 k l0 a1 true))) = some r := h
 clear h
 have HC3 := aM_ H
 clear H
 go_enter Try.func47,Try.ntmps47
 go_upto_region 1 with (fail)
 go_cut [19] (fun v19 wc => ∃ (kq : Nat) (x19_2 : Bool),v19 = .bool x19_2 ∧ Aside0 (impl_Base.j0 kq l0 a1 x19_2 = some r) ∧ Aside0 (kq ≤ k) ∧ Drawn0 w wc)
 case first =>
  have H := HC3.out
  clear HC3
  replace H := Option.bind_eq_some_iff.mp H
  obtain ⟨t446,A40,H⟩ := H
  replace H : (if t446 = true then ((impl_capsOk.f k l0).bind fun t447 => (impl_Base.j0 k l0 a1 (!t447))) else (impl_Base.j0 k l0 a1 true)) = some r := H
  have A4 := aM_ A40
  clear A40
  by_cases c5 : t446 = true
  ·subst c5
   have H1 : ((impl_capsOk.f k l0).bind fun t447 => (impl_Base.j0 k l0 a1 (!t447))) = some r := by rw [if_pos rfl] at H;exact H
   clear H
   have H := H1
   clear H1
   replace H := Option.bind_eq_some_iff.mp H
   obtain ⟨t447,A60,H⟩ := H
   replace H : (impl_Base.j0 k l0 a1 (!t447)) = some r := H
   have A6 := aM_ A60
   clear A60
   have H' := aM_ H
   clear H
   go_wp2_with (first | ((with_reducible refine gate_callee (f := 106) rfl ?_);refine gL_ (some 13) Try.func106 #[.int .i64 a1,.int .i64 0,.int .i64 (wrap64 ((l0.length : Int) - 1))] ?_;(with_reducible refine (impl_within.calls a1 0 (wrap64 ((l0.length : Int) - 1)) true _ A4.out).mono ?_);rintro e w' ⟨rfl,⟨nd,rfl⟩⟩;refine ⟨_,rfl,?_⟩) | (go_at_call 109;(with_reducible refine (impl_capsOk.calls k _ _ l0 t447 _ ?side1 ?side2 A6.out).mono ?_);(case side1 => exact cS_ HR0.out);(case side2 => exact HC0.out);rintro e w' ⟨rfl,⟨nd,rfl⟩⟩))
   go_meet
   case rel => exact ⟨_,(!t447),(by first | rfl | (simp;done) | (simp [*];done)),H',⟨by first | omega | exact Nat.le_refl _⟩,by repeat (first | exact Drawn0.refl _ | apply Drawn0.step)⟩
  ·replace c5 := Bool.eq_false_iff.mpr c5
   subst c5
   have H1 : (impl_Base.j0 k l0 a1 true) = some r := by rw [if_neg (show ¬ (false = true) by decide)] at H;exact H
   clear H
   have H := H1
   clear H1
   have H' := aM_ H
   clear H
   go_wp2_with (first | ((with_reducible refine gate_callee (f := 106) rfl ?_);refine gL_ (some 13) Try.func106 #[.int .i64 a1,.int .i64 0,.int .i64 (wrap64 ((l0.length : Int) - 1))] ?_;(with_reducible refine (impl_within.calls a1 0 (wrap64 ((l0.length : Int) - 1)) false _ A4.out).mono ?_);rintro e w' ⟨rfl,⟨nd,rfl⟩⟩;refine ⟨_,rfl,?_⟩))
   go_meet
   case rel => exact ⟨_,(true),(by first | rfl | (simp;done) | (simp [*];done)),H',⟨by first | omega | exact Nat.le_refl _⟩,by repeat (first | exact Drawn0.refl _ | apply Drawn0.step)⟩
 case rest =>
  clear HC3
  try clear c1
  try clear p2
  try clear c4
  try clear c5
  try clear p6
  obtain ⟨kq,x19_2,rfl,HA,HJ2,⟨mc2,rfl⟩⟩ := hcut
  cases kq with
  | zero => exact absurd HA.out (by simp [impl_Base.j0])
  | succ kj2 =>
   have H := HA.out
   clear HA
   simp only [impl_Base.j0] at H
   by_cases c7 : x19_2 = true
   ·subst c7
    have H1 : (some (-1)) = some r := by rw [if_pos rfl] at H;exact H
    clear H
    have H := H1
    clear H1
    obtain rfl := Option.some.inj H
    go_wp2
    go_ret
    exact ⟨by first | rfl | (simp;done) | (simp [*];done),by repeat (first | exact Drawn0.refl _ | apply Drawn0.step)⟩
   ·replace c7 := Bool.eq_false_iff.mpr c7
    subst c7
    have H1 : (impl_Base.l0 kj2 a1 0 0 l0 (l0.length : Int) 0) = some r := by rw [if_neg (show ¬ (false = true) by decide)] at H;exact H
    clear H
    have H := H1
    clear H1
    have H' := aM_ H
    clear H
    go_wp2
    go_loopg [5,6,22] kj2 (fun kq v5 v6 v22 w' => ∃ (x5_2 : Int) (x6_2 : Int) (x22_2 : Int),v5 = .int .i64 x5_2 ∧ v6 = .int .i64 x6_2 ∧ v22 = .int .i64 x22_2 ∧ Aside0 (impl_Base.l0 kq a1 x5_2 x6_2 l0 (l0.length : Int) x22_2 = some r) ∧ Aside0 (kq ≤ kj2) ∧ Drawn0 w w')
    case atStart => exact ⟨(0),(0),(0),(by first | rfl | (simp;done) | (simp [*];done)),(by first | rfl | (simp;done) | (simp [*];done)),(by first | rfl | (simp;done) | (simp [*];done)),H',⟨Nat.le_refl _⟩,by repeat (first | exact Drawn0.refl _ | apply Drawn0.step)⟩
    case round =>
     clear H'
     try clear c1
     try clear c2
     try clear p2
     try clear c4
     try clear c5
     try clear p6
     try clear c7
     try clear p2
     try clear p6
     obtain ⟨x5_2,x6_2,x22_2,rfl,rfl,rfl,HA,HK2,⟨m2,rfl⟩⟩ := hrel
     cases gk with
     | zero => exact absurd HA.out (by simp [impl_Base.l0])
     | succ k2 =>
      have H := HA.out
      clear HA
      simp only [impl_Base.l0] at H
      by_cases c8 : x22_2 < (l0.length : Int)
      ·rw [if_pos c8] at H
       have c8b0 : decide (x22_2 < (l0.length : Int)) = true := decide_eq_true c8
       clear c8
       by_cases c9 : 0 ≤ x22_2
       ·rw [if_pos c9] at H
        have c9b0 : decide (0 ≤ x22_2) = true := decide_eq_true c9
        clear c9
        by_cases c10 : x22_2 < (l0.length : Int)
        ·rw [if_pos c10] at H
         have c10b0 : decide (x22_2 < (l0.length : Int)) = true := decide_eq_true c10
         clear c10
         by_cases c11 : x22_2 < a1
         ·rw [if_pos c11] at H
          have c11b0 : decide (x22_2 < a1) = true := decide_eq_true c11
          clear c11
          have H' := aM_ H
          clear H
          have p448 : 0 ≤ (x22_2 : Int) := of_decide_eq_true (by first | (with_reducible assumption) | assumption)
          have q448 : x22_2 < (l0.length : Int) := of_decide_eq_true (by first | (with_reducible assumption) | assumption)
          obtain ⟨ad448,e448,hx448_0⟩ := Kd.at_int HR0.out x22_2 p448 q448
          cases e448
          replace p448 := eq_true p448
          replace q448 := eq_true q448
          go_wp2
          go_roundg k2
          case measure => have := HJ2.out;have := HK2.out;omega
          case rel => exact ⟨(wrap64 (x5_2 + (wrap64 ((rd l0 x22_2) + 4)))),(wrap64 (x6_2 + (wrap64 ((rd l0 x22_2) + 4)))),(wrap64 (x22_2 + 1)),(by first | rfl | (simp;done) | (simp [*];done)),(by first | rfl | (simp;done) | (simp [*];done)),(by first | rfl | (simp;done) | (simp [*];done)),H',⟨by have := HJ2.out;have := HK2.out;omega⟩,by repeat (first | exact Drawn0.refl _ | apply Drawn0.step)⟩
         ·rw [if_neg c11] at H
          have c11b0 : decide (x22_2 < a1) = false := decide_eq_false c11
          clear c11
          have H' := aM_ H
          clear H
          have p448 : 0 ≤ (x22_2 : Int) := of_decide_eq_true (by first | (with_reducible assumption) | assumption)
          have q448 : x22_2 < (l0.length : Int) := of_decide_eq_true (by first | (with_reducible assumption) | assumption)
          obtain ⟨ad448,e448,hx448_0⟩ := Kd.at_int HR0.out x22_2 p448 q448
          cases e448
          replace p448 := eq_true p448
          replace q448 := eq_true q448
          go_wp2
          go_roundg k2
          case measure => have := HJ2.out;have := HK2.out;omega
          case rel => exact ⟨(x5_2),(wrap64 (x6_2 + (wrap64 ((rd l0 x22_2) + 4)))),(wrap64 (x22_2 + 1)),(by first | rfl | (simp;done) | (simp [*];done)),(by first | rfl | (simp;done) | (simp [*];done)),(by first | rfl | (simp;done) | (simp [*];done)),H',⟨by have := HJ2.out;have := HK2.out;omega⟩,by repeat (first | exact Drawn0.refl _ | apply Drawn0.step)⟩
        ·rw [if_neg c10] at H
         exact absurd H (by simp)
       ·rw [if_neg c9] at H
        exact absurd H (by simp)
      ·rw [if_neg c8] at H
       have c8b0 : decide (x22_2 < (l0.length : Int)) = false := decide_eq_false c8
       clear c8
       by_cases c12 : x6_2 > 24
       ·rw [if_pos c12] at H
        have c12b0 : decide (24 < x6_2) = true := decide_eq_true c12
        clear c12
        obtain rfl := Option.some.inj H
        go_wp2
        go_ret
        exact ⟨by first | rfl | (simp;done) | (simp [*];done),by repeat (first | exact Drawn0.refl _ | apply Drawn0.step)⟩
       ·rw [if_neg c12] at H
        have c12b0 : decide (24 < x6_2) = false := decide_eq_false c12
        clear c12
        obtain rfl := Option.some.inj H
        go_wp2
        go_ret
        exact ⟨by first | rfl | (simp;done) | (simp [*];done),by repeat (first | exact Drawn0.refl _ | apply Drawn0.step)⟩
def impl_ViewOk.l0 : Nat → List Int → Int → Int → List (List (S170)) → Option (Bool)
  | 0,_,_,_,_ => none
  | k + 1,x13,x14,x15,x450000 => if x15 < x14 then (if 0 ≤ x15 then (if x15 < (x13.length : Int) then (if x15 < (x450000.length : Int) then ((impl_within.f (rd x13 x15) 0 (wrap64 (((rd_L14 x450000 x15).length : Int) - 1))).bind fun t452 => (if t452 = true then (impl_ViewOk.l0 k x13 x14 (wrap64 (x15 + 1)) x450000) else (some false))) else (none)) else (none)) else (none)) else (some true)
def impl_ViewOk.f (k : Nat) (l0_0 : List (List (S170))) (l1 : List Int) : Option (Bool) := if (l1.length : Int) = (l0_0.length : Int) then (impl_ViewOk.l0 k l1 (l1.length : Int) 0 l0_0) else (some false)
set_option maxHeartbeats 8000000 in
set_option maxRecDepth 100000 in
theorem impl_ViewOk.calls (k : Nat) (A0_0 : Option Addr) (c0_0 : Nat) (l0_0 : List (List (S170))) (A1 : Option Addr) (c1 : Nat) (l1 : List Int) (r : Bool) (w : World) (hr0_0 : Kd.C (Kd.slice 170 k170) w A0_0 l0_0.length l0_0) (hc0_0 : l0_0.length ≤ c0_0) (hr1 : Kd.C (Kd.int .i64) w A1 l1.length l1) (hc1 : l1.length ≤ c1) (h : impl_ViewOk.f k l0_0 l1 = some r) :
  Calls Try.prog 137 #[.agg #[.slice A0_0 l0_0.length c0_0],.slice A1 l1.length c1] w fun e w' => e = .returned (.bool r) ∧ Below w.heap.size w w' := by
 have hu57 := Try.underlying57
 have HR0_0 := aM_ hr0_0
 have HC0_0 := aM_ hc0_0
 clear hr0_0 hc0_0
 have HR1 := aM_ hr1
 have HC1 := aM_ hc1
 clear hr1 hc1
 have HB := aM_ (Below.refl w.heap.size w)
 have H : (if (l1.length : Int) = (l0_0.length : Int) then (impl_ViewOk.l0 k l1 (l1.length : Int) 0 l0_0) else (some false)) = some r := h
 clear h
 by_cases c3 : (l1.length : Int) = (l0_0.length : Int)
 ·rw [if_pos c3] at H
  have c3b0 : ((l1.length : Int) == (l0_0.length : Int)) = true := beq_iff_eq.mpr c3
  have c3b1 : ((l1.length : Int) != (l0_0.length : Int)) = false := bne_eq_false_iff_eq.mpr c3
  have c3b2 : (l1.length == l0_0.length) = true := by first | simpa using c3 | (simp at c3 ⊢;omega)
  clear c3
  have H' := aM_ H
  clear H
  go_enter Try.func137,Try.ntmps137
  go_wp2_with (first | ((with_reducible refine gate_dst (N := 2) rfl ?_);refine bX_ 2 (cs := #[.slice A0_0 l0_0.length c0_0]) (t := 57) ?_;intro gb449 hg w4 hbox hb;have n0 := aM_ (sT_ HB.out hb);have n1 := aM_ (hbox);have n2 := aM_ (sZ_ hg HB.out);have n3 := aM_ (sZ_ hg HB.out);clear HB;have HB := n0;have BK449 := n1;have GW449 := n2;have GE449 := n3;clear n0 n1 n2 n3;clear hb hbox hg;have hcz5_0 : w4.cell? ⟨gb449,0,none⟩ = some (.slice A0_0 l0_0.length c0_0) := (blk_cell BK449.out 0).trans rfl;have hfz5_0 := blk_frozen BK449.out 0))
  go_loopg [15] k (fun kq v15 w' => ∃ (x15_1 : Int),v15 = .int .i64 x15_1 ∧ Aside0 (impl_ViewOk.l0 kq l1 (l1.length : Int) x15_1 l0_0 = some r) ∧ Aside0 (kq ≤ k) ∧ Aside0 (w'.heap[gb449]? = some (.cells #[(.slice A0_0 l0_0.length c0_0)] 57 (0,0))) ∧ Aside0 (Below w.heap.size w w'))
  case atStart => exact ⟨(0),(by first | rfl | (simp;done) | (simp [*];done)),H',⟨Nat.le_refl _⟩,⟨rW_ BK449.out⟩,⟨gW_ HB.out⟩⟩
  case round =>
   clear H'
   try clear c1
   try clear p2
   try clear c3
   try clear c3b0
   try clear c3b1
   try clear c3b2
   try clear hcz5_0 hfz5_0
   obtain ⟨x15_1,rfl,HA,HK1,BK449,HB⟩ := hrel
   cases gk with
   | zero => exact absurd HA.out (by simp [impl_ViewOk.l0])
   | succ k1 =>
    have H := HA.out
    clear HA
    simp only [impl_ViewOk.l0] at H
    by_cases c6 : x15_1 < (l1.length : Int)
    ·rw [if_pos c6] at H
     have c6b0 : decide (x15_1 < (l1.length : Int)) = true := decide_eq_true c6
     clear c6
     by_cases c7 : 0 ≤ x15_1
     ·rw [if_pos c7] at H
      have c7b0 : decide (0 ≤ x15_1) = true := decide_eq_true c7
      clear c7
      by_cases c8 : x15_1 < (l1.length : Int)
      ·rw [if_pos c8] at H
       have c8b0 : decide (x15_1 < (l1.length : Int)) = true := decide_eq_true c8
       clear c8
       by_cases c9 : x15_1 < (l0_0.length : Int)
       ·rw [if_pos c9] at H
        have c9b0 : decide (x15_1 < (l0_0.length : Int)) = true := decide_eq_true c9
        clear c9
        replace H := Option.bind_eq_some_iff.mp H
        obtain ⟨t452,A100,H⟩ := H
        replace H : (if t452 = true then (impl_ViewOk.l0 k1 l1 (l1.length : Int) (wrap64 (x15_1 + 1)) l0_0) else (some false)) = some r := H
        have A10 := aM_ A100
        clear A100
        by_cases c11 : t452 = true
        ·subst c11
         have H1 : (impl_ViewOk.l0 k1 l1 (l1.length : Int) (wrap64 (x15_1 + 1)) l0_0) = some r := by rw [if_pos rfl] at H;exact H
         clear H
         have H := H1
         clear H1
         have H' := aM_ H
         clear H
         have p450 : 0 ≤ (x15_1 : Int) := of_decide_eq_true (by first | (with_reducible assumption) | assumption)
         have q450 : x15_1 < (l1.length : Int) := of_decide_eq_true (by first | (with_reducible assumption) | assumption)
         obtain ⟨ad450,e450,hx450_0⟩ := Kd.at_int HR1.out x15_1 p450 q450
         cases e450
         replace hx450_0 := cB_ HB.out hx450_0
         replace p450 := eq_true p450
         replace q450 := eq_true q450
         have hcz12_0 : wr.cell? ⟨gb449,0,none⟩ = some (.slice A0_0 l0_0.length c0_0) := (blk_cell BK449.out 0).trans rfl
         have hfz12_0 := blk_frozen BK449.out 0
         have p451 : 0 ≤ (x15_1 : Int) := of_decide_eq_true (by first | (with_reducible assumption) | assumption)
         have q451 : x15_1 < (l0_0.length : Int) := of_decide_eq_true (by first | (with_reducible assumption) | assumption)
         obtain ⟨ad451,A451_0,c451_0,e451,hx451_0,hl451_0,hi451_0⟩ := at_L14 HR0_0.out x15_1 p451 q451
         cases e451
         replace hx451_0 := cB_ HB.out hx451_0
         have HR451_0 := aM_ hi451_0
         have HC451_0 := aM_ hl451_0
         clear hi451_0 hl451_0
         replace p451 := eq_true p451
         replace q451 := eq_true q451
         go_wp2_with (first | ((with_reducible refine gate_callee (f := 106) rfl ?_);refine gL_ (some 28) Try.func106 #[.int .i64 (rd l1 x15_1),.int .i64 0,.int .i64 (wrap64 (((rd_L14 l0_0 x15_1).length : Int) - 1))] ?_;(with_reducible refine (impl_within.calls (rd l1 x15_1) 0 (wrap64 (((rd_L14 l0_0 x15_1).length : Int) - 1)) true _ A10.out).mono ?_);rintro e w' ⟨rfl,⟨nd,rfl⟩⟩;refine ⟨_,rfl,?_⟩))
         go_roundg k1
         case measure => have := HK1.out;omega
         case rel => exact ⟨(wrap64 (x15_1 + 1)),(by first | rfl | (simp;done) | (simp [*];done)),H',⟨by have := HK1.out;omega⟩,⟨rW_ BK449.out⟩,⟨gW_ HB.out⟩⟩
        ·replace c11 := Bool.eq_false_iff.mpr c11
         subst c11
         have H1 : (some false) = some r := by rw [if_neg (show ¬ (false = true) by decide)] at H;exact H
         clear H
         have H := H1
         clear H1
         obtain rfl := Option.some.inj H
         have p450 : 0 ≤ (x15_1 : Int) := of_decide_eq_true (by first | (with_reducible assumption) | assumption)
         have q450 : x15_1 < (l1.length : Int) := of_decide_eq_true (by first | (with_reducible assumption) | assumption)
         obtain ⟨ad450,e450,hx450_0⟩ := Kd.at_int HR1.out x15_1 p450 q450
         cases e450
         replace hx450_0 := cB_ HB.out hx450_0
         replace p450 := eq_true p450
         replace q450 := eq_true q450
         have hcz13_0 : wr.cell? ⟨gb449,0,none⟩ = some (.slice A0_0 l0_0.length c0_0) := (blk_cell BK449.out 0).trans rfl
         have hfz13_0 := blk_frozen BK449.out 0
         have p451 : 0 ≤ (x15_1 : Int) := of_decide_eq_true (by first | (with_reducible assumption) | assumption)
         have q451 : x15_1 < (l0_0.length : Int) := of_decide_eq_true (by first | (with_reducible assumption) | assumption)
         obtain ⟨ad451,A451_0,c451_0,e451,hx451_0,hl451_0,hi451_0⟩ := at_L14 HR0_0.out x15_1 p451 q451
         cases e451
         replace hx451_0 := cB_ HB.out hx451_0
         have HR451_0 := aM_ hi451_0
         have HC451_0 := aM_ hl451_0
         clear hi451_0 hl451_0
         replace p451 := eq_true p451
         replace q451 := eq_true q451
         go_wp2_with (first | ((with_reducible refine gate_callee (f := 106) rfl ?_);refine gL_ (some 28) Try.func106 #[.int .i64 (rd l1 x15_1),.int .i64 0,.int .i64 (wrap64 (((rd_L14 l0_0 x15_1).length : Int) - 1))] ?_;(with_reducible refine (impl_within.calls (rd l1 x15_1) 0 (wrap64 (((rd_L14 l0_0 x15_1).length : Int) - 1)) false _ A10.out).mono ?_);rintro e w' ⟨rfl,⟨nd,rfl⟩⟩;refine ⟨_,rfl,?_⟩))
         go_ret
         exact fI_ HB.out
       ·rw [if_neg c9] at H
        exact absurd H (by simp)
      ·rw [if_neg c8] at H
       exact absurd H (by simp)
     ·rw [if_neg c7] at H
      exact absurd H (by simp)
    ·rw [if_neg c6] at H
     have c6b0 : decide (x15_1 < (l1.length : Int)) = false := decide_eq_false c6
     clear c6
     obtain rfl := Option.some.inj H
     go_wp2
     go_ret
     exact fI_ HB.out
 ·rw [if_neg c3] at H
  have c3b0 : ((l1.length : Int) == (l0_0.length : Int)) = false := beq_eq_false_iff_ne.mpr c3
  have c3b1 : ((l1.length : Int) != (l0_0.length : Int)) = true := bne_iff_ne.mpr c3
  have c3b2 : (l1.length == l0_0.length) = false := by first | simpa using c3 | (simp at c3 ⊢;omega)
  obtain rfl := Option.some.inj H
  go_enter Try.func137,Try.ntmps137
  go_wp2_with (first | ((with_reducible refine gate_dst (N := 2) rfl ?_);refine bX_ 2 (cs := #[.slice A0_0 l0_0.length c0_0]) (t := 57) ?_;intro gb449 hg w14 hbox hb;have n0 := aM_ (sT_ HB.out hb);have n1 := aM_ (hbox);have n2 := aM_ (sZ_ hg HB.out);have n3 := aM_ (sZ_ hg HB.out);clear HB;have HB := n0;have BK449 := n1;have GW449 := n2;have GE449 := n3;clear n0 n1 n2 n3;clear hb hbox hg;have hcz15_0 : w14.cell? ⟨gb449,0,none⟩ = some (.slice A0_0 l0_0.length c0_0) := (blk_cell BK449.out 0).trans rfl;have hfz15_0 := blk_frozen BK449.out 0))
  go_ret
  exact fI_ HB.out
mutual
def impl_MemoryOk.l0 : Nat → List (List (S170)) → Int → Int → List (List (S170)) → Option (Bool)
  | 0,_,_,_,_ => none
  | k + 1,x8,x9,x10,x454000 => if x10 < x9 then (if 0 ≤ x10 then (if x10 < (x8.length : Int) then ((impl_within.f ((rd_L14 x8 x10).length : Int) 1 4000).bind fun t455 => (if t455 = true then (impl_MemoryOk.l1 k x8 x9 x10 (rd_L14 x8 x10) ((rd_L14 x8 x10).length : Int) 0 x454000) else (some false))) else (none)) else (none)) else (some ((x454000.length : Int) == 24))
def impl_MemoryOk.l1 : Nat → List (List (S170)) → Int → Int → List (S170) → Int → Int → List (List (S170)) → Option (Bool)
  | 0,_,_,_,_,_,_,_ => none
  | k + 1,x8,x9,x10,x18,x19,x20,x454000 => if x20 < x19 then (if 0 ≤ x20 then (if x20 < (x18.length : Int) then ((impl_ViewOk.f k x454000 ((rd_T170 x18 x20).f1)).bind fun t458 => (if t458 = true then (impl_MemoryOk.l1 k x8 x9 x10 x18 x19 (wrap64 (x20 + 1)) x454000) else (some false))) else (none)) else (none)) else (impl_MemoryOk.l0 k x8 x9 (wrap64 (x10 + 1)) x454000)
end
def impl_MemoryOk.f (k : Nat) (l0_0 : List (List (S170))) : Option (Bool) := impl_MemoryOk.l0 k l0_0 (l0_0.length : Int) 0 l0_0
set_option maxHeartbeats 8000000 in
set_option maxRecDepth 100000 in
theorem impl_MemoryOk.calls (k : Nat) (A0_0 : Option Addr) (c0_0 : Nat) (l0_0 : List (List (S170))) (r : Bool) (w : World) (hr0_0 : Kd.C (Kd.slice 170 k170) w A0_0 l0_0.length l0_0) (hc0_0 : l0_0.length ≤ c0_0) (h : impl_MemoryOk.f k l0_0 = some r) :
  Calls Try.prog 114 #[.agg #[.slice A0_0 l0_0.length c0_0]] w fun e w' => e = .returned (.bool r) ∧ Below w.heap.size w w' := by
 have hu57 := Try.underlying57
 have hu170 := Try.underlying170
 have HR0_0 := aM_ hr0_0
 have HC0_0 := aM_ hc0_0
 clear hr0_0 hc0_0
 have HB := aM_ (Below.refl w.heap.size w)
 have H : (impl_MemoryOk.l0 k l0_0 (l0_0.length : Int) 0 l0_0) = some r := h
 clear h
 have H' := aM_ H
 clear H
 go_enter Try.func114,Try.ntmps114
 go_wp2_with (first | ((with_reducible refine gate_dst (N := 1) rfl ?_);refine bX_ 1 (cs := #[.slice A0_0 l0_0.length c0_0]) (t := 57) ?_;intro gb453 hg w2 hbox hb;have n0 := aM_ (sT_ HB.out hb);have n1 := aM_ (hbox);have n2 := aM_ (sZ_ hg HB.out);have n3 := aM_ (sZ_ hg HB.out);clear HB;have HB := n0;have BK453 := n1;have GW453 := n2;have GE453 := n3;clear n0 n1 n2 n3;clear hb hbox hg;have hcz3_0 : w2.cell? ⟨gb453,0,none⟩ = some (.slice A0_0 l0_0.length c0_0) := (blk_cell BK453.out 0).trans rfl;have hfz3_0 := blk_frozen BK453.out 0))
 go_loopg [10] k (fun kq v10 w' => ∃ (x10_1 : Int),v10 = .int .i64 x10_1 ∧ Aside0 (impl_MemoryOk.l0 kq l0_0 (l0_0.length : Int) x10_1 l0_0 = some r) ∧ Aside0 (kq ≤ k) ∧ Aside0 (w'.heap[gb453]? = some (.cells #[(.slice A0_0 l0_0.length c0_0)] 57 (0,0))) ∧ Aside0 (Below w.heap.size w w'))
 case atStart => exact ⟨(0),(by first | rfl | (simp;done) | (simp [*];done)),H',⟨Nat.le_refl _⟩,⟨rW_ BK453.out⟩,⟨gW_ HB.out⟩⟩
 case round =>
  clear H'
  try clear c1
  try clear p2
  try clear hcz3_0 hfz3_0
  obtain ⟨x10_1,rfl,HA,HK1,BK453,HB⟩ := hrel
  cases gk with
  | zero => exact absurd HA.out (by simp [impl_MemoryOk.l0])
  | succ k1 =>
   have H := HA.out
   clear HA
   simp only [impl_MemoryOk.l0] at H
   by_cases c4 : x10_1 < (l0_0.length : Int)
   ·rw [if_pos c4] at H
    have c4b0 : decide (x10_1 < (l0_0.length : Int)) = true := decide_eq_true c4
    clear c4
    by_cases c5 : 0 ≤ x10_1
    ·rw [if_pos c5] at H
     have c5b0 : decide (0 ≤ x10_1) = true := decide_eq_true c5
     clear c5
     by_cases c6 : x10_1 < (l0_0.length : Int)
     ·rw [if_pos c6] at H
      have c6b0 : decide (x10_1 < (l0_0.length : Int)) = true := decide_eq_true c6
      clear c6
      replace H := Option.bind_eq_some_iff.mp H
      obtain ⟨t455,A70,H⟩ := H
      replace H : (if t455 = true then (impl_MemoryOk.l1 k1 l0_0 (l0_0.length : Int) x10_1 (rd_L14 l0_0 x10_1) ((rd_L14 l0_0 x10_1).length : Int) 0 l0_0) else (some false)) = some r := H
      have A7 := aM_ A70
      clear A70
      by_cases c8 : t455 = true
      ·subst c8
       have H1 : (impl_MemoryOk.l1 k1 l0_0 (l0_0.length : Int) x10_1 (rd_L14 l0_0 x10_1) ((rd_L14 l0_0 x10_1).length : Int) 0 l0_0) = some r := by rw [if_pos rfl] at H;exact H
       clear H
       have H := H1
       clear H1
       have H' := aM_ H
       clear H
       have p454 : 0 ≤ (x10_1 : Int) := of_decide_eq_true (by first | (with_reducible assumption) | assumption)
       have q454 : x10_1 < (l0_0.length : Int) := of_decide_eq_true (by first | (with_reducible assumption) | assumption)
       obtain ⟨ad454,A454_0,c454_0,e454,hx454_0,hl454_0,hi454_0⟩ := at_L14 HR0_0.out x10_1 p454 q454
       cases e454
       replace hx454_0 := cB_ HB.out hx454_0
       have HR454_0 := aM_ hi454_0
       have HC454_0 := aM_ hl454_0
       clear hi454_0 hl454_0
       replace p454 := eq_true p454
       replace q454 := eq_true q454
       go_wp2_with (first | ((with_reducible refine gate_callee (f := 106) rfl ?_);refine gL_ (some 16) Try.func106 #[.int .i64 ((rd_L14 l0_0 x10_1).length : Int),.int .i64 1,.int .i64 4000] ?_;(with_reducible refine (impl_within.calls ((rd_L14 l0_0 x10_1).length : Int) 1 4000 true _ A7.out).mono ?_);rintro e w' ⟨rfl,⟨nd,rfl⟩⟩;refine ⟨_,rfl,?_⟩))
       go_loopg [20] k1 (fun kq v20 w' => ∃ (x20_2 : Int),v20 = .int .i64 x20_2 ∧ Aside0 (impl_MemoryOk.l1 kq l0_0 (l0_0.length : Int) x10_1 (rd_L14 l0_0 x10_1) ((rd_L14 l0_0 x10_1).length : Int) x20_2 l0_0 = some r) ∧ Aside0 (kq ≤ k1) ∧ Aside0 (w'.heap[gb453]? = some (.cells #[(.slice (some ad454) l0_0.length c0_0)] 57 (0,0))) ∧ Aside0 (Below w.heap.size w w'))
       case atStart => exact ⟨(0),(by first | rfl | (simp;done) | (simp [*];done)),H',⟨Nat.le_refl _⟩,⟨rW_ BK453.out⟩,⟨gW_ HB.out⟩⟩
       case round =>
        clear H'
        try clear c1
        try clear p2
        try clear c4
        try clear c4b0
        try clear p4
        try clear q4
        try clear hx4
        try clear c5
        try clear c5b0
        try clear c6
        try clear c6b0
        try clear c8
        try clear hcz3_0 hfz3_0
        try clear hx454_0
        try clear p2
        try clear p454
        try clear q454
        obtain ⟨x20_2,rfl,HA,HK2,BK453,HB⟩ := hrel
        cases gk with
        | zero => exact absurd HA.out (by simp [impl_MemoryOk.l1])
        | succ k2 =>
         have H := HA.out
         clear HA
         simp only [impl_MemoryOk.l1] at H
         by_cases c9 : x20_2 < ((rd_L14 l0_0 x10_1).length : Int)
         ·rw [if_pos c9] at H
          have c9b0 : decide (x20_2 < ((rd_L14 l0_0 x10_1).length : Int)) = true := decide_eq_true c9
          clear c9
          by_cases c10 : 0 ≤ x20_2
          ·rw [if_pos c10] at H
           have c10b0 : decide (0 ≤ x20_2) = true := decide_eq_true c10
           clear c10
           by_cases c11 : x20_2 < ((rd_L14 l0_0 x10_1).length : Int)
           ·rw [if_pos c11] at H
            have c11b0 : decide (x20_2 < ((rd_L14 l0_0 x10_1).length : Int)) = true := decide_eq_true c11
            clear c11
            replace H := Option.bind_eq_some_iff.mp H
            obtain ⟨t458,A120,H⟩ := H
            replace H : (if t458 = true then (impl_MemoryOk.l1 k2 l0_0 (l0_0.length : Int) x10_1 (rd_L14 l0_0 x10_1) ((rd_L14 l0_0 x10_1).length : Int) (wrap64 (x20_2 + 1)) l0_0) else (some false)) = some r := H
            have A12 := aM_ A120
            clear A120
            by_cases c13 : t458 = true
            ·subst c13
             have H1 : (impl_MemoryOk.l1 k2 l0_0 (l0_0.length : Int) x10_1 (rd_L14 l0_0 x10_1) ((rd_L14 l0_0 x10_1).length : Int) (wrap64 (x20_2 + 1)) l0_0) = some r := by rw [if_pos rfl] at H;exact H
             clear H
             have H := H1
             clear H1
             have H' := aM_ H
             clear H
             have p456 : 0 ≤ (x20_2 : Int) := of_decide_eq_true (by first | (with_reducible assumption) | assumption)
             have q456 : x20_2 < ((rd_L14 l0_0 x10_1).length : Int) := of_decide_eq_true (by first | (with_reducible assumption) | assumption)
             obtain ⟨ad456,A456_1,c456_1,e456,hx456_0,hx456_1,hl456_1,hi456_1⟩ := at_T170 HR454_0.out x20_2 p456 q456
             cases e456
             replace hx456_0 := cB_ HB.out hx456_0
             replace hx456_1 := cB_ HB.out hx456_1
             have HR456_1 := aM_ hi456_1
             have HC456_1 := aM_ hl456_1
             clear hi456_1 hl456_1
             replace p456 := eq_true p456
             replace q456 := eq_true q456
             go_wp2_with (first | ((with_reducible refine gate_dst (N := 6) rfl ?_);refine bX_ 6 (cs := #[.int .i64 0,.slice none 0 0]) (t := 170) ?_;intro gb457 hg w14 hbox hb;have n0 := aM_ (nB_ BK453.out hb);have n1 := aM_ (sT_ HB.out hb);have n2 := aM_ (hbox);have n3 := aM_ (sZ_ hg HB.out);have n4 := aM_ (sZ_ hg HB.out);have n5 := aM_ (nL_ hg BK453.out);have n6 := aM_ (nG_ hg BK453.out);clear BK453;clear HB;have BK453 := n0;have HB := n1;have BK457 := n2;have GW457 := n3;have GE457 := n4;have NB453_457 := n5;have NB457_453 := n6;clear n0 n1 n2 n3 n4 n5 n6;clear hb hbox hg;have hnb15 := NB457_453.out;have hnc15 := NB453_457.out;obtain ⟨hcz16_0,hcz16_1,hfz16_0,hfz16_1⟩ := bR2_ BK457.out;have hcz17_0 : w14.cell? ⟨gb453,0,none⟩ = some (.slice (some ad454) l0_0.length c0_0) := (blk_cell BK453.out 0).trans rfl;have hfz17_0 := blk_frozen BK453.out 0) | ((with_reducible refine gate_callee (f := 137) rfl ?_);refine gL_ (some 27) Try.func137 #[.agg #[.slice (some ad454) l0_0.length c0_0],.slice A456_1 ((rd_T170 (rd_L14 l0_0 x10_1) x20_2).f1).length c456_1] ?_;(with_reducible refine (impl_ViewOk.calls k2 _ _ l0_0 _ _ ((rd_T170 (rd_L14 l0_0 x10_1) x20_2).f1) true _ ?side1 ?side2 ?side3 ?side4 A12.out).mono ?_);(case side1 => exact Kd.C_below HR0_0.out (gB_ HB.out));(case side2 => exact HC0_0.out);(case side3 => exact Kd.C_below HR456_1.out (gB_ HB.out));(case side4 => exact HC456_1.out);rintro e w18 ⟨rfl,hb⟩;refine ⟨_,rfl,?_⟩;have n0 := aM_ (nBf_ BK453.out hb);have n1 := aM_ (blk_below (g := gb457) (o := .cells #[.int .i64 ((rd_T170 (rd_L14 l0_0 x10_1) x20_2).f0),.slice A456_1 ((rd_T170 (rd_L14 l0_0 x10_1) x20_2).f1).length c456_1] 170 (0,0)) (by (with_reducible repeat (first | refine bN_ ?_ _ | refine bD_ ?_ | refine bA_ ?_ _));refine blk_put (cs := #[.int .i64 ((rd_T170 (rd_L14 l0_0 x10_1) x20_2).f0),.slice none 0 0]) ?_ 1 _ rfl;refine blk_put (cs := #[.int .i64 0,.slice none 0 0]) ?_ 0 _ rfl;exact rW_ BK457.out) hb);have n2 := aM_ (sT_ HB.out hb);clear BK453;clear BK457;clear HB;have BK453 := n0;have BK457 := n1;have HB := n2;clear n0 n1 n2))
             go_roundg k2
             case measure => have := HK1.out;have := HK2.out;omega
             case rel => exact ⟨(wrap64 (x20_2 + 1)),(by first | rfl | (simp;done) | (simp [*];done)),H',⟨by have := HK1.out;have := HK2.out;omega⟩,⟨rW_ BK453.out⟩,⟨gW_ HB.out⟩⟩
            ·replace c13 := Bool.eq_false_iff.mpr c13
             subst c13
             have H1 : (some false) = some r := by rw [if_neg (show ¬ (false = true) by decide)] at H;exact H
             clear H
             have H := H1
             clear H1
             obtain rfl := Option.some.inj H
             have p456 : 0 ≤ (x20_2 : Int) := of_decide_eq_true (by first | (with_reducible assumption) | assumption)
             have q456 : x20_2 < ((rd_L14 l0_0 x10_1).length : Int) := of_decide_eq_true (by first | (with_reducible assumption) | assumption)
             obtain ⟨ad456,A456_1,c456_1,e456,hx456_0,hx456_1,hl456_1,hi456_1⟩ := at_T170 HR454_0.out x20_2 p456 q456
             cases e456
             replace hx456_0 := cB_ HB.out hx456_0
             replace hx456_1 := cB_ HB.out hx456_1
             have HR456_1 := aM_ hi456_1
             have HC456_1 := aM_ hl456_1
             clear hi456_1 hl456_1
             replace p456 := eq_true p456
             replace q456 := eq_true q456
             go_wp2_with (first | ((with_reducible refine gate_dst (N := 6) rfl ?_);refine bX_ 6 (cs := #[.int .i64 0,.slice none 0 0]) (t := 170) ?_;intro gb457 hg w19 hbox hb;have n0 := aM_ (nB_ BK453.out hb);have n1 := aM_ (sT_ HB.out hb);have n2 := aM_ (hbox);have n3 := aM_ (sZ_ hg HB.out);have n4 := aM_ (sZ_ hg HB.out);have n5 := aM_ (nL_ hg BK453.out);have n6 := aM_ (nG_ hg BK453.out);clear BK453;clear HB;have BK453 := n0;have HB := n1;have BK457 := n2;have GW457 := n3;have GE457 := n4;have NB453_457 := n5;have NB457_453 := n6;clear n0 n1 n2 n3 n4 n5 n6;clear hb hbox hg;have hnb20 := NB457_453.out;have hnc20 := NB453_457.out;obtain ⟨hcz21_0,hcz21_1,hfz21_0,hfz21_1⟩ := bR2_ BK457.out;have hcz22_0 : w19.cell? ⟨gb453,0,none⟩ = some (.slice (some ad454) l0_0.length c0_0) := (blk_cell BK453.out 0).trans rfl;have hfz22_0 := blk_frozen BK453.out 0) | ((with_reducible refine gate_callee (f := 137) rfl ?_);refine gL_ (some 27) Try.func137 #[.agg #[.slice (some ad454) l0_0.length c0_0],.slice A456_1 ((rd_T170 (rd_L14 l0_0 x10_1) x20_2).f1).length c456_1] ?_;(with_reducible refine (impl_ViewOk.calls k2 _ _ l0_0 _ _ ((rd_T170 (rd_L14 l0_0 x10_1) x20_2).f1) false _ ?side1 ?side2 ?side3 ?side4 A12.out).mono ?_);(case side1 => exact Kd.C_below HR0_0.out (gB_ HB.out));(case side2 => exact HC0_0.out);(case side3 => exact Kd.C_below HR456_1.out (gB_ HB.out));(case side4 => exact HC456_1.out);rintro e w23 ⟨rfl,hb⟩;refine ⟨_,rfl,?_⟩;have n0 := aM_ (nBf_ BK453.out hb);have n1 := aM_ (blk_below (g := gb457) (o := .cells #[.int .i64 ((rd_T170 (rd_L14 l0_0 x10_1) x20_2).f0),.slice A456_1 ((rd_T170 (rd_L14 l0_0 x10_1) x20_2).f1).length c456_1] 170 (0,0)) (by (with_reducible repeat (first | refine bN_ ?_ _ | refine bD_ ?_ | refine bA_ ?_ _));refine blk_put (cs := #[.int .i64 ((rd_T170 (rd_L14 l0_0 x10_1) x20_2).f0),.slice none 0 0]) ?_ 1 _ rfl;refine blk_put (cs := #[.int .i64 0,.slice none 0 0]) ?_ 0 _ rfl;exact rW_ BK457.out) hb);have n2 := aM_ (sT_ HB.out hb);clear BK453;clear BK457;clear HB;have BK453 := n0;have BK457 := n1;have HB := n2;clear n0 n1 n2))
             go_ret
             exact fI_ HB.out
           ·rw [if_neg c11] at H
            exact absurd H (by simp)
          ·rw [if_neg c10] at H
           exact absurd H (by simp)
         ·rw [if_neg c9] at H
          have c9b0 : decide (x20_2 < ((rd_L14 l0_0 x10_1).length : Int)) = false := decide_eq_false c9
          clear c9
          have H' := aM_ H
          clear H
          go_wp2
          go_roundg k2
          case measure => have := HK1.out;have := HK2.out;omega
          case rel => exact ⟨(wrap64 (x10_1 + 1)),(by first | rfl | (simp;done) | (simp [*];done)),H',⟨by have := HK1.out;have := HK2.out;omega⟩,⟨rW_ BK453.out⟩,⟨gW_ HB.out⟩⟩
      ·replace c8 := Bool.eq_false_iff.mpr c8
       subst c8
       have H1 : (some false) = some r := by rw [if_neg (show ¬ (false = true) by decide)] at H;exact H
       clear H
       have H := H1
       clear H1
       obtain rfl := Option.some.inj H
       have p454 : 0 ≤ (x10_1 : Int) := of_decide_eq_true (by first | (with_reducible assumption) | assumption)
       have q454 : x10_1 < (l0_0.length : Int) := of_decide_eq_true (by first | (with_reducible assumption) | assumption)
       obtain ⟨ad454,A454_0,c454_0,e454,hx454_0,hl454_0,hi454_0⟩ := at_L14 HR0_0.out x10_1 p454 q454
       cases e454
       replace hx454_0 := cB_ HB.out hx454_0
       have HR454_0 := aM_ hi454_0
       have HC454_0 := aM_ hl454_0
       clear hi454_0 hl454_0
       replace p454 := eq_true p454
       replace q454 := eq_true q454
       go_wp2_with (first | ((with_reducible refine gate_callee (f := 106) rfl ?_);refine gL_ (some 16) Try.func106 #[.int .i64 ((rd_L14 l0_0 x10_1).length : Int),.int .i64 1,.int .i64 4000] ?_;(with_reducible refine (impl_within.calls ((rd_L14 l0_0 x10_1).length : Int) 1 4000 false _ A7.out).mono ?_);rintro e w' ⟨rfl,⟨nd,rfl⟩⟩;refine ⟨_,rfl,?_⟩))
       go_ret
       exact fI_ HB.out
     ·rw [if_neg c6] at H
      exact absurd H (by simp)
    ·rw [if_neg c5] at H
     exact absurd H (by simp)
   ·rw [if_neg c4] at H
    have c4b0 : decide (x10_1 < (l0_0.length : Int)) = false := decide_eq_false c4
    clear c4
    obtain rfl := Option.some.inj H
    have hcz24_0 : wr.cell? ⟨gb453,0,none⟩ = some (.slice A0_0 l0_0.length c0_0) := (blk_cell BK453.out 0).trans rfl
    have hfz24_0 := blk_frozen BK453.out 0
    go_wp2
    go_ret
    exact fI_ HB.out
def IsS57 (w0 W : World) (g : Nat) (f0 : List (List (S170))) : Prop := ∃ A0 c0,W.heap[g]? = some (.cells #[.slice A0 f0.length c0] 57 (0,0)) ∧ w0.heap.size ≤ g ∧ Kd.C (Kd.slice 170 k170) w0 A0 f0.length f0
theorem IsS57.grown {w0 W : World} {g : Nat} {f0 : List (List (S170))} {W1 : World} {row : Option Nat} (h : IsS57 w0 W g f0) (hw : W.grownBy W1 row) (hne : some g ≠ row) : IsS57 w0 W1 g f0 := by
 obtain ⟨A0,c0,hb,hg,hr0⟩ := h
 exact ⟨A0,c0,blk_grown hb hw hne,hg,hr0⟩
theorem IsS57.kept {w0 W : World} {g : Nat} {f0 : List (List (S170))} {W1 : World} {S : Nat → Prop} (h : IsS57 w0 W g f0) (hk : Kept W W1 S) (hne : ¬ S g) : IsS57 w0 W1 g f0 := by
 obtain ⟨A0,c0,hb,hg,hr0⟩ := h
 exact ⟨A0,c0,blk_kept hb hk hne,hg,hr0⟩
theorem IsS57.below {w0 W : World} {g : Nat} {f0 : List (List (S170))} {W1 : World} (h : IsS57 w0 W g f0) (hw : Below W.heap.size W W1) : IsS57 w0 W1 g f0 := h.grown (grown_of_below hw none) (by simp)
theorem IsS57.alloc {w0 W : World} {g : Nat} {f0 : List (List (S170))} (h : IsS57 w0 W g f0) (o : Obj) : IsS57 w0 (W.alloc o) g f0 := h.below (below_alloc (Below.refl _ _) o)
theorem IsS57.drewN {w0 W : World} {g : Nat} {f0 : List (List (S170))} (h : IsS57 w0 W g f0) (m : Nat) : IsS57 w0 (W.drewN m) g f0 := h
theorem IsS57.drew {w0 W : World} {g : Nat} {f0 : List (List (S170))} (h : IsS57 w0 W g f0) : IsS57 w0 W.drew g f0 := h
theorem IsS57.at_ {w0 W : World} {g : Nat} {f0 : List (List (S170))} {w' : World} {m : Nat} (hq : W.drewN m = w') (h : IsS57 w0 W g f0) : IsS57 w0 w' g f0 := by subst hq;exact IsS57.drewN h m
theorem IsS57.apart {w0 W : World} {g : Nat} {f0 : List (List (S170))} {α : Type} {d : Kd α} {e : Nat} {base : Nat} {ok : Nat → Prop} {v : Value} {xs : List α} (h : IsS57 w0 W g f0) (ho : d.R e W base ok v xs) (ht : ∀ q,q ∈ e :: d.E → q ≠ 57) : d.R e W base (fun k => ok k ∧ k ≠ g) v xs := by
 obtain ⟨A0,c0,hb,hg,hr0⟩ := h
 exact Kd.R_types ho hb ht
theorem IsS57.own_ne {w0 W : World} {g : Nat} {f0 : List (List (S170))} {α : Type} {d : Kd α} {e : Nat} {base : Nat} {ok : Nat → Prop} {v : Value} {xs : List α} (h : IsS57 w0 W g f0) (ho : d.R e W base ok v xs) (ht : e ≠ 57) : some g ≠ v.ownBlock := by
 obtain ⟨A0,c0,hb,hg,hr0⟩ := h
 exact Kd.R_ne ho hb ht
theorem IsS57.lt {w0 W : World} {g : Nat} {f0 : List (List (S170))} (h : IsS57 w0 W g f0) : g < W.heap.size := by
 obtain ⟨A0,c0,hb,hg,hr0⟩ := h
 exact blk_lt hb
theorem IsS57.ge {w0 W : World} {g : Nat} {f0 : List (List (S170))} (h : IsS57 w0 W g f0) : w0.heap.size ≤ g := by
 obtain ⟨A0,c0,hb,hg,hr0⟩ := h
 exact hg
theorem IsS57.far {w0 W : World} {g : Nat} {f0 : List (List (S170))} {p : Addr} (h : IsS57 w0 W g f0) (hne : g ≠ p.block) (u : Value) : IsS57 w0 (W.setCell p u) g f0 := by
 obtain ⟨A0,c0,hb,hg,hr0⟩ := h
 exact ⟨A0,c0,blk_far hb hne u,hg,hr0⟩
theorem cellS57_0 {W : World} {g : Nat} {A0 : Option Addr} {c0 : Nat} {f0 : List (List (S170))} (h : W.heap[g]? = some (.cells #[.slice A0 f0.length c0] 57 (0,0))) : W.cell? ⟨g,0,none⟩ = some (.slice A0 f0.length c0) := (blk_cell h 0).trans rfl
theorem IsS57.new (w0 W : World) (A0 : Option Addr) (c0 : Nat) (f0 : List (List (S170))) (hB : Below w0.heap.size w0 W) (hr0 : Kd.C (Kd.slice 170 k170) w0 A0 f0.length f0) : IsS57 w0 (W.alloc (.cells #[.slice A0 f0.length c0] 57)) W.heap.size f0 := ⟨A0,c0,by simpa using heap_alloc_new W _,hB.size,hr0⟩
theorem gI57_ {w0 W W1 : World} {g : Nat} {f0 : List (List (S170))} {f0' : List (List (S170))} (h : IsS57 w0 W g f0) (hr : IsS57 w0 W g f0 → IsS57 w0 W1 g f0' := by (intro h_;repeat (first | (with_reducible first | exact h_ | apply IsS57.alloc | apply IsS57.drewN | apply IsS57.drew | refine IsS57.far ?_ (Aside0.out (by assumption)) _) | exact h_))) : IsS57 w0 W1 g f0' := hr h
def impl_Memory_last.f (s0_0 : List (List (S170))) (a1 : Int) : Option (Int) := if 0 ≤ a1 then (if a1 < (s0_0.length : Int) then (if 0 ≤ (wrap64 (((rd_L14 s0_0 a1).length : Int) - 1)) then (if (wrap64 (((rd_L14 s0_0 a1).length : Int) - 1)) < ((rd_L14 s0_0 a1).length : Int) then (some ((rd_T170 (rd_L14 s0_0 a1) (wrap64 (((rd_L14 s0_0 a1).length : Int) - 1))).f0)) else (none)) else (none)) else (none)) else (none)
set_option maxHeartbeats 8000000 in
set_option maxRecDepth 100000 in
theorem impl_Memory_last.calls (g : Nat) (s0_0 : List (List (S170))) (a1 : Int) (r : Int) (w0 w : World) (hI : IsS57 w0 w g s0_0) (hB : Below w0.heap.size w0 w) (h : impl_Memory_last.f s0_0 a1 = some r) :
  Calls Try.prog 118 #[.pointer (some ⟨g,0,none⟩),.int .i64 a1] w fun e w' => e = .returned (.int .i64 r) ∧ IsS57 w0 w' g s0_0 ∧ Below w0.heap.size w0 w' ∧ KeepBut w w' g none := by
 have HI0 := aM_ hI
 have HK := aM_ (KeepBut.refl w g none)
 have HL := aM_ hB.size
 clear hI
 have HW0 := aM_ hB.size
 have HB := aM_ hB
 clear hB
 have H : (if 0 ≤ a1 then (if a1 < (s0_0.length : Int) then (if 0 ≤ (wrap64 (((rd_L14 s0_0 a1).length : Int) - 1)) then (if (wrap64 (((rd_L14 s0_0 a1).length : Int) - 1)) < ((rd_L14 s0_0 a1).length : Int) then (some ((rd_T170 (rd_L14 s0_0 a1) (wrap64 (((rd_L14 s0_0 a1).length : Int) - 1))).f0)) else (none)) else (none)) else (none)) else (none)) = some r := h
 clear h
 by_cases c3 : 0 ≤ a1
 ·rw [if_pos c3] at H
  have c3b0 : decide (0 ≤ a1) = true := decide_eq_true c3
  clear c3
  by_cases c4 : a1 < (s0_0.length : Int)
  ·rw [if_pos c4] at H
   have c4b0 : decide (a1 < (s0_0.length : Int)) = true := decide_eq_true c4
   clear c4
   obtain ⟨ji5,hji5⟩ : ∃ j_ : Int,(wrap64 (((rd_L14 s0_0 a1).length : Int) - 1)) = j_ := ⟨_,rfl⟩
   replace H : (if 0 ≤ (ji5) then (if (ji5) < ((rd_L14 s0_0 a1).length : Int) then (some ((rd_T170 (rd_L14 s0_0 a1) (ji5)).f0)) else (none)) else (none)) = some r := by first | (rw [hji5] at H;exact H) | (simp only [hji5] at H ⊢;exact H)
   have hji5w : (IntKind.i64.wrap (((rd_L14 s0_0 a1).length : Int) - 1)) = ji5 := (i64_w _).trans hji5
   by_cases c6 : 0 ≤ (ji5)
   ·rw [if_pos c6] at H
    have c6b0 : decide (0 ≤ (ji5)) = true := decide_eq_true c6
    clear c6
    by_cases c7 : (ji5) < ((rd_L14 s0_0 a1).length : Int)
    ·rw [if_pos c7] at H
     have c7b0 : decide ((ji5) < ((rd_L14 s0_0 a1).length : Int)) = true := decide_eq_true c7
     clear c7
     obtain rfl := Option.some.inj H
     obtain ⟨ASz8_0,cSz8_0,HGz8,hgz8,HSz8_0⟩ := HI0.out
     have hcz8_0 := cellS57_0 HGz8
     clear HGz8 hgz8
     have p459 : 0 ≤ (a1 : Int) := of_decide_eq_true (by first | (with_reducible assumption) | assumption)
     have q459 : a1 < (s0_0.length : Int) := of_decide_eq_true (by first | (with_reducible assumption) | assumption)
     obtain ⟨ad459,A459_0,c459_0,e459,hx459_0,hl459_0,hi459_0⟩ := at_L14 HSz8_0 a1 p459 q459
     cases e459
     replace hx459_0 := pw_cell_below HB.out hx459_0
     have HR459_0 := aM_ hi459_0
     have HC459_0 := aM_ hl459_0
     clear hi459_0 hl459_0
     replace p459 := eq_true p459
     replace q459 := eq_true q459
     have p460 : 0 ≤ ((ji5) : Int) := of_decide_eq_true (by first | (with_reducible assumption) | assumption)
     have q460 : (ji5) < ((rd_L14 s0_0 a1).length : Int) := of_decide_eq_true (by first | (with_reducible assumption) | assumption)
     obtain ⟨ad460,A460_1,c460_1,e460,hx460_0,hx460_1,hl460_1,hi460_1⟩ := at_T170 HR459_0.out (ji5) p460 q460
     cases e460
     replace hx460_0 := pw_cell_below HB.out hx460_0
     replace hx460_1 := pw_cell_below HB.out hx460_1
     have HR460_1 := aM_ hi460_1
     have HC460_1 := aM_ hl460_1
     clear hi460_1 hl460_1
     replace p460 := eq_true p460
     replace q460 := eq_true q460
     go_enter Try.func118,Try.ntmps118
     go_wp2
     go_ret
     exact ⟨by first | rfl | (simp [errW_none,errW_some] <;> rfl) | (simp only [← hji5];first | rfl | (simp [errW_none,errW_some] <;> rfl)) | (simp [*,errW_none,errW_some] <;> rfl),gI57_ HI0.out,gB57_ HB.out,gK_ HK.out⟩
    ·rw [if_neg c7] at H
     exact absurd H (by simp)
   ·rw [if_neg c6] at H
    exact absurd H (by simp)
  ·rw [if_neg c4] at H
   exact absurd H (by simp)
 ·rw [if_neg c3] at H
  exact absurd H (by simp)
end Go.Proofs.Ytobachfngmpeiaa.PFnExactChanSame
