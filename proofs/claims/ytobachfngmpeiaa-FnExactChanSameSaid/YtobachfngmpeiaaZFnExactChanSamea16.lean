/- A part of the proof that the law FnExactChanSame holds for every input: the words, functions and walks that its row needs, without a condition of their own. -/
import Derived.Test.YtobachfngmpeiaaZFnExactChanSamea2
import Derived.Test.YtobachfngmpeiaaZFnExactChanSamea13
import Derived.Test.YtobachfngmpeiaaZFnExactChanSamea14
import Derived.Test.YtobachfngmpeiaaZFnExactChanSamea15
import Derived.Test.YtobachfngmpeiaaZFnExactChanSames
namespace Go.Proofs.Ytobachfngmpeiaa.PFnExactChanSame
open Go.RowKit Go.Proofs.YtobachfngmpeiaaW.PrintWords Go.Proofs.YtobachfngmpeiaaW.PrintLast Go.Proofs.YtobachfngmpeiaaW.PrintMore
attribute [local go_sem] max2_int min2_int max_two min_two max_three min_three max_four min_four   -- for this text's walks alone
set_option linter.unusedVariables false
set_option linter.unusedSimpArgs false
def spec_Locked.f (k : Nat) (l0_0 : List (List (S170))) (l1 : List Int) (a2 : Int) : Option (Bool) := (spec_Base.f k l1 a2).bind fun t337 => (if t337 ≥ 0 then ((spec_MemoryOk.f k l0_0).bind fun t338 => (if t338 = true then ((spec_l9Last.f l0_0 t337).bind fun t339 => (some (t339 != 0))) else (some false))) else (some false))
set_option maxHeartbeats 8000000 in
set_option maxRecDepth 100000 in
theorem spec_Locked.calls (k : Nat) (A0_0 : Option Addr) (c0_0 : Nat) (l0_0 : List (List (S170))) (A1 : Option Addr) (c1 : Nat) (l1 : List Int) (a2 : Int) (r : Bool) (w : World) (hr0_0 : Kd.C (Kd.slice 170 k170) w A0_0 l0_0.length l0_0) (hc0_0 : l0_0.length ≤ c0_0) (hr1 : Kd.C (Kd.int .i64) w A1 l1.length l1) (hc1 : l1.length ≤ c1) (h : spec_Locked.f k l0_0 l1 a2 = some r) :
  Calls Try.prog 53 #[.agg #[.slice A0_0 l0_0.length c0_0],.slice A1 l1.length c1,.int .i64 a2] w fun e w' => e = .returned (.bool r) ∧ Below w.heap.size w w' := by
 have hu57 := Try.underlying57
 have HR0_0 := aM_ hr0_0
 have HC0_0 := aM_ hc0_0
 clear hr0_0 hc0_0
 have HR1 := aM_ hr1
 have HC1 := aM_ hc1
 clear hr1 hc1
 have HB := aM_ (Below.refl w.heap.size w)
 have H : ((spec_Base.f k l1 a2).bind fun t337 => (if t337 ≥ 0 then ((spec_MemoryOk.f k l0_0).bind fun t338 => (if t338 = true then ((spec_l9Last.f l0_0 t337).bind fun t339 => (some (t339 != 0))) else (some false))) else (some false))) = some r := h
 clear h
 replace H := Option.bind_eq_some_iff.mp H
 obtain ⟨t337,A40,H⟩ := H
 replace H : (if t337 ≥ 0 then ((spec_MemoryOk.f k l0_0).bind fun t338 => (if t338 = true then ((spec_l9Last.f l0_0 t337).bind fun t339 => (some (t339 != 0))) else (some false))) else (some false)) = some r := H
 have A4 := aM_ A40
 clear A40
 by_cases c5 : t337 ≥ 0
 ·rw [if_pos c5] at H
  have c5b0 : decide (0 ≤ t337) = true := decide_eq_true c5
  clear c5
  replace H := Option.bind_eq_some_iff.mp H
  obtain ⟨t338,A60,H⟩ := H
  replace H : (if t338 = true then ((spec_l9Last.f l0_0 t337).bind fun t339 => (some (t339 != 0))) else (some false)) = some r := H
  have A6 := aM_ A60
  clear A60
  by_cases c7 : t338 = true
  ·subst c7
   have H1 : ((spec_l9Last.f l0_0 t337).bind fun t339 => (some (t339 != 0))) = some r := by rw [if_pos rfl] at H;exact H
   clear H
   have H := H1
   clear H1
   replace H := Option.bind_eq_some_iff.mp H
   obtain ⟨t339,A80,H⟩ := H
   replace H : (some (t339 != 0)) = some r := H
   have A8 := aM_ A80
   clear A80
   obtain rfl := Option.some.inj H
   go_enter Try.func53,Try.ntmps53
   go_wp2_with (first | ((with_reducible refine gate_dst (N := 3) rfl ?_);refine bX_ 3 (cs := #[.slice A0_0 l0_0.length c0_0]) (t := 57) ?_;intro gb336 hg w9 hbox hb;have n0 := aM_ (sT_ HB.out hb);have n1 := aM_ (hbox);have n2 := aM_ (sZ_ hg HB.out);have n3 := aM_ (sZ_ hg HB.out);clear HB;have HB := n0;have BK336 := n1;have GW336 := n2;have GE336 := n3;clear n0 n1 n2 n3;clear hb hbox hg) | ((with_reducible refine gate_callee (f := 48) rfl ?_);refine gL_ (some 10) Try.func48 #[.slice A1 l1.length c1,.int .i64 a2] ?_;(with_reducible refine (spec_Base.calls k _ _ l1 a2 t337 _ ?side1 ?side2 A4.out).mono ?_);(case side1 => exact cS_ (Kd.C_below HR1.out HB.out));(case side2 => exact HC1.out);rintro e w' ⟨rfl,⟨nd,rfl⟩⟩;refine ⟨_,rfl,?_⟩;have hcz10_0 : w9.cell? ⟨gb336,0,none⟩ = some (.slice A0_0 l0_0.length c0_0) := (blk_cell BK336.out 0).trans rfl;have hfz10_0 := blk_frozen BK336.out 0) | (go_at_call 116;(with_reducible refine (spec_MemoryOk.calls k _ _ l0_0 true _ ?side1 ?side2 A6.out).mono ?_);(case side1 => exact cS_ (Kd.C_below HR0_0.out (gB_ HB.out)));(case side2 => exact HC0_0.out);rintro e w11 ⟨rfl,hb⟩;have n0 := aM_ (nB_ BK336.out hb);have n1 := aM_ (sT_ HB.out hb);clear BK336;clear HB;have BK336 := n0;have HB := n1;clear n0 n1;have hcz12_0 : w11.cell? ⟨gb336,0,none⟩ = some (.slice A0_0 l0_0.length c0_0) := (blk_cell BK336.out 0).trans rfl;have hfz12_0 := blk_frozen BK336.out 0) | (go_at_call 117;(with_reducible refine (spec_l9Last.calls _ _ l0_0 t337 t339 _ ?side1 ?side2 A8.out).mono ?_);(case side1 => exact cS_ (Kd.C_below HR0_0.out HB.out));(case side2 => exact HC0_0.out);rintro e w13 ⟨rfl,hb⟩;have n0 := aM_ (nB_ BK336.out hb);have n1 := aM_ (sT_ HB.out hb);clear BK336;clear HB;have BK336 := n0;have HB := n1;clear n0 n1))
   go_ret
   exact fI_ HB.out
  ·replace c7 := Bool.eq_false_iff.mpr c7
   subst c7
   have H1 : (some false) = some r := by rw [if_neg (show ¬ (false = true) by decide)] at H;exact H
   clear H
   have H := H1
   clear H1
   obtain rfl := Option.some.inj H
   go_enter Try.func53,Try.ntmps53
   go_wp2_with (first | ((with_reducible refine gate_dst (N := 3) rfl ?_);refine bX_ 3 (cs := #[.slice A0_0 l0_0.length c0_0]) (t := 57) ?_;intro gb336 hg w14 hbox hb;have n0 := aM_ (sT_ HB.out hb);have n1 := aM_ (hbox);have n2 := aM_ (sZ_ hg HB.out);have n3 := aM_ (sZ_ hg HB.out);clear HB;have HB := n0;have BK336 := n1;have GW336 := n2;have GE336 := n3;clear n0 n1 n2 n3;clear hb hbox hg) | ((with_reducible refine gate_callee (f := 48) rfl ?_);refine gL_ (some 10) Try.func48 #[.slice A1 l1.length c1,.int .i64 a2] ?_;(with_reducible refine (spec_Base.calls k _ _ l1 a2 t337 _ ?side1 ?side2 A4.out).mono ?_);(case side1 => exact cS_ (Kd.C_below HR1.out HB.out));(case side2 => exact HC1.out);rintro e w' ⟨rfl,⟨nd,rfl⟩⟩;refine ⟨_,rfl,?_⟩;have hcz15_0 : w14.cell? ⟨gb336,0,none⟩ = some (.slice A0_0 l0_0.length c0_0) := (blk_cell BK336.out 0).trans rfl;have hfz15_0 := blk_frozen BK336.out 0) | (go_at_call 116;(with_reducible refine (spec_MemoryOk.calls k _ _ l0_0 false _ ?side1 ?side2 A6.out).mono ?_);(case side1 => exact cS_ (Kd.C_below HR0_0.out (gB_ HB.out)));(case side2 => exact HC0_0.out);rintro e w16 ⟨rfl,hb⟩;have n0 := aM_ (nB_ BK336.out hb);have n1 := aM_ (sT_ HB.out hb);clear BK336;clear HB;have BK336 := n0;have HB := n1;clear n0 n1))
   go_ret
   exact fI_ HB.out
 ·rw [if_neg c5] at H
  have c5b0 : decide (0 ≤ t337) = false := decide_eq_false c5
  clear c5
  obtain rfl := Option.some.inj H
  go_enter Try.func53,Try.ntmps53
  go_wp2_with (first | ((with_reducible refine gate_dst (N := 3) rfl ?_);refine bX_ 3 (cs := #[.slice A0_0 l0_0.length c0_0]) (t := 57) ?_;intro gb336 hg w17 hbox hb;have n0 := aM_ (sT_ HB.out hb);have n1 := aM_ (hbox);have n2 := aM_ (sZ_ hg HB.out);have n3 := aM_ (sZ_ hg HB.out);clear HB;have HB := n0;have BK336 := n1;have GW336 := n2;have GE336 := n3;clear n0 n1 n2 n3;clear hb hbox hg) | ((with_reducible refine gate_callee (f := 48) rfl ?_);refine gL_ (some 10) Try.func48 #[.slice A1 l1.length c1,.int .i64 a2] ?_;(with_reducible refine (spec_Base.calls k _ _ l1 a2 t337 _ ?side1 ?side2 A4.out).mono ?_);(case side1 => exact cS_ (Kd.C_below HR1.out HB.out));(case side2 => exact HC1.out);rintro e w' ⟨rfl,⟨nd,rfl⟩⟩;refine ⟨_,rfl,?_⟩))
  go_ret
  exact fI_ HB.out
mutual
def spec_l13Ints.l0 : Nat → List Int → List Int → Int → Option (Bool)
  | 0,_,_,_ => none
  | k + 1,x0,x1,x5 => if x5 < (x0.length : Int) then (spec_l13Ints.j1 k x0 x1 x5 (decide (x5 < (x1.length : Int)))) else (spec_l13Ints.j1 k x0 x1 x5 false)
def spec_l13Ints.j1 : Nat → List Int → List Int → Int → Bool → Option (Bool)
  | 0,_,_,_,_ => none
  | k + 1,x0,x1,x5,x15 => if x15 = true then (if 0 ≤ x5 then (if x5 < (x0.length : Int) then (if x5 < (x1.length : Int) then (if (rd x0 x5) = (rd x1 x5) then (spec_l13Ints.l0 k x0 x1 (wrap64 (x5 + 1))) else (some false)) else (none)) else (none)) else (none)) else (some ((x0.length : Int) == (x1.length : Int)))
end
def spec_l13Ints.f (k : Nat) (l0 : List Int) (l1 : List Int) : Option (Bool) := spec_l13Ints.l0 k l0 l1 0
set_option maxHeartbeats 8000000 in
set_option maxRecDepth 100000 in
theorem spec_l13Ints.calls (k : Nat) (A0 : Option Addr) (c0 : Nat) (l0 : List Int) (A1 : Option Addr) (c1 : Nat) (l1 : List Int) (r : Bool) (w : World) (hr0 : Kd.C (Kd.int .i64) w A0 l0.length l0) (hc0 : l0.length ≤ c0) (hr1 : Kd.C (Kd.int .i64) w A1 l1.length l1) (hc1 : l1.length ≤ c1) (h : spec_l13Ints.f k l0 l1 = some r) :
  Calls Try.prog 103 #[.slice A0 l0.length c0,.slice A1 l1.length c1] w fun e w' => e = .returned (.bool r) ∧ Drawn0 w w' := by
 have HR0 := aM_ hr0
 have HC0 := aM_ hc0
 clear hr0 hc0
 have HR1 := aM_ hr1
 have HC1 := aM_ hc1
 clear hr1 hc1
 have H : (spec_l13Ints.l0 k l0 l1 0) = some r := h
 clear h
 have H' := aM_ H
 clear H
 go_enter Try.func103,Try.ntmps103
 go_wp2
 repeat (go_quiet (fail);try go_wp2)
 go_loopg [5] k (fun kq v5 w' => ∃ (x5_1 : Int),v5 = .int .i64 x5_1 ∧ Aside0 (spec_l13Ints.l0 kq l0 l1 x5_1 = some r) ∧ Aside0 (kq ≤ k) ∧ Drawn0 w w')
 case atStart => exact ⟨(0),(by first | rfl | (simp;done) | (simp [*];done)),H',⟨Nat.le_refl _⟩,by repeat (first | exact Drawn0.refl _ | apply Drawn0.step)⟩
 case round =>
  clear H'
  try clear c1
  try clear p2
  obtain ⟨x5_1,rfl,HA,HK1,⟨m1,rfl⟩⟩ := hrel
  cases gk with
  | zero => exact absurd HA.out (by simp [spec_l13Ints.l0])
  | succ k1 =>
   have H := HA.out
   clear HA
   simp only [spec_l13Ints.l0] at H
   have HC3 := aM_ H
   clear H
   go_upto_region 2 with (fail)
   repeat (go_quiet (fail);go_upto_region 2 with (fail))
   go_cut [15] (fun v15 wc => ∃ (kq : Nat) (x15_2 : Bool),v15 = .bool x15_2 ∧ Aside0 (spec_l13Ints.j1 kq l0 l1 x5_1 x15_2 = some r) ∧ Aside0 (kq ≤ k1) ∧ Drawn0 w wc)
   case first =>
    have H := HC3.out
    clear HC3
    by_cases c4 : x5_1 < (l0.length : Int)
    ·rw [if_pos c4] at H
     have c4b0 : decide (x5_1 < (l0.length : Int)) = true := decide_eq_true c4
     clear c4
     (first | rw [c4b0] | (simp only [i64_w,i32_w];rw [c4b0]) | skip)
     have H' := aM_ H
     clear H
     go_wp2
     repeat (go_quiet (fail);try go_wp2)
     go_meet
     case rel => exact ⟨_,(decide (x5_1 < (l1.length : Int))),(by first | rfl | (simp;done) | (simp [*];done)),H',⟨by have := HK1.out;first | omega | exact Nat.le_refl _⟩,by repeat (first | exact Drawn0.refl _ | apply Drawn0.step)⟩
    ·rw [if_neg c4] at H
     have c4b0 : decide (x5_1 < (l0.length : Int)) = false := decide_eq_false c4
     clear c4
     (first | rw [c4b0] | (simp only [i64_w,i32_w];rw [c4b0]) | skip)
     have H' := aM_ H
     clear H
     go_wp2
     repeat (go_quiet (fail);try go_wp2)
     go_meet
     case rel => exact ⟨_,(false),(by first | rfl | (simp;done) | (simp [*];done)),H',⟨by have := HK1.out;first | omega | exact Nat.le_refl _⟩,by repeat (first | exact Drawn0.refl _ | apply Drawn0.step)⟩
   case rest =>
    clear HC3
    try clear c1
    try clear p2
    try clear c4
    try clear c4b0
    try clear p2
    obtain ⟨kq,x15_2,rfl,HA,HJ2,⟨mc2,rfl⟩⟩ := hcut
    cases kq with
    | zero => exact absurd HA.out (by simp [spec_l13Ints.j1])
    | succ kj2 =>
     have H := HA.out
     clear HA
     simp only [spec_l13Ints.j1] at H
     by_cases c5 : x15_2 = true
     ·subst c5
      have H1 : (if 0 ≤ x5_1 then (if x5_1 < (l0.length : Int) then (if x5_1 < (l1.length : Int) then (if (rd l0 x5_1) = (rd l1 x5_1) then (spec_l13Ints.l0 kj2 l0 l1 (wrap64 (x5_1 + 1))) else (some false)) else (none)) else (none)) else (none)) = some r := by rw [if_pos rfl] at H;exact H
      clear H
      have H := H1
      clear H1
      by_cases c6 : 0 ≤ x5_1
      ·rw [if_pos c6] at H
       have c6b0 : decide (0 ≤ x5_1) = true := decide_eq_true c6
       clear c6
       by_cases c7 : x5_1 < (l0.length : Int)
       ·rw [if_pos c7] at H
        have c7b0 : decide (x5_1 < (l0.length : Int)) = true := decide_eq_true c7
        clear c7
        by_cases c8 : x5_1 < (l1.length : Int)
        ·rw [if_pos c8] at H
         have c8b0 : decide (x5_1 < (l1.length : Int)) = true := decide_eq_true c8
         clear c8
         by_cases c9 : (rd l0 x5_1) = (rd l1 x5_1)
         ·rw [if_pos c9] at H
          have c9b0 : ((rd l0 x5_1) == (rd l1 x5_1)) = true := beq_iff_eq.mpr c9
          have c9b1 : ((rd l0 x5_1) != (rd l1 x5_1)) = false := bne_eq_false_iff_eq.mpr c9
          clear c9
          have H' := aM_ H
          clear H
          have p340 : 0 ≤ (x5_1 : Int) := of_decide_eq_true (by first | (with_reducible assumption) | assumption)
          have q340 : x5_1 < (l0.length : Int) := of_decide_eq_true (by first | (with_reducible assumption) | assumption)
          obtain ⟨ad340,e340,hx340_0⟩ := Kd.at_int HR0.out x5_1 p340 q340
          cases e340
          replace p340 := eq_true p340
          replace q340 := eq_true q340
          have p341 : 0 ≤ (x5_1 : Int) := of_decide_eq_true (by first | (with_reducible assumption) | assumption)
          have q341 : x5_1 < (l1.length : Int) := of_decide_eq_true (by first | (with_reducible assumption) | assumption)
          obtain ⟨ad341,e341,hx341_0⟩ := Kd.at_int HR1.out x5_1 p341 q341
          cases e341
          replace p341 := eq_true p341
          replace q341 := eq_true q341
          go_wp2
          repeat (go_quiet (fail);try go_wp2)
          go_roundg kj2
          case measure => have := HK1.out;have := HJ2.out;omega
          case rel => exact ⟨(wrap64 (x5_1 + 1)),(by first | rfl | (simp;done) | (simp [*];done)),H',⟨by have := HK1.out;have := HJ2.out;omega⟩,by repeat (first | exact Drawn0.refl _ | apply Drawn0.step)⟩
         ·rw [if_neg c9] at H
          have c9b0 : ((rd l0 x5_1) == (rd l1 x5_1)) = false := beq_eq_false_iff_ne.mpr c9
          have c9b1 : ((rd l0 x5_1) != (rd l1 x5_1)) = true := bne_iff_ne.mpr c9
          obtain rfl := Option.some.inj H
          have p340 : 0 ≤ (x5_1 : Int) := of_decide_eq_true (by first | (with_reducible assumption) | assumption)
          have q340 : x5_1 < (l0.length : Int) := of_decide_eq_true (by first | (with_reducible assumption) | assumption)
          obtain ⟨ad340,e340,hx340_0⟩ := Kd.at_int HR0.out x5_1 p340 q340
          cases e340
          replace p340 := eq_true p340
          replace q340 := eq_true q340
          have p341 : 0 ≤ (x5_1 : Int) := of_decide_eq_true (by first | (with_reducible assumption) | assumption)
          have q341 : x5_1 < (l1.length : Int) := of_decide_eq_true (by first | (with_reducible assumption) | assumption)
          obtain ⟨ad341,e341,hx341_0⟩ := Kd.at_int HR1.out x5_1 p341 q341
          cases e341
          replace p341 := eq_true p341
          replace q341 := eq_true q341
          go_wp2
          repeat (go_quiet (fail);try go_wp2)
          go_ret
          exact ⟨by first | rfl | (simp;done) | (simp [*];done),by repeat (first | exact Drawn0.refl _ | apply Drawn0.step)⟩
        ·rw [if_neg c8] at H
         exact absurd H (by simp)
       ·rw [if_neg c7] at H
        exact absurd H (by simp)
      ·rw [if_neg c6] at H
       exact absurd H (by simp)
     ·replace c5 := Bool.eq_false_iff.mpr c5
      subst c5
      have H1 : (some ((l0.length : Int) == (l1.length : Int))) = some r := by rw [if_neg (show ¬ (false = true) by decide)] at H;exact H
      clear H
      have H := H1
      clear H1
      obtain rfl := Option.some.inj H
      go_wp2
      repeat (go_quiet (fail);try go_wp2)
      go_ret
      exact ⟨by first | rfl | (simp;done) | (simp [*];done),by repeat (first | exact Drawn0.refl _ | apply Drawn0.step)⟩
def spec_ChanSame.j0 : Nat → Int → Bool → List Int → List (List (S192)) → List (List (S175)) → List (S123) → List (List (S170)) → List (S35) → List (S107) → List (S94) → List (S35) → Option (Bool)
  | 0,_,_,_,_,_,_,_,_,_,_,_ => none
  | k + 1,x3,x23,x343000,x343001,x344000,x344001,x344002,x344003,x345000,x345001,x345002 => if x23 = true then (some false) else ((spec_Locked.f k x344002 x343000 x3).bind fun t346 => (if t346 = true then (some true) else ((spec_ChanIn.f k x344002 x343000 x3).bind fun bt347 => (if 0 ≤ x3 then (if x3 < (x345001.length : Int) then (if bt347.2.2.2 = true then (if bt347.1 = ((rd_T94 x345001 x3).f0) then (if (bt347.2.2.1 == ((rd_T94 x345001 x3).f2)) = true then ((spec_l13Ints.f k bt347.2.1 ((rd_T94 x345001 x3).f1)).bind fun t356 => (some t356)) else (some false)) else (some false)) else (some false)) else (none)) else (none)))))
def spec_ChanSame.f (k : Nat) (l0_0 : List Int) (l0_1 : List (List (S192))) (l1_0 : List (List (S175))) (l1_1 : List (S123)) (l1_2 : List (List (S170))) (l1_3 : List (S35)) (l2_0 : List (S107)) (l2_1 : List (S94)) (l2_2 : List (S35)) (a3 : Int) : Option (Bool) := (spec_Base.f k l0_0 a3).bind fun t345 => (if t345 < 0 then (spec_ChanSame.j0 k a3 true l0_0 l0_1 l1_0 l1_1 l1_2 l1_3 l2_0 l2_1 l2_2) else (spec_ChanSame.j0 k a3 (decide (a3 ≥ (l2_1.length : Int))) l0_0 l0_1 l1_0 l1_1 l1_2 l1_3 l2_0 l2_1 l2_2))
set_option maxHeartbeats 8000000 in
set_option maxRecDepth 100000 in
theorem spec_ChanSame.calls (k : Nat) (A0_0 : Option Addr) (c0_0 : Nat) (l0_0 : List Int) (A0_1 : Option Addr) (c0_1 : Nat) (l0_1 : List (List (S192))) (A1_0 : Option Addr) (c1_0 : Nat) (l1_0 : List (List (S175))) (A1_1 : Option Addr) (c1_1 : Nat) (l1_1 : List (S123)) (A1_2 : Option Addr) (c1_2 : Nat) (l1_2 : List (List (S170))) (A1_3 : Option Addr) (c1_3 : Nat) (l1_3 : List (S35)) (A2_0 : Option Addr) (c2_0 : Nat) (l2_0 : List (S107)) (A2_1 : Option Addr) (c2_1 : Nat) (l2_1 : List (S94)) (A2_2 : Option Addr) (c2_2 : Nat) (l2_2 : List (S35)) (a3 : Int) (r : Bool) (w : World) (hr0_0 : Kd.C (Kd.int .i64) w A0_0 l0_0.length l0_0) (hc0_0 : l0_0.length ≤ c0_0) (hr0_1 : Kd.C (Kd.slice 192 k192) w A0_1 l0_1.length l0_1) (hc0_1 : l0_1.length ≤ c0_1) (hr1_0 : Kd.C (Kd.slice 175 k175) w A1_0 l1_0.length l1_0) (hc1_0 : l1_0.length ≤ c1_0) (hr1_1 : Kd.C k123 w A1_1 l1_1.length l1_1) (hc1_1 : l1_1.length ≤ c1_1) (hr1_2 : Kd.C (Kd.slice 170 k170) w A1_2 l1_2.length l1_2) (hc1_2 : l1_2.length ≤ c1_2) (hr1_3 : Kd.C k35 w A1_3 l1_3.length l1_3) (hc1_3 : l1_3.length ≤ c1_3) (hr2_0 : Kd.C k107 w A2_0 l2_0.length l2_0) (hc2_0 : l2_0.length ≤ c2_0) (hr2_1 : Kd.C k94 w A2_1 l2_1.length l2_1) (hc2_1 : l2_1.length ≤ c2_1) (hr2_2 : Kd.C k35 w A2_2 l2_2.length l2_2) (hc2_2 : l2_2.length ≤ c2_2) (h : spec_ChanSame.f k l0_0 l0_1 l1_0 l1_1 l1_2 l1_3 l2_0 l2_1 l2_2 a3 = some r) :
  Calls Try.prog 43 #[.agg #[.slice A0_0 l0_0.length c0_0,.slice A0_1 l0_1.length c0_1],.agg #[.slice A1_0 l1_0.length c1_0,.slice A1_1 l1_1.length c1_1,.slice A1_2 l1_2.length c1_2,.slice A1_3 l1_3.length c1_3],.agg #[.slice A2_0 l2_0.length c2_0,.slice A2_1 l2_1.length c2_1,.slice A2_2 l2_2.length c2_2],.int .i64 a3] w fun e w' => e = .returned (.bool r) ∧ Below w.heap.size w w' := by
 have hu44 := Try.underlying44
 have hu59 := Try.underlying59
 have hu28 := Try.underlying28
 have hu57 := Try.underlying57
 have hu94 := Try.underlying94
 have HR0_0 := aM_ hr0_0
 have HC0_0 := aM_ hc0_0
 clear hr0_0 hc0_0
 have HR0_1 := aM_ hr0_1
 have HC0_1 := aM_ hc0_1
 clear hr0_1 hc0_1
 have HR1_0 := aM_ hr1_0
 have HC1_0 := aM_ hc1_0
 clear hr1_0 hc1_0
 have HR1_1 := aM_ hr1_1
 have HC1_1 := aM_ hc1_1
 clear hr1_1 hc1_1
 have HR1_2 := aM_ hr1_2
 have HC1_2 := aM_ hc1_2
 clear hr1_2 hc1_2
 have HR1_3 := aM_ hr1_3
 have HC1_3 := aM_ hc1_3
 clear hr1_3 hc1_3
 have HR2_0 := aM_ hr2_0
 have HC2_0 := aM_ hc2_0
 clear hr2_0 hc2_0
 have HR2_1 := aM_ hr2_1
 have HC2_1 := aM_ hc2_1
 clear hr2_1 hc2_1
 have HR2_2 := aM_ hr2_2
 have HC2_2 := aM_ hc2_2
 clear hr2_2 hc2_2
 have HB := aM_ (Below.refl w.heap.size w)
 have H : ((spec_Base.f k l0_0 a3).bind fun t345 => (if t345 < 0 then (spec_ChanSame.j0 k a3 true l0_0 l0_1 l1_0 l1_1 l1_2 l1_3 l2_0 l2_1 l2_2) else (spec_ChanSame.j0 k a3 (decide (a3 ≥ (l2_1.length : Int))) l0_0 l0_1 l1_0 l1_1 l1_2 l1_3 l2_0 l2_1 l2_2))) = some r := h
 clear h
 have HC5 := aM_ H
 clear H
 go_enter Try.func43,Try.ntmps43
 go_upto_region 1 with (first | ((with_reducible refine gate_dst (N := 4) rfl ?_);(try (refine gate_guard (by rfl) ?_;dsimp only));refine bX_ 4 (cs := #[.slice A0_0 l0_0.length c0_0,.slice A0_1 l0_1.length c0_1]) (t := 44) ?_;intro gb342 hg w6 hbox hb;have n0 := aM_ (sT_ HB.out hb);have n1 := aM_ (hbox);have n2 := aM_ (sZ_ hg HB.out);have n3 := aM_ (sZ_ hg HB.out);clear HB;have HB := n0;have BK342 := n1;have GW342 := n2;have GE342 := n3;clear n0 n1 n2 n3;clear hb hbox hg) | ((with_reducible refine gate_dst (N := 5) rfl ?_);(try (refine gate_guard (by rfl) ?_;dsimp only));refine bX_ 5 (cs := #[.slice A1_0 l1_0.length c1_0,.slice A1_1 l1_1.length c1_1,.slice A1_2 l1_2.length c1_2,.slice A1_3 l1_3.length c1_3]) (t := 59) ?_;intro gb343 hg w7 hbox hb;have n0 := aM_ (nB_ BK342.out hb);have n1 := aM_ (sT_ HB.out hb);have n2 := aM_ (hbox);have n3 := aM_ (sZ_ hg HB.out);have n4 := aM_ (sZ_ hg HB.out);have n5 := aM_ (nL_ hg BK342.out);have n6 := aM_ (nG_ hg BK342.out);clear BK342;clear HB;have BK342 := n0;have HB := n1;have BK343 := n2;have GW343 := n3;have GE343 := n4;have NB342_343 := n5;have NB343_342 := n6;clear n0 n1 n2 n3 n4 n5 n6;clear hb hbox hg) | ((with_reducible refine gate_dst (N := 6) rfl ?_);(try (refine gate_guard (by rfl) ?_;dsimp only));refine bX_ 6 (cs := #[.slice A2_0 l2_0.length c2_0,.slice A2_1 l2_1.length c2_1,.slice A2_2 l2_2.length c2_2]) (t := 28) ?_;intro gb344 hg w8 hbox hb;have n0 := aM_ (nB_ BK342.out hb);have n1 := aM_ (nB_ BK343.out hb);have n2 := aM_ (sT_ HB.out hb);have n3 := aM_ (hbox);have n4 := aM_ (sZ_ hg HB.out);have n5 := aM_ (sZ_ hg HB.out);have n6 := aM_ (nL_ hg BK342.out);have n7 := aM_ (nG_ hg BK342.out);have n8 := aM_ (nL_ hg BK343.out);have n9 := aM_ (nG_ hg BK343.out);clear BK342;clear BK343;clear HB;have BK342 := n0;have BK343 := n1;have HB := n2;have BK344 := n3;have GW344 := n4;have GE344 := n5;have NB342_344 := n6;have NB344_342 := n7;have NB343_344 := n8;have NB344_343 := n9;clear n0 n1 n2 n3 n4 n5 n6 n7 n8 n9;clear hb hbox hg))
 (try simp only [Act.put,List.setIfInBounds_toArray,List.set_cons_zero,List.set_cons_succ])
 go_cut [23] (fun v23 wc => ∃ (kq : Nat) (x23_4 : Bool),v23 = .bool x23_4 ∧ Aside0 (spec_ChanSame.j0 kq a3 x23_4 l0_0 l0_1 l1_0 l1_1 l1_2 l1_3 l2_0 l2_1 l2_2 = some r) ∧ Aside0 (kq ≤ k) ∧ Aside0 (wc.heap[gb342]? = some (.cells #[(.slice A0_0 l0_0.length c0_0),(.slice A0_1 l0_1.length c0_1)] 44 (0,0))) ∧ Aside0 (wc.heap[gb343]? = some (.cells #[(.slice A1_0 l1_0.length c1_0),(.slice A1_1 l1_1.length c1_1),(.slice A1_2 l1_2.length c1_2),(.slice A1_3 l1_3.length c1_3)] 59 (0,0))) ∧ Aside0 (wc.heap[gb344]? = some (.cells #[(.slice A2_0 l2_0.length c2_0),(.slice A2_1 l2_1.length c2_1),(.slice A2_2 l2_2.length c2_2)] 28 (0,0))) ∧ Aside0 (Below w.heap.size w wc))
 case first =>
  have H := HC5.out
  clear HC5
  replace H := Option.bind_eq_some_iff.mp H
  obtain ⟨t345,A90,H⟩ := H
  replace H : (if t345 < 0 then (spec_ChanSame.j0 k a3 true l0_0 l0_1 l1_0 l1_1 l1_2 l1_3 l2_0 l2_1 l2_2) else (spec_ChanSame.j0 k a3 (decide (a3 ≥ (l2_1.length : Int))) l0_0 l0_1 l1_0 l1_1 l1_2 l1_3 l2_0 l2_1 l2_2)) = some r := H
  have A9 := aM_ A90
  clear A90
  by_cases c10 : t345 < 0
  ·rw [if_pos c10] at H
   have c10b0 : decide (t345 < 0) = true := decide_eq_true c10
   clear c10
   (first | rw [c10b0] | (simp only [i64_w,i32_w];rw [c10b0]) | skip)
   have H' := aM_ H
   clear H
   have hnb11 := NB342_343.out
   have hnc11 := NB343_342.out
   have hnb12 := NB342_344.out
   have hnc12 := NB344_342.out
   obtain ⟨hcz13_0,hcz13_1,hfz13_0,hfz13_1⟩ := bR2_ BK342.out
   go_wp2_with (first | ((with_reducible refine gate_callee (f := 48) rfl ?_);refine gL_ (some 15) Try.func48 #[.slice A0_0 l0_0.length c0_0,.int .i64 a3] ?_;(with_reducible refine (spec_Base.calls k _ _ l0_0 a3 t345 _ ?side1 ?side2 A9.out).mono ?_);(case side1 => exact cS_ (Kd.C_below HR0_0.out HB.out));(case side2 => exact HC0_0.out);rintro e w' ⟨rfl,⟨nd,rfl⟩⟩;refine ⟨_,rfl,?_⟩))
   go_meet
   case rel => exact ⟨_,(true),(by first | rfl | (simp;done) | (simp [*];done)),H',⟨by first | omega | exact Nat.le_refl _⟩,⟨rW_ BK342.out⟩,⟨rW_ BK343.out⟩,⟨rW_ BK344.out⟩,⟨gW_ HB.out⟩⟩
  ·rw [if_neg c10] at H
   have c10b0 : decide (t345 < 0) = false := decide_eq_false c10
   clear c10
   (first | rw [c10b0] | (simp only [i64_w,i32_w];rw [c10b0]) | skip)
   have H' := aM_ H
   clear H
   have hnb14 := NB342_343.out
   have hnc14 := NB343_342.out
   have hnb15 := NB342_344.out
   have hnc15 := NB344_342.out
   obtain ⟨hcz16_0,hcz16_1,hfz16_0,hfz16_1⟩ := bR2_ BK342.out
   go_wp2_with (first | ((with_reducible refine gate_callee (f := 48) rfl ?_);refine gL_ (some 15) Try.func48 #[.slice A0_0 l0_0.length c0_0,.int .i64 a3] ?_;(with_reducible refine (spec_Base.calls k _ _ l0_0 a3 t345 _ ?side1 ?side2 A9.out).mono ?_);(case side1 => exact cS_ (Kd.C_below HR0_0.out HB.out));(case side2 => exact HC0_0.out);rintro e w' ⟨rfl,⟨nd,rfl⟩⟩;refine ⟨_,rfl,?_⟩;have hnb17 := NB344_343.out;have hnc17 := NB343_344.out;obtain ⟨hcz18_0,hcz18_1,hcz18_2,hfz18_0,hfz18_1,hfz18_2⟩ := bR3_ BK344.out))
   go_meet
   case rel => exact ⟨_,(decide (a3 ≥ (l2_1.length : Int))),(by first | rfl | (simp;done) | (simp [*];done)),H',⟨by first | omega | exact Nat.le_refl _⟩,⟨rW_ BK342.out⟩,⟨rW_ BK343.out⟩,⟨rW_ BK344.out⟩,⟨gW_ HB.out⟩⟩
 case rest =>
  clear HC5
  try clear c1
  try clear c2
  try clear p2
  try clear c4
  try clear c10
  try clear c10b0
  try clear c11
  try clear c12
  try clear c14
  try clear c15
  try clear c17
  try clear hcz13_0 hcz13_1 hfz13_0 hfz13_1
  try clear hcz16_0 hcz16_1 hfz16_0 hfz16_1
  try clear hcz18_0 hcz18_1 hcz18_2 hfz18_0 hfz18_1 hfz18_2
  obtain ⟨kq,x23_4,rfl,HA,HJ4,BK342,BK343,BK344,HB⟩ := hcut
  cases kq with
  | zero => exact absurd HA.out (by simp [spec_ChanSame.j0])
  | succ kj4 =>
   have H := HA.out
   clear HA
   simp only [spec_ChanSame.j0] at H
   by_cases c19 : x23_4 = true
   ·subst c19
    have H1 : (some false) = some r := by rw [if_pos rfl] at H;exact H
    clear H
    have H := H1
    clear H1
    obtain rfl := Option.some.inj H
    go_wp2
    go_ret
    exact fI_ HB.out
   ·replace c19 := Bool.eq_false_iff.mpr c19
    subst c19
    have H1 : ((spec_Locked.f kj4 l1_2 l0_0 a3).bind fun t346 => (if t346 = true then (some true) else ((spec_ChanIn.f kj4 l1_2 l0_0 a3).bind fun bt347 => (if 0 ≤ a3 then (if a3 < (l2_1.length : Int) then (if bt347.2.2.2 = true then (if bt347.1 = ((rd_T94 l2_1 a3).f0) then (if (bt347.2.2.1 == ((rd_T94 l2_1 a3).f2)) = true then ((spec_l13Ints.f kj4 bt347.2.1 ((rd_T94 l2_1 a3).f1)).bind fun t356 => (some t356)) else (some false)) else (some false)) else (some false)) else (none)) else (none))))) = some r := by rw [if_neg (show ¬ (false = true) by decide)] at H;exact H
    clear H
    have H := H1
    clear H1
    replace H := Option.bind_eq_some_iff.mp H
    obtain ⟨t346,A200,H⟩ := H
    replace H : (if t346 = true then (some true) else ((spec_ChanIn.f kj4 l1_2 l0_0 a3).bind fun bt347 => (if 0 ≤ a3 then (if a3 < (l2_1.length : Int) then (if bt347.2.2.2 = true then (if bt347.1 = ((rd_T94 l2_1 a3).f0) then (if (bt347.2.2.1 == ((rd_T94 l2_1 a3).f2)) = true then ((spec_l13Ints.f kj4 bt347.2.1 ((rd_T94 l2_1 a3).f1)).bind fun t356 => (some t356)) else (some false)) else (some false)) else (some false)) else (none)) else (none)))) = some r := H
    have A20 := aM_ A200
    clear A200
    by_cases c21 : t346 = true
    ·subst c21
     have H1 : (some true) = some r := by rw [if_pos rfl] at H;exact H
     clear H
     have H := H1
     clear H1
     obtain rfl := Option.some.inj H
     have hnb22 := NB343_342.out
     have hnc22 := NB342_343.out
     have hnb23 := NB343_344.out
     have hnc23 := NB344_343.out
     obtain ⟨hcz24_0,hcz24_1,hcz24_2,hcz24_3,hfz24_0,hfz24_1,hfz24_2,hfz24_3⟩ := bR4_ BK343.out
     have hnb25 := NB342_344.out
     have hnc25 := NB344_342.out
     obtain ⟨hcz26_0,hcz26_1,hfz26_0,hfz26_1⟩ := bR2_ BK342.out
     go_wp2_with (first | ((with_reducible refine gate_callee (f := 53) rfl ?_);refine gL_ (some 29) Try.func53 #[.agg #[.slice A1_2 l1_2.length c1_2],.slice A0_0 l0_0.length c0_0,.int .i64 a3] ?_;(with_reducible refine (spec_Locked.calls kj4 _ _ l1_2 _ _ l0_0 a3 true _ ?side1 ?side2 ?side3 ?side4 A20.out).mono ?_);(case side1 => exact cS_ (Kd.C_below HR1_2.out HB.out));(case side2 => exact HC1_2.out);(case side3 => exact cS_ (Kd.C_below HR0_0.out HB.out));(case side4 => exact HC0_0.out);rintro e w27 ⟨rfl,hb⟩;refine ⟨_,rfl,?_⟩;have n0 := aM_ (nB_ BK342.out hb);have n1 := aM_ (nB_ BK343.out hb);have n2 := aM_ (nB_ BK344.out hb);have n3 := aM_ (sT_ HB.out hb);clear BK342;clear BK343;clear BK344;clear HB;have BK342 := n0;have BK343 := n1;have BK344 := n2;have HB := n3;clear n0 n1 n2 n3))
     go_ret
     exact fI_ HB.out
    ·replace c21 := Bool.eq_false_iff.mpr c21
     subst c21
     have H1 : ((spec_ChanIn.f kj4 l1_2 l0_0 a3).bind fun bt347 => (if 0 ≤ a3 then (if a3 < (l2_1.length : Int) then (if bt347.2.2.2 = true then (if bt347.1 = ((rd_T94 l2_1 a3).f0) then (if (bt347.2.2.1 == ((rd_T94 l2_1 a3).f2)) = true then ((spec_l13Ints.f kj4 bt347.2.1 ((rd_T94 l2_1 a3).f1)).bind fun t356 => (some t356)) else (some false)) else (some false)) else (some false)) else (none)) else (none))) = some r := by rw [if_neg (show ¬ (false = true) by decide)] at H;exact H
     clear H
     have H := H1
     clear H1
     replace H := Option.bind_eq_some_iff.mp H
     obtain ⟨⟨t347,t348,t351,t352⟩,A280,H⟩ := H
     replace H : (if 0 ≤ a3 then (if a3 < (l2_1.length : Int) then (if t352 = true then (if t347 = ((rd_T94 l2_1 a3).f0) then (if (t351 == ((rd_T94 l2_1 a3).f2)) = true then ((spec_l13Ints.f kj4 t348 ((rd_T94 l2_1 a3).f1)).bind fun t356 => (some t356)) else (some false)) else (some false)) else (some false)) else (none)) else (none)) = some r := H
     have A28 := aM_ A280
     clear A280
     by_cases c29 : 0 ≤ a3
     ·rw [if_pos c29] at H
      have c29b0 : decide (0 ≤ a3) = true := decide_eq_true c29
      clear c29
      by_cases c30 : a3 < (l2_1.length : Int)
      ·rw [if_pos c30] at H
       have c30b0 : decide (a3 < (l2_1.length : Int)) = true := decide_eq_true c30
       clear c30
       by_cases c31 : t352 = true
       ·subst c31
        have H1 : (if t347 = ((rd_T94 l2_1 a3).f0) then (if (t351 == ((rd_T94 l2_1 a3).f2)) = true then ((spec_l13Ints.f kj4 t348 ((rd_T94 l2_1 a3).f1)).bind fun t356 => (some t356)) else (some false)) else (some false)) = some r := by rw [if_pos rfl] at H;exact H
        clear H
        have H := H1
        clear H1
        by_cases c32 : t347 = ((rd_T94 l2_1 a3).f0)
        ·rw [if_pos c32] at H
         have c32b0 : (t347 == ((rd_T94 l2_1 a3).f0)) = true := beq_iff_eq.mpr c32
         have c32b1 : (t347 != ((rd_T94 l2_1 a3).f0)) = false := bne_eq_false_iff_eq.mpr c32
         clear c32
         by_cases c33 : (t351 == ((rd_T94 l2_1 a3).f2)) = true
         ·rw [if_pos c33] at H
          have c33b0 : (t351 == ((rd_T94 l2_1 a3).f2)) = true := c33
          (try (have c33b1 : decide (t351 = ((rd_T94 l2_1 a3).f2)) = true := by simpa using c33))
          (try (have c33b2 : (t351 == ((rd_T94 l2_1 a3).f2)) = true := by simpa using c33))
          clear c33
          replace H := Option.bind_eq_some_iff.mp H
          obtain ⟨t356,A340,H⟩ := H
          replace H : (some t356) = some r := H
          have A34 := aM_ A340
          clear A340
          obtain rfl := Option.some.inj H
          have hnb35 := NB343_342.out
          have hnc35 := NB342_343.out
          have hnb36 := NB343_344.out
          have hnc36 := NB344_343.out
          obtain ⟨hcz37_0,hcz37_1,hcz37_2,hcz37_3,hfz37_0,hfz37_1,hfz37_2,hfz37_3⟩ := bR4_ BK343.out
          have hnb38 := NB342_344.out
          have hnc38 := NB344_342.out
          obtain ⟨hcz39_0,hcz39_1,hfz39_0,hfz39_1⟩ := bR2_ BK342.out
          go_wp2_with (first | ((with_reducible refine gate_callee (f := 53) rfl ?_);refine gL_ (some 29) Try.func53 #[.agg #[.slice A1_2 l1_2.length c1_2],.slice A0_0 l0_0.length c0_0,.int .i64 a3] ?_;(with_reducible refine (spec_Locked.calls kj4 _ _ l1_2 _ _ l0_0 a3 false _ ?side1 ?side2 ?side3 ?side4 A20.out).mono ?_);(case side1 => exact cS_ (Kd.C_below HR1_2.out HB.out));(case side2 => exact HC1_2.out);(case side3 => exact cS_ (Kd.C_below HR0_0.out HB.out));(case side4 => exact HC0_0.out);rintro e w40 ⟨rfl,hb⟩;refine ⟨_,rfl,?_⟩;have n0 := aM_ (nB_ BK342.out hb);have n1 := aM_ (nB_ BK343.out hb);have n2 := aM_ (nB_ BK344.out hb);have n3 := aM_ (sT_ HB.out hb);clear BK342;clear BK343;clear BK344;clear HB;have BK342 := n0;have BK343 := n1;have BK344 := n2;have HB := n3;clear n0 n1 n2 n3;obtain ⟨hcz41_0,hcz41_1,hcz41_2,hcz41_3,hfz41_0,hfz41_1,hfz41_2,hfz41_3⟩ := bR4_ BK343.out;obtain ⟨hcz42_0,hcz42_1,hfz42_0,hfz42_1⟩ := bR2_ BK342.out) | ((with_reducible refine gate_callee (f := 51) rfl ?_);refine gL_ (some 36) Try.func51 #[.agg #[.slice A1_2 l1_2.length c1_2],.slice A0_0 l0_0.length c0_0,.int .i64 a3] ?_;(with_reducible refine (spec_ChanIn.calls kj4 _ _ l1_2 _ _ l0_0 a3 t347 t348 t351 true _ ?side1 ?side2 ?side3 ?side4 A28.out).mono ?_);(case side1 => exact cS_ (Kd.C_below HR1_2.out HB.out));(case side2 => exact HC1_2.out);(case side3 => exact cS_ (Kd.C_below HR0_0.out HB.out));(case side4 => exact HC0_0.out);rintro e w43 ⟨v349,rfl,ho0,hb⟩;refine ⟨_,rfl,?_⟩;have n0 := aM_ (Kd.R_lower ho0 (below_size (gB_ HB.out)));have n1 := aM_ (nB_ BK342.out hb);have n2 := aM_ (nB_ BK343.out hb);have n3 := aM_ (nB_ BK344.out hb);have n4 := aM_ (sT_ HB.out hb);clear BK342;clear BK343;clear BK344;clear HB;have HO350 := n0;have BK342 := n1;have BK343 := n2;have BK344 := n3;have HB := n4;clear n0 n1 n2 n3 n4;(try clear ho0)) | ((with_reducible refine gate_dst (N := 9) rfl ?_);(try (refine gate_guard (by rfl) ?_;dsimp only));refine bX_ 9 (cs := #[.int .i64 0,.slice none 0 0,.bool false]) (t := 94) ?_;intro gb353 hg w44 hbox hb;have n0 := aM_ (bR_ HO350.out hb);have n1 := aM_ (nB_ BK342.out hb);have n2 := aM_ (nB_ BK343.out hb);have n3 := aM_ (nB_ BK344.out hb);have n4 := aM_ (sT_ HB.out hb);have n5 := aM_ (hbox);have n6 := aM_ (sZ_ hg HB.out);have n7 := aM_ (sZ_ hg HB.out);have n8 := aM_ (nL_ hg BK342.out);have n9 := aM_ (nG_ hg BK342.out);have n10 := aM_ (nL_ hg BK343.out);have n11 := aM_ (nG_ hg BK343.out);have n12 := aM_ (nL_ hg BK344.out);have n13 := aM_ (nG_ hg BK344.out);clear HO350;clear BK342;clear BK343;clear BK344;clear HB;have HO350 := n0;have BK342 := n1;have BK343 := n2;have BK344 := n3;have HB := n4;have BK353 := n5;have GW353 := n6;have GE353 := n7;have NB342_353 := n8;have NB353_342 := n9;have NB343_353 := n10;have NB353_343 := n11;have NB344_353 := n12;have NB353_344 := n13;clear n0 n1 n2 n3 n4 n5 n6 n7 n8 n9 n10 n11 n12 n13;clear hb hbox hg;have hnb45 := NB353_342.out;have hnc45 := NB342_353.out;have hnb46 := NB353_343.out;have hnc46 := NB343_353.out;have hnb47 := NB353_344.out;have hnc47 := NB344_353.out;obtain ⟨hcz48_0,hcz48_1,hcz48_2,hfz48_0,hfz48_1,hfz48_2⟩ := bR3_ BK353.out;obtain ⟨Ao49,co49,eo49⟩ := Kd.R_slice HO350.out;subst eo49;obtain ⟨hcz50_0,hcz50_1,hcz50_2,hfz50_0,hfz50_1,hfz50_2⟩ := bR3_ BK344.out;have p354 : 0 ≤ (a3 : Int) := of_decide_eq_true (by first | (with_reducible assumption) | assumption);have q354 : a3 < (l2_1.length : Int) := of_decide_eq_true (by first | (with_reducible assumption) | assumption);obtain ⟨ad354,A354_1,c354_1,e354,hx354_0,hx354_1,hx354_2,hl354_1,hi354_1⟩ := at_T94 HR2_1.out a3 p354 q354;cases e354;have hn354_0 : ad354.block ≠ gb353 := nE_ hx354_0 GW353.out;have hn354_1 : ad354.block ≠ gb353 := nE_ hx354_0 GW353.out;have hn354_2 : ad354.block ≠ gb353 := nE_ hx354_0 GW353.out;replace hx354_0 := cB_ HB.out hx354_0;replace hx354_1 := cB_ HB.out hx354_1;replace hx354_2 := cB_ HB.out hx354_2;have HR354_1 := aM_ hi354_1;have HC354_1 := aM_ hl354_1;clear hi354_1 hl354_1;replace hx354_0 := cF_ ⟨gb353,0,none⟩ hn354_0 (.int .i64 t347) hx354_0;replace hx354_1 := cF_ ⟨gb353,0,none⟩ hn354_0 (.int .i64 t347) hx354_1;replace hx354_2 := cF_ ⟨gb353,0,none⟩ hn354_0 (.int .i64 t347) hx354_2;replace hx354_0 := cF_ ⟨gb353,1,none⟩ hn354_1 (.slice Ao49 t348.length co49) hx354_0;replace hx354_1 := cF_ ⟨gb353,1,none⟩ hn354_1 (.slice Ao49 t348.length co49) hx354_1;replace hx354_2 := cF_ ⟨gb353,1,none⟩ hn354_1 (.slice Ao49 t348.length co49) hx354_2;replace hx354_0 := cF_ ⟨gb353,2,none⟩ hn354_2 (.bool t351) hx354_0;replace hx354_1 := cF_ ⟨gb353,2,none⟩ hn354_2 (.bool t351) hx354_1;replace hx354_2 := cF_ ⟨gb353,2,none⟩ hn354_2 (.bool t351) hx354_2;clear hn354_0;clear hn354_1;clear hn354_2;replace p354 := eq_true p354;replace q354 := eq_true q354) | ((with_reducible refine gate_dst (N := 11) rfl ?_);(try (refine gate_guard (by rfl) ?_;dsimp only));refine bX_ 11 (cs := #[.int .i64 0,.slice none 0 0,.bool false]) (t := 94) ?_;intro gb355 hg w51 hbox hb;have n0 := aM_ (Kd.R_below (by (with_reducible repeat (first | apply rA_ | apply rN_ | apply rD_));exact (Kd.R_mono (Kd.R_far (p := ⟨gb353,2,none⟩) (Kd.R_far (p := ⟨gb353,1,none⟩) (Kd.R_far (p := ⟨gb353,0,none⟩) (Kd.R_types HO350.out BK353.out (by decide)) (fun _ hk => hk.2) (.int .i64 t347)) (fun _ hk => hk.2) (.slice Ao49 t348.length co49)) (fun _ hk => hk.2) (.bool t351)) (fun _ h_ => h_.1))) hb);have n1 := aM_ (nBf_ BK342.out hb);have n2 := aM_ (nBf_ BK343.out hb);have n3 := aM_ (nBf_ BK344.out hb);have n4 := aM_ (blk_below (g := gb353) (o := .cells #[.int .i64 t347,.slice Ao49 t348.length co49,.bool t351] 94 (0,0)) (by (with_reducible repeat (first | refine bN_ ?_ _ | refine bD_ ?_ | refine bA_ ?_ _));refine blk_put (cs := #[.int .i64 t347,.slice Ao49 t348.length co49,.bool false]) ?_ 2 _ rfl;refine blk_put (cs := #[.int .i64 t347,.slice none 0 0,.bool false]) ?_ 1 _ rfl;refine blk_put (cs := #[.int .i64 0,.slice none 0 0,.bool false]) ?_ 0 _ rfl;exact rW_ BK353.out) hb);have n5 := aM_ (sT_ HB.out hb);have n6 := aM_ (hbox);have n7 := aM_ (sZ_ hg HB.out);have n8 := aM_ (sZ_ hg HB.out);have n9 := aM_ (nLf_ hg BK342.out);have n10 := aM_ (nGf_ hg BK342.out);have n11 := aM_ (nLf_ hg BK343.out);have n12 := aM_ (nGf_ hg BK343.out);have n13 := aM_ (nLf_ hg BK344.out);have n14 := aM_ (nGf_ hg BK344.out);have n15 := aM_ ((by rw [hg];exact Nat.ne_of_lt (blk_lt (g := gb353) (o := .cells #[.int .i64 t347,.slice Ao49 t348.length co49,.bool t351] 94 (0,0)) (by (with_reducible repeat (first | refine bN_ ?_ _ | refine bD_ ?_ | refine bA_ ?_ _));refine blk_put (cs := #[.int .i64 t347,.slice Ao49 t348.length co49,.bool false]) ?_ 2 _ rfl;refine blk_put (cs := #[.int .i64 t347,.slice none 0 0,.bool false]) ?_ 1 _ rfl;refine blk_put (cs := #[.int .i64 0,.slice none 0 0,.bool false]) ?_ 0 _ rfl;exact rW_ BK353.out)) : gb353 ≠ gb355));have n16 := aM_ ((by rw [hg];exact Nat.ne_of_gt (blk_lt (g := gb353) (o := .cells #[.int .i64 t347,.slice Ao49 t348.length co49,.bool t351] 94 (0,0)) (by (with_reducible repeat (first | refine bN_ ?_ _ | refine bD_ ?_ | refine bA_ ?_ _));refine blk_put (cs := #[.int .i64 t347,.slice Ao49 t348.length co49,.bool false]) ?_ 2 _ rfl;refine blk_put (cs := #[.int .i64 t347,.slice none 0 0,.bool false]) ?_ 1 _ rfl;refine blk_put (cs := #[.int .i64 0,.slice none 0 0,.bool false]) ?_ 0 _ rfl;exact rW_ BK353.out)) : gb355 ≠ gb353));clear HO350;clear BK342;clear BK343;clear BK344;clear BK353;clear HB;have HO350 := n0;have BK342 := n1;have BK343 := n2;have BK344 := n3;have BK353 := n4;have HB := n5;have BK355 := n6;have GW355 := n7;have GE355 := n8;have NB342_355 := n9;have NB355_342 := n10;have NB343_355 := n11;have NB355_343 := n12;have NB344_355 := n13;have NB355_344 := n14;have NB353_355 := n15;have NB355_353 := n16;clear n0 n1 n2 n3 n4 n5 n6 n7 n8 n9 n10 n11 n12 n13 n14 n15 n16;clear hb hbox hg;have hnb52 := NB355_342.out;have hnc52 := NB342_355.out;have hnb53 := NB355_343.out;have hnc53 := NB343_355.out;have hnb54 := NB355_344.out;have hnc54 := NB344_355.out;have hnb55 := NB355_353.out;have hnc55 := NB353_355.out;obtain ⟨hcz56_0,hcz56_1,hcz56_2,hfz56_0,hfz56_1,hfz56_2⟩ := bR3_ BK355.out;obtain ⟨hcz57_0,hcz57_1,hcz57_2,hfz57_0,hfz57_1,hfz57_2⟩ := bR3_ BK353.out) | (go_at_call 103;(with_reducible refine (spec_l13Ints.calls kj4 _ _ t348 _ _ ((rd_T94 l2_1 a3).f1) t356 _ ?side1 ?side2 ?side3 ?side4 A34.out).mono ?_);(case side1 => refine (Kd.R_reads' (e := 3) (base := w.heap.size) (ok := fun k_ => True) (n := t348.length) (c := co49) ?_).2.2;exact (by (with_reducible repeat (first | apply rA_ | apply rN_ | apply rD_));exact (Kd.R_mono (Kd.R_far (p := ⟨gb355,2,none⟩) (Kd.R_far (p := ⟨gb355,1,none⟩) (Kd.R_far (p := ⟨gb355,0,none⟩) (Kd.R_types HO350.out BK355.out (by decide)) (fun _ hk => hk.2) (.int .i64 ((rd_T94 l2_1 a3).f0))) (fun _ hk => hk.2) (.slice A354_1 ((rd_T94 l2_1 a3).f1).length c354_1)) (fun _ hk => hk.2) (.bool ((rd_T94 l2_1 a3).f2))) (fun _ h_ => h_.1))));(case side2 => exact (Kd.R_reads' HO350.out).2.1);(case side3 => exact Kd.C_below HR354_1.out (gB_ HB.out));(case side4 => exact HC354_1.out);rintro e w' ⟨rfl,⟨nd,rfl⟩⟩))
          go_ret
          exact fI_ HB.out
         ·rw [if_neg c33] at H
          have c33b0 : (t351 == ((rd_T94 l2_1 a3).f2)) = false := by simpa using c33
          (try (have c33b1 : decide (t351 = ((rd_T94 l2_1 a3).f2)) = false := by simpa using c33))
          (try (have c33b2 : (t351 == ((rd_T94 l2_1 a3).f2)) = false := by simpa using c33))
          (try (have c33b3 : ¬ (t351 = ((rd_T94 l2_1 a3).f2)) := by simpa using c33))
          clear c33
          obtain rfl := Option.some.inj H
          have hnb58 := NB343_342.out
          have hnc58 := NB342_343.out
          have hnb59 := NB343_344.out
          have hnc59 := NB344_343.out
          obtain ⟨hcz60_0,hcz60_1,hcz60_2,hcz60_3,hfz60_0,hfz60_1,hfz60_2,hfz60_3⟩ := bR4_ BK343.out
          have hnb61 := NB342_344.out
          have hnc61 := NB344_342.out
          obtain ⟨hcz62_0,hcz62_1,hfz62_0,hfz62_1⟩ := bR2_ BK342.out
          go_wp2_with (first | ((with_reducible refine gate_callee (f := 53) rfl ?_);refine gL_ (some 29) Try.func53 #[.agg #[.slice A1_2 l1_2.length c1_2],.slice A0_0 l0_0.length c0_0,.int .i64 a3] ?_;(with_reducible refine (spec_Locked.calls kj4 _ _ l1_2 _ _ l0_0 a3 false _ ?side1 ?side2 ?side3 ?side4 A20.out).mono ?_);(case side1 => exact cS_ (Kd.C_below HR1_2.out HB.out));(case side2 => exact HC1_2.out);(case side3 => exact cS_ (Kd.C_below HR0_0.out HB.out));(case side4 => exact HC0_0.out);rintro e w63 ⟨rfl,hb⟩;refine ⟨_,rfl,?_⟩;have n0 := aM_ (nB_ BK342.out hb);have n1 := aM_ (nB_ BK343.out hb);have n2 := aM_ (nB_ BK344.out hb);have n3 := aM_ (sT_ HB.out hb);clear BK342;clear BK343;clear BK344;clear HB;have BK342 := n0;have BK343 := n1;have BK344 := n2;have HB := n3;clear n0 n1 n2 n3;obtain ⟨hcz64_0,hcz64_1,hcz64_2,hcz64_3,hfz64_0,hfz64_1,hfz64_2,hfz64_3⟩ := bR4_ BK343.out;obtain ⟨hcz65_0,hcz65_1,hfz65_0,hfz65_1⟩ := bR2_ BK342.out) | ((with_reducible refine gate_callee (f := 51) rfl ?_);refine gL_ (some 36) Try.func51 #[.agg #[.slice A1_2 l1_2.length c1_2],.slice A0_0 l0_0.length c0_0,.int .i64 a3] ?_;(with_reducible refine (spec_ChanIn.calls kj4 _ _ l1_2 _ _ l0_0 a3 t347 t348 t351 true _ ?side1 ?side2 ?side3 ?side4 A28.out).mono ?_);(case side1 => exact cS_ (Kd.C_below HR1_2.out HB.out));(case side2 => exact HC1_2.out);(case side3 => exact cS_ (Kd.C_below HR0_0.out HB.out));(case side4 => exact HC0_0.out);rintro e w66 ⟨v349,rfl,ho0,hb⟩;refine ⟨_,rfl,?_⟩;have n0 := aM_ (Kd.R_lower ho0 (below_size (gB_ HB.out)));have n1 := aM_ (nB_ BK342.out hb);have n2 := aM_ (nB_ BK343.out hb);have n3 := aM_ (nB_ BK344.out hb);have n4 := aM_ (sT_ HB.out hb);clear BK342;clear BK343;clear BK344;clear HB;have HO350 := n0;have BK342 := n1;have BK343 := n2;have BK344 := n3;have HB := n4;clear n0 n1 n2 n3 n4;(try clear ho0)) | ((with_reducible refine gate_dst (N := 9) rfl ?_);(try (refine gate_guard (by rfl) ?_;dsimp only));refine bX_ 9 (cs := #[.int .i64 0,.slice none 0 0,.bool false]) (t := 94) ?_;intro gb353 hg w67 hbox hb;have n0 := aM_ (bR_ HO350.out hb);have n1 := aM_ (nB_ BK342.out hb);have n2 := aM_ (nB_ BK343.out hb);have n3 := aM_ (nB_ BK344.out hb);have n4 := aM_ (sT_ HB.out hb);have n5 := aM_ (hbox);have n6 := aM_ (sZ_ hg HB.out);have n7 := aM_ (sZ_ hg HB.out);have n8 := aM_ (nL_ hg BK342.out);have n9 := aM_ (nG_ hg BK342.out);have n10 := aM_ (nL_ hg BK343.out);have n11 := aM_ (nG_ hg BK343.out);have n12 := aM_ (nL_ hg BK344.out);have n13 := aM_ (nG_ hg BK344.out);clear HO350;clear BK342;clear BK343;clear BK344;clear HB;have HO350 := n0;have BK342 := n1;have BK343 := n2;have BK344 := n3;have HB := n4;have BK353 := n5;have GW353 := n6;have GE353 := n7;have NB342_353 := n8;have NB353_342 := n9;have NB343_353 := n10;have NB353_343 := n11;have NB344_353 := n12;have NB353_344 := n13;clear n0 n1 n2 n3 n4 n5 n6 n7 n8 n9 n10 n11 n12 n13;clear hb hbox hg;have hnb68 := NB353_342.out;have hnc68 := NB342_353.out;have hnb69 := NB353_343.out;have hnc69 := NB343_353.out;have hnb70 := NB353_344.out;have hnc70 := NB344_353.out;obtain ⟨hcz71_0,hcz71_1,hcz71_2,hfz71_0,hfz71_1,hfz71_2⟩ := bR3_ BK353.out;obtain ⟨Ao72,co72,eo72⟩ := Kd.R_slice HO350.out;subst eo72;obtain ⟨hcz73_0,hcz73_1,hcz73_2,hfz73_0,hfz73_1,hfz73_2⟩ := bR3_ BK344.out;have p354 : 0 ≤ (a3 : Int) := of_decide_eq_true (by first | (with_reducible assumption) | assumption);have q354 : a3 < (l2_1.length : Int) := of_decide_eq_true (by first | (with_reducible assumption) | assumption);obtain ⟨ad354,A354_1,c354_1,e354,hx354_0,hx354_1,hx354_2,hl354_1,hi354_1⟩ := at_T94 HR2_1.out a3 p354 q354;cases e354;have hn354_0 : ad354.block ≠ gb353 := nE_ hx354_0 GW353.out;have hn354_1 : ad354.block ≠ gb353 := nE_ hx354_0 GW353.out;have hn354_2 : ad354.block ≠ gb353 := nE_ hx354_0 GW353.out;replace hx354_0 := cB_ HB.out hx354_0;replace hx354_1 := cB_ HB.out hx354_1;replace hx354_2 := cB_ HB.out hx354_2;have HR354_1 := aM_ hi354_1;have HC354_1 := aM_ hl354_1;clear hi354_1 hl354_1;replace hx354_0 := cF_ ⟨gb353,0,none⟩ hn354_0 (.int .i64 t347) hx354_0;replace hx354_1 := cF_ ⟨gb353,0,none⟩ hn354_0 (.int .i64 t347) hx354_1;replace hx354_2 := cF_ ⟨gb353,0,none⟩ hn354_0 (.int .i64 t347) hx354_2;replace hx354_0 := cF_ ⟨gb353,1,none⟩ hn354_1 (.slice Ao72 t348.length co72) hx354_0;replace hx354_1 := cF_ ⟨gb353,1,none⟩ hn354_1 (.slice Ao72 t348.length co72) hx354_1;replace hx354_2 := cF_ ⟨gb353,1,none⟩ hn354_1 (.slice Ao72 t348.length co72) hx354_2;replace hx354_0 := cF_ ⟨gb353,2,none⟩ hn354_2 (.bool t351) hx354_0;replace hx354_1 := cF_ ⟨gb353,2,none⟩ hn354_2 (.bool t351) hx354_1;replace hx354_2 := cF_ ⟨gb353,2,none⟩ hn354_2 (.bool t351) hx354_2;clear hn354_0;clear hn354_1;clear hn354_2;replace p354 := eq_true p354;replace q354 := eq_true q354) | ((with_reducible refine gate_dst (N := 11) rfl ?_);(try (refine gate_guard (by rfl) ?_;dsimp only));refine bX_ 11 (cs := #[.int .i64 0,.slice none 0 0,.bool false]) (t := 94) ?_;intro gb355 hg w74 hbox hb;have n0 := aM_ (Kd.R_below (by (with_reducible repeat (first | apply rA_ | apply rN_ | apply rD_));exact (Kd.R_mono (Kd.R_far (p := ⟨gb353,2,none⟩) (Kd.R_far (p := ⟨gb353,1,none⟩) (Kd.R_far (p := ⟨gb353,0,none⟩) (Kd.R_types HO350.out BK353.out (by decide)) (fun _ hk => hk.2) (.int .i64 t347)) (fun _ hk => hk.2) (.slice Ao72 t348.length co72)) (fun _ hk => hk.2) (.bool t351)) (fun _ h_ => h_.1))) hb);have n1 := aM_ (nBf_ BK342.out hb);have n2 := aM_ (nBf_ BK343.out hb);have n3 := aM_ (nBf_ BK344.out hb);have n4 := aM_ (blk_below (g := gb353) (o := .cells #[.int .i64 t347,.slice Ao72 t348.length co72,.bool t351] 94 (0,0)) (by (with_reducible repeat (first | refine bN_ ?_ _ | refine bD_ ?_ | refine bA_ ?_ _));refine blk_put (cs := #[.int .i64 t347,.slice Ao72 t348.length co72,.bool false]) ?_ 2 _ rfl;refine blk_put (cs := #[.int .i64 t347,.slice none 0 0,.bool false]) ?_ 1 _ rfl;refine blk_put (cs := #[.int .i64 0,.slice none 0 0,.bool false]) ?_ 0 _ rfl;exact rW_ BK353.out) hb);have n5 := aM_ (sT_ HB.out hb);have n6 := aM_ (hbox);have n7 := aM_ (sZ_ hg HB.out);have n8 := aM_ (sZ_ hg HB.out);have n9 := aM_ (nLf_ hg BK342.out);have n10 := aM_ (nGf_ hg BK342.out);have n11 := aM_ (nLf_ hg BK343.out);have n12 := aM_ (nGf_ hg BK343.out);have n13 := aM_ (nLf_ hg BK344.out);have n14 := aM_ (nGf_ hg BK344.out);have n15 := aM_ ((by rw [hg];exact Nat.ne_of_lt (blk_lt (g := gb353) (o := .cells #[.int .i64 t347,.slice Ao72 t348.length co72,.bool t351] 94 (0,0)) (by (with_reducible repeat (first | refine bN_ ?_ _ | refine bD_ ?_ | refine bA_ ?_ _));refine blk_put (cs := #[.int .i64 t347,.slice Ao72 t348.length co72,.bool false]) ?_ 2 _ rfl;refine blk_put (cs := #[.int .i64 t347,.slice none 0 0,.bool false]) ?_ 1 _ rfl;refine blk_put (cs := #[.int .i64 0,.slice none 0 0,.bool false]) ?_ 0 _ rfl;exact rW_ BK353.out)) : gb353 ≠ gb355));have n16 := aM_ ((by rw [hg];exact Nat.ne_of_gt (blk_lt (g := gb353) (o := .cells #[.int .i64 t347,.slice Ao72 t348.length co72,.bool t351] 94 (0,0)) (by (with_reducible repeat (first | refine bN_ ?_ _ | refine bD_ ?_ | refine bA_ ?_ _));refine blk_put (cs := #[.int .i64 t347,.slice Ao72 t348.length co72,.bool false]) ?_ 2 _ rfl;refine blk_put (cs := #[.int .i64 t347,.slice none 0 0,.bool false]) ?_ 1 _ rfl;refine blk_put (cs := #[.int .i64 0,.slice none 0 0,.bool false]) ?_ 0 _ rfl;exact rW_ BK353.out)) : gb355 ≠ gb353));clear HO350;clear BK342;clear BK343;clear BK344;clear BK353;clear HB;have HO350 := n0;have BK342 := n1;have BK343 := n2;have BK344 := n3;have BK353 := n4;have HB := n5;have BK355 := n6;have GW355 := n7;have GE355 := n8;have NB342_355 := n9;have NB355_342 := n10;have NB343_355 := n11;have NB355_343 := n12;have NB344_355 := n13;have NB355_344 := n14;have NB353_355 := n15;have NB355_353 := n16;clear n0 n1 n2 n3 n4 n5 n6 n7 n8 n9 n10 n11 n12 n13 n14 n15 n16;clear hb hbox hg;have hnb75 := NB355_342.out;have hnc75 := NB342_355.out;have hnb76 := NB355_343.out;have hnc76 := NB343_355.out;have hnb77 := NB355_344.out;have hnc77 := NB344_355.out;have hnb78 := NB355_353.out;have hnc78 := NB353_355.out;obtain ⟨hcz79_0,hcz79_1,hcz79_2,hfz79_0,hfz79_1,hfz79_2⟩ := bR3_ BK355.out;obtain ⟨hcz80_0,hcz80_1,hcz80_2,hfz80_0,hfz80_1,hfz80_2⟩ := bR3_ BK353.out))
          go_ret
          exact fI_ HB.out
        ·rw [if_neg c32] at H
         have c32b0 : (t347 == ((rd_T94 l2_1 a3).f0)) = false := beq_eq_false_iff_ne.mpr c32
         have c32b1 : (t347 != ((rd_T94 l2_1 a3).f0)) = true := bne_iff_ne.mpr c32
         obtain rfl := Option.some.inj H
         have hnb81 := NB343_342.out
         have hnc81 := NB342_343.out
         have hnb82 := NB343_344.out
         have hnc82 := NB344_343.out
         obtain ⟨hcz83_0,hcz83_1,hcz83_2,hcz83_3,hfz83_0,hfz83_1,hfz83_2,hfz83_3⟩ := bR4_ BK343.out
         have hnb84 := NB342_344.out
         have hnc84 := NB344_342.out
         obtain ⟨hcz85_0,hcz85_1,hfz85_0,hfz85_1⟩ := bR2_ BK342.out
         go_wp2_with (first | ((with_reducible refine gate_callee (f := 53) rfl ?_);refine gL_ (some 29) Try.func53 #[.agg #[.slice A1_2 l1_2.length c1_2],.slice A0_0 l0_0.length c0_0,.int .i64 a3] ?_;(with_reducible refine (spec_Locked.calls kj4 _ _ l1_2 _ _ l0_0 a3 false _ ?side1 ?side2 ?side3 ?side4 A20.out).mono ?_);(case side1 => exact cS_ (Kd.C_below HR1_2.out HB.out));(case side2 => exact HC1_2.out);(case side3 => exact cS_ (Kd.C_below HR0_0.out HB.out));(case side4 => exact HC0_0.out);rintro e w86 ⟨rfl,hb⟩;refine ⟨_,rfl,?_⟩;have n0 := aM_ (nB_ BK342.out hb);have n1 := aM_ (nB_ BK343.out hb);have n2 := aM_ (nB_ BK344.out hb);have n3 := aM_ (sT_ HB.out hb);clear BK342;clear BK343;clear BK344;clear HB;have BK342 := n0;have BK343 := n1;have BK344 := n2;have HB := n3;clear n0 n1 n2 n3;obtain ⟨hcz87_0,hcz87_1,hcz87_2,hcz87_3,hfz87_0,hfz87_1,hfz87_2,hfz87_3⟩ := bR4_ BK343.out;obtain ⟨hcz88_0,hcz88_1,hfz88_0,hfz88_1⟩ := bR2_ BK342.out) | ((with_reducible refine gate_callee (f := 51) rfl ?_);refine gL_ (some 36) Try.func51 #[.agg #[.slice A1_2 l1_2.length c1_2],.slice A0_0 l0_0.length c0_0,.int .i64 a3] ?_;(with_reducible refine (spec_ChanIn.calls kj4 _ _ l1_2 _ _ l0_0 a3 t347 t348 t351 true _ ?side1 ?side2 ?side3 ?side4 A28.out).mono ?_);(case side1 => exact cS_ (Kd.C_below HR1_2.out HB.out));(case side2 => exact HC1_2.out);(case side3 => exact cS_ (Kd.C_below HR0_0.out HB.out));(case side4 => exact HC0_0.out);rintro e w89 ⟨v349,rfl,ho0,hb⟩;refine ⟨_,rfl,?_⟩;have n0 := aM_ (Kd.R_lower ho0 (below_size (gB_ HB.out)));have n1 := aM_ (nB_ BK342.out hb);have n2 := aM_ (nB_ BK343.out hb);have n3 := aM_ (nB_ BK344.out hb);have n4 := aM_ (sT_ HB.out hb);clear BK342;clear BK343;clear BK344;clear HB;have HO350 := n0;have BK342 := n1;have BK343 := n2;have BK344 := n3;have HB := n4;clear n0 n1 n2 n3 n4;(try clear ho0)) | ((with_reducible refine gate_dst (N := 9) rfl ?_);(try (refine gate_guard (by rfl) ?_;dsimp only));refine bX_ 9 (cs := #[.int .i64 0,.slice none 0 0,.bool false]) (t := 94) ?_;intro gb353 hg w90 hbox hb;have n0 := aM_ (bR_ HO350.out hb);have n1 := aM_ (nB_ BK342.out hb);have n2 := aM_ (nB_ BK343.out hb);have n3 := aM_ (nB_ BK344.out hb);have n4 := aM_ (sT_ HB.out hb);have n5 := aM_ (hbox);have n6 := aM_ (sZ_ hg HB.out);have n7 := aM_ (sZ_ hg HB.out);have n8 := aM_ (nL_ hg BK342.out);have n9 := aM_ (nG_ hg BK342.out);have n10 := aM_ (nL_ hg BK343.out);have n11 := aM_ (nG_ hg BK343.out);have n12 := aM_ (nL_ hg BK344.out);have n13 := aM_ (nG_ hg BK344.out);clear HO350;clear BK342;clear BK343;clear BK344;clear HB;have HO350 := n0;have BK342 := n1;have BK343 := n2;have BK344 := n3;have HB := n4;have BK353 := n5;have GW353 := n6;have GE353 := n7;have NB342_353 := n8;have NB353_342 := n9;have NB343_353 := n10;have NB353_343 := n11;have NB344_353 := n12;have NB353_344 := n13;clear n0 n1 n2 n3 n4 n5 n6 n7 n8 n9 n10 n11 n12 n13;clear hb hbox hg;have hnb91 := NB353_342.out;have hnc91 := NB342_353.out;have hnb92 := NB353_343.out;have hnc92 := NB343_353.out;have hnb93 := NB353_344.out;have hnc93 := NB344_353.out;obtain ⟨hcz94_0,hcz94_1,hcz94_2,hfz94_0,hfz94_1,hfz94_2⟩ := bR3_ BK353.out;obtain ⟨Ao95,co95,eo95⟩ := Kd.R_slice HO350.out;subst eo95;obtain ⟨hcz96_0,hcz96_1,hcz96_2,hfz96_0,hfz96_1,hfz96_2⟩ := bR3_ BK344.out;have p354 : 0 ≤ (a3 : Int) := of_decide_eq_true (by first | (with_reducible assumption) | assumption);have q354 : a3 < (l2_1.length : Int) := of_decide_eq_true (by first | (with_reducible assumption) | assumption);obtain ⟨ad354,A354_1,c354_1,e354,hx354_0,hx354_1,hx354_2,hl354_1,hi354_1⟩ := at_T94 HR2_1.out a3 p354 q354;cases e354;have hn354_0 : ad354.block ≠ gb353 := nE_ hx354_0 GW353.out;have hn354_1 : ad354.block ≠ gb353 := nE_ hx354_0 GW353.out;have hn354_2 : ad354.block ≠ gb353 := nE_ hx354_0 GW353.out;replace hx354_0 := cB_ HB.out hx354_0;replace hx354_1 := cB_ HB.out hx354_1;replace hx354_2 := cB_ HB.out hx354_2;have HR354_1 := aM_ hi354_1;have HC354_1 := aM_ hl354_1;clear hi354_1 hl354_1;replace hx354_0 := cF_ ⟨gb353,0,none⟩ hn354_0 (.int .i64 t347) hx354_0;replace hx354_1 := cF_ ⟨gb353,0,none⟩ hn354_0 (.int .i64 t347) hx354_1;replace hx354_2 := cF_ ⟨gb353,0,none⟩ hn354_0 (.int .i64 t347) hx354_2;replace hx354_0 := cF_ ⟨gb353,1,none⟩ hn354_1 (.slice Ao95 t348.length co95) hx354_0;replace hx354_1 := cF_ ⟨gb353,1,none⟩ hn354_1 (.slice Ao95 t348.length co95) hx354_1;replace hx354_2 := cF_ ⟨gb353,1,none⟩ hn354_1 (.slice Ao95 t348.length co95) hx354_2;replace hx354_0 := cF_ ⟨gb353,2,none⟩ hn354_2 (.bool t351) hx354_0;replace hx354_1 := cF_ ⟨gb353,2,none⟩ hn354_2 (.bool t351) hx354_1;replace hx354_2 := cF_ ⟨gb353,2,none⟩ hn354_2 (.bool t351) hx354_2;clear hn354_0;clear hn354_1;clear hn354_2;replace p354 := eq_true p354;replace q354 := eq_true q354) | ((with_reducible refine gate_dst (N := 11) rfl ?_);(try (refine gate_guard (by rfl) ?_;dsimp only));refine bX_ 11 (cs := #[.int .i64 0,.slice none 0 0,.bool false]) (t := 94) ?_;intro gb355 hg w97 hbox hb;have n0 := aM_ (Kd.R_below (by (with_reducible repeat (first | apply rA_ | apply rN_ | apply rD_));exact (Kd.R_mono (Kd.R_far (p := ⟨gb353,2,none⟩) (Kd.R_far (p := ⟨gb353,1,none⟩) (Kd.R_far (p := ⟨gb353,0,none⟩) (Kd.R_types HO350.out BK353.out (by decide)) (fun _ hk => hk.2) (.int .i64 t347)) (fun _ hk => hk.2) (.slice Ao95 t348.length co95)) (fun _ hk => hk.2) (.bool t351)) (fun _ h_ => h_.1))) hb);have n1 := aM_ (nBf_ BK342.out hb);have n2 := aM_ (nBf_ BK343.out hb);have n3 := aM_ (nBf_ BK344.out hb);have n4 := aM_ (blk_below (g := gb353) (o := .cells #[.int .i64 t347,.slice Ao95 t348.length co95,.bool t351] 94 (0,0)) (by (with_reducible repeat (first | refine bN_ ?_ _ | refine bD_ ?_ | refine bA_ ?_ _));refine blk_put (cs := #[.int .i64 t347,.slice Ao95 t348.length co95,.bool false]) ?_ 2 _ rfl;refine blk_put (cs := #[.int .i64 t347,.slice none 0 0,.bool false]) ?_ 1 _ rfl;refine blk_put (cs := #[.int .i64 0,.slice none 0 0,.bool false]) ?_ 0 _ rfl;exact rW_ BK353.out) hb);have n5 := aM_ (sT_ HB.out hb);have n6 := aM_ (hbox);have n7 := aM_ (sZ_ hg HB.out);have n8 := aM_ (sZ_ hg HB.out);have n9 := aM_ (nLf_ hg BK342.out);have n10 := aM_ (nGf_ hg BK342.out);have n11 := aM_ (nLf_ hg BK343.out);have n12 := aM_ (nGf_ hg BK343.out);have n13 := aM_ (nLf_ hg BK344.out);have n14 := aM_ (nGf_ hg BK344.out);have n15 := aM_ ((by rw [hg];exact Nat.ne_of_lt (blk_lt (g := gb353) (o := .cells #[.int .i64 t347,.slice Ao95 t348.length co95,.bool t351] 94 (0,0)) (by (with_reducible repeat (first | refine bN_ ?_ _ | refine bD_ ?_ | refine bA_ ?_ _));refine blk_put (cs := #[.int .i64 t347,.slice Ao95 t348.length co95,.bool false]) ?_ 2 _ rfl;refine blk_put (cs := #[.int .i64 t347,.slice none 0 0,.bool false]) ?_ 1 _ rfl;refine blk_put (cs := #[.int .i64 0,.slice none 0 0,.bool false]) ?_ 0 _ rfl;exact rW_ BK353.out)) : gb353 ≠ gb355));have n16 := aM_ ((by rw [hg];exact Nat.ne_of_gt (blk_lt (g := gb353) (o := .cells #[.int .i64 t347,.slice Ao95 t348.length co95,.bool t351] 94 (0,0)) (by (with_reducible repeat (first | refine bN_ ?_ _ | refine bD_ ?_ | refine bA_ ?_ _));refine blk_put (cs := #[.int .i64 t347,.slice Ao95 t348.length co95,.bool false]) ?_ 2 _ rfl;refine blk_put (cs := #[.int .i64 t347,.slice none 0 0,.bool false]) ?_ 1 _ rfl;refine blk_put (cs := #[.int .i64 0,.slice none 0 0,.bool false]) ?_ 0 _ rfl;exact rW_ BK353.out)) : gb355 ≠ gb353));clear HO350;clear BK342;clear BK343;clear BK344;clear BK353;clear HB;have HO350 := n0;have BK342 := n1;have BK343 := n2;have BK344 := n3;have BK353 := n4;have HB := n5;have BK355 := n6;have GW355 := n7;have GE355 := n8;have NB342_355 := n9;have NB355_342 := n10;have NB343_355 := n11;have NB355_343 := n12;have NB344_355 := n13;have NB355_344 := n14;have NB353_355 := n15;have NB355_353 := n16;clear n0 n1 n2 n3 n4 n5 n6 n7 n8 n9 n10 n11 n12 n13 n14 n15 n16;clear hb hbox hg;have hnb98 := NB355_342.out;have hnc98 := NB342_355.out;have hnb99 := NB355_343.out;have hnc99 := NB343_355.out;have hnb100 := NB355_344.out;have hnc100 := NB344_355.out;have hnb101 := NB355_353.out;have hnc101 := NB353_355.out;obtain ⟨hcz102_0,hcz102_1,hcz102_2,hfz102_0,hfz102_1,hfz102_2⟩ := bR3_ BK355.out;obtain ⟨hcz103_0,hcz103_1,hcz103_2,hfz103_0,hfz103_1,hfz103_2⟩ := bR3_ BK353.out))
         go_ret
         exact fI_ HB.out
       ·replace c31 := Bool.eq_false_iff.mpr c31
        subst c31
        have H1 : (some false) = some r := by rw [if_neg (show ¬ (false = true) by decide)] at H;exact H
        clear H
        have H := H1
        clear H1
        obtain rfl := Option.some.inj H
        have hnb104 := NB343_342.out
        have hnc104 := NB342_343.out
        have hnb105 := NB343_344.out
        have hnc105 := NB344_343.out
        obtain ⟨hcz106_0,hcz106_1,hcz106_2,hcz106_3,hfz106_0,hfz106_1,hfz106_2,hfz106_3⟩ := bR4_ BK343.out
        have hnb107 := NB342_344.out
        have hnc107 := NB344_342.out
        obtain ⟨hcz108_0,hcz108_1,hfz108_0,hfz108_1⟩ := bR2_ BK342.out
        go_wp2_with (first | ((with_reducible refine gate_callee (f := 53) rfl ?_);refine gL_ (some 29) Try.func53 #[.agg #[.slice A1_2 l1_2.length c1_2],.slice A0_0 l0_0.length c0_0,.int .i64 a3] ?_;(with_reducible refine (spec_Locked.calls kj4 _ _ l1_2 _ _ l0_0 a3 false _ ?side1 ?side2 ?side3 ?side4 A20.out).mono ?_);(case side1 => exact cS_ (Kd.C_below HR1_2.out HB.out));(case side2 => exact HC1_2.out);(case side3 => exact cS_ (Kd.C_below HR0_0.out HB.out));(case side4 => exact HC0_0.out);rintro e w109 ⟨rfl,hb⟩;refine ⟨_,rfl,?_⟩;have n0 := aM_ (nB_ BK342.out hb);have n1 := aM_ (nB_ BK343.out hb);have n2 := aM_ (nB_ BK344.out hb);have n3 := aM_ (sT_ HB.out hb);clear BK342;clear BK343;clear BK344;clear HB;have BK342 := n0;have BK343 := n1;have BK344 := n2;have HB := n3;clear n0 n1 n2 n3;obtain ⟨hcz110_0,hcz110_1,hcz110_2,hcz110_3,hfz110_0,hfz110_1,hfz110_2,hfz110_3⟩ := bR4_ BK343.out;obtain ⟨hcz111_0,hcz111_1,hfz111_0,hfz111_1⟩ := bR2_ BK342.out) | ((with_reducible refine gate_callee (f := 51) rfl ?_);refine gL_ (some 36) Try.func51 #[.agg #[.slice A1_2 l1_2.length c1_2],.slice A0_0 l0_0.length c0_0,.int .i64 a3] ?_;(with_reducible refine (spec_ChanIn.calls kj4 _ _ l1_2 _ _ l0_0 a3 t347 t348 t351 false _ ?side1 ?side2 ?side3 ?side4 A28.out).mono ?_);(case side1 => exact cS_ (Kd.C_below HR1_2.out HB.out));(case side2 => exact HC1_2.out);(case side3 => exact cS_ (Kd.C_below HR0_0.out HB.out));(case side4 => exact HC0_0.out);rintro e w112 ⟨v349,rfl,ho0,hb⟩;refine ⟨_,rfl,?_⟩;have n0 := aM_ (Kd.R_lower ho0 (below_size (gB_ HB.out)));have n1 := aM_ (nB_ BK342.out hb);have n2 := aM_ (nB_ BK343.out hb);have n3 := aM_ (nB_ BK344.out hb);have n4 := aM_ (sT_ HB.out hb);clear BK342;clear BK343;clear BK344;clear HB;have HO350 := n0;have BK342 := n1;have BK343 := n2;have BK344 := n3;have HB := n4;clear n0 n1 n2 n3 n4;(try clear ho0)) | ((with_reducible refine gate_dst (N := 9) rfl ?_);(try (refine gate_guard (by rfl) ?_;dsimp only));refine bX_ 9 (cs := #[.int .i64 0,.slice none 0 0,.bool false]) (t := 94) ?_;intro gb353 hg w113 hbox hb;have n0 := aM_ (bR_ HO350.out hb);have n1 := aM_ (nB_ BK342.out hb);have n2 := aM_ (nB_ BK343.out hb);have n3 := aM_ (nB_ BK344.out hb);have n4 := aM_ (sT_ HB.out hb);have n5 := aM_ (hbox);have n6 := aM_ (sZ_ hg HB.out);have n7 := aM_ (sZ_ hg HB.out);have n8 := aM_ (nL_ hg BK342.out);have n9 := aM_ (nG_ hg BK342.out);have n10 := aM_ (nL_ hg BK343.out);have n11 := aM_ (nG_ hg BK343.out);have n12 := aM_ (nL_ hg BK344.out);have n13 := aM_ (nG_ hg BK344.out);clear HO350;clear BK342;clear BK343;clear BK344;clear HB;have HO350 := n0;have BK342 := n1;have BK343 := n2;have BK344 := n3;have HB := n4;have BK353 := n5;have GW353 := n6;have GE353 := n7;have NB342_353 := n8;have NB353_342 := n9;have NB343_353 := n10;have NB353_343 := n11;have NB344_353 := n12;have NB353_344 := n13;clear n0 n1 n2 n3 n4 n5 n6 n7 n8 n9 n10 n11 n12 n13;clear hb hbox hg;have hnb114 := NB353_342.out;have hnc114 := NB342_353.out;have hnb115 := NB353_343.out;have hnc115 := NB343_353.out;have hnb116 := NB353_344.out;have hnc116 := NB344_353.out;obtain ⟨hcz117_0,hcz117_1,hcz117_2,hfz117_0,hfz117_1,hfz117_2⟩ := bR3_ BK353.out;obtain ⟨Ao118,co118,eo118⟩ := Kd.R_slice HO350.out;subst eo118;obtain ⟨hcz119_0,hcz119_1,hcz119_2,hfz119_0,hfz119_1,hfz119_2⟩ := bR3_ BK344.out;have p354 : 0 ≤ (a3 : Int) := of_decide_eq_true (by first | (with_reducible assumption) | assumption);have q354 : a3 < (l2_1.length : Int) := of_decide_eq_true (by first | (with_reducible assumption) | assumption);obtain ⟨ad354,A354_1,c354_1,e354,hx354_0,hx354_1,hx354_2,hl354_1,hi354_1⟩ := at_T94 HR2_1.out a3 p354 q354;cases e354;have hn354_0 : ad354.block ≠ gb353 := nE_ hx354_0 GW353.out;have hn354_1 : ad354.block ≠ gb353 := nE_ hx354_0 GW353.out;have hn354_2 : ad354.block ≠ gb353 := nE_ hx354_0 GW353.out;replace hx354_0 := cB_ HB.out hx354_0;replace hx354_1 := cB_ HB.out hx354_1;replace hx354_2 := cB_ HB.out hx354_2;have HR354_1 := aM_ hi354_1;have HC354_1 := aM_ hl354_1;clear hi354_1 hl354_1;replace hx354_0 := cF_ ⟨gb353,0,none⟩ hn354_0 (.int .i64 t347) hx354_0;replace hx354_1 := cF_ ⟨gb353,0,none⟩ hn354_0 (.int .i64 t347) hx354_1;replace hx354_2 := cF_ ⟨gb353,0,none⟩ hn354_0 (.int .i64 t347) hx354_2;replace hx354_0 := cF_ ⟨gb353,1,none⟩ hn354_1 (.slice Ao118 t348.length co118) hx354_0;replace hx354_1 := cF_ ⟨gb353,1,none⟩ hn354_1 (.slice Ao118 t348.length co118) hx354_1;replace hx354_2 := cF_ ⟨gb353,1,none⟩ hn354_1 (.slice Ao118 t348.length co118) hx354_2;replace hx354_0 := cF_ ⟨gb353,2,none⟩ hn354_2 (.bool t351) hx354_0;replace hx354_1 := cF_ ⟨gb353,2,none⟩ hn354_2 (.bool t351) hx354_1;replace hx354_2 := cF_ ⟨gb353,2,none⟩ hn354_2 (.bool t351) hx354_2;clear hn354_0;clear hn354_1;clear hn354_2;replace p354 := eq_true p354;replace q354 := eq_true q354) | ((with_reducible refine gate_dst (N := 11) rfl ?_);(try (refine gate_guard (by rfl) ?_;dsimp only));refine bX_ 11 (cs := #[.int .i64 0,.slice none 0 0,.bool false]) (t := 94) ?_;intro gb355 hg w120 hbox hb;have n0 := aM_ (Kd.R_below (by (with_reducible repeat (first | apply rA_ | apply rN_ | apply rD_));exact (Kd.R_mono (Kd.R_far (p := ⟨gb353,2,none⟩) (Kd.R_far (p := ⟨gb353,1,none⟩) (Kd.R_far (p := ⟨gb353,0,none⟩) (Kd.R_types HO350.out BK353.out (by decide)) (fun _ hk => hk.2) (.int .i64 t347)) (fun _ hk => hk.2) (.slice Ao118 t348.length co118)) (fun _ hk => hk.2) (.bool t351)) (fun _ h_ => h_.1))) hb);have n1 := aM_ (nBf_ BK342.out hb);have n2 := aM_ (nBf_ BK343.out hb);have n3 := aM_ (nBf_ BK344.out hb);have n4 := aM_ (blk_below (g := gb353) (o := .cells #[.int .i64 t347,.slice Ao118 t348.length co118,.bool t351] 94 (0,0)) (by (with_reducible repeat (first | refine bN_ ?_ _ | refine bD_ ?_ | refine bA_ ?_ _));refine blk_put (cs := #[.int .i64 t347,.slice Ao118 t348.length co118,.bool false]) ?_ 2 _ rfl;refine blk_put (cs := #[.int .i64 t347,.slice none 0 0,.bool false]) ?_ 1 _ rfl;refine blk_put (cs := #[.int .i64 0,.slice none 0 0,.bool false]) ?_ 0 _ rfl;exact rW_ BK353.out) hb);have n5 := aM_ (sT_ HB.out hb);have n6 := aM_ (hbox);have n7 := aM_ (sZ_ hg HB.out);have n8 := aM_ (sZ_ hg HB.out);have n9 := aM_ (nLf_ hg BK342.out);have n10 := aM_ (nGf_ hg BK342.out);have n11 := aM_ (nLf_ hg BK343.out);have n12 := aM_ (nGf_ hg BK343.out);have n13 := aM_ (nLf_ hg BK344.out);have n14 := aM_ (nGf_ hg BK344.out);have n15 := aM_ ((by rw [hg];exact Nat.ne_of_lt (blk_lt (g := gb353) (o := .cells #[.int .i64 t347,.slice Ao118 t348.length co118,.bool t351] 94 (0,0)) (by (with_reducible repeat (first | refine bN_ ?_ _ | refine bD_ ?_ | refine bA_ ?_ _));refine blk_put (cs := #[.int .i64 t347,.slice Ao118 t348.length co118,.bool false]) ?_ 2 _ rfl;refine blk_put (cs := #[.int .i64 t347,.slice none 0 0,.bool false]) ?_ 1 _ rfl;refine blk_put (cs := #[.int .i64 0,.slice none 0 0,.bool false]) ?_ 0 _ rfl;exact rW_ BK353.out)) : gb353 ≠ gb355));have n16 := aM_ ((by rw [hg];exact Nat.ne_of_gt (blk_lt (g := gb353) (o := .cells #[.int .i64 t347,.slice Ao118 t348.length co118,.bool t351] 94 (0,0)) (by (with_reducible repeat (first | refine bN_ ?_ _ | refine bD_ ?_ | refine bA_ ?_ _));refine blk_put (cs := #[.int .i64 t347,.slice Ao118 t348.length co118,.bool false]) ?_ 2 _ rfl;refine blk_put (cs := #[.int .i64 t347,.slice none 0 0,.bool false]) ?_ 1 _ rfl;refine blk_put (cs := #[.int .i64 0,.slice none 0 0,.bool false]) ?_ 0 _ rfl;exact rW_ BK353.out)) : gb355 ≠ gb353));clear HO350;clear BK342;clear BK343;clear BK344;clear BK353;clear HB;have HO350 := n0;have BK342 := n1;have BK343 := n2;have BK344 := n3;have BK353 := n4;have HB := n5;have BK355 := n6;have GW355 := n7;have GE355 := n8;have NB342_355 := n9;have NB355_342 := n10;have NB343_355 := n11;have NB355_343 := n12;have NB344_355 := n13;have NB355_344 := n14;have NB353_355 := n15;have NB355_353 := n16;clear n0 n1 n2 n3 n4 n5 n6 n7 n8 n9 n10 n11 n12 n13 n14 n15 n16;clear hb hbox hg;have hnb121 := NB355_342.out;have hnc121 := NB342_355.out;have hnb122 := NB355_343.out;have hnc122 := NB343_355.out;have hnb123 := NB355_344.out;have hnc123 := NB344_355.out;have hnb124 := NB355_353.out;have hnc124 := NB353_355.out;obtain ⟨hcz125_0,hcz125_1,hcz125_2,hfz125_0,hfz125_1,hfz125_2⟩ := bR3_ BK355.out))
        go_ret
        exact fI_ HB.out
      ·rw [if_neg c30] at H
       exact absurd H (by simp)
     ·rw [if_neg c29] at H
      exact absurd H (by simp)
def laws_toStep.f (a0_0 : Int) (a0_1 : Int) (a0_2 : Int) (a0_3 : Int) (a0_4 : Int) : Option (Int × Int × Int × Int × Int) := some (a0_0,a0_1,a0_2,a0_3,a0_4)
set_option maxHeartbeats 8000000 in
set_option maxRecDepth 100000 in
theorem laws_toStep.calls (a0_0 : Int) (a0_1 : Int) (a0_2 : Int) (a0_3 : Int) (a0_4 : Int) (r1 : Int) (r2 : Int) (r3 : Int) (r4 : Int) (r5 : Int) (w : World) (h : laws_toStep.f a0_0 a0_1 a0_2 a0_3 a0_4 = some (r1,r2,r3,r4,r5)) :
  Calls Try.prog 134 #[.agg #[.int .i64 a0_0,.int .i64 a0_1,.int .i64 a0_2,.int .i64 a0_3,.int .i64 a0_4]] w fun e w' => e = .returned (.agg #[.int .i64 r1,.int .i64 r2,.int .i64 r3,.int .i64 r4,.int .i64 r5]) ∧ Below w.heap.size w w' := by
 have hu177 := Try.underlying177
 have hu175 := Try.underlying175
 have HB := aM_ (Below.refl w.heap.size w)
 have H : (some (a0_0,a0_1,a0_2,a0_3,a0_4)) = some (r1,r2,r3,r4,r5) := h
 clear h
 simp only [Option.some.injEq,Prod.mk.injEq] at H
 obtain ⟨rfl,rfl,rfl,rfl,rfl⟩ := H
 go_enter Try.func134,Try.ntmps134
 go_wp2_with (first | ((with_reducible refine gate_dst (N := 1) rfl ?_);refine bX_ 1 (cs := #[.int .i64 a0_0,.int .i64 a0_1,.int .i64 a0_2,.int .i64 a0_3,.int .i64 a0_4]) (t := 177) ?_;intro gb357 hg w2 hbox hb;have n0 := aM_ (sT_ HB.out hb);have n1 := aM_ (hbox);have n2 := aM_ (sZ_ hg HB.out);have n3 := aM_ (sZ_ hg HB.out);clear HB;have HB := n0;have BK357 := n1;have GW357 := n2;have GE357 := n3;clear n0 n1 n2 n3;clear hb hbox hg) | ((with_reducible refine gate_dst (N := 2) rfl ?_);refine bX_ 2 (cs := #[.int .i64 0,.int .i64 0,.int .i64 0,.int .i64 0,.int .i64 0]) (t := 175) ?_;intro gb358 hg w3 hbox hb;have n0 := aM_ (nB_ BK357.out hb);have n1 := aM_ (sT_ HB.out hb);have n2 := aM_ (hbox);have n3 := aM_ (sZ_ hg HB.out);have n4 := aM_ (sZ_ hg HB.out);have n5 := aM_ (nL_ hg BK357.out);have n6 := aM_ (nG_ hg BK357.out);clear BK357;clear HB;have BK357 := n0;have HB := n1;have BK358 := n2;have GW358 := n3;have GE358 := n4;have NB357_358 := n5;have NB358_357 := n6;clear n0 n1 n2 n3 n4 n5 n6;clear hb hbox hg) | ((with_reducible refine gate_dst (N := 3) rfl ?_);refine bX_ 3 (cs := #[.int .i64 0,.int .i64 0,.int .i64 0,.int .i64 0,.int .i64 0]) (t := 175) ?_;intro gb359 hg w4 hbox hb;have n0 := aM_ (nB_ BK357.out hb);have n1 := aM_ (nB_ BK358.out hb);have n2 := aM_ (sT_ HB.out hb);have n3 := aM_ (hbox);have n4 := aM_ (sZ_ hg HB.out);have n5 := aM_ (sZ_ hg HB.out);have n6 := aM_ (nL_ hg BK357.out);have n7 := aM_ (nG_ hg BK357.out);have n8 := aM_ (nL_ hg BK358.out);have n9 := aM_ (nG_ hg BK358.out);clear BK357;clear BK358;clear HB;have BK357 := n0;have BK358 := n1;have HB := n2;have BK359 := n3;have GW359 := n4;have GE359 := n5;have NB357_359 := n6;have NB359_357 := n7;have NB358_359 := n8;have NB359_358 := n9;clear n0 n1 n2 n3 n4 n5 n6 n7 n8 n9;clear hb hbox hg;have hnb5 := NB357_358.out;have hnc5 := NB358_357.out;have hnb6 := NB357_359.out;have hnc6 := NB359_357.out;obtain ⟨hcz7_0,hcz7_1,hcz7_2,hcz7_3,hcz7_4,hfz7_0,hfz7_1,hfz7_2,hfz7_3,hfz7_4⟩ := bR5_ BK357.out;have hnb8 := NB359_358.out;have hnc8 := NB358_359.out;obtain ⟨hcz9_0,hcz9_1,hcz9_2,hcz9_3,hcz9_4,hfz9_0,hfz9_1,hfz9_2,hfz9_3,hfz9_4⟩ := bR5_ BK359.out;obtain ⟨hcz10_0,hcz10_1,hcz10_2,hcz10_3,hcz10_4,hfz10_0,hfz10_1,hfz10_2,hfz10_3,hfz10_4⟩ := bR5_ BK358.out))
 refine bodyPost_ret (results_cell_row rfl _ _ gb358 175 #[.int .i64 a0_0,.int .i64 a0_1,.int .i64 a0_2,.int .i64 a0_3,.int .i64 a0_4] (0,0) _ rfl (by (with_reducible repeat (first | refine bN_ ?_ _ | refine bD_ ?_ | refine bA_ ?_ _));refine blk_put (cs := #[.int .i64 a0_0,.int .i64 a0_1,.int .i64 a0_2,.int .i64 a0_3,.int .i64 0]) ?_ 4 _ rfl;refine blk_put (cs := #[.int .i64 a0_0,.int .i64 a0_1,.int .i64 a0_2,.int .i64 0,.int .i64 0]) ?_ 3 _ rfl;refine blk_put (cs := #[.int .i64 a0_0,.int .i64 a0_1,.int .i64 0,.int .i64 0,.int .i64 0]) ?_ 2 _ rfl;refine blk_put (cs := #[.int .i64 a0_0,.int .i64 0,.int .i64 0,.int .i64 0,.int .i64 0]) ?_ 1 _ rfl;refine blk_put (cs := #[.int .i64 0,.int .i64 0,.int .i64 0,.int .i64 0,.int .i64 0]) ?_ 0 _ rfl;exact rWf_ BK358.out) Try.underlying175 rfl (by kernel_rfl)) rfl ?_
 exact fI_ HB.out
def laws_toStepS.l0 : Nat → List (S177) → List (S175) → Int → Option ((List (S175)))
  | 0,_,_,_ => none
  | k + 1,x0,x3,x4 => if x4 < (x0.length : Int) then (if 0 ≤ x4 then ((laws_toStep.f ((rd_T177 x0 x4).f0) ((rd_T177 x0 x4).f1) ((rd_T177 x0 x4).f2) ((rd_T177 x0 x4).f3) ((rd_T177 x0 x4).f4)).bind fun bt364 => (if x4 < (x3.length : Int) then (laws_toStepS.l0 k x0 (x3.set (x4 : Int).toNat (⟨bt364.1,bt364.2.1,bt364.2.2.1,bt364.2.2.2.1,bt364.2.2.2.2⟩ : S175)) (wrap64 (x4 + 1))) else (none))) else (none)) else (some x3)
def laws_toStepS.f (k : Nat) (l0 : List (S177)) : Option ((List (S175))) := if 0 ≤ (l0.length : Int) then (if ((l0.length : Int) : Int).toNat ≤ 7036874417766 then (laws_toStepS.l0 k l0 (List.replicate ((l0.length : Int) : Int).toNat z175) 0) else (none)) else (none)
set_option maxHeartbeats 8000000 in
set_option maxRecDepth 100000 in
theorem laws_toStepS.calls (k : Nat) (A0 : Option Addr) (c0 : Nat) (l0 : List (S177)) (r : List (S175)) (w : World) (hr0 : Kd.C k177 w A0 l0.length l0) (hc0 : l0.length ≤ c0) (h : laws_toStepS.f k l0 = some r) :
  Calls Try.prog 79 #[.slice A0 l0.length c0] w fun e w' => ∃ v0_ : Value,e = .returned (v0_) ∧ Kd.R k175 175 w' w.heap.size (fun _ => True) v0_ r ∧ Below w.heap.size w w' := by
 have hu177 := Try.underlying177
 have hu175 := Try.underlying175
 have HR0 := aM_ hr0
 have HC0 := aM_ hc0
 clear hr0 hc0
 have HB := aM_ (Below.refl w.heap.size w)
 have H : (if 0 ≤ (l0.length : Int) then (if ((l0.length : Int) : Int).toNat ≤ 7036874417766 then (laws_toStepS.l0 k l0 (List.replicate ((l0.length : Int) : Int).toNat z175) 0) else (none)) else (none)) = some r := h
 clear h
 by_cases c2 : 0 ≤ (l0.length : Int)
 ·rw [if_pos c2] at H
  have c2b0 := eq_true c2
  have c2b1 : decide (0 ≤ (l0.length : Int)) = true := decide_eq_true c2
  clear c2
  by_cases c3 : ((l0.length : Int) : Int).toNat ≤ 7036874417766
  ·rw [if_pos c3] at H
   have c3b0 := eq_true c3
   have c3b1 : decide (((l0.length : Int) : Int).toNat ≤ 7036874417766) = true := decide_eq_true c3
   clear c3
   obtain ⟨y360,hy360⟩ : ∃ y_ : List (S175),y_ = (List.replicate ((l0.length : Int) : Int).toNat z175) := ⟨_,rfl⟩
   replace H : (laws_toStepS.l0 k l0 y360 0) = some r := by first | (rw [hy360];with_reducible exact H) | (have H2_ := (Option.bind_some _ _).symm.trans H;rw [hy360];with_reducible exact H2_) | (have H2_ := (Option.bind_some _ _).symm.trans H;with_reducible exact H2_) | with_reducible exact H | (rw [hy360];exact H) | exact H
   have Ny360 := aM_ hy360
   clear hy360
   have H' := aM_ H
   clear H
   go_enter Try.func79,Try.ntmps79
   go_wp2_with (first | ((with_reducible refine gate_dst (N := 7) rfl ?_);refine Kd.R_make k175 _ 175 rfl (N := 7) rfl 125 _ _ rfl (l0.length : Int) rfl rfl Try.underlying125 (.agg #[(.int .i64 0),(.int .i64 0),(.int .i64 0),(.int .i64 0),(.int .i64 0)]) 40 info175 rfl (by decide) (by omega) z175 (ok := fun _ => True) (okp := fun _ => True) (k175_mkM _ _ _ z175 ) (fun _ hk => hk) trivial (of_decide_eq_true (by first | (with_reducible assumption) | assumption)) (Nat.le_trans (Nat.mul_le_mul_right _ (of_decide_eq_true (by first | (with_reducible assumption) | assumption) : (l0.length : Int).toNat ≤ 7036874417766)) (by omega)) (Below.refl _ _) (Nat.le_refl _) ?_;intro v361 w4 ho5 hb hg_ hnew_;clear hg_ hnew_;(first | rw [← Ny360.out] at ho5 | (simp only [Int.reduceToNat] at ho5;rw [← Ny360.out] at ho5));have n0 := aM_ (Kd.R_lower ho5 (below_size (gB_ HB.out)));have n1 := aM_ (sT_ HB.out hb);clear HB;have HO362 := n0;have HB := n1;clear n0 n1;clear hb ho5))
   go_loopg [4] k (fun kq v4 w' => ∃ (x3_1 : List (S175)) (x4_1 : Int),v4 = .int .i64 x4_1 ∧ Aside0 (laws_toStepS.l0 kq l0 x3_1 x4_1 = some r) ∧ Aside0 (kq ≤ k) ∧ Aside0 (Kd.R k175 175 w' w.heap.size (fun _ => True) v361 x3_1) ∧ Aside0 (Below w.heap.size w w'))
   case atStart => exact ⟨(y360),(0),(by first | rfl | (simp;done) | (simp [*];done)),H',⟨Nat.le_refl _⟩,⟨by (with_reducible repeat (first | apply rA_ | apply rN_ | apply rD_));exact HO362.out⟩,⟨gW_ HB.out⟩⟩
   case round =>
    clear H'
    try clear c2
    try clear c2b0
    try clear c2b1
    try clear p2
    try clear c3
    try clear c3b0
    try clear c3b1
    obtain ⟨x3_1,x4_1,rfl,HA,HK1,HO_3,HB⟩ := hrel
    cases gk with
    | zero => exact absurd HA.out (by simp [laws_toStepS.l0])
    | succ k1 =>
     have H := HA.out
     clear HA
     simp only [laws_toStepS.l0] at H
     by_cases c6 : x4_1 < (l0.length : Int)
     ·rw [if_pos c6] at H
      have c6b0 : decide (x4_1 < (l0.length : Int)) = true := decide_eq_true c6
      clear c6
      by_cases c7 : 0 ≤ x4_1
      ·rw [if_pos c7] at H
       have c7b0 : decide (0 ≤ x4_1) = true := decide_eq_true c7
       clear c7
       replace H := Option.bind_eq_some_iff.mp H
       obtain ⟨⟨t364,t365,t366,t367,t368⟩,A80,H⟩ := H
       replace H : (if x4_1 < (x3_1.length : Int) then (laws_toStepS.l0 k1 l0 (x3_1.set (x4_1 : Int).toNat (⟨t364,t365,t366,t367,t368⟩ : S175)) (wrap64 (x4_1 + 1))) else (none)) = some r := H
       have A8 := aM_ A80
       clear A80
       by_cases c9 : x4_1 < (x3_1.length : Int)
       ·rw [if_pos c9] at H
        have c9b0 : decide (x4_1 < (x3_1.length : Int)) = true := decide_eq_true c9
        clear c9
        obtain ⟨y369,hy369⟩ : ∃ y_ : List (S175),y_ = (x3_1.set (x4_1 : Int).toNat (⟨t364,t365,t366,t367,t368⟩ : S175)) := ⟨_,rfl⟩
        replace H : (laws_toStepS.l0 k1 l0 y369 (wrap64 (x4_1 + 1))) = some r := by first | (rw [hy369];with_reducible exact H) | (have H2_ := (Option.bind_some _ _).symm.trans H;rw [hy369];with_reducible exact H2_) | (have H2_ := (Option.bind_some _ _).symm.trans H;with_reducible exact H2_) | with_reducible exact H | (rw [hy369];exact H) | exact H
        have Ny369 := aM_ hy369
        clear hy369
        have H' := aM_ H
        clear H
        have p363 : 0 ≤ (x4_1 : Int) := of_decide_eq_true (by first | (with_reducible assumption) | assumption)
        have q363 : x4_1 < (l0.length : Int) := of_decide_eq_true (by first | (with_reducible assumption) | assumption)
        obtain ⟨ad363,e363,hx363_0,hx363_1,hx363_2,hx363_3,hx363_4⟩ := at_T177 HR0.out x4_1 p363 q363
        cases e363
        replace hx363_0 := cB_ HB.out hx363_0
        replace hx363_1 := cB_ HB.out hx363_1
        replace hx363_2 := cB_ HB.out hx363_2
        replace hx363_3 := cB_ HB.out hx363_3
        replace hx363_4 := cB_ HB.out hx363_4
        replace p363 := eq_true p363
        replace q363 := eq_true q363
        go_wp2_with (first | ((with_reducible refine gate_callee (f := 134) rfl ?_);refine gL_ (some 20) Try.func134 #[.agg #[.int .i64 ((rd_T177 l0 x4_1).f0),.int .i64 ((rd_T177 l0 x4_1).f1),.int .i64 ((rd_T177 l0 x4_1).f2),.int .i64 ((rd_T177 l0 x4_1).f3),.int .i64 ((rd_T177 l0 x4_1).f4)]] ?_;(with_reducible refine (laws_toStep.calls ((rd_T177 l0 x4_1).f0) ((rd_T177 l0 x4_1).f1) ((rd_T177 l0 x4_1).f2) ((rd_T177 l0 x4_1).f3) ((rd_T177 l0 x4_1).f4) t364 t365 t366 t367 t368 _ A8.out).mono ?_);rintro e w11 ⟨rfl,hb⟩;refine ⟨_,rfl,?_⟩;have n0 := aM_ (bR_ HO_3.out hb);have n1 := aM_ (sT_ HB.out hb);clear HO_3;clear HB;have HO_3 := n0;have HB := n1;clear n0 n1;have p10 : 0 ≤ (x4_1 : Int) := of_decide_eq_true (by first | (with_reducible assumption) | assumption);have q10 : (x4_1 : Int) < ((x3_1.length : Int) : Int) := of_decide_eq_true (by first | (with_reducible assumption) | assumption);obtain ⟨go10,co10,eo10,gb10,gl10,cl10,HG10⟩ := Kd.R_form HO_3.out (by omega);(first | cases eo10 | (injection eo10 with ea_ en_ ec_;(first | subst ea_ | (injection ea_ with ea_;subst ea_));subst ec_;clear en_));have GB10 := aM_ gb10;have GG10 := aM_ HG10;clear gb10 gl10 HG10;obtain ⟨ce10,hcl10,hM10,hcc10,hfr10⟩ := Kd.R_elem HO_3.out z175 (x4_1 : Int) p10 q10;obtain rfl := k175_openM hM10;have hx10_0 : w11.cell? ⟨go10,(x4_1 : Int).toNat * 5,none⟩ = some (.int .i64 ((rd_T175 x3_1 x4_1).f0)) := hcc10 0 _ rfl;have hx10_1 : w11.cell? ⟨go10,(x4_1 : Int).toNat * 5 + 1,none⟩ = some (.int .i64 ((rd_T175 x3_1 x4_1).f1)) := hcc10 1 _ rfl;have hx10_2 : w11.cell? ⟨go10,(x4_1 : Int).toNat * 5 + 2,none⟩ = some (.int .i64 ((rd_T175 x3_1 x4_1).f2)) := hcc10 2 _ rfl;have hx10_3 : w11.cell? ⟨go10,(x4_1 : Int).toNat * 5 + 3,none⟩ = some (.int .i64 ((rd_T175 x3_1 x4_1).f3)) := hcc10 3 _ rfl;have hx10_4 : w11.cell? ⟨go10,(x4_1 : Int).toNat * 5 + 4,none⟩ = some (.int .i64 ((rd_T175 x3_1 x4_1).f4)) := hcc10 4 _ rfl;have hf10_0 : w11.frozen? ⟨go10,(x4_1 : Int).toNat * 5,none⟩ = false := hfr10 0;have hf10_1 : w11.frozen? ⟨go10,(x4_1 : Int).toNat * 5 + 1,none⟩ = false := hfr10 1;have hf10_2 : w11.frozen? ⟨go10,(x4_1 : Int).toNat * 5 + 2,none⟩ = false := hfr10 2;have hf10_3 : w11.frozen? ⟨go10,(x4_1 : Int).toNat * 5 + 3,none⟩ = false := hfr10 3;have hf10_4 : w11.frozen? ⟨go10,(x4_1 : Int).toNat * 5 + 4,none⟩ = false := hfr10 4;(try clear hcl10);(try clear hcc10);(try clear hfr10);(try clear hM10);replace p10 := eq_true p10;replace q10 := eq_true q10;have HX12 := aM_ (show Kd.R k175 175 w11 w.heap.size (fun _ => True) (.slice (some ⟨go10,0,none⟩) x3_1.length co10) x3_1 from (by (with_reducible repeat (first | apply rA_ | apply rN_ | apply rD_));exact HO_3.out));obtain ⟨ce12,hcl12,hM12,hcc12,hfr12⟩ := Kd.R_elem HX12.out z175 (x4_1 : Int) (of_decide_eq_true (by first | (with_reducible assumption) | assumption)) (by have h_ : (x4_1 : Int) < ((x3_1.length : Int) : Int) := of_decide_eq_true (by first | (with_reducible assumption) | assumption);first | exact h_ | (have e_ := (Kd.R_reads' HO_3.out).1;omega) | simpa using h_);obtain rfl := k175_openM hM12;have HP12 := Kd.R_seg HX12.out (x4_1 : Int) (of_decide_eq_true (by first | (with_reducible assumption) | assumption)) (by have h_ : (x4_1 : Int) < ((x3_1.length : Int) : Int) := of_decide_eq_true (by first | (with_reducible assumption) | assumption);first | exact h_ | (have e_ := (Kd.R_reads' HO_3.out).1;omega) | simpa using h_) (seg := [.int .i64 t364,.int .i64 t365,.int .i64 t366,.int .i64 t367,.int .i64 t368]) (j := 0) hcl12 hcc12 (show 5 ≤ 5 from by decide) (x' := (⟨t364,t365,t366,t367,t368⟩ : S175)) (k175_mkM _ _ _ (⟨t364,t365,t366,t367,t368⟩ : S175) ) (fun _ hk => hk);have hx12_0 := hcc12 0 _ rfl;(try simp only [show (k175).sz = 5 from rfl,Nat.mul_one,Nat.add_zero] at hx12_0);have hf12_0 := hfr12 0;(try simp only [show (k175).sz = 5 from rfl,Nat.mul_one,Nat.add_zero] at hf12_0);have hx12_1 := hcc12 1 _ rfl;(try simp only [show (k175).sz = 5 from rfl,Nat.mul_one,Nat.add_zero] at hx12_1);have hf12_1 := hfr12 1;(try simp only [show (k175).sz = 5 from rfl,Nat.mul_one,Nat.add_zero] at hf12_1);have hx12_2 := hcc12 2 _ rfl;(try simp only [show (k175).sz = 5 from rfl,Nat.mul_one,Nat.add_zero] at hx12_2);have hf12_2 := hfr12 2;(try simp only [show (k175).sz = 5 from rfl,Nat.mul_one,Nat.add_zero] at hf12_2);have hx12_3 := hcc12 3 _ rfl;(try simp only [show (k175).sz = 5 from rfl,Nat.mul_one,Nat.add_zero] at hx12_3);have hf12_3 := hfr12 3;(try simp only [show (k175).sz = 5 from rfl,Nat.mul_one,Nat.add_zero] at hf12_3);have hx12_4 := hcc12 4 _ rfl;(try simp only [show (k175).sz = 5 from rfl,Nat.mul_one,Nat.add_zero] at hx12_4);have hf12_4 := hfr12 4;(try simp only [show (k175).sz = 5 from rfl,Nat.mul_one,Nat.add_zero] at hf12_4);(try clear hcl12);(try clear hcc12);(try clear hfr12);(try clear hM12)) | ((with_reducible refine gate_store (t := 175) (p := 21) rfl ?_);refine store_event (t := 175) (p := 21) (v := ?vo_w13) (w1 := (((((w11.setCell ⟨go10,(x4_1 : Int).toNat * 5,none⟩ (.int .i64 t364)).setCell ⟨go10,(x4_1 : Int).toNat * 5 + 1,none⟩ (.int .i64 t365)).setCell ⟨go10,(x4_1 : Int).toNat * 5 + 2,none⟩ (.int .i64 t366)).setCell ⟨go10,(x4_1 : Int).toNat * 5 + 3,none⟩ (.int .i64 t367)).setCell ⟨go10,(x4_1 : Int).toNat * 5 + 4,none⟩ (.int .i64 t368))) ?hg ?ho ?hn ?hr ?_;(case ho => rfl);(case hg => rfl);(case hn => rfl);(case hr => first | (go_simp;done) | (go_simp;rfl));intro w13 hw;have hg : w11.grownBy w13 (some go10) := (by rw [hw];exact HP12.2);have hp_ : Kd.R k175 175 w13 w.heap.size (fun _ => True) (.slice (some ⟨go10,0,none⟩) x3_1.length co10) y369 := (by rw [hw,Ny369.out];exact HP12.1);clear HP12;have n0 := aM_ (hp_);have n1 := aM_ ((by rw [hw];exact below_set (below_set (below_set (below_set (below_set (HB.out) GB10.out) GB10.out) GB10.out) GB10.out) GB10.out : Below w.heap.size w w13));clear HO_3;clear HB;have HO_3 := n0;have HB := n1;clear n0 n1;clear hg hw hp_))
        go_roundg k1
        case measure => have := HK1.out;omega
        case rel => exact ⟨(y369),(wrap64 (x4_1 + 1)),(by first | rfl | (simp;done) | (simp [*];done)),H',⟨by have := HK1.out;omega⟩,⟨by (with_reducible repeat (first | apply rA_ | apply rN_ | apply rD_));exact HO_3.out⟩,⟨gW_ HB.out⟩⟩
       ·rw [if_neg c9] at H
        exact absurd H (by simp)
      ·rw [if_neg c7] at H
       exact absurd H (by simp)
     ·rw [if_neg c6] at H
      have c6b0 : decide (x4_1 < (l0.length : Int)) = false := decide_eq_false c6
      clear c6
      obtain rfl := Option.some.inj H
      go_wp2
      go_ret
      exact ⟨_,fR_,by (with_reducible repeat (first | apply rA_ | apply rN_ | apply rD_));exact HO_3.out,gB_ HB.out⟩
  ·rw [if_neg c3] at H
   exact absurd H (by simp)
 ·rw [if_neg c2] at H
  exact absurd H (by simp)
end Go.Proofs.Ytobachfngmpeiaa.PFnExactChanSame
