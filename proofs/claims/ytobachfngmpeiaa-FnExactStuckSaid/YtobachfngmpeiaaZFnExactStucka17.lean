/- A part of the proof that the law FnExactStuck holds for every input. -/
import Derived.Test.YtobachfngmpeiaaZFnExactStucka16
import Derived.Test.YtobachfngmpeiaaZFnExactStucks
namespace Go.Proofs.Ytobachfngmpeiaa.PFnExactStuck
open Go.RowKit Go.Proofs.YtobachfngmpeiaaW.PrintWords Go.Proofs.YtobachfngmpeiaaW.PrintLast Go.Proofs.YtobachfngmpeiaaW.PrintMore
attribute [local go_sem] max2_int min2_int max_two min_two max_three min_three max_four min_four   -- for this text's walks alone
set_option linter.unusedVariables false
set_option linter.unusedSimpArgs false
mutual
def spec_Stuck.j0 : Nat → Bool → List (S107) → List (S94) → List (S35) → Option (Bool)
  | 0,_,_,_,_ => none
  | k + 1,x16,x321000,x321001,x321002 => if x16 = true then (some false) else (spec_Stuck.l0 k 0 x321000 x321001 x321002)
def spec_Stuck.l0 : Nat → Int → List (S107) → List (S94) → List (S35) → Option (Bool)
  | 0,_,_,_,_ => none
  | k + 1,x5,x321000,x321001,x321002 => if x5 < (x321000.length : Int) then (if 0 ≤ x5 then (if ((rd_T107 x321000 x5).f2) = 0 then (some true) else (spec_Stuck.l0 k (wrap64 (x5 + 1)) x321000 x321001 x321002)) else (none)) else (some false)
end
def spec_Stuck.f (k : Nat) (l0_0 : List Int) (l0_1 : List (List (S192))) (l1_0 : List (S107)) (l1_1 : List (S94)) (l1_2 : List (S35)) : Option (Bool) := (spec_SourceOk.f k l0_0 l0_1 l1_0 l1_1 l1_2).bind fun t321 => (if t321 = true then ((spec_Able.f k l0_0 l0_1 l1_0 l1_1 l1_2).bind fun t322 => (spec_Stuck.j0 k (decide ((t322.length : Int) > 0)) l1_0 l1_1 l1_2)) else (spec_Stuck.j0 k true l1_0 l1_1 l1_2))
set_option maxHeartbeats 8000000 in
set_option maxRecDepth 100000 in
theorem spec_Stuck.calls (k : Nat) (A0_0 : Option Addr) (c0_0 : Nat) (l0_0 : List Int) (A0_1 : Option Addr) (c0_1 : Nat) (l0_1 : List (List (S192))) (A1_0 : Option Addr) (c1_0 : Nat) (l1_0 : List (S107)) (A1_1 : Option Addr) (c1_1 : Nat) (l1_1 : List (S94)) (A1_2 : Option Addr) (c1_2 : Nat) (l1_2 : List (S35)) (r : Bool) (w : World) (hr0_0 : Kd.C (Kd.int .i64) w A0_0 l0_0.length l0_0) (hc0_0 : l0_0.length ≤ c0_0) (hr0_1 : Kd.C (Kd.slice 192 k192) w A0_1 l0_1.length l0_1) (hc0_1 : l0_1.length ≤ c0_1) (hr1_0 : Kd.C k107 w A1_0 l1_0.length l1_0) (hc1_0 : l1_0.length ≤ c1_0) (hr1_1 : Kd.C k94 w A1_1 l1_1.length l1_1) (hc1_1 : l1_1.length ≤ c1_1) (hr1_2 : Kd.C k35 w A1_2 l1_2.length l1_2) (hc1_2 : l1_2.length ≤ c1_2) (h : spec_Stuck.f k l0_0 l0_1 l1_0 l1_1 l1_2 = some r) :
  Calls Try.prog 34 #[.agg #[.slice A0_0 l0_0.length c0_0,.slice A0_1 l0_1.length c0_1],.agg #[.slice A1_0 l1_0.length c1_0,.slice A1_1 l1_1.length c1_1,.slice A1_2 l1_2.length c1_2]] w fun e w' => e = .returned (.bool r) ∧ Below w.heap.size w w' := by
 have hu44 := Try.underlying44
 have hu28 := Try.underlying28
 have HR0_0 := aM_ hr0_0
 have HC0_0 := aM_ hc0_0
 clear hr0_0 hc0_0
 have HR0_1 := aM_ hr0_1
 have HC0_1 := aM_ hc0_1
 clear hr0_1 hc0_1
 have HR1_0 := aM_ hr1_0
 have HC1_0 := aM_ hc1_0
 clear hr1_0 hc1_0
 have HR1_1 := aM_ hr1_1
 have HC1_1 := aM_ hc1_1
 clear hr1_1 hc1_1
 have HR1_2 := aM_ hr1_2
 have HC1_2 := aM_ hc1_2
 clear hr1_2 hc1_2
 have HB := aM_ (Below.refl w.heap.size w)
 have H : ((spec_SourceOk.f k l0_0 l0_1 l1_0 l1_1 l1_2).bind fun t321 => (if t321 = true then ((spec_Able.f k l0_0 l0_1 l1_0 l1_1 l1_2).bind fun t322 => (spec_Stuck.j0 k (decide ((t322.length : Int) > 0)) l1_0 l1_1 l1_2)) else (spec_Stuck.j0 k true l1_0 l1_1 l1_2))) = some r := h
 clear h
 have HC3 := aM_ H
 clear H
 go_enter Try.func34,Try.ntmps34
 go_upto_region 1 with (first | ((with_reducible refine gate_dst (N := 2) rfl ?_);(try (refine gate_guard (by rfl) ?_;dsimp only));refine bX_ 2 (cs := #[.slice A0_0 l0_0.length c0_0,.slice A0_1 l0_1.length c0_1]) (t := 44) ?_;intro gb319 hg w4 hbox hb;have BK319 := aM_ (hbox);have GE319 := aM_ (sZ_ hg HB.out);replace HB := aM_ (sT_ HB.out hb);clear hb hbox hg) | ((with_reducible refine gate_dst (N := 3) rfl ?_);(try (refine gate_guard (by rfl) ?_;dsimp only));refine bX_ 3 (cs := #[.slice A1_0 l1_0.length c1_0,.slice A1_1 l1_1.length c1_1,.slice A1_2 l1_2.length c1_2]) (t := 28) ?_;intro gb320 hg w5 hbox hb;have BK320 := aM_ (hbox);have GE320 := aM_ (sZ_ hg HB.out);have NB319_320 := aM_ (nL_ hg BK319.out);have NB320_319 := aM_ (nG_ hg BK319.out);replace BK319 := aM_ (nB_ BK319.out hb);replace HB := aM_ (sT_ HB.out hb);clear hb hbox hg))
 (try simp only [Act.put,List.setIfInBounds_toArray,List.set_cons_zero,List.set_cons_succ])
 go_cut [16] (fun v16 wc => ∃ (kq : Nat) (x16_2 : Bool),v16 = .bool x16_2 ∧ Aside0 (spec_Stuck.j0 kq x16_2 l1_0 l1_1 l1_2 = some r) ∧ Aside0 (kq ≤ k) ∧ Aside0 (wc.heap[gb319]? = some (.cells #[(.slice A0_0 l0_0.length c0_0),(.slice A0_1 l0_1.length c0_1)] 44 (0,0))) ∧ Aside0 (wc.heap[gb320]? = some (.cells #[(.slice A1_0 l1_0.length c1_0),(.slice A1_1 l1_1.length c1_1),(.slice A1_2 l1_2.length c1_2)] 28 (0,0))) ∧ Aside0 (Below w.heap.size w wc))
 case first =>
  have H := HC3.out
  clear HC3
  replace H := Option.bind_eq_some_iff.mp H
  obtain ⟨t321,A60,H⟩ := H
  replace H : (if t321 = true then ((spec_Able.f k l0_0 l0_1 l1_0 l1_1 l1_2).bind fun t322 => (spec_Stuck.j0 k (decide ((t322.length : Int) > 0)) l1_0 l1_1 l1_2)) else (spec_Stuck.j0 k true l1_0 l1_1 l1_2)) = some r := H
  have A6 := aM_ A60
  clear A60
  by_cases c7 : t321 = true
  ·subst c7
   have H1 : ((spec_Able.f k l0_0 l0_1 l1_0 l1_1 l1_2).bind fun t322 => (spec_Stuck.j0 k (decide ((t322.length : Int) > 0)) l1_0 l1_1 l1_2)) = some r := by rw [if_pos rfl] at H;exact H
   clear H
   have H := H1
   clear H1
   replace H := Option.bind_eq_some_iff.mp H
   obtain ⟨t322,A80,H⟩ := H
   replace H : (spec_Stuck.j0 k (decide ((t322.length : Int) > 0)) l1_0 l1_1 l1_2) = some r := H
   have A8 := aM_ A80
   clear A80
   have H' := aM_ H
   clear H
   have hnb9 := NB319_320.out
   have hnc9 := NB320_319.out
   have z_10 := bR2_ BK319.out
   have z_11 := bR3_ BK320.out
   go_wp2_with (first | ((with_reducible refine gate_callee (f := 94) rfl ?_);refine gL_ (some 8) Try.func94 #[.agg #[.slice A0_0 l0_0.length c0_0,.slice A0_1 l0_1.length c0_1],.agg #[.slice A1_0 l1_0.length c1_0,.slice A1_1 l1_1.length c1_1,.slice A1_2 l1_2.length c1_2]] ?_;(with_reducible refine (spec_SourceOk.calls k _ _ l0_0 _ _ l0_1 _ _ l1_0 _ _ l1_1 _ _ l1_2 true _ ?side1 ?side2 ?side3 ?side4 ?side5 ?side6 ?side7 ?side8 ?side9 ?side10 A6.out).mono ?_);(case side1 => exact cS_ (Kd.C_below HR0_0.out HB.out));(case side2 => exact HC0_0.out);(case side3 => exact cS_ (Kd.C_below HR0_1.out HB.out));(case side4 => exact HC0_1.out);(case side5 => exact cS_ (Kd.C_below HR1_0.out HB.out));(case side6 => exact HC1_0.out);(case side7 => exact cS_ (Kd.C_below HR1_1.out HB.out));(case side8 => exact HC1_1.out);(case side9 => exact cS_ (Kd.C_below HR1_2.out HB.out));(case side10 => exact HC1_2.out);rintro e w12 ⟨rfl,hb⟩;refine ⟨_,rfl,?_⟩;replace BK319 := aM_ (nB_ BK319.out hb);replace BK320 := aM_ (nB_ BK320.out hb);replace HB := aM_ (sT_ HB.out hb);have z_13 := bR2_ BK319.out;have z_14 := bR3_ BK320.out) | (go_at_call 37;(with_reducible refine (spec_Able.calls k _ _ l0_0 _ _ l0_1 _ _ l1_0 _ _ l1_1 _ _ l1_2 t322 _ ?side1 ?side2 ?side3 ?side4 ?side5 ?side6 ?side7 ?side8 ?side9 ?side10 A8.out).mono ?_);(case side1 => exact cS_ (Kd.C_below HR0_0.out HB.out));(case side2 => exact HC0_0.out);(case side3 => exact cS_ (Kd.C_below HR0_1.out HB.out));(case side4 => exact HC0_1.out);(case side5 => exact cS_ (Kd.C_below HR1_0.out HB.out));(case side6 => exact HC1_0.out);(case side7 => exact cS_ (Kd.C_below HR1_1.out HB.out));(case side8 => exact HC1_1.out);(case side9 => exact cS_ (Kd.C_below HR1_2.out HB.out));(case side10 => exact HC1_2.out);rintro e w15 ⟨v323,rfl,ho0,hb⟩;have HO324 := aM_ (Kd.R_lower ho0 (below_size (gB_ HB.out)));replace BK319 := aM_ (nB_ BK319.out hb);replace BK320 := aM_ (nB_ BK320.out hb);replace HB := aM_ (sT_ HB.out hb);(try clear ho0);obtain ⟨Ao16,co16,eo16⟩ := Kd.R_slice HO324.out;subst eo16))
   go_meet
   case rel => exact ⟨_,(decide ((t322.length : Int) > 0)),(by first | rfl | (simp;done) | (simp [*];done)),H',⟨by first | omega | exact Nat.le_refl _⟩,⟨rW_ BK319.out⟩,⟨rW_ BK320.out⟩,⟨gW_ HB.out⟩⟩
  ·replace c7 := Bool.eq_false_iff.mpr c7
   subst c7
   have H1 : (spec_Stuck.j0 k true l1_0 l1_1 l1_2) = some r := by rw [if_neg (show ¬ (false = true) by decide)] at H;exact H
   clear H
   have H := H1
   clear H1
   have H' := aM_ H
   clear H
   have hnb17 := NB319_320.out
   have hnc17 := NB320_319.out
   have z_18 := bR2_ BK319.out
   have z_19 := bR3_ BK320.out
   go_wp2_with (first | ((with_reducible refine gate_callee (f := 94) rfl ?_);refine gL_ (some 8) Try.func94 #[.agg #[.slice A0_0 l0_0.length c0_0,.slice A0_1 l0_1.length c0_1],.agg #[.slice A1_0 l1_0.length c1_0,.slice A1_1 l1_1.length c1_1,.slice A1_2 l1_2.length c1_2]] ?_;(with_reducible refine (spec_SourceOk.calls k _ _ l0_0 _ _ l0_1 _ _ l1_0 _ _ l1_1 _ _ l1_2 false _ ?side1 ?side2 ?side3 ?side4 ?side5 ?side6 ?side7 ?side8 ?side9 ?side10 A6.out).mono ?_);(case side1 => exact cS_ (Kd.C_below HR0_0.out HB.out));(case side2 => exact HC0_0.out);(case side3 => exact cS_ (Kd.C_below HR0_1.out HB.out));(case side4 => exact HC0_1.out);(case side5 => exact cS_ (Kd.C_below HR1_0.out HB.out));(case side6 => exact HC1_0.out);(case side7 => exact cS_ (Kd.C_below HR1_1.out HB.out));(case side8 => exact HC1_1.out);(case side9 => exact cS_ (Kd.C_below HR1_2.out HB.out));(case side10 => exact HC1_2.out);rintro e w20 ⟨rfl,hb⟩;refine ⟨_,rfl,?_⟩;replace BK319 := aM_ (nB_ BK319.out hb);replace BK320 := aM_ (nB_ BK320.out hb);replace HB := aM_ (sT_ HB.out hb)))
   go_meet
   case rel => exact ⟨_,(true),(by first | rfl | (simp;done) | (simp [*];done)),H',⟨by first | omega | exact Nat.le_refl _⟩,⟨rW_ BK319.out⟩,⟨rW_ BK320.out⟩,⟨gW_ HB.out⟩⟩
 case rest =>
  clear HC3
  try clear c1
  try clear p2
  try clear c3
  try clear c7
  try clear c9
  try clear c17
  try clear z_10
  try clear z_11
  try clear z_13
  try clear z_14
  try clear z_18
  try clear z_19
  obtain ⟨kq,x16_2,rfl,HA,HJ2,BK319,BK320,HB⟩ := hcut
  cases kq with
  | zero => exact absurd HA.out (by simp [spec_Stuck.j0])
  | succ kj2 =>
   have H := HA.out
   clear HA
   simp only [spec_Stuck.j0] at H
   by_cases c21 : x16_2 = true
   ·subst c21
    have H1 : (some false) = some r := by rw [if_pos rfl] at H;exact H
    clear H
    have H := H1
    clear H1
    obtain rfl := Option.some.inj H
    go_wp2
    go_ret
    exact fI_ HB.out
   ·replace c21 := Bool.eq_false_iff.mpr c21
    subst c21
    have H1 : (spec_Stuck.l0 kj2 0 l1_0 l1_1 l1_2) = some r := by rw [if_neg (show ¬ (false = true) by decide)] at H;exact H
    clear H
    have H := H1
    clear H1
    have H' := aM_ H
    clear H
    go_wp2
    go_loopg [5] kj2 (fun kq v5 w' => ∃ (x5_2 : Int),v5 = .int .i64 x5_2 ∧ Aside0 (spec_Stuck.l0 kq x5_2 l1_0 l1_1 l1_2 = some r) ∧ Aside0 (kq ≤ kj2) ∧ Aside0 (w'.heap[gb319]? = some (.cells #[(.slice A0_0 l0_0.length c0_0),(.slice A0_1 l0_1.length c0_1)] 44 (0,0))) ∧ Aside0 (w'.heap[gb320]? = some (.cells #[(.slice A1_0 l1_0.length c1_0),(.slice A1_1 l1_1.length c1_1),(.slice A1_2 l1_2.length c1_2)] 28 (0,0))) ∧ Aside0 (Below w.heap.size w w'))
    case atStart => exact ⟨(0),(by first | rfl | (simp;done) | (simp [*];done)),H',⟨Nat.le_refl _⟩,⟨rW_ BK319.out⟩,⟨rW_ BK320.out⟩,⟨gW_ HB.out⟩⟩
    case round =>
     clear H'
     try clear c1
     try clear c2
     try clear p2
     try clear c3
     try clear c7
     try clear c9
     try clear c17
     try clear c21
     try clear z_10
     try clear z_11
     try clear z_13
     try clear z_14
     try clear z_18
     try clear z_19
     try clear p2
     obtain ⟨x5_2,rfl,HA,HK2,BK319,BK320,HB⟩ := hrel
     cases gk with
     | zero => exact absurd HA.out (by simp [spec_Stuck.l0])
     | succ k2 =>
      have H := HA.out
      clear HA
      simp only [spec_Stuck.l0] at H
      by_cases c22 : x5_2 < (l1_0.length : Int)
      ·rw [if_pos c22] at H
       have c22b0 : decide (x5_2 < (l1_0.length : Int)) = true := decide_eq_true c22
       clear c22
       by_cases c23 : 0 ≤ x5_2
       ·rw [if_pos c23] at H
        have c23b0 : decide (0 ≤ x5_2) = true := decide_eq_true c23
        clear c23
        by_cases c24 : ((rd_T107 l1_0 x5_2).f2) = 0
        ·rw [if_pos c24] at H
         have c24b0 : (((rd_T107 l1_0 x5_2).f2) == 0) = true := beq_iff_eq.mpr c24
         have c24b1 : (((rd_T107 l1_0 x5_2).f2) != 0) = false := bne_eq_false_iff_eq.mpr c24
         clear c24
         obtain rfl := Option.some.inj H
         have hnb25 := NB320_319.out
         have hnc25 := NB319_320.out
         have z_26 := bR3_ BK320.out
         have p325 : 0 ≤ (x5_2 : Int) := of_decide_eq_true (by first | (with_reducible assumption) | assumption)
         have q325 : x5_2 < (l1_0.length : Int) := of_decide_eq_true (by first | (with_reducible assumption) | assumption)
         obtain ⟨ad325,A325_1,c325_1,e325,hx325_0,hx325_1,hx325_2,hl325_1,hi325_1⟩ := at_T107 HR1_0.out x5_2 p325 q325
         cases e325
         replace hx325_0 := cB_ HB.out hx325_0
         replace hx325_1 := cB_ HB.out hx325_1
         replace hx325_2 := cB_ HB.out hx325_2
         have HR325_1 := aM_ hi325_1
         have HC325_1 := aM_ hl325_1
         clear hi325_1 hl325_1
         replace p325 := eq_true p325
         replace q325 := eq_true q325
         go_wp2
         go_ret
         exact fI_ HB.out
        ·rw [if_neg c24] at H
         have c24b0 : (((rd_T107 l1_0 x5_2).f2) == 0) = false := beq_eq_false_iff_ne.mpr c24
         have c24b1 : (((rd_T107 l1_0 x5_2).f2) != 0) = true := bne_iff_ne.mpr c24
         have H' := aM_ H
         clear H
         have hnb27 := NB320_319.out
         have hnc27 := NB319_320.out
         have z_28 := bR3_ BK320.out
         have p325 : 0 ≤ (x5_2 : Int) := of_decide_eq_true (by first | (with_reducible assumption) | assumption)
         have q325 : x5_2 < (l1_0.length : Int) := of_decide_eq_true (by first | (with_reducible assumption) | assumption)
         obtain ⟨ad325,A325_1,c325_1,e325,hx325_0,hx325_1,hx325_2,hl325_1,hi325_1⟩ := at_T107 HR1_0.out x5_2 p325 q325
         cases e325
         replace hx325_0 := cB_ HB.out hx325_0
         replace hx325_1 := cB_ HB.out hx325_1
         replace hx325_2 := cB_ HB.out hx325_2
         have HR325_1 := aM_ hi325_1
         have HC325_1 := aM_ hl325_1
         clear hi325_1 hl325_1
         replace p325 := eq_true p325
         replace q325 := eq_true q325
         go_wp2
         go_roundg k2
         case measure => have := HJ2.out;have := HK2.out;omega
         case rel => exact ⟨(wrap64 (x5_2 + 1)),(by first | rfl | (simp;done) | (simp [*];done)),H',⟨by have := HJ2.out;have := HK2.out;omega⟩,⟨rW_ BK319.out⟩,⟨rW_ BK320.out⟩,⟨gW_ HB.out⟩⟩
       ·rw [if_neg c23] at H
        exact absurd H (by simp)
      ·rw [if_neg c22] at H
       have c22b0 : decide (x5_2 < (l1_0.length : Int)) = false := decide_eq_false c22
       clear c22
       obtain rfl := Option.some.inj H
       have hnb29 := NB320_319.out
       have hnc29 := NB319_320.out
       have z_30 := bR3_ BK320.out
       go_wp2
       go_ret
       exact fI_ HB.out
def laws_toThread.f (k : Nat) (a0_0 : Int) (l0_1 : List Int) (a0_2 : Int) : Option (Int × List Int × Int) := (laws_toIntS.f k l0_1).bind fun t329 => (some (a0_0,t329,a0_2))
set_option maxHeartbeats 8000000 in
set_option maxRecDepth 100000 in
theorem laws_toThread.calls (k : Nat) (a0_0 : Int) (A0_1 : Option Addr) (c0_1 : Nat) (l0_1 : List Int) (a0_2 : Int) (r1 : Int) (r2 : List Int) (r3 : Int) (w : World) (hr0_1 : Kd.C (Kd.int .i64) w A0_1 l0_1.length l0_1) (hc0_1 : l0_1.length ≤ c0_1) (h : laws_toThread.f k a0_0 l0_1 a0_2 = some (r1,r2,r3)) :
  Calls Try.prog 147 #[.agg #[.int .i64 a0_0,.slice A0_1 l0_1.length c0_1,.int .i64 a0_2]] w fun e w' => ∃ v1_ : Value,e = .returned (.agg #[.int .i64 r1,v1_,.int .i64 r3]) ∧ Kd.R (Kd.int .i64) 3 w' w.heap.size (fun _ => True) v1_ r2 ∧ Below w.heap.size w w' := by
 have hu184 := Try.underlying184
 have hu107 := Try.underlying107
 have HR0_1 := aM_ hr0_1
 have HC0_1 := aM_ hc0_1
 clear hr0_1 hc0_1
 have HB := aM_ (Below.refl w.heap.size w)
 have H : ((laws_toIntS.f k l0_1).bind fun t329 => (some (a0_0,t329,a0_2))) = some (r1,r2,r3) := h
 clear h
 replace H := Option.bind_eq_some_iff.mp H
 obtain ⟨t329,A20,H⟩ := H
 replace H : (some (a0_0,t329,a0_2)) = some (r1,r2,r3) := H
 have A2 := aM_ A20
 clear A20
 simp only [Option.some.injEq,Prod.mk.injEq] at H
 obtain ⟨rfl,rfl,rfl⟩ := H
 go_enter Try.func147,Try.ntmps147
 go_wp2_with (first | ((with_reducible refine gate_dst (N := 1) rfl ?_);refine bX_ 1 (cs := #[.int .i64 a0_0,.slice A0_1 l0_1.length c0_1,.int .i64 a0_2]) (t := 184) ?_;intro gb326 hg w3 hbox hb;have BK326 := aM_ (hbox);have GE326 := aM_ (sZ_ hg HB.out);replace HB := aM_ (sT_ HB.out hb);clear hb hbox hg) | ((with_reducible refine gate_dst (N := 2) rfl ?_);refine bX_ 2 (cs := #[.int .i64 0,.slice none 0 0,.int .i64 0]) (t := 107) ?_;intro gb327 hg w4 hbox hb;have BK327 := aM_ (hbox);have GE327 := aM_ (sZ_ hg HB.out);have NB326_327 := aM_ (nL_ hg BK326.out);have NB327_326 := aM_ (nG_ hg BK326.out);replace BK326 := aM_ (nB_ BK326.out hb);replace HB := aM_ (sT_ HB.out hb);clear hb hbox hg) | ((with_reducible refine gate_dst (N := 3) rfl ?_);refine bX_ 3 (cs := #[.int .i64 0,.slice none 0 0,.int .i64 0]) (t := 107) ?_;intro gb328 hg w5 hbox hb;have BK328 := aM_ (hbox);have GE328 := aM_ (sZ_ hg HB.out);have NB326_328 := aM_ (nL_ hg BK326.out);have NB328_326 := aM_ (nG_ hg BK326.out);have NB327_328 := aM_ (nL_ hg BK327.out);have NB328_327 := aM_ (nG_ hg BK327.out);replace BK326 := aM_ (nB_ BK326.out hb);replace BK327 := aM_ (nB_ BK327.out hb);replace HB := aM_ (sT_ HB.out hb);clear hb hbox hg;have hnb6 := NB326_327.out;have hnc6 := NB327_326.out;have hnb7 := NB326_328.out;have hnc7 := NB328_326.out;have z_8 := bR3_ BK326.out;have hnb9 := NB328_327.out;have hnc9 := NB327_328.out;have z_10 := bR3_ BK328.out) | ((with_reducible refine gate_callee (f := 61) rfl ?_);refine gL_ (some 9) Try.func61 #[.slice A0_1 l0_1.length c0_1] ?_;(with_reducible refine (laws_toIntS.calls k _ _ l0_1 t329 _ ?side1 ?side2 A2.out).mono ?_);(case side1 => exact Kd.C_below HR0_1.out (gB_ HB.out));(case side2 => exact HC0_1.out);rintro e w11 ⟨v330,rfl,ho0,hb⟩;refine ⟨_,rfl,?_⟩;have HO331 := aM_ (Kd.R_lower ho0 (below_size (gB_ HB.out)));replace BK326 := aM_ (nBf_ BK326.out hb);replace BK327 := aM_ (nBf_ BK327.out hb);replace BK328 := aM_ (blk_below (g := gb328) (o := .cells #[.int .i64 a0_0,.slice none 0 0,.int .i64 0] 107 (0,0)) (by (with_reducible repeat (first | refine bN_ ?_ _ | refine bD_ ?_ | refine bA_ ?_ _));refine blk_put (cs := #[.int .i64 0,.slice none 0 0,.int .i64 0]) ?_ 0 _ rfl;exact rW_ BK328.out) hb);replace HB := aM_ (sT_ HB.out hb);(try clear ho0);obtain ⟨Ao12,co12,eo12⟩ := Kd.R_slice HO331.out;subst eo12;have z_13 := bR3_ BK328.out;have z_14 := bR3_ BK326.out;have z_15 := bR3_ BK327.out))
 refine bodyPost_ret (results_cell_row rfl _ _ gb327 107 #[.int .i64 a0_0,.slice Ao12 t329.length co12,.int .i64 a0_2] (0,0) _ rfl (by (with_reducible repeat (first | refine bN_ ?_ _ | refine bD_ ?_ | refine bA_ ?_ _));refine blk_put (cs := #[.int .i64 a0_0,.slice Ao12 t329.length co12,.int .i64 0]) ?_ 2 _ rfl;refine blk_put (cs := #[.int .i64 a0_0,.slice none 0 0,.int .i64 0]) ?_ 1 _ rfl;refine blk_put (cs := #[.int .i64 0,.slice none 0 0,.int .i64 0]) ?_ 0 _ rfl;exact rWf_ BK327.out) Try.underlying107 rfl (by kernel_rfl)) rfl ?_
 exact ⟨_,fR_,by (with_reducible repeat (first | apply rA_ | apply rN_ | apply rD_));exact Kd.R_mono (Kd.R_far (p := ⟨gb327,2,none⟩) (Kd.R_far (p := ⟨gb327,1,none⟩) (Kd.R_far (p := ⟨gb327,0,none⟩) (Kd.R_far (p := ⟨gb328,2,none⟩) (Kd.R_far (p := ⟨gb328,1,none⟩) (Kd.R_types (Kd.R_types HO331.out BK328.out (by decide)) BK327.out (by decide)) (fun _ hk => hk.1.2) (.slice Ao12 t329.length co12)) (fun _ hk => hk.1.2) (.int .i64 a0_2)) (fun _ hk => hk.2) (.int .i64 a0_0)) (fun _ hk => hk.2) (.slice Ao12 t329.length co12)) (fun _ hk => hk.2) (.int .i64 a0_2)) (fun _ hk => trivial),gB_ HB.out⟩
def laws_toThreadS.l0 : Nat → List (S184) → List (S107) → Int → Option ((List (S107)))
  | 0,_,_,_ => none
  | k + 1,x0,x3,x4 => if x4 < (x0.length : Int) then (if 0 ≤ x4 then ((laws_toThread.f k ((rd_T184 x0 x4).f0) ((rd_T184 x0 x4).f1) ((rd_T184 x0 x4).f2)).bind fun bt336 => (if x4 < (x3.length : Int) then (laws_toThreadS.l0 k x0 (x3.set (x4 : Int).toNat (⟨bt336.1,bt336.2.1,bt336.2.2⟩ : S107)) (wrap64 (x4 + 1))) else (none))) else (none)) else (some x3)
def laws_toThreadS.f (k : Nat) (l0 : List (S184)) : Option ((List (S107))) := if 0 ≤ (l0.length : Int) then (if ((l0.length : Int) : Int).toNat ≤ 7036874417766 then (laws_toThreadS.l0 k l0 (List.replicate ((l0.length : Int) : Int).toNat z107) 0) else (none)) else (none)
set_option maxHeartbeats 8000000 in
set_option maxRecDepth 100000 in
theorem laws_toThreadS.calls (k : Nat) (A0 : Option Addr) (c0 : Nat) (l0 : List (S184)) (r : List (S107)) (w : World) (hr0 : Kd.C k184 w A0 l0.length l0) (hc0 : l0.length ≤ c0) (h : laws_toThreadS.f k l0 = some r) :
  Calls Try.prog 95 #[.slice A0 l0.length c0] w fun e w' => ∃ v0_ : Value,e = .returned (v0_) ∧ Kd.S k107 107 w' w.heap.size (fun _ => True) v0_ r ∧ Below w.heap.size w w' := by
 have hu184 := Try.underlying184
 have hu107 := Try.underlying107
 have HR0 := aM_ hr0
 have HC0 := aM_ hc0
 clear hr0 hc0
 have HB := aM_ (Below.refl w.heap.size w)
 have H : (if 0 ≤ (l0.length : Int) then (if ((l0.length : Int) : Int).toNat ≤ 7036874417766 then (laws_toThreadS.l0 k l0 (List.replicate ((l0.length : Int) : Int).toNat z107) 0) else (none)) else (none)) = some r := h
 clear h
 by_cases c2 : 0 ≤ (l0.length : Int)
 ·rw [if_pos c2] at H
  have c2b0 := eq_true c2
  have c2b1 : decide (0 ≤ (l0.length : Int)) = true := decide_eq_true c2
  clear c2
  by_cases c3 : ((l0.length : Int) : Int).toNat ≤ 7036874417766
  ·rw [if_pos c3] at H
   have c3b0 := eq_true c3
   have c3b1 : decide (((l0.length : Int) : Int).toNat ≤ 7036874417766) = true := decide_eq_true c3
   clear c3
   obtain ⟨y332,hy332⟩ : ∃ y_ : List (S107),y_ = (List.replicate ((l0.length : Int) : Int).toNat z107) := ⟨_,rfl⟩
   replace H : (laws_toThreadS.l0 k l0 y332 0) = some r := by first | (rw [hy332];with_reducible exact H) | (have H2_ := (Option.bind_some _ _).symm.trans H;rw [hy332];with_reducible exact H2_) | (have H2_ := (Option.bind_some _ _).symm.trans H;with_reducible exact H2_) | with_reducible exact H | (rw [hy332];exact H) | exact H
   have Ny332 := aM_ hy332
   clear hy332
   have H' := aM_ H
   clear H
   go_enter Try.func95,Try.ntmps95
   go_wp2_with (first | ((with_reducible refine gate_dst (N := 7) rfl ?_);refine Kd.S_make k107 _ 107 rfl (N := 7) rfl 24 _ _ rfl (l0.length : Int) rfl rfl Try.underlying24 (.agg #[(.int .i64 0),(.slice none 0 0),(.int .i64 0)]) 40 info107 rfl (by decide) (by omega) z107 (ok := fun _ => True) (okp := fun _ => True) (k107_mkM _ _ _ z107 (Kd.R_nil _ _ _ _ _)) (fun _ hk => hk) trivial (of_decide_eq_true (by first | (with_reducible assumption) | assumption)) (Nat.le_trans (Nat.mul_le_mul_right _ (of_decide_eq_true (by first | (with_reducible assumption) | assumption) : (l0.length : Int).toNat ≤ 7036874417766)) (by omega)) (Below.refl _ _) (Nat.le_refl _) ?_;intro v333 w4 ho5 hb hg_ hnew_;clear hg_ hnew_;(first | rw [← Ny332.out] at ho5 | (simp only [Int.reduceToNat] at ho5;rw [← Ny332.out] at ho5));have HO334 := aM_ (Kd.S_lower ho5 (below_size (gB_ HB.out)));replace HB := aM_ (sT_ HB.out hb);clear hb ho5))
   go_loopg [4] k (fun kq v4 w' => ∃ (x3_1 : List (S107)) (x4_1 : Int),v4 = .int .i64 x4_1 ∧ Aside0 (laws_toThreadS.l0 kq l0 x3_1 x4_1 = some r) ∧ Aside0 (kq ≤ k) ∧ Aside0 (Kd.S k107 107 w' w.heap.size (fun _ => True) v333 x3_1) ∧ Aside0 (Below w.heap.size w w'))
   case atStart => exact ⟨(y332),(0),(by first | rfl | (simp;done) | (simp [*];done)),H',⟨Nat.le_refl _⟩,⟨by (with_reducible repeat (first | apply Kd.S_alloc | apply Kd.S_drewN | apply Kd.S_drew));exact HO334.out⟩,⟨gW_ HB.out⟩⟩
   case round =>
    clear H'
    try clear c2
    try clear c2b0
    try clear c2b1
    try clear p2
    try clear c3
    try clear c3b0
    try clear c3b1
    obtain ⟨x3_1,x4_1,rfl,HA,HK1,HO_3,HB⟩ := hrel
    cases gk with
    | zero => exact absurd HA.out (by simp [laws_toThreadS.l0])
    | succ k1 =>
     have H := HA.out
     clear HA
     simp only [laws_toThreadS.l0] at H
     by_cases c6 : x4_1 < (l0.length : Int)
     ·rw [if_pos c6] at H
      have c6b0 : decide (x4_1 < (l0.length : Int)) = true := decide_eq_true c6
      clear c6
      by_cases c7 : 0 ≤ x4_1
      ·rw [if_pos c7] at H
       have c7b0 : decide (0 ≤ x4_1) = true := decide_eq_true c7
       clear c7
       replace H := Option.bind_eq_some_iff.mp H
       obtain ⟨⟨t336,t337,t340⟩,A80,H⟩ := H
       replace H : (if x4_1 < (x3_1.length : Int) then (laws_toThreadS.l0 k1 l0 (x3_1.set (x4_1 : Int).toNat (⟨t336,t337,t340⟩ : S107)) (wrap64 (x4_1 + 1))) else (none)) = some r := H
       have A8 := aM_ A80
       clear A80
       by_cases c9 : x4_1 < (x3_1.length : Int)
       ·rw [if_pos c9] at H
        have c9b0 : decide (x4_1 < (x3_1.length : Int)) = true := decide_eq_true c9
        clear c9
        obtain ⟨y341,hy341⟩ : ∃ y_ : List (S107),y_ = (x3_1.set (x4_1 : Int).toNat (⟨t336,t337,t340⟩ : S107)) := ⟨_,rfl⟩
        replace H : (laws_toThreadS.l0 k1 l0 y341 (wrap64 (x4_1 + 1))) = some r := by first | (rw [hy341];with_reducible exact H) | (have H2_ := (Option.bind_some _ _).symm.trans H;rw [hy341];with_reducible exact H2_) | (have H2_ := (Option.bind_some _ _).symm.trans H;with_reducible exact H2_) | with_reducible exact H | (rw [hy341];exact H) | exact H
        have Ny341 := aM_ hy341
        clear hy341
        have H' := aM_ H
        clear H
        have p335 : 0 ≤ (x4_1 : Int) := of_decide_eq_true (by first | (with_reducible assumption) | assumption)
        have q335 : x4_1 < (l0.length : Int) := of_decide_eq_true (by first | (with_reducible assumption) | assumption)
        obtain ⟨ad335,A335_1,c335_1,e335,hx335_0,hx335_1,hx335_2,hl335_1,hi335_1⟩ := at_T184 HR0.out x4_1 p335 q335
        cases e335
        replace hx335_0 := cB_ HB.out hx335_0
        replace hx335_1 := cB_ HB.out hx335_1
        replace hx335_2 := cB_ HB.out hx335_2
        have HR335_1 := aM_ hi335_1
        have HC335_1 := aM_ hl335_1
        clear hi335_1 hl335_1
        replace p335 := eq_true p335
        replace q335 := eq_true q335
        go_wp2_with (first | ((with_reducible refine gate_callee (f := 147) rfl ?_);refine gL_ (some 20) Try.func147 #[.agg #[.int .i64 ((rd_T184 l0 x4_1).f0),.slice A335_1 ((rd_T184 l0 x4_1).f1).length c335_1,.int .i64 ((rd_T184 l0 x4_1).f2)]] ?_;(with_reducible refine (laws_toThread.calls k1 ((rd_T184 l0 x4_1).f0) _ _ ((rd_T184 l0 x4_1).f1) ((rd_T184 l0 x4_1).f2) t336 t337 t340 _ ?side1 ?side2 A8.out).mono ?_);(case side1 => exact cS_ (Kd.C_below HR335_1.out HB.out));(case side2 => exact HC335_1.out);rintro e w11 ⟨v338,rfl,ho0,hb⟩;refine ⟨_,rfl,?_⟩;have HO339 := aM_ (Kd.R_lower ho0 (below_size (gB_ HB.out)));replace HO_3 := aM_ (Kd.S_elder' (by (with_reducible repeat (first | apply Kd.S_alloc | apply Kd.S_drewN | apply Kd.S_drew));exact HO_3.out) (Kd.R_base ho0) hb);replace HB := aM_ (sT_ HB.out hb);(try clear ho0);have p10 : 0 ≤ (x4_1 : Int) := of_decide_eq_true (by first | (with_reducible assumption) | assumption);have q10 : (x4_1 : Int) < ((x3_1.length : Int) : Int) := of_decide_eq_true (by first | (with_reducible assumption) | assumption);obtain ⟨go10,co10,eo10,gb10,gl10,cl10,HG10⟩ := Kd.S_form HO_3.out (by omega);(first | cases eo10 | (injection eo10 with ea_ en_ ec_;(first | subst ea_ | (injection ea_ with ea_;subst ea_));subst ec_;clear en_));have GB10 := aM_ gb10;have GG10 := aM_ HG10;clear gb10 gl10 HG10;obtain ⟨_,ce10,hcl10,hM10,hcc10,hfr10,_,_⟩ := Kd.S_elem HO_3.out z107 (x4_1 : Int) p10 q10;obtain ⟨ve10_1,rfl,ge10_1⟩ := k107_openM hM10;have hx10_0 : w11.cell? ⟨go10,(x4_1 : Int).toNat * 3,none⟩ = some (.int .i64 ((rd_T107 x3_1 x4_1).f0)) := hcc10 0 _ rfl;have hx10_1 : w11.cell? ⟨go10,(x4_1 : Int).toNat * 3 + 1,none⟩ = some (ve10_1) := hcc10 1 _ rfl;have hx10_2 : w11.cell? ⟨go10,(x4_1 : Int).toNat * 3 + 2,none⟩ = some (.int .i64 ((rd_T107 x3_1 x4_1).f2)) := hcc10 2 _ rfl;have hf10_0 : w11.frozen? ⟨go10,(x4_1 : Int).toNat * 3,none⟩ = false := hfr10 0;have hf10_1 : w11.frozen? ⟨go10,(x4_1 : Int).toNat * 3 + 1,none⟩ = false := hfr10 1;have hf10_2 : w11.frozen? ⟨go10,(x4_1 : Int).toNat * 3 + 2,none⟩ = false := hfr10 2;(try clear hcl10);(try clear hcc10);(try clear hfr10);(try clear hM10);replace p10 := eq_true p10;replace q10 := eq_true q10;have n_ := aM_ (Kd.S_mono (ok' := (fun k_ => some k_ ≠ (v338 : Value).ownBlock)) HO_3.out (fun k_ hk => hk.2));clear HO_3;have HO_3 := n_;clear n_;have HX12 := aM_ (show Kd.S k107 107 w11 w.heap.size (fun k_ => ((fun _ => True)) k_ ∧ ¬ ((fun k_ => some k_ = (v338 : Value).ownBlock)) k_) (.slice (some ⟨go10,0,none⟩) x3_1.length co10) x3_1 from (by (with_reducible repeat (first | apply Kd.S_alloc | apply Kd.S_drewN | apply Kd.S_drew));exact Kd.S_mono HO_3.out (fun k_ hk => ⟨trivial,fun e_ => hk e_⟩)));obtain ⟨oki12,ce12,hcl12,hM12,hcc12,hfr12,hoki12,hH12⟩ := Kd.S_elem HX12.out z107 (x4_1 : Int) (of_decide_eq_true (by first | (with_reducible assumption) | assumption)) (by have h_ : (x4_1 : Int) < ((x3_1.length : Int) : Int) := of_decide_eq_true (by first | (with_reducible assumption) | assumption);first | exact h_ | (have e_ := (Kd.S_reads' HO_3.out).1;omega) | simpa using h_);obtain ⟨ve12_1,rfl,ge12_1⟩ := k107_openM hM12;have HP12 := Kd.S_seg hH12 (of_decide_eq_true (by first | (with_reducible assumption) | assumption)) (by have h_ : (x4_1 : Int) < ((x3_1.length : Int) : Int) := of_decide_eq_true (by first | (with_reducible assumption) | assumption);first | exact h_ | (have e_ := (Kd.S_reads' HO_3.out).1;omega) | simpa using h_) (seg := [.int .i64 t336,v338,.int .i64 t340]) (j := 0) (show 3 ≤ 3 from by decide) (x' := (⟨t336,t337,t340⟩ : S107)) (k107_mkM _ _ _ (⟨t336,t337,t340⟩ : S107) (Kd.R_mono (Kd.R_tight rfl (Kd.R_mono (ok' := fun k_ => ((fun _ => True)) k_ ∧ k_ ≠ go10) (Kd.R_apart' (HO339.out) (Kd.S_typed HO_3.out) (by decide)) (fun k_ hk => ⟨trivial,fun e_ => (hk.2) (by rw [e_];rfl)⟩))) (fun _ h_ => Or.inr (h_)))) (fun _ hk => hk) (fun k_ hk_ => ((Kd.R_mono (ok' := fun k_ => ((fun _ => True)) k_ ∧ k_ ≠ go10) (Kd.R_apart' (HO339.out) (Kd.S_typed HO_3.out) (by decide)) (fun k_ hk => ⟨trivial,fun e_ => (hk.2) (by rw [e_];rfl)⟩))).1 k_ hk_.symm);have hx12_0 := hcc12 0 _ rfl;(try simp only [show (k107).sz = 3 from rfl,Nat.mul_one,Nat.add_zero] at hx12_0);have hf12_0 := hfr12 0;(try simp only [show (k107).sz = 3 from rfl,Nat.mul_one,Nat.add_zero] at hf12_0);have hx12_1 := hcc12 1 _ rfl;(try simp only [show (k107).sz = 3 from rfl,Nat.mul_one,Nat.add_zero] at hx12_1);have hf12_1 := hfr12 1;(try simp only [show (k107).sz = 3 from rfl,Nat.mul_one,Nat.add_zero] at hf12_1);have hx12_2 := hcc12 2 _ rfl;(try simp only [show (k107).sz = 3 from rfl,Nat.mul_one,Nat.add_zero] at hx12_2);have hf12_2 := hfr12 2;(try simp only [show (k107).sz = 3 from rfl,Nat.mul_one,Nat.add_zero] at hf12_2);(try clear hcl12);(try clear hcc12);(try clear hfr12);(try clear hM12);(try clear hoki12);(try clear hH12)) | ((with_reducible refine gate_store (t := 107) (p := 21) rfl ?_);refine store_event (t := 107) (p := 21) (v := ?vo_w13) (w1 := (((w11.setCell ⟨go10,(x4_1 : Int).toNat * 3,none⟩ (.int .i64 t336)).setCell ⟨go10,(x4_1 : Int).toNat * 3 + 1,none⟩ (v338)).setCell ⟨go10,(x4_1 : Int).toNat * 3 + 2,none⟩ (.int .i64 t340))) ?hg ?ho ?hn ?hr ?_;(case ho => rfl);(case hg => rfl);(case hn => rfl);(case hr => first | (go_simp;done) | (go_simp;rfl) | (obtain ⟨_,_,e_⟩ := Kd.R_slice HO339.out;rw [e_];first | (go_simp;done) | (go_simp;rfl)) | (obtain ⟨_,_,e_⟩ := Kd.S_slice HO339.out;rw [e_];first | (go_simp;done) | (go_simp;rfl)) | (obtain ⟨_,_,e_⟩ := Kd.Q_slice HO339.out;rw [e_];first | (go_simp;done) | (go_simp;rfl)) | (obtain ⟨_,_,e_⟩ := Kd.N_slice HO339.out;rw [e_];first | (go_simp;done) | (go_simp;rfl)));intro w13 hw;have hg : w11.grownBy w13 (some go10) := (by rw [hw];exact HP12.2);have hp_ : Kd.S k107 107 w13 w.heap.size (fun _ => True) (.slice (some ⟨go10,0,none⟩) x3_1.length co10) y341 := (by rw [hw,Ny341.out];exact HP12.1);clear HP12;replace HO_3 := aM_ (hp_);replace HB := aM_ ((by rw [hw];exact below_set (below_set (below_set (HB.out) GB10.out) GB10.out) GB10.out : Below w.heap.size w w13));clear HO339;clear hg hw hp_))
        go_roundg k1
        case measure => have := HK1.out;omega
        case rel => exact ⟨(y341),(wrap64 (x4_1 + 1)),(by first | rfl | (simp;done) | (simp [*];done)),H',⟨by have := HK1.out;omega⟩,⟨by (with_reducible repeat (first | apply Kd.S_alloc | apply Kd.S_drewN | apply Kd.S_drew));exact HO_3.out⟩,⟨gW_ HB.out⟩⟩
       ·rw [if_neg c9] at H
        exact absurd H (by simp)
      ·rw [if_neg c7] at H
       exact absurd H (by simp)
     ·rw [if_neg c6] at H
      have c6b0 : decide (x4_1 < (l0.length : Int)) = false := decide_eq_false c6
      clear c6
      obtain rfl := Option.some.inj H
      go_wp2
      go_ret
      exact ⟨_,fR_,by (with_reducible repeat (first | apply Kd.S_alloc | apply Kd.S_drewN | apply Kd.S_drew));exact HO_3.out,gB_ HB.out⟩
  ·rw [if_neg c3] at H
   exact absurd H (by simp)
 ·rw [if_neg c2] at H
  exact absurd H (by simp)
def laws_toChan.f (k : Nat) (a0_0 : Int) (l0_1 : List Int) (a0_2 : Bool) : Option (Int × List Int × Bool) := (laws_toIntS.f k l0_1).bind fun t345 => (some (a0_0,t345,a0_2))
set_option maxHeartbeats 8000000 in
set_option maxRecDepth 100000 in
theorem laws_toChan.calls (k : Nat) (a0_0 : Int) (A0_1 : Option Addr) (c0_1 : Nat) (l0_1 : List Int) (a0_2 : Bool) (r1 : Int) (r2 : List Int) (r3 : Bool) (w : World) (hr0_1 : Kd.C (Kd.int .i64) w A0_1 l0_1.length l0_1) (hc0_1 : l0_1.length ≤ c0_1) (h : laws_toChan.f k a0_0 l0_1 a0_2 = some (r1,r2,r3)) :
  Calls Try.prog 148 #[.agg #[.int .i64 a0_0,.slice A0_1 l0_1.length c0_1,.bool a0_2]] w fun e w' => ∃ v1_ : Value,e = .returned (.agg #[.int .i64 r1,v1_,.bool r3]) ∧ Kd.R (Kd.int .i64) 3 w' w.heap.size (fun _ => True) v1_ r2 ∧ Below w.heap.size w w' := by
 have hu186 := Try.underlying186
 have hu94 := Try.underlying94
 have HR0_1 := aM_ hr0_1
 have HC0_1 := aM_ hc0_1
 clear hr0_1 hc0_1
 have HB := aM_ (Below.refl w.heap.size w)
 have H : ((laws_toIntS.f k l0_1).bind fun t345 => (some (a0_0,t345,a0_2))) = some (r1,r2,r3) := h
 clear h
 replace H := Option.bind_eq_some_iff.mp H
 obtain ⟨t345,A20,H⟩ := H
 replace H : (some (a0_0,t345,a0_2)) = some (r1,r2,r3) := H
 have A2 := aM_ A20
 clear A20
 simp only [Option.some.injEq,Prod.mk.injEq] at H
 obtain ⟨rfl,rfl,rfl⟩ := H
 go_enter Try.func148,Try.ntmps148
 go_wp2_with (first | ((with_reducible refine gate_dst (N := 1) rfl ?_);refine bX_ 1 (cs := #[.int .i64 a0_0,.slice A0_1 l0_1.length c0_1,.bool a0_2]) (t := 186) ?_;intro gb342 hg w3 hbox hb;have BK342 := aM_ (hbox);have GE342 := aM_ (sZ_ hg HB.out);replace HB := aM_ (sT_ HB.out hb);clear hb hbox hg) | ((with_reducible refine gate_dst (N := 2) rfl ?_);refine bX_ 2 (cs := #[.int .i64 0,.slice none 0 0,.bool false]) (t := 94) ?_;intro gb343 hg w4 hbox hb;have BK343 := aM_ (hbox);have GE343 := aM_ (sZ_ hg HB.out);have NB342_343 := aM_ (nL_ hg BK342.out);have NB343_342 := aM_ (nG_ hg BK342.out);replace BK342 := aM_ (nB_ BK342.out hb);replace HB := aM_ (sT_ HB.out hb);clear hb hbox hg) | ((with_reducible refine gate_dst (N := 3) rfl ?_);refine bX_ 3 (cs := #[.int .i64 0,.slice none 0 0,.bool false]) (t := 94) ?_;intro gb344 hg w5 hbox hb;have BK344 := aM_ (hbox);have GE344 := aM_ (sZ_ hg HB.out);have NB342_344 := aM_ (nL_ hg BK342.out);have NB344_342 := aM_ (nG_ hg BK342.out);have NB343_344 := aM_ (nL_ hg BK343.out);have NB344_343 := aM_ (nG_ hg BK343.out);replace BK342 := aM_ (nB_ BK342.out hb);replace BK343 := aM_ (nB_ BK343.out hb);replace HB := aM_ (sT_ HB.out hb);clear hb hbox hg;have hnb6 := NB342_343.out;have hnc6 := NB343_342.out;have hnb7 := NB342_344.out;have hnc7 := NB344_342.out;have z_8 := bR3_ BK342.out;have hnb9 := NB344_343.out;have hnc9 := NB343_344.out;have z_10 := bR3_ BK344.out) | ((with_reducible refine gate_callee (f := 61) rfl ?_);refine gL_ (some 9) Try.func61 #[.slice A0_1 l0_1.length c0_1] ?_;(with_reducible refine (laws_toIntS.calls k _ _ l0_1 t345 _ ?side1 ?side2 A2.out).mono ?_);(case side1 => exact Kd.C_below HR0_1.out (gB_ HB.out));(case side2 => exact HC0_1.out);rintro e w11 ⟨v346,rfl,ho0,hb⟩;refine ⟨_,rfl,?_⟩;have HO347 := aM_ (Kd.R_lower ho0 (below_size (gB_ HB.out)));replace BK342 := aM_ (nBf_ BK342.out hb);replace BK343 := aM_ (nBf_ BK343.out hb);replace BK344 := aM_ (blk_below (g := gb344) (o := .cells #[.int .i64 a0_0,.slice none 0 0,.bool false] 94 (0,0)) (by (with_reducible repeat (first | refine bN_ ?_ _ | refine bD_ ?_ | refine bA_ ?_ _));refine blk_put (cs := #[.int .i64 0,.slice none 0 0,.bool false]) ?_ 0 _ rfl;exact rW_ BK344.out) hb);replace HB := aM_ (sT_ HB.out hb);(try clear ho0);obtain ⟨Ao12,co12,eo12⟩ := Kd.R_slice HO347.out;subst eo12;have z_13 := bR3_ BK344.out;have z_14 := bR3_ BK342.out;have z_15 := bR3_ BK343.out))
 refine bodyPost_ret (results_cell_row rfl _ _ gb343 94 #[.int .i64 a0_0,.slice Ao12 t345.length co12,.bool a0_2] (0,0) _ rfl (by (with_reducible repeat (first | refine bN_ ?_ _ | refine bD_ ?_ | refine bA_ ?_ _));refine blk_put (cs := #[.int .i64 a0_0,.slice Ao12 t345.length co12,.bool false]) ?_ 2 _ rfl;refine blk_put (cs := #[.int .i64 a0_0,.slice none 0 0,.bool false]) ?_ 1 _ rfl;refine blk_put (cs := #[.int .i64 0,.slice none 0 0,.bool false]) ?_ 0 _ rfl;exact rWf_ BK343.out) Try.underlying94 rfl (by kernel_rfl)) rfl ?_
 exact ⟨_,fR_,by (with_reducible repeat (first | apply rA_ | apply rN_ | apply rD_));exact Kd.R_mono (Kd.R_far (p := ⟨gb343,2,none⟩) (Kd.R_far (p := ⟨gb343,1,none⟩) (Kd.R_far (p := ⟨gb343,0,none⟩) (Kd.R_far (p := ⟨gb344,2,none⟩) (Kd.R_far (p := ⟨gb344,1,none⟩) (Kd.R_types (Kd.R_types HO347.out BK344.out (by decide)) BK343.out (by decide)) (fun _ hk => hk.1.2) (.slice Ao12 t345.length co12)) (fun _ hk => hk.1.2) (.bool a0_2)) (fun _ hk => hk.2) (.int .i64 a0_0)) (fun _ hk => hk.2) (.slice Ao12 t345.length co12)) (fun _ hk => hk.2) (.bool a0_2)) (fun _ hk => trivial),gB_ HB.out⟩
def laws_toChanS.l0 : Nat → List (S186) → List (S94) → Int → Option ((List (S94)))
  | 0,_,_,_ => none
  | k + 1,x0,x3,x4 => if x4 < (x0.length : Int) then (if 0 ≤ x4 then ((laws_toChan.f k ((rd_T186 x0 x4).f0) ((rd_T186 x0 x4).f1) ((rd_T186 x0 x4).f2)).bind fun bt352 => (if x4 < (x3.length : Int) then (laws_toChanS.l0 k x0 (x3.set (x4 : Int).toNat (⟨bt352.1,bt352.2.1,bt352.2.2⟩ : S94)) (wrap64 (x4 + 1))) else (none))) else (none)) else (some x3)
def laws_toChanS.f (k : Nat) (l0 : List (S186)) : Option ((List (S94))) := if 0 ≤ (l0.length : Int) then (if ((l0.length : Int) : Int).toNat ≤ 7036874417766 then (laws_toChanS.l0 k l0 (List.replicate ((l0.length : Int) : Int).toNat z94) 0) else (none)) else (none)
set_option maxHeartbeats 8000000 in
set_option maxRecDepth 100000 in
theorem laws_toChanS.calls (k : Nat) (A0 : Option Addr) (c0 : Nat) (l0 : List (S186)) (r : List (S94)) (w : World) (hr0 : Kd.C k186 w A0 l0.length l0) (hc0 : l0.length ≤ c0) (h : laws_toChanS.f k l0 = some r) :
  Calls Try.prog 96 #[.slice A0 l0.length c0] w fun e w' => ∃ v0_ : Value,e = .returned (v0_) ∧ Kd.S k94 94 w' w.heap.size (fun _ => True) v0_ r ∧ Below w.heap.size w w' := by
 have hu186 := Try.underlying186
 have hu94 := Try.underlying94
 have HR0 := aM_ hr0
 have HC0 := aM_ hc0
 clear hr0 hc0
 have HB := aM_ (Below.refl w.heap.size w)
 have H : (if 0 ≤ (l0.length : Int) then (if ((l0.length : Int) : Int).toNat ≤ 7036874417766 then (laws_toChanS.l0 k l0 (List.replicate ((l0.length : Int) : Int).toNat z94) 0) else (none)) else (none)) = some r := h
 clear h
 by_cases c2 : 0 ≤ (l0.length : Int)
 ·rw [if_pos c2] at H
  have c2b0 := eq_true c2
  have c2b1 : decide (0 ≤ (l0.length : Int)) = true := decide_eq_true c2
  clear c2
  by_cases c3 : ((l0.length : Int) : Int).toNat ≤ 7036874417766
  ·rw [if_pos c3] at H
   have c3b0 := eq_true c3
   have c3b1 : decide (((l0.length : Int) : Int).toNat ≤ 7036874417766) = true := decide_eq_true c3
   clear c3
   obtain ⟨y348,hy348⟩ : ∃ y_ : List (S94),y_ = (List.replicate ((l0.length : Int) : Int).toNat z94) := ⟨_,rfl⟩
   replace H : (laws_toChanS.l0 k l0 y348 0) = some r := by first | (rw [hy348];with_reducible exact H) | (have H2_ := (Option.bind_some _ _).symm.trans H;rw [hy348];with_reducible exact H2_) | (have H2_ := (Option.bind_some _ _).symm.trans H;with_reducible exact H2_) | with_reducible exact H | (rw [hy348];exact H) | exact H
   have Ny348 := aM_ hy348
   clear hy348
   have H' := aM_ H
   clear H
   go_enter Try.func96,Try.ntmps96
   go_wp2_with (first | ((with_reducible refine gate_dst (N := 7) rfl ?_);refine Kd.S_make k94 _ 94 rfl (N := 7) rfl 25 _ _ rfl (l0.length : Int) rfl rfl Try.underlying25 (.agg #[(.int .i64 0),(.slice none 0 0),(.bool false)]) 40 info94 rfl (by decide) (by omega) z94 (ok := fun _ => True) (okp := fun _ => True) (k94_mkM _ _ _ z94 (Kd.R_nil _ _ _ _ _)) (fun _ hk => hk) trivial (of_decide_eq_true (by first | (with_reducible assumption) | assumption)) (Nat.le_trans (Nat.mul_le_mul_right _ (of_decide_eq_true (by first | (with_reducible assumption) | assumption) : (l0.length : Int).toNat ≤ 7036874417766)) (by omega)) (Below.refl _ _) (Nat.le_refl _) ?_;intro v349 w4 ho5 hb hg_ hnew_;clear hg_ hnew_;(first | rw [← Ny348.out] at ho5 | (simp only [Int.reduceToNat] at ho5;rw [← Ny348.out] at ho5));have HO350 := aM_ (Kd.S_lower ho5 (below_size (gB_ HB.out)));replace HB := aM_ (sT_ HB.out hb);clear hb ho5))
   go_loopg [4] k (fun kq v4 w' => ∃ (x3_1 : List (S94)) (x4_1 : Int),v4 = .int .i64 x4_1 ∧ Aside0 (laws_toChanS.l0 kq l0 x3_1 x4_1 = some r) ∧ Aside0 (kq ≤ k) ∧ Aside0 (Kd.S k94 94 w' w.heap.size (fun _ => True) v349 x3_1) ∧ Aside0 (Below w.heap.size w w'))
   case atStart => exact ⟨(y348),(0),(by first | rfl | (simp;done) | (simp [*];done)),H',⟨Nat.le_refl _⟩,⟨by (with_reducible repeat (first | apply Kd.S_alloc | apply Kd.S_drewN | apply Kd.S_drew));exact HO350.out⟩,⟨gW_ HB.out⟩⟩
   case round =>
    clear H'
    try clear c2
    try clear c2b0
    try clear c2b1
    try clear p2
    try clear c3
    try clear c3b0
    try clear c3b1
    obtain ⟨x3_1,x4_1,rfl,HA,HK1,HO_3,HB⟩ := hrel
    cases gk with
    | zero => exact absurd HA.out (by simp [laws_toChanS.l0])
    | succ k1 =>
     have H := HA.out
     clear HA
     simp only [laws_toChanS.l0] at H
     by_cases c6 : x4_1 < (l0.length : Int)
     ·rw [if_pos c6] at H
      have c6b0 : decide (x4_1 < (l0.length : Int)) = true := decide_eq_true c6
      clear c6
      by_cases c7 : 0 ≤ x4_1
      ·rw [if_pos c7] at H
       have c7b0 : decide (0 ≤ x4_1) = true := decide_eq_true c7
       clear c7
       replace H := Option.bind_eq_some_iff.mp H
       obtain ⟨⟨t352,t353,t356⟩,A80,H⟩ := H
       replace H : (if x4_1 < (x3_1.length : Int) then (laws_toChanS.l0 k1 l0 (x3_1.set (x4_1 : Int).toNat (⟨t352,t353,t356⟩ : S94)) (wrap64 (x4_1 + 1))) else (none)) = some r := H
       have A8 := aM_ A80
       clear A80
       by_cases c9 : x4_1 < (x3_1.length : Int)
       ·rw [if_pos c9] at H
        have c9b0 : decide (x4_1 < (x3_1.length : Int)) = true := decide_eq_true c9
        clear c9
        obtain ⟨y357,hy357⟩ : ∃ y_ : List (S94),y_ = (x3_1.set (x4_1 : Int).toNat (⟨t352,t353,t356⟩ : S94)) := ⟨_,rfl⟩
        replace H : (laws_toChanS.l0 k1 l0 y357 (wrap64 (x4_1 + 1))) = some r := by first | (rw [hy357];with_reducible exact H) | (have H2_ := (Option.bind_some _ _).symm.trans H;rw [hy357];with_reducible exact H2_) | (have H2_ := (Option.bind_some _ _).symm.trans H;with_reducible exact H2_) | with_reducible exact H | (rw [hy357];exact H) | exact H
        have Ny357 := aM_ hy357
        clear hy357
        have H' := aM_ H
        clear H
        have p351 : 0 ≤ (x4_1 : Int) := of_decide_eq_true (by first | (with_reducible assumption) | assumption)
        have q351 : x4_1 < (l0.length : Int) := of_decide_eq_true (by first | (with_reducible assumption) | assumption)
        obtain ⟨ad351,A351_1,c351_1,e351,hx351_0,hx351_1,hx351_2,hl351_1,hi351_1⟩ := at_T186 HR0.out x4_1 p351 q351
        cases e351
        replace hx351_0 := cB_ HB.out hx351_0
        replace hx351_1 := cB_ HB.out hx351_1
        replace hx351_2 := cB_ HB.out hx351_2
        have HR351_1 := aM_ hi351_1
        have HC351_1 := aM_ hl351_1
        clear hi351_1 hl351_1
        replace p351 := eq_true p351
        replace q351 := eq_true q351
        go_wp2_with (first | ((with_reducible refine gate_callee (f := 148) rfl ?_);refine gL_ (some 20) Try.func148 #[.agg #[.int .i64 ((rd_T186 l0 x4_1).f0),.slice A351_1 ((rd_T186 l0 x4_1).f1).length c351_1,.bool ((rd_T186 l0 x4_1).f2)]] ?_;(with_reducible refine (laws_toChan.calls k1 ((rd_T186 l0 x4_1).f0) _ _ ((rd_T186 l0 x4_1).f1) ((rd_T186 l0 x4_1).f2) t352 t353 t356 _ ?side1 ?side2 A8.out).mono ?_);(case side1 => exact cS_ (Kd.C_below HR351_1.out HB.out));(case side2 => exact HC351_1.out);rintro e w11 ⟨v354,rfl,ho0,hb⟩;refine ⟨_,rfl,?_⟩;have HO355 := aM_ (Kd.R_lower ho0 (below_size (gB_ HB.out)));replace HO_3 := aM_ (Kd.S_elder' (by (with_reducible repeat (first | apply Kd.S_alloc | apply Kd.S_drewN | apply Kd.S_drew));exact HO_3.out) (Kd.R_base ho0) hb);replace HB := aM_ (sT_ HB.out hb);(try clear ho0);have p10 : 0 ≤ (x4_1 : Int) := of_decide_eq_true (by first | (with_reducible assumption) | assumption);have q10 : (x4_1 : Int) < ((x3_1.length : Int) : Int) := of_decide_eq_true (by first | (with_reducible assumption) | assumption);obtain ⟨go10,co10,eo10,gb10,gl10,cl10,HG10⟩ := Kd.S_form HO_3.out (by omega);(first | cases eo10 | (injection eo10 with ea_ en_ ec_;(first | subst ea_ | (injection ea_ with ea_;subst ea_));subst ec_;clear en_));have GB10 := aM_ gb10;have GG10 := aM_ HG10;clear gb10 gl10 HG10;obtain ⟨_,ce10,hcl10,hM10,hcc10,hfr10,_,_⟩ := Kd.S_elem HO_3.out z94 (x4_1 : Int) p10 q10;obtain ⟨ve10_1,rfl,ge10_1⟩ := k94_openM hM10;have hx10_0 : w11.cell? ⟨go10,(x4_1 : Int).toNat * 3,none⟩ = some (.int .i64 ((rd_T94 x3_1 x4_1).f0)) := hcc10 0 _ rfl;have hx10_1 : w11.cell? ⟨go10,(x4_1 : Int).toNat * 3 + 1,none⟩ = some (ve10_1) := hcc10 1 _ rfl;have hx10_2 : w11.cell? ⟨go10,(x4_1 : Int).toNat * 3 + 2,none⟩ = some (.bool ((rd_T94 x3_1 x4_1).f2)) := hcc10 2 _ rfl;have hf10_0 : w11.frozen? ⟨go10,(x4_1 : Int).toNat * 3,none⟩ = false := hfr10 0;have hf10_1 : w11.frozen? ⟨go10,(x4_1 : Int).toNat * 3 + 1,none⟩ = false := hfr10 1;have hf10_2 : w11.frozen? ⟨go10,(x4_1 : Int).toNat * 3 + 2,none⟩ = false := hfr10 2;(try clear hcl10);(try clear hcc10);(try clear hfr10);(try clear hM10);replace p10 := eq_true p10;replace q10 := eq_true q10;have n_ := aM_ (Kd.S_mono (ok' := (fun k_ => some k_ ≠ (v354 : Value).ownBlock)) HO_3.out (fun k_ hk => hk.2));clear HO_3;have HO_3 := n_;clear n_;have HX12 := aM_ (show Kd.S k94 94 w11 w.heap.size (fun k_ => ((fun _ => True)) k_ ∧ ¬ ((fun k_ => some k_ = (v354 : Value).ownBlock)) k_) (.slice (some ⟨go10,0,none⟩) x3_1.length co10) x3_1 from (by (with_reducible repeat (first | apply Kd.S_alloc | apply Kd.S_drewN | apply Kd.S_drew));exact Kd.S_mono HO_3.out (fun k_ hk => ⟨trivial,fun e_ => hk e_⟩)));obtain ⟨oki12,ce12,hcl12,hM12,hcc12,hfr12,hoki12,hH12⟩ := Kd.S_elem HX12.out z94 (x4_1 : Int) (of_decide_eq_true (by first | (with_reducible assumption) | assumption)) (by have h_ : (x4_1 : Int) < ((x3_1.length : Int) : Int) := of_decide_eq_true (by first | (with_reducible assumption) | assumption);first | exact h_ | (have e_ := (Kd.S_reads' HO_3.out).1;omega) | simpa using h_);obtain ⟨ve12_1,rfl,ge12_1⟩ := k94_openM hM12;have HP12 := Kd.S_seg hH12 (of_decide_eq_true (by first | (with_reducible assumption) | assumption)) (by have h_ : (x4_1 : Int) < ((x3_1.length : Int) : Int) := of_decide_eq_true (by first | (with_reducible assumption) | assumption);first | exact h_ | (have e_ := (Kd.S_reads' HO_3.out).1;omega) | simpa using h_) (seg := [.int .i64 t352,v354,.bool t356]) (j := 0) (show 3 ≤ 3 from by decide) (x' := (⟨t352,t353,t356⟩ : S94)) (k94_mkM _ _ _ (⟨t352,t353,t356⟩ : S94) (Kd.R_mono (Kd.R_tight rfl (Kd.R_mono (ok' := fun k_ => ((fun _ => True)) k_ ∧ k_ ≠ go10) (Kd.R_apart' (HO355.out) (Kd.S_typed HO_3.out) (by decide)) (fun k_ hk => ⟨trivial,fun e_ => (hk.2) (by rw [e_];rfl)⟩))) (fun _ h_ => Or.inr (h_)))) (fun _ hk => hk) (fun k_ hk_ => ((Kd.R_mono (ok' := fun k_ => ((fun _ => True)) k_ ∧ k_ ≠ go10) (Kd.R_apart' (HO355.out) (Kd.S_typed HO_3.out) (by decide)) (fun k_ hk => ⟨trivial,fun e_ => (hk.2) (by rw [e_];rfl)⟩))).1 k_ hk_.symm);have hx12_0 := hcc12 0 _ rfl;(try simp only [show (k94).sz = 3 from rfl,Nat.mul_one,Nat.add_zero] at hx12_0);have hf12_0 := hfr12 0;(try simp only [show (k94).sz = 3 from rfl,Nat.mul_one,Nat.add_zero] at hf12_0);have hx12_1 := hcc12 1 _ rfl;(try simp only [show (k94).sz = 3 from rfl,Nat.mul_one,Nat.add_zero] at hx12_1);have hf12_1 := hfr12 1;(try simp only [show (k94).sz = 3 from rfl,Nat.mul_one,Nat.add_zero] at hf12_1);have hx12_2 := hcc12 2 _ rfl;(try simp only [show (k94).sz = 3 from rfl,Nat.mul_one,Nat.add_zero] at hx12_2);have hf12_2 := hfr12 2;(try simp only [show (k94).sz = 3 from rfl,Nat.mul_one,Nat.add_zero] at hf12_2);(try clear hcl12);(try clear hcc12);(try clear hfr12);(try clear hM12);(try clear hoki12);(try clear hH12)) | ((with_reducible refine gate_store (t := 94) (p := 21) rfl ?_);refine store_event (t := 94) (p := 21) (v := ?vo_w13) (w1 := (((w11.setCell ⟨go10,(x4_1 : Int).toNat * 3,none⟩ (.int .i64 t352)).setCell ⟨go10,(x4_1 : Int).toNat * 3 + 1,none⟩ (v354)).setCell ⟨go10,(x4_1 : Int).toNat * 3 + 2,none⟩ (.bool t356))) ?hg ?ho ?hn ?hr ?_;(case ho => rfl);(case hg => rfl);(case hn => rfl);(case hr => first | (go_simp;done) | (go_simp;rfl) | (obtain ⟨_,_,e_⟩ := Kd.R_slice HO355.out;rw [e_];first | (go_simp;done) | (go_simp;rfl)) | (obtain ⟨_,_,e_⟩ := Kd.S_slice HO355.out;rw [e_];first | (go_simp;done) | (go_simp;rfl)) | (obtain ⟨_,_,e_⟩ := Kd.Q_slice HO355.out;rw [e_];first | (go_simp;done) | (go_simp;rfl)) | (obtain ⟨_,_,e_⟩ := Kd.N_slice HO355.out;rw [e_];first | (go_simp;done) | (go_simp;rfl)));intro w13 hw;have hg : w11.grownBy w13 (some go10) := (by rw [hw];exact HP12.2);have hp_ : Kd.S k94 94 w13 w.heap.size (fun _ => True) (.slice (some ⟨go10,0,none⟩) x3_1.length co10) y357 := (by rw [hw,Ny357.out];exact HP12.1);clear HP12;replace HO_3 := aM_ (hp_);replace HB := aM_ ((by rw [hw];exact below_set (below_set (below_set (HB.out) GB10.out) GB10.out) GB10.out : Below w.heap.size w w13));clear HO355;clear hg hw hp_))
        go_roundg k1
        case measure => have := HK1.out;omega
        case rel => exact ⟨(y357),(wrap64 (x4_1 + 1)),(by first | rfl | (simp;done) | (simp [*];done)),H',⟨by have := HK1.out;omega⟩,⟨by (with_reducible repeat (first | apply Kd.S_alloc | apply Kd.S_drewN | apply Kd.S_drew));exact HO_3.out⟩,⟨gW_ HB.out⟩⟩
       ·rw [if_neg c9] at H
        exact absurd H (by simp)
      ·rw [if_neg c7] at H
       exact absurd H (by simp)
     ·rw [if_neg c6] at H
      have c6b0 : decide (x4_1 < (l0.length : Int)) = false := decide_eq_false c6
      clear c6
      obtain rfl := Option.some.inj H
      go_wp2
      go_ret
      exact ⟨_,fR_,by (with_reducible repeat (first | apply Kd.S_alloc | apply Kd.S_drewN | apply Kd.S_drew));exact HO_3.out,gB_ HB.out⟩
  ·rw [if_neg c3] at H
   exact absurd H (by simp)
 ·rw [if_neg c2] at H
  exact absurd H (by simp)
def laws_toNote.f (a0_0 : Int) (a0_1 : Int) : Option (Int × Int) := some (a0_0,a0_1)
set_option maxHeartbeats 8000000 in
set_option maxRecDepth 100000 in
theorem laws_toNote.calls (a0_0 : Int) (a0_1 : Int) (r1 : Int) (r2 : Int) (w : World) (h : laws_toNote.f a0_0 a0_1 = some (r1,r2)) :
  Calls Try.prog 149 #[.agg #[.int .i64 a0_0,.int .i64 a0_1]] w fun e w' => e = .returned (.agg #[.int .i64 r1,.int .i64 r2]) ∧ Below w.heap.size w w' := by
 have hu190 := Try.underlying190
 have hu35 := Try.underlying35
 have HB := aM_ (Below.refl w.heap.size w)
 have H : (some (a0_0,a0_1)) = some (r1,r2) := h
 clear h
 simp only [Option.some.injEq,Prod.mk.injEq] at H
 obtain ⟨rfl,rfl⟩ := H
 go_enter Try.func149,Try.ntmps149
 go_wp2_with (first | ((with_reducible refine gate_dst (N := 1) rfl ?_);refine bX_ 1 (cs := #[.int .i64 a0_0,.int .i64 a0_1]) (t := 190) ?_;intro gb358 hg w2 hbox hb;have BK358 := aM_ (hbox);have GE358 := aM_ (sZ_ hg HB.out);replace HB := aM_ (sT_ HB.out hb);clear hb hbox hg) | ((with_reducible refine gate_dst (N := 2) rfl ?_);refine bX_ 2 (cs := #[.int .i64 0,.int .i64 0]) (t := 35) ?_;intro gb359 hg w3 hbox hb;have BK359 := aM_ (hbox);have GE359 := aM_ (sZ_ hg HB.out);have NB358_359 := aM_ (nL_ hg BK358.out);have NB359_358 := aM_ (nG_ hg BK358.out);replace BK358 := aM_ (nB_ BK358.out hb);replace HB := aM_ (sT_ HB.out hb);clear hb hbox hg) | ((with_reducible refine gate_dst (N := 3) rfl ?_);refine bX_ 3 (cs := #[.int .i64 0,.int .i64 0]) (t := 35) ?_;intro gb360 hg w4 hbox hb;have BK360 := aM_ (hbox);have GE360 := aM_ (sZ_ hg HB.out);have NB358_360 := aM_ (nL_ hg BK358.out);have NB360_358 := aM_ (nG_ hg BK358.out);have NB359_360 := aM_ (nL_ hg BK359.out);have NB360_359 := aM_ (nG_ hg BK359.out);replace BK358 := aM_ (nB_ BK358.out hb);replace BK359 := aM_ (nB_ BK359.out hb);replace HB := aM_ (sT_ HB.out hb);clear hb hbox hg;have hnb5 := NB358_359.out;have hnc5 := NB359_358.out;have hnb6 := NB358_360.out;have hnc6 := NB360_358.out;have z_7 := bR2_ BK358.out;have hnb8 := NB360_359.out;have hnc8 := NB359_360.out;have z_9 := bR2_ BK360.out;have z_10 := bR2_ BK359.out))
 refine bodyPost_ret (results_cell_row rfl _ _ gb359 35 #[.int .i64 a0_0,.int .i64 a0_1] (0,0) _ rfl (by (with_reducible repeat (first | refine bN_ ?_ _ | refine bD_ ?_ | refine bA_ ?_ _));refine blk_put (cs := #[.int .i64 a0_0,.int .i64 0]) ?_ 1 _ rfl;refine blk_put (cs := #[.int .i64 0,.int .i64 0]) ?_ 0 _ rfl;exact rWf_ BK359.out) Try.underlying35 rfl (by kernel_rfl)) rfl ?_
 exact fI_ HB.out
def laws_toNoteS.l0 : Nat → List (S190) → List (S35) → Int → Option ((List (S35)))
  | 0,_,_,_ => none
  | k + 1,x0,x3,x4 => if x4 < (x0.length : Int) then (if 0 ≤ x4 then ((laws_toNote.f ((rd_T190 x0 x4).f0) ((rd_T190 x0 x4).f1)).bind fun bt365 => (if x4 < (x3.length : Int) then (laws_toNoteS.l0 k x0 (x3.set (x4 : Int).toNat (⟨bt365.1,bt365.2⟩ : S35)) (wrap64 (x4 + 1))) else (none))) else (none)) else (some x3)
def laws_toNoteS.f (k : Nat) (l0 : List (S190)) : Option ((List (S35))) := if 0 ≤ (l0.length : Int) then (if ((l0.length : Int) : Int).toNat ≤ 17592186044416 then (laws_toNoteS.l0 k l0 (List.replicate ((l0.length : Int) : Int).toNat z35) 0) else (none)) else (none)
set_option maxHeartbeats 8000000 in
set_option maxRecDepth 100000 in
theorem laws_toNoteS.calls (k : Nat) (A0 : Option Addr) (c0 : Nat) (l0 : List (S190)) (r : List (S35)) (w : World) (hr0 : Kd.C k190 w A0 l0.length l0) (hc0 : l0.length ≤ c0) (h : laws_toNoteS.f k l0 = some r) :
  Calls Try.prog 97 #[.slice A0 l0.length c0] w fun e w' => ∃ v0_ : Value,e = .returned (v0_) ∧ Kd.R k35 35 w' w.heap.size (fun _ => True) v0_ r ∧ Below w.heap.size w w' := by
 have hu190 := Try.underlying190
 have hu35 := Try.underlying35
 have HR0 := aM_ hr0
 have HC0 := aM_ hc0
 clear hr0 hc0
 have HB := aM_ (Below.refl w.heap.size w)
 have H : (if 0 ≤ (l0.length : Int) then (if ((l0.length : Int) : Int).toNat ≤ 17592186044416 then (laws_toNoteS.l0 k l0 (List.replicate ((l0.length : Int) : Int).toNat z35) 0) else (none)) else (none)) = some r := h
 clear h
 by_cases c2 : 0 ≤ (l0.length : Int)
 ·rw [if_pos c2] at H
  have c2b0 := eq_true c2
  have c2b1 : decide (0 ≤ (l0.length : Int)) = true := decide_eq_true c2
  clear c2
  by_cases c3 : ((l0.length : Int) : Int).toNat ≤ 17592186044416
  ·rw [if_pos c3] at H
   have c3b0 := eq_true c3
   have c3b1 : decide (((l0.length : Int) : Int).toNat ≤ 17592186044416) = true := decide_eq_true c3
   clear c3
   obtain ⟨y361,hy361⟩ : ∃ y_ : List (S35),y_ = (List.replicate ((l0.length : Int) : Int).toNat z35) := ⟨_,rfl⟩
   replace H : (laws_toNoteS.l0 k l0 y361 0) = some r := by first | (rw [hy361];with_reducible exact H) | (have H2_ := (Option.bind_some _ _).symm.trans H;rw [hy361];with_reducible exact H2_) | (have H2_ := (Option.bind_some _ _).symm.trans H;with_reducible exact H2_) | with_reducible exact H | (rw [hy361];exact H) | exact H
   have Ny361 := aM_ hy361
   clear hy361
   have H' := aM_ H
   clear H
   go_enter Try.func97,Try.ntmps97
   go_wp2_with (first | ((with_reducible refine gate_dst (N := 7) rfl ?_);refine Kd.R_make k35 _ 35 rfl (N := 7) rfl 26 _ _ rfl (l0.length : Int) rfl rfl Try.underlying26 (.agg #[(.int .i64 0),(.int .i64 0)]) 16 info35 rfl (by decide) (by omega) z35 (ok := fun _ => True) (okp := fun _ => True) (k35_mkM _ _ _ z35 ) (fun _ hk => hk) trivial (of_decide_eq_true (by first | (with_reducible assumption) | assumption)) (Nat.le_trans (Nat.mul_le_mul_right _ (of_decide_eq_true (by first | (with_reducible assumption) | assumption) : (l0.length : Int).toNat ≤ 17592186044416)) (by omega)) (Below.refl _ _) (Nat.le_refl _) ?_;intro v362 w4 ho5 hb hg_ hnew_;clear hg_ hnew_;(first | rw [← Ny361.out] at ho5 | (simp only [Int.reduceToNat] at ho5;rw [← Ny361.out] at ho5));have HO363 := aM_ (Kd.R_lower ho5 (below_size (gB_ HB.out)));replace HB := aM_ (sT_ HB.out hb);clear hb ho5))
   go_loopg [4] k (fun kq v4 w' => ∃ (x3_1 : List (S35)) (x4_1 : Int),v4 = .int .i64 x4_1 ∧ Aside0 (laws_toNoteS.l0 kq l0 x3_1 x4_1 = some r) ∧ Aside0 (kq ≤ k) ∧ Aside0 (Kd.R k35 35 w' w.heap.size (fun _ => True) v362 x3_1) ∧ Aside0 (Below w.heap.size w w'))
   case atStart => exact ⟨(y361),(0),(by first | rfl | (simp;done) | (simp [*];done)),H',⟨Nat.le_refl _⟩,⟨by (with_reducible repeat (first | apply rA_ | apply rN_ | apply rD_));exact HO363.out⟩,⟨gW_ HB.out⟩⟩
   case round =>
    clear H'
    try clear c2
    try clear c2b0
    try clear c2b1
    try clear p2
    try clear c3
    try clear c3b0
    try clear c3b1
    obtain ⟨x3_1,x4_1,rfl,HA,HK1,HO_3,HB⟩ := hrel
    cases gk with
    | zero => exact absurd HA.out (by simp [laws_toNoteS.l0])
    | succ k1 =>
     have H := HA.out
     clear HA
     simp only [laws_toNoteS.l0] at H
     by_cases c6 : x4_1 < (l0.length : Int)
     ·rw [if_pos c6] at H
      have c6b0 : decide (x4_1 < (l0.length : Int)) = true := decide_eq_true c6
      clear c6
      by_cases c7 : 0 ≤ x4_1
      ·rw [if_pos c7] at H
       have c7b0 : decide (0 ≤ x4_1) = true := decide_eq_true c7
       clear c7
       replace H := Option.bind_eq_some_iff.mp H
       obtain ⟨⟨t365,t366⟩,A80,H⟩ := H
       replace H : (if x4_1 < (x3_1.length : Int) then (laws_toNoteS.l0 k1 l0 (x3_1.set (x4_1 : Int).toNat (⟨t365,t366⟩ : S35)) (wrap64 (x4_1 + 1))) else (none)) = some r := H
       have A8 := aM_ A80
       clear A80
       by_cases c9 : x4_1 < (x3_1.length : Int)
       ·rw [if_pos c9] at H
        have c9b0 : decide (x4_1 < (x3_1.length : Int)) = true := decide_eq_true c9
        clear c9
        obtain ⟨y367,hy367⟩ : ∃ y_ : List (S35),y_ = (x3_1.set (x4_1 : Int).toNat (⟨t365,t366⟩ : S35)) := ⟨_,rfl⟩
        replace H : (laws_toNoteS.l0 k1 l0 y367 (wrap64 (x4_1 + 1))) = some r := by first | (rw [hy367];with_reducible exact H) | (have H2_ := (Option.bind_some _ _).symm.trans H;rw [hy367];with_reducible exact H2_) | (have H2_ := (Option.bind_some _ _).symm.trans H;with_reducible exact H2_) | with_reducible exact H | (rw [hy367];exact H) | exact H
        have Ny367 := aM_ hy367
        clear hy367
        have H' := aM_ H
        clear H
        have p364 : 0 ≤ (x4_1 : Int) := of_decide_eq_true (by first | (with_reducible assumption) | assumption)
        have q364 : x4_1 < (l0.length : Int) := of_decide_eq_true (by first | (with_reducible assumption) | assumption)
        obtain ⟨ad364,e364,hx364_0,hx364_1⟩ := at_T190 HR0.out x4_1 p364 q364
        cases e364
        replace hx364_0 := cB_ HB.out hx364_0
        replace hx364_1 := cB_ HB.out hx364_1
        replace p364 := eq_true p364
        replace q364 := eq_true q364
        go_wp2_with (first | ((with_reducible refine gate_callee (f := 149) rfl ?_);refine gL_ (some 20) Try.func149 #[.agg #[.int .i64 ((rd_T190 l0 x4_1).f0),.int .i64 ((rd_T190 l0 x4_1).f1)]] ?_;(with_reducible refine (laws_toNote.calls ((rd_T190 l0 x4_1).f0) ((rd_T190 l0 x4_1).f1) t365 t366 _ A8.out).mono ?_);rintro e w11 ⟨rfl,hb⟩;refine ⟨_,rfl,?_⟩;replace HO_3 := aM_ (bR_ HO_3.out hb);replace HB := aM_ (sT_ HB.out hb);have p10 : 0 ≤ (x4_1 : Int) := of_decide_eq_true (by first | (with_reducible assumption) | assumption);have q10 : (x4_1 : Int) < ((x3_1.length : Int) : Int) := of_decide_eq_true (by first | (with_reducible assumption) | assumption);obtain ⟨go10,co10,eo10,gb10,gl10,cl10,HG10⟩ := Kd.R_form HO_3.out (by omega);(first | cases eo10 | (injection eo10 with ea_ en_ ec_;(first | subst ea_ | (injection ea_ with ea_;subst ea_));subst ec_;clear en_));have GB10 := aM_ gb10;have GG10 := aM_ HG10;clear gb10 gl10 HG10;obtain ⟨ce10,hcl10,hM10,hcc10,hfr10⟩ := Kd.R_elem HO_3.out z35 (x4_1 : Int) p10 q10;obtain rfl := k35_openM hM10;have hx10_0 : w11.cell? ⟨go10,(x4_1 : Int).toNat * 2,none⟩ = some (.int .i64 ((rd_T35 x3_1 x4_1).f0)) := hcc10 0 _ rfl;have hx10_1 : w11.cell? ⟨go10,(x4_1 : Int).toNat * 2 + 1,none⟩ = some (.int .i64 ((rd_T35 x3_1 x4_1).f1)) := hcc10 1 _ rfl;have hf10_0 : w11.frozen? ⟨go10,(x4_1 : Int).toNat * 2,none⟩ = false := hfr10 0;have hf10_1 : w11.frozen? ⟨go10,(x4_1 : Int).toNat * 2 + 1,none⟩ = false := hfr10 1;(try clear hcl10);(try clear hcc10);(try clear hfr10);(try clear hM10);replace p10 := eq_true p10;replace q10 := eq_true q10;have HX12 := aM_ (show Kd.R k35 35 w11 w.heap.size (fun _ => True) (.slice (some ⟨go10,0,none⟩) x3_1.length co10) x3_1 from (by (with_reducible repeat (first | apply rA_ | apply rN_ | apply rD_));exact HO_3.out));obtain ⟨ce12,hcl12,hM12,hcc12,hfr12⟩ := Kd.R_elem HX12.out z35 (x4_1 : Int) (of_decide_eq_true (by first | (with_reducible assumption) | assumption)) (by have h_ : (x4_1 : Int) < ((x3_1.length : Int) : Int) := of_decide_eq_true (by first | (with_reducible assumption) | assumption);first | exact h_ | (have e_ := (Kd.R_reads' HO_3.out).1;omega) | simpa using h_);obtain rfl := k35_openM hM12;have HP12 := Kd.R_seg HX12.out (x4_1 : Int) (of_decide_eq_true (by first | (with_reducible assumption) | assumption)) (by have h_ : (x4_1 : Int) < ((x3_1.length : Int) : Int) := of_decide_eq_true (by first | (with_reducible assumption) | assumption);first | exact h_ | (have e_ := (Kd.R_reads' HO_3.out).1;omega) | simpa using h_) (seg := [.int .i64 t365,.int .i64 t366]) (j := 0) hcl12 hcc12 (show 2 ≤ 2 from by decide) (x' := (⟨t365,t366⟩ : S35)) (k35_mkM _ _ _ (⟨t365,t366⟩ : S35) ) (fun _ hk => hk);have hx12_0 := hcc12 0 _ rfl;(try simp only [show (k35).sz = 2 from rfl,Nat.mul_one,Nat.add_zero] at hx12_0);have hf12_0 := hfr12 0;(try simp only [show (k35).sz = 2 from rfl,Nat.mul_one,Nat.add_zero] at hf12_0);have hx12_1 := hcc12 1 _ rfl;(try simp only [show (k35).sz = 2 from rfl,Nat.mul_one,Nat.add_zero] at hx12_1);have hf12_1 := hfr12 1;(try simp only [show (k35).sz = 2 from rfl,Nat.mul_one,Nat.add_zero] at hf12_1);(try clear hcl12);(try clear hcc12);(try clear hfr12);(try clear hM12)) | ((with_reducible refine gate_store (t := 35) (p := 21) rfl ?_);refine store_event (t := 35) (p := 21) (v := ?vo_w13) (w1 := ((w11.setCell ⟨go10,(x4_1 : Int).toNat * 2,none⟩ (.int .i64 t365)).setCell ⟨go10,(x4_1 : Int).toNat * 2 + 1,none⟩ (.int .i64 t366))) ?hg ?ho ?hn ?hr ?_;(case ho => rfl);(case hg => rfl);(case hn => rfl);(case hr => first | (go_simp;done) | (go_simp;rfl));intro w13 hw;have hg : w11.grownBy w13 (some go10) := (by rw [hw];exact HP12.2);have hp_ : Kd.R k35 35 w13 w.heap.size (fun _ => True) (.slice (some ⟨go10,0,none⟩) x3_1.length co10) y367 := (by rw [hw,Ny367.out];exact HP12.1);clear HP12;replace HO_3 := aM_ (hp_);replace HB := aM_ ((by rw [hw];exact below_set (below_set (HB.out) GB10.out) GB10.out : Below w.heap.size w w13));clear hg hw hp_))
        go_roundg k1
        case measure => have := HK1.out;omega
        case rel => exact ⟨(y367),(wrap64 (x4_1 + 1)),(by first | rfl | (simp;done) | (simp [*];done)),H',⟨by have := HK1.out;omega⟩,⟨by (with_reducible repeat (first | apply rA_ | apply rN_ | apply rD_));exact HO_3.out⟩,⟨gW_ HB.out⟩⟩
       ·rw [if_neg c9] at H
        exact absurd H (by simp)
      ·rw [if_neg c7] at H
       exact absurd H (by simp)
     ·rw [if_neg c6] at H
      have c6b0 : decide (x4_1 < (l0.length : Int)) = false := decide_eq_false c6
      clear c6
      obtain rfl := Option.some.inj H
      go_wp2
      go_ret
      exact ⟨_,fR_,by (with_reducible repeat (first | apply rA_ | apply rN_ | apply rD_));exact HO_3.out,gB_ HB.out⟩
  ·rw [if_neg c3] at H
   exact absurd H (by simp)
 ·rw [if_neg c2] at H
  exact absurd H (by simp)
end Go.Proofs.Ytobachfngmpeiaa.PFnExactStuck
