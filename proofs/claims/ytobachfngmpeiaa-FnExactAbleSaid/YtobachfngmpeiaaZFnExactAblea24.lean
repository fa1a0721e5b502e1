/- Part of the proof of FnExactAble. -/
import Derived.Test.YtobachfngmpeiaaProg
import Derived.Test.YtobachfngmpeiaaZFnExactAblea23
import Derived.Test.YtobachfngmpeiaaZFnExactAbles
namespace Go.Proofs.Ytobachfngmpeiaa.PFnExactAble
open Go.RowKit Go.Proofs.YtobachfngmpeiaaW.PrintWords Go.Proofs.YtobachfngmpeiaaW.PrintLast Go.Proofs.YtobachfngmpeiaaW.PrintMore
attribute [local go_sem] max2_int min2_int max_two min_two max_three min_three max_four min_four   -- for this text's walks alone
set_option linter.unusedVariables false
set_option linter.unusedSimpArgs false
def impl_Able.l0 : Nat → List Int → Int → Int → List Int → List (List (S192)) → List (S107) → List (S94) → List (S35) → Option (List Int)
  | 0,_,_,_,_,_,_,_,_ => none
  | k + 1,x5,x15,x16,x438000,x438001,x439000,x439001,x439002 => if x16 < x15 then ((impl_sourceCode.f x438000 x438001 x439000 x439001 x439002 x16).bind fun t443 => (if t443 = 0 then (if x5.length < 17592186044416 then (impl_Able.l0 k (x5 ++ [x16]) x15 (wrap64 (x16 + 1)) x438000 x438001 x439000 x439001 x439002) else (none)) else (impl_Able.l0 k x5 x15 (wrap64 (x16 + 1)) x438000 x438001 x439000 x439001 x439002))) else (some x5)
def impl_Able.f (k : Nat) (l0_0 : List Int) (l0_1 : List (List (S192))) (l1_0 : List (S107)) (l1_1 : List (S94)) (l1_2 : List (S35)) : Option (List Int) := (some (([] : List Int) : List Int)).bind fun y439 => ((impl_SourceOk.f k l0_0 l0_1 l1_0 l1_1 l1_2).bind fun t442 => (if t442 = true then (impl_Able.l0 k y439 (l1_0.length : Int) 0 l0_0 l0_1 l1_0 l1_1 l1_2) else (some y439)))
set_option maxHeartbeats 8000000 in
set_option maxRecDepth 100000 in
theorem impl_Able.calls (k : Nat) (A0_0 : Option Addr) (c0_0 : Nat) (l0_0 : List Int) (A0_1 : Option Addr) (c0_1 : Nat) (l0_1 : List (List (S192))) (A1_0 : Option Addr) (c1_0 : Nat) (l1_0 : List (S107)) (A1_1 : Option Addr) (c1_1 : Nat) (l1_1 : List (S94)) (A1_2 : Option Addr) (c1_2 : Nat) (l1_2 : List (S35)) (r : List Int) (w : World) (hr0_0 : Kd.C (Kd.int .i64) w A0_0 l0_0.length l0_0) (hc0_0 : l0_0.length ≤ c0_0) (hr0_1 : Kd.C (Kd.slice 192 k192) w A0_1 l0_1.length l0_1) (hc0_1 : l0_1.length ≤ c0_1) (hr1_0 : Kd.C k107 w A1_0 l1_0.length l1_0) (hc1_0 : l1_0.length ≤ c1_0) (hr1_1 : Kd.C k94 w A1_1 l1_1.length l1_1) (hc1_1 : l1_1.length ≤ c1_1) (hr1_2 : Kd.C k35 w A1_2 l1_2.length l1_2) (hc1_2 : l1_2.length ≤ c1_2) (h : impl_Able.f k l0_0 l0_1 l1_0 l1_1 l1_2 = some r) :
  Calls Try.prog 38 #[.agg #[.slice A0_0 l0_0.length c0_0,.slice A0_1 l0_1.length c0_1],.agg #[.slice A1_0 l1_0.length c1_0,.slice A1_1 l1_1.length c1_1,.slice A1_2 l1_2.length c1_2]] w fun e w' => ∃ v0_ : Value,e = .returned (v0_) ∧ Kd.R (Kd.int .i64) 3 w' w.heap.size (fun _ => True) v0_ r ∧ Below w.heap.size w w' := by
 have hu44 := Try.underlying44
 have hu28 := Try.underlying28
 have HR0_0 := aM_ hr0_0
 have HC0_0 := aM_ hc0_0
 clear hr0_0 hc0_0
 have HR0_1 := aM_ hr0_1
 have HC0_1 := aM_ hc0_1
 clear hr0_1 hc0_1
 have HR1_0 := aM_ hr1_0
 have HC1_0 := aM_ hc1_0
 clear hr1_0 hc1_0
 have HR1_1 := aM_ hr1_1
 have HC1_1 := aM_ hc1_1
 clear hr1_1 hc1_1
 have HR1_2 := aM_ hr1_2
 have HC1_2 := aM_ hc1_2
 clear hr1_2 hc1_2
 have HB := aM_ (Below.refl w.heap.size w)
 have H : ((some (([] : List Int) : List Int)).bind fun y439 => ((impl_SourceOk.f k l0_0 l0_1 l1_0 l1_1 l1_2).bind fun t442 => (if t442 = true then (impl_Able.l0 k y439 (l1_0.length : Int) 0 l0_0 l0_1 l1_0 l1_1 l1_2) else (some y439)))) = some r := h
 clear h
 obtain ⟨y439,hy439⟩ : ∃ y_ : List Int,y_ = (([] : List Int)) := ⟨_,rfl⟩
 replace H : ((impl_SourceOk.f k l0_0 l0_1 l1_0 l1_1 l1_2).bind fun t442 => (if t442 = true then (impl_Able.l0 k y439 (l1_0.length : Int) 0 l0_0 l0_1 l1_0 l1_1 l1_2) else (some y439))) = some r := by first | (rw [hy439];with_reducible exact H) | (have H2_ := (Option.bind_some _ _).symm.trans H;rw [hy439];with_reducible exact H2_) | (have H2_ := (Option.bind_some _ _).symm.trans H;with_reducible exact H2_) | with_reducible exact H | (rw [hy439];exact H) | exact H
 have Ny439 := aM_ hy439
 clear hy439
 replace H := Option.bind_eq_some_iff.mp H
 obtain ⟨t442,A30,H⟩ := H
 replace H : (if t442 = true then (impl_Able.l0 k y439 (l1_0.length : Int) 0 l0_0 l0_1 l1_0 l1_1 l1_2) else (some y439)) = some r := H
 have A3 := aM_ A30
 clear A30
 by_cases c4 : t442 = true
 ·subst c4
  have H1 : (impl_Able.l0 k y439 (l1_0.length : Int) 0 l0_0 l0_1 l1_0 l1_1 l1_2) = some r := by rw [if_pos rfl] at H;exact H
  clear H
  have H := H1
  clear H1
  have H' := aM_ H
  clear H
  go_enter Try.func38,Try.ntmps38
  go_wp2_with (first | (refine bX_ 2 (cs := #[.slice A0_0 l0_0.length c0_0,.slice A0_1 l0_1.length c0_1]) (t := 44) ?_;intro gb437 hg w5 hbox hb;have BK437 := aM_ (hbox);have GE437 := aM_ (sZ_ hg HB.out);replace HB := aM_ (sT_ HB.out hb);clear hb hbox hg) | (refine bX_ 3 (cs := #[.slice A1_0 l1_0.length c1_0,.slice A1_1 l1_1.length c1_1,.slice A1_2 l1_2.length c1_2]) (t := 28) ?_;intro gb438 hg w6 hbox hb;have BK438 := aM_ (hbox);have GE438 := aM_ (sZ_ hg HB.out);have NB437_438 := aM_ (nL_ hg BK437.out);have NB438_437 := aM_ (nG_ hg BK437.out);replace BK437 := aM_ (nB_ BK437.out hb);replace HB := aM_ (sT_ HB.out hb);clear hb hbox hg) | ((with_reducible refine gate_dst (N := 7) rfl ?_);refine Kd.R_lit (Kd.int .i64) _ 3 ?hg (N := 7) ?hd (xs := ([] : List Int)) (inner := []) (ok := fun _ => True) (okp := fun _ => True) ?hr ?hp (fun _ hk => hk) trivial (Below.refl _ _) (Nat.le_refl _) (by simp) ?_;(case hd => rfl);(case hg => rfl);(case hr => first | (go_simp;done) | (go_simp;rfl));(case hp => exact (Reps.none _ _));intro v440 w7 ho8 hb hg_ hnew_;clear hg_ hnew_;(first | rw [← Ny439.out] at ho8 | (simp only [Int.reduceToNat] at ho8;rw [← Ny439.out] at ho8));have HO441 := aM_ (Kd.R_lower ho8 (below_size (gB_ HB.out)));replace BK437 := aM_ (nB_ BK437.out hb);replace BK438 := aM_ (nB_ BK438.out hb);replace HB := aM_ (sT_ HB.out hb);clear hb ho8;have hnb9 := nn_ NB437_438 NB438_437;have z_10 := bR2_ BK437.out;have z_11 := bR3_ BK438.out) | (refine gL_ (some 10) Try.func98 #[.agg #[.slice A0_0 l0_0.length c0_0,.slice A0_1 l0_1.length c0_1],.agg #[.slice A1_0 l1_0.length c1_0,.slice A1_1 l1_1.length c1_1,.slice A1_2 l1_2.length c1_2]] ?_;(with_reducible refine (impl_SourceOk.calls k _ _ l0_0 _ _ l0_1 _ _ l1_0 _ _ l1_1 _ _ l1_2 true _ ?side1 HC0_0.out ?side3 HC0_1.out ?side5 HC1_0.out ?side7 HC1_1.out ?side9 HC1_2.out A3.out).mono ?_);(case side1 => exact cS_ (Kd.C_below HR0_0.out HB.out));(case side3 => exact cS_ (Kd.C_below HR0_1.out HB.out));(case side5 => exact cS_ (Kd.C_below HR1_0.out HB.out));(case side7 => exact cS_ (Kd.C_below HR1_1.out HB.out));(case side9 => exact cS_ (Kd.C_below HR1_2.out HB.out));rintro e w12 ⟨rfl,hb⟩;refine ⟨_,rfl,?_⟩;replace HO441 := aM_ (bR_ HO441.out hb);replace BK437 := aM_ (nB_ BK437.out hb);replace BK438 := aM_ (nB_ BK438.out hb);replace HB := aM_ (sT_ HB.out hb);have z_13 := bR3_ BK438.out))
  go_loopg [5,16] k (fun kq v5 v16 w' => ∃ (x5_1 : List Int) (x16_1 : Int),v16 = .int .i64 x16_1 ∧ Aside0 (impl_Able.l0 kq x5_1 (l1_0.length : Int) x16_1 l0_0 l0_1 l1_0 l1_1 l1_2 = some r) ∧ Aside0 (kq ≤ k) ∧ Aside0 (Kd.R (Kd.int .i64) 3 w' w.heap.size (fun _ => True) v5 x5_1) ∧ Aside0 (w'.heap[gb437]? = some (.cells #[(.slice A0_0 l0_0.length c0_0),(.slice A0_1 l0_1.length c0_1)] 44 (0,0))) ∧ Aside0 (w'.heap[gb438]? = some (.cells #[(.slice A1_0 l1_0.length c1_0),(.slice A1_1 l1_1.length c1_1),(.slice A1_2 l1_2.length c1_2)] 28 (0,0))) ∧ Aside0 (Below w.heap.size w w'))
  case atStart => exact ⟨(y439),(0),(by first | rfl | (simp;done) | (simp [*];done)),H',⟨Nat.le_refl _⟩,⟨by (with_reducible repeat (first | apply rA_ | apply rN_ | apply rD_));exact HO441.out⟩,⟨rW_ BK437.out⟩,⟨rW_ BK438.out⟩,⟨gW_ HB.out⟩⟩
  case round =>
   clear H'
   (try clear c1);(try clear p2);(try clear c3);(try clear c4);(try clear c9);(try clear z_10);(try clear z_11);(try clear z_13)
   obtain ⟨x5_1,x16_1,rfl,HA,HK1,HO_5,BK437,BK438,HB⟩ := hrel
   cases gk with
   | zero => exact absurd HA.out (by simp [impl_Able.l0])
   | succ k1 =>
    have H := HA.out
    clear HA
    simp only [impl_Able.l0] at H
    by_cases c14 : x16_1 < (l1_0.length : Int)
    ·rw [if_pos c14] at H
     have c14b0 : decide (x16_1 < (l1_0.length : Int)) = true := decide_eq_true c14
     clear c14
     replace H := Option.bind_eq_some_iff.mp H
     obtain ⟨t443,A150,H⟩ := H
     replace H : (if t443 = 0 then (if x5_1.length < 17592186044416 then (impl_Able.l0 k1 (x5_1 ++ [x16_1]) (l1_0.length : Int) (wrap64 (x16_1 + 1)) l0_0 l0_1 l1_0 l1_1 l1_2) else (none)) else (impl_Able.l0 k1 x5_1 (l1_0.length : Int) (wrap64 (x16_1 + 1)) l0_0 l0_1 l1_0 l1_1 l1_2)) = some r := H
     have A15 := aM_ A150
     clear A150
     by_cases c16 : t443 = 0
     ·rw [if_pos c16] at H
      have c16b0 : (t443 == 0) = true := beq_iff_eq.mpr c16
      have c16b1 : (t443 != 0) = false := bne_eq_false_iff_eq.mpr c16
      clear c16
      by_cases c17 : x5_1.length < 17592186044416
      ·rw [if_pos c17] at H
       have LMc17 := aM_ c17
       clear c17
       obtain ⟨y444,hy444⟩ : ∃ y_ : List Int,y_ = (x5_1 ++ [x16_1]) := ⟨_,rfl⟩
       replace H : (impl_Able.l0 k1 y444 (l1_0.length : Int) (wrap64 (x16_1 + 1)) l0_0 l0_1 l1_0 l1_1 l1_2) = some r := by first | (rw [hy444];with_reducible exact H) | (have H2_ := (Option.bind_some _ _).symm.trans H;rw [hy444];with_reducible exact H2_) | (have H2_ := (Option.bind_some _ _).symm.trans H;with_reducible exact H2_) | with_reducible exact H | (rw [hy444];exact H) | exact H
       have Ny444 := aM_ hy444
       clear hy444
       have H' := aM_ H
       clear H
       have hnb18 := NB438_437.out
       have hnc18 := NB437_438.out
       have z_19 := bR3_ BK438.out
       have z_20 := bR2_ BK437.out
       go_wp2_with (first | (refine gL_ (some 21) Try.func100 #[.agg #[.slice A0_0 l0_0.length c0_0,.slice A0_1 l0_1.length c0_1],.pointer (some ⟨gb438,0,none⟩),.int .i64 x16_1] ?_;(with_reducible refine (impl_sourceCode.callsP gb438 _ _ l0_0 _ _ l0_1 _ _ l1_0 _ _ l1_1 _ _ l1_2 x16_1 t443 _ (by exact (by (with_reducible repeat (first | refine bN_ ?_ _ | refine bD_ ?_ | refine bA_ ?_ _));exact BK438.out)) (by repeat (first | exact (Kd.C_below HR0_0.out HB.out) | (with_reducible refine Kd.C_alloc ?_ _) | (with_reducible refine Kd.C_drewN ?_ _) | (with_reducible refine Kd.C_drew ?_))) (by exact HC0_0.out) (by repeat (first | exact (Kd.C_below HR0_1.out HB.out) | (with_reducible refine Kd.C_alloc ?_ _) | (with_reducible refine Kd.C_drewN ?_ _) | (with_reducible refine Kd.C_drew ?_))) (by exact HC0_1.out) (by repeat (first | exact (Kd.C_below HR1_0.out HB.out) | (with_reducible refine Kd.C_alloc ?_ _) | (with_reducible refine Kd.C_drewN ?_ _) | (with_reducible refine Kd.C_drew ?_))) (by exact HC1_0.out) (by repeat (first | exact (Kd.C_below HR1_1.out HB.out) | (with_reducible refine Kd.C_alloc ?_ _) | (with_reducible refine Kd.C_drewN ?_ _) | (with_reducible refine Kd.C_drew ?_))) (by exact HC1_1.out) (by repeat (first | exact (Kd.C_below HR1_2.out HB.out) | (with_reducible refine Kd.C_alloc ?_ _) | (with_reducible refine Kd.C_drewN ?_ _) | (with_reducible refine Kd.C_drew ?_))) (by exact HC1_2.out) A15.out).mono ?_);rintro e w21 ⟨rfl,hb⟩;refine ⟨_,rfl,?_⟩;replace HO_5 := aM_ (bR_ HO_5.out hb);replace BK437 := aM_ (nB_ BK437.out hb);replace BK438 := aM_ (nB_ BK438.out hb);replace HB := aM_ (sT_ HB.out hb)) | ((with_reducible refine gate_builtin (b := .append) (xs := #[.tmp 23,.tmp 25]) rfl ?_);at_builtin;refine Kd.R_append (Kd.int .i64) (w0 := w) w.heap.size rfl (.tmp 23) (.tmp 25) 31 3 (.int .i64 0) 8 rfl Try.underlying31 info3 rfl (by decide) (by omega) u5 x5_1 x16_1 [.int .i64 x16_1] (fun _ => True) (fun _ => False) rfl rfl ?aP (fun _ hk => hk.elim) ?aF ?aO ?aB ?aS ?aL ?_;(case aP => exact rfl);(case aB => exact (gB_ HB.out));(case aF => exact (fun _ _ => trivial));(case aO => exact (by (with_reducible repeat (first | apply rA_ | apply rN_ | apply rD_));exact HO_5.out));(case aS => exact (below_size (gB_ HB.out)));(case aL => have := LMc17.out;omega);intro v445 w22 ho hb hg hat;rw [← Ny444.out] at ho;have HO446 := aM_ (ho);replace BK437 := aM_ (blk_grown (g := gb437) (o := .cells #[.slice A0_0 l0_0.length c0_0,.slice A0_1 l0_1.length c0_1] 44 (0,0)) (by (with_reducible repeat (first | refine bN_ ?_ _ | refine bD_ ?_ | refine bA_ ?_ _));exact BK437.out) hg (Kd.R_ne HO_5.out BK437.out (by decide)));replace BK438 := aM_ (blk_grown (g := gb438) (o := .cells #[.slice A1_0 l1_0.length c1_0,.slice A1_1 l1_1.length c1_1,.slice A1_2 l1_2.length c1_2] 28 (0,0)) (by (with_reducible repeat (first | refine bN_ ?_ _ | refine bD_ ?_ | refine bA_ ?_ _));exact BK438.out) hg (Kd.R_ne HO_5.out BK438.out (by decide)));replace HB := aM_ (hb);clear HO_5;clear ho hb hg hat))
       go_roundg k1
       case measure => have := HK1.out;omega
       case rel => exact ⟨(y444),(wrap64 (x16_1 + 1)),(by first | rfl | (simp;done) | (simp [*];done)),H',⟨by have := HK1.out;omega⟩,⟨by (with_reducible repeat (first | apply rA_ | apply rN_ | apply rD_));exact HO446.out⟩,⟨rW_ BK437.out⟩,⟨rW_ BK438.out⟩,⟨gW_ HB.out⟩⟩
      ·rw [if_neg c17] at H
       exact absurd H (by simp)
     ·rw [if_neg c16] at H
      have c16b0 : (t443 == 0) = false := beq_eq_false_iff_ne.mpr c16
      have c16b1 : (t443 != 0) = true := bne_iff_ne.mpr c16
      have H' := aM_ H
      clear H
      have hnb23 := NB438_437.out
      have hnc23 := NB437_438.out
      have z_24 := bR3_ BK438.out
      have z_25 := bR2_ BK437.out
      go_wp2_with (first | (refine gL_ (some 21) Try.func100 #[.agg #[.slice A0_0 l0_0.length c0_0,.slice A0_1 l0_1.length c0_1],.pointer (some ⟨gb438,0,none⟩),.int .i64 x16_1] ?_;(with_reducible refine (impl_sourceCode.callsP gb438 _ _ l0_0 _ _ l0_1 _ _ l1_0 _ _ l1_1 _ _ l1_2 x16_1 t443 _ (by exact (by (with_reducible repeat (first | refine bN_ ?_ _ | refine bD_ ?_ | refine bA_ ?_ _));exact BK438.out)) (by repeat (first | exact (Kd.C_below HR0_0.out HB.out) | (with_reducible refine Kd.C_alloc ?_ _) | (with_reducible refine Kd.C_drewN ?_ _) | (with_reducible refine Kd.C_drew ?_))) (by exact HC0_0.out) (by repeat (first | exact (Kd.C_below HR0_1.out HB.out) | (with_reducible refine Kd.C_alloc ?_ _) | (with_reducible refine Kd.C_drewN ?_ _) | (with_reducible refine Kd.C_drew ?_))) (by exact HC0_1.out) (by repeat (first | exact (Kd.C_below HR1_0.out HB.out) | (with_reducible refine Kd.C_alloc ?_ _) | (with_reducible refine Kd.C_drewN ?_ _) | (with_reducible refine Kd.C_drew ?_))) (by exact HC1_0.out) (by repeat (first | exact (Kd.C_below HR1_1.out HB.out) | (with_reducible refine Kd.C_alloc ?_ _) | (with_reducible refine Kd.C_drewN ?_ _) | (with_reducible refine Kd.C_drew ?_))) (by exact HC1_1.out) (by repeat (first | exact (Kd.C_below HR1_2.out HB.out) | (with_reducible refine Kd.C_alloc ?_ _) | (with_reducible refine Kd.C_drewN ?_ _) | (with_reducible refine Kd.C_drew ?_))) (by exact HC1_2.out) A15.out).mono ?_);rintro e w26 ⟨rfl,hb⟩;refine ⟨_,rfl,?_⟩;replace HO_5 := aM_ (bR_ HO_5.out hb);replace BK437 := aM_ (nB_ BK437.out hb);replace BK438 := aM_ (nB_ BK438.out hb);replace HB := aM_ (sT_ HB.out hb)))
      go_roundg k1
      case measure => have := HK1.out;omega
      case rel => exact ⟨(x5_1),(wrap64 (x16_1 + 1)),(by first | rfl | (simp;done) | (simp [*];done)),H',⟨by have := HK1.out;omega⟩,⟨by (with_reducible repeat (first | apply rA_ | apply rN_ | apply rD_));exact HO_5.out⟩,⟨rW_ BK437.out⟩,⟨rW_ BK438.out⟩,⟨gW_ HB.out⟩⟩
    ·rw [if_neg c14] at H
     have c14b0 : decide (x16_1 < (l1_0.length : Int)) = false := decide_eq_false c14
     clear c14
     obtain rfl := sJ_ H
     go_wp2
     go_ret
     exact ⟨_,fR_,by (with_reducible repeat (first | apply rA_ | apply rN_ | apply rD_));exact HO_5.out,gB_ HB.out⟩
 ·replace c4 := Bool.eq_false_iff.mpr c4
  subst c4
  have H1 : (some y439) = some r := by rw [if_neg (show ¬ (false = true) by decide)] at H;exact H
  clear H
  have H := H1
  clear H1
  obtain rfl := sJ_ H
  go_enter Try.func38,Try.ntmps38
  go_wp2_with (first | (refine bX_ 2 (cs := #[.slice A0_0 l0_0.length c0_0,.slice A0_1 l0_1.length c0_1]) (t := 44) ?_;intro gb437 hg w27 hbox hb;have BK437 := aM_ (hbox);have GE437 := aM_ (sZ_ hg HB.out);replace HB := aM_ (sT_ HB.out hb);clear hb hbox hg) | (refine bX_ 3 (cs := #[.slice A1_0 l1_0.length c1_0,.slice A1_1 l1_1.length c1_1,.slice A1_2 l1_2.length c1_2]) (t := 28) ?_;intro gb438 hg w28 hbox hb;have BK438 := aM_ (hbox);have GE438 := aM_ (sZ_ hg HB.out);have NB437_438 := aM_ (nL_ hg BK437.out);have NB438_437 := aM_ (nG_ hg BK437.out);replace BK437 := aM_ (nB_ BK437.out hb);replace HB := aM_ (sT_ HB.out hb);clear hb hbox hg) | ((with_reducible refine gate_dst (N := 7) rfl ?_);refine Kd.R_lit (Kd.int .i64) _ 3 ?hg (N := 7) ?hd (xs := ([] : List Int)) (inner := []) (ok := fun _ => True) (okp := fun _ => True) ?hr ?hp (fun _ hk => hk) trivial (Below.refl _ _) (Nat.le_refl _) (by simp) ?_;(case hd => rfl);(case hg => rfl);(case hr => first | (go_simp;done) | (go_simp;rfl));(case hp => exact (Reps.none _ _));intro v440 w29 ho30 hb hg_ hnew_;clear hg_ hnew_;(first | rw [← Ny439.out] at ho30 | (simp only [Int.reduceToNat] at ho30;rw [← Ny439.out] at ho30));have HO441 := aM_ (Kd.R_lower ho30 (below_size (gB_ HB.out)));replace BK437 := aM_ (nB_ BK437.out hb);replace BK438 := aM_ (nB_ BK438.out hb);replace HB := aM_ (sT_ HB.out hb);clear hb ho30;have hnb31 := nn_ NB437_438 NB438_437;have z_32 := bR2_ BK437.out;have z_33 := bR3_ BK438.out) | (refine gL_ (some 10) Try.func98 #[.agg #[.slice A0_0 l0_0.length c0_0,.slice A0_1 l0_1.length c0_1],.agg #[.slice A1_0 l1_0.length c1_0,.slice A1_1 l1_1.length c1_1,.slice A1_2 l1_2.length c1_2]] ?_;(with_reducible refine (impl_SourceOk.calls k _ _ l0_0 _ _ l0_1 _ _ l1_0 _ _ l1_1 _ _ l1_2 false _ ?side1 HC0_0.out ?side3 HC0_1.out ?side5 HC1_0.out ?side7 HC1_1.out ?side9 HC1_2.out A3.out).mono ?_);(case side1 => exact cS_ (Kd.C_below HR0_0.out HB.out));(case side3 => exact cS_ (Kd.C_below HR0_1.out HB.out));(case side5 => exact cS_ (Kd.C_below HR1_0.out HB.out));(case side7 => exact cS_ (Kd.C_below HR1_1.out HB.out));(case side9 => exact cS_ (Kd.C_below HR1_2.out HB.out));rintro e w34 ⟨rfl,hb⟩;refine ⟨_,rfl,?_⟩;replace HO441 := aM_ (bR_ HO441.out hb);replace BK437 := aM_ (nB_ BK437.out hb);replace BK438 := aM_ (nB_ BK438.out hb);replace HB := aM_ (sT_ HB.out hb)))
  go_ret
  exact ⟨_,fR_,by (with_reducible repeat (first | apply rA_ | apply rN_ | apply rD_));exact HO441.out,gB_ HB.out⟩
end Go.Proofs.Ytobachfngmpeiaa.PFnExactAble
namespace Go.Proofs.Ytobachfngmpeiaa.Marks
open Go.RowKit Go.Proofs.YtobachfngmpeiaaW.PrintWords Go.Proofs.YtobachfngmpeiaaW.PrintLast Go.Proofs.YtobachfngmpeiaaW.PrintMore
set_option linter.unusedVariables false
def Sc (v v' : Value) : Prop := v' = v ∨ (∃ k n n',v = .int k n ∧ v' = .int k n') ∨ (∃ b b',v = .bool b ∧ v' = .bool b')
theorem Sc.refl (v : Value) : Sc v v := .inl rfl
theorem Sc.trans {a b c : Value} (h : Sc a b) (k : Sc b c) : Sc a c := by
 rcases h with rfl | ⟨_,_,_,rfl,rfl⟩ | ⟨_,_,rfl,rfl⟩
 ·exact k
 ·rcases k with rfl | ⟨_,_,n',h1,rfl⟩ | ⟨_,_,h1,_⟩
  ·exact .inr (.inl ⟨_,_,_,rfl,rfl⟩)
  ·cases h1
   exact .inr (.inl ⟨_,_,_,rfl,rfl⟩)
  ·cases h1
 ·rcases k with rfl | ⟨_,_,_,h1,_⟩ | ⟨_,b',h1,rfl⟩
  ·exact .inr (.inr ⟨_,_,rfl,rfl⟩)
  ·cases h1
  ·exact .inr (.inr ⟨_,_,rfl,rfl⟩)
def Mk (P : Nat → Prop) (w w' : World) : Prop := Kept w w' P ∧ Below 0 w w' ∧ ∀ (g : Nat) (cs : Array Value) (t : TypeId),w.heap[g]? = some (.cells cs t (0,0)) → ∃ cs' : Array Value,w'.heap[g]? = some (.cells cs' t (0,0)) ∧ ∀ (j : Nat) v,cs[j]? = some v → ∃ v',cs'[j]? = some v' ∧ Sc v v'
section
variable {P P' : Nat → Prop} {w w' w1 W : World}
theorem Mk.refl (P : Nat → Prop) (w : World) : Mk P w w := ⟨Kept.refl w P,Below.refl _ _,fun g cs t h => ⟨cs,h,fun j v hj => ⟨v,hj,Sc.refl v⟩⟩⟩
theorem Mk.trans (h : Mk P w w1) (k : Mk P w1 w') : Mk P w w' := by
 refine ⟨h.1.then_ k.1 (fun _ h2 => .inl h2),h.2.1.trans k.2.1,fun g cs t hg => ?_⟩
 obtain ⟨cs1,h1,e1⟩ := h.2.2 g cs t hg
 obtain ⟨cs2,h2,e2⟩ := k.2.2 g cs1 t h1
 refine ⟨cs2,h2,fun j v hj => ?_⟩
 obtain ⟨v1,hv1,s1⟩ := e1 j v hj
 obtain ⟨v2,hv2,s2⟩ := e2 j v1 hv1
 exact ⟨v2,hv2,s1.trans s2⟩
theorem Mk.mono (h : Mk P w w') (hp : ∀ k,P k → P' k) : Mk P' w w' := ⟨h.1.mono hp,h.2⟩
theorem Mk.drewN (h : Mk P w W) (n : Nat) : Mk P w (W.drewN n) := ⟨h.1,pw_below_drewN h.2.1 n,h.2.2⟩
theorem Mk.drew (h : Mk P w W) : Mk P w W.drew := ⟨h.1,below_drew h.2.1,h.2.2⟩
theorem Mk.below (h : Mk P w w') {B : Nat} (hB : B ≤ w.heap.size) (hP : ∀ k,P k → B ≤ k) : Below B w w' := ⟨h.2.1.os,h.2.1.tape,h.2.1.output,h.2.1.size,fun k hk => h.1.2 k (Nat.lt_of_lt_of_le hk hB) (fun hp => by have := hP k hp;omega)⟩
theorem below_set0 (W : World) (a : Addr) (u : Value) : Below 0 W (W.setCell a u) := ⟨rfl,rfl,rfl,by simp [World.setCell],fun k hk => by omega⟩
theorem Mk.of_below (hb : Below w.heap.size w w') : Mk P w w' := ⟨Kept.of_below hb P,hb.mono (Nat.zero_le _),fun g cs t hg => ⟨cs,(hb.block g (blk_lt hg)).trans hg,fun j v hj => ⟨v,hj,Sc.refl v⟩⟩⟩
theorem Mk.set (h : Mk P w W) {g o : Nat} (hP : P g) {v u : Value} (hc : W.cell? ⟨g,o,none⟩ = some v) (hs : Sc v u) : Mk P w (W.setCell ⟨g,o,none⟩ u) := by
 refine ⟨h.1.setCell (.inl hP) u,h.2.1.trans (below_set0 _ _ _),fun g' cs t hg => ?_⟩
 obtain ⟨cs1,h1,e1⟩ := h.2.2 g' cs t hg
 by_cases e : g' = g
 ·subst e
  refine ⟨_,blk_set h1 o u,fun j v0 hj => ?_⟩
  obtain ⟨v1,hv1,s1⟩ := e1 j v0 hj
  by_cases ej : j = o
  ·subst ej
   have hv : v1 = v := Option.some.inj (hv1.symm.trans ((blk_cell h1 j).symm.trans hc))
   subst hv
   have hlt : j < cs1.size := (Array.getElem?_eq_some_iff.1 hv1).1
   exact ⟨u,by rw [Array.getElem?_setIfInBounds_self];simp [hlt],s1.trans hs⟩
  ·exact ⟨v1,by rw [Array.getElem?_setIfInBounds_ne (Ne.symm ej)];exact hv1,s1⟩
 ·exact ⟨cs1,(Below.heap_setCell W ⟨g,o,none⟩ u g' e).trans h1,e1⟩
end
def IntAt (w : World) (g o : Nat) : Prop := ∃ (cs : Array Value) (t : TypeId) (n : Int),w.heap[g]? = some (.cells cs t (0,0)) ∧ cs[o]? = some (.int .i64 n)
def BoolAt (w : World) (g o : Nat) : Prop := ∃ (cs : Array Value) (t : TypeId) (b : Bool),w.heap[g]? = some (.cells cs t (0,0)) ∧ cs[o]? = some (.bool b)
def SlAt (w : World) (g o : Nat) (A : Option Addr) (n c : Nat) : Prop := ∃ (cs : Array Value) (t : TypeId),w.heap[g]? = some (.cells cs t (0,0)) ∧ cs[o]? = some (.slice A n c)
section
variable {P : Nat → Prop} {w w' : World} {g o n c : Nat} {A : Option Addr}
theorem IntAt.mk (h : IntAt w g o) (k : Mk P w w') : IntAt w' g o := by
 obtain ⟨cs,t,n,h1,h2⟩ := h
 obtain ⟨cs',h3,e⟩ := k.2.2 g cs t h1
 obtain ⟨v',h4,s⟩ := e o _ h2
 rcases s with rfl | ⟨_,_,n',h5,rfl⟩ | ⟨_,_,h5,_⟩
 ·exact ⟨cs',t,n,h3,h4⟩
 ·cases h5
  exact ⟨cs',t,n',h3,h4⟩
 ·cases h5
theorem BoolAt.mk (h : BoolAt w g o) (k : Mk P w w') : BoolAt w' g o := by
 obtain ⟨cs,t,n,h1,h2⟩ := h
 obtain ⟨cs',h3,e⟩ := k.2.2 g cs t h1
 obtain ⟨v',h4,s⟩ := e o _ h2
 rcases s with rfl | ⟨_,_,n',h5,rfl⟩ | ⟨_,b',h5,rfl⟩
 ·exact ⟨cs',t,n,h3,h4⟩
 ·cases h5
 ·exact ⟨cs',t,b',h3,h4⟩
theorem SlAt.mk (h : SlAt w g o A n c) (k : Mk P w w') : SlAt w' g o A n c := by
 obtain ⟨cs,t,h1,h2⟩ := h
 obtain ⟨cs',h3,e⟩ := k.2.2 g cs t h1
 obtain ⟨v',h4,s⟩ := e o _ h2
 rcases s with rfl | ⟨_,_,n',h5,rfl⟩ | ⟨_,b',h5,rfl⟩
 ·exact ⟨cs',t,h3,h4⟩
 ·cases h5
 ·cases h5
theorem IntAt.cell (h : IntAt w g o) : ∃ n,w.cell? ⟨g,o,none⟩ = some (.int .i64 n) ∧ w.frozen? ⟨g,o,none⟩ = false := by
 obtain ⟨cs,t,n,h1,h2⟩ := h
 exact ⟨n,(blk_cell h1 o).trans h2,blk_frozen h1 o⟩
theorem BoolAt.cell (h : BoolAt w g o) : ∃ n,w.cell? ⟨g,o,none⟩ = some (.bool n) ∧ w.frozen? ⟨g,o,none⟩ = false := by
 obtain ⟨cs,t,n,h1,h2⟩ := h
 exact ⟨n,(blk_cell h1 o).trans h2,blk_frozen h1 o⟩
theorem SlAt.cell (h : SlAt w g o A n c) : w.cell? ⟨g,o,none⟩ = some (.slice A n c) := by
 obtain ⟨cs,t,h1,h2⟩ := h
 exact (blk_cell h1 o).trans h2
end
abbrev Cel := Nat × Nat × Bool
def cellv (b : Bool) (k : Int) : Value := if b = true then .bool (decide (Int.tmod k 3 = 0)) else .int .i64 k
def writes : World → List Cel → Int → World
  | w,[],_ => w
  | w,c :: L,k => writes (w.setCell ⟨c.1,c.2.1,none⟩ (cellv c.2.2 k)) L (k + 1)
theorem writes_append : ∀ (L M : List Cel) (w : World) (k : Int),writes w (L ++ M) k = writes (writes w L k) M (k + L.length)
 | [],M,w,k => by simp [writes]
 | c :: L,M,w,k => by
  rw [List.cons_append,writes,writes,writes_append L M,List.length_cons]
  congr 1
  omega
theorem drewN_set (w : World) (n : Nat) (a : Addr) (v : Value) : (w.drewN n).setCell a v = (w.setCell a v).drewN n := rfl
theorem writes_drewN : ∀ (L : List Cel) (w : World) (n : Nat) (k : Int),writes (w.drewN n) L k = (writes w L k).drewN n
 | [],w,n,k => rfl
 | c :: L,w,n,k => by
  rw [writes,writes,drewN_set,writes_drewN L]
def Wr (w : World) (L : List Cel) (k : Int) (w' : World) : Prop := ∃ n,w' = (writes w L k).drewN n
section
variable {w w' w1 w2 : World} {L M : List Cel} {k k2 : Int}
theorem Wr.refl (w : World) (k : Int) : Wr w [] k w := ⟨0,rfl⟩
theorem Wr.drewN (h : Wr w L k w') (n : Nat) : Wr w L k (w'.drewN n) := by
 obtain ⟨m,rfl⟩ := h
 exact ⟨m + n,World.drewN_drewN ..⟩
theorem Wr.trans (h : Wr w L k w1) (h2 : Wr w1 M k2 w2) (e : k2 = k + L.length) : Wr w (L ++ M) k w2 := by
 obtain ⟨m,rfl⟩ := h
 obtain ⟨n,rfl⟩ := h2
 subst e
 rw [writes_drewN,← writes_append]
 exact ⟨m + n,World.drewN_drewN ..⟩
theorem Wr.set (h : Wr w L k w') {g o : Nat} (b : Bool) {v : Value} (e : v = cellv b (k + L.length)) : Wr w (L ++ [(g,o,b)]) k (w'.setCell ⟨g,o,none⟩ v) :=
 h.trans (k2 := k + L.length) (M := [(g,o,b)]) ⟨0,by subst e;rfl⟩ rfl
theorem Wr.cast (h : Wr w L k w') (e : L = M) : Wr w M k w' := e ▸ h
end
inductive Ty where
  | int | bool | pair (a b : Ty) | sl (a : Ty)
def Ty.sz : Ty → Nat
  | .int => 1
  | .bool => 1
  | .sl _ => 1
  | .pair a b => a.sz + b.sz
def cat (Ls : Nat → List Cel) (n : Nat) : List Cel := (List.range n).flatMap Ls
theorem cat_succ (Ls : Nat → List Cel) (n : Nat) : cat Ls (n + 1) = cat Ls n ++ Ls n := by simp [cat,List.range_succ]
theorem cat_le (Ls : Nat → List Cel) {j n : Nat} (h : j < n) : (cat Ls j).length + (Ls j).length ≤ (cat Ls n).length := by
 have h1 : ∀ d,(cat Ls (j + 1)).length ≤ (cat Ls (j + 1 + d)).length := by
  intro d
  induction d with
  | zero => exact Nat.le_refl _
  | succ d ih => rw [← Nat.add_assoc,cat_succ Ls (j + 1 + d),List.length_append];omega
 have h2 := h1 (n - (j + 1))
 rw [show j + 1 + (n - (j + 1)) = n by omega,cat_succ,List.length_append] at h2
 exact h2
def Vis (P : Nat → Prop) (w : World) : Ty → Nat → Nat → List Cel → Prop
  | .int,g,o,L => L = [(g,o,false)] ∧ IntAt w g o
  | .bool,g,o,L => L = [(g,o,true)] ∧ BoolAt w g o
  | .pair a b,g,o,L => ∃ L1 L2,L = L1 ++ L2 ∧ Vis P w a g o L1 ∧ Vis P w b g (o + a.sz) L2
  | .sl a,g,o,L => ∃ A n c,SlAt w g o A n c ∧ n ≤ 9223372036854775807 ∧ ∃ Ls,L = cat Ls n ∧ (0 < n → ∃ g',A = some ⟨g',0,none⟩ ∧ P g' ∧ ∀ i,i < n → Vis P w a g' (i * a.sz) (Ls i))
def RowV (P : Nat → Prop) (w : World) (a : Ty) (A : Option Addr) (n : Nat) (L : List Cel) : Prop := n ≤ 9223372036854775807 ∧ ∃ Ls,L = cat Ls n ∧ (0 < n → ∃ g',A = some ⟨g',0,none⟩ ∧ P g' ∧ ∀ i,i < n → Vis P w a g' (i * a.sz) (Ls i))
theorem Vis.mk {P Q : Nat → Prop} {w w' : World} (k : Mk Q w w') : ∀ {t : Ty} {g o : Nat} {L : List Cel},Vis P w t g o L → Vis P w' t g o L
 | .int,g,o,L,h => ⟨h.1,h.2.mk k⟩
 | .bool,g,o,L,h => ⟨h.1,h.2.mk k⟩
 | .pair a b,g,o,L,⟨L1,L2,e,h1,h2⟩ => ⟨L1,L2,e,Vis.mk k h1,Vis.mk k h2⟩
 | .sl a,g,o,L,⟨A,n,c,hs,hb,Ls,e,h⟩ => ⟨A,n,c,hs.mk k,hb,Ls,e,fun hn => by
  obtain ⟨g',e',hp,hi⟩ := h hn
  exact ⟨g',e',hp,fun i hl => Vis.mk k (hi i hl)⟩⟩
theorem RowV.mk {P Q : Nat → Prop} {w w' : World} (k : Mk Q w w') {t : Ty} {A : Option Addr} {n : Nat} {L : List Cel} (h : RowV P w t A n L) : RowV P w' t A n L := by
 obtain ⟨hb,Ls,e,h⟩ := h
 exact ⟨hb,Ls,e,fun hn => by
  obtain ⟨g',e',hp,hi⟩ := h hn
  exact ⟨g',e',hp,fun i hl => Vis.mk k (hi i hl)⟩⟩
def HeldAt (w : World) (L : List Cel) (k : Int) : Prop := ∀ (j : Nat) (c : Cel),L[j]? = some c → w.cell? ⟨c.1,c.2.1,none⟩ = some (cellv c.2.2 (k + j))
section
variable {w w' : World} {L M : List Cel} {k : Int}
theorem HeldAt.left (h : HeldAt w (L ++ M) k) : HeldAt w L k := fun j c hj => h j c (by rw [List.getElem?_append_left (List.getElem?_eq_some_iff.1 hj).1];exact hj)
theorem HeldAt.right (h : HeldAt w (L ++ M) k) : HeldAt w M (k + L.length) := fun j c hj => by
 have := h (L.length + j) c (by rw [List.getElem?_append_right (by omega),Nat.add_sub_cancel_left];exact hj)
 rw [this]
 congr 2
 push_cast
 omega
theorem HeldAt.one {g o : Nat} {b : Bool} (h : HeldAt w [(g,o,b)] k) : w.cell? ⟨g,o,none⟩ = some (cellv b k) := by
 have := h 0 (g,o,b) rfl
 simpa using this
theorem HeldAt.cat {Ls : Nat → List Cel} {n j : Nat} (h : HeldAt w (cat Ls n) k) (hj : j < n) : HeldAt w (Ls j) (k + (Marks.cat Ls j).length) := by
 have e : ∃ T,Marks.cat Ls n = Marks.cat Ls j ++ (Ls j ++ T) := by
  have h1 : ∀ d,∃ T,Marks.cat Ls (j + 1 + d) = Marks.cat Ls (j + 1) ++ T := by
   intro d
   induction d with
   | zero => exact ⟨[],by simp⟩
   | succ d ih =>
    obtain ⟨T,e⟩ := ih
    exact ⟨T ++ Ls (j + 1 + d),by rw [← Nat.add_assoc,cat_succ Ls (j + 1 + d),e,List.append_assoc]⟩
  obtain ⟨T,e⟩ := h1 (n - (j + 1))
  rw [show j + 1 + (n - (j + 1)) = n by omega,cat_succ,List.append_assoc] at e
  exact ⟨T,e⟩
 obtain ⟨T,e⟩ := e
 rw [e] at h
 exact h.right.left
end
theorem RowV.drewN {P : Nat → Prop} {w : World} {t : Ty} {A : Option Addr} {n : Nat} {L : List Cel} (h : RowV P w t A n L) (m : Nat) : RowV P (w.drewN m) t A n L := RowV.mk (Q := fun _ => False) ((Mk.refl _ w).drewN m) h
theorem HeldAt.drewN {w : World} {L : List Cel} {k : Int} (h : HeldAt w L k) (m : Nat) : HeldAt (w.drewN m) L k := h
theorem wrap_in {n : Int} (h0 : -9223372036854775808 ≤ n) (h1 : n ≤ 9223372036854775807) : wrap64 n = n := by
 unfold wrap64
 omega
end Go.Proofs.Ytobachfngmpeiaa.Marks
