/- A part of the proof that the law FnExactStuck holds for every input. -/
import Derived.Test.YtobachfngmpeiaaZFnExactStucka19
import Derived.Test.YtobachfngmpeiaaZFnExactStucka23
import Derived.Test.YtobachfngmpeiaaZFnExactStucks
namespace Go.Proofs.Ytobachfngmpeiaa.PFnExactStuck
open Go.RowKit Go.Proofs.YtobachfngmpeiaaW.PrintWords Go.Proofs.YtobachfngmpeiaaW.PrintLast Go.Proofs.YtobachfngmpeiaaW.PrintMore
attribute [local go_sem] max2_int min2_int max_two min_two max_three min_three max_four min_four   -- for this text's walks alone
set_option linter.unusedVariables false
set_option linter.unusedSimpArgs false
def impl_Able.l0 : Nat → List Int → Int → Int → List Int → List (List (S192)) → List (S107) → List (S94) → List (S35) → Option (List Int)
  | 0,_,_,_,_,_,_,_,_ => none
  | k + 1,x5,x15,x16,x432000,x432001,x433000,x433001,x433002 => if x16 < x15 then ((impl_sourceCode.f x432000 x432001 x433000 x433001 x433002 x16).bind fun t437 => (if t437 = 0 then (if x5.length < 17592186044416 then (impl_Able.l0 k (x5 ++ [x16]) x15 (wrap64 (x16 + 1)) x432000 x432001 x433000 x433001 x433002) else (none)) else (impl_Able.l0 k x5 x15 (wrap64 (x16 + 1)) x432000 x432001 x433000 x433001 x433002))) else (some x5)
def impl_Able.f (k : Nat) (l0_0 : List Int) (l0_1 : List (List (S192))) (l1_0 : List (S107)) (l1_1 : List (S94)) (l1_2 : List (S35)) : Option (List Int) := (some (([] : List Int) : List Int)).bind fun y433 => ((impl_SourceOk.f k l0_0 l0_1 l1_0 l1_1 l1_2).bind fun t436 => (if t436 = true then (impl_Able.l0 k y433 (l1_0.length : Int) 0 l0_0 l0_1 l1_0 l1_1 l1_2) else (some y433)))
set_option maxHeartbeats 8000000 in
set_option maxRecDepth 100000 in
theorem impl_Able.calls (k : Nat) (A0_0 : Option Addr) (c0_0 : Nat) (l0_0 : List Int) (A0_1 : Option Addr) (c0_1 : Nat) (l0_1 : List (List (S192))) (A1_0 : Option Addr) (c1_0 : Nat) (l1_0 : List (S107)) (A1_1 : Option Addr) (c1_1 : Nat) (l1_1 : List (S94)) (A1_2 : Option Addr) (c1_2 : Nat) (l1_2 : List (S35)) (r : List Int) (w : World) (hr0_0 : Kd.C (Kd.int .i64) w A0_0 l0_0.length l0_0) (hc0_0 : l0_0.length ≤ c0_0) (hr0_1 : Kd.C (Kd.slice 192 k192) w A0_1 l0_1.length l0_1) (hc0_1 : l0_1.length ≤ c0_1) (hr1_0 : Kd.C k107 w A1_0 l1_0.length l1_0) (hc1_0 : l1_0.length ≤ c1_0) (hr1_1 : Kd.C k94 w A1_1 l1_1.length l1_1) (hc1_1 : l1_1.length ≤ c1_1) (hr1_2 : Kd.C k35 w A1_2 l1_2.length l1_2) (hc1_2 : l1_2.length ≤ c1_2) (h : impl_Able.f k l0_0 l0_1 l1_0 l1_1 l1_2 = some r) :
  Calls Try.prog 38 #[.agg #[.slice A0_0 l0_0.length c0_0,.slice A0_1 l0_1.length c0_1],.agg #[.slice A1_0 l1_0.length c1_0,.slice A1_1 l1_1.length c1_1,.slice A1_2 l1_2.length c1_2]] w fun e w' => ∃ v0_ : Value,e = .returned (v0_) ∧ Kd.R (Kd.int .i64) 3 w' w.heap.size (fun _ => True) v0_ r ∧ Below w.heap.size w w' := by
 have hu44 := Try.underlying44
 have hu28 := Try.underlying28
 have HR0_0 := aM_ hr0_0
 have HC0_0 := aM_ hc0_0
 clear hr0_0 hc0_0
 have HR0_1 := aM_ hr0_1
 have HC0_1 := aM_ hc0_1
 clear hr0_1 hc0_1
 have HR1_0 := aM_ hr1_0
 have HC1_0 := aM_ hc1_0
 clear hr1_0 hc1_0
 have HR1_1 := aM_ hr1_1
 have HC1_1 := aM_ hc1_1
 clear hr1_1 hc1_1
 have HR1_2 := aM_ hr1_2
 have HC1_2 := aM_ hc1_2
 clear hr1_2 hc1_2
 have HB := aM_ (Below.refl w.heap.size w)
 have H : ((some (([] : List Int) : List Int)).bind fun y433 => ((impl_SourceOk.f k l0_0 l0_1 l1_0 l1_1 l1_2).bind fun t436 => (if t436 = true then (impl_Able.l0 k y433 (l1_0.length : Int) 0 l0_0 l0_1 l1_0 l1_1 l1_2) else (some y433)))) = some r := h
 clear h
 obtain ⟨y433,hy433⟩ : ∃ y_ : List Int,y_ = (([] : List Int)) := ⟨_,rfl⟩
 replace H : ((impl_SourceOk.f k l0_0 l0_1 l1_0 l1_1 l1_2).bind fun t436 => (if t436 = true then (impl_Able.l0 k y433 (l1_0.length : Int) 0 l0_0 l0_1 l1_0 l1_1 l1_2) else (some y433))) = some r := by first | (rw [hy433];with_reducible exact H) | (have H2_ := (Option.bind_some _ _).symm.trans H;rw [hy433];with_reducible exact H2_) | (have H2_ := (Option.bind_some _ _).symm.trans H;with_reducible exact H2_) | with_reducible exact H | (rw [hy433];exact H) | exact H
 have Ny433 := aM_ hy433
 clear hy433
 replace H := Option.bind_eq_some_iff.mp H
 obtain ⟨t436,A30,H⟩ := H
 replace H : (if t436 = true then (impl_Able.l0 k y433 (l1_0.length : Int) 0 l0_0 l0_1 l1_0 l1_1 l1_2) else (some y433)) = some r := H
 have A3 := aM_ A30
 clear A30
 by_cases c4 : t436 = true
 ·subst c4
  have H1 : (impl_Able.l0 k y433 (l1_0.length : Int) 0 l0_0 l0_1 l1_0 l1_1 l1_2) = some r := by rw [if_pos rfl] at H;exact H
  clear H
  have H := H1
  clear H1
  have H' := aM_ H
  clear H
  go_enter Try.func38,Try.ntmps38
  go_wp2_with (first | ((with_reducible refine gate_dst (N := 2) rfl ?_);refine bX_ 2 (cs := #[.slice A0_0 l0_0.length c0_0,.slice A0_1 l0_1.length c0_1]) (t := 44) ?_;intro gb431 hg w5 hbox hb;have BK431 := aM_ (hbox);have GE431 := aM_ (sZ_ hg HB.out);replace HB := aM_ (sT_ HB.out hb);clear hb hbox hg) | ((with_reducible refine gate_dst (N := 3) rfl ?_);refine bX_ 3 (cs := #[.slice A1_0 l1_0.length c1_0,.slice A1_1 l1_1.length c1_1,.slice A1_2 l1_2.length c1_2]) (t := 28) ?_;intro gb432 hg w6 hbox hb;have BK432 := aM_ (hbox);have GE432 := aM_ (sZ_ hg HB.out);have NB431_432 := aM_ (nL_ hg BK431.out);have NB432_431 := aM_ (nG_ hg BK431.out);replace BK431 := aM_ (nB_ BK431.out hb);replace HB := aM_ (sT_ HB.out hb);clear hb hbox hg) | ((with_reducible refine gate_dst (N := 7) rfl ?_);refine Kd.R_lit (Kd.int .i64) _ 3 ?hg (N := 7) ?hd (xs := ([] : List Int)) (inner := []) (ok := fun _ => True) (okp := fun _ => True) ?hr ?hp (fun _ hk => hk) trivial (Below.refl _ _) (Nat.le_refl _) (by simp) ?_;(case hd => rfl);(case hg => rfl);(case hr => first | (go_simp;done) | (go_simp;rfl));(case hp => exact (Reps.none _ _));intro v434 w7 ho8 hb hg_ hnew_;clear hg_ hnew_;(first | rw [← Ny433.out] at ho8 | (simp only [Int.reduceToNat] at ho8;rw [← Ny433.out] at ho8));have HO435 := aM_ (Kd.R_lower ho8 (below_size (gB_ HB.out)));replace BK431 := aM_ (nB_ BK431.out hb);replace BK432 := aM_ (nB_ BK432.out hb);replace HB := aM_ (sT_ HB.out hb);clear hb ho8;have hnb9 := NB431_432.out;have hnc9 := NB432_431.out;have z_10 := bR2_ BK431.out;have z_11 := bR3_ BK432.out) | ((with_reducible refine gate_callee (f := 98) rfl ?_);refine gL_ (some 10) Try.func98 #[.agg #[.slice A0_0 l0_0.length c0_0,.slice A0_1 l0_1.length c0_1],.agg #[.slice A1_0 l1_0.length c1_0,.slice A1_1 l1_1.length c1_1,.slice A1_2 l1_2.length c1_2]] ?_;(with_reducible refine (impl_SourceOk.calls k _ _ l0_0 _ _ l0_1 _ _ l1_0 _ _ l1_1 _ _ l1_2 true _ ?side1 ?side2 ?side3 ?side4 ?side5 ?side6 ?side7 ?side8 ?side9 ?side10 A3.out).mono ?_);(case side1 => exact cS_ (Kd.C_below HR0_0.out HB.out));(case side2 => exact HC0_0.out);(case side3 => exact cS_ (Kd.C_below HR0_1.out HB.out));(case side4 => exact HC0_1.out);(case side5 => exact cS_ (Kd.C_below HR1_0.out HB.out));(case side6 => exact HC1_0.out);(case side7 => exact cS_ (Kd.C_below HR1_1.out HB.out));(case side8 => exact HC1_1.out);(case side9 => exact cS_ (Kd.C_below HR1_2.out HB.out));(case side10 => exact HC1_2.out);rintro e w12 ⟨rfl,hb⟩;refine ⟨_,rfl,?_⟩;replace HO435 := aM_ (bR_ HO435.out hb);replace BK431 := aM_ (nB_ BK431.out hb);replace BK432 := aM_ (nB_ BK432.out hb);replace HB := aM_ (sT_ HB.out hb);have z_13 := bR3_ BK432.out))
  go_loopg [5,16] k (fun kq v5 v16 w' => ∃ (x5_1 : List Int) (x16_1 : Int),v16 = .int .i64 x16_1 ∧ Aside0 (impl_Able.l0 kq x5_1 (l1_0.length : Int) x16_1 l0_0 l0_1 l1_0 l1_1 l1_2 = some r) ∧ Aside0 (kq ≤ k) ∧ Aside0 (Kd.R (Kd.int .i64) 3 w' w.heap.size (fun _ => True) v5 x5_1) ∧ Aside0 (w'.heap[gb431]? = some (.cells #[(.slice A0_0 l0_0.length c0_0),(.slice A0_1 l0_1.length c0_1)] 44 (0,0))) ∧ Aside0 (w'.heap[gb432]? = some (.cells #[(.slice A1_0 l1_0.length c1_0),(.slice A1_1 l1_1.length c1_1),(.slice A1_2 l1_2.length c1_2)] 28 (0,0))) ∧ Aside0 (Below w.heap.size w w'))
  case atStart => exact ⟨(y433),(0),(by first | rfl | (simp;done) | (simp [*];done)),H',⟨Nat.le_refl _⟩,⟨by (with_reducible repeat (first | apply rA_ | apply rN_ | apply rD_));exact HO435.out⟩,⟨rW_ BK431.out⟩,⟨rW_ BK432.out⟩,⟨gW_ HB.out⟩⟩
  case round =>
   clear H'
   try clear c1
   try clear p2
   try clear c3
   try clear c4
   try clear c9
   try clear z_10
   try clear z_11
   try clear z_13
   obtain ⟨x5_1,x16_1,rfl,HA,HK1,HO_5,BK431,BK432,HB⟩ := hrel
   cases gk with
   | zero => exact absurd HA.out (by simp [impl_Able.l0])
   | succ k1 =>
    have H := HA.out
    clear HA
    simp only [impl_Able.l0] at H
    by_cases c14 : x16_1 < (l1_0.length : Int)
    ·rw [if_pos c14] at H
     have c14b0 : decide (x16_1 < (l1_0.length : Int)) = true := decide_eq_true c14
     clear c14
     replace H := Option.bind_eq_some_iff.mp H
     obtain ⟨t437,A150,H⟩ := H
     replace H : (if t437 = 0 then (if x5_1.length < 17592186044416 then (impl_Able.l0 k1 (x5_1 ++ [x16_1]) (l1_0.length : Int) (wrap64 (x16_1 + 1)) l0_0 l0_1 l1_0 l1_1 l1_2) else (none)) else (impl_Able.l0 k1 x5_1 (l1_0.length : Int) (wrap64 (x16_1 + 1)) l0_0 l0_1 l1_0 l1_1 l1_2)) = some r := H
     have A15 := aM_ A150
     clear A150
     by_cases c16 : t437 = 0
     ·rw [if_pos c16] at H
      have c16b0 : (t437 == 0) = true := beq_iff_eq.mpr c16
      have c16b1 : (t437 != 0) = false := bne_eq_false_iff_eq.mpr c16
      clear c16
      by_cases c17 : x5_1.length < 17592186044416
      ·rw [if_pos c17] at H
       have LMc17 := aM_ c17
       clear c17
       obtain ⟨y438,hy438⟩ : ∃ y_ : List Int,y_ = (x5_1 ++ [x16_1]) := ⟨_,rfl⟩
       replace H : (impl_Able.l0 k1 y438 (l1_0.length : Int) (wrap64 (x16_1 + 1)) l0_0 l0_1 l1_0 l1_1 l1_2) = some r := by first | (rw [hy438];with_reducible exact H) | (have H2_ := (Option.bind_some _ _).symm.trans H;rw [hy438];with_reducible exact H2_) | (have H2_ := (Option.bind_some _ _).symm.trans H;with_reducible exact H2_) | with_reducible exact H | (rw [hy438];exact H) | exact H
       have Ny438 := aM_ hy438
       clear hy438
       have H' := aM_ H
       clear H
       have hnb18 := NB432_431.out
       have hnc18 := NB431_432.out
       have z_19 := bR3_ BK432.out
       have z_20 := bR2_ BK431.out
       go_wp2_with (first | ((with_reducible refine gate_callee (f := 100) rfl ?_);refine gL_ (some 21) Try.func100 #[.agg #[.slice A0_0 l0_0.length c0_0,.slice A0_1 l0_1.length c0_1],.pointer (some ⟨gb432,0,none⟩),.int .i64 x16_1] ?_;(with_reducible refine (impl_sourceCode.callsP gb432 _ _ l0_0 _ _ l0_1 _ _ l1_0 _ _ l1_1 _ _ l1_2 x16_1 t437 _ (by exact (by (with_reducible repeat (first | refine bN_ ?_ _ | refine bD_ ?_ | refine bA_ ?_ _));exact BK432.out)) (by repeat (first | exact (Kd.C_below HR0_0.out HB.out) | (with_reducible refine Kd.C_alloc ?_ _) | (with_reducible refine Kd.C_drewN ?_ _) | (with_reducible refine Kd.C_drew ?_))) (by exact HC0_0.out) (by repeat (first | exact (Kd.C_below HR0_1.out HB.out) | (with_reducible refine Kd.C_alloc ?_ _) | (with_reducible refine Kd.C_drewN ?_ _) | (with_reducible refine Kd.C_drew ?_))) (by exact HC0_1.out) (by repeat (first | exact (Kd.C_below HR1_0.out HB.out) | (with_reducible refine Kd.C_alloc ?_ _) | (with_reducible refine Kd.C_drewN ?_ _) | (with_reducible refine Kd.C_drew ?_))) (by exact HC1_0.out) (by repeat (first | exact (Kd.C_below HR1_1.out HB.out) | (with_reducible refine Kd.C_alloc ?_ _) | (with_reducible refine Kd.C_drewN ?_ _) | (with_reducible refine Kd.C_drew ?_))) (by exact HC1_1.out) (by repeat (first | exact (Kd.C_below HR1_2.out HB.out) | (with_reducible refine Kd.C_alloc ?_ _) | (with_reducible refine Kd.C_drewN ?_ _) | (with_reducible refine Kd.C_drew ?_))) (by exact HC1_2.out) A15.out).mono ?_);rintro e w21 ⟨rfl,hb⟩;refine ⟨_,rfl,?_⟩;replace HO_5 := aM_ (bR_ HO_5.out hb);replace BK431 := aM_ (nB_ BK431.out hb);replace BK432 := aM_ (nB_ BK432.out hb);replace HB := aM_ (sT_ HB.out hb)) | ((with_reducible refine gate_builtin (b := .append) (xs := #[.tmp 23,.tmp 25]) rfl ?_);at_builtin;refine Kd.R_append (Kd.int .i64) (w0 := w) w.heap.size rfl (.tmp 23) (.tmp 25) 31 3 (.int .i64 0) 8 rfl Try.underlying31 info3 rfl (by decide) (by omega) u5 x5_1 x16_1 [.int .i64 x16_1] (fun _ => True) (fun _ => False) rfl rfl ?aP (fun _ hk => hk.elim) ?aF ?aO ?aB ?aS ?aL ?_;(case aP => exact rfl);(case aB => exact (gB_ HB.out));(case aF => exact (fun _ _ => trivial));(case aO => exact (by (with_reducible repeat (first | apply rA_ | apply rN_ | apply rD_));exact HO_5.out));(case aS => exact (below_size (gB_ HB.out)));(case aL => have := LMc17.out;omega);intro v439 w22 ho hb hg hat;rw [← Ny438.out] at ho;have HO440 := aM_ (ho);replace BK431 := aM_ (blk_grown (g := gb431) (o := .cells #[.slice A0_0 l0_0.length c0_0,.slice A0_1 l0_1.length c0_1] 44 (0,0)) (by (with_reducible repeat (first | refine bN_ ?_ _ | refine bD_ ?_ | refine bA_ ?_ _));exact BK431.out) hg (Kd.R_ne HO_5.out BK431.out (by decide)));replace BK432 := aM_ (blk_grown (g := gb432) (o := .cells #[.slice A1_0 l1_0.length c1_0,.slice A1_1 l1_1.length c1_1,.slice A1_2 l1_2.length c1_2] 28 (0,0)) (by (with_reducible repeat (first | refine bN_ ?_ _ | refine bD_ ?_ | refine bA_ ?_ _));exact BK432.out) hg (Kd.R_ne HO_5.out BK432.out (by decide)));replace HB := aM_ (hb);clear HO_5;clear ho hb hg hat))
       go_roundg k1
       case measure => have := HK1.out;omega
       case rel => exact ⟨(y438),(wrap64 (x16_1 + 1)),(by first | rfl | (simp;done) | (simp [*];done)),H',⟨by have := HK1.out;omega⟩,⟨by (with_reducible repeat (first | apply rA_ | apply rN_ | apply rD_));exact HO440.out⟩,⟨rW_ BK431.out⟩,⟨rW_ BK432.out⟩,⟨gW_ HB.out⟩⟩
      ·rw [if_neg c17] at H
       exact absurd H (by simp)
     ·rw [if_neg c16] at H
      have c16b0 : (t437 == 0) = false := beq_eq_false_iff_ne.mpr c16
      have c16b1 : (t437 != 0) = true := bne_iff_ne.mpr c16
      have H' := aM_ H
      clear H
      have hnb23 := NB432_431.out
      have hnc23 := NB431_432.out
      have z_24 := bR3_ BK432.out
      have z_25 := bR2_ BK431.out
      go_wp2_with (first | ((with_reducible refine gate_callee (f := 100) rfl ?_);refine gL_ (some 21) Try.func100 #[.agg #[.slice A0_0 l0_0.length c0_0,.slice A0_1 l0_1.length c0_1],.pointer (some ⟨gb432,0,none⟩),.int .i64 x16_1] ?_;(with_reducible refine (impl_sourceCode.callsP gb432 _ _ l0_0 _ _ l0_1 _ _ l1_0 _ _ l1_1 _ _ l1_2 x16_1 t437 _ (by exact (by (with_reducible repeat (first | refine bN_ ?_ _ | refine bD_ ?_ | refine bA_ ?_ _));exact BK432.out)) (by repeat (first | exact (Kd.C_below HR0_0.out HB.out) | (with_reducible refine Kd.C_alloc ?_ _) | (with_reducible refine Kd.C_drewN ?_ _) | (with_reducible refine Kd.C_drew ?_))) (by exact HC0_0.out) (by repeat (first | exact (Kd.C_below HR0_1.out HB.out) | (with_reducible refine Kd.C_alloc ?_ _) | (with_reducible refine Kd.C_drewN ?_ _) | (with_reducible refine Kd.C_drew ?_))) (by exact HC0_1.out) (by repeat (first | exact (Kd.C_below HR1_0.out HB.out) | (with_reducible refine Kd.C_alloc ?_ _) | (with_reducible refine Kd.C_drewN ?_ _) | (with_reducible refine Kd.C_drew ?_))) (by exact HC1_0.out) (by repeat (first | exact (Kd.C_below HR1_1.out HB.out) | (with_reducible refine Kd.C_alloc ?_ _) | (with_reducible refine Kd.C_drewN ?_ _) | (with_reducible refine Kd.C_drew ?_))) (by exact HC1_1.out) (by repeat (first | exact (Kd.C_below HR1_2.out HB.out) | (with_reducible refine Kd.C_alloc ?_ _) | (with_reducible refine Kd.C_drewN ?_ _) | (with_reducible refine Kd.C_drew ?_))) (by exact HC1_2.out) A15.out).mono ?_);rintro e w26 ⟨rfl,hb⟩;refine ⟨_,rfl,?_⟩;replace HO_5 := aM_ (bR_ HO_5.out hb);replace BK431 := aM_ (nB_ BK431.out hb);replace BK432 := aM_ (nB_ BK432.out hb);replace HB := aM_ (sT_ HB.out hb)))
      go_roundg k1
      case measure => have := HK1.out;omega
      case rel => exact ⟨(x5_1),(wrap64 (x16_1 + 1)),(by first | rfl | (simp;done) | (simp [*];done)),H',⟨by have := HK1.out;omega⟩,⟨by (with_reducible repeat (first | apply rA_ | apply rN_ | apply rD_));exact HO_5.out⟩,⟨rW_ BK431.out⟩,⟨rW_ BK432.out⟩,⟨gW_ HB.out⟩⟩
    ·rw [if_neg c14] at H
     have c14b0 : decide (x16_1 < (l1_0.length : Int)) = false := decide_eq_false c14
     clear c14
     obtain rfl := Option.some.inj H
     go_wp2
     go_ret
     exact ⟨_,fR_,by (with_reducible repeat (first | apply rA_ | apply rN_ | apply rD_));exact HO_5.out,gB_ HB.out⟩
 ·replace c4 := Bool.eq_false_iff.mpr c4
  subst c4
  have H1 : (some y433) = some r := by rw [if_neg (show ¬ (false = true) by decide)] at H;exact H
  clear H
  have H := H1
  clear H1
  obtain rfl := Option.some.inj H
  go_enter Try.func38,Try.ntmps38
  go_wp2_with (first | ((with_reducible refine gate_dst (N := 2) rfl ?_);refine bX_ 2 (cs := #[.slice A0_0 l0_0.length c0_0,.slice A0_1 l0_1.length c0_1]) (t := 44) ?_;intro gb431 hg w27 hbox hb;have BK431 := aM_ (hbox);have GE431 := aM_ (sZ_ hg HB.out);replace HB := aM_ (sT_ HB.out hb);clear hb hbox hg) | ((with_reducible refine gate_dst (N := 3) rfl ?_);refine bX_ 3 (cs := #[.slice A1_0 l1_0.length c1_0,.slice A1_1 l1_1.length c1_1,.slice A1_2 l1_2.length c1_2]) (t := 28) ?_;intro gb432 hg w28 hbox hb;have BK432 := aM_ (hbox);have GE432 := aM_ (sZ_ hg HB.out);have NB431_432 := aM_ (nL_ hg BK431.out);have NB432_431 := aM_ (nG_ hg BK431.out);replace BK431 := aM_ (nB_ BK431.out hb);replace HB := aM_ (sT_ HB.out hb);clear hb hbox hg) | ((with_reducible refine gate_dst (N := 7) rfl ?_);refine Kd.R_lit (Kd.int .i64) _ 3 ?hg (N := 7) ?hd (xs := ([] : List Int)) (inner := []) (ok := fun _ => True) (okp := fun _ => True) ?hr ?hp (fun _ hk => hk) trivial (Below.refl _ _) (Nat.le_refl _) (by simp) ?_;(case hd => rfl);(case hg => rfl);(case hr => first | (go_simp;done) | (go_simp;rfl));(case hp => exact (Reps.none _ _));intro v434 w29 ho30 hb hg_ hnew_;clear hg_ hnew_;(first | rw [← Ny433.out] at ho30 | (simp only [Int.reduceToNat] at ho30;rw [← Ny433.out] at ho30));have HO435 := aM_ (Kd.R_lower ho30 (below_size (gB_ HB.out)));replace BK431 := aM_ (nB_ BK431.out hb);replace BK432 := aM_ (nB_ BK432.out hb);replace HB := aM_ (sT_ HB.out hb);clear hb ho30;have hnb31 := NB431_432.out;have hnc31 := NB432_431.out;have z_32 := bR2_ BK431.out;have z_33 := bR3_ BK432.out) | ((with_reducible refine gate_callee (f := 98) rfl ?_);refine gL_ (some 10) Try.func98 #[.agg #[.slice A0_0 l0_0.length c0_0,.slice A0_1 l0_1.length c0_1],.agg #[.slice A1_0 l1_0.length c1_0,.slice A1_1 l1_1.length c1_1,.slice A1_2 l1_2.length c1_2]] ?_;(with_reducible refine (impl_SourceOk.calls k _ _ l0_0 _ _ l0_1 _ _ l1_0 _ _ l1_1 _ _ l1_2 false _ ?side1 ?side2 ?side3 ?side4 ?side5 ?side6 ?side7 ?side8 ?side9 ?side10 A3.out).mono ?_);(case side1 => exact cS_ (Kd.C_below HR0_0.out HB.out));(case side2 => exact HC0_0.out);(case side3 => exact cS_ (Kd.C_below HR0_1.out HB.out));(case side4 => exact HC0_1.out);(case side5 => exact cS_ (Kd.C_below HR1_0.out HB.out));(case side6 => exact HC1_0.out);(case side7 => exact cS_ (Kd.C_below HR1_1.out HB.out));(case side8 => exact HC1_1.out);(case side9 => exact cS_ (Kd.C_below HR1_2.out HB.out));(case side10 => exact HC1_2.out);rintro e w34 ⟨rfl,hb⟩;refine ⟨_,rfl,?_⟩;replace HO435 := aM_ (bR_ HO435.out hb);replace BK431 := aM_ (nB_ BK431.out hb);replace BK432 := aM_ (nB_ BK432.out hb);replace HB := aM_ (sT_ HB.out hb)))
  go_ret
  exact ⟨_,fR_,by (with_reducible repeat (first | apply rA_ | apply rN_ | apply rD_));exact HO435.out,gB_ HB.out⟩
mutual
def impl_Stuck.j0 : Nat → Bool → List (S107) → List (S94) → List (S35) → Option (Bool)
  | 0,_,_,_,_ => none
  | k + 1,x17,x443000,x443001,x443002 => if x17 = true then (some false) else (impl_Stuck.l0 k x443000 (x443000.length : Int) 0)
def impl_Stuck.l0 : Nat → List (S107) → Int → Int → Option (Bool)
  | 0,_,_,_ => none
  | k + 1,x19,x20,x21 => if x21 < x20 then (if 0 ≤ x21 then (if x21 < (x19.length : Int) then (if ((rd_T107 x19 x21).f2) = 0 then (some true) else (impl_Stuck.l0 k x19 x20 (wrap64 (x21 + 1)))) else (none)) else (none)) else (some false)
end
def impl_Stuck.f (k : Nat) (l0_0 : List Int) (l0_1 : List (List (S192))) (l1_0 : List (S107)) (l1_1 : List (S94)) (l1_2 : List (S35)) : Option (Bool) := (impl_SourceOk.f k l0_0 l0_1 l1_0 l1_1 l1_2).bind fun t443 => (if t443 = true then ((impl_Able.f k l0_0 l0_1 l1_0 l1_1 l1_2).bind fun t444 => (impl_Stuck.j0 k (decide ((t444.length : Int) > 0)) l1_0 l1_1 l1_2)) else (impl_Stuck.j0 k true l1_0 l1_1 l1_2))
set_option maxHeartbeats 8000000 in
set_option maxRecDepth 100000 in
theorem impl_Stuck.calls (k : Nat) (A0_0 : Option Addr) (c0_0 : Nat) (l0_0 : List Int) (A0_1 : Option Addr) (c0_1 : Nat) (l0_1 : List (List (S192))) (A1_0 : Option Addr) (c1_0 : Nat) (l1_0 : List (S107)) (A1_1 : Option Addr) (c1_1 : Nat) (l1_1 : List (S94)) (A1_2 : Option Addr) (c1_2 : Nat) (l1_2 : List (S35)) (r : Bool) (w : World) (hr0_0 : Kd.C (Kd.int .i64) w A0_0 l0_0.length l0_0) (hc0_0 : l0_0.length ≤ c0_0) (hr0_1 : Kd.C (Kd.slice 192 k192) w A0_1 l0_1.length l0_1) (hc0_1 : l0_1.length ≤ c0_1) (hr1_0 : Kd.C k107 w A1_0 l1_0.length l1_0) (hc1_0 : l1_0.length ≤ c1_0) (hr1_1 : Kd.C k94 w A1_1 l1_1.length l1_1) (hc1_1 : l1_1.length ≤ c1_1) (hr1_2 : Kd.C k35 w A1_2 l1_2.length l1_2) (hc1_2 : l1_2.length ≤ c1_2) (h : impl_Stuck.f k l0_0 l0_1 l1_0 l1_1 l1_2 = some r) :
  Calls Try.prog 36 #[.agg #[.slice A0_0 l0_0.length c0_0,.slice A0_1 l0_1.length c0_1],.agg #[.slice A1_0 l1_0.length c1_0,.slice A1_1 l1_1.length c1_1,.slice A1_2 l1_2.length c1_2]] w fun e w' => e = .returned (.bool r) ∧ Below w.heap.size w w' := by
 have hu44 := Try.underlying44
 have hu28 := Try.underlying28
 have hu107 := Try.underlying107
 have HR0_0 := aM_ hr0_0
 have HC0_0 := aM_ hc0_0
 clear hr0_0 hc0_0
 have HR0_1 := aM_ hr0_1
 have HC0_1 := aM_ hc0_1
 clear hr0_1 hc0_1
 have HR1_0 := aM_ hr1_0
 have HC1_0 := aM_ hc1_0
 clear hr1_0 hc1_0
 have HR1_1 := aM_ hr1_1
 have HC1_1 := aM_ hc1_1
 clear hr1_1 hc1_1
 have HR1_2 := aM_ hr1_2
 have HC1_2 := aM_ hc1_2
 clear hr1_2 hc1_2
 have HB := aM_ (Below.refl w.heap.size w)
 have H : ((impl_SourceOk.f k l0_0 l0_1 l1_0 l1_1 l1_2).bind fun t443 => (if t443 = true then ((impl_Able.f k l0_0 l0_1 l1_0 l1_1 l1_2).bind fun t444 => (impl_Stuck.j0 k (decide ((t444.length : Int) > 0)) l1_0 l1_1 l1_2)) else (impl_Stuck.j0 k true l1_0 l1_1 l1_2))) = some r := h
 clear h
 have HC3 := aM_ H
 clear H
 go_enter Try.func36,Try.ntmps36
 go_upto_region 1 with (first | ((with_reducible refine gate_dst (N := 2) rfl ?_);(try (refine gate_guard (by rfl) ?_;dsimp only));refine bX_ 2 (cs := #[.slice A0_0 l0_0.length c0_0,.slice A0_1 l0_1.length c0_1]) (t := 44) ?_;intro gb441 hg w4 hbox hb;have BK441 := aM_ (hbox);have GE441 := aM_ (sZ_ hg HB.out);replace HB := aM_ (sT_ HB.out hb);clear hb hbox hg) | ((with_reducible refine gate_dst (N := 3) rfl ?_);(try (refine gate_guard (by rfl) ?_;dsimp only));refine bX_ 3 (cs := #[.slice A1_0 l1_0.length c1_0,.slice A1_1 l1_1.length c1_1,.slice A1_2 l1_2.length c1_2]) (t := 28) ?_;intro gb442 hg w5 hbox hb;have BK442 := aM_ (hbox);have GE442 := aM_ (sZ_ hg HB.out);have NB441_442 := aM_ (nL_ hg BK441.out);have NB442_441 := aM_ (nG_ hg BK441.out);replace BK441 := aM_ (nB_ BK441.out hb);replace HB := aM_ (sT_ HB.out hb);clear hb hbox hg))
 (try simp only [Act.put,List.setIfInBounds_toArray,List.set_cons_zero,List.set_cons_succ])
 go_cut [17] (fun v17 wc => ∃ (kq : Nat) (x17_2 : Bool),v17 = .bool x17_2 ∧ Aside0 (impl_Stuck.j0 kq x17_2 l1_0 l1_1 l1_2 = some r) ∧ Aside0 (kq ≤ k) ∧ Aside0 (wc.heap[gb441]? = some (.cells #[(.slice A0_0 l0_0.length c0_0),(.slice A0_1 l0_1.length c0_1)] 44 (0,0))) ∧ Aside0 (wc.heap[gb442]? = some (.cells #[(.slice A1_0 l1_0.length c1_0),(.slice A1_1 l1_1.length c1_1),(.slice A1_2 l1_2.length c1_2)] 28 (0,0))) ∧ Aside0 (Below w.heap.size w wc))
 case first =>
  have H := HC3.out
  clear HC3
  replace H := Option.bind_eq_some_iff.mp H
  obtain ⟨t443,A60,H⟩ := H
  replace H : (if t443 = true then ((impl_Able.f k l0_0 l0_1 l1_0 l1_1 l1_2).bind fun t444 => (impl_Stuck.j0 k (decide ((t444.length : Int) > 0)) l1_0 l1_1 l1_2)) else (impl_Stuck.j0 k true l1_0 l1_1 l1_2)) = some r := H
  have A6 := aM_ A60
  clear A60
  by_cases c7 : t443 = true
  ·subst c7
   have H1 : ((impl_Able.f k l0_0 l0_1 l1_0 l1_1 l1_2).bind fun t444 => (impl_Stuck.j0 k (decide ((t444.length : Int) > 0)) l1_0 l1_1 l1_2)) = some r := by rw [if_pos rfl] at H;exact H
   clear H
   have H := H1
   clear H1
   replace H := Option.bind_eq_some_iff.mp H
   obtain ⟨t444,A80,H⟩ := H
   replace H : (impl_Stuck.j0 k (decide ((t444.length : Int) > 0)) l1_0 l1_1 l1_2) = some r := H
   have A8 := aM_ A80
   clear A80
   have H' := aM_ H
   clear H
   have hnb9 := NB441_442.out
   have hnc9 := NB442_441.out
   have z_10 := bR2_ BK441.out
   have z_11 := bR3_ BK442.out
   go_wp2_with (first | ((with_reducible refine gate_callee (f := 98) rfl ?_);refine gL_ (some 9) Try.func98 #[.agg #[.slice A0_0 l0_0.length c0_0,.slice A0_1 l0_1.length c0_1],.agg #[.slice A1_0 l1_0.length c1_0,.slice A1_1 l1_1.length c1_1,.slice A1_2 l1_2.length c1_2]] ?_;(with_reducible refine (impl_SourceOk.calls k _ _ l0_0 _ _ l0_1 _ _ l1_0 _ _ l1_1 _ _ l1_2 true _ ?side1 ?side2 ?side3 ?side4 ?side5 ?side6 ?side7 ?side8 ?side9 ?side10 A6.out).mono ?_);(case side1 => exact cS_ (Kd.C_below HR0_0.out HB.out));(case side2 => exact HC0_0.out);(case side3 => exact cS_ (Kd.C_below HR0_1.out HB.out));(case side4 => exact HC0_1.out);(case side5 => exact cS_ (Kd.C_below HR1_0.out HB.out));(case side6 => exact HC1_0.out);(case side7 => exact cS_ (Kd.C_below HR1_1.out HB.out));(case side8 => exact HC1_1.out);(case side9 => exact cS_ (Kd.C_below HR1_2.out HB.out));(case side10 => exact HC1_2.out);rintro e w12 ⟨rfl,hb⟩;refine ⟨_,rfl,?_⟩;replace BK441 := aM_ (nB_ BK441.out hb);replace BK442 := aM_ (nB_ BK442.out hb);replace HB := aM_ (sT_ HB.out hb);have z_13 := bR2_ BK441.out;have z_14 := bR3_ BK442.out) | (go_at_call 38;(with_reducible refine (impl_Able.calls k _ _ l0_0 _ _ l0_1 _ _ l1_0 _ _ l1_1 _ _ l1_2 t444 _ ?side1 ?side2 ?side3 ?side4 ?side5 ?side6 ?side7 ?side8 ?side9 ?side10 A8.out).mono ?_);(case side1 => exact cS_ (Kd.C_below HR0_0.out HB.out));(case side2 => exact HC0_0.out);(case side3 => exact cS_ (Kd.C_below HR0_1.out HB.out));(case side4 => exact HC0_1.out);(case side5 => exact cS_ (Kd.C_below HR1_0.out HB.out));(case side6 => exact HC1_0.out);(case side7 => exact cS_ (Kd.C_below HR1_1.out HB.out));(case side8 => exact HC1_1.out);(case side9 => exact cS_ (Kd.C_below HR1_2.out HB.out));(case side10 => exact HC1_2.out);rintro e w15 ⟨v445,rfl,ho0,hb⟩;have HO446 := aM_ (Kd.R_lower ho0 (below_size (gB_ HB.out)));replace BK441 := aM_ (nB_ BK441.out hb);replace BK442 := aM_ (nB_ BK442.out hb);replace HB := aM_ (sT_ HB.out hb);(try clear ho0);obtain ⟨Ao16,co16,eo16⟩ := Kd.R_slice HO446.out;subst eo16))
   go_meet
   case rel => exact ⟨_,(decide ((t444.length : Int) > 0)),(by first | rfl | (simp;done) | (simp [*];done)),H',⟨by first | omega | exact Nat.le_refl _⟩,⟨rW_ BK441.out⟩,⟨rW_ BK442.out⟩,⟨gW_ HB.out⟩⟩
  ·replace c7 := Bool.eq_false_iff.mpr c7
   subst c7
   have H1 : (impl_Stuck.j0 k true l1_0 l1_1 l1_2) = some r := by rw [if_neg (show ¬ (false = true) by decide)] at H;exact H
   clear H
   have H := H1
   clear H1
   have H' := aM_ H
   clear H
   have hnb17 := NB441_442.out
   have hnc17 := NB442_441.out
   have z_18 := bR2_ BK441.out
   have z_19 := bR3_ BK442.out
   go_wp2_with (first | ((with_reducible refine gate_callee (f := 98) rfl ?_);refine gL_ (some 9) Try.func98 #[.agg #[.slice A0_0 l0_0.length c0_0,.slice A0_1 l0_1.length c0_1],.agg #[.slice A1_0 l1_0.length c1_0,.slice A1_1 l1_1.length c1_1,.slice A1_2 l1_2.length c1_2]] ?_;(with_reducible refine (impl_SourceOk.calls k _ _ l0_0 _ _ l0_1 _ _ l1_0 _ _ l1_1 _ _ l1_2 false _ ?side1 ?side2 ?side3 ?side4 ?side5 ?side6 ?side7 ?side8 ?side9 ?side10 A6.out).mono ?_);(case side1 => exact cS_ (Kd.C_below HR0_0.out HB.out));(case side2 => exact HC0_0.out);(case side3 => exact cS_ (Kd.C_below HR0_1.out HB.out));(case side4 => exact HC0_1.out);(case side5 => exact cS_ (Kd.C_below HR1_0.out HB.out));(case side6 => exact HC1_0.out);(case side7 => exact cS_ (Kd.C_below HR1_1.out HB.out));(case side8 => exact HC1_1.out);(case side9 => exact cS_ (Kd.C_below HR1_2.out HB.out));(case side10 => exact HC1_2.out);rintro e w20 ⟨rfl,hb⟩;refine ⟨_,rfl,?_⟩;replace BK441 := aM_ (nB_ BK441.out hb);replace BK442 := aM_ (nB_ BK442.out hb);replace HB := aM_ (sT_ HB.out hb)))
   go_meet
   case rel => exact ⟨_,(true),(by first | rfl | (simp;done) | (simp [*];done)),H',⟨by first | omega | exact Nat.le_refl _⟩,⟨rW_ BK441.out⟩,⟨rW_ BK442.out⟩,⟨gW_ HB.out⟩⟩
 case rest =>
  clear HC3
  try clear c1
  try clear p2
  try clear c3
  try clear c7
  try clear c9
  try clear c17
  try clear z_10
  try clear z_11
  try clear z_13
  try clear z_14
  try clear z_18
  try clear z_19
  obtain ⟨kq,x17_2,rfl,HA,HJ2,BK441,BK442,HB⟩ := hcut
  cases kq with
  | zero => exact absurd HA.out (by simp [impl_Stuck.j0])
  | succ kj2 =>
   have H := HA.out
   clear HA
   simp only [impl_Stuck.j0] at H
   by_cases c21 : x17_2 = true
   ·subst c21
    have H1 : (some false) = some r := by rw [if_pos rfl] at H;exact H
    clear H
    have H := H1
    clear H1
    obtain rfl := Option.some.inj H
    go_wp2
    go_ret
    exact fI_ HB.out
   ·replace c21 := Bool.eq_false_iff.mpr c21
    subst c21
    have H1 : (impl_Stuck.l0 kj2 l1_0 (l1_0.length : Int) 0) = some r := by rw [if_neg (show ¬ (false = true) by decide)] at H;exact H
    clear H
    have H := H1
    clear H1
    have H' := aM_ H
    clear H
    have hnb22 := NB442_441.out
    have hnc22 := NB441_442.out
    have z_23 := bR3_ BK442.out
    go_wp2
    go_loopg [21] kj2 (fun kq v21 w' => ∃ (x21_2 : Int),v21 = .int .i64 x21_2 ∧ Aside0 (impl_Stuck.l0 kq l1_0 (l1_0.length : Int) x21_2 = some r) ∧ Aside0 (kq ≤ kj2) ∧ Aside0 (w'.heap[gb441]? = some (.cells #[(.slice A0_0 l0_0.length c0_0),(.slice A0_1 l0_1.length c0_1)] 44 (0,0))) ∧ Aside0 (w'.heap[gb442]? = some (.cells #[(.slice A1_0 l1_0.length c1_0),(.slice A1_1 l1_1.length c1_1),(.slice A1_2 l1_2.length c1_2)] 28 (0,0))) ∧ Aside0 (Below w.heap.size w w'))
    case atStart => exact ⟨(0),(by first | rfl | (simp;done) | (simp [*];done)),H',⟨Nat.le_refl _⟩,⟨rW_ BK441.out⟩,⟨rW_ BK442.out⟩,⟨gW_ HB.out⟩⟩
    case round =>
     clear H'
     try clear c1
     try clear c2
     try clear p2
     try clear c3
     try clear c7
     try clear c9
     try clear c17
     try clear c21
     try clear c22
     try clear z_10
     try clear z_11
     try clear z_13
     try clear z_14
     try clear z_18
     try clear z_19
     try clear z_23
     try clear p2
     obtain ⟨x21_2,rfl,HA,HK2,BK441,BK442,HB⟩ := hrel
     cases gk with
     | zero => exact absurd HA.out (by simp [impl_Stuck.l0])
     | succ k2 =>
      have H := HA.out
      clear HA
      simp only [impl_Stuck.l0] at H
      by_cases c24 : x21_2 < (l1_0.length : Int)
      ·rw [if_pos c24] at H
       have c24b0 : decide (x21_2 < (l1_0.length : Int)) = true := decide_eq_true c24
       clear c24
       by_cases c25 : 0 ≤ x21_2
       ·rw [if_pos c25] at H
        have c25b0 : decide (0 ≤ x21_2) = true := decide_eq_true c25
        clear c25
        by_cases c26 : x21_2 < (l1_0.length : Int)
        ·rw [if_pos c26] at H
         have c26b0 : decide (x21_2 < (l1_0.length : Int)) = true := decide_eq_true c26
         clear c26
         by_cases c27 : ((rd_T107 l1_0 x21_2).f2) = 0
         ·rw [if_pos c27] at H
          have c27b0 : (((rd_T107 l1_0 x21_2).f2) == 0) = true := beq_iff_eq.mpr c27
          have c27b1 : (((rd_T107 l1_0 x21_2).f2) != 0) = false := bne_eq_false_iff_eq.mpr c27
          clear c27
          obtain rfl := Option.some.inj H
          have p447 : 0 ≤ (x21_2 : Int) := of_decide_eq_true (by first | (with_reducible assumption) | assumption)
          have q447 : x21_2 < (l1_0.length : Int) := of_decide_eq_true (by first | (with_reducible assumption) | assumption)
          obtain ⟨ad447,A447_1,c447_1,e447,hx447_0,hx447_1,hx447_2,hl447_1,hi447_1⟩ := at_T107 HR1_0.out x21_2 p447 q447
          cases e447
          replace hx447_0 := cB_ HB.out hx447_0
          replace hx447_1 := cB_ HB.out hx447_1
          replace hx447_2 := cB_ HB.out hx447_2
          have HR447_1 := aM_ hi447_1
          have HC447_1 := aM_ hl447_1
          clear hi447_1 hl447_1
          replace p447 := eq_true p447
          replace q447 := eq_true q447
          go_wp2_with (first | ((with_reducible refine gate_dst (N := 6) rfl ?_);(try (refine gate_guard (by rfl) ?_;dsimp only));refine bX_ 6 (cs := #[.int .i64 0,.slice none 0 0,.int .i64 0]) (t := 107) ?_;intro gb448 hg w28 hbox hb;have BK448 := aM_ (hbox);have GE448 := aM_ (sZ_ hg HB.out);have NB441_448 := aM_ (nL_ hg BK441.out);have NB448_441 := aM_ (nG_ hg BK441.out);have NB442_448 := aM_ (nL_ hg BK442.out);have NB448_442 := aM_ (nG_ hg BK442.out);replace BK441 := aM_ (nB_ BK441.out hb);replace BK442 := aM_ (nB_ BK442.out hb);replace HB := aM_ (sT_ HB.out hb);clear hb hbox hg;have hnb29 := NB448_441.out;have hnc29 := NB441_448.out;have hnb30 := NB448_442.out;have hnc30 := NB442_448.out;have z_31 := bR3_ BK448.out))
          go_ret
          exact fI_ HB.out
         ·rw [if_neg c27] at H
          have c27b0 : (((rd_T107 l1_0 x21_2).f2) == 0) = false := beq_eq_false_iff_ne.mpr c27
          have c27b1 : (((rd_T107 l1_0 x21_2).f2) != 0) = true := bne_iff_ne.mpr c27
          have H' := aM_ H
          clear H
          have p447 : 0 ≤ (x21_2 : Int) := of_decide_eq_true (by first | (with_reducible assumption) | assumption)
          have q447 : x21_2 < (l1_0.length : Int) := of_decide_eq_true (by first | (with_reducible assumption) | assumption)
          obtain ⟨ad447,A447_1,c447_1,e447,hx447_0,hx447_1,hx447_2,hl447_1,hi447_1⟩ := at_T107 HR1_0.out x21_2 p447 q447
          cases e447
          replace hx447_0 := cB_ HB.out hx447_0
          replace hx447_1 := cB_ HB.out hx447_1
          replace hx447_2 := cB_ HB.out hx447_2
          have HR447_1 := aM_ hi447_1
          have HC447_1 := aM_ hl447_1
          clear hi447_1 hl447_1
          replace p447 := eq_true p447
          replace q447 := eq_true q447
          go_wp2_with (first | ((with_reducible refine gate_dst (N := 6) rfl ?_);(try (refine gate_guard (by rfl) ?_;dsimp only));refine bX_ 6 (cs := #[.int .i64 0,.slice none 0 0,.int .i64 0]) (t := 107) ?_;intro gb448 hg w32 hbox hb;have BK448 := aM_ (hbox);have GE448 := aM_ (sZ_ hg HB.out);have NB441_448 := aM_ (nL_ hg BK441.out);have NB448_441 := aM_ (nG_ hg BK441.out);have NB442_448 := aM_ (nL_ hg BK442.out);have NB448_442 := aM_ (nG_ hg BK442.out);replace BK441 := aM_ (nB_ BK441.out hb);replace BK442 := aM_ (nB_ BK442.out hb);replace HB := aM_ (sT_ HB.out hb);clear hb hbox hg;have hnb33 := NB448_441.out;have hnc33 := NB441_448.out;have hnb34 := NB448_442.out;have hnc34 := NB442_448.out;have z_35 := bR3_ BK448.out))
          go_roundg k2
          case measure => have := HJ2.out;have := HK2.out;omega
          case rel => exact ⟨(wrap64 (x21_2 + 1)),(by first | rfl | (simp;done) | (simp [*];done)),H',⟨by have := HJ2.out;have := HK2.out;omega⟩,⟨rWf_ BK441.out⟩,⟨rWf_ BK442.out⟩,⟨gW_ HB.out⟩⟩
        ·rw [if_neg c26] at H
         exact absurd H (by simp)
       ·rw [if_neg c25] at H
        exact absurd H (by simp)
      ·rw [if_neg c24] at H
       have c24b0 : decide (x21_2 < (l1_0.length : Int)) = false := decide_eq_false c24
       clear c24
       obtain rfl := Option.some.inj H
       go_wp2
       go_ret
       exact fI_ HB.out
end Go.Proofs.Ytobachfngmpeiaa.PFnExactStuck
