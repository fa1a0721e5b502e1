/- Part of the proof of FnExactAble. -/
import Derived.Test.YtobachfngmpeiaaZFnExactAblea17
import Derived.Test.YtobachfngmpeiaaZFnExactAbles
set_option maxRecDepth 100000
namespace Go.Proofs.Ytobachfngmpeiaa.PFnExactAble
open Go.RowKit Go.Proofs.YtobachfngmpeiaaW.PrintWords Go.Proofs.YtobachfngmpeiaaW.PrintLast Go.Proofs.YtobachfngmpeiaaW.PrintMore
attribute [local go_sem] max2_int min2_int max_two min_two max_three min_three max_four min_four   -- for this text's walks alone
set_option linter.unusedVariables false
set_option linter.unusedSimpArgs false
mutual
def spec_Able.l0 : Nat → List Int → Int → List Int → List (List (S192)) → List (S107) → List (S94) → List (S35) → Option (List Int)
  | 0,_,_,_,_,_,_,_ => none
  | k + 1,x5,x6,x367000,x367001,x368000,x368001,x368002 => if x6 < (x368000.length : Int) then ((spec_SourceOk.f k x367000 x367001 x368000 x368001 x368002).bind fun t371 => (spec_Able.j1 k x5 x6 t371 x367000 x367001 x368000 x368001 x368002)) else (spec_Able.j1 k x5 x6 false x367000 x367001 x368000 x368001 x368002)
def spec_Able.j1 : Nat → List Int → Int → Bool → List Int → List (List (S192)) → List (S107) → List (S94) → List (S35) → Option (List Int)
  | 0,_,_,_,_,_,_,_,_ => none
  | k + 1,x5,x6,x19,x367000,x367001,x368000,x368001,x368002 => if x19 = true then ((spec_SourceStep.f k x367000 x367001 x368000 x368001 x368002 x6).bind fun bt372 => (if bt372.2.2.2 = 0 then (if x5.length < 17592186044416 then (spec_Able.l0 k (x5 ++ [x6]) (wrap64 (x6 + 1)) x367000 x367001 x368000 x368001 x368002) else (none)) else (spec_Able.l0 k x5 (wrap64 (x6 + 1)) x367000 x367001 x368000 x368001 x368002))) else (some x5)
end
def spec_Able.f (k : Nat) (l0_0 : List Int) (l0_1 : List (List (S192))) (l1_0 : List (S107)) (l1_1 : List (S94)) (l1_2 : List (S35)) : Option (List Int) := spec_Able.l0 k (([] : List Int)) 0 l0_0 l0_1 l1_0 l1_1 l1_2
set_option maxHeartbeats 8000000 in
theorem spec_Able.calls (k : Nat) (A0_0 : Option Addr) (c0_0 : Nat) (l0_0 : List Int) (A0_1 : Option Addr) (c0_1 : Nat) (l0_1 : List (List (S192))) (A1_0 : Option Addr) (c1_0 : Nat) (l1_0 : List (S107)) (A1_1 : Option Addr) (c1_1 : Nat) (l1_1 : List (S94)) (A1_2 : Option Addr) (c1_2 : Nat) (l1_2 : List (S35)) (r : List Int) (w : World) (hr0_0 : Kd.C (Kd.int .i64) w A0_0 l0_0.length l0_0) (hc0_0 : l0_0.length ≤ c0_0) (hr0_1 : Kd.C (Kd.slice 192 k192) w A0_1 l0_1.length l0_1) (hc0_1 : l0_1.length ≤ c0_1) (hr1_0 : Kd.C k107 w A1_0 l1_0.length l1_0) (hc1_0 : l1_0.length ≤ c1_0) (hr1_1 : Kd.C k94 w A1_1 l1_1.length l1_1) (hc1_1 : l1_1.length ≤ c1_1) (hr1_2 : Kd.C k35 w A1_2 l1_2.length l1_2) (hc1_2 : l1_2.length ≤ c1_2) (h : spec_Able.f k l0_0 l0_1 l1_0 l1_1 l1_2 = some r) :
  Calls Try.prog 37 #[.agg #[.slice A0_0 l0_0.length c0_0,.slice A0_1 l0_1.length c0_1],.agg #[.slice A1_0 l1_0.length c1_0,.slice A1_1 l1_1.length c1_1,.slice A1_2 l1_2.length c1_2]] w fun e w' => ∃ v0_ : Value,e = .returned (v0_) ∧ Kd.R (Kd.int .i64) 3 w' w.heap.size (fun _ => True) v0_ r ∧ Below w.heap.size w w' := by
 have hu44 := Try.underlying44
 have hu28 := Try.underlying28
 have HR0_0 := aM_ hr0_0
 have HC0_0 := aM_ hc0_0
 clear hr0_0 hc0_0
 have HR0_1 := aM_ hr0_1
 have HC0_1 := aM_ hc0_1
 clear hr0_1 hc0_1
 have HR1_0 := aM_ hr1_0
 have HC1_0 := aM_ hc1_0
 clear hr1_0 hc1_0
 have HR1_1 := aM_ hr1_1
 have HC1_1 := aM_ hc1_1
 clear hr1_1 hc1_1
 have HR1_2 := aM_ hr1_2
 have HC1_2 := aM_ hc1_2
 clear hr1_2 hc1_2
 have HB := aM_ (Below.refl w.heap.size w)
 have H : (spec_Able.l0 k (([] : List Int)) 0 l0_0 l0_1 l1_0 l1_1 l1_2) = some r := h
 clear h
 obtain ⟨y368,hy368⟩ : ∃ y_ : List Int,y_ = (([] : List Int)) := ⟨_,rfl⟩
 replace H : (spec_Able.l0 k y368 0 l0_0 l0_1 l1_0 l1_1 l1_2) = some r := by first | (rw [hy368];with_reducible exact H) | (have H2_ := (Option.bind_some _ _).symm.trans H;rw [hy368];with_reducible exact H2_) | (have H2_ := (Option.bind_some _ _).symm.trans H;with_reducible exact H2_) | with_reducible exact H | (rw [hy368];exact H) | exact H
 have Ny368 := aM_ hy368
 clear hy368
 have H' := aM_ H
 clear H
 go_enter Try.func37,Try.ntmps37
 go_wp2_with (first | (refine bX_ 2 (cs := #[.slice A0_0 l0_0.length c0_0,.slice A0_1 l0_1.length c0_1]) (t := 44) ?_;intro gb366 hg w3 hbox hb;have BK366 := aM_ (hbox);have GE366 := aM_ (sZ_ hg HB.out);replace HB := aM_ (sT_ HB.out hb);clear hb hbox hg) | (refine bX_ 3 (cs := #[.slice A1_0 l1_0.length c1_0,.slice A1_1 l1_1.length c1_1,.slice A1_2 l1_2.length c1_2]) (t := 28) ?_;intro gb367 hg w4 hbox hb;have BK367 := aM_ (hbox);have GE367 := aM_ (sZ_ hg HB.out);have NB366_367 := aM_ (nL_ hg BK366.out);have NB367_366 := aM_ (nG_ hg BK366.out);replace BK366 := aM_ (nB_ BK366.out hb);replace HB := aM_ (sT_ HB.out hb);clear hb hbox hg) | ((with_reducible refine gate_dst (N := 9) rfl ?_);refine Kd.R_lit (Kd.int .i64) _ 3 ?hg (N := 9) ?hd (xs := ([] : List Int)) (inner := []) (ok := fun _ => True) (okp := fun _ => True) ?hr ?hp (fun _ hk => hk) trivial (Below.refl _ _) (Nat.le_refl _) (by simp) ?_;(case hd => rfl);(case hg => rfl);(case hr => first | (go_simp;done) | (go_simp;rfl));(case hp => exact (Reps.none _ _));intro v369 w5 ho6 hb hg_ hnew_;clear hg_ hnew_;(first | rw [← Ny368.out] at ho6 | (simp only [Int.reduceToNat] at ho6;rw [← Ny368.out] at ho6));have HO370 := aM_ (Kd.R_lower ho6 (below_size (gB_ HB.out)));replace BK366 := aM_ (nB_ BK366.out hb);replace BK367 := aM_ (nB_ BK367.out hb);replace HB := aM_ (sT_ HB.out hb);clear hb ho6))
 go_loopg [5,6] k (fun kq v5 v6 w' => ∃ (x5_1 : List Int) (x6_1 : Int),v6 = .int .i64 x6_1 ∧ Aside0 (spec_Able.l0 kq x5_1 x6_1 l0_0 l0_1 l1_0 l1_1 l1_2 = some r) ∧ Aside0 (kq ≤ k) ∧ Aside0 (Kd.R (Kd.int .i64) 3 w' w.heap.size (fun _ => True) v5 x5_1) ∧ Aside0 (w'.heap[gb366]? = some (.cells #[(.slice A0_0 l0_0.length c0_0),(.slice A0_1 l0_1.length c0_1)] 44 (0,0))) ∧ Aside0 (w'.heap[gb367]? = some (.cells #[(.slice A1_0 l1_0.length c1_0),(.slice A1_1 l1_1.length c1_1),(.slice A1_2 l1_2.length c1_2)] 28 (0,0))) ∧ Aside0 (Below w.heap.size w w'))
 case atStart => exact ⟨(y368),(0),(by first | rfl | (simp;done) | (simp [*];done)),H',⟨Nat.le_refl _⟩,⟨by (with_reducible repeat (first | apply rA_ | apply rN_ | apply rD_));exact HO370.out⟩,⟨rW_ BK366.out⟩,⟨rW_ BK367.out⟩,⟨gW_ HB.out⟩⟩
 case round =>
  clear H'
  (try clear c1);(try clear p2);(try clear c3)
  obtain ⟨x5_1,x6_1,rfl,HA,HK1,HO_5,BK366,BK367,HB⟩ := hrel
  cases gk with
  | zero => exact absurd HA.out (by simp [spec_Able.l0])
  | succ k1 =>
   have H := HA.out
   clear HA
   simp only [spec_Able.l0] at H
   have HC7 := aM_ H
   clear H
   go_upto_region 3 with (fail)
   go_cut [19] (fun v19 wc => ∃ (kq : Nat) (x19_6 : Bool),v19 = .bool x19_6 ∧ Aside0 (spec_Able.j1 kq x5_1 x6_1 x19_6 l0_0 l0_1 l1_0 l1_1 l1_2 = some r) ∧ Aside0 (kq ≤ k1) ∧ Aside0 (Kd.R (Kd.int .i64) 3 wc w.heap.size (fun _ => True) u5 x5_1) ∧ Aside0 (wc.heap[gb366]? = some (.cells #[(.slice A0_0 l0_0.length c0_0),(.slice A0_1 l0_1.length c0_1)] 44 (0,0))) ∧ Aside0 (wc.heap[gb367]? = some (.cells #[(.slice A1_0 l1_0.length c1_0),(.slice A1_1 l1_1.length c1_1),(.slice A1_2 l1_2.length c1_2)] 28 (0,0))) ∧ Aside0 (Below w.heap.size w wc))
   case first =>
    have H := HC7.out
    clear HC7
    by_cases c8 : x6_1 < (l1_0.length : Int)
    ·rw [if_pos c8] at H
     have c8b0 : decide (x6_1 < (l1_0.length : Int)) = true := decide_eq_true c8
     clear c8
     (first | rw [c8b0] | (simp only [i64_w,i32_w];rw [c8b0]) | skip)
     replace H := Option.bind_eq_some_iff.mp H
     obtain ⟨t371,A90,H⟩ := H
     replace H : (spec_Able.j1 k1 x5_1 x6_1 t371 l0_0 l0_1 l1_0 l1_1 l1_2) = some r := H
     have A9 := aM_ A90
     clear A90
     have H' := aM_ H
     clear H
     have hnb10 := NB367_366.out
     have hnc10 := NB366_367.out
     have z_11 := bR3_ BK367.out
     have z_12 := bR2_ BK366.out
     go_wp2_with (first | (go_at_call 94;(with_reducible refine (spec_SourceOk.calls k1 _ _ l0_0 _ _ l0_1 _ _ l1_0 _ _ l1_1 _ _ l1_2 t371 _ ?side1 HC0_0.out ?side3 HC0_1.out ?side5 HC1_0.out ?side7 HC1_1.out ?side9 HC1_2.out A9.out).mono ?_);(case side1 => exact cS_ (Kd.C_below HR0_0.out HB.out));(case side3 => exact cS_ (Kd.C_below HR0_1.out HB.out));(case side5 => exact cS_ (Kd.C_below HR1_0.out HB.out));(case side7 => exact cS_ (Kd.C_below HR1_1.out HB.out));(case side9 => exact cS_ (Kd.C_below HR1_2.out HB.out));rintro e w13 ⟨rfl,hb⟩;replace HO_5 := aM_ (bR_ HO_5.out hb);replace BK366 := aM_ (nB_ BK366.out hb);replace BK367 := aM_ (nB_ BK367.out hb);replace HB := aM_ (sT_ HB.out hb)))
     go_meet
     case rel => exact ⟨_,(t371),(by first | rfl | (simp;done) | (simp [*];done)),H',⟨by have := HK1.out;first | omega | exact Nat.le_refl _⟩,⟨by (with_reducible repeat (first | apply rA_ | apply rN_ | apply rD_));exact HO_5.out⟩,⟨rW_ BK366.out⟩,⟨rW_ BK367.out⟩,⟨gW_ HB.out⟩⟩
    ·rw [if_neg c8] at H
     have c8b0 : decide (x6_1 < (l1_0.length : Int)) = false := decide_eq_false c8
     clear c8
     (first | rw [c8b0] | (simp only [i64_w,i32_w];rw [c8b0]) | skip)
     have H' := aM_ H
     clear H
     have hnb14 := NB367_366.out
     have hnc14 := NB366_367.out
     have z_15 := bR3_ BK367.out
     go_wp2
     go_meet
     case rel => exact ⟨_,(false),(by first | rfl | (simp;done) | (simp [*];done)),H',⟨by have := HK1.out;first | omega | exact Nat.le_refl _⟩,⟨by (with_reducible repeat (first | apply rA_ | apply rN_ | apply rD_));exact HO_5.out⟩,⟨rW_ BK366.out⟩,⟨rW_ BK367.out⟩,⟨gW_ HB.out⟩⟩
   case rest =>
    clear HC7
    (try clear c1);(try clear p2);(try clear c3);(try clear c8);(try clear c8b0);(try clear c10);(try clear c14);(try clear z_11);(try clear z_12);(try clear z_15);(try clear p2)
    obtain ⟨kq,x19_6,rfl,HA,HJ6,HO_5,BK366,BK367,HB⟩ := hcut
    cases kq with
    | zero => exact absurd HA.out (by simp [spec_Able.j1])
    | succ kj6 =>
     have H := HA.out
     clear HA
     simp only [spec_Able.j1] at H
     by_cases c16 : x19_6 = true
     ·subst c16
      have H1 : ((spec_SourceStep.f kj6 l0_0 l0_1 l1_0 l1_1 l1_2 x6_1).bind fun bt372 => (if bt372.2.2.2 = 0 then (if x5_1.length < 17592186044416 then (spec_Able.l0 kj6 (x5_1 ++ [x6_1]) (wrap64 (x6_1 + 1)) l0_0 l0_1 l1_0 l1_1 l1_2) else (none)) else (spec_Able.l0 kj6 x5_1 (wrap64 (x6_1 + 1)) l0_0 l0_1 l1_0 l1_1 l1_2))) = some r := by rw [if_pos rfl] at H;exact H
      clear H
      have H := H1
      clear H1
      replace H := Option.bind_eq_some_iff.mp H
      obtain ⟨⟨t372,t375,t378,t381⟩,A170,H⟩ := H
      replace H : (if t381 = 0 then (if x5_1.length < 17592186044416 then (spec_Able.l0 kj6 (x5_1 ++ [x6_1]) (wrap64 (x6_1 + 1)) l0_0 l0_1 l1_0 l1_1 l1_2) else (none)) else (spec_Able.l0 kj6 x5_1 (wrap64 (x6_1 + 1)) l0_0 l0_1 l1_0 l1_1 l1_2)) = some r := H
      have A17 := aM_ A170
      clear A170
      by_cases c18 : t381 = 0
      ·rw [if_pos c18] at H
       have c18b0 : (t381 == 0) = true := beq_iff_eq.mpr c18
       have c18b1 : (t381 != 0) = false := bne_eq_false_iff_eq.mpr c18
       clear c18
       by_cases c19 : x5_1.length < 17592186044416
       ·rw [if_pos c19] at H
        have LMc19 := aM_ c19
        clear c19
        obtain ⟨y383,hy383⟩ : ∃ y_ : List Int,y_ = (x5_1 ++ [x6_1]) := ⟨_,rfl⟩
        replace H : (spec_Able.l0 kj6 y383 (wrap64 (x6_1 + 1)) l0_0 l0_1 l1_0 l1_1 l1_2) = some r := by first | (rw [hy383];with_reducible exact H) | (have H2_ := (Option.bind_some _ _).symm.trans H;rw [hy383];with_reducible exact H2_) | (have H2_ := (Option.bind_some _ _).symm.trans H;with_reducible exact H2_) | with_reducible exact H | (rw [hy383];exact H) | exact H
        have Ny383 := aM_ hy383
        clear hy383
        have H' := aM_ H
        clear H
        have hnb20 := NB366_367.out
        have hnc20 := NB367_366.out
        have z_21 := bR2_ BK366.out
        have z_22 := bR3_ BK367.out
        go_wp2_with (first | (refine gL_ (some 26) Try.func99 #[.agg #[.slice A0_0 l0_0.length c0_0,.slice A0_1 l0_1.length c0_1],.agg #[.slice A1_0 l1_0.length c1_0,.slice A1_1 l1_1.length c1_1,.slice A1_2 l1_2.length c1_2],.int .i64 x6_1] ?_;(with_reducible refine (spec_SourceStep.calls kj6 _ _ l0_0 _ _ l0_1 _ _ l1_0 _ _ l1_1 _ _ l1_2 x6_1 t372 t375 t378 t381 _ ?side1 HC0_0.out ?side3 HC0_1.out ?side5 HC1_0.out ?side7 HC1_1.out ?side9 HC1_2.out A17.out).mono ?_);(case side1 => exact cS_ (Kd.C_below HR0_0.out HB.out));(case side3 => exact cS_ (Kd.C_below HR0_1.out HB.out));(case side5 => exact cS_ (Kd.C_below HR1_0.out HB.out));(case side7 => exact cS_ (Kd.C_below HR1_1.out HB.out));(case side9 => exact cS_ (Kd.C_below HR1_2.out HB.out));rintro e w23 ⟨v373,v376,v379,rfl,ho0,ho1,ho2,hb⟩;refine ⟨_,rfl,?_⟩;have HO374 := aM_ (Kd.S_lower (Kd.S_new' ho0 (Kd.R_lt (by (with_reducible repeat (first | apply rA_ | apply rN_ | apply rD_));exact HO_5.out))) (below_size (gB_ HB.out)));have HO377 := aM_ (Kd.S_lower (Kd.S_new' ho1 (Kd.R_lt (by (with_reducible repeat (first | apply rA_ | apply rN_ | apply rD_));exact HO_5.out))) (below_size (gB_ HB.out)));have HO380 := aM_ (Kd.R_lower ho2 (below_size (gB_ HB.out)));replace HO_5 := aM_ (bR_ HO_5.out hb);replace BK366 := aM_ (nB_ BK366.out hb);replace BK367 := aM_ (nB_ BK367.out hb);replace HB := aM_ (sT_ HB.out hb);(try clear ho0);(try clear ho1);(try clear ho2)) | (refine bX_ 7 (cs := #[.slice none 0 0,.slice none 0 0,.slice none 0 0]) (t := 28) ?_;intro gb382 hg w24 hbox hb;have BK382 := aM_ (hbox);have GE382 := aM_ (sZ_ hg HB.out);have NB366_382 := aM_ (nL_ hg BK366.out);have NB382_366 := aM_ (nG_ hg BK366.out);have NB367_382 := aM_ (nL_ hg BK367.out);have NB382_367 := aM_ (nG_ hg BK367.out);replace HO_5 := aM_ (bR_ HO_5.out hb);replace HO374 := aM_ (bS_ HO374.out hb);replace HO377 := aM_ (bS_ HO377.out hb);replace HO380 := aM_ (bR_ HO380.out hb);replace BK366 := aM_ (nB_ BK366.out hb);replace BK367 := aM_ (nB_ BK367.out hb);replace HB := aM_ (sT_ HB.out hb);clear hb hbox hg;obtain ⟨Ao25,co25,eo25⟩ := Kd.S_slice HO374.out;subst eo25;have hnb26 := nn_ NB382_366 NB366_382;have hnb27 := nn_ NB382_367 NB367_382;have z_28 := bR3_ BK382.out;obtain ⟨Ao29,co29,eo29⟩ := Kd.S_slice HO377.out;subst eo29;obtain ⟨Ao30,co30,eo30⟩ := Kd.R_slice HO380.out;subst eo30) | ((with_reducible refine gate_builtin (b := .append) (xs := #[.tmp 31,.tmp 33]) rfl ?_);at_builtin;refine Kd.R_append (Kd.int .i64) (w0 := w) w.heap.size rfl (.tmp 31) (.tmp 33) 31 3 (.int .i64 0) 8 rfl Try.underlying31 info3 rfl (by decide) (by omega) u5 x5_1 x6_1 [.int .i64 x6_1] (fun _ => True) (fun _ => False) rfl (by first | (go_simp;done) | (go_simp;rfl)) ?aP (fun _ hk => hk.elim) ?aF ?aO ?aB ?aS ?aL ?_;(case aP => exact rfl);(case aB => exact (gB_ HB.out));(case aF => exact (fun _ _ => trivial));(case aO => exact (by (with_reducible repeat (first | apply rA_ | apply rN_ | apply rD_));exact Kd.R_mono (RF3_ gb382 (Kd.R_types HO_5.out BK382.out (by decide)) (fun _ hk => hk.2) (.slice Ao25 t372.length co25) (.slice Ao29 t375.length co29) (.slice Ao30 t378.length co30)) (fun _ hk => trivial)));(case aS => exact (below_size (gB_ HB.out)));(case aL => have := LMc19.out;omega);intro v384 w31 ho hb hg hat;rw [← Ny383.out] at ho;have HO385 := aM_ (ho);replace BK366 := aM_ (blk_grown (g := gb366) (o := .cells #[.slice A0_0 l0_0.length c0_0,.slice A0_1 l0_1.length c0_1] 44 (0,0)) (rWf_ BK366.out) hg (Kd.R_ne HO_5.out BK366.out (by decide)));replace BK367 := aM_ (blk_grown (g := gb367) (o := .cells #[.slice A1_0 l1_0.length c1_0,.slice A1_1 l1_1.length c1_1,.slice A1_2 l1_2.length c1_2] 28 (0,0)) (rWf_ BK367.out) hg (Kd.R_ne HO_5.out BK367.out (by decide)));replace HO374 := aM_ (Kd.S_after (ok := (fun _ => True)) (by (with_reducible repeat (first | apply Kd.S_alloc | apply Kd.S_drewN | apply Kd.S_drew));exact Kd.S_mono (SF3_ gb382 (Kd.S_types HO374.out BK382.out (by decide)) (fun _ hk => hk.2) (.slice Ao25 t372.length co25) (.slice Ao29 t375.length co29) (.slice Ao30 t378.length co30)) (fun _ hk => ⟨trivial,hk.1.2⟩)) hg hat);replace HO377 := aM_ (Kd.S_after (ok := (fun _ => True)) (by (with_reducible repeat (first | apply Kd.S_alloc | apply Kd.S_drewN | apply Kd.S_drew));exact Kd.S_mono (SF3_ gb382 (Kd.S_types HO377.out BK382.out (by decide)) (fun _ hk => hk.2) (.slice Ao25 t372.length co25) (.slice Ao29 t375.length co29) (.slice Ao30 t378.length co30)) (fun _ hk => ⟨trivial,hk.1.2⟩)) hg hat);replace HO380 := aM_ (Kd.R_over' (by (with_reducible repeat (first | apply rA_ | apply rN_ | apply rD_));exact (Kd.R_mono (RF3_ gb382 (Kd.R_types HO380.out BK382.out (by decide)) (fun _ hk => hk.2) (.slice Ao25 t372.length co25) (.slice Ao29 t375.length co29) (.slice Ao30 t378.length co30)) (fun _ h_ => h_.1))) (Kd.R_typed (by (with_reducible repeat (first | apply rA_ | apply rN_ | apply rD_));exact (Kd.R_mono (RF3_ gb382 (Kd.R_types HO_5.out BK382.out (by decide)) (fun _ hk => hk.2) (.slice Ao25 t372.length co25) (.slice Ao29 t375.length co29) (.slice Ao30 t378.length co30)) (fun _ h_ => h_.1)))) (by decide) hg);replace BK382 := aM_ (blk_grown (g := gb382) (o := .cells #[.slice Ao25 t372.length co25,.slice Ao29 t375.length co29,.slice Ao30 t378.length co30] 28 (0,0)) (by (with_reducible repeat (first | refine bN_ ?_ _ | refine bD_ ?_ | refine bA_ ?_ _));refine blk_put (cs := #[.slice Ao25 t372.length co25,.slice Ao29 t375.length co29,.slice none 0 0]) ?_ 2 _ rfl;refine blk_put (cs := #[.slice Ao25 t372.length co25,.slice none 0 0,.slice none 0 0]) ?_ 1 _ rfl;refine blk_put (cs := #[.slice none 0 0,.slice none 0 0,.slice none 0 0]) ?_ 0 _ rfl;exact rW_ BK382.out) hg (Kd.R_ne HO_5.out BK382.out (by decide)));replace HB := aM_ (hb);clear HO_5;clear ho hb hg hat))
        go_roundg kj6
        case measure => have := HK1.out;have := HJ6.out;omega
        case rel => exact ⟨(y383),(wrap64 (x6_1 + 1)),(by first | rfl | (simp;done) | (simp [*];done)),H',⟨by have := HK1.out;have := HJ6.out;omega⟩,⟨by (with_reducible repeat (first | apply rA_ | apply rN_ | apply rD_));exact HO385.out⟩,⟨rW_ BK366.out⟩,⟨rW_ BK367.out⟩,⟨gW_ HB.out⟩⟩
       ·rw [if_neg c19] at H
        exact absurd H (by simp)
      ·rw [if_neg c18] at H
       have c18b0 : (t381 == 0) = false := beq_eq_false_iff_ne.mpr c18
       have c18b1 : (t381 != 0) = true := bne_iff_ne.mpr c18
       have H' := aM_ H
       clear H
       have hnb32 := NB366_367.out
       have hnc32 := NB367_366.out
       have z_33 := bR2_ BK366.out
       have z_34 := bR3_ BK367.out
       go_wp2_with (first | (refine gL_ (some 26) Try.func99 #[.agg #[.slice A0_0 l0_0.length c0_0,.slice A0_1 l0_1.length c0_1],.agg #[.slice A1_0 l1_0.length c1_0,.slice A1_1 l1_1.length c1_1,.slice A1_2 l1_2.length c1_2],.int .i64 x6_1] ?_;(with_reducible refine (spec_SourceStep.calls kj6 _ _ l0_0 _ _ l0_1 _ _ l1_0 _ _ l1_1 _ _ l1_2 x6_1 t372 t375 t378 t381 _ ?side1 HC0_0.out ?side3 HC0_1.out ?side5 HC1_0.out ?side7 HC1_1.out ?side9 HC1_2.out A17.out).mono ?_);(case side1 => exact cS_ (Kd.C_below HR0_0.out HB.out));(case side3 => exact cS_ (Kd.C_below HR0_1.out HB.out));(case side5 => exact cS_ (Kd.C_below HR1_0.out HB.out));(case side7 => exact cS_ (Kd.C_below HR1_1.out HB.out));(case side9 => exact cS_ (Kd.C_below HR1_2.out HB.out));rintro e w35 ⟨v373,v376,v379,rfl,ho0,ho1,ho2,hb⟩;refine ⟨_,rfl,?_⟩;have HO374 := aM_ (Kd.S_lower (Kd.S_new' ho0 (Kd.R_lt (by (with_reducible repeat (first | apply rA_ | apply rN_ | apply rD_));exact HO_5.out))) (below_size (gB_ HB.out)));have HO377 := aM_ (Kd.S_lower (Kd.S_new' ho1 (Kd.R_lt (by (with_reducible repeat (first | apply rA_ | apply rN_ | apply rD_));exact HO_5.out))) (below_size (gB_ HB.out)));have HO380 := aM_ (Kd.R_lower ho2 (below_size (gB_ HB.out)));replace HO_5 := aM_ (bR_ HO_5.out hb);replace BK366 := aM_ (nB_ BK366.out hb);replace BK367 := aM_ (nB_ BK367.out hb);replace HB := aM_ (sT_ HB.out hb);(try clear ho0);(try clear ho1);(try clear ho2)) | (refine bX_ 7 (cs := #[.slice none 0 0,.slice none 0 0,.slice none 0 0]) (t := 28) ?_;intro gb382 hg w36 hbox hb;have BK382 := aM_ (hbox);have GE382 := aM_ (sZ_ hg HB.out);have NB366_382 := aM_ (nL_ hg BK366.out);have NB382_366 := aM_ (nG_ hg BK366.out);have NB367_382 := aM_ (nL_ hg BK367.out);have NB382_367 := aM_ (nG_ hg BK367.out);replace HO_5 := aM_ (bR_ HO_5.out hb);replace HO374 := aM_ (bS_ HO374.out hb);replace HO377 := aM_ (bS_ HO377.out hb);replace HO380 := aM_ (bR_ HO380.out hb);replace BK366 := aM_ (nB_ BK366.out hb);replace BK367 := aM_ (nB_ BK367.out hb);replace HB := aM_ (sT_ HB.out hb);clear hb hbox hg;obtain ⟨Ao37,co37,eo37⟩ := Kd.S_slice HO374.out;subst eo37;have hnb38 := nn_ NB382_366 NB366_382;have hnb39 := nn_ NB382_367 NB367_382;have z_40 := bR3_ BK382.out;obtain ⟨Ao41,co41,eo41⟩ := Kd.S_slice HO377.out;subst eo41;obtain ⟨Ao42,co42,eo42⟩ := Kd.R_slice HO380.out;subst eo42))
       go_roundg kj6
       case measure => have := HK1.out;have := HJ6.out;omega
       case rel => exact ⟨(x5_1),(wrap64 (x6_1 + 1)),(by first | rfl | (simp;done) | (simp [*];done)),H',⟨by have := HK1.out;have := HJ6.out;omega⟩,⟨by (with_reducible repeat (first | apply rA_ | apply rN_ | apply rD_));exact Kd.R_mono (RF3_ gb382 (Kd.R_types HO_5.out BK382.out (by decide)) (fun _ hk => hk.2) (.slice Ao37 t372.length co37) (.slice Ao41 t375.length co41) (.slice Ao42 t378.length co42)) (fun _ hk => trivial)⟩,⟨rWf_ BK366.out⟩,⟨rWf_ BK367.out⟩,⟨gW_ HB.out⟩⟩
     ·replace c16 := Bool.eq_false_iff.mpr c16
      subst c16
      have H1 : (some x5_1) = some r := by rw [if_neg (show ¬ (false = true) by decide)] at H;exact H
      clear H
      have H := H1
      clear H1
      obtain rfl := sJ_ H
      go_wp2
      go_ret
      exact ⟨_,fR_,by (with_reducible repeat (first | apply rA_ | apply rN_ | apply rD_));exact HO_5.out,gB_ HB.out⟩
def impl_within.f (a0 : Int) (a1 : Int) (a2 : Int) : Option (Bool) := if a0 ≥ a1 then (some (decide (a0 ≤ a2))) else (some false)
set_option maxHeartbeats 8000000 in
theorem impl_within.calls (a0 : Int) (a1 : Int) (a2 : Int) (r : Bool) (w : World) (h : impl_within.f a0 a1 a2 = some r) :
  Calls Try.prog 106 #[.int .i64 a0,.int .i64 a1,.int .i64 a2] w fun e w' => e = .returned (.bool r) ∧ Drawn0 w w' := by
 have H : (if a0 ≥ a1 then (some (decide (a0 ≤ a2))) else (some false)) = some r := h
 clear h
 by_cases c4 : a0 ≥ a1
 ·rw [if_pos c4] at H
  have c4b0 : decide (a1 ≤ a0) = true := decide_eq_true c4
  clear c4
  obtain rfl := sJ_ H
  go_enter Try.func106,Try.ntmps106
  go_wp2
  go_ret
  exact ⟨by first | rfl | (simp;done) | (simp [*];done),by repeat (first | exact Drawn0.refl _ | apply Drawn0.step)⟩
 ·rw [if_neg c4] at H
  have c4b0 : decide (a1 ≤ a0) = false := decide_eq_false c4
  clear c4
  obtain rfl := sJ_ H
  go_enter Try.func106,Try.ntmps106
  go_wp2
  go_ret
  exact ⟨by first | rfl | (simp;done) | (simp [*];done),by repeat (first | exact Drawn0.refl _ | apply Drawn0.step)⟩
end Go.Proofs.Ytobachfngmpeiaa.PFnExactAble
namespace Go.Proofs.Ytobachfngmpeiaa.PFnExactAble
open Go.RowKit Go.Proofs.YtobachfngmpeiaaW.PrintWords Go.Proofs.YtobachfngmpeiaaW.PrintLast Go.Proofs.YtobachfngmpeiaaW.PrintMore
attribute [local go_sem] max2_int min2_int max_two min_two max_three min_three max_four min_four
set_option linter.unusedVariables false
set_option linter.unusedSimpArgs false
def impl_sourceCode.f (_l0_0 : List Int) (l0_1 : List (List S192)) (ts : List S107) (cs : List S94) (ns : List S35) (who : Int) : Option Int :=
  (impl_within.f who 0 (wrap64 ((ts.length : Int) - 1))).bind fun t => if t = true then (if 0 ≤ who then (if who < (ts.length : Int) then (if who < (l0_1.length : Int) then (if 0 ≤ (rd_T107 ts who).f0 then (if (rd_T107 ts who).f0 < ((rd_L4 l0_1 who).length : Int) then
    (if (rd_T107 ts who).f2 = 0 then (if (rd_T192 (rd_L4 l0_1 who) (rd_T107 ts who).f0).f0 = 10 then (if (ns.length : Int) = 4000 then some 3 else some 0) else if (rd_T192 (rd_L4 l0_1 who) (rd_T107 ts who).f0).f0 = 5 then (if 0 ≤ (rd_T192 (rd_L4 l0_1 who) (rd_T107 ts who).f0).f4 then (if (rd_T192 (rd_L4 l0_1 who) (rd_T107 ts who).f0).f4 < (cs.length : Int) then (if (rd_T94 cs (rd_T192 (rd_L4 l0_1 who) (rd_T107 ts who).f0).f4).f2 = true then some 0 else if ((rd_T94 cs (rd_T192 (rd_L4 l0_1 who) (rd_T107 ts who).f0).f4).f1.length : Int) = (rd_T94 cs (rd_T192 (rd_L4 l0_1 who) (rd_T107 ts who).f0).f4).f0 then some 4 else some 0) else none) else none)
      else if (rd_T192 (rd_L4 l0_1 who) (rd_T107 ts who).f0).f0 = 6 then (if 0 ≤ (rd_T192 (rd_L4 l0_1 who) (rd_T107 ts who).f0).f4 then (if (rd_T192 (rd_L4 l0_1 who) (rd_T107 ts who).f0).f4 < (cs.length : Int) then (if (rd_T94 cs (rd_T192 (rd_L4 l0_1 who) (rd_T107 ts who).f0).f4).f2 = true then some 0 else if ((rd_T94 cs (rd_T192 (rd_L4 l0_1 who) (rd_T107 ts who).f0).f4).f1.length : Int) = 0 then some 4 else some 0) else none) else none) else some 0) else some 3)
    else none) else none) else none) else none) else none) else some 2
end Go.Proofs.Ytobachfngmpeiaa.PFnExactAble
