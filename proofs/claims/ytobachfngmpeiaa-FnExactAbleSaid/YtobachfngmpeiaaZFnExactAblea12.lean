/- Part of the proof of FnExactAble. -/
import Derived.Test.YtobachfngmpeiaaZFnExactAblea11
import Derived.Test.YtobachfngmpeiaaZFnExactAbles
set_option maxRecDepth 100000
namespace Go.Proofs.Ytobachfngmpeiaa.PFnExactAble
open Go.RowKit Go.Proofs.YtobachfngmpeiaaW.PrintWords Go.Proofs.YtobachfngmpeiaaW.PrintLast Go.Proofs.YtobachfngmpeiaaW.PrintMore
attribute [local go_sem] max2_int min2_int max_two min_two max_three min_three max_four min_four   -- for this text's walks alone
set_option linter.unusedVariables false
set_option linter.unusedSimpArgs false
def spec_ChanSend.j0 : Nat → Int → Bool → Int → List Int → Bool → Int → List Int → Bool → Option (Int × List Int × Bool × Int)
  | 0,_,_,_,_,_,_,_,_ => none
  | k + 1,x1,x15,x329000,x329001,x329002,x336000,x336001,x336002 => if x15 = true then (some (x336000,x336001,x336002,2)) else (if (x329001.length : Int) = x329000 then (some (x336000,x336001,x336002,1)) else (if x336001.length < 17592186044416 then (some (x336000,(x336001 ++ [x1]),x336002,0)) else (none)))
def spec_ChanSend.f (k : Nat) (a0_0 : Int) (l0_1 : List Int) (a0_2 : Bool) (a1 : Int) : Option (Int × List Int × Bool × Int) := (spec_l3Copy.f a0_0 l0_1 a0_2).bind fun bt330 => (if a0_2 = true then (spec_ChanSend.j0 k a1 true a0_0 l0_1 a0_2 bt330.1 bt330.2.1 bt330.2.2) else ((spec_ChanOk.f a0_0 l0_1 a0_2).bind fun t336 => (spec_ChanSend.j0 k a1 (!t336) a0_0 l0_1 a0_2 bt330.1 bt330.2.1 bt330.2.2)))
set_option maxHeartbeats 8000000 in
theorem spec_ChanSend.calls (k : Nat) (a0_0 : Int) (A0_1 : Option Addr) (c0_1 : Nat) (l0_1 : List Int) (a0_2 : Bool) (a1 : Int) (r1 : Int) (r2 : List Int) (r3 : Bool) (r4 : Int) (w : World) (hr0_1 : Kd.C (Kd.int .i64) w A0_1 l0_1.length l0_1) (hc0_1 : l0_1.length ≤ c0_1) (h : spec_ChanSend.f k a0_0 l0_1 a0_2 a1 = some (r1,r2,r3,r4)) :
  Calls Try.prog 190 #[.agg #[.int .i64 a0_0,.slice A0_1 l0_1.length c0_1,.bool a0_2],.int .i64 a1] w fun e w' => ∃ v1_ : Value,e = .returned (.tuple #[.agg #[.int .i64 r1,v1_,.bool r3],.int .i64 r4]) ∧ Kd.R (Kd.int .i64) 3 w' w.heap.size (fun _ => True) v1_ r2 ∧ Below w.heap.size w w' := by
 have hu94 := Try.underlying94
 have HR0_1 := aM_ hr0_1
 have HC0_1 := aM_ hc0_1
 clear hr0_1 hc0_1
 have HB := aM_ (Below.refl w.heap.size w)
 have H : ((spec_l3Copy.f a0_0 l0_1 a0_2).bind fun bt330 => (if a0_2 = true then (spec_ChanSend.j0 k a1 true a0_0 l0_1 a0_2 bt330.1 bt330.2.1 bt330.2.2) else ((spec_ChanOk.f a0_0 l0_1 a0_2).bind fun t336 => (spec_ChanSend.j0 k a1 (!t336) a0_0 l0_1 a0_2 bt330.1 bt330.2.1 bt330.2.2)))) = some (r1,r2,r3,r4) := h
 clear h
 replace H := Option.bind_eq_some_iff.mp H
 obtain ⟨⟨t330,t331,t334⟩,A30,H⟩ := H
 replace H : (if a0_2 = true then (spec_ChanSend.j0 k a1 true a0_0 l0_1 a0_2 t330 t331 t334) else ((spec_ChanOk.f a0_0 l0_1 a0_2).bind fun t336 => (spec_ChanSend.j0 k a1 (!t336) a0_0 l0_1 a0_2 t330 t331 t334))) = some (r1,r2,r3,r4) := H
 have A3 := aM_ A30
 clear A30
 have HC4 := aM_ H
 clear H
 go_enter Try.func190,Try.ntmps190
 go_upto_region 2 with (first | (refine bX_ 2 (cs := #[.int .i64 a0_0,.slice A0_1 l0_1.length c0_1,.bool a0_2]) (t := 94) ?_;intro gb328 hg w5 hbox hb;have BK328 := aM_ (hbox);have GE328 := aM_ (sZ_ hg HB.out);replace HB := aM_ (sT_ HB.out hb);clear hb hbox hg) | (refine bX_ 4 (cs := #[.int .i64 0,.slice none 0 0,.bool false]) (t := 94) ?_;intro gb329 hg w6 hbox hb;have BK329 := aM_ (hbox);have GE329 := aM_ (sZ_ hg HB.out);have NB328_329 := aM_ (nL_ hg BK328.out);have NB329_328 := aM_ (nG_ hg BK328.out);replace BK328 := aM_ (nB_ BK328.out hb);replace HB := aM_ (sT_ HB.out hb);clear hb hbox hg;have hnb7 := nn_ NB328_329 NB329_328;have z_8 := bR3_ BK328.out) | (refine gL_ (some 8) Try.func171 #[.agg #[.int .i64 a0_0,.slice A0_1 l0_1.length c0_1,.bool a0_2]] ?_;(with_reducible refine (spec_l3Copy.calls a0_0 _ _ l0_1 a0_2 t330 t331 t334 _ ?side1 HC0_1.out A3.out).mono ?_);(case side1 => exact cS_ (Kd.C_below HR0_1.out HB.out));rintro e w9 ⟨v332,rfl,ho0,hb⟩;refine ⟨_,rfl,?_⟩;have HO333 := aM_ (Kd.R_lower ho0 (below_size (gB_ HB.out)));replace BK328 := aM_ (nB_ BK328.out hb);replace BK329 := aM_ (nB_ BK329.out hb);replace HB := aM_ (sT_ HB.out hb);(try clear ho0)) | (refine bX_ 6 (cs := #[.int .i64 0,.slice none 0 0,.bool false]) (t := 94) ?_;intro gb335 hg w10 hbox hb;have BK335 := aM_ (hbox);have GE335 := aM_ (sZ_ hg HB.out);have NB328_335 := aM_ (nL_ hg BK328.out);have NB335_328 := aM_ (nG_ hg BK328.out);have NB329_335 := aM_ (nL_ hg BK329.out);have NB335_329 := aM_ (nG_ hg BK329.out);replace HO333 := aM_ (bR_ HO333.out hb);replace BK328 := aM_ (nB_ BK328.out hb);replace BK329 := aM_ (nB_ BK329.out hb);replace HB := aM_ (sT_ HB.out hb);clear hb hbox hg;have hnb11 := nn_ NB335_328 NB328_335;have hnb12 := nn_ NB335_329 NB329_335;have z_13 := bR3_ BK335.out;obtain ⟨Ao14,co14,eo14⟩ := Kd.R_slice HO333.out;subst eo14))
 (try simp only [Act.put,List.setIfInBounds_toArray,List.set_cons_zero,List.set_cons_succ])
 go_cut [15] (fun v15 wc => ∃ (kq : Nat) (x15_3 : Bool),v15 = .bool x15_3 ∧ Aside0 (spec_ChanSend.j0 kq a1 x15_3 a0_0 l0_1 a0_2 t330 t331 t334 = some (r1,r2,r3,r4)) ∧ Aside0 (kq ≤ k) ∧ Aside0 (Kd.R (Kd.int .i64) 3 wc w.heap.size (fun _ => True) (.slice Ao14 t331.length co14) t331) ∧ Aside0 (wc.heap[gb328]? = some (.cells #[.int .i64 a0_0,(.slice A0_1 l0_1.length c0_1),.bool a0_2] 94 (0,0))) ∧ Aside0 (wc.heap[gb329]? = some (.cells #[.int .i64 0,(.slice none 0 0),.bool false] 94 (0,0))) ∧ Aside0 (wc.heap[gb335]? = some (.cells #[.int .i64 t330,(.slice Ao14 t331.length co14),.bool t334] 94 (0,0))) ∧ Aside0 (Below w.heap.size w wc))
 case first =>
  have H := HC4.out
  clear HC4
  by_cases c15 : a0_2 = true
  ·subst c15
   have H1 : (spec_ChanSend.j0 k a1 true a0_0 l0_1 true t330 t331 t334) = some (r1,r2,r3,r4) := by rw [if_pos rfl] at H;exact H
   clear H
   have H := H1
   clear H1
   have H' := aM_ H
   clear H
   have hnb16 := NB328_329.out
   have hnc16 := NB329_328.out
   have hnb17 := NB328_335.out
   have hnc17 := NB335_328.out
   have z_18 := bR3_ BK328.out
   go_wp2
   go_meet
   case rel => exact ⟨_,(true),(by first | rfl | (simp;done) | (simp [*];done)),H',⟨by first | omega | exact Nat.le_refl _⟩,⟨by (with_reducible repeat (first | apply rA_ | apply rN_ | apply rD_));exact Kd.R_mono (RF3_ gb335 (Kd.R_types HO333.out BK335.out (by decide)) (fun _ hk => hk.2) (.int .i64 t330) (.slice Ao14 t331.length co14) (.bool t334)) (fun _ hk => trivial)⟩,⟨rWf_ BK328.out⟩,⟨rWf_ BK329.out⟩,⟨by (with_reducible repeat (first | refine bN_ ?_ _ | refine bD_ ?_ | refine bA_ ?_ _));refine blk_put (cs := #[.int .i64 t330,.slice Ao14 t331.length co14,.bool false]) ?_ 2 _ rfl;refine blk_put (cs := #[.int .i64 t330,.slice none 0 0,.bool false]) ?_ 1 _ rfl;refine blk_put (cs := #[.int .i64 0,.slice none 0 0,.bool false]) ?_ 0 _ rfl;(with_reducible repeat (first | refine bN_ ?_ _ | refine bD_ ?_ | refine bA_ ?_ _));exact BK335.out⟩,⟨gW_ HB.out⟩⟩
  ·replace c15 := Bool.eq_false_iff.mpr c15
   subst c15
   have H1 : ((spec_ChanOk.f a0_0 l0_1 false).bind fun t336 => (spec_ChanSend.j0 k a1 (!t336) a0_0 l0_1 false t330 t331 t334)) = some (r1,r2,r3,r4) := by rw [if_neg (show ¬ (false = true) by decide)] at H;exact H
   clear H
   have H := H1
   clear H1
   replace H := Option.bind_eq_some_iff.mp H
   obtain ⟨t336,A190,H⟩ := H
   replace H : (spec_ChanSend.j0 k a1 (!t336) a0_0 l0_1 false t330 t331 t334) = some (r1,r2,r3,r4) := H
   have A19 := aM_ A190
   clear A190
   have H' := aM_ H
   clear H
   have hnb20 := NB328_329.out
   have hnc20 := NB329_328.out
   have hnb21 := NB328_335.out
   have hnc21 := NB335_328.out
   have z_22 := bR3_ BK328.out
   go_wp2_with (first | (go_at_call 146;(with_reducible refine (spec_ChanOk.calls a0_0 _ _ l0_1 false t336 _ ?side1 HC0_1.out A19.out).mono ?_);(case side1 => exact Kd.C_below HR0_1.out (gB_ HB.out));rintro e w23 ⟨rfl,hb⟩;replace HO333 := aM_ (Kd.R_below (by (with_reducible repeat (first | apply rA_ | apply rN_ | apply rD_));exact (Kd.R_mono (RF3_ gb335 (Kd.R_types HO333.out BK335.out (by decide)) (fun _ hk => hk.2) (.int .i64 t330) (.slice Ao14 t331.length co14) (.bool t334)) (fun _ h_ => h_.1))) hb);replace BK328 := aM_ (nBf_ BK328.out hb);replace BK329 := aM_ (nBf_ BK329.out hb);replace BK335 := aM_ (blk_below (g := gb335) (o := .cells #[.int .i64 t330,.slice Ao14 t331.length co14,.bool t334] 94 (0,0)) (by (with_reducible repeat (first | refine bN_ ?_ _ | refine bD_ ?_ | refine bA_ ?_ _));refine blk_put (cs := #[.int .i64 t330,.slice Ao14 t331.length co14,.bool false]) ?_ 2 _ rfl;refine blk_put (cs := #[.int .i64 t330,.slice none 0 0,.bool false]) ?_ 1 _ rfl;refine blk_put (cs := #[.int .i64 0,.slice none 0 0,.bool false]) ?_ 0 _ rfl;exact rW_ BK335.out) hb);replace HB := aM_ (sT_ HB.out hb)))
   go_meet
   case rel => exact ⟨_,(!t336),(by first | rfl | (simp;done) | (simp [*];done)),H',⟨by first | omega | exact Nat.le_refl _⟩,⟨by (with_reducible repeat (first | apply rA_ | apply rN_ | apply rD_));exact HO333.out⟩,⟨rW_ BK328.out⟩,⟨rW_ BK329.out⟩,⟨rW_ BK335.out⟩,⟨gW_ HB.out⟩⟩
 case rest =>
  clear HC4
  (try clear c1);(try clear c2);(try clear p2);(try clear c7);(try clear c11);(try clear c12);(try clear c15);(try clear c16);(try clear c17);(try clear c19);(try clear c20);(try clear c21);(try clear z_13);(try clear z_18);(try clear z_22);(try clear z_8)
  obtain ⟨kq,x15_3,rfl,HA,HJ3,HO_336001,BK328,BK329,BK335,HB⟩ := hcut
  cases kq with
  | zero => exact absurd HA.out (by simp [spec_ChanSend.j0])
  | succ kj3 =>
   have H := HA.out
   clear HA
   simp only [spec_ChanSend.j0] at H
   by_cases c24 : x15_3 = true
   ·subst c24
    have H1 : (some (t330,t331,t334,2)) = some (r1,r2,r3,r4) := by rw [if_pos rfl] at H;exact H
    clear H
    have H := H1
    clear H1
    simp only [Option.some.injEq,Prod.mk.injEq] at H
    obtain ⟨rfl,rfl,rfl,rfl⟩ := H
    have hnb25 := NB335_328.out
    have hnc25 := NB328_335.out
    have hnb26 := NB335_329.out
    have hnc26 := NB329_335.out
    have z_27 := bR3_ BK335.out
    have hnb28 := NB329_328.out
    have hnc28 := NB328_329.out
    have z_29 := bR3_ BK329.out
    go_wp2
    refine bodyPost_ret (results_ct rfl _ _ gb329 94 #[.int .i64 t330,.slice Ao14 t331.length co14,.bool t334] (0,0) _ rfl (by (with_reducible repeat (first | refine bN_ ?_ _ | refine bD_ ?_ | refine bA_ ?_ _));refine blk_put (cs := #[.int .i64 t330,.slice Ao14 t331.length co14,.bool false]) ?_ 2 _ rfl;refine blk_put (cs := #[.int .i64 t330,.slice none 0 0,.bool false]) ?_ 1 _ rfl;refine blk_put (cs := #[.int .i64 0,.slice none 0 0,.bool false]) ?_ 0 _ rfl;exact rW_ BK329.out) Try.underlying94 rfl (by kernel_rfl)) rfl ?_
    exact ⟨_,fR_,by (with_reducible repeat (first | apply rA_ | apply rN_ | apply rD_));exact Kd.R_mono (RF3_ gb329 (Kd.R_types HO_336001.out BK329.out (by decide)) (fun _ hk => hk.2) (.int .i64 t330) (.slice Ao14 t331.length co14) (.bool t334)) (fun _ hk => trivial),gB_ HB.out⟩
   ·replace c24 := Bool.eq_false_iff.mpr c24
    subst c24
    have H1 : (if (l0_1.length : Int) = a0_0 then (some (t330,t331,t334,1)) else (if t331.length < 17592186044416 then (some (t330,(t331 ++ [a1]),t334,0)) else (none))) = some (r1,r2,r3,r4) := by rw [if_neg (show ¬ (false = true) by decide)] at H;exact H
    clear H
    have H := H1
    clear H1
    by_cases c30 : (l0_1.length : Int) = a0_0
    ·rw [if_pos c30] at H
     have c30b0 : ((l0_1.length : Int) == a0_0) = true := beq_iff_eq.mpr c30
     have c30b1 : ((l0_1.length : Int) != a0_0) = false := bne_eq_false_iff_eq.mpr c30
     clear c30
     simp only [Option.some.injEq,Prod.mk.injEq] at H
     obtain ⟨rfl,rfl,rfl,rfl⟩ := H
     have hnb31 := NB328_329.out
     have hnc31 := NB329_328.out
     have hnb32 := NB328_335.out
     have hnc32 := NB335_328.out
     have z_33 := bR3_ BK328.out
     have hnb34 := NB335_329.out
     have hnc34 := NB329_335.out
     have z_35 := bR3_ BK335.out
     have z_36 := bR3_ BK329.out
     go_wp2
     refine bodyPost_ret (results_ct rfl _ _ gb329 94 #[.int .i64 t330,.slice Ao14 t331.length co14,.bool t334] (0,0) _ rfl (by (with_reducible repeat (first | refine bN_ ?_ _ | refine bD_ ?_ | refine bA_ ?_ _));refine blk_put (cs := #[.int .i64 t330,.slice Ao14 t331.length co14,.bool false]) ?_ 2 _ rfl;refine blk_put (cs := #[.int .i64 t330,.slice none 0 0,.bool false]) ?_ 1 _ rfl;refine blk_put (cs := #[.int .i64 0,.slice none 0 0,.bool false]) ?_ 0 _ rfl;exact rW_ BK329.out) Try.underlying94 rfl (by kernel_rfl)) rfl ?_
     exact ⟨_,fR_,by (with_reducible repeat (first | apply rA_ | apply rN_ | apply rD_));exact Kd.R_mono (RF3_ gb329 (Kd.R_types HO_336001.out BK329.out (by decide)) (fun _ hk => hk.2) (.int .i64 t330) (.slice Ao14 t331.length co14) (.bool t334)) (fun _ hk => trivial),gB_ HB.out⟩
    ·rw [if_neg c30] at H
     have c30b0 : ((l0_1.length : Int) == a0_0) = false := beq_eq_false_iff_ne.mpr c30
     have c30b1 : ((l0_1.length : Int) != a0_0) = true := bne_iff_ne.mpr c30
     by_cases c37 : t331.length < 17592186044416
     ·rw [if_pos c37] at H
      have LMc37 := aM_ c37
      clear c37
      obtain ⟨y337,hy337⟩ : ∃ y_ : List Int,y_ = (t331 ++ [a1]) := ⟨_,rfl⟩
      replace H : (some (t330,y337,t334,0)) = some (r1,r2,r3,r4) := by first | (rw [hy337];with_reducible exact H) | (have H2_ := (Option.bind_some _ _).symm.trans H;rw [hy337];with_reducible exact H2_) | (have H2_ := (Option.bind_some _ _).symm.trans H;with_reducible exact H2_) | with_reducible exact H | (rw [hy337];exact H) | exact H
      have Ny337 := aM_ hy337
      clear hy337
      simp only [Option.some.injEq,Prod.mk.injEq] at H
      obtain ⟨rfl,rfl,rfl,rfl⟩ := H
      have hnb38 := NB328_329.out
      have hnc38 := NB329_328.out
      have hnb39 := NB328_335.out
      have hnc39 := NB335_328.out
      have z_40 := bR3_ BK328.out
      have hnb41 := NB335_329.out
      have hnc41 := NB329_335.out
      have z_42 := bR3_ BK335.out
      go_wp2_with (first | ((with_reducible refine gate_builtin (b := .append) (xs := #[.tmp 25,.tmp 27]) rfl ?_);at_builtin;refine Kd.R_append (Kd.int .i64) (w0 := w) w.heap.size rfl (.tmp 25) (.tmp 27) 31 3 (.int .i64 0) 8 rfl Try.underlying31 info3 rfl (by decide) (by omega) (.slice Ao14 t331.length co14) t331 a1 [.int .i64 a1] (fun _ => True) (fun _ => False) rfl rfl ?aP (fun _ hk => hk.elim) ?aF ?aO ?aB ?aS ?aL ?_;(case aP => exact rfl);(case aB => exact (gB_ HB.out));(case aF => exact (fun _ _ => trivial));(case aO => exact (by (with_reducible repeat (first | apply rA_ | apply rN_ | apply rD_));exact HO_336001.out));(case aS => exact (below_size (gB_ HB.out)));(case aL => have := LMc37.out;omega);intro v338 w43 ho hb hg hat;rw [← Ny337.out] at ho;have HO339 := aM_ (ho);replace BK328 := aM_ (blk_grown (g := gb328) (o := .cells #[.int .i64 a0_0,.slice A0_1 l0_1.length c0_1,.bool a0_2] 94 (0,0)) (by (with_reducible repeat (first | refine bN_ ?_ _ | refine bD_ ?_ | refine bA_ ?_ _));exact BK328.out) hg (Kd.R_ne HO_336001.out BK328.out (by decide)));replace BK329 := aM_ (blk_grown (g := gb329) (o := .cells #[.int .i64 0,.slice none 0 0,.bool false] 94 (0,0)) (by (with_reducible repeat (first | refine bN_ ?_ _ | refine bD_ ?_ | refine bA_ ?_ _));exact BK329.out) hg (Kd.R_ne HO_336001.out BK329.out (by decide)));replace BK335 := aM_ (blk_grown (g := gb335) (o := .cells #[.int .i64 t330,.slice Ao14 t331.length co14,.bool t334] 94 (0,0)) (by (with_reducible repeat (first | refine bN_ ?_ _ | refine bD_ ?_ | refine bA_ ?_ _));exact BK335.out) hg (Kd.R_ne HO_336001.out BK335.out (by decide)));replace HB := aM_ (hb);clear HO_336001;clear ho hb hg hat;obtain ⟨Ao44,co44,eo44⟩ := Kd.R_slice HO339.out;subst eo44;have z_45 := bR3_ BK335.out;have z_46 := bR3_ BK329.out))
      refine bodyPost_ret (results_ct rfl _ _ gb329 94 #[.int .i64 t330,.slice Ao44 y337.length co44,.bool t334] (0,0) _ rfl (by (with_reducible repeat (first | refine bN_ ?_ _ | refine bD_ ?_ | refine bA_ ?_ _));refine blk_put (cs := #[.int .i64 t330,.slice Ao44 y337.length co44,.bool false]) ?_ 2 _ rfl;refine blk_put (cs := #[.int .i64 t330,.slice none 0 0,.bool false]) ?_ 1 _ rfl;refine blk_put (cs := #[.int .i64 0,.slice none 0 0,.bool false]) ?_ 0 _ rfl;exact rWf_ BK329.out) Try.underlying94 rfl (by kernel_rfl)) rfl ?_
      exact ⟨_,fR_,by (with_reducible repeat (first | apply rA_ | apply rN_ | apply rD_));exact Kd.R_mono (RF3_ gb329 (Kd.R_far (p := ⟨gb335,1,none⟩) (Kd.R_types (Kd.R_types HO339.out BK335.out (by decide)) BK329.out (by decide)) (fun _ hk => hk.1.2) (.slice Ao44 y337.length co44)) (fun _ hk => hk.2) (.int .i64 t330) (.slice Ao44 y337.length co44) (.bool t334)) (fun _ hk => trivial),gB_ HB.out⟩
     ·rw [if_neg c37] at H
      exact absurd H (by simp)
def spec_ChanClose.f (a0_0 : Int) (l0_1 : List Int) (a0_2 : Bool) : Option (Int × List Int × Bool × Int) := (spec_l3Copy.f a0_0 l0_1 a0_2).bind fun bt342 => (if a0_2 = true then (some (bt342.1,bt342.2.1,bt342.2.2,2)) else ((spec_ChanOk.f a0_0 l0_1 a0_2).bind fun t348 => (if t348 = true then (some (bt342.1,bt342.2.1,true,0)) else (some (bt342.1,bt342.2.1,bt342.2.2,2)))))
set_option maxHeartbeats 8000000 in
theorem spec_ChanClose.calls (a0_0 : Int) (A0_1 : Option Addr) (c0_1 : Nat) (l0_1 : List Int) (a0_2 : Bool) (r1 : Int) (r2 : List Int) (r3 : Bool) (r4 : Int) (w : World) (hr0_1 : Kd.C (Kd.int .i64) w A0_1 l0_1.length l0_1) (hc0_1 : l0_1.length ≤ c0_1) (h : spec_ChanClose.f a0_0 l0_1 a0_2 = some (r1,r2,r3,r4)) :
  Calls Try.prog 191 #[.agg #[.int .i64 a0_0,.slice A0_1 l0_1.length c0_1,.bool a0_2]] w fun e w' => ∃ v1_ : Value,e = .returned (.tuple #[.agg #[.int .i64 r1,v1_,.bool r3],.int .i64 r4]) ∧ Kd.R (Kd.int .i64) 3 w' w.heap.size (fun _ => True) v1_ r2 ∧ Below w.heap.size w w' := by
 have hu94 := Try.underlying94
 have HR0_1 := aM_ hr0_1
 have HC0_1 := aM_ hc0_1
 clear hr0_1 hc0_1
 have HB := aM_ (Below.refl w.heap.size w)
 have H : ((spec_l3Copy.f a0_0 l0_1 a0_2).bind fun bt342 => (if a0_2 = true then (some (bt342.1,bt342.2.1,bt342.2.2,2)) else ((spec_ChanOk.f a0_0 l0_1 a0_2).bind fun t348 => (if t348 = true then (some (bt342.1,bt342.2.1,true,0)) else (some (bt342.1,bt342.2.1,bt342.2.2,2)))))) = some (r1,r2,r3,r4) := h
 clear h
 replace H := Option.bind_eq_some_iff.mp H
 obtain ⟨⟨t342,t343,t346⟩,A20,H⟩ := H
 replace H : (if a0_2 = true then (some (t342,t343,t346,2)) else ((spec_ChanOk.f a0_0 l0_1 a0_2).bind fun t348 => (if t348 = true then (some (t342,t343,true,0)) else (some (t342,t343,t346,2))))) = some (r1,r2,r3,r4) := H
 have A2 := aM_ A20
 clear A20
 by_cases c3 : a0_2 = true
 ·subst c3
  have H1 : (some (t342,t343,t346,2)) = some (r1,r2,r3,r4) := by rw [if_pos rfl] at H;exact H
  clear H
  have H := H1
  clear H1
  simp only [Option.some.injEq,Prod.mk.injEq] at H
  obtain ⟨rfl,rfl,rfl,rfl⟩ := H
  go_enter Try.func191,Try.ntmps191
  go_wp2_with (first | (refine bX_ 1 (cs := #[.int .i64 a0_0,.slice A0_1 l0_1.length c0_1,.bool true]) (t := 94) ?_;intro gb340 hg w4 hbox hb;have BK340 := aM_ (hbox);have GE340 := aM_ (sZ_ hg HB.out);replace HB := aM_ (sT_ HB.out hb);clear hb hbox hg) | (refine bX_ 2 (cs := #[.int .i64 0,.slice none 0 0,.bool false]) (t := 94) ?_;intro gb341 hg w5 hbox hb;have BK341 := aM_ (hbox);have GE341 := aM_ (sZ_ hg HB.out);have NB340_341 := aM_ (nL_ hg BK340.out);have NB341_340 := aM_ (nG_ hg BK340.out);replace BK340 := aM_ (nB_ BK340.out hb);replace HB := aM_ (sT_ HB.out hb);clear hb hbox hg;have hnb6 := nn_ NB340_341 NB341_340;have z_7 := bR3_ BK340.out) | (refine gL_ (some 6) Try.func171 #[.agg #[.int .i64 a0_0,.slice A0_1 l0_1.length c0_1,.bool true]] ?_;(with_reducible refine (spec_l3Copy.calls a0_0 _ _ l0_1 true t342 t343 t346 _ ?side1 HC0_1.out A2.out).mono ?_);(case side1 => exact cS_ (Kd.C_below HR0_1.out HB.out));rintro e w8 ⟨v344,rfl,ho0,hb⟩;refine ⟨_,rfl,?_⟩;have HO345 := aM_ (Kd.R_lower ho0 (below_size (gB_ HB.out)));replace BK340 := aM_ (nB_ BK340.out hb);replace BK341 := aM_ (nB_ BK341.out hb);replace HB := aM_ (sT_ HB.out hb);(try clear ho0)) | (refine bX_ 4 (cs := #[.int .i64 0,.slice none 0 0,.bool false]) (t := 94) ?_;intro gb347 hg w9 hbox hb;have BK347 := aM_ (hbox);have GE347 := aM_ (sZ_ hg HB.out);have NB340_347 := aM_ (nL_ hg BK340.out);have NB347_340 := aM_ (nG_ hg BK340.out);have NB341_347 := aM_ (nL_ hg BK341.out);have NB347_341 := aM_ (nG_ hg BK341.out);replace HO345 := aM_ (bR_ HO345.out hb);replace BK340 := aM_ (nB_ BK340.out hb);replace BK341 := aM_ (nB_ BK341.out hb);replace HB := aM_ (sT_ HB.out hb);clear hb hbox hg;have hnb10 := nn_ NB347_340 NB340_347;have hnb11 := nn_ NB347_341 NB341_347;have z_12 := bR3_ BK347.out;obtain ⟨Ao13,co13,eo13⟩ := Kd.R_slice HO345.out;subst eo13;have z_14 := bR3_ BK340.out;have z_15 := bR3_ BK341.out))
  refine bodyPost_ret (results_ct rfl _ _ gb341 94 #[.int .i64 t342,.slice Ao13 t343.length co13,.bool t346] (0,0) _ rfl (by (with_reducible repeat (first | refine bN_ ?_ _ | refine bD_ ?_ | refine bA_ ?_ _));refine blk_put (cs := #[.int .i64 t342,.slice Ao13 t343.length co13,.bool false]) ?_ 2 _ rfl;refine blk_put (cs := #[.int .i64 t342,.slice none 0 0,.bool false]) ?_ 1 _ rfl;refine blk_put (cs := #[.int .i64 0,.slice none 0 0,.bool false]) ?_ 0 _ rfl;exact rWf_ BK341.out) Try.underlying94 rfl (by kernel_rfl)) rfl ?_
  exact ⟨_,fR_,by (with_reducible repeat (first | apply rA_ | apply rN_ | apply rD_));exact Kd.R_mono (RF3_ gb341 (Kd.R_far (p := ⟨gb347,2,none⟩) (Kd.R_far (p := ⟨gb347,1,none⟩) (Kd.R_far (p := ⟨gb347,0,none⟩) (Kd.R_types (Kd.R_types HO345.out BK347.out (by decide)) BK341.out (by decide)) (fun _ hk => hk.1.2) (.int .i64 t342)) (fun _ hk => hk.1.2) (.slice Ao13 t343.length co13)) (fun _ hk => hk.1.2) (.bool t346)) (fun _ hk => hk.2) (.int .i64 t342) (.slice Ao13 t343.length co13) (.bool t346)) (fun _ hk => trivial),gB_ HB.out⟩
 ·replace c3 := Bool.eq_false_iff.mpr c3
  subst c3
  have H1 : ((spec_ChanOk.f a0_0 l0_1 false).bind fun t348 => (if t348 = true then (some (t342,t343,true,0)) else (some (t342,t343,t346,2)))) = some (r1,r2,r3,r4) := by rw [if_neg (show ¬ (false = true) by decide)] at H;exact H
  clear H
  have H := H1
  clear H1
  replace H := Option.bind_eq_some_iff.mp H
  obtain ⟨t348,A160,H⟩ := H
  replace H : (if t348 = true then (some (t342,t343,true,0)) else (some (t342,t343,t346,2))) = some (r1,r2,r3,r4) := H
  have A16 := aM_ A160
  clear A160
  by_cases c17 : t348 = true
  ·subst c17
   have H1 : (some (t342,t343,true,0)) = some (r1,r2,r3,r4) := by rw [if_pos rfl] at H;exact H
   clear H
   have H := H1
   clear H1
   simp only [Option.some.injEq,Prod.mk.injEq] at H
   obtain ⟨rfl,rfl,rfl,rfl⟩ := H
   go_enter Try.func191,Try.ntmps191
   go_wp2_with (first | (refine bX_ 1 (cs := #[.int .i64 a0_0,.slice A0_1 l0_1.length c0_1,.bool false]) (t := 94) ?_;intro gb340 hg w18 hbox hb;have BK340 := aM_ (hbox);have GE340 := aM_ (sZ_ hg HB.out);replace HB := aM_ (sT_ HB.out hb);clear hb hbox hg) | (refine bX_ 2 (cs := #[.int .i64 0,.slice none 0 0,.bool false]) (t := 94) ?_;intro gb341 hg w19 hbox hb;have BK341 := aM_ (hbox);have GE341 := aM_ (sZ_ hg HB.out);have NB340_341 := aM_ (nL_ hg BK340.out);have NB341_340 := aM_ (nG_ hg BK340.out);replace BK340 := aM_ (nB_ BK340.out hb);replace HB := aM_ (sT_ HB.out hb);clear hb hbox hg;have hnb20 := nn_ NB340_341 NB341_340;have z_21 := bR3_ BK340.out) | (refine gL_ (some 6) Try.func171 #[.agg #[.int .i64 a0_0,.slice A0_1 l0_1.length c0_1,.bool false]] ?_;(with_reducible refine (spec_l3Copy.calls a0_0 _ _ l0_1 false t342 t343 t346 _ ?side1 HC0_1.out A2.out).mono ?_);(case side1 => exact cS_ (Kd.C_below HR0_1.out HB.out));rintro e w22 ⟨v344,rfl,ho0,hb⟩;refine ⟨_,rfl,?_⟩;have HO345 := aM_ (Kd.R_lower ho0 (below_size (gB_ HB.out)));replace BK340 := aM_ (nB_ BK340.out hb);replace BK341 := aM_ (nB_ BK341.out hb);replace HB := aM_ (sT_ HB.out hb);(try clear ho0)) | (refine bX_ 4 (cs := #[.int .i64 0,.slice none 0 0,.bool false]) (t := 94) ?_;intro gb347 hg w23 hbox hb;have BK347 := aM_ (hbox);have GE347 := aM_ (sZ_ hg HB.out);have NB340_347 := aM_ (nL_ hg BK340.out);have NB347_340 := aM_ (nG_ hg BK340.out);have NB341_347 := aM_ (nL_ hg BK341.out);have NB347_341 := aM_ (nG_ hg BK341.out);replace HO345 := aM_ (bR_ HO345.out hb);replace BK340 := aM_ (nB_ BK340.out hb);replace BK341 := aM_ (nB_ BK341.out hb);replace HB := aM_ (sT_ HB.out hb);clear hb hbox hg;have hnb24 := nn_ NB347_340 NB340_347;have hnb25 := nn_ NB347_341 NB341_347;have z_26 := bR3_ BK347.out;obtain ⟨Ao27,co27,eo27⟩ := Kd.R_slice HO345.out;subst eo27;have z_28 := bR3_ BK340.out) | (go_at_call 146;(with_reducible refine (spec_ChanOk.calls a0_0 _ _ l0_1 false true _ ?side1 HC0_1.out A16.out).mono ?_);(case side1 => exact Kd.C_below HR0_1.out (gB_ HB.out));rintro e w29 ⟨rfl,hb⟩;replace HO345 := aM_ (Kd.R_below (by (with_reducible repeat (first | apply rA_ | apply rN_ | apply rD_));exact (Kd.R_mono (RF3_ gb347 (Kd.R_types HO345.out BK347.out (by decide)) (fun _ hk => hk.2) (.int .i64 t342) (.slice Ao27 t343.length co27) (.bool t346)) (fun _ h_ => h_.1))) hb);replace BK340 := aM_ (nBf_ BK340.out hb);replace BK341 := aM_ (nBf_ BK341.out hb);replace BK347 := aM_ (blk_below (g := gb347) (o := .cells #[.int .i64 t342,.slice Ao27 t343.length co27,.bool t346] 94 (0,0)) (by (with_reducible repeat (first | refine bN_ ?_ _ | refine bD_ ?_ | refine bA_ ?_ _));refine blk_put (cs := #[.int .i64 t342,.slice Ao27 t343.length co27,.bool false]) ?_ 2 _ rfl;refine blk_put (cs := #[.int .i64 t342,.slice none 0 0,.bool false]) ?_ 1 _ rfl;refine blk_put (cs := #[.int .i64 0,.slice none 0 0,.bool false]) ?_ 0 _ rfl;exact rW_ BK347.out) hb);replace HB := aM_ (sT_ HB.out hb);have z_30 := bR3_ BK347.out;have z_31 := bR3_ BK341.out))
   refine bodyPost_ret (results_ct rfl _ _ gb341 94 #[.int .i64 t342,.slice Ao27 t343.length co27,.bool true] (0,0) _ rfl (by (with_reducible repeat (first | refine bN_ ?_ _ | refine bD_ ?_ | refine bA_ ?_ _));refine blk_put (cs := #[.int .i64 t342,.slice Ao27 t343.length co27,.bool false]) ?_ 2 _ rfl;refine blk_put (cs := #[.int .i64 t342,.slice none 0 0,.bool false]) ?_ 1 _ rfl;refine blk_put (cs := #[.int .i64 0,.slice none 0 0,.bool false]) ?_ 0 _ rfl;exact rWf_ BK341.out) Try.underlying94 rfl (by kernel_rfl)) rfl ?_
   exact ⟨_,fR_,by (with_reducible repeat (first | apply rA_ | apply rN_ | apply rD_));exact Kd.R_mono (RF3_ gb341 (Kd.R_far (p := ⟨gb347,2,none⟩) (Kd.R_types (Kd.R_types HO345.out BK347.out (by decide)) BK341.out (by decide)) (fun _ hk => hk.1.2) (.bool true)) (fun _ hk => hk.2) (.int .i64 t342) (.slice Ao27 t343.length co27) (.bool true)) (fun _ hk => trivial),gB_ HB.out⟩
  ·replace c17 := Bool.eq_false_iff.mpr c17
   subst c17
   have H1 : (some (t342,t343,t346,2)) = some (r1,r2,r3,r4) := by rw [if_neg (show ¬ (false = true) by decide)] at H;exact H
   clear H
   have H := H1
   clear H1
   simp only [Option.some.injEq,Prod.mk.injEq] at H
   obtain ⟨rfl,rfl,rfl,rfl⟩ := H
   go_enter Try.func191,Try.ntmps191
   go_wp2_with (first | (refine bX_ 1 (cs := #[.int .i64 a0_0,.slice A0_1 l0_1.length c0_1,.bool false]) (t := 94) ?_;intro gb340 hg w32 hbox hb;have BK340 := aM_ (hbox);have GE340 := aM_ (sZ_ hg HB.out);replace HB := aM_ (sT_ HB.out hb);clear hb hbox hg) | (refine bX_ 2 (cs := #[.int .i64 0,.slice none 0 0,.bool false]) (t := 94) ?_;intro gb341 hg w33 hbox hb;have BK341 := aM_ (hbox);have GE341 := aM_ (sZ_ hg HB.out);have NB340_341 := aM_ (nL_ hg BK340.out);have NB341_340 := aM_ (nG_ hg BK340.out);replace BK340 := aM_ (nB_ BK340.out hb);replace HB := aM_ (sT_ HB.out hb);clear hb hbox hg;have hnb34 := nn_ NB340_341 NB341_340;have z_35 := bR3_ BK340.out) | (refine gL_ (some 6) Try.func171 #[.agg #[.int .i64 a0_0,.slice A0_1 l0_1.length c0_1,.bool false]] ?_;(with_reducible refine (spec_l3Copy.calls a0_0 _ _ l0_1 false t342 t343 t346 _ ?side1 HC0_1.out A2.out).mono ?_);(case side1 => exact cS_ (Kd.C_below HR0_1.out HB.out));rintro e w36 ⟨v344,rfl,ho0,hb⟩;refine ⟨_,rfl,?_⟩;have HO345 := aM_ (Kd.R_lower ho0 (below_size (gB_ HB.out)));replace BK340 := aM_ (nB_ BK340.out hb);replace BK341 := aM_ (nB_ BK341.out hb);replace HB := aM_ (sT_ HB.out hb);(try clear ho0)) | (refine bX_ 4 (cs := #[.int .i64 0,.slice none 0 0,.bool false]) (t := 94) ?_;intro gb347 hg w37 hbox hb;have BK347 := aM_ (hbox);have GE347 := aM_ (sZ_ hg HB.out);have NB340_347 := aM_ (nL_ hg BK340.out);have NB347_340 := aM_ (nG_ hg BK340.out);have NB341_347 := aM_ (nL_ hg BK341.out);have NB347_341 := aM_ (nG_ hg BK341.out);replace HO345 := aM_ (bR_ HO345.out hb);replace BK340 := aM_ (nB_ BK340.out hb);replace BK341 := aM_ (nB_ BK341.out hb);replace HB := aM_ (sT_ HB.out hb);clear hb hbox hg;have hnb38 := nn_ NB347_340 NB340_347;have hnb39 := nn_ NB347_341 NB341_347;have z_40 := bR3_ BK347.out;obtain ⟨Ao41,co41,eo41⟩ := Kd.R_slice HO345.out;subst eo41;have z_42 := bR3_ BK340.out) | (go_at_call 146;(with_reducible refine (spec_ChanOk.calls a0_0 _ _ l0_1 false false _ ?side1 HC0_1.out A16.out).mono ?_);(case side1 => exact Kd.C_below HR0_1.out (gB_ HB.out));rintro e w43 ⟨rfl,hb⟩;replace HO345 := aM_ (Kd.R_below (by (with_reducible repeat (first | apply rA_ | apply rN_ | apply rD_));exact (Kd.R_mono (RF3_ gb347 (Kd.R_types HO345.out BK347.out (by decide)) (fun _ hk => hk.2) (.int .i64 t342) (.slice Ao41 t343.length co41) (.bool t346)) (fun _ h_ => h_.1))) hb);replace BK340 := aM_ (nBf_ BK340.out hb);replace BK341 := aM_ (nBf_ BK341.out hb);replace BK347 := aM_ (blk_below (g := gb347) (o := .cells #[.int .i64 t342,.slice Ao41 t343.length co41,.bool t346] 94 (0,0)) (by (with_reducible repeat (first | refine bN_ ?_ _ | refine bD_ ?_ | refine bA_ ?_ _));refine blk_put (cs := #[.int .i64 t342,.slice Ao41 t343.length co41,.bool false]) ?_ 2 _ rfl;refine blk_put (cs := #[.int .i64 t342,.slice none 0 0,.bool false]) ?_ 1 _ rfl;refine blk_put (cs := #[.int .i64 0,.slice none 0 0,.bool false]) ?_ 0 _ rfl;exact rW_ BK347.out) hb);replace HB := aM_ (sT_ HB.out hb);have z_44 := bR3_ BK347.out;have z_45 := bR3_ BK341.out))
   refine bodyPost_ret (results_ct rfl _ _ gb341 94 #[.int .i64 t342,.slice Ao41 t343.length co41,.bool t346] (0,0) _ rfl (by (with_reducible repeat (first | refine bN_ ?_ _ | refine bD_ ?_ | refine bA_ ?_ _));refine blk_put (cs := #[.int .i64 t342,.slice Ao41 t343.length co41,.bool false]) ?_ 2 _ rfl;refine blk_put (cs := #[.int .i64 t342,.slice none 0 0,.bool false]) ?_ 1 _ rfl;refine blk_put (cs := #[.int .i64 0,.slice none 0 0,.bool false]) ?_ 0 _ rfl;exact rW_ BK341.out) Try.underlying94 rfl (by kernel_rfl)) rfl ?_
   exact ⟨_,fR_,by (with_reducible repeat (first | apply rA_ | apply rN_ | apply rD_));exact Kd.R_mono (RF3_ gb341 (Kd.R_types HO345.out BK341.out (by decide)) (fun _ hk => hk.2) (.int .i64 t342) (.slice Ao41 t343.length co41) (.bool t346)) (fun _ hk => trivial),gB_ HB.out⟩
def spec_ChanTake.f (a0_0 : Int) (l0_1 : List Int) (a0_2 : Bool) : Option (Int × List Int × Bool × Int × Int) := (spec_l3Copy.f a0_0 l0_1 a0_2).bind fun bt351 => ((spec_ChanOk.f a0_0 l0_1 a0_2).bind fun t357 => (if t357 = true then (if (l0_1.length : Int) > 0 then ((some (([] : List Int) : List Int)).bind fun y358 => (if 1 ≤ (l0_1.length : Int) then (if y358.length + (l0_1.drop 1).length < 17592186044416 then (if 0 < (l0_1.length : Int) then (some (bt351.1,(y358 ++ (l0_1.drop 1)),bt351.2.2,rd l0_1 0,0)) else (none)) else (none)) else (none))) else (if a0_2 = true then (some (bt351.1,bt351.2.1,bt351.2.2,0,3)) else (some (bt351.1,bt351.2.1,bt351.2.2,0,1)))) else (some (bt351.1,bt351.2.1,bt351.2.2,0,2))))
def spec_ChanTake.T6 : Bool × List (List Nat × List Nat) := (true,[([],[]),([],[]),([1],[1]),([2],[2]),([3],[3]),([0,0],[0]),([4,5,0,1,2,3,4,5],[4]),([6,0,1,2,3,4,5,6],[])])
def spec_ChanTake.B6 : List Nat := [0,0,2,6,14,1,63,127]
theorem spec_ChanTake.tab6 : rtab .any (opsOf Try.f192 6) = spec_ChanTake.T6 := by kernel_rfl
theorem spec_ChanTake.bits6 : waitsOk spec_ChanTake.T6.2 spec_ChanTake.B6 = true := by kernel_rfl
set_option maxHeartbeats 8000000 in
theorem spec_ChanTake.calls (a0_0 : Int) (A0_1 : Option Addr) (c0_1 : Nat) (l0_1 : List Int) (a0_2 : Bool) (r1 : Int) (r2 : List Int) (r3 : Bool) (r4 : Int) (r5 : Int) (w : World) (hr0_1 : Kd.C (Kd.int .i64) w A0_1 l0_1.length l0_1) (hc0_1 : l0_1.length ≤ c0_1) (h : spec_ChanTake.f a0_0 l0_1 a0_2 = some (r1,r2,r3,r4,r5)) :
  Calls Try.prog 192 #[.agg #[.int .i64 a0_0,.slice A0_1 l0_1.length c0_1,.bool a0_2]] w fun e w' => ∃ v1_ : Value,e = .returned (.tuple #[.agg #[.int .i64 r1,v1_,.bool r3],.int .i64 r4,.int .i64 r5]) ∧ Kd.R (Kd.int .i64) 3 w' w.heap.size (fun _ => True) v1_ r2 ∧ Below w.heap.size w w' := by
 have hu94 := Try.underlying94
 have HR0_1 := aM_ hr0_1
 have HC0_1 := aM_ hc0_1
 clear hr0_1 hc0_1
 have HB := aM_ (Below.refl w.heap.size w)
 have H : ((spec_l3Copy.f a0_0 l0_1 a0_2).bind fun bt351 => ((spec_ChanOk.f a0_0 l0_1 a0_2).bind fun t357 => (if t357 = true then (if (l0_1.length : Int) > 0 then ((some (([] : List Int) : List Int)).bind fun y358 => (if 1 ≤ (l0_1.length : Int) then (if y358.length + (l0_1.drop 1).length < 17592186044416 then (if 0 < (l0_1.length : Int) then (some (bt351.1,(y358 ++ (l0_1.drop 1)),bt351.2.2,rd l0_1 0,0)) else (none)) else (none)) else (none))) else (if a0_2 = true then (some (bt351.1,bt351.2.1,bt351.2.2,0,3)) else (some (bt351.1,bt351.2.1,bt351.2.2,0,1)))) else (some (bt351.1,bt351.2.1,bt351.2.2,0,2))))) = some (r1,r2,r3,r4,r5) := h
 clear h
 replace H := Option.bind_eq_some_iff.mp H
 obtain ⟨⟨t351,t352,t355⟩,A20,H⟩ := H
 replace H : ((spec_ChanOk.f a0_0 l0_1 a0_2).bind fun t357 => (if t357 = true then (if (l0_1.length : Int) > 0 then ((some (([] : List Int) : List Int)).bind fun y358 => (if 1 ≤ (l0_1.length : Int) then (if y358.length + (l0_1.drop 1).length < 17592186044416 then (if 0 < (l0_1.length : Int) then (some (t351,(y358 ++ (l0_1.drop 1)),t355,rd l0_1 0,0)) else (none)) else (none)) else (none))) else (if a0_2 = true then (some (t351,t352,t355,0,3)) else (some (t351,t352,t355,0,1)))) else (some (t351,t352,t355,0,2)))) = some (r1,r2,r3,r4,r5) := H
 have A2 := aM_ A20
 clear A20
 replace H := Option.bind_eq_some_iff.mp H
 obtain ⟨t357,A30,H⟩ := H
 replace H : (if t357 = true then (if (l0_1.length : Int) > 0 then ((some (([] : List Int) : List Int)).bind fun y358 => (if 1 ≤ (l0_1.length : Int) then (if y358.length + (l0_1.drop 1).length < 17592186044416 then (if 0 < (l0_1.length : Int) then (some (t351,(y358 ++ (l0_1.drop 1)),t355,rd l0_1 0,0)) else (none)) else (none)) else (none))) else (if a0_2 = true then (some (t351,t352,t355,0,3)) else (some (t351,t352,t355,0,1)))) else (some (t351,t352,t355,0,2))) = some (r1,r2,r3,r4,r5) := H
 have A3 := aM_ A30
 clear A30
 by_cases c4 : t357 = true
 ·subst c4
  have H1 : (if (l0_1.length : Int) > 0 then ((some (([] : List Int) : List Int)).bind fun y358 => (if 1 ≤ (l0_1.length : Int) then (if y358.length + (l0_1.drop 1).length < 17592186044416 then (if 0 < (l0_1.length : Int) then (some (t351,(y358 ++ (l0_1.drop 1)),t355,rd l0_1 0,0)) else (none)) else (none)) else (none))) else (if a0_2 = true then (some (t351,t352,t355,0,3)) else (some (t351,t352,t355,0,1)))) = some (r1,r2,r3,r4,r5) := by rw [if_pos rfl] at H;exact H
  clear H
  have H := H1
  clear H1
  by_cases c5 : (l0_1.length : Int) > 0
  ·rw [if_pos c5] at H
   have c5b0 : decide (0 < (l0_1.length : Int)) = true := decide_eq_true c5
   have c5b1 : decide (0 < l0_1.length) = true := decide_eq_true (by omega)
   clear c5
   obtain ⟨y358,hy358⟩ : ∃ y_ : List Int,y_ = (([] : List Int)) := ⟨_,rfl⟩
   replace H : (if 1 ≤ (l0_1.length : Int) then (if y358.length + (l0_1.drop 1).length < 17592186044416 then (if 0 < (l0_1.length : Int) then (some (t351,(y358 ++ (l0_1.drop 1)),t355,rd l0_1 0,0)) else (none)) else (none)) else (none)) = some (r1,r2,r3,r4,r5) := by first | (rw [hy358];with_reducible exact H) | (have H2_ := (Option.bind_some _ _).symm.trans H;rw [hy358];with_reducible exact H2_) | (have H2_ := (Option.bind_some _ _).symm.trans H;with_reducible exact H2_) | with_reducible exact H | (rw [hy358];exact H) | exact H
   have Ny358 := aM_ hy358
   clear hy358
   by_cases c6 : 1 ≤ (l0_1.length : Int)
   ·rw [if_pos c6] at H
    have c6b0 := eq_true c6
    have c6b1 : decide (1 ≤ (l0_1.length : Int)) = true := decide_eq_true c6
    clear c6
    by_cases c7 : y358.length + (l0_1.drop 1).length < 17592186044416
    ·rw [if_pos c7] at H
     have LMc7 := aM_ c7
     clear c7
     obtain ⟨y362,hy362⟩ : ∃ y_ : List Int,y_ = (y358 ++ (l0_1.drop 1)) := ⟨_,rfl⟩
     replace H : (if 0 < (l0_1.length : Int) then (some (t351,y362,t355,rd l0_1 0,0)) else (none)) = some (r1,r2,r3,r4,r5) := by first | (rw [hy362];with_reducible exact H) | (have H2_ := (Option.bind_some _ _).symm.trans H;rw [hy362];with_reducible exact H2_) | (have H2_ := (Option.bind_some _ _).symm.trans H;with_reducible exact H2_) | with_reducible exact H | (rw [hy362];exact H) | exact H
     have Ny362 := aM_ hy362
     clear hy362
     by_cases c8 : 0 < (l0_1.length : Int)
     ·rw [if_pos c8] at H
      have c8b0 : decide (0 < (l0_1.length : Int)) = true := decide_eq_true c8
      have c8b1 : decide (0 < l0_1.length) = true := decide_eq_true (by omega)
      clear c8
      simp only [Option.some.injEq,Prod.mk.injEq] at H
      obtain ⟨rfl,rfl,rfl,rfl,rfl⟩ := H
      go_enter Try.func192,Try.ntmps192
      try go_wp2_with (first | (refine bX_ 1 (cs := #[.int .i64 a0_0,.slice A0_1 l0_1.length c0_1,.bool a0_2]) (t := 94) ?_;intro gb349 hg w9 hbox hb;have BK349 := aM_ (hbox);have GE349 := aM_ (sZ_ hg HB.out);replace HB := aM_ (sT_ HB.out hb);clear hb hbox hg) | (refine bX_ 2 (cs := #[.int .i64 0,.slice none 0 0,.bool false]) (t := 94) ?_;intro gb350 hg w10 hbox hb;have BK350 := aM_ (hbox);have GE350 := aM_ (sZ_ hg HB.out);have NB349_350 := aM_ (nL_ hg BK349.out);have NB350_349 := aM_ (nG_ hg BK349.out);replace BK349 := aM_ (nB_ BK349.out hb);replace HB := aM_ (sT_ HB.out hb);clear hb hbox hg;have hnb11 := nn_ NB349_350 NB350_349;have z_12 := bR3_ BK349.out) | (refine gL_ (some 7) Try.func171 #[.agg #[.int .i64 a0_0,.slice A0_1 l0_1.length c0_1,.bool a0_2]] ?_;(with_reducible refine (spec_l3Copy.calls a0_0 _ _ l0_1 a0_2 t351 t352 t355 _ ?side1 HC0_1.out A2.out).mono ?_);(case side1 => exact cS_ (Kd.C_below HR0_1.out HB.out));rintro e w13 ⟨v353,rfl,ho0,hb⟩;refine ⟨_,rfl,?_⟩;have HO354 := aM_ (Kd.R_lower ho0 (below_size (gB_ HB.out)));replace BK349 := aM_ (nB_ BK349.out hb);replace BK350 := aM_ (nB_ BK350.out hb);replace HB := aM_ (sT_ HB.out hb);(try clear ho0)) | (refine bX_ 5 (cs := #[.int .i64 0,.slice none 0 0,.bool false]) (t := 94) ?_;intro gb356 hg w14 hbox hb;have BK356 := aM_ (hbox);have GE356 := aM_ (sZ_ hg HB.out);have NB349_356 := aM_ (nL_ hg BK349.out);have NB356_349 := aM_ (nG_ hg BK349.out);have NB350_356 := aM_ (nL_ hg BK350.out);have NB356_350 := aM_ (nG_ hg BK350.out);replace HO354 := aM_ (bR_ HO354.out hb);replace BK349 := aM_ (nB_ BK349.out hb);replace BK350 := aM_ (nB_ BK350.out hb);replace HB := aM_ (sT_ HB.out hb);clear hb hbox hg;have hnb15 := nn_ NB356_349 NB349_356;have hnb16 := nn_ NB356_350 NB350_356;have z_17 := bR3_ BK356.out;obtain ⟨Ao18,co18,eo18⟩ := Kd.R_slice HO354.out;subst eo18;have z_19 := bR3_ BK349.out) | (refine gL_ (some 10) Try.func146 #[.agg #[.int .i64 a0_0,.slice A0_1 l0_1.length c0_1,.bool a0_2]] ?_;(with_reducible refine (spec_ChanOk.calls a0_0 _ _ l0_1 a0_2 true _ ?side1 HC0_1.out A3.out).mono ?_);(case side1 => exact Kd.C_below HR0_1.out (gB_ HB.out));rintro e w20 ⟨rfl,hb⟩;refine ⟨_,rfl,?_⟩;replace HO354 := aM_ (Kd.R_below (by (with_reducible repeat (first | apply rA_ | apply rN_ | apply rD_));exact (Kd.R_mono (RF3_ gb356 (Kd.R_types HO354.out BK356.out (by decide)) (fun _ hk => hk.2) (.int .i64 t351) (.slice Ao18 t352.length co18) (.bool t355)) (fun _ h_ => h_.1))) hb);replace BK349 := aM_ (nBf_ BK349.out hb);replace BK350 := aM_ (nBf_ BK350.out hb);replace BK356 := aM_ (blk_below (g := gb356) (o := .cells #[.int .i64 t351,.slice Ao18 t352.length co18,.bool t355] 94 (0,0)) (by (with_reducible repeat (first | refine bN_ ?_ _ | refine bD_ ?_ | refine bA_ ?_ _));refine blk_put (cs := #[.int .i64 t351,.slice Ao18 t352.length co18,.bool false]) ?_ 2 _ rfl;refine blk_put (cs := #[.int .i64 t351,.slice none 0 0,.bool false]) ?_ 1 _ rfl;refine blk_put (cs := #[.int .i64 0,.slice none 0 0,.bool false]) ?_ 0 _ rfl;exact rW_ BK356.out) hb);replace HB := aM_ (sT_ HB.out hb);have z_21 := bR3_ BK349.out) | ((with_reducible refine gate_dst (N := 18) rfl ?_);refine Kd.R_lit (Kd.int .i64) _ 3 ?hg (N := 18) ?hd (xs := ([] : List Int)) (inner := []) (ok := fun _ => True) (okp := fun _ => True) ?hr ?hp (fun _ hk => hk) trivial (Below.refl _ _) (Nat.le_refl _) (by simp) ?_;(case hd => rfl);(case hg => rfl);(case hr => first | (go_simp;done) | (go_simp;rfl));(case hp => exact (Reps.none _ _));intro v359 w22 ho23 hb hg_ hnew_;clear hg_ hnew_;(first | rw [← Ny358.out] at ho23 | (simp only [Int.reduceToNat] at ho23;rw [← Ny358.out] at ho23));have HO360 := aM_ (Kd.R_lower (Kd.R_new' ho23 (Kd.R_lt (by (with_reducible repeat (first | apply rA_ | apply rN_ | apply rD_));exact HO354.out))) (below_size (gB_ HB.out)));replace HO354 := aM_ (Kd.R_elder' (by (with_reducible repeat (first | apply rA_ | apply rN_ | apply rD_));exact HO354.out) (Kd.R_base ho23) hb);replace BK349 := aM_ (nB_ BK349.out hb);replace BK350 := aM_ (nB_ BK350.out hb);replace BK356 := aM_ (nB_ BK356.out hb);replace HB := aM_ (sT_ HB.out hb);clear hb ho23;have z_24 := bR3_ BK349.out;obtain ⟨i025,hi025,_,hsz25,_⟩ := info_parts info3;obtain ⟨A25,hcut25,hA25,hC25⟩ := print_drop_of (P := Try.prog) (Value.int .i64) 0 31 3 .i64 Try.underlying31 hi025 hsz25 A0_1 c0_1 l0_1 1 (by omega) (pD_) HC0_1.out;have HR361 := aM_ (Kd.C_of_reads (h1 := fun _ => rfl) (hA25 _ (Kd.reads_of_C HR0_1.out)));have HC361 := aM_ hC25;clear hA25 hC25 hi025 hsz25) | ((with_reducible refine gate_builtin (b := .append) (xs := #[.tmp 18,.tmp 21]) rfl ?_);at_builtin;refine Kd.R_append_rows (Kd.int .i64) (w0 := w) w.heap.size rfl (.tmp 18) (.tmp 21) 31 3 (.int .i64 0) 8 rfl Try.underlying31 info3 rfl (by decide) (by omega) v359 y358 (l0_1.drop 1) _ _ _ (fun k_ => some k_ ≠ (.slice Ao18 t352.length co18 : Value).ownBlock) (fun _ => False) rfl rfl ?aO ?aR (fun _ _ h => h) (fun _ h => h.elim) ?aF ?aB ?aS ?aL ?_;(case aR => first | (rw [← show (l0_1.drop 1).length = (l0_1.length - 1) from List.length_drop];repeat (first | exact (Kd.C_below HR361.out HB.out) | (with_reducible refine Kd.C_alloc ?_ _) | (with_reducible refine Kd.C_drewN ?_ _) | (with_reducible refine Kd.C_drew ?_))) | (repeat (first | exact (Kd.C_below HR361.out HB.out) | (with_reducible refine Kd.C_alloc ?_ _) | (with_reducible refine Kd.C_drewN ?_ _) | (with_reducible refine Kd.C_drew ?_))));(case aB => exact (gB_ HB.out));(case aF => exact (fun k_ hk => Kd.fresh' (Kd.R_lt (by (with_reducible repeat (first | apply rA_ | apply rN_ | apply rD_));exact HO354.out)) k_ hk));(case aO => exact (by (with_reducible repeat (first | apply rA_ | apply rN_ | apply rD_));exact Kd.R_mono HO360.out (fun _ hk => hk.2)));(case aS => exact (below_size (gB_ HB.out)));(case aL => have := LMc7.out;have hlx_ := (show (l0_1.drop 1).length = (l0_1.length - 1) from List.length_drop);omega);intro v363 w26 ho hb hg hat;rw [← Ny362.out] at ho;have HO364 := aM_ (ho);replace BK349 := aM_ (blk_grown (g := gb349) (o := .cells #[.int .i64 a0_0,.slice A0_1 l0_1.length c0_1,.bool a0_2] 94 (0,0)) (by (with_reducible repeat (first | refine bN_ ?_ _ | refine bD_ ?_ | refine bA_ ?_ _));exact BK349.out) hg (Kd.R_ne HO360.out BK349.out (by decide)));replace BK350 := aM_ (blk_grown (g := gb350) (o := .cells #[.int .i64 0,.slice none 0 0,.bool false] 94 (0,0)) (by (with_reducible repeat (first | refine bN_ ?_ _ | refine bD_ ?_ | refine bA_ ?_ _));exact BK350.out) hg (Kd.R_ne HO360.out BK350.out (by decide)));replace HO354 := aM_ (Kd.R_after (ok := (fun _ => True)) (by (with_reducible repeat (first | apply rA_ | apply rN_ | apply rD_));exact HO354.out) hg hat);replace BK356 := aM_ (blk_grown (g := gb356) (o := .cells #[.int .i64 t351,.slice Ao18 t352.length co18,.bool t355] 94 (0,0)) (by (with_reducible repeat (first | refine bN_ ?_ _ | refine bD_ ?_ | refine bA_ ?_ _));exact BK356.out) hg (Kd.R_ne HO360.out BK356.out (by decide)));replace HB := aM_ (hb);clear HO360;clear ho hb hg hat;obtain ⟨Ao27,co27,eo27⟩ := Kd.R_slice HO364.out;subst eo27;have z_28 := bR3_ BK356.out))
      have n0 : Aside0 (Kd.R (Kd.int .i64) 3 (w26.setCell ⟨gb356,1,none⟩ (.slice Ao27 y362.length co27)) w.heap.size (fun k_ => some k_ ≠ (.slice Ao27 y362.length co27 : Value).ownBlock) (.slice Ao18 t352.length co18) t352) := ⟨by (with_reducible repeat (first | apply rA_ | apply rN_ | apply rD_));exact Kd.R_mono (Kd.R_far (p := ⟨gb356,1,none⟩) (Kd.R_types HO354.out BK356.out (by decide)) (fun _ hk => hk.2) (.slice Ao27 y362.length co27)) (fun _ hk => hk.1.2)⟩
      have n1 : Aside0 (Kd.R (Kd.int .i64) 3 (w26.setCell ⟨gb356,1,none⟩ (.slice Ao27 y362.length co27)) w.heap.size (fun k_ => some k_ ≠ (.slice Ao18 t352.length co18 : Value).ownBlock) (.slice Ao27 y362.length co27) y362) := ⟨by (with_reducible repeat (first | apply rA_ | apply rN_ | apply rD_));exact Kd.R_mono (Kd.R_far (p := ⟨gb356,1,none⟩) (Kd.R_types HO364.out BK356.out (by decide)) (fun _ hk => hk.2) (.slice Ao27 y362.length co27)) (fun _ hk => hk.1)⟩
      have n2 : Aside0 ((w26.setCell ⟨gb356,1,none⟩ (.slice Ao27 y362.length co27)).heap[gb349]? = some (.cells #[.int .i64 a0_0,.slice A0_1 l0_1.length c0_1,.bool a0_2] 94 (0,0))) := ⟨rWf_ BK349.out⟩
      have n3 : Aside0 ((w26.setCell ⟨gb356,1,none⟩ (.slice Ao27 y362.length co27)).heap[gb350]? = some (.cells #[.int .i64 0,.slice none 0 0,.bool false] 94 (0,0))) := ⟨rWf_ BK350.out⟩
      have n4 : Aside0 ((w26.setCell ⟨gb356,1,none⟩ (.slice Ao27 y362.length co27)).heap[gb356]? = some (.cells #[.int .i64 t351,.slice Ao27 y362.length co27,.bool t355] 94 (0,0))) := ⟨by (with_reducible repeat (first | refine bN_ ?_ _ | refine bD_ ?_ | refine bA_ ?_ _));refine blk_put (cs := #[.int .i64 t351,.slice Ao18 t352.length co18,.bool t355]) ?_ 1 _ rfl;(with_reducible repeat (first | refine bN_ ?_ _ | refine bD_ ?_ | refine bA_ ?_ _));exact BK356.out⟩
      have n5 : Aside0 (Below w.heap.size w (w26.setCell ⟨gb356,1,none⟩ (.slice Ao27 y362.length co27))) := ⟨gW_ HB.out⟩
      (try clear HO354)
      (try clear HO364)
      (try clear BK349)
      (try clear BK350)
      (try clear BK356)
      (try clear HB)
      generalize (w26.setCell ⟨gb356,1,none⟩ (.slice Ao27 y362.length co27)) = w29 at n0 n1 n2 n3 n4 n5 ⊢
      have HO354 := n0
      have HO364 := n1
      have BK349 := n2
      have BK350 := n3
      have BK356 := n4
      have HB := n5
      clear n0 n1 n2 n3 n4 n5
      replace HO354 := aM_ (Kd.R_drew HO354.out)
      replace HO364 := aM_ (Kd.R_drew HO364.out)
      replace BK349 := aM_ (blk_drew BK349.out)
      replace BK350 := aM_ (blk_drew BK350.out)
      replace BK356 := aM_ (blk_drew BK356.out)
      replace HB := aM_ (below_drew1 HB.out)
      have p365 : 0 ≤ (0 : Int) := (by omega)
      have q365 : 0 < (l0_1.length : Int) := pD_
      obtain ⟨ad365,e365,hx365_0⟩ := Kd.at_int HR0_1.out 0 p365 q365
      have hw365_0 := hx365_0
      (try rw [show ((0 : Int)).toNat = 0 from rfl] at hw365_0)
      (try rw [show 0 * 1 = 0 from rfl] at hw365_0)
      (try rw [Addr.add_zero'] at hw365_0)
      cases e365
      have qi365 : (0 < l0_1.length) = True := eq_true (by omega)
      (try rw [show ((0 : Int)).toNat = 0 from rfl] at hx365_0)
      (try rw [Addr.add_zero'] at hx365_0)
      replace hx365_0 := cB_ HB.out hx365_0
      replace p365 := eq_true p365
      replace q365 := eq_true q365
      refine sTa_ 8 (fun w' => K_ w' gb356 0 (.int .i64 t351) ∧ K_ w' gb356 1 (.slice Ao27 y362.length co27) ∧ K_ w' gb356 2 (.bool t355) ∧ K_ w' gb349 0 (.int .i64 a0_0) ∧ K_ w' gb349 1 (.slice (some ad365) l0_1.length c0_1) ∧ K_ w' gb349 2 (.bool a0_2) ∧ w'.cell? ad365 = some (.int .i64 (rd l0_1 0))) [] ⟨(blk_cell BK356.out 0).trans rfl,(blk_cell BK356.out 1).trans rfl,(blk_cell BK356.out 2).trans rfl,(blk_cell BK349.out 0).trans rfl,(blk_cell BK349.out 1).trans rfl,(blk_cell BK349.out 2).trans rfl,(cB_ HB.out hw365_0 :)⟩ (fun hHeld => ?_);refine with_tabW spec_ChanTake.tab6 spec_ChanTake.bits6 (fun HT_ HW_ => ?_)
      generalize w29.drew = w30 at HO354 HO364 BK349 BK350 BK356 HB hx365_0 hHeld ⊢
      refine jU_ 1 25 8 2 ?_
      refine jK7_ 0 24 8 3 ?_
      refine jK7_ 2 26 8 7 ?_
      refine jU_ 3 27 8 15 ?_
      refine jK7_ 4 28 8 31 ?_
      refine oNn_ 5 (none) (mk_ 8 63) (fun K hK => ?_)
      have hs31 : w30.cell? ⟨gb350,0,none⟩ = some (.int .i64 0) := (blk_cell BK350.out 0).trans rfl
      have hfs31 := blk_frozen BK350.out 0
      have hns31_0 := NB349_350.out
      have hns31_2 := NB356_350.out
      have hms31_0 := NB350_349.out
      have hms31_2 := NB350_356.out
      have hs32 : w30.cell? ⟨gb350,1,none⟩ = some (.slice none 0 0) := (blk_cell BK350.out 1).trans rfl
      have hfs32 := blk_frozen BK350.out 1
      have hns32_0 := NB349_350.out
      have hns32_2 := NB356_350.out
      have hms32_0 := NB350_349.out
      have hms32_2 := NB350_356.out
      have hs33 : w30.cell? ⟨gb350,2,none⟩ = some (.bool false) := (blk_cell BK350.out 2).trans rfl
      have hfs33 := blk_frozen BK350.out 2
      have hns33_0 := NB349_350.out
      have hns33_2 := NB356_350.out
      have hms33_0 := NB350_349.out
      have hms33_2 := NB350_356.out
      refine skip_ (w1 := ?_) (by rfl) rfl ?_ ?_
      rotate_left
      ·go_simp
       rfl
      refine hK.out _ _ ⟨((cell_far (p := ⟨gb350,_,none⟩) NB356_350.out _).trans (((cell_far (p := ⟨gb350,_,none⟩) NB356_350.out _).trans ((cf_ NB356_350.out hHeld.1))))),((cell_far (p := ⟨gb350,_,none⟩) NB356_350.out _).trans (((cell_far (p := ⟨gb350,_,none⟩) NB356_350.out _).trans ((cf_ NB356_350.out hHeld.2.1))))),((cell_far (p := ⟨gb350,_,none⟩) NB356_350.out _).trans (((cell_far (p := ⟨gb350,_,none⟩) NB356_350.out _).trans ((cf_ NB356_350.out hHeld.2.2.1))))),((cell_far (p := ⟨gb350,_,none⟩) NB349_350.out _).trans (((cell_far (p := ⟨gb350,_,none⟩) NB349_350.out _).trans ((cf_ NB349_350.out hHeld.2.2.2.1))))),((cell_far (p := ⟨gb350,_,none⟩) NB349_350.out _).trans (((cell_far (p := ⟨gb350,_,none⟩) NB349_350.out _).trans ((cf_ NB349_350.out hHeld.2.2.2.2.1))))),((cell_far (p := ⟨gb350,_,none⟩) NB349_350.out _).trans (((cell_far (p := ⟨gb350,_,none⟩) NB349_350.out _).trans ((cf_ NB349_350.out hHeld.2.2.2.2.2.1))))),((cell_far (p := ⟨gb350,_,none⟩) (by first | exact Nat.ne_of_lt (Nat.lt_of_lt_of_le (by have := World.block_lt_of_cell? _ _ hw365_0;first | rwa [add_block] at this | exact this) GE350.out) | (rw [add_block];exact Nat.ne_of_lt (Nat.lt_of_lt_of_le (by have := World.block_lt_of_cell? _ _ hw365_0;first | rwa [add_block] at this | exact this) GE350.out)) | (show (Addr.add _ _).block ≠ _;rw [add_block];exact Nat.ne_of_lt (Nat.lt_of_lt_of_le (by have := World.block_lt_of_cell? _ _ hw365_0;first | rwa [add_block] at this | exact this) GE350.out)) | (dsimp only;exact Nat.ne_of_lt (Nat.lt_of_lt_of_le (by have := World.block_lt_of_cell? _ _ hw365_0;first | rwa [add_block] at this | exact this) GE350.out))) _).trans (((cell_far (p := ⟨gb350,_,none⟩) (by first | exact Nat.ne_of_lt (Nat.lt_of_lt_of_le (by have := World.block_lt_of_cell? _ _ hw365_0;first | rwa [add_block] at this | exact this) GE350.out) | (rw [add_block];exact Nat.ne_of_lt (Nat.lt_of_lt_of_le (by have := World.block_lt_of_cell? _ _ hw365_0;first | rwa [add_block] at this | exact this) GE350.out)) | (show (Addr.add _ _).block ≠ _;rw [add_block];exact Nat.ne_of_lt (Nat.lt_of_lt_of_le (by have := World.block_lt_of_cell? _ _ hw365_0;first | rwa [add_block] at this | exact this) GE350.out)) | (dsimp only;exact Nat.ne_of_lt (Nat.lt_of_lt_of_le (by have := World.block_lt_of_cell? _ _ hw365_0;first | rwa [add_block] at this | exact this) GE350.out))) _).trans (((cell_far (p := ⟨gb350,_,none⟩) (by first | exact Nat.ne_of_lt (Nat.lt_of_lt_of_le (by have := World.block_lt_of_cell? _ _ hw365_0;first | rwa [add_block] at this | exact this) GE350.out) | (rw [add_block];exact Nat.ne_of_lt (Nat.lt_of_lt_of_le (by have := World.block_lt_of_cell? _ _ hw365_0;first | rwa [add_block] at this | exact this) GE350.out)) | (show (Addr.add _ _).block ≠ _;rw [add_block];exact Nat.ne_of_lt (Nat.lt_of_lt_of_le (by have := World.block_lt_of_cell? _ _ hw365_0;first | rwa [add_block] at this | exact this) GE350.out)) | (dsimp only;exact Nat.ne_of_lt (Nat.lt_of_lt_of_le (by have := World.block_lt_of_cell? _ _ hw365_0;first | rwa [add_block] at this | exact this) GE350.out))) _).trans (hHeld.2.2.2.2.2.2))))))⟩ (fun hHeld => ?_)
      clear hK K
      refine jU_ 6 3 8 127 ?_
      refine jU_ 7 4 8 255 ?_
      refine done_ (done_of HT_.out (by kernel_rfl)) ?_
      try go_wp2
      refine bodyPost_ret (results_ctt rfl _ _ gb350 94 #[.int .i64 t351,.slice Ao27 y362.length co27,.bool t355] (0,0) _ rfl (by (with_reducible repeat (first | refine bN_ ?_ _ | refine bD_ ?_ | refine bA_ ?_ _));refine blk_put (cs := #[.int .i64 t351,.slice Ao27 y362.length co27,.bool false]) ?_ 2 _ rfl;refine blk_put (cs := #[.int .i64 t351,.slice none 0 0,.bool false]) ?_ 1 _ rfl;refine blk_put (cs := #[.int .i64 0,.slice none 0 0,.bool false]) ?_ 0 _ rfl;exact rW_ BK350.out) Try.underlying94 rfl (by kernel_rfl)) rfl ?_
      exact ⟨_,fR_,by (with_reducible repeat (first | apply rA_ | apply rN_ | apply rD_));exact Kd.R_mono (RF3_ gb350 (Kd.R_types HO364.out BK350.out (by decide)) (fun _ hk => hk.2) (.int .i64 t351) (.slice Ao27 y362.length co27) (.bool t355)) (fun _ hk => trivial),gB_ HB.out⟩
     ·rw [if_neg c8] at H
      exact absurd H (by simp)
    ·rw [if_neg c7] at H
     exact absurd H (by simp)
   ·rw [if_neg c6] at H
    exact absurd H (by simp)
  ·rw [if_neg c5] at H
   have c5b0 : decide (0 < (l0_1.length : Int)) = false := decide_eq_false c5
   have c5b1 : decide (0 < l0_1.length) = false := decide_eq_false (by omega)
   clear c5
   by_cases c34 : a0_2 = true
   ·subst c34
    have H1 : (some (t351,t352,t355,0,3)) = some (r1,r2,r3,r4,r5) := by rw [if_pos rfl] at H;exact H
    clear H
    have H := H1
    clear H1
    simp only [Option.some.injEq,Prod.mk.injEq] at H
    obtain ⟨rfl,rfl,rfl,rfl,rfl⟩ := H
    go_enter Try.func192,Try.ntmps192
    go_wp2_with (first | (refine bX_ 1 (cs := #[.int .i64 a0_0,.slice A0_1 l0_1.length c0_1,.bool true]) (t := 94) ?_;intro gb349 hg w35 hbox hb;have BK349 := aM_ (hbox);have GE349 := aM_ (sZ_ hg HB.out);replace HB := aM_ (sT_ HB.out hb);clear hb hbox hg) | (refine bX_ 2 (cs := #[.int .i64 0,.slice none 0 0,.bool false]) (t := 94) ?_;intro gb350 hg w36 hbox hb;have BK350 := aM_ (hbox);have GE350 := aM_ (sZ_ hg HB.out);have NB349_350 := aM_ (nL_ hg BK349.out);have NB350_349 := aM_ (nG_ hg BK349.out);replace BK349 := aM_ (nB_ BK349.out hb);replace HB := aM_ (sT_ HB.out hb);clear hb hbox hg;have hnb37 := nn_ NB349_350 NB350_349;have z_38 := bR3_ BK349.out) | (refine gL_ (some 7) Try.func171 #[.agg #[.int .i64 a0_0,.slice A0_1 l0_1.length c0_1,.bool true]] ?_;(with_reducible refine (spec_l3Copy.calls a0_0 _ _ l0_1 true t351 t352 t355 _ ?side1 HC0_1.out A2.out).mono ?_);(case side1 => exact cS_ (Kd.C_below HR0_1.out HB.out));rintro e w39 ⟨v353,rfl,ho0,hb⟩;refine ⟨_,rfl,?_⟩;have HO354 := aM_ (Kd.R_lower ho0 (below_size (gB_ HB.out)));replace BK349 := aM_ (nB_ BK349.out hb);replace BK350 := aM_ (nB_ BK350.out hb);replace HB := aM_ (sT_ HB.out hb);(try clear ho0)) | (refine bX_ 5 (cs := #[.int .i64 0,.slice none 0 0,.bool false]) (t := 94) ?_;intro gb356 hg w40 hbox hb;have BK356 := aM_ (hbox);have GE356 := aM_ (sZ_ hg HB.out);have NB349_356 := aM_ (nL_ hg BK349.out);have NB356_349 := aM_ (nG_ hg BK349.out);have NB350_356 := aM_ (nL_ hg BK350.out);have NB356_350 := aM_ (nG_ hg BK350.out);replace HO354 := aM_ (bR_ HO354.out hb);replace BK349 := aM_ (nB_ BK349.out hb);replace BK350 := aM_ (nB_ BK350.out hb);replace HB := aM_ (sT_ HB.out hb);clear hb hbox hg;have hnb41 := nn_ NB356_349 NB349_356;have hnb42 := nn_ NB356_350 NB350_356;have z_43 := bR3_ BK356.out;obtain ⟨Ao44,co44,eo44⟩ := Kd.R_slice HO354.out;subst eo44;have z_45 := bR3_ BK349.out) | (refine gL_ (some 10) Try.func146 #[.agg #[.int .i64 a0_0,.slice A0_1 l0_1.length c0_1,.bool true]] ?_;(with_reducible refine (spec_ChanOk.calls a0_0 _ _ l0_1 true true _ ?side1 HC0_1.out A3.out).mono ?_);(case side1 => exact Kd.C_below HR0_1.out (gB_ HB.out));rintro e w46 ⟨rfl,hb⟩;refine ⟨_,rfl,?_⟩;replace HO354 := aM_ (Kd.R_below (by (with_reducible repeat (first | apply rA_ | apply rN_ | apply rD_));exact (Kd.R_mono (RF3_ gb356 (Kd.R_types HO354.out BK356.out (by decide)) (fun _ hk => hk.2) (.int .i64 t351) (.slice Ao44 t352.length co44) (.bool t355)) (fun _ h_ => h_.1))) hb);replace BK349 := aM_ (nBf_ BK349.out hb);replace BK350 := aM_ (nBf_ BK350.out hb);replace BK356 := aM_ (blk_below (g := gb356) (o := .cells #[.int .i64 t351,.slice Ao44 t352.length co44,.bool t355] 94 (0,0)) (by (with_reducible repeat (first | refine bN_ ?_ _ | refine bD_ ?_ | refine bA_ ?_ _));refine blk_put (cs := #[.int .i64 t351,.slice Ao44 t352.length co44,.bool false]) ?_ 2 _ rfl;refine blk_put (cs := #[.int .i64 t351,.slice none 0 0,.bool false]) ?_ 1 _ rfl;refine blk_put (cs := #[.int .i64 0,.slice none 0 0,.bool false]) ?_ 0 _ rfl;exact rW_ BK356.out) hb);replace HB := aM_ (sT_ HB.out hb);have z_47 := bR3_ BK349.out;have z_48 := bR3_ BK356.out;have z_49 := bR3_ BK350.out))
    refine bodyPost_ret (results_ctt rfl _ _ gb350 94 #[.int .i64 t351,.slice Ao44 t352.length co44,.bool t355] (0,0) _ rfl (by (with_reducible repeat (first | refine bN_ ?_ _ | refine bD_ ?_ | refine bA_ ?_ _));refine blk_put (cs := #[.int .i64 t351,.slice Ao44 t352.length co44,.bool false]) ?_ 2 _ rfl;refine blk_put (cs := #[.int .i64 t351,.slice none 0 0,.bool false]) ?_ 1 _ rfl;refine blk_put (cs := #[.int .i64 0,.slice none 0 0,.bool false]) ?_ 0 _ rfl;exact rW_ BK350.out) Try.underlying94 rfl (by kernel_rfl)) rfl ?_
    exact ⟨_,fR_,by (with_reducible repeat (first | apply rA_ | apply rN_ | apply rD_));exact Kd.R_mono (RF3_ gb350 (Kd.R_types HO354.out BK350.out (by decide)) (fun _ hk => hk.2) (.int .i64 t351) (.slice Ao44 t352.length co44) (.bool t355)) (fun _ hk => trivial),gB_ HB.out⟩
   ·replace c34 := Bool.eq_false_iff.mpr c34
    subst c34
    have H1 : (some (t351,t352,t355,0,1)) = some (r1,r2,r3,r4,r5) := by rw [if_neg (show ¬ (false = true) by decide)] at H;exact H
    clear H
    have H := H1
    clear H1
    simp only [Option.some.injEq,Prod.mk.injEq] at H
    obtain ⟨rfl,rfl,rfl,rfl,rfl⟩ := H
    go_enter Try.func192,Try.ntmps192
    go_wp2_with (first | (refine bX_ 1 (cs := #[.int .i64 a0_0,.slice A0_1 l0_1.length c0_1,.bool false]) (t := 94) ?_;intro gb349 hg w50 hbox hb;have BK349 := aM_ (hbox);have GE349 := aM_ (sZ_ hg HB.out);replace HB := aM_ (sT_ HB.out hb);clear hb hbox hg) | (refine bX_ 2 (cs := #[.int .i64 0,.slice none 0 0,.bool false]) (t := 94) ?_;intro gb350 hg w51 hbox hb;have BK350 := aM_ (hbox);have GE350 := aM_ (sZ_ hg HB.out);have NB349_350 := aM_ (nL_ hg BK349.out);have NB350_349 := aM_ (nG_ hg BK349.out);replace BK349 := aM_ (nB_ BK349.out hb);replace HB := aM_ (sT_ HB.out hb);clear hb hbox hg;have hnb52 := nn_ NB349_350 NB350_349;have z_53 := bR3_ BK349.out) | (refine gL_ (some 7) Try.func171 #[.agg #[.int .i64 a0_0,.slice A0_1 l0_1.length c0_1,.bool false]] ?_;(with_reducible refine (spec_l3Copy.calls a0_0 _ _ l0_1 false t351 t352 t355 _ ?side1 HC0_1.out A2.out).mono ?_);(case side1 => exact cS_ (Kd.C_below HR0_1.out HB.out));rintro e w54 ⟨v353,rfl,ho0,hb⟩;refine ⟨_,rfl,?_⟩;have HO354 := aM_ (Kd.R_lower ho0 (below_size (gB_ HB.out)));replace BK349 := aM_ (nB_ BK349.out hb);replace BK350 := aM_ (nB_ BK350.out hb);replace HB := aM_ (sT_ HB.out hb);(try clear ho0)) | (refine bX_ 5 (cs := #[.int .i64 0,.slice none 0 0,.bool false]) (t := 94) ?_;intro gb356 hg w55 hbox hb;have BK356 := aM_ (hbox);have GE356 := aM_ (sZ_ hg HB.out);have NB349_356 := aM_ (nL_ hg BK349.out);have NB356_349 := aM_ (nG_ hg BK349.out);have NB350_356 := aM_ (nL_ hg BK350.out);have NB356_350 := aM_ (nG_ hg BK350.out);replace HO354 := aM_ (bR_ HO354.out hb);replace BK349 := aM_ (nB_ BK349.out hb);replace BK350 := aM_ (nB_ BK350.out hb);replace HB := aM_ (sT_ HB.out hb);clear hb hbox hg;have hnb56 := nn_ NB356_349 NB349_356;have hnb57 := nn_ NB356_350 NB350_356;have z_58 := bR3_ BK356.out;obtain ⟨Ao59,co59,eo59⟩ := Kd.R_slice HO354.out;subst eo59;have z_60 := bR3_ BK349.out) | (refine gL_ (some 10) Try.func146 #[.agg #[.int .i64 a0_0,.slice A0_1 l0_1.length c0_1,.bool false]] ?_;(with_reducible refine (spec_ChanOk.calls a0_0 _ _ l0_1 false true _ ?side1 HC0_1.out A3.out).mono ?_);(case side1 => exact Kd.C_below HR0_1.out (gB_ HB.out));rintro e w61 ⟨rfl,hb⟩;refine ⟨_,rfl,?_⟩;replace HO354 := aM_ (Kd.R_below (by (with_reducible repeat (first | apply rA_ | apply rN_ | apply rD_));exact (Kd.R_mono (RF3_ gb356 (Kd.R_types HO354.out BK356.out (by decide)) (fun _ hk => hk.2) (.int .i64 t351) (.slice Ao59 t352.length co59) (.bool t355)) (fun _ h_ => h_.1))) hb);replace BK349 := aM_ (nBf_ BK349.out hb);replace BK350 := aM_ (nBf_ BK350.out hb);replace BK356 := aM_ (blk_below (g := gb356) (o := .cells #[.int .i64 t351,.slice Ao59 t352.length co59,.bool t355] 94 (0,0)) (by (with_reducible repeat (first | refine bN_ ?_ _ | refine bD_ ?_ | refine bA_ ?_ _));refine blk_put (cs := #[.int .i64 t351,.slice Ao59 t352.length co59,.bool false]) ?_ 2 _ rfl;refine blk_put (cs := #[.int .i64 t351,.slice none 0 0,.bool false]) ?_ 1 _ rfl;refine blk_put (cs := #[.int .i64 0,.slice none 0 0,.bool false]) ?_ 0 _ rfl;exact rW_ BK356.out) hb);replace HB := aM_ (sT_ HB.out hb);have z_62 := bR3_ BK349.out;have z_63 := bR3_ BK356.out;have z_64 := bR3_ BK350.out))
    refine bodyPost_ret (results_ctt rfl _ _ gb350 94 #[.int .i64 t351,.slice Ao59 t352.length co59,.bool t355] (0,0) _ rfl (by (with_reducible repeat (first | refine bN_ ?_ _ | refine bD_ ?_ | refine bA_ ?_ _));refine blk_put (cs := #[.int .i64 t351,.slice Ao59 t352.length co59,.bool false]) ?_ 2 _ rfl;refine blk_put (cs := #[.int .i64 t351,.slice none 0 0,.bool false]) ?_ 1 _ rfl;refine blk_put (cs := #[.int .i64 0,.slice none 0 0,.bool false]) ?_ 0 _ rfl;exact rW_ BK350.out) Try.underlying94 rfl (by kernel_rfl)) rfl ?_
    exact ⟨_,fR_,by (with_reducible repeat (first | apply rA_ | apply rN_ | apply rD_));exact Kd.R_mono (RF3_ gb350 (Kd.R_types HO354.out BK350.out (by decide)) (fun _ hk => hk.2) (.int .i64 t351) (.slice Ao59 t352.length co59) (.bool t355)) (fun _ hk => trivial),gB_ HB.out⟩
 ·replace c4 := Bool.eq_false_iff.mpr c4
  subst c4
  have H1 : (some (t351,t352,t355,0,2)) = some (r1,r2,r3,r4,r5) := by rw [if_neg (show ¬ (false = true) by decide)] at H;exact H
  clear H
  have H := H1
  clear H1
  simp only [Option.some.injEq,Prod.mk.injEq] at H
  obtain ⟨rfl,rfl,rfl,rfl,rfl⟩ := H
  go_enter Try.func192,Try.ntmps192
  go_wp2_with (first | (refine bX_ 1 (cs := #[.int .i64 a0_0,.slice A0_1 l0_1.length c0_1,.bool a0_2]) (t := 94) ?_;intro gb349 hg w65 hbox hb;have BK349 := aM_ (hbox);have GE349 := aM_ (sZ_ hg HB.out);replace HB := aM_ (sT_ HB.out hb);clear hb hbox hg) | (refine bX_ 2 (cs := #[.int .i64 0,.slice none 0 0,.bool false]) (t := 94) ?_;intro gb350 hg w66 hbox hb;have BK350 := aM_ (hbox);have GE350 := aM_ (sZ_ hg HB.out);have NB349_350 := aM_ (nL_ hg BK349.out);have NB350_349 := aM_ (nG_ hg BK349.out);replace BK349 := aM_ (nB_ BK349.out hb);replace HB := aM_ (sT_ HB.out hb);clear hb hbox hg;have hnb67 := nn_ NB349_350 NB350_349;have z_68 := bR3_ BK349.out) | (refine gL_ (some 7) Try.func171 #[.agg #[.int .i64 a0_0,.slice A0_1 l0_1.length c0_1,.bool a0_2]] ?_;(with_reducible refine (spec_l3Copy.calls a0_0 _ _ l0_1 a0_2 t351 t352 t355 _ ?side1 HC0_1.out A2.out).mono ?_);(case side1 => exact cS_ (Kd.C_below HR0_1.out HB.out));rintro e w69 ⟨v353,rfl,ho0,hb⟩;refine ⟨_,rfl,?_⟩;have HO354 := aM_ (Kd.R_lower ho0 (below_size (gB_ HB.out)));replace BK349 := aM_ (nB_ BK349.out hb);replace BK350 := aM_ (nB_ BK350.out hb);replace HB := aM_ (sT_ HB.out hb);(try clear ho0)) | (refine bX_ 5 (cs := #[.int .i64 0,.slice none 0 0,.bool false]) (t := 94) ?_;intro gb356 hg w70 hbox hb;have BK356 := aM_ (hbox);have GE356 := aM_ (sZ_ hg HB.out);have NB349_356 := aM_ (nL_ hg BK349.out);have NB356_349 := aM_ (nG_ hg BK349.out);have NB350_356 := aM_ (nL_ hg BK350.out);have NB356_350 := aM_ (nG_ hg BK350.out);replace HO354 := aM_ (bR_ HO354.out hb);replace BK349 := aM_ (nB_ BK349.out hb);replace BK350 := aM_ (nB_ BK350.out hb);replace HB := aM_ (sT_ HB.out hb);clear hb hbox hg;have hnb71 := nn_ NB356_349 NB349_356;have hnb72 := nn_ NB356_350 NB350_356;have z_73 := bR3_ BK356.out;obtain ⟨Ao74,co74,eo74⟩ := Kd.R_slice HO354.out;subst eo74;have z_75 := bR3_ BK349.out) | (refine gL_ (some 10) Try.func146 #[.agg #[.int .i64 a0_0,.slice A0_1 l0_1.length c0_1,.bool a0_2]] ?_;(with_reducible refine (spec_ChanOk.calls a0_0 _ _ l0_1 a0_2 false _ ?side1 HC0_1.out A3.out).mono ?_);(case side1 => exact Kd.C_below HR0_1.out (gB_ HB.out));rintro e w76 ⟨rfl,hb⟩;refine ⟨_,rfl,?_⟩;replace HO354 := aM_ (Kd.R_below (by (with_reducible repeat (first | apply rA_ | apply rN_ | apply rD_));exact (Kd.R_mono (RF3_ gb356 (Kd.R_types HO354.out BK356.out (by decide)) (fun _ hk => hk.2) (.int .i64 t351) (.slice Ao74 t352.length co74) (.bool t355)) (fun _ h_ => h_.1))) hb);replace BK349 := aM_ (nBf_ BK349.out hb);replace BK350 := aM_ (nBf_ BK350.out hb);replace BK356 := aM_ (blk_below (g := gb356) (o := .cells #[.int .i64 t351,.slice Ao74 t352.length co74,.bool t355] 94 (0,0)) (by (with_reducible repeat (first | refine bN_ ?_ _ | refine bD_ ?_ | refine bA_ ?_ _));refine blk_put (cs := #[.int .i64 t351,.slice Ao74 t352.length co74,.bool false]) ?_ 2 _ rfl;refine blk_put (cs := #[.int .i64 t351,.slice none 0 0,.bool false]) ?_ 1 _ rfl;refine blk_put (cs := #[.int .i64 0,.slice none 0 0,.bool false]) ?_ 0 _ rfl;exact rW_ BK356.out) hb);replace HB := aM_ (sT_ HB.out hb);have z_77 := bR3_ BK356.out;have z_78 := bR3_ BK350.out))
  refine bodyPost_ret (results_ctt rfl _ _ gb350 94 #[.int .i64 t351,.slice Ao74 t352.length co74,.bool t355] (0,0) _ rfl (by (with_reducible repeat (first | refine bN_ ?_ _ | refine bD_ ?_ | refine bA_ ?_ _));refine blk_put (cs := #[.int .i64 t351,.slice Ao74 t352.length co74,.bool false]) ?_ 2 _ rfl;refine blk_put (cs := #[.int .i64 t351,.slice none 0 0,.bool false]) ?_ 1 _ rfl;refine blk_put (cs := #[.int .i64 0,.slice none 0 0,.bool false]) ?_ 0 _ rfl;exact rW_ BK350.out) Try.underlying94 rfl (by kernel_rfl)) rfl ?_
  exact ⟨_,fR_,by (with_reducible repeat (first | apply rA_ | apply rN_ | apply rD_));exact Kd.R_mono (RF3_ gb350 (Kd.R_types HO354.out BK350.out (by decide)) (fun _ hk => hk.2) (.int .i64 t351) (.slice Ao74 t352.length co74) (.bool t355)) (fun _ hk => trivial),gB_ HB.out⟩
end Go.Proofs.Ytobachfngmpeiaa.PFnExactAble
