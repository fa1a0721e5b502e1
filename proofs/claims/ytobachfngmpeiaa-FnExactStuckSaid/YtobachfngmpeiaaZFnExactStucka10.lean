/- A part of the proof that the law FnExactStuck holds for every input. -/
import Derived.Test.YtobachfngmpeiaaZFnExactStucka9
import Derived.Test.YtobachfngmpeiaaZFnExactStucks
namespace Go.Proofs.Ytobachfngmpeiaa.PFnExactStuck
open Go.RowKit Go.Proofs.YtobachfngmpeiaaW.PrintWords Go.Proofs.YtobachfngmpeiaaW.PrintLast Go.Proofs.YtobachfngmpeiaaW.PrintMore
attribute [local go_sem] max2_int min2_int max_two min_two max_three min_three max_four min_four   -- for this text's walks alone
set_option linter.unusedVariables false
set_option linter.unusedSimpArgs false
def spec_ChanSend.j0 : Nat → Int → Bool → Int → List Int → Bool → Int → List Int → Bool → Option (Int × List Int × Bool × Int)
  | 0,_,_,_,_,_,_,_,_ => none
  | k + 1,x1,x15,x262000,x262001,x262002,x269000,x269001,x269002 => if x15 = true then (some (x269000,x269001,x269002,2)) else (if (x262001.length : Int) = x262000 then (some (x269000,x269001,x269002,1)) else (if x269001.length < 17592186044416 then (some (x269000,(x269001 ++ [x1]),x269002,0)) else (none)))
def spec_ChanSend.f (k : Nat) (a0_0 : Int) (l0_1 : List Int) (a0_2 : Bool) (a1 : Int) : Option (Int × List Int × Bool × Int) := (spec_l3Copy.f a0_0 l0_1 a0_2).bind fun bt263 => (if a0_2 = true then (spec_ChanSend.j0 k a1 true a0_0 l0_1 a0_2 bt263.1 bt263.2.1 bt263.2.2) else ((spec_ChanOk.f a0_0 l0_1 a0_2).bind fun t269 => (spec_ChanSend.j0 k a1 (!t269) a0_0 l0_1 a0_2 bt263.1 bt263.2.1 bt263.2.2)))
set_option maxHeartbeats 8000000 in
set_option maxRecDepth 100000 in
theorem spec_ChanSend.calls (k : Nat) (a0_0 : Int) (A0_1 : Option Addr) (c0_1 : Nat) (l0_1 : List Int) (a0_2 : Bool) (a1 : Int) (r1 : Int) (r2 : List Int) (r3 : Bool) (r4 : Int) (w : World) (hr0_1 : Kd.C (Kd.int .i64) w A0_1 l0_1.length l0_1) (hc0_1 : l0_1.length ≤ c0_1) (h : spec_ChanSend.f k a0_0 l0_1 a0_2 a1 = some (r1,r2,r3,r4)) :
  Calls Try.prog 190 #[.agg #[.int .i64 a0_0,.slice A0_1 l0_1.length c0_1,.bool a0_2],.int .i64 a1] w fun e w' => ∃ v1_ : Value,e = .returned (.tuple #[.agg #[.int .i64 r1,v1_,.bool r3],.int .i64 r4]) ∧ Kd.R (Kd.int .i64) 3 w' w.heap.size (fun _ => True) v1_ r2 ∧ Below w.heap.size w w' := by
 have hu94 := Try.underlying94
 have HR0_1 := aM_ hr0_1
 have HC0_1 := aM_ hc0_1
 clear hr0_1 hc0_1
 have HB := aM_ (Below.refl w.heap.size w)
 have H : ((spec_l3Copy.f a0_0 l0_1 a0_2).bind fun bt263 => (if a0_2 = true then (spec_ChanSend.j0 k a1 true a0_0 l0_1 a0_2 bt263.1 bt263.2.1 bt263.2.2) else ((spec_ChanOk.f a0_0 l0_1 a0_2).bind fun t269 => (spec_ChanSend.j0 k a1 (!t269) a0_0 l0_1 a0_2 bt263.1 bt263.2.1 bt263.2.2)))) = some (r1,r2,r3,r4) := h
 clear h
 replace H := Option.bind_eq_some_iff.mp H
 obtain ⟨⟨t263,t264,t267⟩,A30,H⟩ := H
 replace H : (if a0_2 = true then (spec_ChanSend.j0 k a1 true a0_0 l0_1 a0_2 t263 t264 t267) else ((spec_ChanOk.f a0_0 l0_1 a0_2).bind fun t269 => (spec_ChanSend.j0 k a1 (!t269) a0_0 l0_1 a0_2 t263 t264 t267))) = some (r1,r2,r3,r4) := H
 have A3 := aM_ A30
 clear A30
 have HC4 := aM_ H
 clear H
 go_enter Try.func190,Try.ntmps190
 go_upto_region 2 with (first | ((with_reducible refine gate_dst (N := 2) rfl ?_);refine bX_ 2 (cs := #[.int .i64 a0_0,.slice A0_1 l0_1.length c0_1,.bool a0_2]) (t := 94) ?_;intro gb261 hg w5 hbox hb;have BK261 := aM_ (hbox);have GE261 := aM_ (sZ_ hg HB.out);replace HB := aM_ (sT_ HB.out hb);clear hb hbox hg) | ((with_reducible refine gate_dst (N := 4) rfl ?_);refine bX_ 4 (cs := #[.int .i64 0,.slice none 0 0,.bool false]) (t := 94) ?_;intro gb262 hg w6 hbox hb;have BK262 := aM_ (hbox);have GE262 := aM_ (sZ_ hg HB.out);have NB261_262 := aM_ (nL_ hg BK261.out);have NB262_261 := aM_ (nG_ hg BK261.out);replace BK261 := aM_ (nB_ BK261.out hb);replace HB := aM_ (sT_ HB.out hb);clear hb hbox hg;have hnb7 := NB261_262.out;have hnc7 := NB262_261.out;have z_8 := bR3_ BK261.out) | ((with_reducible refine gate_callee (f := 171) rfl ?_);refine gL_ (some 8) Try.func171 #[.agg #[.int .i64 a0_0,.slice A0_1 l0_1.length c0_1,.bool a0_2]] ?_;(with_reducible refine (spec_l3Copy.calls a0_0 _ _ l0_1 a0_2 t263 t264 t267 _ ?side1 ?side2 A3.out).mono ?_);(case side1 => exact cS_ (Kd.C_below HR0_1.out HB.out));(case side2 => exact HC0_1.out);rintro e w9 ⟨v265,rfl,ho0,hb⟩;refine ⟨_,rfl,?_⟩;have HO266 := aM_ (Kd.R_lower ho0 (below_size (gB_ HB.out)));replace BK261 := aM_ (nB_ BK261.out hb);replace BK262 := aM_ (nB_ BK262.out hb);replace HB := aM_ (sT_ HB.out hb);(try clear ho0)) | ((with_reducible refine gate_dst (N := 6) rfl ?_);refine bX_ 6 (cs := #[.int .i64 0,.slice none 0 0,.bool false]) (t := 94) ?_;intro gb268 hg w10 hbox hb;have BK268 := aM_ (hbox);have GE268 := aM_ (sZ_ hg HB.out);have NB261_268 := aM_ (nL_ hg BK261.out);have NB268_261 := aM_ (nG_ hg BK261.out);have NB262_268 := aM_ (nL_ hg BK262.out);have NB268_262 := aM_ (nG_ hg BK262.out);replace HO266 := aM_ (bR_ HO266.out hb);replace BK261 := aM_ (nB_ BK261.out hb);replace BK262 := aM_ (nB_ BK262.out hb);replace HB := aM_ (sT_ HB.out hb);clear hb hbox hg;have hnb11 := NB268_261.out;have hnc11 := NB261_268.out;have hnb12 := NB268_262.out;have hnc12 := NB262_268.out;have z_13 := bR3_ BK268.out;obtain ⟨Ao14,co14,eo14⟩ := Kd.R_slice HO266.out;subst eo14))
 (try simp only [Act.put,List.setIfInBounds_toArray,List.set_cons_zero,List.set_cons_succ])
 go_cut [15] (fun v15 wc => ∃ (kq : Nat) (x15_3 : Bool),v15 = .bool x15_3 ∧ Aside0 (spec_ChanSend.j0 kq a1 x15_3 a0_0 l0_1 a0_2 t263 t264 t267 = some (r1,r2,r3,r4)) ∧ Aside0 (kq ≤ k) ∧ Aside0 (Kd.R (Kd.int .i64) 3 wc w.heap.size (fun _ => True) (.slice Ao14 t264.length co14) t264) ∧ Aside0 (wc.heap[gb261]? = some (.cells #[.int .i64 a0_0,(.slice A0_1 l0_1.length c0_1),.bool a0_2] 94 (0,0))) ∧ Aside0 (wc.heap[gb262]? = some (.cells #[.int .i64 0,(.slice none 0 0),.bool false] 94 (0,0))) ∧ Aside0 (wc.heap[gb268]? = some (.cells #[.int .i64 t263,(.slice Ao14 t264.length co14),.bool t267] 94 (0,0))) ∧ Aside0 (Below w.heap.size w wc))
 case first =>
  have H := HC4.out
  clear HC4
  by_cases c15 : a0_2 = true
  ·subst c15
   have H1 : (spec_ChanSend.j0 k a1 true a0_0 l0_1 true t263 t264 t267) = some (r1,r2,r3,r4) := by rw [if_pos rfl] at H;exact H
   clear H
   have H := H1
   clear H1
   have H' := aM_ H
   clear H
   have hnb16 := NB261_262.out
   have hnc16 := NB262_261.out
   have hnb17 := NB261_268.out
   have hnc17 := NB268_261.out
   have z_18 := bR3_ BK261.out
   go_wp2
   go_meet
   case rel => exact ⟨_,(true),(by first | rfl | (simp;done) | (simp [*];done)),H',⟨by first | omega | exact Nat.le_refl _⟩,⟨by (with_reducible repeat (first | apply rA_ | apply rN_ | apply rD_));exact Kd.R_mono (Kd.R_far (p := ⟨gb268,2,none⟩) (Kd.R_far (p := ⟨gb268,1,none⟩) (Kd.R_far (p := ⟨gb268,0,none⟩) (Kd.R_types HO266.out BK268.out (by decide)) (fun _ hk => hk.2) (.int .i64 t263)) (fun _ hk => hk.2) (.slice Ao14 t264.length co14)) (fun _ hk => hk.2) (.bool t267)) (fun _ hk => trivial)⟩,⟨rWf_ BK261.out⟩,⟨rWf_ BK262.out⟩,⟨by (with_reducible repeat (first | refine bN_ ?_ _ | refine bD_ ?_ | refine bA_ ?_ _));refine blk_put (cs := #[.int .i64 t263,.slice Ao14 t264.length co14,.bool false]) ?_ 2 _ rfl;refine blk_put (cs := #[.int .i64 t263,.slice none 0 0,.bool false]) ?_ 1 _ rfl;refine blk_put (cs := #[.int .i64 0,.slice none 0 0,.bool false]) ?_ 0 _ rfl;(with_reducible repeat (first | refine bN_ ?_ _ | refine bD_ ?_ | refine bA_ ?_ _));exact BK268.out⟩,⟨gW_ HB.out⟩⟩
  ·replace c15 := Bool.eq_false_iff.mpr c15
   subst c15
   have H1 : ((spec_ChanOk.f a0_0 l0_1 false).bind fun t269 => (spec_ChanSend.j0 k a1 (!t269) a0_0 l0_1 false t263 t264 t267)) = some (r1,r2,r3,r4) := by rw [if_neg (show ¬ (false = true) by decide)] at H;exact H
   clear H
   have H := H1
   clear H1
   replace H := Option.bind_eq_some_iff.mp H
   obtain ⟨t269,A190,H⟩ := H
   replace H : (spec_ChanSend.j0 k a1 (!t269) a0_0 l0_1 false t263 t264 t267) = some (r1,r2,r3,r4) := H
   have A19 := aM_ A190
   clear A190
   have H' := aM_ H
   clear H
   have hnb20 := NB261_262.out
   have hnc20 := NB262_261.out
   have hnb21 := NB261_268.out
   have hnc21 := NB268_261.out
   have z_22 := bR3_ BK261.out
   go_wp2_with (first | (go_at_call 146;(with_reducible refine (spec_ChanOk.calls a0_0 _ _ l0_1 false t269 _ ?side1 ?side2 A19.out).mono ?_);(case side1 => exact Kd.C_below HR0_1.out (gB_ HB.out));(case side2 => exact HC0_1.out);rintro e w23 ⟨rfl,hb⟩;replace HO266 := aM_ (Kd.R_below (by (with_reducible repeat (first | apply rA_ | apply rN_ | apply rD_));exact (Kd.R_mono (Kd.R_far (p := ⟨gb268,2,none⟩) (Kd.R_far (p := ⟨gb268,1,none⟩) (Kd.R_far (p := ⟨gb268,0,none⟩) (Kd.R_types HO266.out BK268.out (by decide)) (fun _ hk => hk.2) (.int .i64 t263)) (fun _ hk => hk.2) (.slice Ao14 t264.length co14)) (fun _ hk => hk.2) (.bool t267)) (fun _ h_ => h_.1))) hb);replace BK261 := aM_ (nBf_ BK261.out hb);replace BK262 := aM_ (nBf_ BK262.out hb);replace BK268 := aM_ (blk_below (g := gb268) (o := .cells #[.int .i64 t263,.slice Ao14 t264.length co14,.bool t267] 94 (0,0)) (by (with_reducible repeat (first | refine bN_ ?_ _ | refine bD_ ?_ | refine bA_ ?_ _));refine blk_put (cs := #[.int .i64 t263,.slice Ao14 t264.length co14,.bool false]) ?_ 2 _ rfl;refine blk_put (cs := #[.int .i64 t263,.slice none 0 0,.bool false]) ?_ 1 _ rfl;refine blk_put (cs := #[.int .i64 0,.slice none 0 0,.bool false]) ?_ 0 _ rfl;exact rW_ BK268.out) hb);replace HB := aM_ (sT_ HB.out hb)))
   go_meet
   case rel => exact ⟨_,(!t269),(by first | rfl | (simp;done) | (simp [*];done)),H',⟨by first | omega | exact Nat.le_refl _⟩,⟨by (with_reducible repeat (first | apply rA_ | apply rN_ | apply rD_));exact HO266.out⟩,⟨rW_ BK261.out⟩,⟨rW_ BK262.out⟩,⟨rW_ BK268.out⟩,⟨gW_ HB.out⟩⟩
 case rest =>
  clear HC4
  try clear c1
  try clear c2
  try clear p2
  try clear c7
  try clear c11
  try clear c12
  try clear c15
  try clear c16
  try clear c17
  try clear c19
  try clear c20
  try clear c21
  try clear z_13
  try clear z_18
  try clear z_22
  try clear z_8
  obtain ⟨kq,x15_3,rfl,HA,HJ3,HO_269001,BK261,BK262,BK268,HB⟩ := hcut
  cases kq with
  | zero => exact absurd HA.out (by simp [spec_ChanSend.j0])
  | succ kj3 =>
   have H := HA.out
   clear HA
   simp only [spec_ChanSend.j0] at H
   by_cases c24 : x15_3 = true
   ·subst c24
    have H1 : (some (t263,t264,t267,2)) = some (r1,r2,r3,r4) := by rw [if_pos rfl] at H;exact H
    clear H
    have H := H1
    clear H1
    simp only [Option.some.injEq,Prod.mk.injEq] at H
    obtain ⟨rfl,rfl,rfl,rfl⟩ := H
    have hnb25 := NB268_261.out
    have hnc25 := NB261_268.out
    have hnb26 := NB268_262.out
    have hnc26 := NB262_268.out
    have z_27 := bR3_ BK268.out
    have hnb28 := NB262_261.out
    have hnc28 := NB261_262.out
    have z_29 := bR3_ BK262.out
    go_wp2
    refine bodyPost_ret (results_ct rfl _ _ gb262 94 #[.int .i64 t263,.slice Ao14 t264.length co14,.bool t267] (0,0) _ rfl (by (with_reducible repeat (first | refine bN_ ?_ _ | refine bD_ ?_ | refine bA_ ?_ _));refine blk_put (cs := #[.int .i64 t263,.slice Ao14 t264.length co14,.bool false]) ?_ 2 _ rfl;refine blk_put (cs := #[.int .i64 t263,.slice none 0 0,.bool false]) ?_ 1 _ rfl;refine blk_put (cs := #[.int .i64 0,.slice none 0 0,.bool false]) ?_ 0 _ rfl;exact rW_ BK262.out) Try.underlying94 rfl (by kernel_rfl)) rfl ?_
    exact ⟨_,fR_,by (with_reducible repeat (first | apply rA_ | apply rN_ | apply rD_));exact Kd.R_mono (Kd.R_far (p := ⟨gb262,2,none⟩) (Kd.R_far (p := ⟨gb262,1,none⟩) (Kd.R_far (p := ⟨gb262,0,none⟩) (Kd.R_types HO_269001.out BK262.out (by decide)) (fun _ hk => hk.2) (.int .i64 t263)) (fun _ hk => hk.2) (.slice Ao14 t264.length co14)) (fun _ hk => hk.2) (.bool t267)) (fun _ hk => trivial),gB_ HB.out⟩
   ·replace c24 := Bool.eq_false_iff.mpr c24
    subst c24
    have H1 : (if (l0_1.length : Int) = a0_0 then (some (t263,t264,t267,1)) else (if t264.length < 17592186044416 then (some (t263,(t264 ++ [a1]),t267,0)) else (none))) = some (r1,r2,r3,r4) := by rw [if_neg (show ¬ (false = true) by decide)] at H;exact H
    clear H
    have H := H1
    clear H1
    by_cases c30 : (l0_1.length : Int) = a0_0
    ·rw [if_pos c30] at H
     have c30b0 : ((l0_1.length : Int) == a0_0) = true := beq_iff_eq.mpr c30
     have c30b1 : ((l0_1.length : Int) != a0_0) = false := bne_eq_false_iff_eq.mpr c30
     clear c30
     simp only [Option.some.injEq,Prod.mk.injEq] at H
     obtain ⟨rfl,rfl,rfl,rfl⟩ := H
     have hnb31 := NB261_262.out
     have hnc31 := NB262_261.out
     have hnb32 := NB261_268.out
     have hnc32 := NB268_261.out
     have z_33 := bR3_ BK261.out
     have hnb34 := NB268_262.out
     have hnc34 := NB262_268.out
     have z_35 := bR3_ BK268.out
     have z_36 := bR3_ BK262.out
     go_wp2
     refine bodyPost_ret (results_ct rfl _ _ gb262 94 #[.int .i64 t263,.slice Ao14 t264.length co14,.bool t267] (0,0) _ rfl (by (with_reducible repeat (first | refine bN_ ?_ _ | refine bD_ ?_ | refine bA_ ?_ _));refine blk_put (cs := #[.int .i64 t263,.slice Ao14 t264.length co14,.bool false]) ?_ 2 _ rfl;refine blk_put (cs := #[.int .i64 t263,.slice none 0 0,.bool false]) ?_ 1 _ rfl;refine blk_put (cs := #[.int .i64 0,.slice none 0 0,.bool false]) ?_ 0 _ rfl;exact rW_ BK262.out) Try.underlying94 rfl (by kernel_rfl)) rfl ?_
     exact ⟨_,fR_,by (with_reducible repeat (first | apply rA_ | apply rN_ | apply rD_));exact Kd.R_mono (Kd.R_far (p := ⟨gb262,2,none⟩) (Kd.R_far (p := ⟨gb262,1,none⟩) (Kd.R_far (p := ⟨gb262,0,none⟩) (Kd.R_types HO_269001.out BK262.out (by decide)) (fun _ hk => hk.2) (.int .i64 t263)) (fun _ hk => hk.2) (.slice Ao14 t264.length co14)) (fun _ hk => hk.2) (.bool t267)) (fun _ hk => trivial),gB_ HB.out⟩
    ·rw [if_neg c30] at H
     have c30b0 : ((l0_1.length : Int) == a0_0) = false := beq_eq_false_iff_ne.mpr c30
     have c30b1 : ((l0_1.length : Int) != a0_0) = true := bne_iff_ne.mpr c30
     by_cases c37 : t264.length < 17592186044416
     ·rw [if_pos c37] at H
      have LMc37 := aM_ c37
      clear c37
      obtain ⟨y270,hy270⟩ : ∃ y_ : List Int,y_ = (t264 ++ [a1]) := ⟨_,rfl⟩
      replace H : (some (t263,y270,t267,0)) = some (r1,r2,r3,r4) := by first | (rw [hy270];with_reducible exact H) | (have H2_ := (Option.bind_some _ _).symm.trans H;rw [hy270];with_reducible exact H2_) | (have H2_ := (Option.bind_some _ _).symm.trans H;with_reducible exact H2_) | with_reducible exact H | (rw [hy270];exact H) | exact H
      have Ny270 := aM_ hy270
      clear hy270
      simp only [Option.some.injEq,Prod.mk.injEq] at H
      obtain ⟨rfl,rfl,rfl,rfl⟩ := H
      have hnb38 := NB261_262.out
      have hnc38 := NB262_261.out
      have hnb39 := NB261_268.out
      have hnc39 := NB268_261.out
      have z_40 := bR3_ BK261.out
      have hnb41 := NB268_262.out
      have hnc41 := NB262_268.out
      have z_42 := bR3_ BK268.out
      go_wp2_with (first | ((with_reducible refine gate_builtin (b := .append) (xs := #[.tmp 25,.tmp 27]) rfl ?_);at_builtin;refine Kd.R_append (Kd.int .i64) (w0 := w) w.heap.size rfl (.tmp 25) (.tmp 27) 31 3 (.int .i64 0) 8 rfl Try.underlying31 info3 rfl (by decide) (by omega) (.slice Ao14 t264.length co14) t264 a1 [.int .i64 a1] (fun _ => True) (fun _ => False) rfl rfl ?aP (fun _ hk => hk.elim) ?aF ?aO ?aB ?aS ?aL ?_;(case aP => exact rfl);(case aB => exact (gB_ HB.out));(case aF => exact (fun _ _ => trivial));(case aO => exact (by (with_reducible repeat (first | apply rA_ | apply rN_ | apply rD_));exact HO_269001.out));(case aS => exact (below_size (gB_ HB.out)));(case aL => have := LMc37.out;omega);intro v271 w43 ho hb hg hat;rw [← Ny270.out] at ho;have HO272 := aM_ (ho);replace BK261 := aM_ (blk_grown (g := gb261) (o := .cells #[.int .i64 a0_0,.slice A0_1 l0_1.length c0_1,.bool a0_2] 94 (0,0)) (by (with_reducible repeat (first | refine bN_ ?_ _ | refine bD_ ?_ | refine bA_ ?_ _));exact BK261.out) hg (Kd.R_ne HO_269001.out BK261.out (by decide)));replace BK262 := aM_ (blk_grown (g := gb262) (o := .cells #[.int .i64 0,.slice none 0 0,.bool false] 94 (0,0)) (by (with_reducible repeat (first | refine bN_ ?_ _ | refine bD_ ?_ | refine bA_ ?_ _));exact BK262.out) hg (Kd.R_ne HO_269001.out BK262.out (by decide)));replace BK268 := aM_ (blk_grown (g := gb268) (o := .cells #[.int .i64 t263,.slice Ao14 t264.length co14,.bool t267] 94 (0,0)) (by (with_reducible repeat (first | refine bN_ ?_ _ | refine bD_ ?_ | refine bA_ ?_ _));exact BK268.out) hg (Kd.R_ne HO_269001.out BK268.out (by decide)));replace HB := aM_ (hb);clear HO_269001;clear ho hb hg hat;obtain ⟨Ao44,co44,eo44⟩ := Kd.R_slice HO272.out;subst eo44;have z_45 := bR3_ BK268.out;have z_46 := bR3_ BK262.out))
      refine bodyPost_ret (results_ct rfl _ _ gb262 94 #[.int .i64 t263,.slice Ao44 y270.length co44,.bool t267] (0,0) _ rfl (by (with_reducible repeat (first | refine bN_ ?_ _ | refine bD_ ?_ | refine bA_ ?_ _));refine blk_put (cs := #[.int .i64 t263,.slice Ao44 y270.length co44,.bool false]) ?_ 2 _ rfl;refine blk_put (cs := #[.int .i64 t263,.slice none 0 0,.bool false]) ?_ 1 _ rfl;refine blk_put (cs := #[.int .i64 0,.slice none 0 0,.bool false]) ?_ 0 _ rfl;exact rWf_ BK262.out) Try.underlying94 rfl (by kernel_rfl)) rfl ?_
      exact ⟨_,fR_,by (with_reducible repeat (first | apply rA_ | apply rN_ | apply rD_));exact Kd.R_mono (Kd.R_far (p := ⟨gb262,2,none⟩) (Kd.R_far (p := ⟨gb262,1,none⟩) (Kd.R_far (p := ⟨gb262,0,none⟩) (Kd.R_far (p := ⟨gb268,1,none⟩) (Kd.R_types (Kd.R_types HO272.out BK268.out (by decide)) BK262.out (by decide)) (fun _ hk => hk.1.2) (.slice Ao44 y270.length co44)) (fun _ hk => hk.2) (.int .i64 t263)) (fun _ hk => hk.2) (.slice Ao44 y270.length co44)) (fun _ hk => hk.2) (.bool t267)) (fun _ hk => trivial),gB_ HB.out⟩
     ·rw [if_neg c37] at H
      exact absurd H (by simp)
def spec_ChanClose.f (a0_0 : Int) (l0_1 : List Int) (a0_2 : Bool) : Option (Int × List Int × Bool × Int) := (spec_l3Copy.f a0_0 l0_1 a0_2).bind fun bt275 => (if a0_2 = true then (some (bt275.1,bt275.2.1,bt275.2.2,2)) else ((spec_ChanOk.f a0_0 l0_1 a0_2).bind fun t281 => (if t281 = true then (some (bt275.1,bt275.2.1,true,0)) else (some (bt275.1,bt275.2.1,bt275.2.2,2)))))
set_option maxHeartbeats 8000000 in
set_option maxRecDepth 100000 in
theorem spec_ChanClose.calls (a0_0 : Int) (A0_1 : Option Addr) (c0_1 : Nat) (l0_1 : List Int) (a0_2 : Bool) (r1 : Int) (r2 : List Int) (r3 : Bool) (r4 : Int) (w : World) (hr0_1 : Kd.C (Kd.int .i64) w A0_1 l0_1.length l0_1) (hc0_1 : l0_1.length ≤ c0_1) (h : spec_ChanClose.f a0_0 l0_1 a0_2 = some (r1,r2,r3,r4)) :
  Calls Try.prog 191 #[.agg #[.int .i64 a0_0,.slice A0_1 l0_1.length c0_1,.bool a0_2]] w fun e w' => ∃ v1_ : Value,e = .returned (.tuple #[.agg #[.int .i64 r1,v1_,.bool r3],.int .i64 r4]) ∧ Kd.R (Kd.int .i64) 3 w' w.heap.size (fun _ => True) v1_ r2 ∧ Below w.heap.size w w' := by
 have hu94 := Try.underlying94
 have HR0_1 := aM_ hr0_1
 have HC0_1 := aM_ hc0_1
 clear hr0_1 hc0_1
 have HB := aM_ (Below.refl w.heap.size w)
 have H : ((spec_l3Copy.f a0_0 l0_1 a0_2).bind fun bt275 => (if a0_2 = true then (some (bt275.1,bt275.2.1,bt275.2.2,2)) else ((spec_ChanOk.f a0_0 l0_1 a0_2).bind fun t281 => (if t281 = true then (some (bt275.1,bt275.2.1,true,0)) else (some (bt275.1,bt275.2.1,bt275.2.2,2)))))) = some (r1,r2,r3,r4) := h
 clear h
 replace H := Option.bind_eq_some_iff.mp H
 obtain ⟨⟨t275,t276,t279⟩,A20,H⟩ := H
 replace H : (if a0_2 = true then (some (t275,t276,t279,2)) else ((spec_ChanOk.f a0_0 l0_1 a0_2).bind fun t281 => (if t281 = true then (some (t275,t276,true,0)) else (some (t275,t276,t279,2))))) = some (r1,r2,r3,r4) := H
 have A2 := aM_ A20
 clear A20
 by_cases c3 : a0_2 = true
 ·subst c3
  have H1 : (some (t275,t276,t279,2)) = some (r1,r2,r3,r4) := by rw [if_pos rfl] at H;exact H
  clear H
  have H := H1
  clear H1
  simp only [Option.some.injEq,Prod.mk.injEq] at H
  obtain ⟨rfl,rfl,rfl,rfl⟩ := H
  go_enter Try.func191,Try.ntmps191
  go_wp2_with (first | ((with_reducible refine gate_dst (N := 1) rfl ?_);refine bX_ 1 (cs := #[.int .i64 a0_0,.slice A0_1 l0_1.length c0_1,.bool true]) (t := 94) ?_;intro gb273 hg w4 hbox hb;have BK273 := aM_ (hbox);have GE273 := aM_ (sZ_ hg HB.out);replace HB := aM_ (sT_ HB.out hb);clear hb hbox hg) | ((with_reducible refine gate_dst (N := 2) rfl ?_);refine bX_ 2 (cs := #[.int .i64 0,.slice none 0 0,.bool false]) (t := 94) ?_;intro gb274 hg w5 hbox hb;have BK274 := aM_ (hbox);have GE274 := aM_ (sZ_ hg HB.out);have NB273_274 := aM_ (nL_ hg BK273.out);have NB274_273 := aM_ (nG_ hg BK273.out);replace BK273 := aM_ (nB_ BK273.out hb);replace HB := aM_ (sT_ HB.out hb);clear hb hbox hg;have hnb6 := NB273_274.out;have hnc6 := NB274_273.out;have z_7 := bR3_ BK273.out) | ((with_reducible refine gate_callee (f := 171) rfl ?_);refine gL_ (some 6) Try.func171 #[.agg #[.int .i64 a0_0,.slice A0_1 l0_1.length c0_1,.bool true]] ?_;(with_reducible refine (spec_l3Copy.calls a0_0 _ _ l0_1 true t275 t276 t279 _ ?side1 ?side2 A2.out).mono ?_);(case side1 => exact cS_ (Kd.C_below HR0_1.out HB.out));(case side2 => exact HC0_1.out);rintro e w8 ⟨v277,rfl,ho0,hb⟩;refine ⟨_,rfl,?_⟩;have HO278 := aM_ (Kd.R_lower ho0 (below_size (gB_ HB.out)));replace BK273 := aM_ (nB_ BK273.out hb);replace BK274 := aM_ (nB_ BK274.out hb);replace HB := aM_ (sT_ HB.out hb);(try clear ho0)) | ((with_reducible refine gate_dst (N := 4) rfl ?_);refine bX_ 4 (cs := #[.int .i64 0,.slice none 0 0,.bool false]) (t := 94) ?_;intro gb280 hg w9 hbox hb;have BK280 := aM_ (hbox);have GE280 := aM_ (sZ_ hg HB.out);have NB273_280 := aM_ (nL_ hg BK273.out);have NB280_273 := aM_ (nG_ hg BK273.out);have NB274_280 := aM_ (nL_ hg BK274.out);have NB280_274 := aM_ (nG_ hg BK274.out);replace HO278 := aM_ (bR_ HO278.out hb);replace BK273 := aM_ (nB_ BK273.out hb);replace BK274 := aM_ (nB_ BK274.out hb);replace HB := aM_ (sT_ HB.out hb);clear hb hbox hg;have hnb10 := NB280_273.out;have hnc10 := NB273_280.out;have hnb11 := NB280_274.out;have hnc11 := NB274_280.out;have z_12 := bR3_ BK280.out;obtain ⟨Ao13,co13,eo13⟩ := Kd.R_slice HO278.out;subst eo13;have z_14 := bR3_ BK273.out;have z_15 := bR3_ BK274.out))
  refine bodyPost_ret (results_ct rfl _ _ gb274 94 #[.int .i64 t275,.slice Ao13 t276.length co13,.bool t279] (0,0) _ rfl (by (with_reducible repeat (first | refine bN_ ?_ _ | refine bD_ ?_ | refine bA_ ?_ _));refine blk_put (cs := #[.int .i64 t275,.slice Ao13 t276.length co13,.bool false]) ?_ 2 _ rfl;refine blk_put (cs := #[.int .i64 t275,.slice none 0 0,.bool false]) ?_ 1 _ rfl;refine blk_put (cs := #[.int .i64 0,.slice none 0 0,.bool false]) ?_ 0 _ rfl;exact rWf_ BK274.out) Try.underlying94 rfl (by kernel_rfl)) rfl ?_
  exact ⟨_,fR_,by (with_reducible repeat (first | apply rA_ | apply rN_ | apply rD_));exact Kd.R_mono (Kd.R_far (p := ⟨gb274,2,none⟩) (Kd.R_far (p := ⟨gb274,1,none⟩) (Kd.R_far (p := ⟨gb274,0,none⟩) (Kd.R_far (p := ⟨gb280,2,none⟩) (Kd.R_far (p := ⟨gb280,1,none⟩) (Kd.R_far (p := ⟨gb280,0,none⟩) (Kd.R_types (Kd.R_types HO278.out BK280.out (by decide)) BK274.out (by decide)) (fun _ hk => hk.1.2) (.int .i64 t275)) (fun _ hk => hk.1.2) (.slice Ao13 t276.length co13)) (fun _ hk => hk.1.2) (.bool t279)) (fun _ hk => hk.2) (.int .i64 t275)) (fun _ hk => hk.2) (.slice Ao13 t276.length co13)) (fun _ hk => hk.2) (.bool t279)) (fun _ hk => trivial),gB_ HB.out⟩
 ·replace c3 := Bool.eq_false_iff.mpr c3
  subst c3
  have H1 : ((spec_ChanOk.f a0_0 l0_1 false).bind fun t281 => (if t281 = true then (some (t275,t276,true,0)) else (some (t275,t276,t279,2)))) = some (r1,r2,r3,r4) := by rw [if_neg (show ¬ (false = true) by decide)] at H;exact H
  clear H
  have H := H1
  clear H1
  replace H := Option.bind_eq_some_iff.mp H
  obtain ⟨t281,A160,H⟩ := H
  replace H : (if t281 = true then (some (t275,t276,true,0)) else (some (t275,t276,t279,2))) = some (r1,r2,r3,r4) := H
  have A16 := aM_ A160
  clear A160
  by_cases c17 : t281 = true
  ·subst c17
   have H1 : (some (t275,t276,true,0)) = some (r1,r2,r3,r4) := by rw [if_pos rfl] at H;exact H
   clear H
   have H := H1
   clear H1
   simp only [Option.some.injEq,Prod.mk.injEq] at H
   obtain ⟨rfl,rfl,rfl,rfl⟩ := H
   go_enter Try.func191,Try.ntmps191
   go_wp2_with (first | ((with_reducible refine gate_dst (N := 1) rfl ?_);refine bX_ 1 (cs := #[.int .i64 a0_0,.slice A0_1 l0_1.length c0_1,.bool false]) (t := 94) ?_;intro gb273 hg w18 hbox hb;have BK273 := aM_ (hbox);have GE273 := aM_ (sZ_ hg HB.out);replace HB := aM_ (sT_ HB.out hb);clear hb hbox hg) | ((with_reducible refine gate_dst (N := 2) rfl ?_);refine bX_ 2 (cs := #[.int .i64 0,.slice none 0 0,.bool false]) (t := 94) ?_;intro gb274 hg w19 hbox hb;have BK274 := aM_ (hbox);have GE274 := aM_ (sZ_ hg HB.out);have NB273_274 := aM_ (nL_ hg BK273.out);have NB274_273 := aM_ (nG_ hg BK273.out);replace BK273 := aM_ (nB_ BK273.out hb);replace HB := aM_ (sT_ HB.out hb);clear hb hbox hg;have hnb20 := NB273_274.out;have hnc20 := NB274_273.out;have z_21 := bR3_ BK273.out) | ((with_reducible refine gate_callee (f := 171) rfl ?_);refine gL_ (some 6) Try.func171 #[.agg #[.int .i64 a0_0,.slice A0_1 l0_1.length c0_1,.bool false]] ?_;(with_reducible refine (spec_l3Copy.calls a0_0 _ _ l0_1 false t275 t276 t279 _ ?side1 ?side2 A2.out).mono ?_);(case side1 => exact cS_ (Kd.C_below HR0_1.out HB.out));(case side2 => exact HC0_1.out);rintro e w22 ⟨v277,rfl,ho0,hb⟩;refine ⟨_,rfl,?_⟩;have HO278 := aM_ (Kd.R_lower ho0 (below_size (gB_ HB.out)));replace BK273 := aM_ (nB_ BK273.out hb);replace BK274 := aM_ (nB_ BK274.out hb);replace HB := aM_ (sT_ HB.out hb);(try clear ho0)) | ((with_reducible refine gate_dst (N := 4) rfl ?_);refine bX_ 4 (cs := #[.int .i64 0,.slice none 0 0,.bool false]) (t := 94) ?_;intro gb280 hg w23 hbox hb;have BK280 := aM_ (hbox);have GE280 := aM_ (sZ_ hg HB.out);have NB273_280 := aM_ (nL_ hg BK273.out);have NB280_273 := aM_ (nG_ hg BK273.out);have NB274_280 := aM_ (nL_ hg BK274.out);have NB280_274 := aM_ (nG_ hg BK274.out);replace HO278 := aM_ (bR_ HO278.out hb);replace BK273 := aM_ (nB_ BK273.out hb);replace BK274 := aM_ (nB_ BK274.out hb);replace HB := aM_ (sT_ HB.out hb);clear hb hbox hg;have hnb24 := NB280_273.out;have hnc24 := NB273_280.out;have hnb25 := NB280_274.out;have hnc25 := NB274_280.out;have z_26 := bR3_ BK280.out;obtain ⟨Ao27,co27,eo27⟩ := Kd.R_slice HO278.out;subst eo27;have z_28 := bR3_ BK273.out) | (go_at_call 146;(with_reducible refine (spec_ChanOk.calls a0_0 _ _ l0_1 false true _ ?side1 ?side2 A16.out).mono ?_);(case side1 => exact Kd.C_below HR0_1.out (gB_ HB.out));(case side2 => exact HC0_1.out);rintro e w29 ⟨rfl,hb⟩;replace HO278 := aM_ (Kd.R_below (by (with_reducible repeat (first | apply rA_ | apply rN_ | apply rD_));exact (Kd.R_mono (Kd.R_far (p := ⟨gb280,2,none⟩) (Kd.R_far (p := ⟨gb280,1,none⟩) (Kd.R_far (p := ⟨gb280,0,none⟩) (Kd.R_types HO278.out BK280.out (by decide)) (fun _ hk => hk.2) (.int .i64 t275)) (fun _ hk => hk.2) (.slice Ao27 t276.length co27)) (fun _ hk => hk.2) (.bool t279)) (fun _ h_ => h_.1))) hb);replace BK273 := aM_ (nBf_ BK273.out hb);replace BK274 := aM_ (nBf_ BK274.out hb);replace BK280 := aM_ (blk_below (g := gb280) (o := .cells #[.int .i64 t275,.slice Ao27 t276.length co27,.bool t279] 94 (0,0)) (by (with_reducible repeat (first | refine bN_ ?_ _ | refine bD_ ?_ | refine bA_ ?_ _));refine blk_put (cs := #[.int .i64 t275,.slice Ao27 t276.length co27,.bool false]) ?_ 2 _ rfl;refine blk_put (cs := #[.int .i64 t275,.slice none 0 0,.bool false]) ?_ 1 _ rfl;refine blk_put (cs := #[.int .i64 0,.slice none 0 0,.bool false]) ?_ 0 _ rfl;exact rW_ BK280.out) hb);replace HB := aM_ (sT_ HB.out hb);have z_30 := bR3_ BK280.out;have z_31 := bR3_ BK274.out))
   refine bodyPost_ret (results_ct rfl _ _ gb274 94 #[.int .i64 t275,.slice Ao27 t276.length co27,.bool true] (0,0) _ rfl (by (with_reducible repeat (first | refine bN_ ?_ _ | refine bD_ ?_ | refine bA_ ?_ _));refine blk_put (cs := #[.int .i64 t275,.slice Ao27 t276.length co27,.bool false]) ?_ 2 _ rfl;refine blk_put (cs := #[.int .i64 t275,.slice none 0 0,.bool false]) ?_ 1 _ rfl;refine blk_put (cs := #[.int .i64 0,.slice none 0 0,.bool false]) ?_ 0 _ rfl;exact rWf_ BK274.out) Try.underlying94 rfl (by kernel_rfl)) rfl ?_
   exact ⟨_,fR_,by (with_reducible repeat (first | apply rA_ | apply rN_ | apply rD_));exact Kd.R_mono (Kd.R_far (p := ⟨gb274,2,none⟩) (Kd.R_far (p := ⟨gb274,1,none⟩) (Kd.R_far (p := ⟨gb274,0,none⟩) (Kd.R_far (p := ⟨gb280,2,none⟩) (Kd.R_types (Kd.R_types HO278.out BK280.out (by decide)) BK274.out (by decide)) (fun _ hk => hk.1.2) (.bool true)) (fun _ hk => hk.2) (.int .i64 t275)) (fun _ hk => hk.2) (.slice Ao27 t276.length co27)) (fun _ hk => hk.2) (.bool true)) (fun _ hk => trivial),gB_ HB.out⟩
  ·replace c17 := Bool.eq_false_iff.mpr c17
   subst c17
   have H1 : (some (t275,t276,t279,2)) = some (r1,r2,r3,r4) := by rw [if_neg (show ¬ (false = true) by decide)] at H;exact H
   clear H
   have H := H1
   clear H1
   simp only [Option.some.injEq,Prod.mk.injEq] at H
   obtain ⟨rfl,rfl,rfl,rfl⟩ := H
   go_enter Try.func191,Try.ntmps191
   go_wp2_with (first | ((with_reducible refine gate_dst (N := 1) rfl ?_);refine bX_ 1 (cs := #[.int .i64 a0_0,.slice A0_1 l0_1.length c0_1,.bool false]) (t := 94) ?_;intro gb273 hg w32 hbox hb;have BK273 := aM_ (hbox);have GE273 := aM_ (sZ_ hg HB.out);replace HB := aM_ (sT_ HB.out hb);clear hb hbox hg) | ((with_reducible refine gate_dst (N := 2) rfl ?_);refine bX_ 2 (cs := #[.int .i64 0,.slice none 0 0,.bool false]) (t := 94) ?_;intro gb274 hg w33 hbox hb;have BK274 := aM_ (hbox);have GE274 := aM_ (sZ_ hg HB.out);have NB273_274 := aM_ (nL_ hg BK273.out);have NB274_273 := aM_ (nG_ hg BK273.out);replace BK273 := aM_ (nB_ BK273.out hb);replace HB := aM_ (sT_ HB.out hb);clear hb hbox hg;have hnb34 := NB273_274.out;have hnc34 := NB274_273.out;have z_35 := bR3_ BK273.out) | ((with_reducible refine gate_callee (f := 171) rfl ?_);refine gL_ (some 6) Try.func171 #[.agg #[.int .i64 a0_0,.slice A0_1 l0_1.length c0_1,.bool false]] ?_;(with_reducible refine (spec_l3Copy.calls a0_0 _ _ l0_1 false t275 t276 t279 _ ?side1 ?side2 A2.out).mono ?_);(case side1 => exact cS_ (Kd.C_below HR0_1.out HB.out));(case side2 => exact HC0_1.out);rintro e w36 ⟨v277,rfl,ho0,hb⟩;refine ⟨_,rfl,?_⟩;have HO278 := aM_ (Kd.R_lower ho0 (below_size (gB_ HB.out)));replace BK273 := aM_ (nB_ BK273.out hb);replace BK274 := aM_ (nB_ BK274.out hb);replace HB := aM_ (sT_ HB.out hb);(try clear ho0)) | ((with_reducible refine gate_dst (N := 4) rfl ?_);refine bX_ 4 (cs := #[.int .i64 0,.slice none 0 0,.bool false]) (t := 94) ?_;intro gb280 hg w37 hbox hb;have BK280 := aM_ (hbox);have GE280 := aM_ (sZ_ hg HB.out);have NB273_280 := aM_ (nL_ hg BK273.out);have NB280_273 := aM_ (nG_ hg BK273.out);have NB274_280 := aM_ (nL_ hg BK274.out);have NB280_274 := aM_ (nG_ hg BK274.out);replace HO278 := aM_ (bR_ HO278.out hb);replace BK273 := aM_ (nB_ BK273.out hb);replace BK274 := aM_ (nB_ BK274.out hb);replace HB := aM_ (sT_ HB.out hb);clear hb hbox hg;have hnb38 := NB280_273.out;have hnc38 := NB273_280.out;have hnb39 := NB280_274.out;have hnc39 := NB274_280.out;have z_40 := bR3_ BK280.out;obtain ⟨Ao41,co41,eo41⟩ := Kd.R_slice HO278.out;subst eo41;have z_42 := bR3_ BK273.out) | (go_at_call 146;(with_reducible refine (spec_ChanOk.calls a0_0 _ _ l0_1 false false _ ?side1 ?side2 A16.out).mono ?_);(case side1 => exact Kd.C_below HR0_1.out (gB_ HB.out));(case side2 => exact HC0_1.out);rintro e w43 ⟨rfl,hb⟩;replace HO278 := aM_ (Kd.R_below (by (with_reducible repeat (first | apply rA_ | apply rN_ | apply rD_));exact (Kd.R_mono (Kd.R_far (p := ⟨gb280,2,none⟩) (Kd.R_far (p := ⟨gb280,1,none⟩) (Kd.R_far (p := ⟨gb280,0,none⟩) (Kd.R_types HO278.out BK280.out (by decide)) (fun _ hk => hk.2) (.int .i64 t275)) (fun _ hk => hk.2) (.slice Ao41 t276.length co41)) (fun _ hk => hk.2) (.bool t279)) (fun _ h_ => h_.1))) hb);replace BK273 := aM_ (nBf_ BK273.out hb);replace BK274 := aM_ (nBf_ BK274.out hb);replace BK280 := aM_ (blk_below (g := gb280) (o := .cells #[.int .i64 t275,.slice Ao41 t276.length co41,.bool t279] 94 (0,0)) (by (with_reducible repeat (first | refine bN_ ?_ _ | refine bD_ ?_ | refine bA_ ?_ _));refine blk_put (cs := #[.int .i64 t275,.slice Ao41 t276.length co41,.bool false]) ?_ 2 _ rfl;refine blk_put (cs := #[.int .i64 t275,.slice none 0 0,.bool false]) ?_ 1 _ rfl;refine blk_put (cs := #[.int .i64 0,.slice none 0 0,.bool false]) ?_ 0 _ rfl;exact rW_ BK280.out) hb);replace HB := aM_ (sT_ HB.out hb);have z_44 := bR3_ BK280.out;have z_45 := bR3_ BK274.out))
   refine bodyPost_ret (results_ct rfl _ _ gb274 94 #[.int .i64 t275,.slice Ao41 t276.length co41,.bool t279] (0,0) _ rfl (by (with_reducible repeat (first | refine bN_ ?_ _ | refine bD_ ?_ | refine bA_ ?_ _));refine blk_put (cs := #[.int .i64 t275,.slice Ao41 t276.length co41,.bool false]) ?_ 2 _ rfl;refine blk_put (cs := #[.int .i64 t275,.slice none 0 0,.bool false]) ?_ 1 _ rfl;refine blk_put (cs := #[.int .i64 0,.slice none 0 0,.bool false]) ?_ 0 _ rfl;exact rW_ BK274.out) Try.underlying94 rfl (by kernel_rfl)) rfl ?_
   exact ⟨_,fR_,by (with_reducible repeat (first | apply rA_ | apply rN_ | apply rD_));exact Kd.R_mono (Kd.R_far (p := ⟨gb274,2,none⟩) (Kd.R_far (p := ⟨gb274,1,none⟩) (Kd.R_far (p := ⟨gb274,0,none⟩) (Kd.R_types HO278.out BK274.out (by decide)) (fun _ hk => hk.2) (.int .i64 t275)) (fun _ hk => hk.2) (.slice Ao41 t276.length co41)) (fun _ hk => hk.2) (.bool t279)) (fun _ hk => trivial),gB_ HB.out⟩
def spec_ChanTake.f (a0_0 : Int) (l0_1 : List Int) (a0_2 : Bool) : Option (Int × List Int × Bool × Int × Int) := (spec_l3Copy.f a0_0 l0_1 a0_2).bind fun bt284 => ((spec_ChanOk.f a0_0 l0_1 a0_2).bind fun t290 => (if t290 = true then (if (l0_1.length : Int) > 0 then ((some (([] : List Int) : List Int)).bind fun y291 => (if 1 ≤ (l0_1.length : Int) then (if y291.length + (l0_1.drop 1).length < 17592186044416 then (if 0 < (l0_1.length : Int) then (some (bt284.1,(y291 ++ (l0_1.drop 1)),bt284.2.2,rd l0_1 0,0)) else (none)) else (none)) else (none))) else (if a0_2 = true then (some (bt284.1,bt284.2.1,bt284.2.2,0,3)) else (some (bt284.1,bt284.2.1,bt284.2.2,0,1)))) else (some (bt284.1,bt284.2.1,bt284.2.2,0,2))))
def spec_ChanTake.T6 : Bool × List (List Nat × List Nat) := (true,[([],[]),([],[]),([1],[1]),([2],[2]),([3],[3]),([0,0],[0]),([4,5,0,1,2,3,4,5],[4]),([6,0,1,2,3,4,5,6],[])])
def spec_ChanTake.B6 : List Nat := [0,0,2,6,14,1,63,127]
theorem spec_ChanTake.tab6 : rtab .any (opsOf Try.f192 6) = spec_ChanTake.T6 := by kernel_rfl
theorem spec_ChanTake.bits6 : waitsOk spec_ChanTake.T6.2 spec_ChanTake.B6 = true := by kernel_rfl
set_option maxHeartbeats 8000000 in
set_option maxRecDepth 100000 in
theorem spec_ChanTake.calls (a0_0 : Int) (A0_1 : Option Addr) (c0_1 : Nat) (l0_1 : List Int) (a0_2 : Bool) (r1 : Int) (r2 : List Int) (r3 : Bool) (r4 : Int) (r5 : Int) (w : World) (hr0_1 : Kd.C (Kd.int .i64) w A0_1 l0_1.length l0_1) (hc0_1 : l0_1.length ≤ c0_1) (h : spec_ChanTake.f a0_0 l0_1 a0_2 = some (r1,r2,r3,r4,r5)) :
  Calls Try.prog 192 #[.agg #[.int .i64 a0_0,.slice A0_1 l0_1.length c0_1,.bool a0_2]] w fun e w' => ∃ v1_ : Value,e = .returned (.tuple #[.agg #[.int .i64 r1,v1_,.bool r3],.int .i64 r4,.int .i64 r5]) ∧ Kd.R (Kd.int .i64) 3 w' w.heap.size (fun _ => True) v1_ r2 ∧ Below w.heap.size w w' := by
 have hu94 := Try.underlying94
 have HR0_1 := aM_ hr0_1
 have HC0_1 := aM_ hc0_1
 clear hr0_1 hc0_1
 have HB := aM_ (Below.refl w.heap.size w)
 have H : ((spec_l3Copy.f a0_0 l0_1 a0_2).bind fun bt284 => ((spec_ChanOk.f a0_0 l0_1 a0_2).bind fun t290 => (if t290 = true then (if (l0_1.length : Int) > 0 then ((some (([] : List Int) : List Int)).bind fun y291 => (if 1 ≤ (l0_1.length : Int) then (if y291.length + (l0_1.drop 1).length < 17592186044416 then (if 0 < (l0_1.length : Int) then (some (bt284.1,(y291 ++ (l0_1.drop 1)),bt284.2.2,rd l0_1 0,0)) else (none)) else (none)) else (none))) else (if a0_2 = true then (some (bt284.1,bt284.2.1,bt284.2.2,0,3)) else (some (bt284.1,bt284.2.1,bt284.2.2,0,1)))) else (some (bt284.1,bt284.2.1,bt284.2.2,0,2))))) = some (r1,r2,r3,r4,r5) := h
 clear h
 replace H := Option.bind_eq_some_iff.mp H
 obtain ⟨⟨t284,t285,t288⟩,A20,H⟩ := H
 replace H : ((spec_ChanOk.f a0_0 l0_1 a0_2).bind fun t290 => (if t290 = true then (if (l0_1.length : Int) > 0 then ((some (([] : List Int) : List Int)).bind fun y291 => (if 1 ≤ (l0_1.length : Int) then (if y291.length + (l0_1.drop 1).length < 17592186044416 then (if 0 < (l0_1.length : Int) then (some (t284,(y291 ++ (l0_1.drop 1)),t288,rd l0_1 0,0)) else (none)) else (none)) else (none))) else (if a0_2 = true then (some (t284,t285,t288,0,3)) else (some (t284,t285,t288,0,1)))) else (some (t284,t285,t288,0,2)))) = some (r1,r2,r3,r4,r5) := H
 have A2 := aM_ A20
 clear A20
 replace H := Option.bind_eq_some_iff.mp H
 obtain ⟨t290,A30,H⟩ := H
 replace H : (if t290 = true then (if (l0_1.length : Int) > 0 then ((some (([] : List Int) : List Int)).bind fun y291 => (if 1 ≤ (l0_1.length : Int) then (if y291.length + (l0_1.drop 1).length < 17592186044416 then (if 0 < (l0_1.length : Int) then (some (t284,(y291 ++ (l0_1.drop 1)),t288,rd l0_1 0,0)) else (none)) else (none)) else (none))) else (if a0_2 = true then (some (t284,t285,t288,0,3)) else (some (t284,t285,t288,0,1)))) else (some (t284,t285,t288,0,2))) = some (r1,r2,r3,r4,r5) := H
 have A3 := aM_ A30
 clear A30
 by_cases c4 : t290 = true
 ·subst c4
  have H1 : (if (l0_1.length : Int) > 0 then ((some (([] : List Int) : List Int)).bind fun y291 => (if 1 ≤ (l0_1.length : Int) then (if y291.length + (l0_1.drop 1).length < 17592186044416 then (if 0 < (l0_1.length : Int) then (some (t284,(y291 ++ (l0_1.drop 1)),t288,rd l0_1 0,0)) else (none)) else (none)) else (none))) else (if a0_2 = true then (some (t284,t285,t288,0,3)) else (some (t284,t285,t288,0,1)))) = some (r1,r2,r3,r4,r5) := by rw [if_pos rfl] at H;exact H
  clear H
  have H := H1
  clear H1
  by_cases c5 : (l0_1.length : Int) > 0
  ·rw [if_pos c5] at H
   have c5b0 : decide (0 < (l0_1.length : Int)) = true := decide_eq_true c5
   have c5b1 : decide (0 < l0_1.length) = true := decide_eq_true (by omega)
   clear c5
   obtain ⟨y291,hy291⟩ : ∃ y_ : List Int,y_ = (([] : List Int)) := ⟨_,rfl⟩
   replace H : (if 1 ≤ (l0_1.length : Int) then (if y291.length + (l0_1.drop 1).length < 17592186044416 then (if 0 < (l0_1.length : Int) then (some (t284,(y291 ++ (l0_1.drop 1)),t288,rd l0_1 0,0)) else (none)) else (none)) else (none)) = some (r1,r2,r3,r4,r5) := by first | (rw [hy291];with_reducible exact H) | (have H2_ := (Option.bind_some _ _).symm.trans H;rw [hy291];with_reducible exact H2_) | (have H2_ := (Option.bind_some _ _).symm.trans H;with_reducible exact H2_) | with_reducible exact H | (rw [hy291];exact H) | exact H
   have Ny291 := aM_ hy291
   clear hy291
   by_cases c6 : 1 ≤ (l0_1.length : Int)
   ·rw [if_pos c6] at H
    have c6b0 := eq_true c6
    have c6b1 : decide (1 ≤ (l0_1.length : Int)) = true := decide_eq_true c6
    clear c6
    by_cases c7 : y291.length + (l0_1.drop 1).length < 17592186044416
    ·rw [if_pos c7] at H
     have LMc7 := aM_ c7
     clear c7
     obtain ⟨y295,hy295⟩ : ∃ y_ : List Int,y_ = (y291 ++ (l0_1.drop 1)) := ⟨_,rfl⟩
     replace H : (if 0 < (l0_1.length : Int) then (some (t284,y295,t288,rd l0_1 0,0)) else (none)) = some (r1,r2,r3,r4,r5) := by first | (rw [hy295];with_reducible exact H) | (have H2_ := (Option.bind_some _ _).symm.trans H;rw [hy295];with_reducible exact H2_) | (have H2_ := (Option.bind_some _ _).symm.trans H;with_reducible exact H2_) | with_reducible exact H | (rw [hy295];exact H) | exact H
     have Ny295 := aM_ hy295
     clear hy295
     by_cases c8 : 0 < (l0_1.length : Int)
     ·rw [if_pos c8] at H
      have c8b0 : decide (0 < (l0_1.length : Int)) = true := decide_eq_true c8
      have c8b1 : decide (0 < l0_1.length) = true := decide_eq_true (by omega)
      clear c8
      simp only [Option.some.injEq,Prod.mk.injEq] at H
      obtain ⟨rfl,rfl,rfl,rfl,rfl⟩ := H
      go_enter Try.func192,Try.ntmps192
      try go_wp2_with (first | ((with_reducible refine gate_dst (N := 1) rfl ?_);refine bX_ 1 (cs := #[.int .i64 a0_0,.slice A0_1 l0_1.length c0_1,.bool a0_2]) (t := 94) ?_;intro gb282 hg w9 hbox hb;have BK282 := aM_ (hbox);have GE282 := aM_ (sZ_ hg HB.out);replace HB := aM_ (sT_ HB.out hb);clear hb hbox hg) | ((with_reducible refine gate_dst (N := 2) rfl ?_);refine bX_ 2 (cs := #[.int .i64 0,.slice none 0 0,.bool false]) (t := 94) ?_;intro gb283 hg w10 hbox hb;have BK283 := aM_ (hbox);have GE283 := aM_ (sZ_ hg HB.out);have NB282_283 := aM_ (nL_ hg BK282.out);have NB283_282 := aM_ (nG_ hg BK282.out);replace BK282 := aM_ (nB_ BK282.out hb);replace HB := aM_ (sT_ HB.out hb);clear hb hbox hg;have hnb11 := NB282_283.out;have hnc11 := NB283_282.out;have z_12 := bR3_ BK282.out) | ((with_reducible refine gate_callee (f := 171) rfl ?_);refine gL_ (some 7) Try.func171 #[.agg #[.int .i64 a0_0,.slice A0_1 l0_1.length c0_1,.bool a0_2]] ?_;(with_reducible refine (spec_l3Copy.calls a0_0 _ _ l0_1 a0_2 t284 t285 t288 _ ?side1 ?side2 A2.out).mono ?_);(case side1 => exact cS_ (Kd.C_below HR0_1.out HB.out));(case side2 => exact HC0_1.out);rintro e w13 ⟨v286,rfl,ho0,hb⟩;refine ⟨_,rfl,?_⟩;have HO287 := aM_ (Kd.R_lower ho0 (below_size (gB_ HB.out)));replace BK282 := aM_ (nB_ BK282.out hb);replace BK283 := aM_ (nB_ BK283.out hb);replace HB := aM_ (sT_ HB.out hb);(try clear ho0)) | ((with_reducible refine gate_dst (N := 5) rfl ?_);refine bX_ 5 (cs := #[.int .i64 0,.slice none 0 0,.bool false]) (t := 94) ?_;intro gb289 hg w14 hbox hb;have BK289 := aM_ (hbox);have GE289 := aM_ (sZ_ hg HB.out);have NB282_289 := aM_ (nL_ hg BK282.out);have NB289_282 := aM_ (nG_ hg BK282.out);have NB283_289 := aM_ (nL_ hg BK283.out);have NB289_283 := aM_ (nG_ hg BK283.out);replace HO287 := aM_ (bR_ HO287.out hb);replace BK282 := aM_ (nB_ BK282.out hb);replace BK283 := aM_ (nB_ BK283.out hb);replace HB := aM_ (sT_ HB.out hb);clear hb hbox hg;have hnb15 := NB289_282.out;have hnc15 := NB282_289.out;have hnb16 := NB289_283.out;have hnc16 := NB283_289.out;have z_17 := bR3_ BK289.out;obtain ⟨Ao18,co18,eo18⟩ := Kd.R_slice HO287.out;subst eo18;have z_19 := bR3_ BK282.out) | ((with_reducible refine gate_callee (f := 146) rfl ?_);refine gL_ (some 10) Try.func146 #[.agg #[.int .i64 a0_0,.slice A0_1 l0_1.length c0_1,.bool a0_2]] ?_;(with_reducible refine (spec_ChanOk.calls a0_0 _ _ l0_1 a0_2 true _ ?side1 ?side2 A3.out).mono ?_);(case side1 => exact Kd.C_below HR0_1.out (gB_ HB.out));(case side2 => exact HC0_1.out);rintro e w20 ⟨rfl,hb⟩;refine ⟨_,rfl,?_⟩;replace HO287 := aM_ (Kd.R_below (by (with_reducible repeat (first | apply rA_ | apply rN_ | apply rD_));exact (Kd.R_mono (Kd.R_far (p := ⟨gb289,2,none⟩) (Kd.R_far (p := ⟨gb289,1,none⟩) (Kd.R_far (p := ⟨gb289,0,none⟩) (Kd.R_types HO287.out BK289.out (by decide)) (fun _ hk => hk.2) (.int .i64 t284)) (fun _ hk => hk.2) (.slice Ao18 t285.length co18)) (fun _ hk => hk.2) (.bool t288)) (fun _ h_ => h_.1))) hb);replace BK282 := aM_ (nBf_ BK282.out hb);replace BK283 := aM_ (nBf_ BK283.out hb);replace BK289 := aM_ (blk_below (g := gb289) (o := .cells #[.int .i64 t284,.slice Ao18 t285.length co18,.bool t288] 94 (0,0)) (by (with_reducible repeat (first | refine bN_ ?_ _ | refine bD_ ?_ | refine bA_ ?_ _));refine blk_put (cs := #[.int .i64 t284,.slice Ao18 t285.length co18,.bool false]) ?_ 2 _ rfl;refine blk_put (cs := #[.int .i64 t284,.slice none 0 0,.bool false]) ?_ 1 _ rfl;refine blk_put (cs := #[.int .i64 0,.slice none 0 0,.bool false]) ?_ 0 _ rfl;exact rW_ BK289.out) hb);replace HB := aM_ (sT_ HB.out hb);have z_21 := bR3_ BK282.out) | ((with_reducible refine gate_dst (N := 18) rfl ?_);refine Kd.R_lit (Kd.int .i64) _ 3 ?hg (N := 18) ?hd (xs := ([] : List Int)) (inner := []) (ok := fun _ => True) (okp := fun _ => True) ?hr ?hp (fun _ hk => hk) trivial (Below.refl _ _) (Nat.le_refl _) (by simp) ?_;(case hd => rfl);(case hg => rfl);(case hr => first | (go_simp;done) | (go_simp;rfl));(case hp => exact (Reps.none _ _));intro v292 w22 ho23 hb hg_ hnew_;clear hg_ hnew_;(first | rw [← Ny291.out] at ho23 | (simp only [Int.reduceToNat] at ho23;rw [← Ny291.out] at ho23));have HO293 := aM_ (Kd.R_lower (Kd.R_new' ho23 (Kd.R_lt (by (with_reducible repeat (first | apply rA_ | apply rN_ | apply rD_));exact HO287.out))) (below_size (gB_ HB.out)));replace HO287 := aM_ (Kd.R_elder' (by (with_reducible repeat (first | apply rA_ | apply rN_ | apply rD_));exact HO287.out) (Kd.R_base ho23) hb);replace BK282 := aM_ (nB_ BK282.out hb);replace BK283 := aM_ (nB_ BK283.out hb);replace BK289 := aM_ (nB_ BK289.out hb);replace HB := aM_ (sT_ HB.out hb);clear hb ho23;have z_24 := bR3_ BK282.out;obtain ⟨i025,hi025,_,hsz25,_⟩ := info_parts info3;obtain ⟨A25,hcut25,hA25,hC25⟩ := print_drop_of (P := Try.prog) (Value.int .i64) 0 31 3 .i64 Try.underlying31 hi025 hsz25 A0_1 c0_1 l0_1 1 (by omega) (of_decide_eq_true (by first | (with_reducible assumption) | assumption)) HC0_1.out;have HR294 := aM_ (Kd.C_of_reads (h1 := fun _ => rfl) (hA25 _ (Kd.reads_of_C HR0_1.out)));have HC294 := aM_ hC25;clear hA25 hC25 hi025 hsz25) | ((with_reducible refine gate_builtin (b := .append) (xs := #[.tmp 18,.tmp 21]) rfl ?_);at_builtin;refine Kd.R_append_rows (Kd.int .i64) (w0 := w) w.heap.size rfl (.tmp 18) (.tmp 21) 31 3 (.int .i64 0) 8 rfl Try.underlying31 info3 rfl (by decide) (by omega) v292 y291 (l0_1.drop 1) _ _ _ (fun k_ => some k_ ≠ (.slice Ao18 t285.length co18 : Value).ownBlock) (fun _ => False) rfl rfl ?aO ?aR (fun _ _ h => h) (fun _ h => h.elim) ?aF ?aB ?aS ?aL ?_;(case aR => first | (rw [← show (l0_1.drop 1).length = (l0_1.length - 1) from List.length_drop];repeat (first | exact (Kd.C_below HR294.out HB.out) | (with_reducible refine Kd.C_alloc ?_ _) | (with_reducible refine Kd.C_drewN ?_ _) | (with_reducible refine Kd.C_drew ?_))) | (repeat (first | exact (Kd.C_below HR294.out HB.out) | (with_reducible refine Kd.C_alloc ?_ _) | (with_reducible refine Kd.C_drewN ?_ _) | (with_reducible refine Kd.C_drew ?_))));(case aB => exact (gB_ HB.out));(case aF => exact (fun k_ hk => Kd.fresh' (Kd.R_lt (by (with_reducible repeat (first | apply rA_ | apply rN_ | apply rD_));exact HO287.out)) k_ hk));(case aO => exact (by (with_reducible repeat (first | apply rA_ | apply rN_ | apply rD_));exact Kd.R_mono HO293.out (fun _ hk => hk.2)));(case aS => exact (below_size (gB_ HB.out)));(case aL => have := LMc7.out;have hlx_ := (show (l0_1.drop 1).length = (l0_1.length - 1) from List.length_drop);omega);intro v296 w26 ho hb hg hat;rw [← Ny295.out] at ho;have HO297 := aM_ (ho);replace BK282 := aM_ (blk_grown (g := gb282) (o := .cells #[.int .i64 a0_0,.slice A0_1 l0_1.length c0_1,.bool a0_2] 94 (0,0)) (by (with_reducible repeat (first | refine bN_ ?_ _ | refine bD_ ?_ | refine bA_ ?_ _));exact BK282.out) hg (Kd.R_ne HO293.out BK282.out (by decide)));replace BK283 := aM_ (blk_grown (g := gb283) (o := .cells #[.int .i64 0,.slice none 0 0,.bool false] 94 (0,0)) (by (with_reducible repeat (first | refine bN_ ?_ _ | refine bD_ ?_ | refine bA_ ?_ _));exact BK283.out) hg (Kd.R_ne HO293.out BK283.out (by decide)));replace HO287 := aM_ (Kd.R_after (ok := (fun _ => True)) (by (with_reducible repeat (first | apply rA_ | apply rN_ | apply rD_));exact HO287.out) hg hat);replace BK289 := aM_ (blk_grown (g := gb289) (o := .cells #[.int .i64 t284,.slice Ao18 t285.length co18,.bool t288] 94 (0,0)) (by (with_reducible repeat (first | refine bN_ ?_ _ | refine bD_ ?_ | refine bA_ ?_ _));exact BK289.out) hg (Kd.R_ne HO293.out BK289.out (by decide)));replace HB := aM_ (hb);clear HO293;clear ho hb hg hat;obtain ⟨Ao27,co27,eo27⟩ := Kd.R_slice HO297.out;subst eo27;have z_28 := bR3_ BK289.out))
      have n0 : Aside0 (Kd.R (Kd.int .i64) 3 (w26.setCell ⟨gb289,1,none⟩ (.slice Ao27 y295.length co27)) w.heap.size (fun k_ => some k_ ≠ (.slice Ao27 y295.length co27 : Value).ownBlock) (.slice Ao18 t285.length co18) t285) := ⟨by (with_reducible repeat (first | apply rA_ | apply rN_ | apply rD_));exact Kd.R_mono (Kd.R_far (p := ⟨gb289,1,none⟩) (Kd.R_types HO287.out BK289.out (by decide)) (fun _ hk => hk.2) (.slice Ao27 y295.length co27)) (fun _ hk => hk.1.2)⟩
      have n1 : Aside0 (Kd.R (Kd.int .i64) 3 (w26.setCell ⟨gb289,1,none⟩ (.slice Ao27 y295.length co27)) w.heap.size (fun k_ => some k_ ≠ (.slice Ao18 t285.length co18 : Value).ownBlock) (.slice Ao27 y295.length co27) y295) := ⟨by (with_reducible repeat (first | apply rA_ | apply rN_ | apply rD_));exact Kd.R_mono (Kd.R_far (p := ⟨gb289,1,none⟩) (Kd.R_types HO297.out BK289.out (by decide)) (fun _ hk => hk.2) (.slice Ao27 y295.length co27)) (fun _ hk => hk.1)⟩
      have n2 : Aside0 ((w26.setCell ⟨gb289,1,none⟩ (.slice Ao27 y295.length co27)).heap[gb282]? = some (.cells #[.int .i64 a0_0,.slice A0_1 l0_1.length c0_1,.bool a0_2] 94 (0,0))) := ⟨rWf_ BK282.out⟩
      have n3 : Aside0 ((w26.setCell ⟨gb289,1,none⟩ (.slice Ao27 y295.length co27)).heap[gb283]? = some (.cells #[.int .i64 0,.slice none 0 0,.bool false] 94 (0,0))) := ⟨rWf_ BK283.out⟩
      have n4 : Aside0 ((w26.setCell ⟨gb289,1,none⟩ (.slice Ao27 y295.length co27)).heap[gb289]? = some (.cells #[.int .i64 t284,.slice Ao27 y295.length co27,.bool t288] 94 (0,0))) := ⟨by (with_reducible repeat (first | refine bN_ ?_ _ | refine bD_ ?_ | refine bA_ ?_ _));refine blk_put (cs := #[.int .i64 t284,.slice Ao18 t285.length co18,.bool t288]) ?_ 1 _ rfl;(with_reducible repeat (first | refine bN_ ?_ _ | refine bD_ ?_ | refine bA_ ?_ _));exact BK289.out⟩
      have n5 : Aside0 (Below w.heap.size w (w26.setCell ⟨gb289,1,none⟩ (.slice Ao27 y295.length co27))) := ⟨gW_ HB.out⟩
      (try clear HO287)
      (try clear HO297)
      (try clear BK282)
      (try clear BK283)
      (try clear BK289)
      (try clear HB)
      generalize (w26.setCell ⟨gb289,1,none⟩ (.slice Ao27 y295.length co27)) = w29 at n0 n1 n2 n3 n4 n5 ⊢
      have HO287 := n0
      have HO297 := n1
      have BK282 := n2
      have BK283 := n3
      have BK289 := n4
      have HB := n5
      clear n0 n1 n2 n3 n4 n5
      replace HO287 := aM_ (Kd.R_drew HO287.out)
      replace HO297 := aM_ (Kd.R_drew HO297.out)
      replace BK282 := aM_ (blk_drew BK282.out)
      replace BK283 := aM_ (blk_drew BK283.out)
      replace BK289 := aM_ (blk_drew BK289.out)
      replace HB := aM_ (below_drew1 HB.out)
      have p298 : 0 ≤ (0 : Int) := (by omega)
      have q298 : 0 < (l0_1.length : Int) := of_decide_eq_true (by first | (with_reducible assumption) | assumption)
      obtain ⟨ad298,e298,hx298_0⟩ := Kd.at_int HR0_1.out 0 p298 q298
      have hw298_0 := hx298_0
      (try rw [show ((0 : Int)).toNat = 0 from rfl] at hw298_0)
      (try rw [show 0 * 1 = 0 from rfl] at hw298_0)
      (try rw [Addr.add_zero'] at hw298_0)
      cases e298
      have qi298 : (0 < l0_1.length) = True := eq_true (by omega)
      (try rw [show ((0 : Int)).toNat = 0 from rfl] at hx298_0)
      (try rw [Addr.add_zero'] at hx298_0)
      replace hx298_0 := cB_ HB.out hx298_0
      replace p298 := eq_true p298
      replace q298 := eq_true q298
      refine start_ (n := 8) (S := fun w' => w'.cell? ⟨gb289,0,none⟩ = some (.int .i64 t284) ∧ w'.cell? ⟨gb289,1,none⟩ = some (.slice Ao27 y295.length co27) ∧ w'.cell? ⟨gb289,2,none⟩ = some (.bool t288) ∧ w'.cell? ⟨gb282,0,none⟩ = some (.int .i64 a0_0) ∧ w'.cell? ⟨gb282,1,none⟩ = some (.slice (some ad298) l0_1.length c0_1) ∧ w'.cell? ⟨gb282,2,none⟩ = some (.bool a0_2) ∧ w'.cell? ad298 = some (.int .i64 (rd l0_1 0))) (ds := []) (mk_ 8 0) (by kernel_rfl) rfl rfl ⟨(blk_cell BK289.out 0).trans rfl,(blk_cell BK289.out 1).trans rfl,(blk_cell BK289.out 2).trans rfl,(blk_cell BK282.out 0).trans rfl,(blk_cell BK282.out 1).trans rfl,(blk_cell BK282.out 2).trans rfl,(cB_ HB.out hw298_0 :)⟩ (fun hHeld => ?_);refine with_tabW spec_ChanTake.tab6 spec_ChanTake.bits6 (fun HT_ HW_ => ?_)
      generalize w29.drew = w30 at HO287 HO297 BK282 BK283 BK289 HB hx298_0 hHeld ⊢
      refine pU_ 1 25 (mk_ 8 2) ?_
      refine tK7_ 0 24 (mk_ 8 3) ?_
      refine tK7_ 2 26 (mk_ 8 7) ?_
      refine pU_ 3 27 (mk_ 8 15) ?_
      refine tK7_ 4 28 (mk_ 8 31) ?_
      refine oNn_ 5 (none) (mk_ 8 63) (fun K hK => ?_)
      have hs31 : w30.cell? ⟨gb283,0,none⟩ = some (.int .i64 0) := (blk_cell BK283.out 0).trans rfl
      have hfs31 := blk_frozen BK283.out 0
      have hns31_0 := NB282_283.out
      have hns31_2 := NB289_283.out
      have hms31_0 := NB283_282.out
      have hms31_2 := NB283_289.out
      have hs32 : w30.cell? ⟨gb283,1,none⟩ = some (.slice none 0 0) := (blk_cell BK283.out 1).trans rfl
      have hfs32 := blk_frozen BK283.out 1
      have hns32_0 := NB282_283.out
      have hns32_2 := NB289_283.out
      have hms32_0 := NB283_282.out
      have hms32_2 := NB283_289.out
      have hs33 : w30.cell? ⟨gb283,2,none⟩ = some (.bool false) := (blk_cell BK283.out 2).trans rfl
      have hfs33 := blk_frozen BK283.out 2
      have hns33_0 := NB282_283.out
      have hns33_2 := NB289_283.out
      have hms33_0 := NB283_282.out
      have hms33_2 := NB283_289.out
      refine skip_ (w1 := ?_) (by rfl) rfl ?_ ?_
      rotate_left
      ·go_simp
       rfl
      refine hK.out _ _ ⟨((cell_far (p := ⟨gb283,_,none⟩) NB289_283.out _).trans (((cell_far (p := ⟨gb283,_,none⟩) NB289_283.out _).trans ((cf_ NB289_283.out hHeld.1))))),((cell_far (p := ⟨gb283,_,none⟩) NB289_283.out _).trans (((cell_far (p := ⟨gb283,_,none⟩) NB289_283.out _).trans ((cf_ NB289_283.out hHeld.2.1))))),((cell_far (p := ⟨gb283,_,none⟩) NB289_283.out _).trans (((cell_far (p := ⟨gb283,_,none⟩) NB289_283.out _).trans ((cf_ NB289_283.out hHeld.2.2.1))))),((cell_far (p := ⟨gb283,_,none⟩) NB282_283.out _).trans (((cell_far (p := ⟨gb283,_,none⟩) NB282_283.out _).trans ((cf_ NB282_283.out hHeld.2.2.2.1))))),((cell_far (p := ⟨gb283,_,none⟩) NB282_283.out _).trans (((cell_far (p := ⟨gb283,_,none⟩) NB282_283.out _).trans ((cf_ NB282_283.out hHeld.2.2.2.2.1))))),((cell_far (p := ⟨gb283,_,none⟩) NB282_283.out _).trans (((cell_far (p := ⟨gb283,_,none⟩) NB282_283.out _).trans ((cf_ NB282_283.out hHeld.2.2.2.2.2.1))))),((cell_far (p := ⟨gb283,_,none⟩) (by first | exact Nat.ne_of_lt (Nat.lt_of_lt_of_le (by have := World.block_lt_of_cell? _ _ hw298_0;first | rwa [add_block] at this | exact this) GE283.out) | (rw [add_block];exact Nat.ne_of_lt (Nat.lt_of_lt_of_le (by have := World.block_lt_of_cell? _ _ hw298_0;first | rwa [add_block] at this | exact this) GE283.out)) | (show (Addr.add _ _).block ≠ _;rw [add_block];exact Nat.ne_of_lt (Nat.lt_of_lt_of_le (by have := World.block_lt_of_cell? _ _ hw298_0;first | rwa [add_block] at this | exact this) GE283.out)) | (dsimp only;exact Nat.ne_of_lt (Nat.lt_of_lt_of_le (by have := World.block_lt_of_cell? _ _ hw298_0;first | rwa [add_block] at this | exact this) GE283.out))) _).trans (((cell_far (p := ⟨gb283,_,none⟩) (by first | exact Nat.ne_of_lt (Nat.lt_of_lt_of_le (by have := World.block_lt_of_cell? _ _ hw298_0;first | rwa [add_block] at this | exact this) GE283.out) | (rw [add_block];exact Nat.ne_of_lt (Nat.lt_of_lt_of_le (by have := World.block_lt_of_cell? _ _ hw298_0;first | rwa [add_block] at this | exact this) GE283.out)) | (show (Addr.add _ _).block ≠ _;rw [add_block];exact Nat.ne_of_lt (Nat.lt_of_lt_of_le (by have := World.block_lt_of_cell? _ _ hw298_0;first | rwa [add_block] at this | exact this) GE283.out)) | (dsimp only;exact Nat.ne_of_lt (Nat.lt_of_lt_of_le (by have := World.block_lt_of_cell? _ _ hw298_0;first | rwa [add_block] at this | exact this) GE283.out))) _).trans (((cell_far (p := ⟨gb283,_,none⟩) (by first | exact Nat.ne_of_lt (Nat.lt_of_lt_of_le (by have := World.block_lt_of_cell? _ _ hw298_0;first | rwa [add_block] at this | exact this) GE283.out) | (rw [add_block];exact Nat.ne_of_lt (Nat.lt_of_lt_of_le (by have := World.block_lt_of_cell? _ _ hw298_0;first | rwa [add_block] at this | exact this) GE283.out)) | (show (Addr.add _ _).block ≠ _;rw [add_block];exact Nat.ne_of_lt (Nat.lt_of_lt_of_le (by have := World.block_lt_of_cell? _ _ hw298_0;first | rwa [add_block] at this | exact this) GE283.out)) | (dsimp only;exact Nat.ne_of_lt (Nat.lt_of_lt_of_le (by have := World.block_lt_of_cell? _ _ hw298_0;first | rwa [add_block] at this | exact this) GE283.out))) _).trans (hHeld.2.2.2.2.2.2))))))⟩ (fun hHeld => ?_)
      clear hK K
      refine pU_ 6 3 (mk_ 8 127) ?_
      refine pU_ 7 4 (mk_ 8 255) ?_
      refine done_ (done_of HT_.out (by kernel_rfl)) ?_
      try go_wp2
      refine bodyPost_ret (results_ctt rfl _ _ gb283 94 #[.int .i64 t284,.slice Ao27 y295.length co27,.bool t288] (0,0) _ rfl (by (with_reducible repeat (first | refine bN_ ?_ _ | refine bD_ ?_ | refine bA_ ?_ _));refine blk_put (cs := #[.int .i64 t284,.slice Ao27 y295.length co27,.bool false]) ?_ 2 _ rfl;refine blk_put (cs := #[.int .i64 t284,.slice none 0 0,.bool false]) ?_ 1 _ rfl;refine blk_put (cs := #[.int .i64 0,.slice none 0 0,.bool false]) ?_ 0 _ rfl;exact rW_ BK283.out) Try.underlying94 rfl (by kernel_rfl)) rfl ?_
      exact ⟨_,fR_,by (with_reducible repeat (first | apply rA_ | apply rN_ | apply rD_));exact Kd.R_mono (Kd.R_far (p := ⟨gb283,2,none⟩) (Kd.R_far (p := ⟨gb283,1,none⟩) (Kd.R_far (p := ⟨gb283,0,none⟩) (Kd.R_types HO297.out BK283.out (by decide)) (fun _ hk => hk.2) (.int .i64 t284)) (fun _ hk => hk.2) (.slice Ao27 y295.length co27)) (fun _ hk => hk.2) (.bool t288)) (fun _ hk => trivial),gB_ HB.out⟩
     ·rw [if_neg c8] at H
      exact absurd H (by simp)
    ·rw [if_neg c7] at H
     exact absurd H (by simp)
   ·rw [if_neg c6] at H
    exact absurd H (by simp)
  ·rw [if_neg c5] at H
   have c5b0 : decide (0 < (l0_1.length : Int)) = false := decide_eq_false c5
   have c5b1 : decide (0 < l0_1.length) = false := decide_eq_false (by omega)
   clear c5
   by_cases c34 : a0_2 = true
   ·subst c34
    have H1 : (some (t284,t285,t288,0,3)) = some (r1,r2,r3,r4,r5) := by rw [if_pos rfl] at H;exact H
    clear H
    have H := H1
    clear H1
    simp only [Option.some.injEq,Prod.mk.injEq] at H
    obtain ⟨rfl,rfl,rfl,rfl,rfl⟩ := H
    go_enter Try.func192,Try.ntmps192
    go_wp2_with (first | ((with_reducible refine gate_dst (N := 1) rfl ?_);refine bX_ 1 (cs := #[.int .i64 a0_0,.slice A0_1 l0_1.length c0_1,.bool true]) (t := 94) ?_;intro gb282 hg w35 hbox hb;have BK282 := aM_ (hbox);have GE282 := aM_ (sZ_ hg HB.out);replace HB := aM_ (sT_ HB.out hb);clear hb hbox hg) | ((with_reducible refine gate_dst (N := 2) rfl ?_);refine bX_ 2 (cs := #[.int .i64 0,.slice none 0 0,.bool false]) (t := 94) ?_;intro gb283 hg w36 hbox hb;have BK283 := aM_ (hbox);have GE283 := aM_ (sZ_ hg HB.out);have NB282_283 := aM_ (nL_ hg BK282.out);have NB283_282 := aM_ (nG_ hg BK282.out);replace BK282 := aM_ (nB_ BK282.out hb);replace HB := aM_ (sT_ HB.out hb);clear hb hbox hg;have hnb37 := NB282_283.out;have hnc37 := NB283_282.out;have z_38 := bR3_ BK282.out) | ((with_reducible refine gate_callee (f := 171) rfl ?_);refine gL_ (some 7) Try.func171 #[.agg #[.int .i64 a0_0,.slice A0_1 l0_1.length c0_1,.bool true]] ?_;(with_reducible refine (spec_l3Copy.calls a0_0 _ _ l0_1 true t284 t285 t288 _ ?side1 ?side2 A2.out).mono ?_);(case side1 => exact cS_ (Kd.C_below HR0_1.out HB.out));(case side2 => exact HC0_1.out);rintro e w39 ⟨v286,rfl,ho0,hb⟩;refine ⟨_,rfl,?_⟩;have HO287 := aM_ (Kd.R_lower ho0 (below_size (gB_ HB.out)));replace BK282 := aM_ (nB_ BK282.out hb);replace BK283 := aM_ (nB_ BK283.out hb);replace HB := aM_ (sT_ HB.out hb);(try clear ho0)) | ((with_reducible refine gate_dst (N := 5) rfl ?_);refine bX_ 5 (cs := #[.int .i64 0,.slice none 0 0,.bool false]) (t := 94) ?_;intro gb289 hg w40 hbox hb;have BK289 := aM_ (hbox);have GE289 := aM_ (sZ_ hg HB.out);have NB282_289 := aM_ (nL_ hg BK282.out);have NB289_282 := aM_ (nG_ hg BK282.out);have NB283_289 := aM_ (nL_ hg BK283.out);have NB289_283 := aM_ (nG_ hg BK283.out);replace HO287 := aM_ (bR_ HO287.out hb);replace BK282 := aM_ (nB_ BK282.out hb);replace BK283 := aM_ (nB_ BK283.out hb);replace HB := aM_ (sT_ HB.out hb);clear hb hbox hg;have hnb41 := NB289_282.out;have hnc41 := NB282_289.out;have hnb42 := NB289_283.out;have hnc42 := NB283_289.out;have z_43 := bR3_ BK289.out;obtain ⟨Ao44,co44,eo44⟩ := Kd.R_slice HO287.out;subst eo44;have z_45 := bR3_ BK282.out) | ((with_reducible refine gate_callee (f := 146) rfl ?_);refine gL_ (some 10) Try.func146 #[.agg #[.int .i64 a0_0,.slice A0_1 l0_1.length c0_1,.bool true]] ?_;(with_reducible refine (spec_ChanOk.calls a0_0 _ _ l0_1 true true _ ?side1 ?side2 A3.out).mono ?_);(case side1 => exact Kd.C_below HR0_1.out (gB_ HB.out));(case side2 => exact HC0_1.out);rintro e w46 ⟨rfl,hb⟩;refine ⟨_,rfl,?_⟩;replace HO287 := aM_ (Kd.R_below (by (with_reducible repeat (first | apply rA_ | apply rN_ | apply rD_));exact (Kd.R_mono (Kd.R_far (p := ⟨gb289,2,none⟩) (Kd.R_far (p := ⟨gb289,1,none⟩) (Kd.R_far (p := ⟨gb289,0,none⟩) (Kd.R_types HO287.out BK289.out (by decide)) (fun _ hk => hk.2) (.int .i64 t284)) (fun _ hk => hk.2) (.slice Ao44 t285.length co44)) (fun _ hk => hk.2) (.bool t288)) (fun _ h_ => h_.1))) hb);replace BK282 := aM_ (nBf_ BK282.out hb);replace BK283 := aM_ (nBf_ BK283.out hb);replace BK289 := aM_ (blk_below (g := gb289) (o := .cells #[.int .i64 t284,.slice Ao44 t285.length co44,.bool t288] 94 (0,0)) (by (with_reducible repeat (first | refine bN_ ?_ _ | refine bD_ ?_ | refine bA_ ?_ _));refine blk_put (cs := #[.int .i64 t284,.slice Ao44 t285.length co44,.bool false]) ?_ 2 _ rfl;refine blk_put (cs := #[.int .i64 t284,.slice none 0 0,.bool false]) ?_ 1 _ rfl;refine blk_put (cs := #[.int .i64 0,.slice none 0 0,.bool false]) ?_ 0 _ rfl;exact rW_ BK289.out) hb);replace HB := aM_ (sT_ HB.out hb);have z_47 := bR3_ BK282.out;have z_48 := bR3_ BK289.out;have z_49 := bR3_ BK283.out))
    refine bodyPost_ret (results_ctt rfl _ _ gb283 94 #[.int .i64 t284,.slice Ao44 t285.length co44,.bool t288] (0,0) _ rfl (by (with_reducible repeat (first | refine bN_ ?_ _ | refine bD_ ?_ | refine bA_ ?_ _));refine blk_put (cs := #[.int .i64 t284,.slice Ao44 t285.length co44,.bool false]) ?_ 2 _ rfl;refine blk_put (cs := #[.int .i64 t284,.slice none 0 0,.bool false]) ?_ 1 _ rfl;refine blk_put (cs := #[.int .i64 0,.slice none 0 0,.bool false]) ?_ 0 _ rfl;exact rW_ BK283.out) Try.underlying94 rfl (by kernel_rfl)) rfl ?_
    exact ⟨_,fR_,by (with_reducible repeat (first | apply rA_ | apply rN_ | apply rD_));exact Kd.R_mono (Kd.R_far (p := ⟨gb283,2,none⟩) (Kd.R_far (p := ⟨gb283,1,none⟩) (Kd.R_far (p := ⟨gb283,0,none⟩) (Kd.R_types HO287.out BK283.out (by decide)) (fun _ hk => hk.2) (.int .i64 t284)) (fun _ hk => hk.2) (.slice Ao44 t285.length co44)) (fun _ hk => hk.2) (.bool t288)) (fun _ hk => trivial),gB_ HB.out⟩
   ·replace c34 := Bool.eq_false_iff.mpr c34
    subst c34
    have H1 : (some (t284,t285,t288,0,1)) = some (r1,r2,r3,r4,r5) := by rw [if_neg (show ¬ (false = true) by decide)] at H;exact H
    clear H
    have H := H1
    clear H1
    simp only [Option.some.injEq,Prod.mk.injEq] at H
    obtain ⟨rfl,rfl,rfl,rfl,rfl⟩ := H
    go_enter Try.func192,Try.ntmps192
    go_wp2_with (first | ((with_reducible refine gate_dst (N := 1) rfl ?_);refine bX_ 1 (cs := #[.int .i64 a0_0,.slice A0_1 l0_1.length c0_1,.bool false]) (t := 94) ?_;intro gb282 hg w50 hbox hb;have BK282 := aM_ (hbox);have GE282 := aM_ (sZ_ hg HB.out);replace HB := aM_ (sT_ HB.out hb);clear hb hbox hg) | ((with_reducible refine gate_dst (N := 2) rfl ?_);refine bX_ 2 (cs := #[.int .i64 0,.slice none 0 0,.bool false]) (t := 94) ?_;intro gb283 hg w51 hbox hb;have BK283 := aM_ (hbox);have GE283 := aM_ (sZ_ hg HB.out);have NB282_283 := aM_ (nL_ hg BK282.out);have NB283_282 := aM_ (nG_ hg BK282.out);replace BK282 := aM_ (nB_ BK282.out hb);replace HB := aM_ (sT_ HB.out hb);clear hb hbox hg;have hnb52 := NB282_283.out;have hnc52 := NB283_282.out;have z_53 := bR3_ BK282.out) | ((with_reducible refine gate_callee (f := 171) rfl ?_);refine gL_ (some 7) Try.func171 #[.agg #[.int .i64 a0_0,.slice A0_1 l0_1.length c0_1,.bool false]] ?_;(with_reducible refine (spec_l3Copy.calls a0_0 _ _ l0_1 false t284 t285 t288 _ ?side1 ?side2 A2.out).mono ?_);(case side1 => exact cS_ (Kd.C_below HR0_1.out HB.out));(case side2 => exact HC0_1.out);rintro e w54 ⟨v286,rfl,ho0,hb⟩;refine ⟨_,rfl,?_⟩;have HO287 := aM_ (Kd.R_lower ho0 (below_size (gB_ HB.out)));replace BK282 := aM_ (nB_ BK282.out hb);replace BK283 := aM_ (nB_ BK283.out hb);replace HB := aM_ (sT_ HB.out hb);(try clear ho0)) | ((with_reducible refine gate_dst (N := 5) rfl ?_);refine bX_ 5 (cs := #[.int .i64 0,.slice none 0 0,.bool false]) (t := 94) ?_;intro gb289 hg w55 hbox hb;have BK289 := aM_ (hbox);have GE289 := aM_ (sZ_ hg HB.out);have NB282_289 := aM_ (nL_ hg BK282.out);have NB289_282 := aM_ (nG_ hg BK282.out);have NB283_289 := aM_ (nL_ hg BK283.out);have NB289_283 := aM_ (nG_ hg BK283.out);replace HO287 := aM_ (bR_ HO287.out hb);replace BK282 := aM_ (nB_ BK282.out hb);replace BK283 := aM_ (nB_ BK283.out hb);replace HB := aM_ (sT_ HB.out hb);clear hb hbox hg;have hnb56 := NB289_282.out;have hnc56 := NB282_289.out;have hnb57 := NB289_283.out;have hnc57 := NB283_289.out;have z_58 := bR3_ BK289.out;obtain ⟨Ao59,co59,eo59⟩ := Kd.R_slice HO287.out;subst eo59;have z_60 := bR3_ BK282.out) | ((with_reducible refine gate_callee (f := 146) rfl ?_);refine gL_ (some 10) Try.func146 #[.agg #[.int .i64 a0_0,.slice A0_1 l0_1.length c0_1,.bool false]] ?_;(with_reducible refine (spec_ChanOk.calls a0_0 _ _ l0_1 false true _ ?side1 ?side2 A3.out).mono ?_);(case side1 => exact Kd.C_below HR0_1.out (gB_ HB.out));(case side2 => exact HC0_1.out);rintro e w61 ⟨rfl,hb⟩;refine ⟨_,rfl,?_⟩;replace HO287 := aM_ (Kd.R_below (by (with_reducible repeat (first | apply rA_ | apply rN_ | apply rD_));exact (Kd.R_mono (Kd.R_far (p := ⟨gb289,2,none⟩) (Kd.R_far (p := ⟨gb289,1,none⟩) (Kd.R_far (p := ⟨gb289,0,none⟩) (Kd.R_types HO287.out BK289.out (by decide)) (fun _ hk => hk.2) (.int .i64 t284)) (fun _ hk => hk.2) (.slice Ao59 t285.length co59)) (fun _ hk => hk.2) (.bool t288)) (fun _ h_ => h_.1))) hb);replace BK282 := aM_ (nBf_ BK282.out hb);replace BK283 := aM_ (nBf_ BK283.out hb);replace BK289 := aM_ (blk_below (g := gb289) (o := .cells #[.int .i64 t284,.slice Ao59 t285.length co59,.bool t288] 94 (0,0)) (by (with_reducible repeat (first | refine bN_ ?_ _ | refine bD_ ?_ | refine bA_ ?_ _));refine blk_put (cs := #[.int .i64 t284,.slice Ao59 t285.length co59,.bool false]) ?_ 2 _ rfl;refine blk_put (cs := #[.int .i64 t284,.slice none 0 0,.bool false]) ?_ 1 _ rfl;refine blk_put (cs := #[.int .i64 0,.slice none 0 0,.bool false]) ?_ 0 _ rfl;exact rW_ BK289.out) hb);replace HB := aM_ (sT_ HB.out hb);have z_62 := bR3_ BK282.out;have z_63 := bR3_ BK289.out;have z_64 := bR3_ BK283.out))
    refine bodyPost_ret (results_ctt rfl _ _ gb283 94 #[.int .i64 t284,.slice Ao59 t285.length co59,.bool t288] (0,0) _ rfl (by (with_reducible repeat (first | refine bN_ ?_ _ | refine bD_ ?_ | refine bA_ ?_ _));refine blk_put (cs := #[.int .i64 t284,.slice Ao59 t285.length co59,.bool false]) ?_ 2 _ rfl;refine blk_put (cs := #[.int .i64 t284,.slice none 0 0,.bool false]) ?_ 1 _ rfl;refine blk_put (cs := #[.int .i64 0,.slice none 0 0,.bool false]) ?_ 0 _ rfl;exact rW_ BK283.out) Try.underlying94 rfl (by kernel_rfl)) rfl ?_
    exact ⟨_,fR_,by (with_reducible repeat (first | apply rA_ | apply rN_ | apply rD_));exact Kd.R_mono (Kd.R_far (p := ⟨gb283,2,none⟩) (Kd.R_far (p := ⟨gb283,1,none⟩) (Kd.R_far (p := ⟨gb283,0,none⟩) (Kd.R_types HO287.out BK283.out (by decide)) (fun _ hk => hk.2) (.int .i64 t284)) (fun _ hk => hk.2) (.slice Ao59 t285.length co59)) (fun _ hk => hk.2) (.bool t288)) (fun _ hk => trivial),gB_ HB.out⟩
 ·replace c4 := Bool.eq_false_iff.mpr c4
  subst c4
  have H1 : (some (t284,t285,t288,0,2)) = some (r1,r2,r3,r4,r5) := by rw [if_neg (show ¬ (false = true) by decide)] at H;exact H
  clear H
  have H := H1
  clear H1
  simp only [Option.some.injEq,Prod.mk.injEq] at H
  obtain ⟨rfl,rfl,rfl,rfl,rfl⟩ := H
  go_enter Try.func192,Try.ntmps192
  go_wp2_with (first | ((with_reducible refine gate_dst (N := 1) rfl ?_);refine bX_ 1 (cs := #[.int .i64 a0_0,.slice A0_1 l0_1.length c0_1,.bool a0_2]) (t := 94) ?_;intro gb282 hg w65 hbox hb;have BK282 := aM_ (hbox);have GE282 := aM_ (sZ_ hg HB.out);replace HB := aM_ (sT_ HB.out hb);clear hb hbox hg) | ((with_reducible refine gate_dst (N := 2) rfl ?_);refine bX_ 2 (cs := #[.int .i64 0,.slice none 0 0,.bool false]) (t := 94) ?_;intro gb283 hg w66 hbox hb;have BK283 := aM_ (hbox);have GE283 := aM_ (sZ_ hg HB.out);have NB282_283 := aM_ (nL_ hg BK282.out);have NB283_282 := aM_ (nG_ hg BK282.out);replace BK282 := aM_ (nB_ BK282.out hb);replace HB := aM_ (sT_ HB.out hb);clear hb hbox hg;have hnb67 := NB282_283.out;have hnc67 := NB283_282.out;have z_68 := bR3_ BK282.out) | ((with_reducible refine gate_callee (f := 171) rfl ?_);refine gL_ (some 7) Try.func171 #[.agg #[.int .i64 a0_0,.slice A0_1 l0_1.length c0_1,.bool a0_2]] ?_;(with_reducible refine (spec_l3Copy.calls a0_0 _ _ l0_1 a0_2 t284 t285 t288 _ ?side1 ?side2 A2.out).mono ?_);(case side1 => exact cS_ (Kd.C_below HR0_1.out HB.out));(case side2 => exact HC0_1.out);rintro e w69 ⟨v286,rfl,ho0,hb⟩;refine ⟨_,rfl,?_⟩;have HO287 := aM_ (Kd.R_lower ho0 (below_size (gB_ HB.out)));replace BK282 := aM_ (nB_ BK282.out hb);replace BK283 := aM_ (nB_ BK283.out hb);replace HB := aM_ (sT_ HB.out hb);(try clear ho0)) | ((with_reducible refine gate_dst (N := 5) rfl ?_);refine bX_ 5 (cs := #[.int .i64 0,.slice none 0 0,.bool false]) (t := 94) ?_;intro gb289 hg w70 hbox hb;have BK289 := aM_ (hbox);have GE289 := aM_ (sZ_ hg HB.out);have NB282_289 := aM_ (nL_ hg BK282.out);have NB289_282 := aM_ (nG_ hg BK282.out);have NB283_289 := aM_ (nL_ hg BK283.out);have NB289_283 := aM_ (nG_ hg BK283.out);replace HO287 := aM_ (bR_ HO287.out hb);replace BK282 := aM_ (nB_ BK282.out hb);replace BK283 := aM_ (nB_ BK283.out hb);replace HB := aM_ (sT_ HB.out hb);clear hb hbox hg;have hnb71 := NB289_282.out;have hnc71 := NB282_289.out;have hnb72 := NB289_283.out;have hnc72 := NB283_289.out;have z_73 := bR3_ BK289.out;obtain ⟨Ao74,co74,eo74⟩ := Kd.R_slice HO287.out;subst eo74;have z_75 := bR3_ BK282.out) | ((with_reducible refine gate_callee (f := 146) rfl ?_);refine gL_ (some 10) Try.func146 #[.agg #[.int .i64 a0_0,.slice A0_1 l0_1.length c0_1,.bool a0_2]] ?_;(with_reducible refine (spec_ChanOk.calls a0_0 _ _ l0_1 a0_2 false _ ?side1 ?side2 A3.out).mono ?_);(case side1 => exact Kd.C_below HR0_1.out (gB_ HB.out));(case side2 => exact HC0_1.out);rintro e w76 ⟨rfl,hb⟩;refine ⟨_,rfl,?_⟩;replace HO287 := aM_ (Kd.R_below (by (with_reducible repeat (first | apply rA_ | apply rN_ | apply rD_));exact (Kd.R_mono (Kd.R_far (p := ⟨gb289,2,none⟩) (Kd.R_far (p := ⟨gb289,1,none⟩) (Kd.R_far (p := ⟨gb289,0,none⟩) (Kd.R_types HO287.out BK289.out (by decide)) (fun _ hk => hk.2) (.int .i64 t284)) (fun _ hk => hk.2) (.slice Ao74 t285.length co74)) (fun _ hk => hk.2) (.bool t288)) (fun _ h_ => h_.1))) hb);replace BK282 := aM_ (nBf_ BK282.out hb);replace BK283 := aM_ (nBf_ BK283.out hb);replace BK289 := aM_ (blk_below (g := gb289) (o := .cells #[.int .i64 t284,.slice Ao74 t285.length co74,.bool t288] 94 (0,0)) (by (with_reducible repeat (first | refine bN_ ?_ _ | refine bD_ ?_ | refine bA_ ?_ _));refine blk_put (cs := #[.int .i64 t284,.slice Ao74 t285.length co74,.bool false]) ?_ 2 _ rfl;refine blk_put (cs := #[.int .i64 t284,.slice none 0 0,.bool false]) ?_ 1 _ rfl;refine blk_put (cs := #[.int .i64 0,.slice none 0 0,.bool false]) ?_ 0 _ rfl;exact rW_ BK289.out) hb);replace HB := aM_ (sT_ HB.out hb);have z_77 := bR3_ BK289.out;have z_78 := bR3_ BK283.out))
  refine bodyPost_ret (results_ctt rfl _ _ gb283 94 #[.int .i64 t284,.slice Ao74 t285.length co74,.bool t288] (0,0) _ rfl (by (with_reducible repeat (first | refine bN_ ?_ _ | refine bD_ ?_ | refine bA_ ?_ _));refine blk_put (cs := #[.int .i64 t284,.slice Ao74 t285.length co74,.bool false]) ?_ 2 _ rfl;refine blk_put (cs := #[.int .i64 t284,.slice none 0 0,.bool false]) ?_ 1 _ rfl;refine blk_put (cs := #[.int .i64 0,.slice none 0 0,.bool false]) ?_ 0 _ rfl;exact rW_ BK283.out) Try.underlying94 rfl (by kernel_rfl)) rfl ?_
  exact ⟨_,fR_,by (with_reducible repeat (first | apply rA_ | apply rN_ | apply rD_));exact Kd.R_mono (Kd.R_far (p := ⟨gb283,2,none⟩) (Kd.R_far (p := ⟨gb283,1,none⟩) (Kd.R_far (p := ⟨gb283,0,none⟩) (Kd.R_types HO287.out BK283.out (by decide)) (fun _ hk => hk.2) (.int .i64 t284)) (fun _ hk => hk.2) (.slice Ao74 t285.length co74)) (fun _ hk => hk.2) (.bool t288)) (fun _ hk => trivial),gB_ HB.out⟩
end Go.Proofs.Ytobachfngmpeiaa.PFnExactStuck
