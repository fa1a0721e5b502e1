/- A part of the proof that the law FnLoad holds for every input: the words, functions and walks that its row needs, without a condition of their own. -/
import Derived.Test.YthbcnakmnbilhaaZFnLoada2
import Derived.Test.YthbcnakmnbilhaaZFnLoada4
import Derived.Test.YthbcnakmnbilhaaZFnLoada5
import Derived.Test.YthbcnakmnbilhaaZFnLoada7
import Derived.Test.YthbcnakmnbilhaaZFnLoada8
import Derived.Test.YthbcnakmnbilhaaZFnLoada9
import Derived.Test.YthbcnakmnbilhaaZFnLoada10
import Derived.Test.YthbcnakmnbilhaaZFnLoads
namespace Go.Proofs.Ythbcnakmnbilhaa.PFnLoad
open Go.RowKit Go.Proofs.YthbcnakmnbilhaaW.PrintWords Go.Proofs.YthbcnakmnbilhaaW.PrintLast Go.Proofs.YthbcnakmnbilhaaW.PrintMore Go.Proofs.Ythbcnakmnbilhaa.SepMark
attribute [local go_sem] max2_int min2_int max_two min_two max_three min_three max_four min_four   -- for this text's walks alone
set_option linter.unusedVariables false
set_option linter.unusedSimpArgs false
def spec_Swap.j0 : Nat → List Int → Int → Int → Bool → List (List (S43)) → Option ((List (List (S43))) × List Int × Int)
  | 0,_,_,_,_,_ => none
  | k + 1,x1,x2,x3,x28,x309000 => if x28 = true then ((spec_l6Copy.f k x309000).bind fun t312 => ((some (([] : List Int) : List Int)).bind fun y315 => (if y315.length + x1.length < 17592186044416 then (some (t312,(y315 ++ x1),0)) else (none)))) else ((spec_l6Load.f k x309000 x1 x2 0 true).bind fun bt321 => ((spec_l6Copy.f k x309000).bind fun t325 => ((spec_l6Store.f t325 bt321.2 x2 x3 true).bind fun bt328 => (some (bt328.1,bt328.2,bt321.1)))))
def spec_Swap.f (k : Nat) (l0_0 : List (List (S43))) (l1 : List Int) (a2 : Int) (a3 : Int) : Option ((List (List (S43))) × List Int × Int) := (spec_l6Right.f k l0_0 l1 a2).bind fun t310 => (if t310 = true then (if 0 ≤ a2 then (if a2 < (l0_0.length : Int) then (spec_Swap.j0 k l1 a2 a3 (((rd_L4 l0_0 a2).length : Int) == 4000) l0_0) else (none)) else (none)) else (spec_Swap.j0 k l1 a2 a3 true l0_0))
set_option maxHeartbeats 8000000 in
set_option maxRecDepth 100000 in
theorem spec_Swap.callsS (k : Nat) (A0_0 : Option Addr) (c0_0 : Nat) (l0_0 : List (List (S43))) (A1 : Option Addr) (c1 : Nat) (l1 : List Int) (a2 : Int) (a3 : Int) (r1 : List (List (S43))) (r2 : List Int) (r3 : Int) (w : World) (hr0_0 : Kd.C (Kd.slice 43 k43) w A0_0 l0_0.length l0_0) (hc0_0 : l0_0.length ≤ c0_0) (hr1 : Kd.C (Kd.int .i64) w A1 l1.length l1) (hc1 : l1.length ≤ c1) (h : spec_Swap.f k l0_0 l1 a2 a3 = some (r1,r2,r3)) :
  Calls Try.prog 46 #[.agg #[.slice A0_0 l0_0.length c0_0],.slice A1 l1.length c1,.int .i64 a2,.int .i64 a3] w fun e w' => ∃ v0_ v1_ : Value,e = .returned (.tuple #[.agg #[v0_],v1_,.int .i64 r3]) ∧ Kd.S (sslice 43 k43) 44 w' w.heap.size (fun k_ => (w.heap.size ≤ k_) ∧ some k_ ≠ (v1_ : Value).ownBlock) v0_ r1 ∧ Kd.R (Kd.int .i64) 3 w' w.heap.size (fun k_ => (w.heap.size ≤ k_)) v1_ r2 ∧ Below w.heap.size w w' := by
 have hu24 := Try.underlying24
 have HR0_0 := Aside0.mk hr0_0
 have HC0_0 := Aside0.mk hc0_0
 clear hr0_0 hc0_0
 have HR1 := Aside0.mk hr1
 have HC1 := Aside0.mk hc1
 clear hr1 hc1
 have HB := Aside0.mk (Below.refl w.heap.size w)
 have H : ((spec_l6Right.f k l0_0 l1 a2).bind fun t310 => (if t310 = true then (if 0 ≤ a2 then (if a2 < (l0_0.length : Int) then (spec_Swap.j0 k l1 a2 a3 (((rd_L4 l0_0 a2).length : Int) == 4000) l0_0) else (none)) else (none)) else (spec_Swap.j0 k l1 a2 a3 true l0_0))) = some (r1,r2,r3) := h
 clear h
 have HC5 := Aside0.mk H
 clear H
 go_enter Try.func46,Try.ntmps46
 go_upto_region 1 with (first | ((with_reducible refine gate_dst (N := 4) rfl ?_);(try (refine gate_guard (by rfl) ?_;dsimp only));refine bX_ 4 (cs := #[.slice A0_0 l0_0.length c0_0]) (t := 24) ?_;intro gb308 hg w6 hbox hb;have n0_ := Aside0.mk (sT_ HB.out hb);have n1_ := Aside0.mk (hbox);have n2_ := Aside0.mk (sZ_ hg HB.out);have n3_ := Aside0.mk (sZ_ hg HB.out);clear HB;have HB := n0_;have BK308 := n1_;have GW308 := n2_;have GE308 := n3_;clear n0_ n1_ n2_ n3_;clear hb hbox hg) | ((with_reducible refine gate_dst (N := 8) rfl ?_);(try (refine gate_guard (by rfl) ?_;dsimp only));refine bX_ 8 (cs := #[.slice none 0 0]) (t := 24) ?_;intro gb309 hg w7 hbox hb;have n0_ := Aside0.mk (nB_ BK308.out hb);have n1_ := Aside0.mk (sT_ HB.out hb);have n2_ := Aside0.mk (hbox);have n3_ := Aside0.mk (sZ_ hg HB.out);have n4_ := Aside0.mk (sZ_ hg HB.out);have n5_ := Aside0.mk (nL_ hg BK308.out);have n6_ := Aside0.mk (nG_ hg BK308.out);clear BK308;clear HB;have BK308 := n0_;have HB := n1_;have BK309 := n2_;have GW309 := n3_;have GE309 := n4_;have NB308_309 := n5_;have NB309_308 := n6_;clear n0_ n1_ n2_ n3_ n4_ n5_ n6_;clear hb hbox hg))
 (try simp only [Act.put,List.setIfInBounds_toArray,List.set_cons_zero,List.set_cons_succ])
 go_cut [28] (fun v28 wc => ∃ (kq : Nat) (x28_4 : Bool),v28 = .bool x28_4 ∧ Aside0 (spec_Swap.j0 kq l1 a2 a3 x28_4 l0_0 = some (r1,r2,r3)) ∧ Aside0 (kq ≤ k) ∧ Aside0 (wc.heap[gb308]? = some (.cells #[(.slice A0_0 l0_0.length c0_0)] 24 (0,0))) ∧ Aside0 (wc.heap[gb309]? = some (.cells #[(.slice none 0 0)] 24 (0,0))) ∧ Aside0 (Below w.heap.size w wc))
 case first =>
  have H := HC5.out
  clear HC5
  replace H := Option.bind_eq_some_iff.mp H
  obtain ⟨t310,A80,H⟩ := H
  replace H : (if t310 = true then (if 0 ≤ a2 then (if a2 < (l0_0.length : Int) then (spec_Swap.j0 k l1 a2 a3 (((rd_L4 l0_0 a2).length : Int) == 4000) l0_0) else (none)) else (none)) else (spec_Swap.j0 k l1 a2 a3 true l0_0)) = some (r1,r2,r3) := H
  have A8 := Aside0.mk A80
  clear A80
  by_cases c9 : t310 = true
  ·subst c9
   have H1 : (if 0 ≤ a2 then (if a2 < (l0_0.length : Int) then (spec_Swap.j0 k l1 a2 a3 (((rd_L4 l0_0 a2).length : Int) == 4000) l0_0) else (none)) else (none)) = some (r1,r2,r3) := by rw [if_pos rfl] at H;exact H
   clear H
   have H := H1
   clear H1
   by_cases c10 : 0 ≤ a2
   ·rw [if_pos c10] at H
    have c10b0 : decide (0 ≤ a2) = true := decide_eq_true c10
    clear c10
    (first | rw [c10b0] | (simp only [i64_w,i32_w];rw [c10b0]) | skip)
    by_cases c11 : a2 < (l0_0.length : Int)
    ·rw [if_pos c11] at H
     have c11b0 : decide (a2 < (l0_0.length : Int)) = true := decide_eq_true c11
     clear c11
     have H' := Aside0.mk H
     clear H
     have hnb12 := NB308_309.out
     have hnc12 := NB309_308.out
     have hcz13_0 : w7.cell? ⟨gb308,0,none⟩ = some (.slice A0_0 l0_0.length c0_0) := (blk_cell BK308.out 0).trans rfl
     have hfz13_0 := blk_frozen BK308.out 0
     go_wp2_with (first | ((with_reducible refine gate_callee (f := 61) rfl ?_);refine gL_ (some 18) Try.func61 #[.agg #[.slice A0_0 l0_0.length c0_0],.slice A1 l1.length c1,.int .i64 a2] ?_;(with_reducible refine (spec_l6Right.calls k _ _ l0_0 _ _ l1 a2 true _ ?side1 ?side2 ?side3 ?side4 A8.out).mono ?_);(case side1 => exact cS_ (Kd.C_below HR0_0.out HB.out));(case side2 => exact HC0_0.out);(case side3 => exact cS_ (Kd.C_below HR1.out HB.out));(case side4 => exact HC1.out);rintro e w14 ⟨rfl,hb⟩;refine ⟨_,rfl,?_⟩;have n0_ := Aside0.mk (nB_ BK308.out hb);have n1_ := Aside0.mk (nB_ BK309.out hb);have n2_ := Aside0.mk (sT_ HB.out hb);clear BK308;clear BK309;clear HB;have BK308 := n0_;have BK309 := n1_;have HB := n2_;clear n0_ n1_ n2_;(try clear hb);(try clear hb2);(try clear hk);(try clear hi);have hcz15_0 : w14.cell? ⟨gb308,0,none⟩ = some (.slice A0_0 l0_0.length c0_0) := (blk_cell BK308.out 0).trans rfl;have hfz15_0 := blk_frozen BK308.out 0;have p311 : 0 ≤ (a2 : Int) := of_decide_eq_true (by first | (with_reducible assumption) | assumption);have q311 : a2 < (l0_0.length : Int) := of_decide_eq_true (by first | (with_reducible assumption) | assumption);obtain ⟨ad311,A311_0,c311_0,e311,hx311_0,hl311_0,hi311_0⟩ := at_L4 HR0_0.out a2 p311 q311;cases e311;replace hx311_0 := cB_ HB.out hx311_0;have HR311_0 := Aside0.mk hi311_0;have HC311_0 := Aside0.mk hl311_0;clear hi311_0 hl311_0;replace p311 := eq_true p311;replace q311 := eq_true q311))
     go_meet
     case rel => exact ⟨_,((((rd_L4 l0_0 a2).length : Int) == 4000)),(by first | rfl | (simp;done) | (simp [*];done)),H',⟨by first | omega | exact Nat.le_refl _⟩,⟨rW_ BK308.out⟩,⟨rW_ BK309.out⟩,⟨gW_ HB.out⟩⟩
    ·rw [if_neg c11] at H
     exact absurd H (by simp)
   ·rw [if_neg c10] at H
    exact absurd H (by simp)
  ·replace c9 := Bool.eq_false_iff.mpr c9
   subst c9
   have H1 : (spec_Swap.j0 k l1 a2 a3 true l0_0) = some (r1,r2,r3) := by rw [if_neg (show ¬ (false = true) by decide)] at H;exact H
   clear H
   have H := H1
   clear H1
   have H' := Aside0.mk H
   clear H
   have hnb16 := NB308_309.out
   have hnc16 := NB309_308.out
   have hcz17_0 : w7.cell? ⟨gb308,0,none⟩ = some (.slice A0_0 l0_0.length c0_0) := (blk_cell BK308.out 0).trans rfl
   have hfz17_0 := blk_frozen BK308.out 0
   go_wp2_with (first | ((with_reducible refine gate_callee (f := 61) rfl ?_);refine gL_ (some 18) Try.func61 #[.agg #[.slice A0_0 l0_0.length c0_0],.slice A1 l1.length c1,.int .i64 a2] ?_;(with_reducible refine (spec_l6Right.calls k _ _ l0_0 _ _ l1 a2 false _ ?side1 ?side2 ?side3 ?side4 A8.out).mono ?_);(case side1 => exact cS_ (Kd.C_below HR0_0.out HB.out));(case side2 => exact HC0_0.out);(case side3 => exact cS_ (Kd.C_below HR1.out HB.out));(case side4 => exact HC1.out);rintro e w18 ⟨rfl,hb⟩;refine ⟨_,rfl,?_⟩;have n0_ := Aside0.mk (nB_ BK308.out hb);have n1_ := Aside0.mk (nB_ BK309.out hb);have n2_ := Aside0.mk (sT_ HB.out hb);clear BK308;clear BK309;clear HB;have BK308 := n0_;have BK309 := n1_;have HB := n2_;clear n0_ n1_ n2_;(try clear hb);(try clear hb2);(try clear hk);(try clear hi)))
   go_meet
   case rel => exact ⟨_,(true),(by first | rfl | (simp;done) | (simp [*];done)),H',⟨by first | omega | exact Nat.le_refl _⟩,⟨rW_ BK308.out⟩,⟨rW_ BK309.out⟩,⟨gW_ HB.out⟩⟩
 case rest =>
  clear HC5
  try clear c1
  try clear p2
  try clear c3
  try clear p3
  try clear q3
  try clear hx3
  try clear c4
  try clear c6
  try clear c9
  try clear c10
  try clear c10b0
  try clear c11
  try clear c11b0
  try clear c12
  try clear c16
  try clear hcz13_0 hfz13_0
  try clear hcz15_0 hfz15_0
  try clear hcz17_0 hfz17_0
  try clear hx311_0
  try clear p311
  try clear q311
  obtain ⟨kq,x28_4,rfl,HA,HJ4,BK308,BK309,HB⟩ := hcut
  cases kq with
  | zero => exact absurd HA.out (by simp [spec_Swap.j0])
  | succ kj4 =>
   have H := HA.out
   clear HA
   simp only [spec_Swap.j0] at H
   by_cases c19 : x28_4 = true
   ·subst c19
    have H1 : ((spec_l6Copy.f kj4 l0_0).bind fun t312 => ((some (([] : List Int) : List Int)).bind fun y315 => (if y315.length + l1.length < 17592186044416 then (some (t312,(y315 ++ l1),0)) else (none)))) = some (r1,r2,r3) := by rw [if_pos rfl] at H;exact H
    clear H
    have H := H1
    clear H1
    replace H := Option.bind_eq_some_iff.mp H
    obtain ⟨t312,A200,H⟩ := H
    replace H : ((some (([] : List Int) : List Int)).bind fun y315 => (if y315.length + l1.length < 17592186044416 then (some (t312,(y315 ++ l1),0)) else (none))) = some (r1,r2,r3) := H
    have A20 := Aside0.mk A200
    clear A200
    obtain ⟨y315,hy315⟩ : ∃ y_ : List Int,y_ = (([] : List Int)) := ⟨_,rfl⟩
    replace H : (if y315.length + l1.length < 17592186044416 then (some (t312,(y315 ++ l1),0)) else (none)) = some (r1,r2,r3) := by first | (rw [hy315];with_reducible exact H) | (have H2_ := (Option.bind_some _ _).symm.trans H;rw [hy315];with_reducible exact H2_) | (have H2_ := (Option.bind_some _ _).symm.trans H;with_reducible exact H2_) | with_reducible exact H | (rw [hy315];exact H) | exact H
    have Ny315 := Aside0.mk hy315
    clear hy315
    by_cases c21 : y315.length + l1.length < 17592186044416
    ·rw [if_pos c21] at H
     have LMc21 := Aside0.mk c21
     clear c21
     obtain ⟨y318,hy318⟩ : ∃ y_ : List Int,y_ = (y315 ++ l1) := ⟨_,rfl⟩
     replace H : (some (t312,y318,0)) = some (r1,r2,r3) := by first | (rw [hy318];with_reducible exact H) | (have H2_ := (Option.bind_some _ _).symm.trans H;rw [hy318];with_reducible exact H2_) | (have H2_ := (Option.bind_some _ _).symm.trans H;with_reducible exact H2_) | with_reducible exact H | (rw [hy318];exact H) | exact H
     have Ny318 := Aside0.mk hy318
     clear hy318
     simp only [Option.some.injEq,Prod.mk.injEq] at H
     obtain ⟨rfl,rfl,rfl⟩ := H
     have hnb22 := NB308_309.out
     have hnc22 := NB309_308.out
     have hcz23_0 : wc.cell? ⟨gb308,0,none⟩ = some (.slice A0_0 l0_0.length c0_0) := (blk_cell BK308.out 0).trans rfl
     have hfz23_0 := blk_frozen BK308.out 0
     go_wp2_with (first | ((with_reducible refine gate_callee (f := 85) rfl ?_);refine gL_ (some 30) Try.func85 #[.agg #[.slice A0_0 l0_0.length c0_0]] ?_;(with_reducible refine (spec_l6Copy.calls kj4 _ _ l0_0 t312 _ ?side1 ?side2 A20.out).mono ?_);(case side1 => exact cS_ (Kd.C_below HR0_0.out HB.out));(case side2 => exact HC0_0.out);rintro e w24 ⟨v313,rfl,ho0,hb⟩;refine ⟨_,rfl,?_⟩;have n0_ := Aside0.mk (Kd.S_lower (Kd.S_newM (M := fun k_ => (w.heap.size ≤ k_)) ho0 (below_size (gB_ HB.out)) (fun k_ h_ => h_)) (below_size (gB_ HB.out)));have n1_ := Aside0.mk (nB_ BK308.out hb);have n2_ := Aside0.mk (nB_ BK309.out hb);have n3_ := Aside0.mk (sT_ HB.out hb);clear BK308;clear BK309;clear HB;have HO314 := n0_;have BK308 := n1_;have BK309 := n2_;have HB := n3_;clear n0_ n1_ n2_ n3_;(try clear hb);(try clear hb2);(try clear hk);(try clear hi);(try clear ho0)) | ((with_reducible refine gate_dst (N := 31) rfl ?_);(try (refine gate_guard (by rfl) ?_;dsimp only));refine Kd.R_lit (Kd.int .i64) _ 3 ?hg (N := 31) ?hd (xs := ([] : List Int)) (inner := []) (ok := fun _ => True) (okp := fun _ => True) ?hr ?hp (fun _ hk => hk) trivial (Below.refl _ _) (Nat.le_refl _) (by simp) ?_;(case hd => rfl);(case hg => rfl);(case hr => first | (go_simp;done) | (go_simp;rfl));(case hp => exact (Reps.none _ _));intro v316 w25 ho26 hb hg_ hnew_;clear hg_ hnew_;(first | rw [← Ny315.out] at ho26 | (simp only [Int.reduceToNat] at ho26;rw [← Ny315.out] at ho26));have n0_ := Aside0.mk (Kd.S_elder' (by (with_reducible repeat (first | apply Kd.S_alloc | apply Kd.S_drewN | apply Kd.S_drew));exact HO314.out) (Kd.R_base ho26) hb);have n1_ := Aside0.mk (Kd.R_lower (Kd.R_newM (M := fun k_ => (w.heap.size ≤ k_)) ho26 (below_size (gB_ HB.out)) (fun k_ h_ => h_)) (below_size (gB_ HB.out)));have n2_ := Aside0.mk (nB_ BK308.out hb);have n3_ := Aside0.mk (nB_ BK309.out hb);have n4_ := Aside0.mk (sT_ HB.out hb);clear HO314;clear BK308;clear BK309;clear HB;have HO314 := n0_;have HO317 := n1_;have BK308 := n2_;have BK309 := n3_;have HB := n4_;clear n0_ n1_ n2_ n3_ n4_;clear hb ho26) | ((with_reducible refine gate_builtin (b := .append) (xs := #[.tmp 31,.tmp 32]) rfl ?_);(try (refine gate_guard (by rfl) ?_;dsimp only));at_builtin;refine Kd.R_append_rows (Kd.int .i64) (w0 := w) w.heap.size rfl (.tmp 31) (.tmp 32) 31 3 (.int .i64 0) 8 rfl Try.underlying31 info3 rfl (by decide) (by omega) v316 y315 l1 _ _ _ (fun k_ => (w.heap.size ≤ k_)) (fun _ => False) rfl rfl ?aO ?aR (fun _ _ h => h) (fun _ h => h.elim) ?aF ?aB ?aS ?aL ?_;(case aR => repeat (first | exact (Kd.C_below HR1.out HB.out) | (with_reducible refine Kd.C_alloc ?_ _) | (with_reducible refine Kd.C_drewN ?_ _) | (with_reducible refine Kd.C_drew ?_)));(case aB => exact (gB_ HB.out));(case aF => exact (fun k_ hk => (Nat.le_trans (below_size (gB_ HB.out)) hk)));(case aO => exact (by (with_reducible repeat (first | apply Kd.R_alloc | apply Kd.R_drewN | apply Kd.R_drew));exact Kd.R_mono HO317.out (fun _ hk => hk.1)));(case aS => exact (below_size (gB_ HB.out)));(case aL => have := LMc21.out;omega);intro v319 w27 ho hb hg hat;rw [← Ny318.out] at ho;have n0_ := Aside0.mk (blk_grown (g := gb308) (o := .cells #[.slice A0_0 l0_0.length c0_0] 24 (0,0)) (by (with_reducible repeat (first | refine blk_drewN ?_ _ | refine blk_drew ?_ | refine blk_alloc ?_ _));exact BK308.out) hg (Kd.R_ne HO317.out BK308.out (by decide)));have n1_ := Aside0.mk (blk_grown (g := gb309) (o := .cells #[.slice none 0 0] 24 (0,0)) (by (with_reducible repeat (first | refine blk_drewN ?_ _ | refine blk_drew ?_ | refine blk_alloc ?_ _));exact BK309.out) hg (Kd.R_ne HO317.out BK309.out (by decide)));have n2_ := Aside0.mk (Kd.S_after (ok := (fun k_ => (w.heap.size ≤ k_))) (by (with_reducible repeat (first | apply Kd.S_alloc | apply Kd.S_drewN | apply Kd.S_drew));exact Kd.S_mono HO314.out (fun _ hk => ⟨hk.1.1,hk.2⟩)) hg hat);have n3_ := Aside0.mk (hb);have n4_ := Aside0.mk (ho);clear BK308;clear BK309;clear HO314;clear HB;clear HO317;have BK308 := n0_;have BK309 := n1_;have HO314 := n2_;have HB := n3_;have HO320 := n4_;clear n0_ n1_ n2_ n3_ n4_;clear ho hb hg hat;obtain ⟨Ao28,co28,eo28⟩ := Kd.S_slice HO314.out;subst eo28;have hcz29_0 : w27.cell? ⟨gb309,0,none⟩ = some (.slice none 0 0) := (blk_cell BK309.out 0).trans rfl;have hfz29_0 := blk_frozen BK309.out 0))
     refine bodyPost_ret (results_ctt rfl _ _ gb309 24 #[.slice Ao28 t312.length co28] (0,0) _ rfl (by (with_reducible repeat (first | refine blk_drewN ?_ _ | refine blk_drew ?_ | refine blk_alloc ?_ _));refine blk_put (cs := #[.slice none 0 0]) ?_ 0 _ rfl;exact rW_ BK309.out) Try.underlying24 rfl (by kernel_rfl)) rfl ?_
     exact ⟨_,_,fR_,(by (with_reducible repeat (first | apply Kd.S_alloc | apply Kd.S_drewN | apply Kd.S_drew));exact Kd.S_mono (Kd.S_far (p := ⟨gb309,0,none⟩) (Kd.S_types HO314.out BK309.out (by decide)) (fun _ hk => hk.2) (.slice Ao28 t312.length co28)) (fun _ hk => ⟨hk.1.1,hk.1.2⟩)),by (with_reducible repeat (first | apply Kd.R_alloc | apply Kd.R_drewN | apply Kd.R_drew));exact Kd.R_mono (Kd.R_far (p := ⟨gb309,0,none⟩) (Kd.R_types HO320.out BK309.out (by decide)) (fun _ hk => hk.2) (.slice Ao28 t312.length co28)) (fun _ hk => hk.1),gB_ HB.out⟩
    ·rw [if_neg c21] at H
     exact absurd H (by simp)
   ·replace c19 := Bool.eq_false_iff.mpr c19
    subst c19
    have H1 : ((spec_l6Load.f kj4 l0_0 l1 a2 0 true).bind fun bt321 => ((spec_l6Copy.f kj4 l0_0).bind fun t325 => ((spec_l6Store.f t325 bt321.2 a2 a3 true).bind fun bt328 => (some (bt328.1,bt328.2,bt321.1))))) = some (r1,r2,r3) := by rw [if_neg (show ¬ (false = true) by decide)] at H;exact H
    clear H
    have H := H1
    clear H1
    replace H := Option.bind_eq_some_iff.mp H
    obtain ⟨⟨t321,t322⟩,A300,H⟩ := H
    replace H : ((spec_l6Copy.f kj4 l0_0).bind fun t325 => ((spec_l6Store.f t325 t322 a2 a3 true).bind fun bt328 => (some (bt328.1,bt328.2,t321)))) = some (r1,r2,r3) := H
    have A30 := Aside0.mk A300
    clear A300
    replace H := Option.bind_eq_some_iff.mp H
    obtain ⟨t325,A310,H⟩ := H
    replace H : ((spec_l6Store.f t325 t322 a2 a3 true).bind fun bt328 => (some (bt328.1,bt328.2,t321))) = some (r1,r2,r3) := H
    have A31 := Aside0.mk A310
    clear A310
    replace H := Option.bind_eq_some_iff.mp H
    obtain ⟨⟨t328,t331⟩,A320,H⟩ := H
    replace H : (some (t328,t331,t321)) = some (r1,r2,r3) := H
    have A32 := Aside0.mk A320
    clear A320
    simp only [Option.some.injEq,Prod.mk.injEq] at H
    obtain ⟨rfl,rfl,rfl⟩ := H
    have hnb33 := NB308_309.out
    have hnc33 := NB309_308.out
    have hcz34_0 : wc.cell? ⟨gb308,0,none⟩ = some (.slice A0_0 l0_0.length c0_0) := (blk_cell BK308.out 0).trans rfl
    have hfz34_0 := blk_frozen BK308.out 0
    go_wp2_with (first | ((with_reducible refine gate_callee (f := 62) rfl ?_);refine gL_ (some 38) Try.func62 #[.agg #[.slice A0_0 l0_0.length c0_0],.slice A1 l1.length c1,.int .i64 a2,.int .i64 0,.bool true] ?_;(with_reducible refine (spec_l6Load.calls kj4 _ _ l0_0 _ _ l1 a2 0 true t321 t322 _ ?side1 ?side2 ?side3 ?side4 A30.out).mono ?_);(case side1 => exact cS_ (Kd.C_below HR0_0.out HB.out));(case side2 => exact HC0_0.out);(case side3 => exact cS_ (Kd.C_below HR1.out HB.out));(case side4 => exact HC1.out);rintro e w35 ⟨v323,rfl,ho0,hb⟩;refine ⟨_,rfl,?_⟩;have n0_ := Aside0.mk (Kd.R_lower (Kd.R_newM (M := fun k_ => (w.heap.size ≤ k_)) ho0 (below_size (gB_ HB.out)) (fun k_ h_ => h_)) (below_size (gB_ HB.out)));have n1_ := Aside0.mk (nB_ BK308.out hb);have n2_ := Aside0.mk (nB_ BK309.out hb);have n3_ := Aside0.mk (sT_ HB.out hb);clear BK308;clear BK309;clear HB;have HO324 := n0_;have BK308 := n1_;have BK309 := n2_;have HB := n3_;clear n0_ n1_ n2_ n3_;(try clear hb);(try clear hb2);(try clear hk);(try clear hi);(try clear ho0);have hcz36_0 : w35.cell? ⟨gb308,0,none⟩ = some (.slice A0_0 l0_0.length c0_0) := (blk_cell BK308.out 0).trans rfl;have hfz36_0 := blk_frozen BK308.out 0) | ((with_reducible refine gate_callee (f := 85) rfl ?_);refine gL_ (some 43) Try.func85 #[.agg #[.slice A0_0 l0_0.length c0_0]] ?_;(with_reducible refine (spec_l6Copy.calls kj4 _ _ l0_0 t325 _ ?side1 ?side2 A31.out).mono ?_);(case side1 => exact cS_ (Kd.C_below HR0_0.out HB.out));(case side2 => exact HC0_0.out);rintro e w37 ⟨v326,rfl,ho0,hb⟩;refine ⟨_,rfl,?_⟩;have n0_ := Aside0.mk (bR_ HO324.out hb);have n1_ := Aside0.mk (Kd.S_lower (Kd.S_new' (Kd.S_newM (M := fun k_ => (w.heap.size ≤ k_)) ho0 (below_size (gB_ HB.out)) (fun k_ h_ => h_)) (Kd.R_lt (by (with_reducible repeat (first | apply Kd.R_alloc | apply Kd.R_drewN | apply Kd.R_drew));exact HO324.out))) (below_size (gB_ HB.out)));have n2_ := Aside0.mk (nB_ BK308.out hb);have n3_ := Aside0.mk (nB_ BK309.out hb);have n4_ := Aside0.mk (sT_ HB.out hb);clear HO324;clear BK308;clear BK309;clear HB;have HO324 := n0_;have HO327 := n1_;have BK308 := n2_;have BK309 := n3_;have HB := n4_;clear n0_ n1_ n2_ n3_ n4_;(try clear hb);(try clear hb2);(try clear hk);(try clear hi);(try clear ho0);obtain ⟨Ao38,co38,eo38⟩ := Kd.S_slice HO327.out;subst eo38;obtain ⟨Ao39,co39,eo39⟩ := Kd.R_slice HO324.out;subst eo39) | ((with_reducible refine gate_callee (f := 86) rfl ?_);refine gL_ (some 47) Try.func86 #[.agg #[.slice Ao38 t325.length co38],.slice Ao39 t322.length co39,.int .i64 a2,.int .i64 a3,.bool true] ?_;(with_reducible refine (spec_l6Store.calls (fun k_ => (((((w.heap.size ≤ k_) ∧ True) ∧ some k_ ≠ (.slice Ao39 t322.length co39 : Value).ownBlock) ∧ k_ ≠ gb308) ∧ k_ ≠ gb309)) _ _ t325 _ _ t322 a2 a3 true t328 t331 w.heap.size _ ?side1 ?sideB ?side2 ?side3 A32.out).mono ?_);(case side1 => exact (Kd.S_types (Kd.S_types (HO327.out) BK308.out (by decide)) BK309.out (by decide)));(case sideB => exact (below_size (gB_ HB.out)));(case side2 => exact cS_ (Kd.R_reads' HO324.out).2.2);(case side3 => exact (Kd.R_reads' HO324.out).2.1);rintro e w40 ⟨v329,v332,rfl,ho0,ho1,hb,hk_⟩;refine ⟨_,rfl,?_⟩;have n0_ := Aside0.mk trivial;have n1_ := Aside0.mk trivial;have n2_ := Aside0.mk (Kd.S_lower (Kd.S_mono (ok' := fun k_ => (w.heap.size ≤ k_) ∧ some k_ ≠ (v332 : Value).ownBlock ∧ some k_ ≠ (.slice Ao39 t322.length co39 : Value).ownBlock ∧ k_ ≠ gb308 ∧ k_ ≠ gb309) ho0 (fun k_ hk_ => ⟨Or.elim hk_.1 (fun hs_ => hs_.1.1.1.1) (fun hn_ => (Nat.le_trans (below_size (gB_ HB.out)) hn_)),hk_.2,Or.elim hk_.1 (fun hs_ => hs_.1.1.2) (fun hn_ => (Kd.fresh' (Kd.R_lt (by (with_reducible repeat (first | apply Kd.R_alloc | apply Kd.R_drewN | apply Kd.R_drew));exact HO324.out)) k_ hn_)),Or.elim hk_.1 (fun hs_ => hs_.1.2) (fun hn_ => (Kd.freshB (g := gb308) (o := .cells #[.slice A0_0 l0_0.length c0_0] 24 (0,0)) (by (with_reducible repeat (first | refine blk_drewN ?_ _ | refine blk_drew ?_ | refine blk_alloc ?_ _));exact BK308.out) k_ hn_)),Or.elim hk_.1 (fun hs_ => hs_.2) (fun hn_ => (Kd.freshB (g := gb309) (o := .cells #[.slice none 0 0] 24 (0,0)) (by (with_reducible repeat (first | refine blk_drewN ?_ _ | refine blk_drew ?_ | refine blk_alloc ?_ _));exact BK309.out) k_ hn_))⟩)) (Nat.le_refl _));have n3_ := Aside0.mk (Kd.R_lower (Kd.R_new' (Kd.R_newM (M := fun k_ => (w.heap.size ≤ k_)) (Kd.R_mono (ok' := fun k_ => True) ho1 (fun _ hk_ => trivial)) (below_size (gB_ HB.out)) (fun k_ h_ => h_)) (Kd.R_lt (by (with_reducible repeat (first | apply Kd.R_alloc | apply Kd.R_drewN | apply Kd.R_drew));exact HO324.out))) (below_size (gB_ HB.out)));have n4_ := Aside0.mk (blk_kept (g := gb308) (o := .cells #[.slice A0_0 l0_0.length c0_0] 24 (0,0)) (by (with_reducible repeat (first | refine blk_drewN ?_ _ | refine blk_drew ?_ | refine blk_alloc ?_ _));exact BK308.out) hk_ (fun h_ => absurd rfl (by first | exact h_.2 | exact h_.1.2 | exact h_.1.1.2 | exact h_.1.1.1.2)));have n5_ := Aside0.mk (blk_kept (g := gb309) (o := .cells #[.slice none 0 0] 24 (0,0)) (by (with_reducible repeat (first | refine blk_drewN ?_ _ | refine blk_drew ?_ | refine blk_alloc ?_ _));exact BK309.out) hk_ (fun h_ => absurd rfl (by first | exact h_.2 | exact h_.1.2 | exact h_.1.1.2 | exact h_.1.1.1.2)));have n6_ := Aside0.mk (Below.trans (gB_ HB.out) hb);clear HO324;clear HO327;clear BK308;clear BK309;clear HB;have HO324 := n0_;have HO327 := n1_;have HO330 := n2_;have HO333 := n3_;have BK308 := n4_;have BK309 := n5_;have HB := n6_;clear n0_ n1_ n2_ n3_ n4_ n5_ n6_;(try clear hb);(try clear hk_);(try clear hb2);(try clear hk);(try clear hi);(try clear ho0);(try clear ho1)) | ((with_reducible refine gate_dst (N := 13) rfl ?_);(try (refine gate_guard (by rfl) ?_;dsimp only));refine bX_ 13 (cs := #[.slice none 0 0]) (t := 24) ?_;intro gb334 hg w41 hbox hb;have n0_ := Aside0.mk trivial;have n1_ := Aside0.mk trivial;have n2_ := Aside0.mk (Kd.S_below (Kd.S_elderB (by (with_reducible repeat (first | apply Kd.S_alloc | apply Kd.S_drewN | apply Kd.S_drew));exact HO330.out) gb334 (Nat.le_of_eq hg.symm)) hb);have n3_ := Aside0.mk (bR_ HO333.out hb);have n4_ := Aside0.mk (nB_ BK308.out hb);have n5_ := Aside0.mk (nB_ BK309.out hb);have n6_ := Aside0.mk (sT_ HB.out hb);have n7_ := Aside0.mk (hbox);have n8_ := Aside0.mk (sZ_ hg HB.out);have n9_ := Aside0.mk (sZ_ hg HB.out);have n10_ := Aside0.mk (nL_ hg BK308.out);have n11_ := Aside0.mk (nG_ hg BK308.out);have n12_ := Aside0.mk (nL_ hg BK309.out);have n13_ := Aside0.mk (nG_ hg BK309.out);clear HO324;clear HO327;clear HO330;clear HO333;clear BK308;clear BK309;clear HB;have HO324 := n0_;have HO327 := n1_;have HO330 := n2_;have HO333 := n3_;have BK308 := n4_;have BK309 := n5_;have HB := n6_;have BK334 := n7_;have GW334 := n8_;have GE334 := n9_;have NB308_334 := n10_;have NB334_308 := n11_;have NB309_334 := n12_;have NB334_309 := n13_;clear n0_ n1_ n2_ n3_ n4_ n5_ n6_ n7_ n8_ n9_ n10_ n11_ n12_ n13_;clear hb hbox hg;obtain ⟨Ao42,co42,eo42⟩ := Kd.S_slice HO330.out;subst eo42;have hnb43 := NB334_308.out;have hnc43 := NB308_334.out;have hnb44 := NB334_309.out;have hnc44 := NB309_334.out;have hcz45_0 : w41.cell? ⟨gb334,0,none⟩ = some (.slice none 0 0) := (blk_cell BK334.out 0).trans rfl;have hfz45_0 := blk_frozen BK334.out 0;have hcz46_0 : w41.cell? ⟨gb309,0,none⟩ = some (.slice none 0 0) := (blk_cell BK309.out 0).trans rfl;have hfz46_0 := blk_frozen BK309.out 0))
    refine bodyPost_ret (results_ctt rfl _ _ gb309 24 #[.slice Ao42 t328.length co42] (0,0) _ rfl (by (with_reducible repeat (first | refine blk_drewN ?_ _ | refine blk_drew ?_ | refine blk_alloc ?_ _));refine blk_put (cs := #[.slice none 0 0]) ?_ 0 _ rfl;exact rWf_ BK309.out) Try.underlying24 rfl (by kernel_rfl)) rfl ?_
    exact ⟨_,_,fR_,by (with_reducible repeat (first | apply Kd.S_alloc | apply Kd.S_drewN | apply Kd.S_drew));exact Kd.S_mono (Kd.S_far (p := ⟨gb309,0,none⟩) (Kd.S_far (p := ⟨gb334,0,none⟩) (Kd.S_mono (Kd.S_mono HO330.out (fun k_ hk => (⟨hk,hk.2⟩ : _ ∧ k_ ≠ gb334))) (fun k_ hk => (⟨hk,hk.1.1.2.2.2.2⟩ : _ ∧ k_ ≠ gb309))) (fun _ hk => hk.1.2) (.slice Ao42 t328.length co42)) (fun _ hk => hk.2) (.slice Ao42 t328.length co42)) (fun _ hk => ⟨hk.1.1.1.1,hk.1.1.1.2.1⟩),by (with_reducible repeat (first | apply Kd.R_alloc | apply Kd.R_drewN | apply Kd.R_drew));exact Kd.R_mono (Kd.R_far (p := ⟨gb309,0,none⟩) (Kd.R_far (p := ⟨gb334,0,none⟩) (Kd.R_types (Kd.R_types HO333.out BK334.out (by decide)) BK309.out (by decide)) (fun _ hk => hk.1.2) (.slice Ao42 t328.length co42)) (fun _ hk => hk.2) (.slice Ao42 t328.length co42)) (fun _ hk => hk.1.1.1.1),gB_ HB.out⟩
def spec_l1Once.f (s0_0 : List Int) (s0_1 : Int) (s0_2 : Int) (a1 : Int) : Option (Bool × Int × Int) := (spec_l1Below.f s0_0 s0_1 s0_2 a1).bind fun bt335 => (some ((bt335.1 == 0),bt335.2.1,bt335.2.2))
set_option maxHeartbeats 8000000 in
set_option maxRecDepth 100000 in
theorem spec_l1Once.calls (g : Nat) (s0_0 : List Int) (s0_1 : Int) (s0_2 : Int) (a1 : Int) (r1 : Bool) (r2 : Int) (r3 : Int) (w0 w : World) (hI : IsS119 w0 w g s0_0 s0_1 s0_2) (hB : Below w0.heap.size w0 w) (h : spec_l1Once.f s0_0 s0_1 s0_2 a1 = some (r1,r2,r3)) :
  Calls Try.prog 67 #[.pointer (some ⟨g,0,none⟩),.int .i64 a1] w fun e w' => e = .returned (.bool r1) ∧ IsS119 w0 w' g s0_0 r2 r3 ∧ Below w0.heap.size w0 w' ∧ KeepBut w w' g none := by
 have HI0 := aM_ hI
 have HK := aM_ (KeepBut.refl w g none)
 have HL := aM_ hB.size
 clear hI
 have HW0 := aM_ hB.size
 have HB := aM_ hB
 clear hB
 have H : ((spec_l1Below.f s0_0 s0_1 s0_2 a1).bind fun bt335 => (some ((bt335.1 == 0),bt335.2.1,bt335.2.2))) = some (r1,r2,r3) := h
 clear h
 replace H := Option.bind_eq_some_iff.mp H
 obtain ⟨⟨t335,t336,t337⟩,A30,H⟩ := H
 replace H : (some ((t335 == 0),t336,t337)) = some (r1,r2,r3) := H
 have A3 := aM_ A30
 clear A30
 simp only [Option.some.injEq,Prod.mk.injEq] at H
 obtain ⟨rfl,rfl,rfl⟩ := H
 go_enter Try.func67,Try.ntmps67
 go_wp2_with (first | ((with_reducible refine gate_callee (f := 84) rfl ?_);refine gL_ (some 7) Try.func84 #[.pointer (some ⟨g,0,none⟩),.int .i64 a1] ?_;(with_reducible refine (spec_l1Below.calls g s0_0 s0_1 s0_2 a1 t335 t336 t337 w0 _ ?side1 ?side2 A3.out).mono ?_);(case side1 => exact gI119_ HI0.out);(case side2 => exact gB119_ HB.out);rintro e w4 ⟨rfl,hi,hb,hk⟩;refine ⟨_,rfl,?_⟩;have n0 := aM_ (KeepBut.trans (gK_ HK.out) hk (.inl rfl));have n1 := aM_ (hb);have n2 := aM_ (hi);clear HK;clear HB;clear HI0;have HK := n0;have HB := n1;have HI0 := n2;clear n0 n1 n2))
 go_ret
 exact ⟨fR_,gI119_ HI0.out,gB119_ HB.out,gK_ HK.out⟩
end Go.Proofs.Ythbcnakmnbilhaa.PFnLoad
