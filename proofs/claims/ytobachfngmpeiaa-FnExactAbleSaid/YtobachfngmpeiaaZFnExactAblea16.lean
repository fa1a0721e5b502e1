/- Part of the proof of FnExactAble. -/
import Derived.Test.YtobachfngmpeiaaZFnExactAblea15
import Derived.Test.YtobachfngmpeiaaZFnExactAbles
namespace Go.Proofs.Ytobachfngmpeiaa.PFnExactAble
open Go.RowKit Go.Proofs.YtobachfngmpeiaaW.PrintWords Go.Proofs.YtobachfngmpeiaaW.PrintLast Go.Proofs.YtobachfngmpeiaaW.PrintMore
attribute [local go_sem] max2_int min2_int max_two min_two max_three min_three max_four min_four
set_option linter.unusedVariables false
set_option linter.unusedSimpArgs false
set_option maxHeartbeats 8000000 in
set_option maxRecDepth 100000 in
theorem spec_l4Copy.callsD (k : Nat) (A0_0 : Option Addr) (c0_0 : Nat) (l0_0 : List (S107)) (A0_1 : Option Addr) (c0_1 : Nat) (l0_1 : List (S94)) (A0_2 : Option Addr) (c0_2 : Nat) (l0_2 : List (S35)) (r1 : List (S107)) (r2 : List (S94)) (r3 : List (S35)) (w : World) (hr0_0 : Kd.C k107 w A0_0 l0_0.length l0_0) (hc0_0 : l0_0.length ≤ c0_0) (hr0_1 : Kd.C k94 w A0_1 l0_1.length l0_1) (hc0_1 : l0_1.length ≤ c0_1) (hr0_2 : Kd.C k35 w A0_2 l0_2.length l0_2) (hc0_2 : l0_2.length ≤ c0_2) (h : spec_l4Copy.f k l0_0 l0_1 l0_2 = some (r1,r2,r3)) :
  Calls Try.prog 150 #[.agg #[.slice A0_0 l0_0.length c0_0,.slice A0_1 l0_1.length c0_1,.slice A0_2 l0_2.length c0_2]] w fun e w' => ∃ (mT : Nat) (v0_ v1_ v2_ : Value),e = .returned (.agg #[v0_,v1_,v2_]) ∧ Kd.S k107 107 w' w.heap.size (fun k_ => k_ < mT) v0_ r1 ∧ Kd.S k94 94 w' w.heap.size (fun k_ => mT ≤ k_) v1_ r2 ∧ Kd.R k35 35 w' w.heap.size (fun _ => True) v2_ r3 ∧ Below w.heap.size w w' := by
 have hu28 := Try.underlying28
 have hu107 := Try.underlying107
 have hu94 := Try.underlying94
 have HR0_0 := aM_ hr0_0
 have HC0_0 := aM_ hc0_0
 clear hr0_0 hc0_0
 have HR0_1 := aM_ hr0_1
 have HC0_1 := aM_ hc0_1
 clear hr0_1 hc0_1
 have HR0_2 := aM_ hr0_2
 have HC0_2 := aM_ hc0_2
 clear hr0_2 hc0_2
 have HB := aM_ (Below.refl w.heap.size w)
 have H : ((some (([] : List (S35)) : List (S35))).bind fun y301 => (if y301.length + l0_2.length < 8796093022208 then (spec_l4Copy.l0 k 0 l0_0 l0_1 l0_2 ([] : List (S107)) (y301 ++ l0_2)) else (none))) = some (r1,r2,r3) := h
 clear h
 obtain ⟨y301,hy301⟩ : ∃ y_ : List (S35),y_ = (([] : List (S35))) := ⟨_,rfl⟩
 replace H : (if y301.length + l0_2.length < 8796093022208 then (spec_l4Copy.l0 k 0 l0_0 l0_1 l0_2 ([] : List (S107)) (y301 ++ l0_2)) else (none)) = some (r1,r2,r3) := by first | (rw [hy301];with_reducible exact H) | (have H2_ := (Option.bind_some _ _).symm.trans H;rw [hy301];with_reducible exact H2_) | (have H2_ := (Option.bind_some _ _).symm.trans H;with_reducible exact H2_) | with_reducible exact H | (rw [hy301];exact H) | exact H
 have Ny301 := aM_ hy301
 clear hy301
 by_cases c2 : y301.length + l0_2.length < 8796093022208
 ·rw [if_pos c2] at H
  have LMc2 := aM_ c2
  clear c2
  obtain ⟨y304,hy304⟩ : ∃ y_ : List (S35),y_ = (y301 ++ l0_2) := ⟨_,rfl⟩
  replace H : (spec_l4Copy.l0 k 0 l0_0 l0_1 l0_2 ([] : List (S107)) y304) = some (r1,r2,r3) := by first | (rw [hy304];with_reducible exact H) | (have H2_ := (Option.bind_some _ _).symm.trans H;rw [hy304];with_reducible exact H2_) | (have H2_ := (Option.bind_some _ _).symm.trans H;with_reducible exact H2_) | with_reducible exact H | (rw [hy304];exact H) | exact H
  have Ny304 := aM_ hy304
  clear hy304
  have H' := aM_ H
  clear H
  go_enter Try.func150,Try.ntmps150
  go_wp2_with (first | (refine bX_ 1 (cs := #[.slice A0_0 l0_0.length c0_0,.slice A0_1 l0_1.length c0_1,.slice A0_2 l0_2.length c0_2]) (t := 28) ?_;intro gb299 hg w3 hbox hb;have BK299 := aM_ (hbox);have GE299 := aM_ (sZ_ hg HB.out);replace HB := aM_ (sT_ HB.out hb);clear hb hbox hg) | (refine bX_ 2 (cs := #[.slice none 0 0,.slice none 0 0,.slice none 0 0]) (t := 28) ?_;intro gb300 hg w4 hbox hb;have BK300 := aM_ (hbox);have GE300 := aM_ (sZ_ hg HB.out);have NB299_300 := aM_ (nL_ hg BK299.out);have NB300_299 := aM_ (nG_ hg BK299.out);replace BK299 := aM_ (nB_ BK299.out hb);replace HB := aM_ (sT_ HB.out hb);clear hb hbox hg) | ((with_reducible refine gate_dst (N := 7) rfl ?_);refine Kd.R_lit k35 _ 35 ?hg (N := 7) ?hd (xs := ([] : List (S35))) (inner := []) (ok := fun _ => True) (okp := fun _ => True) ?hr ?hp (fun _ hk => hk) trivial (Below.refl _ _) (Nat.le_refl _) (by simp) ?_;(case hd => rfl);(case hg => rfl);(case hr => first | (go_simp;done) | (go_simp;rfl));(case hp => exact (Reps.none _ _));intro v302 w5 ho6 hb hg_ hnew_;clear hg_ hnew_;(first | rw [← Ny301.out] at ho6 | (simp only [Int.reduceToNat] at ho6;rw [← Ny301.out] at ho6));have HO303 := aM_ (Kd.R_lower ho6 (below_size (gB_ HB.out)));replace BK299 := aM_ (nB_ BK299.out hb);replace BK300 := aM_ (nB_ BK300.out hb);replace HB := aM_ (sT_ HB.out hb);clear hb ho6;have hnb7 := nn_ NB299_300 NB300_299;have z_8 := bR3_ BK299.out) | ((with_reducible refine gate_builtin (b := .append) (xs := #[.tmp 7,.tmp 9]) rfl ?_);at_builtin;refine Kd.R_append_rows k35 (w0 := w) w.heap.size rfl (.tmp 7) (.tmp 9) 26 35 (.agg #[(.int .i64 0),(.int .i64 0)]) 16 rfl Try.underlying26 info35 rfl (by decide) (by omega) v302 y301 l0_2 _ _ _ (fun _ => True) (fun _ => False) rfl rfl ?aO ?aR (fun _ _ h => h) (fun _ h => h.elim) ?aF ?aB ?aS ?aL ?_;(case aR => repeat (first | exact (Kd.C_below HR0_2.out HB.out) | (with_reducible refine Kd.C_alloc ?_ _) | (with_reducible refine Kd.C_drewN ?_ _) | (with_reducible refine Kd.C_drew ?_)));(case aB => exact (gB_ HB.out));(case aF => exact (fun _ _ => trivial));(case aO => exact (by (with_reducible repeat (first | apply rA_ | apply rN_ | apply rD_));exact HO303.out));(case aS => exact (below_size (gB_ HB.out)));(case aL => have := LMc2.out;omega);intro v305 w9 ho hb hg hat;rw [← Ny304.out] at ho;have HO306 := aM_ (ho);replace BK299 := aM_ (blk_grown (g := gb299) (o := .cells #[.slice A0_0 l0_0.length c0_0,.slice A0_1 l0_1.length c0_1,.slice A0_2 l0_2.length c0_2] 28 (0,0)) (by (with_reducible repeat (first | refine bN_ ?_ _ | refine bD_ ?_ | refine bA_ ?_ _));exact BK299.out) hg (Kd.R_ne HO303.out BK299.out (by decide)));replace BK300 := aM_ (blk_grown (g := gb300) (o := .cells #[.slice none 0 0,.slice none 0 0,.slice none 0 0] 28 (0,0)) (by (with_reducible repeat (first | refine bN_ ?_ _ | refine bD_ ?_ | refine bA_ ?_ _));exact BK300.out) hg (Kd.R_ne HO303.out BK300.out (by decide)));replace HB := aM_ (hb);clear HO303;clear ho hb hg hat;obtain ⟨Ao10,co10,eo10⟩ := Kd.R_slice HO306.out;subst eo10) | (refine bX_ 3 (cs := #[.slice none 0 0,.slice none 0 0,.slice none 0 0]) (t := 28) ?_;intro gb307 hg w11 hbox hb;have BK307 := aM_ (hbox);have GE307 := aM_ (sZ_ hg HB.out);have NB299_307 := aM_ (nL_ hg BK299.out);have NB307_299 := aM_ (nG_ hg BK299.out);have NB300_307 := aM_ (nL_ hg BK300.out);have NB307_300 := aM_ (nG_ hg BK300.out);replace HO306 := aM_ (bR_ HO306.out hb);replace BK299 := aM_ (nB_ BK299.out hb);replace BK300 := aM_ (nB_ BK300.out hb);replace HB := aM_ (sT_ HB.out hb);clear hb hbox hg;have hnb12 := nn_ NB307_299 NB299_307;have hnb13 := nn_ NB307_300 NB300_307;have z_14 := bR3_ BK307.out))
  go_loopg [4] k (fun kq v4 w' => ∃ (x4_1 : Int) (x3080_1 : List (S107)) (u3080 : Value),v4 = .int .i64 x4_1 ∧ Aside0 (spec_l4Copy.l0 kq x4_1 l0_0 l0_1 l0_2 x3080_1 y304 = some (r1,r2,r3)) ∧ Aside0 (kq ≤ k) ∧ Aside0 (Kd.S k107 107 w' w.heap.size (fun _ => True) u3080 x3080_1) ∧ Aside0 (Kd.R k35 35 w' w.heap.size (fun _ => True) (.slice Ao10 y304.length co10) y304) ∧ Aside0 (w'.heap[gb299]? = some (.cells #[(.slice A0_0 l0_0.length c0_0),(.slice A0_1 l0_1.length c0_1),(.slice A0_2 l0_2.length c0_2)] 28 (0,0))) ∧ Aside0 (w'.heap[gb300]? = some (.cells #[(.slice none 0 0),(.slice none 0 0),(.slice none 0 0)] 28 (0,0))) ∧ Aside0 (w'.heap[gb307]? = some (.cells #[u3080,(.slice none 0 0),(.slice Ao10 y304.length co10)] 28 (0,0))) ∧ Aside0 (Below w.heap.size w w'))
  case atStart => exact ⟨(0),(([] : List (S107))),(.slice none 0 0),(by first | rfl | (simp;done) | (simp [*];done)),H',⟨Nat.le_refl _⟩,⟨by first | exact Kd.S_nil _ _ _ _ _ | exact Kd.N_nil _ _ _ _ _ | exact Kd.V_nil _ _ _ _ _ | exact Kd.Q_nil _ _ _ _ _ | exact Kd.R_nil _ _ _ _ _⟩,⟨by (with_reducible repeat (first | apply rA_ | apply rN_ | apply rD_));exact Kd.R_mono (RF3_ gb307 (Kd.R_types HO306.out BK307.out (by decide)) (fun _ hk => hk.2) (.slice none 0 0) (.slice none 0 0) (.slice Ao10 y304.length co10)) (fun _ hk => trivial)⟩,⟨rWf_ BK299.out⟩,⟨rWf_ BK300.out⟩,⟨by (with_reducible repeat (first | refine bN_ ?_ _ | refine bD_ ?_ | refine bA_ ?_ _));refine blk_put (cs := #[.slice none 0 0,.slice none 0 0,.slice none 0 0]) ?_ 2 _ rfl;refine blk_put (cs := #[.slice none 0 0,.slice none 0 0,.slice none 0 0]) ?_ 1 _ rfl;refine blk_put (cs := #[.slice none 0 0,.slice none 0 0,.slice none 0 0]) ?_ 0 _ rfl;(with_reducible repeat (first | refine bN_ ?_ _ | refine bD_ ?_ | refine bA_ ?_ _));exact BK307.out⟩,⟨gW_ HB.out⟩⟩
  case round =>
   clear H'
   (try clear c1);(try clear c2);(try clear p2);(try clear c7);(try clear c12);(try clear c13);(try clear z_14);(try clear z_8)
   obtain ⟨x4_1,x3080_1,u3080,rfl,HA,HK1,HO_308000,HO_308002,BK299,BK300,BK307,HB⟩ := hrel
   cases gk with
   | zero => exact absurd HA.out (by simp [spec_l4Copy.l0])
   | succ k1 =>
    have H := HA.out
    clear HA
    simp only [spec_l4Copy.l0] at H
    by_cases c15 : x4_1 < (l0_0.length : Int)
    ·rw [if_pos c15] at H
     have c15b0 : decide (x4_1 < (l0_0.length : Int)) = true := decide_eq_true c15
     clear c15
     by_cases c16 : 0 ≤ x4_1
     ·rw [if_pos c16] at H
      have c16b0 : decide (0 ≤ x4_1) = true := decide_eq_true c16
      clear c16
      obtain ⟨y310,hy310⟩ : ∃ y_ : List Int,y_ = (([] : List Int)) := ⟨_,rfl⟩
      replace H : (if y310.length + ((rd_T107 l0_0 x4_1).f1).length < 17592186044416 then (if x3080_1.length < 3518437208883 then (spec_l4Copy.l0 k1 (wrap64 (x4_1 + 1)) l0_0 l0_1 l0_2 (x3080_1 ++ [(⟨(rd_T107 l0_0 x4_1).f0,(y310 ++ ((rd_T107 l0_0 x4_1).f1)),(rd_T107 l0_0 x4_1).f2⟩ : S107)]) y304) else (none)) else (none)) = some (r1,r2,r3) := by first | (rw [hy310];with_reducible exact H) | (have H2_ := (Option.bind_some _ _).symm.trans H;rw [hy310];with_reducible exact H2_) | (have H2_ := (Option.bind_some _ _).symm.trans H;with_reducible exact H2_) | with_reducible exact H | (rw [hy310];exact H) | exact H
      have Ny310 := aM_ hy310
      clear hy310
      by_cases c17 : y310.length + ((rd_T107 l0_0 x4_1).f1).length < 17592186044416
      ·rw [if_pos c17] at H
       have LMc17 := aM_ c17
       clear c17
       obtain ⟨y313,hy313⟩ : ∃ y_ : List Int,y_ = (y310 ++ ((rd_T107 l0_0 x4_1).f1)) := ⟨_,rfl⟩
       replace H : (if x3080_1.length < 3518437208883 then (spec_l4Copy.l0 k1 (wrap64 (x4_1 + 1)) l0_0 l0_1 l0_2 (x3080_1 ++ [(⟨(rd_T107 l0_0 x4_1).f0,y313,(rd_T107 l0_0 x4_1).f2⟩ : S107)]) y304) else (none)) = some (r1,r2,r3) := by first | (rw [hy313];with_reducible exact H) | (have H2_ := (Option.bind_some _ _).symm.trans H;rw [hy313];with_reducible exact H2_) | (have H2_ := (Option.bind_some _ _).symm.trans H;with_reducible exact H2_) | with_reducible exact H | (rw [hy313];exact H) | exact H
       have Ny313 := aM_ hy313
       clear hy313
       by_cases c18 : x3080_1.length < 3518437208883
       ·rw [if_pos c18] at H
        have LMc18 := aM_ c18
        clear c18
        obtain ⟨y316,hy316⟩ : ∃ y_ : List (S107),y_ = (x3080_1 ++ [(⟨(rd_T107 l0_0 x4_1).f0,y313,(rd_T107 l0_0 x4_1).f2⟩ : S107)]) := ⟨_,rfl⟩
        replace H : (spec_l4Copy.l0 k1 (wrap64 (x4_1 + 1)) l0_0 l0_1 l0_2 y316 y304) = some (r1,r2,r3) := by first | (rw [hy316];with_reducible exact H) | (have H2_ := (Option.bind_some _ _).symm.trans H;rw [hy316];with_reducible exact H2_) | (have H2_ := (Option.bind_some _ _).symm.trans H;with_reducible exact H2_) | with_reducible exact H | (rw [hy316];exact H) | exact H
        have Ny316 := aM_ hy316
        clear hy316
        have H' := aM_ H
        clear H
        have hnb19 := NB299_300.out
        have hnc19 := NB300_299.out
        have hnb20 := NB299_307.out
        have hnc20 := NB307_299.out
        have z_21 := bR3_ BK299.out
        have p308 : 0 ≤ (x4_1 : Int) := pD_
        have q308 : x4_1 < (l0_0.length : Int) := pD_
        obtain ⟨ad308,A308_1,c308_1,e308,hx308_0,hx308_1,hx308_2,hl308_1,hi308_1⟩ := at_T107 HR0_0.out x4_1 p308 q308
        cases e308
        replace hx308_0 := cB_ HB.out hx308_0
        replace hx308_1 := cB_ HB.out hx308_1
        replace hx308_2 := cB_ HB.out hx308_2
        have HR308_1 := aM_ hi308_1
        have HC308_1 := aM_ hl308_1
        clear hi308_1 hl308_1
        replace p308 := eq_true p308
        replace q308 := eq_true q308
        go_wp2_with (first | (refine bX_ 5 (cs := #[.int .i64 0,.slice none 0 0,.int .i64 0]) (t := 107) ?_;intro gb309 hg w22 hbox hb;have BK309 := aM_ (hbox);have GE309 := aM_ (sZ_ hg HB.out);have NB299_309 := aM_ (nL_ hg BK299.out);have NB309_299 := aM_ (nG_ hg BK299.out);have NB300_309 := aM_ (nL_ hg BK300.out);have NB309_300 := aM_ (nG_ hg BK300.out);have NB307_309 := aM_ (nL_ hg BK307.out);have NB309_307 := aM_ (nG_ hg BK307.out);replace HO_308000 := aM_ (Kd.S_below (Kd.S_elderB (by (with_reducible repeat (first | apply Kd.S_alloc | apply Kd.S_drewN | apply Kd.S_drew));exact HO_308000.out) gb309 (Nat.le_of_eq hg.symm)) hb);replace HO_308002 := aM_ (bR_ HO_308002.out hb);replace BK299 := aM_ (nB_ BK299.out hb);replace BK300 := aM_ (nB_ BK300.out hb);replace BK307 := aM_ (nB_ BK307.out hb);replace HB := aM_ (sT_ HB.out hb);clear hb hbox hg;have hnb23 := nn_ NB309_299 NB299_309;have hnb24 := nn_ NB309_300 NB300_309;have hnb25 := nn_ NB309_307 NB307_309;have z_26 := bR3_ BK309.out) | ((with_reducible refine gate_dst (N := 24) rfl ?_);refine Kd.R_lit (Kd.int .i64) _ 3 ?hg (N := 24) ?hd (xs := ([] : List Int)) (inner := []) (ok := fun _ => True) (okp := fun _ => True) ?hr ?hp (fun _ hk => hk) trivial (Below.refl _ _) (Nat.le_refl _) (by simp) ?_;(case hd => rfl);(case hg => rfl);(case hr => first | (go_simp;done) | (go_simp;rfl));(case hp => exact (Reps.none _ _));intro v311 w27 ho28 hb hg_ hnew_;clear hg_ hnew_;(first | rw [← Ny310.out] at ho28 | (simp only [Int.reduceToNat] at ho28;rw [← Ny310.out] at ho28));have HO312 := aM_ (Kd.R_lower ho28 (below_size (gB_ HB.out)));replace HO_308000 := aM_ (Kd.S_elder' (by (with_reducible repeat (first | apply Kd.S_alloc | apply Kd.S_drewN | apply Kd.S_drew));exact (Kd.S_mono (SF3_ gb309 (Kd.S_mono HO_308000.out (fun k_ hk => (⟨hk,hk.2⟩ : _ ∧ k_ ≠ gb309))) (fun _ hk => hk.2) (.int .i64 ((rd_T107 l0_0 x4_1).f0)) (.slice A308_1 ((rd_T107 l0_0 x4_1).f1).length c308_1) (.int .i64 ((rd_T107 l0_0 x4_1).f2))) (fun _ h_ => h_.1))) (Kd.R_base ho28) hb);replace HO_308002 := aM_ (Kd.R_below (by (with_reducible repeat (first | apply rA_ | apply rN_ | apply rD_));exact (Kd.R_mono (RF3_ gb309 (Kd.R_types HO_308002.out BK309.out (by decide)) (fun _ hk => hk.2) (.int .i64 ((rd_T107 l0_0 x4_1).f0)) (.slice A308_1 ((rd_T107 l0_0 x4_1).f1).length c308_1) (.int .i64 ((rd_T107 l0_0 x4_1).f2))) (fun _ h_ => h_.1))) hb);replace BK299 := aM_ (nBf_ BK299.out hb);replace BK300 := aM_ (nBf_ BK300.out hb);replace BK307 := aM_ (nBf_ BK307.out hb);replace BK309 := aM_ (blk_below (g := gb309) (o := .cells #[.int .i64 ((rd_T107 l0_0 x4_1).f0),.slice A308_1 ((rd_T107 l0_0 x4_1).f1).length c308_1,.int .i64 ((rd_T107 l0_0 x4_1).f2)] 107 (0,0)) (by (with_reducible repeat (first | refine bN_ ?_ _ | refine bD_ ?_ | refine bA_ ?_ _));refine blk_put (cs := #[.int .i64 ((rd_T107 l0_0 x4_1).f0),.slice A308_1 ((rd_T107 l0_0 x4_1).f1).length c308_1,.int .i64 0]) ?_ 2 _ rfl;refine blk_put (cs := #[.int .i64 ((rd_T107 l0_0 x4_1).f0),.slice none 0 0,.int .i64 0]) ?_ 1 _ rfl;refine blk_put (cs := #[.int .i64 0,.slice none 0 0,.int .i64 0]) ?_ 0 _ rfl;exact rW_ BK309.out) hb);replace HB := aM_ (sT_ HB.out hb);clear hb ho28;have z_29 := bR3_ BK309.out) | ((with_reducible refine gate_builtin (b := .append) (xs := #[.tmp 24,.tmp 26]) rfl ?_);at_builtin;refine Kd.R_append_rows (Kd.int .i64) (w0 := w) w.heap.size rfl (.tmp 24) (.tmp 26) 31 3 (.int .i64 0) 8 rfl Try.underlying31 info3 rfl (by decide) (by omega) v311 y310 ((rd_T107 l0_0 x4_1).f1) _ _ _ (fun _ => True) (fun _ => False) rfl rfl ?aO ?aR (fun _ _ h => h) (fun _ h => h.elim) ?aF ?aB ?aS ?aL ?_;(case aR => repeat (first | exact (Kd.C_below HR308_1.out HB.out) | (with_reducible refine Kd.C_alloc ?_ _) | (with_reducible refine Kd.C_drewN ?_ _) | (with_reducible refine Kd.C_drew ?_)));(case aB => exact (gB_ HB.out));(case aF => exact (fun _ _ => trivial));(case aO => exact (by (with_reducible repeat (first | apply rA_ | apply rN_ | apply rD_));exact HO312.out));(case aS => exact (below_size (gB_ HB.out)));(case aL => have := LMc17.out;omega);intro v314 w30 ho hb hg hat;rw [← Ny313.out] at ho;have HO315 := aM_ (ho);replace HO_308000 := aM_ (Kd.S_after (ok := (fun k_ => k_ ≠ gb309)) (by (with_reducible repeat (first | apply Kd.S_alloc | apply Kd.S_drewN | apply Kd.S_drew));exact Kd.S_mono HO_308000.out (fun _ hk => ⟨hk.1.2,hk.2⟩)) hg hat);replace HO_308002 := aM_ (Kd.R_over' (by (with_reducible repeat (first | apply rA_ | apply rN_ | apply rD_));exact HO_308002.out) (Kd.R_typed (by (with_reducible repeat (first | apply rA_ | apply rN_ | apply rD_));exact HO312.out)) (by decide) hg);replace BK299 := aM_ (blk_grown (g := gb299) (o := .cells #[.slice (some ad308) l0_0.length c0_0,.slice A0_1 l0_1.length c0_1,.slice A0_2 l0_2.length c0_2] 28 (0,0)) (by (with_reducible repeat (first | refine bN_ ?_ _ | refine bD_ ?_ | refine bA_ ?_ _));exact BK299.out) hg (Kd.R_ne HO312.out BK299.out (by decide)));replace BK300 := aM_ (blk_grown (g := gb300) (o := .cells #[.slice none 0 0,.slice none 0 0,.slice none 0 0] 28 (0,0)) (by (with_reducible repeat (first | refine bN_ ?_ _ | refine bD_ ?_ | refine bA_ ?_ _));exact BK300.out) hg (Kd.R_ne HO312.out BK300.out (by decide)));replace BK307 := aM_ (blk_grown (g := gb307) (o := .cells #[u3080,.slice none 0 0,.slice Ao10 y304.length co10] 28 (0,0)) (by (with_reducible repeat (first | refine bN_ ?_ _ | refine bD_ ?_ | refine bA_ ?_ _));exact BK307.out) hg (Kd.R_ne HO312.out BK307.out (by decide)));replace BK309 := aM_ (blk_grown (g := gb309) (o := .cells #[.int .i64 ((rd_T107 l0_0 x4_1).f0),.slice A308_1 ((rd_T107 l0_0 x4_1).f1).length c308_1,.int .i64 ((rd_T107 l0_0 x4_1).f2)] 107 (0,0)) (by (with_reducible repeat (first | refine bN_ ?_ _ | refine bD_ ?_ | refine bA_ ?_ _));exact BK309.out) hg (Kd.R_ne HO312.out BK309.out (by decide)));replace HB := aM_ (hb);clear HO312;clear ho hb hg hat;obtain ⟨Ao31,co31,eo31⟩ := Kd.R_slice HO315.out;subst eo31;have z_32 := bR3_ BK309.out) | ((with_reducible refine gate_store (t := 31) (p := 28) rfl ?_);refine store_event (t := 31) (p := 28) (v := ?vo_w33) (w1 := (w30.setCell ⟨gb309,1,none⟩ (.slice Ao31 y313.length co31))) ?hg ?ho ?hn ?hr ?_;(case ho => rfl);(case hg => rfl);(case hn => rfl);(case hr => first | (go_simp;done) | (go_simp;rfl));intro w33 hw;have n0 : Aside0 (Kd.S k107 107 w33 w.heap.size (fun k_ => some k_ ≠ (.slice Ao31 y313.length co31 : Value).ownBlock ∧ k_ ≠ gb309) u3080 x3080_1) := ⟨(by rw [hw];exact (by (with_reducible repeat (first | apply Kd.S_alloc | apply Kd.S_drewN | apply Kd.S_drew));exact Kd.S_mono (Kd.S_far (p := ⟨gb309,1,none⟩) (Kd.S_mono HO_308000.out (fun k_ hk => (⟨hk,hk.1⟩ : _ ∧ k_ ≠ gb309))) (fun _ hk => hk.2) (.slice Ao31 y313.length co31)) (fun _ hk => ⟨hk.1.2,hk.1.1⟩)))⟩;have n1 : Aside0 (Kd.R k35 35 w33 w.heap.size (fun _ => True) (.slice Ao10 y304.length co10) y304) := ⟨(by rw [hw];exact (by (with_reducible repeat (first | apply rA_ | apply rN_ | apply rD_));exact Kd.R_mono (Kd.R_far (p := ⟨gb309,1,none⟩) (Kd.R_types HO_308002.out BK309.out (by decide)) (fun _ hk => hk.2) (.slice Ao31 y313.length co31)) (fun _ hk => trivial)))⟩;have n2 : Aside0 (Kd.R (Kd.int .i64) 3 w33 w.heap.size (fun _ => True) (.slice Ao31 y313.length co31) y313) := ⟨(by rw [hw];exact (by (with_reducible repeat (first | apply rA_ | apply rN_ | apply rD_));exact Kd.R_mono (Kd.R_far (p := ⟨gb309,1,none⟩) (Kd.R_types HO315.out BK309.out (by decide)) (fun _ hk => hk.2) (.slice Ao31 y313.length co31)) (fun _ hk => trivial)))⟩;have n3 : Aside0 (w33.heap[gb299]? = some (.cells #[.slice (some ad308) l0_0.length c0_0,.slice A0_1 l0_1.length c0_1,.slice A0_2 l0_2.length c0_2] 28 (0,0))) := ⟨(by rw [hw];exact (rWf_ BK299.out))⟩;have n4 : Aside0 (w33.heap[gb300]? = some (.cells #[.slice none 0 0,.slice none 0 0,.slice none 0 0] 28 (0,0))) := ⟨(by rw [hw];exact (rWf_ BK300.out))⟩;have n5 : Aside0 (w33.heap[gb307]? = some (.cells #[u3080,.slice none 0 0,.slice Ao10 y304.length co10] 28 (0,0))) := ⟨(by rw [hw];exact (rWf_ BK307.out))⟩;have n6 : Aside0 (w33.heap[gb309]? = some (.cells #[.int .i64 ((rd_T107 l0_0 x4_1).f0),.slice Ao31 y313.length co31,.int .i64 ((rd_T107 l0_0 x4_1).f2)] 107 (0,0))) := ⟨(by rw [hw];exact (by (with_reducible repeat (first | refine bN_ ?_ _ | refine bD_ ?_ | refine bA_ ?_ _));refine blk_put (cs := #[.int .i64 ((rd_T107 l0_0 x4_1).f0),.slice A308_1 ((rd_T107 l0_0 x4_1).f1).length c308_1,.int .i64 ((rd_T107 l0_0 x4_1).f2)]) ?_ 1 _ rfl;exact rW_ BK309.out))⟩;have n7 : Aside0 (Below w.heap.size w w33) := ⟨(by rw [hw];exact (gB_ HB.out))⟩;clear hw;clear HO_308000;clear HO_308002;clear HO315;clear BK299;clear BK300;clear BK307;clear BK309;clear HB;have HO_308000 := n0;have HO_308002 := n1;have HO315 := n2;have BK299 := n3;have BK300 := n4;have BK307 := n5;have BK309 := n6;have HB := n7;clear n0 n1 n2 n3 n4 n5 n6 n7;have hnb34 := nn_ NB307_300 NB300_307;have z_35 := bR3_ BK307.out;have z_36 := bR3_ BK309.out) | ((with_reducible refine gate_builtin (b := .append) (xs := #[.tmp 30,.tmp 32]) rfl ?_);at_builtin;refine Kd.S_append k107 (w0 := w) w.heap.size rfl (.tmp 30) (.tmp 32) 24 107 (.agg #[(.int .i64 0),(.slice none 0 0),(.int .i64 0)]) 40 rfl Try.underlying24 info107 rfl (by decide) (by omega) u3080 x3080_1 (⟨(rd_T107 l0_0 x4_1).f0,y313,(rd_T107 l0_0 x4_1).f2⟩ : S107) [.int .i64 ((rd_T107 l0_0 x4_1).f0),.slice Ao31 y313.length co31,.int .i64 ((rd_T107 l0_0 x4_1).f2)] (fun k_ => k_ ≠ gb309) (fun k_ => some k_ = (.slice Ao31 y313.length co31 : Value).ownBlock) rfl rfl ?aP (fun k_ hk_ => ((Kd.R_mono (ok' := fun k_ => ((fun k_ => k_ ≠ gb309)) k_ ∧ some k_ ≠ (u3080 : Value).ownBlock) (Kd.R_types (Kd.R_apart' (HO315.out) (Kd.S_typed HO_308000.out) (by decide)) BK309.out (by decide)) (fun k_ hk => ⟨hk.2,hk.1.2⟩))).1 k_ hk_.symm) ?aF ?aO ?aB ?aS ?aL ?_;(case aP => exact k107_mkM _ _ _ (⟨(rd_T107 l0_0 x4_1).f0,y313,(rd_T107 l0_0 x4_1).f2⟩ : S107) (Kd.R_mono (Kd.R_tight rfl (Kd.R_mono (ok' := fun k_ => ((fun k_ => k_ ≠ gb309)) k_ ∧ some k_ ≠ (u3080 : Value).ownBlock) (Kd.R_types (Kd.R_apart' (HO315.out) (Kd.S_typed HO_308000.out) (by decide)) BK309.out (by decide)) (fun k_ hk => ⟨hk.2,hk.1.2⟩))) (fun _ h_ => h_)));(case aB => exact (gB_ HB.out));(case aF => exact (fun k_ hk => Kd.freshB (g := gb309) (o := .cells #[.int .i64 ((rd_T107 l0_0 x4_1).f0),.slice Ao31 y313.length co31,.int .i64 ((rd_T107 l0_0 x4_1).f2)] 107 (0,0)) (by (with_reducible repeat (first | refine bN_ ?_ _ | refine bD_ ?_ | refine bA_ ?_ _));exact BK309.out) k_ hk));(case aO => exact (by (with_reducible repeat (first | apply Kd.S_alloc | apply Kd.S_drewN | apply Kd.S_drew));exact Kd.S_mono HO_308000.out (fun k_ hk => ⟨hk.2,fun e_ => hk.1 e_⟩)));(case aS => exact (below_size (gB_ HB.out)));(case aL => have := LMc18.out;omega);intro v317 w37 ho hb hg hat;rw [← Ny316.out] at ho;have HO318 := aM_ (ho);replace HO_308002 := aM_ (Kd.R_over' (by (with_reducible repeat (first | apply rA_ | apply rN_ | apply rD_));exact HO_308002.out) (Kd.S_typed (by (with_reducible repeat (first | apply Kd.S_alloc | apply Kd.S_drewN | apply Kd.S_drew));exact HO_308000.out)) (by decide) hg);replace BK299 := aM_ (blk_grown (g := gb299) (o := .cells #[.slice (some ad308) l0_0.length c0_0,.slice A0_1 l0_1.length c0_1,.slice A0_2 l0_2.length c0_2] 28 (0,0)) (by (with_reducible repeat (first | refine bN_ ?_ _ | refine bD_ ?_ | refine bA_ ?_ _));exact BK299.out) hg (Kd.S_ne HO_308000.out BK299.out (by decide)));replace BK300 := aM_ (blk_grown (g := gb300) (o := .cells #[.slice none 0 0,.slice none 0 0,.slice none 0 0] 28 (0,0)) (by (with_reducible repeat (first | refine bN_ ?_ _ | refine bD_ ?_ | refine bA_ ?_ _));exact BK300.out) hg (Kd.S_ne HO_308000.out BK300.out (by decide)));replace BK307 := aM_ (blk_grown (g := gb307) (o := .cells #[u3080,.slice none 0 0,.slice Ao10 y304.length co10] 28 (0,0)) (by (with_reducible repeat (first | refine bN_ ?_ _ | refine bD_ ?_ | refine bA_ ?_ _));exact BK307.out) hg (Kd.S_ne HO_308000.out BK307.out (by decide)));replace BK309 := aM_ (blk_grown (g := gb309) (o := .cells #[.int .i64 ((rd_T107 l0_0 x4_1).f0),.slice Ao31 y313.length co31,.int .i64 ((rd_T107 l0_0 x4_1).f2)] 107 (0,0)) (by (with_reducible repeat (first | refine bN_ ?_ _ | refine bD_ ?_ | refine bA_ ?_ _));exact BK309.out) hg (Kd.S_away HO_308000.out (fun _ hk => hk.2)));replace HB := aM_ (hb);clear HO315 HO_308000;clear ho hb hg hat;obtain ⟨Ao38,co38,eo38⟩ := Kd.S_slice HO318.out;subst eo38;have z_39 := bR3_ BK307.out))
        go_roundg k1
        case measure => have := HK1.out;omega
        case rel => exact ⟨(wrap64 (x4_1 + 1)),(y316),(.slice Ao38 y316.length co38),(by first | rfl | (simp;done) | (simp [*];done)),H',⟨by have := HK1.out;omega⟩,⟨by (with_reducible repeat (first | apply Kd.S_alloc | apply Kd.S_drewN | apply Kd.S_drew));exact Kd.S_mono (Kd.S_far (p := ⟨gb307,0,none⟩) (Kd.S_types HO318.out BK307.out (by decide)) (fun _ hk => hk.2) (.slice Ao38 y316.length co38)) (fun _ hk => trivial)⟩,⟨by (with_reducible repeat (first | apply rA_ | apply rN_ | apply rD_));exact Kd.R_mono (Kd.R_far (p := ⟨gb307,0,none⟩) (Kd.R_types HO_308002.out BK307.out (by decide)) (fun _ hk => hk.2) (.slice Ao38 y316.length co38)) (fun _ hk => trivial)⟩,⟨rWf_ BK299.out⟩,⟨rWf_ BK300.out⟩,⟨by (with_reducible repeat (first | refine bN_ ?_ _ | refine bD_ ?_ | refine bA_ ?_ _));refine blk_put (cs := #[u3080,.slice none 0 0,.slice Ao10 y304.length co10]) ?_ 0 _ rfl;(with_reducible repeat (first | refine bN_ ?_ _ | refine bD_ ?_ | refine bA_ ?_ _));exact BK307.out⟩,⟨gW_ HB.out⟩⟩
       ·rw [if_neg c18] at H
        exact absurd H (by simp)
      ·rw [if_neg c17] at H
       exact absurd H (by simp)
     ·rw [if_neg c16] at H
      exact absurd H (by simp)
    ·rw [if_neg c15] at H
     have c15b0 : decide (x4_1 < (l0_0.length : Int)) = false := decide_eq_false c15
     clear c15
     have H' := aM_ H
     clear H
     have hnb40 := NB299_300.out
     have hnc40 := NB300_299.out
     have hnb41 := NB299_307.out
     have hnc41 := NB307_299.out
     have z_42 := bR3_ BK299.out
     obtain ⟨mT,hmT⟩ : ∃ m_ : Nat,m_ = wr.heap.size := ⟨_,rfl⟩
     have HO_T := aM_ (Kd.S_mono (ok' := fun k_ => k_ < mT) (Kd.S_bound HO_308000.out) (fun k hk => by rw [hmT];exact hk.2.2.1))
     clear HO_308000
     have HO_308000 := HO_T
     clear HO_T
     have HMT : Aside0 (mT ≤ wr.heap.size) := ⟨Nat.le_of_eq hmT⟩
     clear hmT
     go_wp2
     go_loopg [6] k1 (fun kq v6 w' => ∃ (x6_2 : Int) (x3081_2 : List (S94)) (u3081 : Value),v6 = .int .i64 x6_2 ∧ Aside0 (spec_l4Copy.l1 kq x6_2 l0_0 l0_1 l0_2 x3080_1 x3081_2 y304 = some (r1,r2,r3)) ∧ Aside0 (kq ≤ k1) ∧ Aside0 (Kd.S k107 107 w' w.heap.size (fun k_ => k_ < mT) u3080 x3080_1) ∧ Aside0 (Kd.S k94 94 w' w.heap.size (fun k_ => mT ≤ k_) u3081 x3081_2) ∧ Aside0 (Kd.R k35 35 w' w.heap.size (fun _ => True) (.slice Ao10 y304.length co10) y304) ∧ Aside0 (w'.heap[gb299]? = some (.cells #[(.slice A0_0 l0_0.length c0_0),(.slice A0_1 l0_1.length c0_1),(.slice A0_2 l0_2.length c0_2)] 28 (0,0))) ∧ Aside0 (w'.heap[gb300]? = some (.cells #[(.slice none 0 0),(.slice none 0 0),(.slice none 0 0)] 28 (0,0))) ∧ Aside0 (w'.heap[gb307]? = some (.cells #[u3080,u3081,(.slice Ao10 y304.length co10)] 28 (0,0))) ∧ Aside0 (Below w.heap.size w w') ∧ Aside0 (mT ≤ w'.heap.size))
     case atStart => exact ⟨(0),(([] : List (S94))),(.slice none 0 0),(by first | rfl | (simp;done) | (simp [*];done)),H',⟨Nat.le_refl _⟩,⟨by (with_reducible repeat (first | apply Kd.S_alloc | apply Kd.S_drewN | apply Kd.S_drew));exact HO_308000.out⟩,⟨by first | exact Kd.S_nil _ _ _ _ _ | exact Kd.N_nil _ _ _ _ _ | exact Kd.V_nil _ _ _ _ _ | exact Kd.Q_nil _ _ _ _ _ | exact Kd.R_nil _ _ _ _ _⟩,⟨by (with_reducible repeat (first | apply rA_ | apply rN_ | apply rD_));exact HO_308002.out⟩,⟨rW_ BK299.out⟩,⟨rW_ BK300.out⟩,⟨rW_ BK307.out⟩,⟨gW_ HB.out⟩,⟨HMT.out⟩⟩
     case round =>
      clear H'
      (try clear c1);(try clear c2);(try clear p2);(try clear c3);(try clear p3);(try clear q3);(try clear hx3);(try clear c4);(try clear p6);(try clear c7);(try clear c12);(try clear c13);(try clear c15);(try clear c15b0);(try clear c16);(try clear c16b0);(try clear c17);(try clear c18);(try clear c19);(try clear c20);(try clear c23);(try clear c24);(try clear c25);(try clear c30);(try clear p30);(try clear q30);(try clear hx30);(try clear c34);(try clear c40);(try clear c41);(try clear z_14);(try clear z_21);(try clear z_26);(try clear z_29);(try clear z_32);(try clear z_35);(try clear z_36);(try clear z_39);(try clear z_42);(try clear z_8);(try clear hx308_0);(try clear hx308_1);(try clear hx308_2);(try clear p2);(try clear p308);(try clear q308)
      obtain ⟨x6_2,x3081_2,u3081,rfl,HA,HK2,HO_308000,HO_308001,HO_308002,BK299,BK300,BK307,HB,HMT⟩ := hrel
      cases gk with
      | zero => exact absurd HA.out (by simp [spec_l4Copy.l1])
      | succ k2 =>
       have H := HA.out
       clear HA
       simp only [spec_l4Copy.l1] at H
       by_cases c43 : x6_2 < (l0_1.length : Int)
       ·rw [if_pos c43] at H
        have c43b0 : decide (x6_2 < (l0_1.length : Int)) = true := decide_eq_true c43
        clear c43
        by_cases c44 : 0 ≤ x6_2
        ·rw [if_pos c44] at H
         have c44b0 : decide (0 ≤ x6_2) = true := decide_eq_true c44
         clear c44
         replace H := Option.bind_eq_some_iff.mp H
         obtain ⟨⟨t320,t321,t324⟩,A450,H⟩ := H
         replace H : (if x3081_2.length < 3518437208883 then (spec_l4Copy.l1 k2 (wrap64 (x6_2 + 1)) l0_0 l0_1 l0_2 x3080_1 (x3081_2 ++ [(⟨t320,t321,t324⟩ : S94)]) y304) else (none)) = some (r1,r2,r3) := H
         have A45 := aM_ A450
         clear A450
         by_cases c46 : x3081_2.length < 3518437208883
         ·rw [if_pos c46] at H
          have LMc46 := aM_ c46
          clear c46
          obtain ⟨y325,hy325⟩ : ∃ y_ : List (S94),y_ = (x3081_2 ++ [(⟨t320,t321,t324⟩ : S94)]) := ⟨_,rfl⟩
          replace H : (spec_l4Copy.l1 k2 (wrap64 (x6_2 + 1)) l0_0 l0_1 l0_2 x3080_1 y325 y304) = some (r1,r2,r3) := by first | (rw [hy325];with_reducible exact H) | (have H2_ := (Option.bind_some _ _).symm.trans H;rw [hy325];with_reducible exact H2_) | (have H2_ := (Option.bind_some _ _).symm.trans H;with_reducible exact H2_) | with_reducible exact H | (rw [hy325];exact H) | exact H
          have Ny325 := aM_ hy325
          clear hy325
          have H' := aM_ H
          clear H
          have hnb47 := NB299_300.out
          have hnc47 := NB300_299.out
          have hnb48 := NB299_307.out
          have hnc48 := NB307_299.out
          have z_49 := bR3_ BK299.out
          try go_wp2
          replace HO_308000 := aM_ (Kd.S_drew HO_308000.out)
          replace HO_308001 := aM_ (Kd.S_drew HO_308001.out)
          replace HO_308002 := aM_ (Kd.R_drew HO_308002.out)
          replace BK299 := aM_ (blk_drew BK299.out)
          replace BK300 := aM_ (blk_drew BK300.out)
          replace BK307 := aM_ (blk_drew BK307.out)
          replace HB := aM_ (below_drew1 HB.out)
          have p319 : 0 ≤ (x6_2 : Int) := pD_
          have q319 : x6_2 < (l0_1.length : Int) := pD_
          obtain ⟨ad319,A319_1,c319_1,e319,hx319_0,hx319_1,hx319_2,hl319_1,hi319_1⟩ := at_T94 HR0_1.out x6_2 p319 q319
          have hw319_2 := hx319_2
          have hw319_1 := hx319_1
          have hw319_0 := hx319_0
          cases e319
          replace hx319_0 := cB_ HB.out hx319_0
          replace hx319_1 := cB_ HB.out hx319_1
          replace hx319_2 := cB_ HB.out hx319_2
          have HR319_1 := aM_ hi319_1
          have HC319_1 := aM_ hl319_1
          clear hi319_1 hl319_1
          replace p319 := eq_true p319
          replace q319 := eq_true q319
          refine sTa_ 12 (fun w' => K_ w' gb307 0 (u3080) ∧ K_ w' gb307 1 (u3081) ∧ K_ w' gb307 2 (.slice Ao10 y304.length co10) ∧ K_ w' gb299 0 (.slice A0_0 l0_0.length c0_0) ∧ K_ w' gb299 1 (.slice (some ad319) l0_1.length c0_1) ∧ K_ w' gb299 2 (.slice A0_2 l0_2.length c0_2) ∧ w'.cell? (ad319.add ((x6_2).toNat * 3)) = some (.int .i64 ((rd_T94 l0_1 x6_2).f0)) ∧ w'.cell? ⟨(ad319.add ((x6_2).toNat * 3)).block,(ad319.add ((x6_2).toNat * 3)).off + 1,none⟩ = some (.slice A319_1 ((rd_T94 l0_1 x6_2).f1).length c319_1) ∧ w'.cell? ⟨(ad319.add ((x6_2).toNat * 3)).block,(ad319.add ((x6_2).toNat * 3)).off + 2,none⟩ = some (.bool ((rd_T94 l0_1 x6_2).f2))) [11] ⟨(blk_cell BK307.out 0).trans rfl,(blk_cell BK307.out 1).trans rfl,(blk_cell BK307.out 2).trans rfl,(blk_cell BK299.out 0).trans rfl,(blk_cell BK299.out 1).trans rfl,(blk_cell BK299.out 2).trans rfl,(cB_ HB.out hw319_0 :),(cB_ HB.out hw319_1 :),(cB_ HB.out hw319_2 :)⟩ (fun hHeld => ?_);refine with_tabW spec_l4Copy.tab11 spec_l4Copy.bits11 (fun HT_ HW_ => ?_)
          replace HMT : Aside0 (mT ≤ wr.drew.heap.size) := ⟨HMT.out⟩
          generalize wr.drew = w50 at HO_308000 HO_308001 HO_308002 BK299 BK300 BK307 HB HMT HR319_1 hx319_0 hx319_1 hx319_2 hHeld ⊢
          refine jU_ 0 42 12 1 ?_
          refine jU_ 2 44 12 5 ?_
          refine jU_ 4 46 12 21 ?_
          refine jK9_ 1 43 12 23 ?_
          refine jK9_ 3 45 12 31 ?_
          refine jU_ 5 47 12 63 ?_
          refine jK9_ 6 48 12 127 ?_
          refine jN_ 7 49 12 255 (fun K hK => ?_)
          refine gO_ Try.func171 #[.agg #[.int .i64 ((rd_T94 l0_1 x6_2).f0),.slice A319_1 ((rd_T94 l0_1 x6_2).f1).length c319_1,.bool ((rd_T94 l0_1 x6_2).f2)]] ?_
          with_reducible refine (spec_l3Copy.calls ((rd_T94 l0_1 x6_2).f0) _ _ ((rd_T94 l0_1 x6_2).f1) ((rd_T94 l0_1 x6_2).f2) t320 t321 t324 _ ?side1 ?side2 A45.out).mono ?_
          (case side1 => exact cS_ (Kd.C_below HR319_1.out HB.out))
          (case side2 => exact HC319_1.out)
          rintro e w51 ⟨v322,rfl,ho0,hb⟩
          refine ⟨_,rfl,?_⟩
          have n0 := aM_ (Kd.S_elder' (by (with_reducible repeat (first | apply Kd.S_alloc | apply Kd.S_drewN | apply Kd.S_drew));exact HO_308000.out) (Kd.R_base ho0) hb)
          have n1 := aM_ (Kd.S_elder' (by (with_reducible repeat (first | apply Kd.S_alloc | apply Kd.S_drewN | apply Kd.S_drew));exact HO_308001.out) (Kd.R_base ho0) hb)
          have n2 := aM_ (bR_ HO_308002.out hb)
          have n3 := aM_ (Kd.R_lower (Kd.R_mono (ok' := fun k_ => mT ≤ k_) (Kd.R_bound ho0) (fun k hk => Nat.le_trans HMT.out hk.2.1)) (below_size (gB_ HB.out)))
          have n4 := aM_ (nB_ BK299.out hb)
          have n5 := aM_ (nB_ BK300.out hb)
          have n6 := aM_ (nB_ BK307.out hb)
          have n7 := aM_ (sT_ HB.out hb)
          replace HMT := aM_ (Nat.le_trans HMT.out hb.size)
          clear HO_308000
          clear HO_308001
          clear HO_308002
          clear BK299
          clear BK300
          clear BK307
          clear HB
          have HO_308000 := n0
          have HO_308001 := n1
          have HO_308002 := n2
          have HO323 := n3
          have BK299 := n4
          have BK300 := n5
          have BK307 := n6
          have HB := n7
          clear n0 n1 n2 n3 n4 n5 n6 n7
          (try clear hb)
          (try clear hb2)
          (try clear hk)
          (try clear hi)
          (try clear ho0)
          obtain ⟨Ao53,co53,eo53⟩ := Kd.R_slice HO323.out
          (first | subst eo53 | (injection eo53 with f1_ f2_ f3_;have f4_ := f1_.symm;have f5_ := f3_.symm;clear f1_ f2_ f3_;subst f4_;subst f5_))
          refine kO_ hK (some 49) ⟨(blk_cell BK307.out 0).trans rfl,(blk_cell BK307.out 1).trans rfl,(blk_cell BK307.out 2).trans rfl,(blk_cell BK299.out 0).trans rfl,(blk_cell BK299.out 1).trans rfl,(blk_cell BK299.out 2).trans rfl,(cB_ HB.out hw319_0 :),(cB_ HB.out hw319_1 :),(cB_ HB.out hw319_2 :)⟩ (fun hHeld => ?_)
          clear hK K
          refine jN_ 8 50 12 511 (fun K hK => ?_)
          refine value_ (w1 := ?_) (v := ?_) (by rfl) rfl ?_ ?_
          rotate_left 2
          ·go_simp
           constructor
           ·rfl
           ·rfl
          refine kO_ hK (some 50) ⟨(blk_cell (blk_alloc BK307.out _) 0).trans rfl,(blk_cell (blk_alloc BK307.out _) 1).trans rfl,(blk_cell (blk_alloc BK307.out _) 2).trans rfl,(blk_cell (blk_alloc BK299.out _) 0).trans rfl,(blk_cell (blk_alloc BK299.out _) 1).trans rfl,(blk_cell (blk_alloc BK299.out _) 2).trans rfl,(World.cell?_alloc_lt _ _ _ (World.block_lt_of_cell? _ _ ((cB_ HB.out hw319_0 :)))).trans ((cB_ HB.out hw319_0 :)),(World.cell?_alloc_lt _ _ _ (World.block_lt_of_cell? _ _ ((cB_ HB.out hw319_1 :)))).trans ((cB_ HB.out hw319_1 :)),(World.cell?_alloc_lt _ _ _ (World.block_lt_of_cell? _ _ ((cB_ HB.out hw319_2 :)))).trans ((cB_ HB.out hw319_2 :))⟩ (fun hHeld => ?_)
          clear hK K
          refine jN_ 9 51 12 1023 (fun K hK => ?_)
          refine Kd.S_append_step k94 (w0 := w) w.heap.size (by rfl) (.tmp 43) (.tmp 50) 25 94 (.agg #[(.int .i64 0),(.slice none 0 0),(.bool false)]) 40 rfl Try.underlying25 info94 rfl (by decide) (by omega) u3081 x3081_2 (⟨t320,t321,t324⟩ : S94) [.int .i64 t320,.slice Ao53 t321.length co53,.bool t324] (fun k_ => mT ≤ k_) (fun k_ => some k_ = (.slice Ao53 t321.length co53 : Value).ownBlock) rfl rfl ?aP (fun k_ hk_ => ((Kd.R_mono (ok' := fun k_ => ((fun k_ => mT ≤ k_)) k_ ∧ some k_ ≠ (u3081 : Value).ownBlock) (Kd.R_apart' (HO323.out) (Kd.S_typed HO_308001.out) (by decide)) (fun k_ hk => ⟨hk.1,hk.2⟩))).1 k_ hk_.symm) ?aF ?aO ?aB ?aS ?aL ?_
          (case aP => exact k94_mkM _ _ _ (⟨t320,t321,t324⟩ : S94) (Kd.R_mono (Kd.R_tight rfl (Kd.R_mono (ok' := fun k_ => ((fun k_ => mT ≤ k_)) k_ ∧ some k_ ≠ (u3081 : Value).ownBlock) (Kd.R_apart' (HO323.out) (Kd.S_typed HO_308001.out) (by decide)) (fun k_ hk => ⟨hk.1,hk.2⟩))) (fun _ h_ => h_)))
          (case aB => exact (gB_ HB.out))
          (case aF => exact (fun _ hk => Nat.le_trans HMT.out hk))
          (case aO => exact (by (with_reducible repeat (first | apply Kd.S_alloc | apply Kd.S_drewN | apply Kd.S_drew));exact Kd.S_mono HO_308001.out (fun k_ hk => ⟨hk.1,fun e_ => hk.2 e_⟩)))
          (case aS => exact (below_size (gB_ HB.out)))
          (case aL => have := LMc46.out;omega)
          intro v326 w52 ho hb hg hat
          replace HMT := aM_ (Nat.le_trans HMT.out hg.size)
          rw [← Ny325.out] at ho
          have HO327 := aM_ (ho)
          replace HO_308000 := aM_ (Kd.S_over' (by (with_reducible repeat (first | apply Kd.S_alloc | apply Kd.S_drewN | apply Kd.S_drew));exact HO_308000.out) (Kd.S_typed (by (with_reducible repeat (first | apply Kd.S_alloc | apply Kd.S_drewN | apply Kd.S_drew));exact HO_308001.out)) (by decide) hg)
          replace HO_308002 := aM_ (Kd.R_over' (by (with_reducible repeat (first | apply rA_ | apply rN_ | apply rD_));exact HO_308002.out) (Kd.S_typed (by (with_reducible repeat (first | apply Kd.S_alloc | apply Kd.S_drewN | apply Kd.S_drew));exact HO_308001.out)) (by decide) hg)
          replace BK299 := aM_ (blk_grown (g := gb299) (o := .cells #[.slice A0_0 l0_0.length c0_0,.slice (some ad319) l0_1.length c0_1,.slice A0_2 l0_2.length c0_2] 28 (0,0)) (by (with_reducible repeat (first | refine bN_ ?_ _ | refine bD_ ?_ | refine bA_ ?_ _));exact BK299.out) hg (Kd.S_ne HO_308001.out BK299.out (by decide)))
          replace BK300 := aM_ (blk_grown (g := gb300) (o := .cells #[.slice none 0 0,.slice none 0 0,.slice none 0 0] 28 (0,0)) (by (with_reducible repeat (first | refine bN_ ?_ _ | refine bD_ ?_ | refine bA_ ?_ _));exact BK300.out) hg (Kd.S_ne HO_308001.out BK300.out (by decide)))
          replace BK307 := aM_ (blk_grown (g := gb307) (o := .cells #[u3080,u3081,.slice Ao10 y304.length co10] 28 (0,0)) (by (with_reducible repeat (first | refine bN_ ?_ _ | refine bD_ ?_ | refine bA_ ?_ _));exact BK307.out) hg (Kd.S_ne HO_308001.out BK307.out (by decide)))
          replace HB := aM_ (hb)
          clear HO323 HO_308001
          clear ho hb hg hat
          obtain ⟨Ao54,co54,eo54⟩ := Kd.S_slice HO327.out
          (first | subst eo54 | (injection eo54 with f1_ f2_ f3_;have f4_ := f1_.symm;have f5_ := f3_.symm;clear f1_ f2_ f3_;subst f4_;subst f5_))
          refine kO_ hK (some 51) ⟨(blk_cell BK307.out 0).trans rfl,(blk_cell BK307.out 1).trans rfl,(blk_cell BK307.out 2).trans rfl,(blk_cell BK299.out 0).trans rfl,(blk_cell BK299.out 1).trans rfl,(blk_cell BK299.out 2).trans rfl,(cB_ HB.out hw319_0 :),(cB_ HB.out hw319_1 :),(cB_ HB.out hw319_2 :)⟩ (fun hHeld => ?_)
          clear hK K
          refine jU_ 10 52 12 2047 ?_
          refine last_ (i := 11) (N := none) (mk_ 12 4095) rfl rfl (one_of HT_.out (by kernel_rfl)) (by decide) (fun K hK => ?_)
          have hs55 : w52.cell? ⟨gb307,1,none⟩ = some (u3081) := (blk_cell BK307.out 1).trans rfl
          have hfs55 := blk_frozen BK307.out 1
          have hns55_0 := NB299_307.out
          have hns55_1 := NB300_307.out
          have hms55_0 := NB307_299.out
          have hms55_1 := NB307_300.out
          refine skip_ (w1 := ?_) (by rfl) rfl ?_ ?_
          rotate_left
          ·go_simp
           rfl
          refine hK.out _ _ ?_
          clear hK K
          refine done_ (done_of HT_.out (by kernel_rfl)) ?_
          try go_wp2
          go_roundg k2
          case measure => have := HK1.out;have := HK2.out;omega
          case rel => exact ⟨(wrap64 (x6_2 + 1)),(y325),(.slice Ao54 y325.length co54),(by first | rfl | (simp;done) | (simp [*];done)),H',⟨by have := HK1.out;have := HK2.out;omega⟩,⟨by (with_reducible repeat (first | apply Kd.S_alloc | apply Kd.S_drewN | apply Kd.S_drew));exact Kd.S_mono (Kd.S_far (p := ⟨gb307,1,none⟩) (Kd.S_types HO_308000.out BK307.out (by decide)) (fun _ hk => hk.2) (.slice Ao54 y325.length co54)) (fun _ hk => by first | exact hk | exact hk.1 | exact hk.1.1 | exact hk.1.1.1 | exact hk.1.1.1.1)⟩,⟨by (with_reducible repeat (first | apply Kd.S_alloc | apply Kd.S_drewN | apply Kd.S_drew));exact Kd.S_mono (Kd.S_far (p := ⟨gb307,1,none⟩) (Kd.S_types HO327.out BK307.out (by decide)) (fun _ hk => hk.2) (.slice Ao54 y325.length co54)) (fun _ hk => by first | exact hk | exact hk.1 | exact hk.1.1 | exact hk.1.1.1 | exact hk.1.1.1.1)⟩,⟨by (with_reducible repeat (first | apply rA_ | apply rN_ | apply rD_));exact Kd.R_mono (Kd.R_far (p := ⟨gb307,1,none⟩) (Kd.R_types HO_308002.out BK307.out (by decide)) (fun _ hk => hk.2) (.slice Ao54 y325.length co54)) (fun _ hk => trivial)⟩,⟨rWf_ BK299.out⟩,⟨rWf_ BK300.out⟩,⟨by (with_reducible repeat (first | refine bN_ ?_ _ | refine bD_ ?_ | refine bA_ ?_ _));refine blk_put (cs := #[u3080,u3081,.slice Ao10 y304.length co10]) ?_ 1 _ rfl;(with_reducible repeat (first | refine bN_ ?_ _ | refine bD_ ?_ | refine bA_ ?_ _));exact BK307.out⟩,⟨gW_ HB.out⟩,⟨by simpa [World.setCell] using HMT.out⟩⟩
         ·rw [if_neg c46] at H
          exact absurd H (by simp)
        ·rw [if_neg c44] at H
         exact absurd H (by simp)
       ·rw [if_neg c43] at H
        have c43b0 : decide (x6_2 < (l0_1.length : Int)) = false := decide_eq_false c43
        clear c43
        simp only [Option.some.injEq,Prod.mk.injEq] at H
        obtain ⟨rfl,rfl,rfl⟩ := H
        have hnb56 := NB299_300.out
        have hnc56 := NB300_299.out
        have hnb57 := NB299_307.out
        have hnc57 := NB307_299.out
        have z_58 := bR3_ BK299.out
        have hnb59 := NB307_300.out
        have hnc59 := NB300_307.out
        have z_60 := bR3_ BK307.out
        obtain ⟨Ao61,co61,eo61⟩ := Kd.S_slice HO_308000.out
        subst eo61
        have z_62 := bR3_ BK300.out
        obtain ⟨Ao63,co63,eo63⟩ := Kd.S_slice HO_308001.out
        subst eo63
        go_wp2
        refine bodyPost_ret (results_cell_row rfl _ _ gb300 28 #[.slice Ao61 x3080_1.length co61,.slice Ao63 x3081_2.length co63,.slice Ao10 y304.length co10] (0,0) _ rfl (by (with_reducible repeat (first | refine bN_ ?_ _ | refine bD_ ?_ | refine bA_ ?_ _));refine blk_put (cs := #[.slice Ao61 x3080_1.length co61,.slice Ao63 x3081_2.length co63,.slice none 0 0]) ?_ 2 _ rfl;refine blk_put (cs := #[.slice Ao61 x3080_1.length co61,.slice none 0 0,.slice none 0 0]) ?_ 1 _ rfl;refine blk_put (cs := #[.slice none 0 0,.slice none 0 0,.slice none 0 0]) ?_ 0 _ rfl;exact rW_ BK300.out) Try.underlying28 rfl (by kernel_rfl)) rfl ?_
        exact ⟨mT,_,_,_,fR_,by (with_reducible repeat (first | apply Kd.S_alloc | apply Kd.S_drewN | apply Kd.S_drew));exact Kd.S_mono (SF3_ gb300 (Kd.S_types HO_308000.out BK300.out (by decide)) (fun _ hk => hk.2) (.slice Ao61 x3080_1.length co61) (.slice Ao63 x3081_2.length co63) (.slice Ao10 y304.length co10)) (fun _ hk => by first | exact hk | exact hk.1 | exact hk.1.1 | exact hk.1.1.1 | exact hk.1.1.1.1),by (with_reducible repeat (first | apply Kd.S_alloc | apply Kd.S_drewN | apply Kd.S_drew));exact Kd.S_mono (SF3_ gb300 (Kd.S_types HO_308001.out BK300.out (by decide)) (fun _ hk => hk.2) (.slice Ao61 x3080_1.length co61) (.slice Ao63 x3081_2.length co63) (.slice Ao10 y304.length co10)) (fun _ hk => by first | exact hk | exact hk.1 | exact hk.1.1 | exact hk.1.1.1 | exact hk.1.1.1.1),by (with_reducible repeat (first | apply rA_ | apply rN_ | apply rD_));exact Kd.R_mono (RF3_ gb300 (Kd.R_types HO_308002.out BK300.out (by decide)) (fun _ hk => hk.2) (.slice Ao61 x3080_1.length co61) (.slice Ao63 x3081_2.length co63) (.slice Ao10 y304.length co10)) (fun _ hk => trivial),gB_ HB.out⟩
 ·rw [if_neg c2] at H
  exact absurd H (by simp)
def spec_SourceStep.f (k : Nat) (l0_0 : List Int) (l0_1 : List (List S192)) (l1_0 : List S107) (l1_1 : List S94) (l1_2 : List S35) (a2 : Int) : Option (List S107 × List S94 × List S35 × Int) :=
  (spec_SourceOk.f k l0_0 l0_1 l1_0 l1_1 l1_2).bind fun t => if t = true then ((spec_l1In.f a2 0 (wrap64 ((l1_0.length : Int) - 1))).bind fun u => if u = true then (if 0 ≤ a2 then (if a2 < (l1_0.length : Int) then (if (rd_T107 l1_0 a2).f2 = 0 then ((spec_l4Copy.f k l1_0 l1_1 l1_2).bind fun c => (spec_l4Step.f k l0_1 c.1 c.2.1 c.2.2 a2).bind fun z => if z.2.2.2 = 0 then some (z.1,z.2.1,z.2.2.1,0) else (spec_l4Copy.f k l1_0 l1_1 l1_2).bind fun d => some (d.1,d.2.1,d.2.2,z.2.2.2)) else (spec_l4Copy.f k l1_0 l1_1 l1_2).bind fun d => some (d.1,d.2.1,d.2.2,3)) else none) else none) else (spec_l4Copy.f k l1_0 l1_1 l1_2).bind fun d => some (d.1,d.2.1,d.2.2,2)) else some ([],[],[],1)
end Go.Proofs.Ytobachfngmpeiaa.PFnExactAble
