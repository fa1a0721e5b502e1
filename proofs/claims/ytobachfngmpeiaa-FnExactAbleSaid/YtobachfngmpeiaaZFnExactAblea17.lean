/- Part of the proof of FnExactAble. -/
import Derived.Test.YtobachfngmpeiaaZFnExactAblea16
import Derived.Test.YtobachfngmpeiaaZFnExactAbles
namespace Go.Proofs.Ytobachfngmpeiaa.PFnExactAble
open Go.RowKit Go.Proofs.YtobachfngmpeiaaW.PrintWords Go.Proofs.YtobachfngmpeiaaW.PrintLast Go.Proofs.YtobachfngmpeiaaW.PrintMore
attribute [local go_sem] max2_int min2_int max_two min_two max_three min_three max_four min_four
set_option linter.unusedVariables false
set_option linter.unusedSimpArgs false
set_option maxHeartbeats 8000000 in
set_option maxRecDepth 100000 in
theorem spec_SourceStep.callsD (k : Nat) (A0_0 : Option Addr) (c0_0 : Nat) (l0_0 : List Int) (A0_1 : Option Addr) (c0_1 : Nat) (l0_1 : List (List (S192))) (A1_0 : Option Addr) (c1_0 : Nat) (l1_0 : List (S107)) (A1_1 : Option Addr) (c1_1 : Nat) (l1_1 : List (S94)) (A1_2 : Option Addr) (c1_2 : Nat) (l1_2 : List (S35)) (a2 : Int) (r1 : List (S107)) (r2 : List (S94)) (r3 : List (S35)) (r4 : Int) (w : World) (hr0_0 : Kd.C (Kd.int .i64) w A0_0 l0_0.length l0_0) (hc0_0 : l0_0.length ≤ c0_0) (hr0_1 : Kd.C (Kd.slice 192 k192) w A0_1 l0_1.length l0_1) (hc0_1 : l0_1.length ≤ c0_1) (hr1_0 : Kd.C k107 w A1_0 l1_0.length l1_0) (hc1_0 : l1_0.length ≤ c1_0) (hr1_1 : Kd.C k94 w A1_1 l1_1.length l1_1) (hc1_1 : l1_1.length ≤ c1_1) (hr1_2 : Kd.C k35 w A1_2 l1_2.length l1_2) (hc1_2 : l1_2.length ≤ c1_2) (h : spec_SourceStep.f k l0_0 l0_1 l1_0 l1_1 l1_2 a2 = some (r1,r2,r3,r4)) :
  Calls Try.prog 99 #[.agg #[.slice A0_0 l0_0.length c0_0,.slice A0_1 l0_1.length c0_1],.agg #[.slice A1_0 l1_0.length c1_0,.slice A1_1 l1_1.length c1_1,.slice A1_2 l1_2.length c1_2],.int .i64 a2] w fun e w' => ∃ n1 PT PC PN vT vC vN,e = .returned (.tuple #[.agg #[vT,vC,vN],.int .i64 r4]) ∧ Mine w w.heap.size n1 (fun _ => False) PT PC PN w' vT vC vN r1 r2 r3 := by
 unfold spec_SourceStep.f at h
 replace h := Option.bind_eq_some_iff.mp h
 obtain ⟨t,hok,h⟩ := h
 try dsimp only at h
 have hu44 := Try.underlying44
 have hu28 := Try.underlying28
 have hu107 := Try.underlying107
 have ST := aM_ (Own.start (Mine.nothing w))
 have HR0_0 := aM_ hr0_0
 have HC0_0 := aM_ hc0_0
 have HR0_1 := aM_ hr0_1
 have HC0_1 := aM_ hc0_1
 have HR1_0 := aM_ hr1_0
 have HC1_0 := aM_ hc1_0
 have HR1_1 := aM_ hr1_1
 have HC1_1 := aM_ hc1_1
 have HR1_2 := aM_ hr1_2
 have HC1_2 := aM_ hc1_2
 have HOK := aM_ hok
 have HH := aM_ h
 clear hr0_0 hc0_0 hr0_1 hc0_1 hr1_0 hc1_0 hr1_1 hc1_1 hr1_2 hc1_2 hok h
 go_enter Try.func99,Try.ntmps99
 go_wp2_with (first | (refine bX_ 3 (cs := #[.slice A0_0 l0_0.length c0_0,.slice A0_1 l0_1.length c0_1]) (t := 44) ?_;intro gb1 hg w1 hbox hb;replace ST := aM_ (ST.out.box hg hbox hb);clear hg hbox hb;replace zc1 := ce2_ ST 0) | (refine bX_ 4 (cs := #[.slice A1_0 l1_0.length c1_0,.slice A1_1 l1_1.length c1_1,.slice A1_2 l1_2.length c1_2]) (t := 28) ?_;intro gb2 hg w2 hbox hb;replace ST := aM_ (ST.out.box hg hbox hb);clear hg hbox hb;replace zc1 := ce2_ ST 1;replace zc2 := ce3_ ST 0) | (refine bX_ 6 (cs := #[.slice none 0 0,.slice none 0 0,.slice none 0 0]) (t := 28) ?_;intro gb3 hg w3 hbox hb;replace ST := aM_ (ST.out.box hg hbox hb);clear hg hbox hb;replace zc1 := ce2_ ST 2;replace zc2 := ce3_ ST 1;replace zc3 := ce3_ ST 0) | (refine gL_ (some 12) Try.func94 #[.agg #[.slice A0_0 l0_0.length c0_0,.slice A0_1 l0_1.length c0_1],.agg #[.slice A1_0 l1_0.length c1_0,.slice A1_1 l1_1.length c1_1,.slice A1_2 l1_2.length c1_2]] ?_;(with_reducible refine (spec_SourceOk.calls k _ _ l0_0 _ _ l0_1 _ _ l1_0 _ _ l1_1 _ _ l1_2 t _ ?s41_1 HC0_0.out ?s41_3 HC0_1.out ?s41_5 HC1_0.out ?s41_7 HC1_1.out ?s41_9 HC1_2.out HOK.out).mono ?_);(case s41_1 => exact Kd.C_below HR0_0.out ST.out.M.B);(case s41_3 => exact Kd.C_below HR0_1.out ST.out.M.B);(case s41_5 => exact Kd.C_below HR1_0.out ST.out.M.B);(case s41_7 => exact Kd.C_below HR1_1.out ST.out.M.B);(case s41_9 => exact Kd.C_below HR1_2.out ST.out.M.B);rintro e w4 ⟨rfl,hb⟩;refine ⟨_,rfl,?_⟩;replace ST := aM_ (ST.out.below hb);(try clear hb);replace zc1 := ce2_ ST 2;replace zc2 := ce3_ ST 1;replace zc3 := ce3_ ST 0;refine hide_ (fun G hG => ?_)))
 have h := HH.out
 clear HH
 cases t
 ·rw [if_neg (by decide)] at h
  obtain ⟨rfl,rfl,rfl,rfl⟩ := inj4 h
  clear h
  refine hG.out ?_
  clear hG G
  go_wp2
  replace ST := aM_ (ST.out.put3 0 rfl (.slice none 0 0) (.slice none 0 0) (.slice none 0 0))
  refine bodyPost_ret (results_ct rfl _ _ gb3 28 _ (0,0) _ rfl (ST.out.bk 0 rfl) Try.underlying28 rfl (by kernel_rfl)) rfl ?_
  first | exact ⟨_,_,_,_,_,_,_,rfl,ST.out.M⟩ | exact ⟨_,_,_,by first | rfl | (simp <;> rfl),_,_,_,_,ST.out.M⟩ | exact ⟨_,_,_,_,_,_,_,by first | rfl | (simp <;> rfl),ST.out.M⟩
 rw [if_pos rfl] at h
 replace h := Option.bind_eq_some_iff.mp h
 obtain ⟨u,hin,h⟩ := h
 try dsimp only at h
 have HIN := aM_ hin
 clear hin
 have HH := aM_ h
 clear h
 refine hG.out ?_
 clear hG G
 go_wp2_with (first | (refine gL_ (some 20) Try.func111 #[.int .i64 a2,.int .i64 0,.int .i64 (wrap64 ((l1_0.length : Int) - 1))] ?_;(with_reducible refine (spec_l1In.calls a2 0 (wrap64 ((l1_0.length : Int) - 1)) u _ HIN.out).mono ?_);rintro e w5 ⟨rfl,hd_⟩;refine ⟨_,rfl,?_⟩;have hb := Drawn0.below hd_;replace ST := aM_ (ST.out.below hb);clear hb hd_;replace zc1 := ce2_ ST 2;replace zc2 := ce3_ ST 1;replace zc3 := ce3_ ST 0;refine hide_ (fun G hG => ?_)))
 have h := HH.out
 clear HH
 cases u
 ·rw [if_neg (by decide)] at h
  replace h := Option.bind_eq_some_iff.mp h
  obtain ⟨⟨c1,c2,c3⟩,hcp,h⟩ := h
  try dsimp only at h
  obtain ⟨rfl,rfl,rfl,rfl⟩ := inj4 h
  clear h
  have HCP := aM_ hcp
  clear hcp
  refine hG.out ?_
  clear hG G
  go_wp2_with (first | (refine gL_ (some 23) Try.func150 #[.agg #[.slice A1_0 l1_0.length c1_0,.slice A1_1 l1_1.length c1_1,.slice A1_2 l1_2.length c1_2]] ?_;(with_reducible refine (spec_l4Copy.callsD k _ _ l1_0 _ _ l1_1 _ _ l1_2 c1 c2 c3 _ ?s43_1 HC1_0.out ?s43_3 HC1_1.out ?s43_5 HC1_2.out HCP.out).mono ?_);(case s43_1 => exact Kd.C_below HR1_0.out ST.out.M.B);(case s43_3 => exact Kd.C_below HR1_1.out ST.out.M.B);(case s43_5 => exact Kd.C_below HR1_2.out ST.out.M.B);rintro e w6 ⟨mT,v0,v1,v2,rfl,ho0,ho1,ho2,hb⟩;refine ⟨_,rfl,?_⟩;obtain ⟨Ao0,co0,eo⟩ := Kd.S_slice ho0;subst eo;obtain ⟨Ao1,co1,eo⟩ := Kd.S_slice ho1;subst eo;obtain ⟨Ao2,co2,eo⟩ := Kd.R_slice ho2;subst eo;replace ST := aM_ (ST.out.copied hb ho0 ho1 ho2);clear ho0 ho1 ho2 hb;replace zc1 := ce2_ ST 2;replace zc2 := ce3_ ST 1;replace zc3 := ce3_ ST 0))
  replace ST := aM_ (ST.out.put3 0 rfl (.slice Ao0 c1.length co0) (.slice Ao1 c2.length co1) (.slice Ao2 c3.length co2))
  refine bodyPost_ret (results_ct rfl _ _ gb3 28 _ (0,0) _ rfl (ST.out.bk 0 rfl) Try.underlying28 rfl (by kernel_rfl)) rfl ?_
  first | exact ⟨_,_,_,_,_,_,_,rfl,ST.out.M⟩ | exact ⟨_,_,_,by first | rfl | (simp <;> rfl),_,_,_,_,ST.out.M⟩ | exact ⟨_,_,_,_,_,_,_,by first | rfl | (simp <;> rfl),ST.out.M⟩
 rw [if_pos rfl] at h
 by_cases h0 : 0 ≤ a2
 case neg => rw [if_neg h0] at h;cases h
 rw [if_pos h0] at h
 by_cases h1 : a2 < (l1_0.length : Int)
 case neg => rw [if_neg h1] at h;cases h
 rw [if_pos h1] at h
 obtain ⟨ad7,A7_1,c7_1,e7,hx7_0,hx7_1,hx7_2,-,-⟩ := at_T107 HR1_0.out a2 h0 h1
 cases e7
 replace ST := aM_ (ST.out.par ST.out.M.B (Nat.le_refl _) hx7_2)
 clear hx7_0 hx7_1 hx7_2
 have pHI0 := eq_true h0
 have pHI1 := eq_true h1
 clear h0 h1
 replace zc1 := ce2_ ST 2
 replace zc2 := ce3_ ST 1
 replace zc3 := ce3_ ST 0
 replace yS2 := ST.out.ck 0 rfl
 by_cases hs : (rd_T107 l1_0 a2).f2 = 0
 case neg =>
  rw [if_neg hs] at h
  have pHES0 : ((rd_T107 l1_0 a2).f2 == 0) = false := beq_eq_false_iff_ne.mpr hs
  have pHES1 : ((rd_T107 l1_0 a2).f2 != 0) = true := bne_iff_ne.mpr hs
  clear hs
  replace h := Option.bind_eq_some_iff.mp h
  obtain ⟨⟨c1,c2,c3⟩,hcp,h⟩ := h
  try dsimp only at h
  obtain ⟨rfl,rfl,rfl,rfl⟩ := inj4 h
  clear h
  have HCP := aM_ hcp
  clear hcp
  refine hG.out ?_
  clear hG G
  go_wp2_with (first | (refine gL_ (some 32) Try.func150 #[.agg #[.slice (some ad7) l1_0.length c1_0,.slice A1_1 l1_1.length c1_1,.slice A1_2 l1_2.length c1_2]] ?_;(with_reducible refine (spec_l4Copy.callsD k _ _ l1_0 _ _ l1_1 _ _ l1_2 c1 c2 c3 _ ?s44_1 HC1_0.out ?s44_3 HC1_1.out ?s44_5 HC1_2.out HCP.out).mono ?_);(case s44_1 => exact Kd.C_below HR1_0.out ST.out.M.B);(case s44_3 => exact Kd.C_below HR1_1.out ST.out.M.B);(case s44_5 => exact Kd.C_below HR1_2.out ST.out.M.B);rintro e w6 ⟨mT,v0,v1,v2,rfl,ho0,ho1,ho2,hb⟩;refine ⟨_,rfl,?_⟩;obtain ⟨Ao0,co0,eo⟩ := Kd.S_slice ho0;subst eo;obtain ⟨Ao1,co1,eo⟩ := Kd.S_slice ho1;subst eo;obtain ⟨Ao2,co2,eo⟩ := Kd.R_slice ho2;subst eo;replace ST := aM_ (ST.out.copied hb ho0 ho1 ho2);clear ho0 ho1 ho2 hb;replace zc1 := ce2_ ST 2;replace zc2 := ce3_ ST 1;replace zc3 := ce3_ ST 0;replace yS2 := ST.out.ck 0 rfl))
  replace ST := aM_ (ST.out.put3 0 rfl (.slice Ao0 c1.length co0) (.slice Ao1 c2.length co1) (.slice Ao2 c3.length co2))
  refine bodyPost_ret (results_ct rfl _ _ gb3 28 _ (0,0) _ rfl (ST.out.bk 0 rfl) Try.underlying28 rfl (by kernel_rfl)) rfl ?_
  first | exact ⟨_,_,_,_,_,_,_,rfl,ST.out.M⟩ | exact ⟨_,_,_,by first | rfl | (simp <;> rfl),_,_,_,_,ST.out.M⟩ | exact ⟨_,_,_,_,_,_,_,by first | rfl | (simp <;> rfl),ST.out.M⟩
 rw [if_pos hs] at h
 have pHES0 : ((rd_T107 l1_0 a2).f2 == 0) = true := beq_iff_eq.mpr hs
 have pHES1 : ((rd_T107 l1_0 a2).f2 != 0) = false := bne_eq_false_iff_eq.mpr hs
 clear hs
 replace h := Option.bind_eq_some_iff.mp h
 obtain ⟨⟨d1,d2,d3⟩,hcd,h⟩ := h
 try dsimp only at h
 replace h := Option.bind_eq_some_iff.mp h
 obtain ⟨⟨z1,z2,z3,z4⟩,hst,h⟩ := h
 try dsimp only at h
 have HCD := aM_ hcd
 clear hcd
 have HST := aM_ hst
 clear hst
 have HH := aM_ h
 clear h
 refine hG.out ?_
 clear hG G
 try go_wp2
 replace ST := aM_ ST.out.drew
 refine sTa_ 11 (fun w' => C2 w' gb1 (.slice A0_0 l0_0.length c0_0) (.slice A0_1 l0_1.length c0_1) ∧ C3 w' gb2 (.slice (some ad7) l1_0.length c1_0) (.slice A1_1 l1_1.length c1_1) (.slice A1_2 l1_2.length c1_2)) [9] ⟨cw2 (ST.out.bk 2 rfl),cw3 (ST.out.bk 1 rfl)⟩ (fun hHeld => ?_)
 generalize w5.drew = w6 at ST hHeld ⊢
 refine jU_ 3 37 11 8 ?_
 refine jK2_ 0 34 11 9 ?_
 refine jK2_ 1 35 11 11 ?_
 refine two_ (i := 2) (j := 8) (Ni := some 36) (Nj := some 8) (mk_ 11 15) (mk_ 11 267) rfl rfl rfl rfl (by kernel_rfl) (by decide) (by decide) (fun K hK => ?_) (fun K hK => ?_)
 ·refine gO_ Try.func150 #[.agg #[.slice (some ad7) l1_0.length c1_0,.slice A1_1 l1_1.length c1_1,.slice A1_2 l1_2.length c1_2]] ?_
  (with_reducible refine (spec_l4Copy.callsD k _ _ l1_0 _ _ l1_1 _ _ l1_2 d1 d2 d3 _ ?s45_1 ?s45_2 ?s45_3 ?s45_4 ?s45_5 ?s45_6 HCD.out).mono ?_)
  (case s45_1 => exact Kd.C_below HR1_0.out ST.out.M.B)
  (case s45_2 => exact HC1_0.out)
  (case s45_3 => exact Kd.C_below HR1_1.out ST.out.M.B)
  (case s45_4 => exact HC1_1.out)
  (case s45_5 => exact Kd.C_below HR1_2.out ST.out.M.B)
  (case s45_6 => exact HC1_2.out)
  rintro e w7 ⟨mTd,v0d,v1d,v2d,rfl,ho0,ho1,ho2,hb⟩
  refine ⟨_,rfl,?_⟩
  obtain ⟨Ao0d,co0d,eo⟩ := Kd.S_slice ho0
  subst eo
  obtain ⟨Ao1d,co1d,eo⟩ := Kd.S_slice ho1
  subst eo
  obtain ⟨Ao2d,co2d,eo⟩ := Kd.R_slice ho2
  subst eo
  replace ST := aM_ (ST.out.copied hb ho0 ho1 ho2)
  clear ho0 ho1 ho2 hb
  refine kO_ hK (some 36) ⟨cw2 (ST.out.bk 2 rfl),cw3 (ST.out.bk 1 rfl)⟩ (fun hHeld => ?_)
  clear hK K
  refine two_ (i := 4) (j := 8) (Ni := some 38) (Nj := some 8) (mk_ 11 31) (mk_ 11 271) rfl rfl rfl rfl (by kernel_rfl) (by decide) (by decide) (fun K hK => ?_) (fun K hK => ?_)
  ·refine gO_ Try.func151 #[.agg #[.slice A0_0 l0_0.length c0_0,.slice A0_1 l0_1.length c0_1],.agg #[.slice Ao0d d1.length co0d,.slice Ao1d d2.length co1d,.slice Ao2d d3.length co2d],.int .i64 a2] ?_
   (with_reducible refine (spec_l4Step.calls (wp := w) k _ _ l0_0 _ _ l0_1 _ _ _ d1 _ _ _ d2 _ _ _ d3 a2 z1 z2 z3 z4 _ ?s46_1 ?s46_2 ST.out.M.enter HST.out).mono ?_)
   (case s46_1 => exact HR0_1.out)
   (case s46_2 => exact ST.out.M.B)
   rintro e w8 ⟨n1,PC1,PN1,vN1,rfl,hMg⟩
   refine ⟨_,rfl,?_⟩
   replace ST := aM_ (ST.out.leave hMg)
   clear hMg
   obtain ⟨An1,cn1,en1⟩ := Kd.R_slice ST.out.M.N
   subst en1
   refine kO_ hK (some 38) ⟨cw2 (ST.out.bk 2 rfl),cw3 (ST.out.bk 1 rfl)⟩ (fun hHeld => ?_)
   clear hK K
   refine jU_ 5 33 11 63 ?_
   refine jU_ 6 39 11 127 ?_
   refine jU_ 7 40 11 255 ?_
   refine jN_ 8 8 11 511 (fun K hK => ?_)
   refine box_step ?hg (N := 8) ?hd (cs := #[.slice none 0 0,.slice none 0 0,.slice none 0 0]) (t := 28) ?hr ?_;(case hd => rfl);(case hg => rfl);(case hr => first | (go_simp;done) | (go_simp;rfl))
   intro gb9 hg w9 hbox hb
   replace ST := aM_ (ST.out.box hg hbox hb)
   clear hg hbox hb
   refine kO_ hK (some 8) ⟨cw2 (ST.out.bk 3 rfl),cw3 (ST.out.bk 2 rfl)⟩ (fun hHeld => ?_)
   clear hK K
   refine last_ (i := 9) (N := none) (mk_ 11 1023) rfl rfl (by kernel_rfl) (by decide) (fun K hK => ?_)
   have zs := cel3 (ST.out.bk 0 rfl)
   refine skip_ (w1 := ?_) (by rfl) rfl ?_ ?_
   rotate_left
   ·go_simp
    rfl
   refine hK.out _ _ ?_
   clear hK K
   clear zs
   refine jU_ 10 9 11 2047 ?_
   refine done_ (by kernel_rfl) ?_
   replace ST := aM_ (ST.out.put3 0 rfl (.slice Ao0d d1.length co0d) (.slice Ao1d d2.length co1d) (.slice An1 z3.length cn1))
   (try clear yS2)
   replace zc1 := ce2_ ST 3
   replace zc2 := ce3_ ST 2
   replace zc3 := ce3_ ST 1
   replace zc9 := ce3_ ST 0
   have h := HH.out
   clear HH
   by_cases hz : z4 = 0
   ·rw [if_pos hz] at h
    subst hz
    obtain ⟨rfl,rfl,rfl,rfl⟩ := inj4 h
    clear h
    go_wp2
    replace ST := aM_ (ST.out.put3 1 rfl (.slice Ao0d d1.length co0d) (.slice Ao1d d2.length co1d) (.slice An1 z3.length cn1))
    refine bodyPost_ret (results_ct rfl _ _ gb3 28 _ (0,0) _ rfl (ST.out.bk 1 rfl) Try.underlying28 rfl (by kernel_rfl)) rfl ?_
    first | exact ⟨_,_,_,_,_,_,_,rfl,ST.out.M⟩ | exact ⟨_,_,_,by first | rfl | (simp <;> rfl),_,_,_,_,ST.out.M⟩ | exact ⟨_,_,_,_,_,_,_,by first | rfl | (simp <;> rfl),ST.out.M⟩
   ·rw [if_neg hz] at h
    replace h := Option.bind_eq_some_iff.mp h
    obtain ⟨⟨c1,c2,c3⟩,hcp,h⟩ := h
    try dsimp only at h
    obtain ⟨rfl,rfl,rfl,rfl⟩ := inj4 h
    clear h
    have HCP := aM_ hcp
    clear hcp
    have pHEZ0 : (z4 == 0) = false := beq_eq_false_iff_ne.mpr hz
    have pHEZ1 : (z4 != 0) = true := bne_iff_ne.mpr hz
    clear hz
    go_wp2_with (first | (refine gL_ (some 44) Try.func150 #[.agg #[.slice (some ad7) l1_0.length c1_0,.slice A1_1 l1_1.length c1_1,.slice A1_2 l1_2.length c1_2]] ?_;(with_reducible refine (spec_l4Copy.callsD k _ _ l1_0 _ _ l1_1 _ _ l1_2 c1 c2 c3 _ ?s47_1 HC1_0.out ?s47_3 HC1_1.out ?s47_5 HC1_2.out HCP.out).mono ?_);(case s47_1 => exact Kd.C_below HR1_0.out ST.out.M.B);(case s47_3 => exact Kd.C_below HR1_1.out ST.out.M.B);(case s47_5 => exact Kd.C_below HR1_2.out ST.out.M.B);rintro e w10 ⟨mT,v0,v1,v2,rfl,ho0,ho1,ho2,hb⟩;refine ⟨_,rfl,?_⟩;obtain ⟨Ao0,co0,eo⟩ := Kd.S_slice ho0;subst eo;obtain ⟨Ao1,co1,eo⟩ := Kd.S_slice ho1;subst eo;obtain ⟨Ao2,co2,eo⟩ := Kd.R_slice ho2;subst eo;replace ST := aM_ (ST.out.copied hb ho0 ho1 ho2);clear ho0 ho1 ho2 hb;replace zc1 := ce2_ ST 3;replace zc2 := ce3_ ST 2;replace zc3 := ce3_ ST 1;replace zc9 := ce3_ ST 0))
    replace ST := aM_ (ST.out.put3 1 rfl (.slice Ao0 c1.length co0) (.slice Ao1 c2.length co1) (.slice Ao2 c3.length co2))
    refine bodyPost_ret (results_ct rfl _ _ gb3 28 _ (0,0) _ rfl (ST.out.bk 1 rfl) Try.underlying28 rfl (by kernel_rfl)) rfl ?_
    first | exact ⟨_,_,_,_,_,_,_,rfl,ST.out.M⟩ | exact ⟨_,_,_,by first | rfl | (simp <;> rfl),_,_,_,_,ST.out.M⟩ | exact ⟨_,_,_,_,_,_,_,by first | rfl | (simp <;> rfl),ST.out.M⟩
  ·refine box_step ?hg (N := 8) ?hd (cs := #[.slice none 0 0,.slice none 0 0,.slice none 0 0]) (t := 28) ?hr ?_;(case hd => rfl);(case hg => rfl);(case hr => first | (go_simp;done) | (go_simp;rfl))
   intro gb8 hg w8 hbox hb
   replace ST := aM_ (ST.out.box hg hbox hb)
   clear hg hbox hb
   refine kO_ hK (some 8) ⟨cw2 (ST.out.bk 3 rfl),cw3 (ST.out.bk 2 rfl)⟩ (fun hHeld => ?_)
   clear hK K
   refine jN_ 4 38 11 287 (fun K hK => ?_)
   refine gO_ Try.func151 #[.agg #[.slice A0_0 l0_0.length c0_0,.slice A0_1 l0_1.length c0_1],.agg #[.slice Ao0d d1.length co0d,.slice Ao1d d2.length co1d,.slice Ao2d d3.length co2d],.int .i64 a2] ?_
   (with_reducible refine (spec_l4Step.calls (wp := w) k _ _ l0_0 _ _ l0_1 _ _ _ d1 _ _ _ d2 _ _ _ d3 a2 z1 z2 z3 z4 _ ?s48_1 ?s48_2 ST.out.M.enter HST.out).mono ?_)
   (case s48_1 => exact HR0_1.out)
   (case s48_2 => exact ST.out.M.B)
   rintro e w9 ⟨n1,PC1,PN1,vN1,rfl,hMg⟩
   refine ⟨_,rfl,?_⟩
   replace ST := aM_ (ST.out.leave hMg)
   clear hMg
   obtain ⟨An1,cn1,en1⟩ := Kd.R_slice ST.out.M.N
   subst en1
   refine kO_ hK (some 38) ⟨cw2 (ST.out.bk 3 rfl),cw3 (ST.out.bk 2 rfl)⟩ (fun hHeld => ?_)
   clear hK K
   refine jU_ 5 33 11 319 ?_
   refine jU_ 6 39 11 383 ?_
   refine jU_ 7 40 11 511 ?_
   refine last_ (i := 9) (N := none) (mk_ 11 1023) rfl rfl (by kernel_rfl) (by decide) (fun K hK => ?_)
   have zs := cel3 (ST.out.bk 0 rfl)
   refine skip_ (w1 := ?_) (by rfl) rfl ?_ ?_
   rotate_left
   ·go_simp
    rfl
   refine hK.out _ _ ?_
   clear hK K
   clear zs
   refine jU_ 10 9 11 2047 ?_
   refine done_ (by kernel_rfl) ?_
   replace ST := aM_ (ST.out.put3 0 rfl (.slice Ao0d d1.length co0d) (.slice Ao1d d2.length co1d) (.slice An1 z3.length cn1))
   (try clear yS2)
   replace zc1 := ce2_ ST 3
   replace zc2 := ce3_ ST 2
   replace zc3 := ce3_ ST 1
   replace zc8 := ce3_ ST 0
   have h := HH.out
   clear HH
   by_cases hz : z4 = 0
   ·rw [if_pos hz] at h
    subst hz
    obtain ⟨rfl,rfl,rfl,rfl⟩ := inj4 h
    clear h
    go_wp2
    replace ST := aM_ (ST.out.put3 1 rfl (.slice Ao0d d1.length co0d) (.slice Ao1d d2.length co1d) (.slice An1 z3.length cn1))
    refine bodyPost_ret (results_ct rfl _ _ gb3 28 _ (0,0) _ rfl (ST.out.bk 1 rfl) Try.underlying28 rfl (by kernel_rfl)) rfl ?_
    first | exact ⟨_,_,_,_,_,_,_,rfl,ST.out.M⟩ | exact ⟨_,_,_,by first | rfl | (simp <;> rfl),_,_,_,_,ST.out.M⟩ | exact ⟨_,_,_,_,_,_,_,by first | rfl | (simp <;> rfl),ST.out.M⟩
   ·rw [if_neg hz] at h
    replace h := Option.bind_eq_some_iff.mp h
    obtain ⟨⟨c1,c2,c3⟩,hcp,h⟩ := h
    try dsimp only at h
    obtain ⟨rfl,rfl,rfl,rfl⟩ := inj4 h
    clear h
    have HCP := aM_ hcp
    clear hcp
    have pHEZ0 : (z4 == 0) = false := beq_eq_false_iff_ne.mpr hz
    have pHEZ1 : (z4 != 0) = true := bne_iff_ne.mpr hz
    clear hz
    go_wp2_with (first | (refine gL_ (some 44) Try.func150 #[.agg #[.slice (some ad7) l1_0.length c1_0,.slice A1_1 l1_1.length c1_1,.slice A1_2 l1_2.length c1_2]] ?_;(with_reducible refine (spec_l4Copy.callsD k _ _ l1_0 _ _ l1_1 _ _ l1_2 c1 c2 c3 _ ?s49_1 HC1_0.out ?s49_3 HC1_1.out ?s49_5 HC1_2.out HCP.out).mono ?_);(case s49_1 => exact Kd.C_below HR1_0.out ST.out.M.B);(case s49_3 => exact Kd.C_below HR1_1.out ST.out.M.B);(case s49_5 => exact Kd.C_below HR1_2.out ST.out.M.B);rintro e w10 ⟨mT,v0,v1,v2,rfl,ho0,ho1,ho2,hb⟩;refine ⟨_,rfl,?_⟩;obtain ⟨Ao0,co0,eo⟩ := Kd.S_slice ho0;subst eo;obtain ⟨Ao1,co1,eo⟩ := Kd.S_slice ho1;subst eo;obtain ⟨Ao2,co2,eo⟩ := Kd.R_slice ho2;subst eo;replace ST := aM_ (ST.out.copied hb ho0 ho1 ho2);clear ho0 ho1 ho2 hb;replace zc1 := ce2_ ST 3;replace zc2 := ce3_ ST 2;replace zc3 := ce3_ ST 1;replace zc8 := ce3_ ST 0))
    replace ST := aM_ (ST.out.put3 1 rfl (.slice Ao0 c1.length co0) (.slice Ao1 c2.length co1) (.slice Ao2 c3.length co2))
    refine bodyPost_ret (results_ct rfl _ _ gb3 28 _ (0,0) _ rfl (ST.out.bk 1 rfl) Try.underlying28 rfl (by kernel_rfl)) rfl ?_
    first | exact ⟨_,_,_,_,_,_,_,rfl,ST.out.M⟩ | exact ⟨_,_,_,by first | rfl | (simp <;> rfl),_,_,_,_,ST.out.M⟩ | exact ⟨_,_,_,_,_,_,_,by first | rfl | (simp <;> rfl),ST.out.M⟩
 ·refine box_step ?hg (N := 8) ?hd (cs := #[.slice none 0 0,.slice none 0 0,.slice none 0 0]) (t := 28) ?hr ?_;(case hd => rfl);(case hg => rfl);(case hr => first | (go_simp;done) | (go_simp;rfl))
  intro gb7 hg w7 hbox hb
  replace ST := aM_ (ST.out.box hg hbox hb)
  clear hg hbox hb
  refine kO_ hK (some 8) ⟨cw2 (ST.out.bk 3 rfl),cw3 (ST.out.bk 2 rfl)⟩ (fun hHeld => ?_)
  clear hK K
  refine jN_ 2 36 11 271 (fun K hK => ?_)
  refine gO_ Try.func150 #[.agg #[.slice (some ad7) l1_0.length c1_0,.slice A1_1 l1_1.length c1_1,.slice A1_2 l1_2.length c1_2]] ?_
  (with_reducible refine (spec_l4Copy.callsD k _ _ l1_0 _ _ l1_1 _ _ l1_2 d1 d2 d3 _ ?s50_1 ?s50_2 ?s50_3 ?s50_4 ?s50_5 ?s50_6 HCD.out).mono ?_)
  (case s50_1 => exact Kd.C_below HR1_0.out ST.out.M.B)
  (case s50_2 => exact HC1_0.out)
  (case s50_3 => exact Kd.C_below HR1_1.out ST.out.M.B)
  (case s50_4 => exact HC1_1.out)
  (case s50_5 => exact Kd.C_below HR1_2.out ST.out.M.B)
  (case s50_6 => exact HC1_2.out)
  rintro e w8 ⟨mTd,v0d,v1d,v2d,rfl,ho0,ho1,ho2,hb⟩
  refine ⟨_,rfl,?_⟩
  obtain ⟨Ao0d,co0d,eo⟩ := Kd.S_slice ho0
  subst eo
  obtain ⟨Ao1d,co1d,eo⟩ := Kd.S_slice ho1
  subst eo
  obtain ⟨Ao2d,co2d,eo⟩ := Kd.R_slice ho2
  subst eo
  replace ST := aM_ (ST.out.copied hb ho0 ho1 ho2)
  clear ho0 ho1 ho2 hb
  refine kO_ hK (some 36) ⟨cw2 (ST.out.bk 3 rfl),cw3 (ST.out.bk 2 rfl)⟩ (fun hHeld => ?_)
  clear hK K
  refine jN_ 4 38 11 287 (fun K hK => ?_)
  refine gO_ Try.func151 #[.agg #[.slice A0_0 l0_0.length c0_0,.slice A0_1 l0_1.length c0_1],.agg #[.slice Ao0d d1.length co0d,.slice Ao1d d2.length co1d,.slice Ao2d d3.length co2d],.int .i64 a2] ?_
  (with_reducible refine (spec_l4Step.calls (wp := w) k _ _ l0_0 _ _ l0_1 _ _ _ d1 _ _ _ d2 _ _ _ d3 a2 z1 z2 z3 z4 _ ?s51_1 ?s51_2 ST.out.M.enter HST.out).mono ?_)
  (case s51_1 => exact HR0_1.out)
  (case s51_2 => exact ST.out.M.B)
  rintro e w9 ⟨n1,PC1,PN1,vN1,rfl,hMg⟩
  refine ⟨_,rfl,?_⟩
  replace ST := aM_ (ST.out.leave hMg)
  clear hMg
  obtain ⟨An1,cn1,en1⟩ := Kd.R_slice ST.out.M.N
  subst en1
  refine kO_ hK (some 38) ⟨cw2 (ST.out.bk 3 rfl),cw3 (ST.out.bk 2 rfl)⟩ (fun hHeld => ?_)
  clear hK K
  refine jU_ 5 33 11 319 ?_
  refine jU_ 6 39 11 383 ?_
  refine jU_ 7 40 11 511 ?_
  refine last_ (i := 9) (N := none) (mk_ 11 1023) rfl rfl (by kernel_rfl) (by decide) (fun K hK => ?_)
  have zs := cel3 (ST.out.bk 0 rfl)
  refine skip_ (w1 := ?_) (by rfl) rfl ?_ ?_
  rotate_left
  ·go_simp
   rfl
  refine hK.out _ _ ?_
  clear hK K
  clear zs
  refine jU_ 10 9 11 2047 ?_
  refine done_ (by kernel_rfl) ?_
  replace ST := aM_ (ST.out.put3 0 rfl (.slice Ao0d d1.length co0d) (.slice Ao1d d2.length co1d) (.slice An1 z3.length cn1))
  (try clear yS2)
  replace zc1 := ce2_ ST 3
  replace zc2 := ce3_ ST 2
  replace zc3 := ce3_ ST 1
  replace zc7 := ce3_ ST 0
  have h := HH.out
  clear HH
  by_cases hz : z4 = 0
  ·rw [if_pos hz] at h
   subst hz
   obtain ⟨rfl,rfl,rfl,rfl⟩ := inj4 h
   clear h
   go_wp2
   replace ST := aM_ (ST.out.put3 1 rfl (.slice Ao0d d1.length co0d) (.slice Ao1d d2.length co1d) (.slice An1 z3.length cn1))
   refine bodyPost_ret (results_ct rfl _ _ gb3 28 _ (0,0) _ rfl (ST.out.bk 1 rfl) Try.underlying28 rfl (by kernel_rfl)) rfl ?_
   first | exact ⟨_,_,_,_,_,_,_,rfl,ST.out.M⟩ | exact ⟨_,_,_,by first | rfl | (simp <;> rfl),_,_,_,_,ST.out.M⟩ | exact ⟨_,_,_,_,_,_,_,by first | rfl | (simp <;> rfl),ST.out.M⟩
  ·rw [if_neg hz] at h
   replace h := Option.bind_eq_some_iff.mp h
   obtain ⟨⟨c1,c2,c3⟩,hcp,h⟩ := h
   try dsimp only at h
   obtain ⟨rfl,rfl,rfl,rfl⟩ := inj4 h
   clear h
   have HCP := aM_ hcp
   clear hcp
   have pHEZ0 : (z4 == 0) = false := beq_eq_false_iff_ne.mpr hz
   have pHEZ1 : (z4 != 0) = true := bne_iff_ne.mpr hz
   clear hz
   go_wp2_with (first | (refine gL_ (some 44) Try.func150 #[.agg #[.slice (some ad7) l1_0.length c1_0,.slice A1_1 l1_1.length c1_1,.slice A1_2 l1_2.length c1_2]] ?_;(with_reducible refine (spec_l4Copy.callsD k _ _ l1_0 _ _ l1_1 _ _ l1_2 c1 c2 c3 _ ?s52_1 HC1_0.out ?s52_3 HC1_1.out ?s52_5 HC1_2.out HCP.out).mono ?_);(case s52_1 => exact Kd.C_below HR1_0.out ST.out.M.B);(case s52_3 => exact Kd.C_below HR1_1.out ST.out.M.B);(case s52_5 => exact Kd.C_below HR1_2.out ST.out.M.B);rintro e w10 ⟨mT,v0,v1,v2,rfl,ho0,ho1,ho2,hb⟩;refine ⟨_,rfl,?_⟩;obtain ⟨Ao0,co0,eo⟩ := Kd.S_slice ho0;subst eo;obtain ⟨Ao1,co1,eo⟩ := Kd.S_slice ho1;subst eo;obtain ⟨Ao2,co2,eo⟩ := Kd.R_slice ho2;subst eo;replace ST := aM_ (ST.out.copied hb ho0 ho1 ho2);clear ho0 ho1 ho2 hb;replace zc1 := ce2_ ST 3;replace zc2 := ce3_ ST 2;replace zc3 := ce3_ ST 1;replace zc7 := ce3_ ST 0))
   replace ST := aM_ (ST.out.put3 1 rfl (.slice Ao0 c1.length co0) (.slice Ao1 c2.length co1) (.slice Ao2 c3.length co2))
   refine bodyPost_ret (results_ct rfl _ _ gb3 28 _ (0,0) _ rfl (ST.out.bk 1 rfl) Try.underlying28 rfl (by kernel_rfl)) rfl ?_
   first | exact ⟨_,_,_,_,_,_,_,rfl,ST.out.M⟩ | exact ⟨_,_,_,by first | rfl | (simp <;> rfl),_,_,_,_,ST.out.M⟩ | exact ⟨_,_,_,_,_,_,_,by first | rfl | (simp <;> rfl),ST.out.M⟩
theorem spec_SourceStep.calls (k : Nat) (A0_0 : Option Addr) (c0_0 : Nat) (l0_0 : List Int) (A0_1 : Option Addr) (c0_1 : Nat) (l0_1 : List (List (S192))) (A1_0 : Option Addr) (c1_0 : Nat) (l1_0 : List (S107)) (A1_1 : Option Addr) (c1_1 : Nat) (l1_1 : List (S94)) (A1_2 : Option Addr) (c1_2 : Nat) (l1_2 : List (S35)) (a2 : Int) (r1 : List (S107)) (r2 : List (S94)) (r3 : List (S35)) (r4 : Int) (w : World) (hr0_0 : Kd.C (Kd.int .i64) w A0_0 l0_0.length l0_0) (hc0_0 : l0_0.length ≤ c0_0) (hr0_1 : Kd.C (Kd.slice 192 k192) w A0_1 l0_1.length l0_1) (hc0_1 : l0_1.length ≤ c0_1) (hr1_0 : Kd.C k107 w A1_0 l1_0.length l1_0) (hc1_0 : l1_0.length ≤ c1_0) (hr1_1 : Kd.C k94 w A1_1 l1_1.length l1_1) (hc1_1 : l1_1.length ≤ c1_1) (hr1_2 : Kd.C k35 w A1_2 l1_2.length l1_2) (hc1_2 : l1_2.length ≤ c1_2) (h : spec_SourceStep.f k l0_0 l0_1 l1_0 l1_1 l1_2 a2 = some (r1,r2,r3,r4)) :
  Calls Try.prog 99 #[.agg #[.slice A0_0 l0_0.length c0_0,.slice A0_1 l0_1.length c0_1],.agg #[.slice A1_0 l1_0.length c1_0,.slice A1_1 l1_1.length c1_1,.slice A1_2 l1_2.length c1_2],.int .i64 a2] w fun e w' => ∃ v0_ v1_ v2_ : Value,e = .returned (.tuple #[.agg #[v0_,v1_,v2_],.int .i64 r4]) ∧ Kd.S k107 107 w' w.heap.size (fun _ => True) v0_ r1 ∧ Kd.S k94 94 w' w.heap.size (fun _ => True) v1_ r2 ∧ Kd.R k35 35 w' w.heap.size (fun _ => True) v2_ r3 ∧ Below w.heap.size w w' :=
 (spec_SourceStep.callsD k A0_0 c0_0 l0_0 A0_1 c0_1 l0_1 A1_0 c1_0 l1_0 A1_1 c1_1 l1_1 A1_2 c1_2 l1_2 a2 r1 r2 r3 r4 w hr0_0 hc0_0 hr0_1 hc0_1 hr1_0 hc1_0 hr1_1 hc1_1 hr1_2 hc1_2 h).mono fun e w' ⟨n1,PT,PC,PN,vT,vC,vN,he,hM⟩ => ⟨vT,vC,vN,he,Kd.S_mono hM.T (fun _ _ => trivial),Kd.S_mono hM.C (fun _ _ => trivial),Kd.R_mono hM.N (fun _ _ => trivial),hM.B⟩
end Go.Proofs.Ytobachfngmpeiaa.PFnExactAble
