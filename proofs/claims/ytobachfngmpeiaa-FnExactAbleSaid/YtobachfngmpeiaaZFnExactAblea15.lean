/- Part of the proof of FnExactAble. -/
import Derived.Test.YtobachfngmpeiaaZFnExactAblea14
import Derived.Test.YtobachfngmpeiaaZFnExactAbles
namespace Go.Proofs.Ytobachfngmpeiaa.PFnExactAble
open Go.RowKit Go.Proofs.YtobachfngmpeiaaW.PrintWords Go.Proofs.YtobachfngmpeiaaW.PrintLast Go.Proofs.YtobachfngmpeiaaW.PrintMore
attribute [local go_sem] max2_int min2_int max_two min_two max_three min_three max_four min_four
set_option linter.unusedVariables false
set_option linter.unusedSimpArgs false
set_option maxHeartbeats 8000000 in
set_option maxRecDepth 100000 in
theorem spec_l4Step.calls {wp : World} {n0 : Nat} {PT PC PN : Nat → Prop} (k : Nat) (A0_0 : Option Addr) (c0_0 : Nat) (l0_0 : List Int) (A0_1 : Option Addr) (c0_1 : Nat) (l0_1 : List (List S192)) (A1_0 : Option Addr) (n1_0 c1_0 : Nat) (ts : List S107) (A1_1 : Option Addr) (n1_1 c1_1 : Nat) (cs : List S94) (A1_2 : Option Addr) (n1_2 c1_2 : Nat) (ns : List S35) (who : Int) (ts' : List S107) (cs' : List S94) (ns' : List S35) (code : Int) (w : World) (hp1 : Kd.C (Kd.slice 192 k192) wp A0_1 l0_1.length l0_1) (hw : Below wp.heap.size wp w) (hM : Mine w wp.heap.size n0 (fun k => PT k ∨ PC k ∨ PN k) PT PC PN w (.slice A1_0 n1_0 c1_0) (.slice A1_1 n1_1 c1_1) (.slice A1_2 n1_2 c1_2) ts cs ns) (h : spec_l4Step.f k l0_1 ts cs ns who = some (ts',cs',ns',code)) :
  Calls Try.prog 151 #[.agg #[.slice A0_0 l0_0.length c0_0,.slice A0_1 l0_1.length c0_1],.agg #[.slice A1_0 n1_0 c1_0,.slice A1_1 n1_1 c1_1,.slice A1_2 n1_2 c1_2],.int .i64 who] w fun e w' => ∃ n1 PC1 PN1 vN,e = .returned (.tuple #[.agg #[.slice A1_0 n1_0 c1_0,.slice A1_1 n1_1 c1_1,vN],.int .i64 code]) ∧ Mine w wp.heap.size n1 (fun k => PT k ∨ PC k ∨ PN k) PT PC1 PN1 w' (.slice A1_0 n1_0 c1_0) (.slice A1_1 n1_1 c1_1) vN ts' cs' ns' := by
 unfold spec_l4Step.f at h
 by_cases h0 : 0 ≤ who
 case neg => rw [if_neg h0] at h;cases h
 rw [if_pos h0] at h
 by_cases h1 : who < (ts.length : Int)
 case neg => rw [if_neg h1] at h;cases h
 rw [if_pos h1] at h
 by_cases h2 : who < (l0_1.length : Int)
 case neg => rw [if_neg h2] at h;cases h
 rw [if_pos h2] at h
 by_cases h3 : 0 ≤ (rd_T107 ts who).f0
 case neg => rw [if_neg h3] at h;cases h
 rw [if_pos h3] at h
 by_cases h4 : (rd_T107 ts who).f0 < ((rd_L4 l0_1 who).length : Int)
 case neg => rw [if_neg h4] at h;cases h
 rw [if_pos h4] at h
 obtain ⟨gT,rfl,rfl,hPT,-⟩ := hM.headT who h0 h1
 obtain ⟨rfl,-,-⟩ := Kd.R_reads' hM.N
 rcases hx : rd_T192 (rd_L4 l0_1 who) (rd_T107 ts who).f0 with ⟨op,r,a,bb,n⟩
 rw [hx] at h
 dsimp only at h
 obtain ⟨AR,cr,hxa,hx1,-,-,okr,hRr,hokr⟩ := hM.atT who h0 h1
 obtain ⟨ad3,A3_0,c3_0,e3,hb3,-,hi3⟩ := at_L4 hp1 who h0 h2
 cases e3
 obtain ⟨ad5,e5,hx5_0,hx5_1,hx5_2,hx5_3,hx5_4⟩ := at_T192 hi3 (rd_T107 ts who).f0 h3 h4
 cases e5
 rw [hx] at hx5_0 hx5_1 hx5_2 hx5_3 hx5_4
 have hu44 := Try.underlying44
 have hu28 := Try.underlying28
 have hu192 := Try.underlying192
 have hu107 := Try.underlying107
 have ST := aM_ (Own.start hM)
 replace ST := aM_ (ST.out.cell hx1)
 replace ST := aM_ (ST.out.cell hxa)
 replace ST := aM_ (ST.out.par hw hM.bn hb3)
 replace ST := aM_ (ST.out.par hw hM.bn hx5_0)
 replace ST := aM_ (ST.out.par hw hM.bn hx5_1)
 replace ST := aM_ (ST.out.par hw hM.bn hx5_2)
 replace ST := aM_ (ST.out.par hw hM.bn hx5_3)
 replace ST := aM_ (ST.out.par hw hM.bn hx5_4)
 have HH := aM_ h
 have HPT := aM_ hPT
 have HI0 := aM_ h0
 have HI1 := aM_ h1
 have HI2 := aM_ h2
 have HP1 := aM_ hp1
 have HW := aM_ hw
 have HRR := aM_ hRr
 have HOKR := aM_ hokr
 clear hM hPT h hRr hokr hx1 hxa hb3 hi3 hx5_0 hx5_1 hx5_2 hx5_3 hx5_4 hx hw hp1
 replace h0 := eq_true h0
 replace h1 := eq_true h1
 replace h2 := eq_true h2
 replace h3 := eq_true h3
 replace h4 := eq_true h4
 go_enter Try.func151,Try.ntmps151
 go_wp2_with (first | (refine bX_ 3 (cs := #[.slice A0_0 l0_0.length c0_0,.slice (some ad3) l0_1.length c0_1]) (t := 44) ?_;intro gb1 hg w1 hbox hb;replace ST := aM_ (ST.out.box hg hbox hb);clear hg hbox hb;replace zc1 := ce2_ ST 0;replace y54 := ST.out.ck 0 rfl;replace y53 := ST.out.ck 1 rfl;replace y52 := ST.out.ck 2 rfl;replace y51 := ST.out.ck 3 rfl;replace y50 := ST.out.ck 4 rfl;replace y3 := ST.out.ck 5 rfl;replace yA := ST.out.ck 6 rfl;replace yH := ST.out.ck 7 rfl) | (refine bX_ 4 (cs := #[.slice (some ⟨gT,0,none⟩) ts.length c1_0,.slice A1_1 n1_1 c1_1,.slice A1_2 ns.length c1_2]) (t := 28) ?_;intro gb2 hg w2 hbox hb;replace ST := aM_ (ST.out.box hg hbox hb);clear hg hbox hb;replace zc1 := ce2_ ST 1;replace zc2 := ce3_ ST 0;replace y54 := ST.out.ck 0 rfl;replace y53 := ST.out.ck 1 rfl;replace y52 := ST.out.ck 2 rfl;replace y51 := ST.out.ck 3 rfl;replace y50 := ST.out.ck 4 rfl;replace y3 := ST.out.ck 5 rfl;replace yA := ST.out.ck 6 rfl;replace yH := ST.out.ck 7 rfl) | (refine bX_ 6 (cs := #[.slice none 0 0,.slice none 0 0,.slice none 0 0]) (t := 28) ?_;intro gb3 hg w3 hbox hb;replace ST := aM_ (ST.out.box hg hbox hb);clear hg hbox hb;replace zc1 := ce2_ ST 2;replace zc2 := ce3_ ST 1;replace zc3 := ce3_ ST 0;replace y54 := ST.out.ck 0 rfl;replace y53 := ST.out.ck 1 rfl;replace y52 := ST.out.ck 2 rfl;replace y51 := ST.out.ck 3 rfl;replace y50 := ST.out.ck 4 rfl;replace y3 := ST.out.ck 5 rfl;replace yA := ST.out.ck 6 rfl;replace yH := ST.out.ck 7 rfl) | (refine bX_ 9 (cs := #[.int .i64 0,.int .i64 0,.int .i64 0,.int .i64 0,.int .i64 0]) (t := 192) ?_;intro gb4 hg w4 hbox hb;replace ST := aM_ (ST.out.box hg hbox hb);clear hg hbox hb;have zo24 := cel5 (ST.out.bk 0 rfl);replace ST := aM_ (ST.out.put5 0 rfl (.int .i64 op) (.int .i64 r) (.int .i64 a) (.int .i64 bb) (.int .i64 n));replace ST := aM_ (ST.out.cut 7);(try clear y3 y50 y51 y52 y53 y54 yA zc3);replace zc1 := ce2_ ST 3;replace zc2 := ce3_ ST 2;replace zc4 := ce5_ ST 0;replace yH := ST.out.ck 0 rfl;refine hide_ (fun G hG => ?_)))
 have h := HH.out
 clear HH
 by_cases c1 : op = 1
 ·subst c1
  rw [if_pos rfl] at h
  by_cases hr0 : 0 ≤ r
  case neg => rw [if_neg hr0] at h;cases h
  rw [if_pos hr0] at h
  by_cases hr1 : r < ((rd_T107 ts who).f1.length : Int)
  case neg => rw [if_neg hr1] at h;cases h
  rw [if_pos hr1] at h
  unfold spec_l4Step.go at h
  replace h := Option.bind_eq_some_iff.mp h
  obtain ⟨t5,hgo,h⟩ := h
  try dsimp only at h
  obtain ⟨rfl,rfl,rfl,rfl⟩ := inj4 h
  clear h
  have HR0 := aM_ hr0
  clear hr0
  have HR1 := aM_ hr1
  clear hr1
  have HGO := aM_ hgo
  clear hgo
  have pHR0 := eq_true HR0.out
  have pHR1 := eq_true HR1.out
  obtain ⟨gR,cR_,eR_,-,-,-⟩ := Kd.R_form HRR.out (by have := HR0.out;have := HR1.out;omega)
  injection eR_ with eR_ eR1_ eR2_
  clear eR1_ eR2_
  subst eR_
  have HPR := aM_ (HOKR.out gR (HRR.out.1 gR rfl)).1
  have HRT : Aside0 (gT ≠ gR) := ⟨fun e_ => (HOKR.out gR (HRR.out.1 gR rfl)).2 e_.symm⟩
  refine hG.out ?_
  clear hG G
  obtain ⟨-,-,-,hu_,hfu_,-,-⟩ := ST.out.M.setReg who HI0.out HI1.out (ST.out.ck 0 rfl) r HR0.out HR1.out 0
  go_wp2_with (first | ((with_reducible refine gate_store (t := 3) (p := 65) rfl ?_);refine store_event (t := 3) (p := 65) (v := ?vo25) (w1 := ((((((w4.setCell ⟨gb4,0,none⟩ (.int .i64 1)).setCell ⟨gb4,1,none⟩ (.int .i64 r)).setCell ⟨gb4,2,none⟩ (.int .i64 a)).setCell ⟨gb4,3,none⟩ (.int .i64 bb)).setCell ⟨gb4,4,none⟩ (.int .i64 n)).setCell ⟨gR,(r).toNat,none⟩ (.int .i64 n))) ?hg ?ho ?hn ?hr ?_;(case ho => rfl);(case hg => rfl);(case hn => rfl);(case hr => first | (go_simp;done) | (go_simp;rfl));intro w5 hw;subst hw;replace ST := aM_ (ST.out.own0 (ST.out.M.setReg who HI0.out HI1.out (ST.out.ck 0 rfl) r HR0.out HR1.out n).2.2.2.2.2.2 (.inl HPR.out));(try clear yH zo24);replace zc1 := ce2_ ST 3;replace zc2 := ce3_ ST 2;replace zc4 := ce5_ ST 0) | (refine gL_ (some 163) Try.func174 #[.agg #[.slice A0_0 l0_0.length c0_0,.slice (some ad3) l0_1.length c0_1],.agg #[.slice (some ⟨gT,0,none⟩) ts.length c1_0,.slice A1_1 n1_1 c1_1,.slice A1_2 ns.length c1_2],.int .i64 who,.int .i64 (wrap64 ((rd_T107 ts who).f0 + 1))] ?_;(with_reducible refine (spec_l4Go.calls _ _ _ _ _ l0_1 _ _ _ _ _ _ _ _ _ _ _ _ who (wrap64 ((rd_T107 ts who).f0 + 1)) t5 _ ?s26_1 ST.out.M.enter HGO.out).mono ?_);(case s26_1 => exact Kd.C_below HP1.out (Below.trans HW.out ST.out.M.B));rintro e w6 ⟨rfl,hMg⟩;refine ⟨_,rfl,?_⟩;replace ST := aM_ (ST.out.leave hMg);clear hMg;(try clear zc1 zc2 zc4);replace zc3 := ce3_ ST 1))
  replace ST := aM_ (ST.out.put3 1 rfl (.slice (some ⟨gT,0,none⟩) ts.length c1_0) (.slice A1_1 n1_1 c1_1) (.slice A1_2 ns.length c1_2))
  refine bodyPost_ret (results_ct rfl _ _ gb3 28 _ (0,0) _ rfl (ST.out.bk 1 rfl) Try.underlying28 rfl (by kernel_rfl)) rfl ?_
  first | exact ⟨_,_,_,_,rfl,ST.out.M⟩ | exact ⟨_,by first | rfl | (simp <;> rfl),_,_,_,ST.out.M⟩ | exact ⟨_,_,_,by first | rfl | (simp <;> rfl),ST.out.M⟩
 rw [if_neg c1] at h
 by_cases c2 : op = 2
 ·subst c2
  rw [if_pos rfl] at h
  by_cases ha0 : 0 ≤ a
  case neg => rw [if_neg ha0] at h;cases h
  rw [if_pos ha0] at h
  by_cases ha1 : a < ((rd_T107 ts who).f1.length : Int)
  case neg => rw [if_neg ha1] at h;cases h
  rw [if_pos ha1] at h
  by_cases hb0 : 0 ≤ bb
  case neg => rw [if_neg hb0] at h;cases h
  rw [if_pos hb0] at h
  by_cases hb1 : bb < ((rd_T107 ts who).f1.length : Int)
  case neg => rw [if_neg hb1] at h;cases h
  rw [if_pos hb1] at h
  by_cases hr0 : 0 ≤ r
  case neg => rw [if_neg hr0] at h;cases h
  rw [if_pos hr0] at h
  by_cases hr1 : r < ((rd_T107 ts who).f1.length : Int)
  case neg => rw [if_neg hr1] at h;cases h
  rw [if_pos hr1] at h
  unfold spec_l4Step.go at h
  replace h := Option.bind_eq_some_iff.mp h
  obtain ⟨t5,hgo,h⟩ := h
  try dsimp only at h
  obtain ⟨rfl,rfl,rfl,rfl⟩ := inj4 h
  clear h
  have HA0 := aM_ ha0
  clear ha0
  have HA1 := aM_ ha1
  clear ha1
  have HB0 := aM_ hb0
  clear hb0
  have HB1 := aM_ hb1
  clear hb1
  have HR0 := aM_ hr0
  clear hr0
  have HR1 := aM_ hr1
  clear hr1
  have HGO := aM_ hgo
  clear hgo
  have pHA0 := eq_true HA0.out
  have pHA1 := eq_true HA1.out
  have pHB0 := eq_true HB0.out
  have pHB1 := eq_true HB1.out
  have pHR0 := eq_true HR0.out
  have pHR1 := eq_true HR1.out
  obtain ⟨gR,cR_,eR_,-,-,-⟩ := Kd.R_form HRR.out (by have := HA0.out;have := HA1.out;omega)
  injection eR_ with eR_ eR1_ eR2_
  clear eR1_ eR2_
  subst eR_
  have HPR := aM_ (HOKR.out gR (HRR.out.1 gR rfl)).1
  have HRT : Aside0 (gT ≠ gR) := ⟨fun e_ => (HOKR.out gR (HRR.out.1 gR rfl)).2 e_.symm⟩
  refine hG.out ?_
  clear hG G
  try go_wp2
  replace ST := aM_ ST.out.drew
  refine sTa_ 16 (fun w' => C5 w' gb4 (.int .i64 2) (.int .i64 r) (.int .i64 a) (.int .i64 bb) (.int .i64 n) ∧ w'.cell? ⟨gR,(a).toNat,none⟩ = some (.int .i64 (rd (rd_T107 ts who).f1 a)) ∧ w'.cell? ⟨gR,(bb).toNat,none⟩ = some (.int .i64 (rd (rd_T107 ts who).f1 bb))) [15] ⟨cw5 (ST.out.bk 0 rfl),(ST.out.M.setReg who HI0.out HI1.out (ST.out.ck 0 rfl) a HA0.out HA1.out 0).2.2.2.1,(ST.out.M.setReg who HI0.out HI1.out (ST.out.ck 0 rfl) bb HB0.out HB1.out 0).2.2.2.1⟩ (fun hHeld => ?_)
  generalize (((((w4.setCell ⟨gb4,0,none⟩ (.int .i64 2)).setCell ⟨gb4,1,none⟩ (.int .i64 r)).setCell ⟨gb4,2,none⟩ (.int .i64 a)).setCell ⟨gb4,3,none⟩ (.int .i64 bb)).setCell ⟨gb4,4,none⟩ (.int .i64 n)).drew = w5 at ST hHeld ⊢
  refine jU_ 0 68 16 1 ?_
  refine jU_ 1 69 16 3 ?_
  refine jU_ 3 71 16 11 ?_
  refine jU_ 4 72 16 27 ?_
  refine jU_ 8 76 16 283 ?_
  refine jU_ 9 77 16 795 ?_
  refine jK3_ 2 70 16 799 ?_
  refine jK3_ 5 73 16 831 ?_
  refine jU_ 6 74 16 895 ?_
  refine jK3_ 7 75 16 1023 ?_
  refine jK3_ 10 78 16 2047 ?_
  refine jU_ 11 79 16 4095 ?_
  refine jK3_ 12 80 16 8191 ?_
  refine jU_ 13 81 16 16383 ?_
  refine jU_ 14 82 16 32767 ?_
  refine last_ (i := 15) (N := none) (mk_ 16 65535) rfl rfl (by kernel_rfl) (by decide) (fun K hK => ?_)
  obtain ⟨-,-,-,hu_,hfu_,-,-⟩ := ST.out.M.setReg who HI0.out HI1.out (ST.out.ck 0 rfl) r HR0.out HR1.out 0
  refine skip_ (w1 := ?_) (by rfl) rfl ?_ ?_
  rotate_left
  ·go_simp
   rfl
  refine hK.out _ _ ?_
  clear hK K
  refine done_ (by kernel_rfl) ?_
  replace ST := aM_ (ST.out.own0 (ST.out.M.setReg who HI0.out HI1.out (ST.out.ck 0 rfl) r HR0.out HR1.out (wrap64 (rd (rd_T107 ts who).f1 a + rd (rd_T107 ts who).f1 bb))).2.2.2.2.2.2 (.inl HPR.out))
  (try clear yH zo24)
  replace zc1 := ce2_ ST 3
  replace zc2 := ce3_ ST 2
  replace zc4 := ce5_ ST 0
  go_wp2_with (first | (refine gL_ (some 163) Try.func174 #[.agg #[.slice A0_0 l0_0.length c0_0,.slice (some ad3) l0_1.length c0_1],.agg #[.slice (some ⟨gT,0,none⟩) ts.length c1_0,.slice A1_1 n1_1 c1_1,.slice A1_2 ns.length c1_2],.int .i64 who,.int .i64 (wrap64 ((rd_T107 ts who).f0 + 1))] ?_;(with_reducible refine (spec_l4Go.calls _ _ _ _ _ l0_1 _ _ _ _ _ _ _ _ _ _ _ _ who (wrap64 ((rd_T107 ts who).f0 + 1)) t5 _ ?s27_1 ST.out.M.enter HGO.out).mono ?_);(case s27_1 => exact Kd.C_below HP1.out (Below.trans HW.out ST.out.M.B));rintro e w6 ⟨rfl,hMg⟩;refine ⟨_,rfl,?_⟩;replace ST := aM_ (ST.out.leave hMg);clear hMg;(try clear zc1 zc2 zc4);replace zc3 := ce3_ ST 1))
  replace ST := aM_ (ST.out.put3 1 rfl (.slice (some ⟨gT,0,none⟩) ts.length c1_0) (.slice A1_1 n1_1 c1_1) (.slice A1_2 ns.length c1_2))
  refine bodyPost_ret (results_ct rfl _ _ gb3 28 _ (0,0) _ rfl (ST.out.bk 1 rfl) Try.underlying28 rfl (by kernel_rfl)) rfl ?_
  first | exact ⟨_,_,_,_,rfl,ST.out.M⟩ | exact ⟨_,by first | rfl | (simp <;> rfl),_,_,_,ST.out.M⟩ | exact ⟨_,_,_,by first | rfl | (simp <;> rfl),ST.out.M⟩
 rw [if_neg c2] at h
 by_cases c3 : op = 3
 ·subst c3
  rw [if_pos rfl] at h
  by_cases ha0 : 0 ≤ a
  case neg => rw [if_neg ha0] at h;cases h
  rw [if_pos ha0] at h
  by_cases ha1 : a < ((rd_T107 ts who).f1.length : Int)
  case neg => rw [if_neg ha1] at h;cases h
  rw [if_pos ha1] at h
  by_cases hb0 : 0 ≤ bb
  case neg => rw [if_neg hb0] at h;cases h
  rw [if_pos hb0] at h
  by_cases hb1 : bb < ((rd_T107 ts who).f1.length : Int)
  case neg => rw [if_neg hb1] at h;cases h
  rw [if_pos hb1] at h
  by_cases hr0 : 0 ≤ r
  case neg => rw [if_neg hr0] at h;cases h
  rw [if_pos hr0] at h
  by_cases hr1 : r < ((rd_T107 ts who).f1.length : Int)
  case neg => rw [if_neg hr1] at h;cases h
  rw [if_pos hr1] at h
  unfold spec_l4Step.go at h
  replace h := Option.bind_eq_some_iff.mp h
  obtain ⟨t5,hgo,h⟩ := h
  try dsimp only at h
  obtain ⟨rfl,rfl,rfl,rfl⟩ := inj4 h
  clear h
  have HA0 := aM_ ha0
  clear ha0
  have HA1 := aM_ ha1
  clear ha1
  have HB0 := aM_ hb0
  clear hb0
  have HB1 := aM_ hb1
  clear hb1
  have HR0 := aM_ hr0
  clear hr0
  have HR1 := aM_ hr1
  clear hr1
  have HGO := aM_ hgo
  clear hgo
  have pHA0 := eq_true HA0.out
  have pHA1 := eq_true HA1.out
  have pHB0 := eq_true HB0.out
  have pHB1 := eq_true HB1.out
  have pHR0 := eq_true HR0.out
  have pHR1 := eq_true HR1.out
  obtain ⟨gR,cR_,eR_,-,-,-⟩ := Kd.R_form HRR.out (by have := HA0.out;have := HA1.out;omega)
  injection eR_ with eR_ eR1_ eR2_
  clear eR1_ eR2_
  subst eR_
  have HPR := aM_ (HOKR.out gR (HRR.out.1 gR rfl)).1
  have HRT : Aside0 (gT ≠ gR) := ⟨fun e_ => (HOKR.out gR (HRR.out.1 gR rfl)).2 e_.symm⟩
  refine hG.out ?_
  clear hG G
  try go_wp2
  replace ST := aM_ ST.out.drew
  refine sTa_ 16 (fun w' => C5 w' gb4 (.int .i64 3) (.int .i64 r) (.int .i64 a) (.int .i64 bb) (.int .i64 n) ∧ w'.cell? ⟨gR,(a).toNat,none⟩ = some (.int .i64 (rd (rd_T107 ts who).f1 a)) ∧ w'.cell? ⟨gR,(bb).toNat,none⟩ = some (.int .i64 (rd (rd_T107 ts who).f1 bb))) [15] ⟨cw5 (ST.out.bk 0 rfl),(ST.out.M.setReg who HI0.out HI1.out (ST.out.ck 0 rfl) a HA0.out HA1.out 0).2.2.2.1,(ST.out.M.setReg who HI0.out HI1.out (ST.out.ck 0 rfl) bb HB0.out HB1.out 0).2.2.2.1⟩ (fun hHeld => ?_)
  generalize (((((w4.setCell ⟨gb4,0,none⟩ (.int .i64 3)).setCell ⟨gb4,1,none⟩ (.int .i64 r)).setCell ⟨gb4,2,none⟩ (.int .i64 a)).setCell ⟨gb4,3,none⟩ (.int .i64 bb)).setCell ⟨gb4,4,none⟩ (.int .i64 n)).drew = w5 at ST hHeld ⊢
  refine jU_ 0 85 16 1 ?_
  refine jU_ 1 86 16 3 ?_
  refine jU_ 3 88 16 11 ?_
  refine jU_ 4 89 16 27 ?_
  refine jU_ 8 93 16 283 ?_
  refine jU_ 9 94 16 795 ?_
  refine jK3_ 2 87 16 799 ?_
  refine jK3_ 5 90 16 831 ?_
  refine jU_ 6 91 16 895 ?_
  refine jK3_ 7 92 16 1023 ?_
  refine jK3_ 10 95 16 2047 ?_
  refine jU_ 11 96 16 4095 ?_
  refine jK3_ 12 97 16 8191 ?_
  refine jU_ 13 98 16 16383 ?_
  refine jU_ 14 99 16 32767 ?_
  refine last_ (i := 15) (N := none) (mk_ 16 65535) rfl rfl (by kernel_rfl) (by decide) (fun K hK => ?_)
  obtain ⟨-,-,-,hu_,hfu_,-,-⟩ := ST.out.M.setReg who HI0.out HI1.out (ST.out.ck 0 rfl) r HR0.out HR1.out 0
  refine skip_ (w1 := ?_) (by rfl) rfl ?_ ?_
  rotate_left
  ·go_simp
   rfl
  refine hK.out _ _ ?_
  clear hK K
  refine done_ (by kernel_rfl) ?_
  replace ST := aM_ (ST.out.own0 (ST.out.M.setReg who HI0.out HI1.out (ST.out.ck 0 rfl) r HR0.out HR1.out (wrap64 (rd (rd_T107 ts who).f1 a - rd (rd_T107 ts who).f1 bb))).2.2.2.2.2.2 (.inl HPR.out))
  (try clear yH zo24)
  replace zc1 := ce2_ ST 3
  replace zc2 := ce3_ ST 2
  replace zc4 := ce5_ ST 0
  go_wp2_with (first | (refine gL_ (some 163) Try.func174 #[.agg #[.slice A0_0 l0_0.length c0_0,.slice (some ad3) l0_1.length c0_1],.agg #[.slice (some ⟨gT,0,none⟩) ts.length c1_0,.slice A1_1 n1_1 c1_1,.slice A1_2 ns.length c1_2],.int .i64 who,.int .i64 (wrap64 ((rd_T107 ts who).f0 + 1))] ?_;(with_reducible refine (spec_l4Go.calls _ _ _ _ _ l0_1 _ _ _ _ _ _ _ _ _ _ _ _ who (wrap64 ((rd_T107 ts who).f0 + 1)) t5 _ ?s28_1 ST.out.M.enter HGO.out).mono ?_);(case s28_1 => exact Kd.C_below HP1.out (Below.trans HW.out ST.out.M.B));rintro e w6 ⟨rfl,hMg⟩;refine ⟨_,rfl,?_⟩;replace ST := aM_ (ST.out.leave hMg);clear hMg;(try clear zc1 zc2 zc4);replace zc3 := ce3_ ST 1))
  replace ST := aM_ (ST.out.put3 1 rfl (.slice (some ⟨gT,0,none⟩) ts.length c1_0) (.slice A1_1 n1_1 c1_1) (.slice A1_2 ns.length c1_2))
  refine bodyPost_ret (results_ct rfl _ _ gb3 28 _ (0,0) _ rfl (ST.out.bk 1 rfl) Try.underlying28 rfl (by kernel_rfl)) rfl ?_
  first | exact ⟨_,_,_,_,rfl,ST.out.M⟩ | exact ⟨_,by first | rfl | (simp <;> rfl),_,_,_,ST.out.M⟩ | exact ⟨_,_,_,by first | rfl | (simp <;> rfl),ST.out.M⟩
 rw [if_neg c3] at h
 by_cases c4 : op = 4
 ·subst c4
  rw [if_pos rfl] at h
  by_cases ha0 : 0 ≤ a
  case neg => rw [if_neg ha0] at h;cases h
  rw [if_pos ha0] at h
  by_cases ha1 : a < ((rd_T107 ts who).f1.length : Int)
  case neg => rw [if_neg ha1] at h;cases h
  rw [if_pos ha1] at h
  by_cases hb0 : 0 ≤ bb
  case neg => rw [if_neg hb0] at h;cases h
  rw [if_pos hb0] at h
  by_cases hb1 : bb < ((rd_T107 ts who).f1.length : Int)
  case neg => rw [if_neg hb1] at h;cases h
  rw [if_pos hb1] at h
  by_cases hr0 : 0 ≤ r
  case neg => rw [if_neg hr0] at h;cases h
  rw [if_pos hr0] at h
  by_cases hr1 : r < ((rd_T107 ts who).f1.length : Int)
  case neg => rw [if_neg hr1] at h;cases h
  rw [if_pos hr1] at h
  replace h := Option.bind_eq_some_iff.mp h
  obtain ⟨y,hy,h⟩ := h
  try dsimp only at h
  unfold spec_l4Step.go at h
  replace h := Option.bind_eq_some_iff.mp h
  obtain ⟨t5,hgo,h⟩ := h
  try dsimp only at h
  obtain ⟨rfl,rfl,rfl,rfl⟩ := inj4 h
  clear h
  have HA0 := aM_ ha0
  clear ha0
  have HA1 := aM_ ha1
  clear ha1
  have HB0 := aM_ hb0
  clear hb0
  have HB1 := aM_ hb1
  clear hb1
  have HR0 := aM_ hr0
  clear hr0
  have HR1 := aM_ hr1
  clear hr1
  have HY := aM_ hy
  clear hy
  have HGO := aM_ hgo
  clear hgo
  have pHA0 := eq_true HA0.out
  have pHA1 := eq_true HA1.out
  have pHB0 := eq_true HB0.out
  have pHB1 := eq_true HB1.out
  have pHR0 := eq_true HR0.out
  have pHR1 := eq_true HR1.out
  obtain ⟨gR,cR_,eR_,-,-,-⟩ := Kd.R_form HRR.out (by have := HA0.out;have := HA1.out;omega)
  injection eR_ with eR_ eR1_ eR2_
  clear eR1_ eR2_
  subst eR_
  have HPR := aM_ (HOKR.out gR (HRR.out.1 gR rfl)).1
  have HRT : Aside0 (gT ≠ gR) := ⟨fun e_ => (HOKR.out gR (HRR.out.1 gR rfl)).2 e_.symm⟩
  refine hG.out ?_
  clear hG G
  try go_wp2
  replace ST := aM_ ST.out.drew
  refine sTa_ 17 (fun w' => C5 w' gb4 (.int .i64 4) (.int .i64 r) (.int .i64 a) (.int .i64 bb) (.int .i64 n) ∧ w'.cell? ⟨gR,(a).toNat,none⟩ = some (.int .i64 (rd (rd_T107 ts who).f1 a)) ∧ w'.cell? ⟨gR,(bb).toNat,none⟩ = some (.int .i64 (rd (rd_T107 ts who).f1 bb))) [16] ⟨cw5 (ST.out.bk 0 rfl),(ST.out.M.setReg who HI0.out HI1.out (ST.out.ck 0 rfl) a HA0.out HA1.out 0).2.2.2.1,(ST.out.M.setReg who HI0.out HI1.out (ST.out.ck 0 rfl) bb HB0.out HB1.out 0).2.2.2.1⟩ (fun hHeld => ?_)
  generalize (((((w4.setCell ⟨gb4,0,none⟩ (.int .i64 4)).setCell ⟨gb4,1,none⟩ (.int .i64 r)).setCell ⟨gb4,2,none⟩ (.int .i64 a)).setCell ⟨gb4,3,none⟩ (.int .i64 bb)).setCell ⟨gb4,4,none⟩ (.int .i64 n)).drew = w5 at ST hHeld ⊢
  refine jU_ 0 102 17 1 ?_
  refine jU_ 1 103 17 3 ?_
  refine jU_ 3 105 17 11 ?_
  refine jU_ 4 106 17 27 ?_
  refine jU_ 8 110 17 283 ?_
  refine jU_ 9 111 17 795 ?_
  refine jK3_ 2 104 17 799 ?_
  refine jK3_ 5 107 17 831 ?_
  refine jU_ 6 108 17 895 ?_
  refine jK3_ 7 109 17 1023 ?_
  refine jK3_ 10 112 17 2047 ?_
  refine jU_ 11 113 17 4095 ?_
  refine jK3_ 12 114 17 8191 ?_
  refine jU_ 13 115 17 16383 ?_
  refine jN_ 14 116 17 32767 (fun K hK => ?_)
  refine gO_ Try.func172 #[.bool (decide (rd (rd_T107 ts who).f1 a < rd (rd_T107 ts who).f1 bb))] ?_
  (with_reducible refine (spec_l4Bit.calls (decide (rd (rd_T107 ts who).f1 a < rd (rd_T107 ts who).f1 bb)) y _ HY.out).mono ?_)
  rintro e w6 ⟨rfl,hd_⟩
  refine ⟨_,rfl,?_⟩
  have hb := Drawn0.below hd_
  replace ST := aM_ (ST.out.below hb)
  clear hb hd_
  refine kO_ hK (some 116) ⟨cw5 (ST.out.bk 0 rfl),(ST.out.M.setReg who HI0.out HI1.out (ST.out.ck 0 rfl) a HA0.out HA1.out 0).2.2.2.1,(ST.out.M.setReg who HI0.out HI1.out (ST.out.ck 0 rfl) bb HB0.out HB1.out 0).2.2.2.1⟩ (fun hHeld => ?_)
  clear hK K
  refine jU_ 15 117 17 65535 ?_
  refine last_ (i := 16) (N := none) (mk_ 17 131071) rfl rfl (by kernel_rfl) (by decide) (fun K hK => ?_)
  obtain ⟨-,-,-,hu_,hfu_,-,-⟩ := ST.out.M.setReg who HI0.out HI1.out (ST.out.ck 0 rfl) r HR0.out HR1.out 0
  refine skip_ (w1 := ?_) (by rfl) rfl ?_ ?_
  rotate_left
  ·go_simp
   rfl
  refine hK.out _ _ ?_
  clear hK K
  refine done_ (by kernel_rfl) ?_
  replace ST := aM_ (ST.out.own0 (ST.out.M.setReg who HI0.out HI1.out (ST.out.ck 0 rfl) r HR0.out HR1.out y).2.2.2.2.2.2 (.inl HPR.out))
  (try clear yH zo24)
  replace zc1 := ce2_ ST 3
  replace zc2 := ce3_ ST 2
  replace zc4 := ce5_ ST 0
  go_wp2_with (first | (refine gL_ (some 163) Try.func174 #[.agg #[.slice A0_0 l0_0.length c0_0,.slice (some ad3) l0_1.length c0_1],.agg #[.slice (some ⟨gT,0,none⟩) ts.length c1_0,.slice A1_1 n1_1 c1_1,.slice A1_2 ns.length c1_2],.int .i64 who,.int .i64 (wrap64 ((rd_T107 ts who).f0 + 1))] ?_;(with_reducible refine (spec_l4Go.calls _ _ _ _ _ l0_1 _ _ _ _ _ _ _ _ _ _ _ _ who (wrap64 ((rd_T107 ts who).f0 + 1)) t5 _ ?s30_1 ST.out.M.enter HGO.out).mono ?_);(case s30_1 => exact Kd.C_below HP1.out (Below.trans HW.out ST.out.M.B));rintro e w7 ⟨rfl,hMg⟩;refine ⟨_,rfl,?_⟩;replace ST := aM_ (ST.out.leave hMg);clear hMg;(try clear zc1 zc2 zc4);replace zc3 := ce3_ ST 1))
  replace ST := aM_ (ST.out.put3 1 rfl (.slice (some ⟨gT,0,none⟩) ts.length c1_0) (.slice A1_1 n1_1 c1_1) (.slice A1_2 ns.length c1_2))
  refine bodyPost_ret (results_ct rfl _ _ gb3 28 _ (0,0) _ rfl (ST.out.bk 1 rfl) Try.underlying28 rfl (by kernel_rfl)) rfl ?_
  first | exact ⟨_,_,_,_,rfl,ST.out.M⟩ | exact ⟨_,by first | rfl | (simp <;> rfl),_,_,_,ST.out.M⟩ | exact ⟨_,_,_,by first | rfl | (simp <;> rfl),ST.out.M⟩
 rw [if_neg c4] at h
 by_cases c10 : op = 10
 ·subst c10
  rw [if_pos rfl] at h
  by_cases cL : (ns.length : Int) = 4000
  ·rw [if_pos cL] at h
   obtain ⟨rfl,rfl,rfl,rfl⟩ := inj4 h
   clear h
   have pHE0 : ((ns.length : Int) == 4000) = true := beq_iff_eq.mpr cL
   clear cL
   refine hG.out ?_
   clear hG G
   replace zc1 := ce2_ ST 3
   replace zc2 := ce3_ ST 2
   replace zc3 := ce3_ ST 1
   replace zc4 := ce5_ ST 0
   replace yH := ST.out.ck 0 rfl
   go_wp2
   replace ST := aM_ (ST.out.put3 1 rfl (.slice (some ⟨gT,0,none⟩) ts.length c1_0) (.slice A1_1 n1_1 c1_1) (.slice A1_2 ns.length c1_2))
   refine bodyPost_ret (results_ct rfl _ _ gb3 28 _ (0,0) _ rfl (ST.out.bk 1 rfl) Try.underlying28 rfl (by kernel_rfl)) rfl ?_
   first | exact ⟨_,_,_,_,rfl,ST.out.M⟩ | exact ⟨_,by first | rfl | (simp <;> rfl),_,_,_,ST.out.M⟩ | exact ⟨_,_,_,by first | rfl | (simp <;> rfl),ST.out.M⟩
  rw [if_neg cL] at h
  by_cases ha0 : 0 ≤ a
  case neg => rw [if_neg ha0] at h;cases h
  rw [if_pos ha0] at h
  by_cases ha1 : a < ((rd_T107 ts who).f1.length : Int)
  case neg => rw [if_neg ha1] at h;cases h
  rw [if_pos ha1] at h
  by_cases hl0 : ns.length < 8796093022208
  case neg => rw [if_neg hl0] at h;cases h
  rw [if_pos hl0] at h
  unfold spec_l4Step.go at h
  replace h := Option.bind_eq_some_iff.mp h
  obtain ⟨t5,hgo,h⟩ := h
  try dsimp only at h
  obtain ⟨rfl,rfl,hns,rfl⟩ := inj4 h
  clear h
  replace hns := hns.symm
  have HA0 := aM_ ha0
  clear ha0
  have HA1 := aM_ ha1
  clear ha1
  have HL0 := aM_ hl0
  clear hl0
  have HNS := aM_ hns
  clear hns
  have HGO := aM_ hgo
  clear hgo
  have pHA0 := eq_true HA0.out
  have pHA1 := eq_true HA1.out
  have pHE0 : ((ns.length : Int) == 4000) = false := beq_eq_false_iff_ne.mpr cL
  clear cL
  obtain ⟨gR,cR_,eR_,-,-,-⟩ := Kd.R_form HRR.out (by have := HA0.out;have := HA1.out;omega)
  injection eR_ with eR_ eR1_ eR2_
  clear eR1_ eR2_
  subst eR_
  have HPR := aM_ (HOKR.out gR (HRR.out.1 gR rfl)).1
  have HRT : Aside0 (gT ≠ gR) := ⟨fun e_ => (HOKR.out gR (HRR.out.1 gR rfl)).2 e_.symm⟩
  refine hG.out ?_
  clear hG G
  try go_wp2
  replace ST := aM_ ST.out.drew
  refine sTa_ 13 (fun w' => C3 w' gb2 (.slice (some ⟨gT,0,none⟩) ts.length c1_0) (.slice A1_1 n1_1 c1_1) (.slice A1_2 ns.length c1_2) ∧ C5 w' gb4 (.int .i64 10) (.int .i64 r) (.int .i64 a) (.int .i64 bb) (.int .i64 n) ∧ w'.cell? ⟨gR,(a).toNat,none⟩ = some (.int .i64 (rd (rd_T107 ts who).f1 a))) [10,12] ⟨cw3 (ST.out.bk 2 rfl),cw5 (ST.out.bk 0 rfl),(ST.out.M.setReg who HI0.out HI1.out (ST.out.ck 0 rfl) a HA0.out HA1.out 0).2.2.2.1⟩ (fun hHeld => ?_)
  generalize (((((w4.setCell ⟨gb4,0,none⟩ (.int .i64 10)).setCell ⟨gb4,1,none⟩ (.int .i64 r)).setCell ⟨gb4,2,none⟩ (.int .i64 a)).setCell ⟨gb4,3,none⟩ (.int .i64 bb)).setCell ⟨gb4,4,none⟩ (.int .i64 n)).drew = w5 at ST hHeld ⊢
  refine jU_ 0 125 13 1 ?_
  refine jU_ 2 127 13 5 ?_
  refine jU_ 3 128 13 13 ?_
  refine jU_ 4 129 13 29 ?_
  refine jK3_ 1 126 13 31 ?_
  refine jK3_ 5 130 13 63 ?_
  refine jU_ 6 131 13 127 ?_
  refine jK3_ 7 132 13 255 ?_
  refine jU_ 8 133 13 511 ?_
  refine jN_ 9 134 13 1023 (fun K hK => ?_)
  refine value_ (w1 := ?_) (v := ?_) (by rfl) rfl ?_ ?_
  rotate_left 2
  ·go_simp
   constructor
   ·rfl
   ·rfl
  refine kO_ hK (some 134) ⟨cw3 (blk_alloc (ST.out.bk 2 rfl) _),cw5 (blk_alloc (ST.out.bk 0 rfl) _),(World.cell?_alloc_lt _ _ _ (World.block_lt_of_cell? _ _ (ST.out.M.setReg who HI0.out HI1.out (ST.out.ck 0 rfl) a HA0.out HA1.out 0).2.2.2.1)).trans (ST.out.M.setReg who HI0.out HI1.out (ST.out.ck 0 rfl) a HA0.out HA1.out 0).2.2.2.1⟩ (fun hHeld => ?_)
  clear hK K
  refine last_ (i := 10) (N := some 135) (mk_ 13 2047) rfl rfl (by kernel_rfl) (by decide) (fun K hK => ?_)
  refine Kd.R_append_step k35 (w0 := w) wp.heap.size (by rfl) (.tmp 126) (.tmp 134) 26 35 (.agg #[(.int .i64 0),(.int .i64 0)]) 16 rfl Try.underlying26 info35 rfl (by decide) (by omega) (.slice A1_2 ns.length c1_2) ns (⟨who,(rd (rd_T107 ts who).f1 a)⟩ : S35) [.int .i64 who,.int .i64 (rd (rd_T107 ts who).f1 a)] (fun k_ => PN k_ ∨ w5.heap.size ≤ k_) (fun _ => False) rfl rfl ?aP (fun _ hk => hk.elim) ?aF ?aO ?aB ?aS ?aL ?_
  (case aP => exact k35_mkM _ _ _ (⟨who,(rd (rd_T107 ts who).f1 a)⟩ : S35))
  (case aB => exact ST.out.M.B)
  (case aF => exact (fun _ h_ => .inr h_))
  (case aO => exact Kd.R_mono ST.out.M.N (fun _ h_ => .inl h_))
  (case aS => exact Nat.le_trans ST.out.M.bn ST.out.M.sz)
  (case aL => have := HL0.out;omega)
  intro vP w6 ho hb hg hat
  rw [← HNS.out] at ho
  replace ST := aM_ (ST.out.grown hg ho hb (by simp [nt,sb]))
  obtain ⟨Ap,cp,ep⟩ := Kd.R_slice ST.out.M.N
  subst ep
  clear ho hb hg hat
  refine hK.out _ _ ?_
  clear hK K
  refine norm_ (a' := ?_) ?_ ?_
  rotate_left
  ·show Act.put _ (some 135) _ = _
   simp only [pt_,pn_,sI_,s0_,s1_,i64_w,i32_w]
   rfl
  refine jU_ 11 136 13 4095 ?_
  refine last_ (i := 12) (N := none) (mk_ 13 8191) rfl rfl (by kernel_rfl) (by decide) (fun K hK => ?_)
  have zs := cel3 (ST.out.bk 2 rfl)
  refine skip_ (w1 := ?_) (by rfl) rfl ?_ ?_
  rotate_left
  ·go_simp
   rfl
  refine hK.out _ _ ?_
  clear hK K
  refine done_ (by kernel_rfl) ?_
  clear zs
  replace ST := aM_ (ST.out.put1 2 rfl (.slice Ap ns'.length cp))
  (try clear yH zo24)
  replace zc1 := ce2_ ST 3
  replace zc2 := ce3_ ST 2
  replace zc4 := ce5_ ST 0
  go_wp2_with (first | (refine gL_ (some 163) Try.func174 #[.agg #[.slice A0_0 l0_0.length c0_0,.slice (some ad3) l0_1.length c0_1],.agg #[.slice (some ⟨gT,0,none⟩) ts.length c1_0,.slice A1_1 n1_1 c1_1,.slice Ap ns'.length cp],.int .i64 who,.int .i64 (wrap64 ((rd_T107 ts who).f0 + 1))] ?_;(with_reducible refine (spec_l4Go.calls _ _ _ _ _ l0_1 _ _ _ _ _ _ _ _ _ _ _ _ who (wrap64 ((rd_T107 ts who).f0 + 1)) t5 _ ?s31_1 ST.out.M.enter HGO.out).mono ?_);(case s31_1 => exact Kd.C_below HP1.out (Below.trans HW.out ST.out.M.B));rintro e w7 ⟨rfl,hMg⟩;refine ⟨_,rfl,?_⟩;replace ST := aM_ (ST.out.leave hMg);clear hMg;(try clear zc1 zc2 zc4);replace zc3 := ce3_ ST 1))
  replace ST := aM_ (ST.out.put3 1 rfl (.slice (some ⟨gT,0,none⟩) ts.length c1_0) (.slice A1_1 n1_1 c1_1) (.slice Ap ns'.length cp))
  refine bodyPost_ret (results_ct rfl _ _ gb3 28 _ (0,0) _ rfl (ST.out.bk 1 rfl) Try.underlying28 rfl (by kernel_rfl)) rfl ?_
  first | exact ⟨_,_,_,_,rfl,ST.out.M⟩ | exact ⟨_,by first | rfl | (simp <;> rfl),_,_,_,ST.out.M⟩ | exact ⟨_,_,_,by first | rfl | (simp <;> rfl),ST.out.M⟩
 rw [if_neg c10] at h
 by_cases c11 : op = 11
 ·subst c11
  rw [if_pos rfl] at h
  unfold spec_l4Step.go at h
  replace h := Option.bind_eq_some_iff.mp h
  obtain ⟨t5,hgo,h⟩ := h
  try dsimp only at h
  obtain ⟨rfl,rfl,rfl,rfl⟩ := inj4 h
  clear h
  have HGO := aM_ hgo
  clear hgo
  refine hG.out ?_
  clear hG G
  go_wp2_with (first | (refine gL_ (some 163) Try.func174 #[.agg #[.slice A0_0 l0_0.length c0_0,.slice (some ad3) l0_1.length c0_1],.agg #[.slice (some ⟨gT,0,none⟩) ts.length c1_0,.slice A1_1 n1_1 c1_1,.slice A1_2 ns.length c1_2],.int .i64 who,.int .i64 n] ?_;(with_reducible refine (spec_l4Go.calls _ _ _ _ _ l0_1 _ _ _ _ _ _ _ _ _ _ _ _ who n t5 _ ?s32_1 ST.out.M.enter HGO.out).mono ?_);(case s32_1 => exact Kd.C_below HP1.out (Below.trans HW.out ST.out.M.B));rintro e w5 ⟨rfl,hMg⟩;refine ⟨_,rfl,?_⟩;replace ST := aM_ (ST.out.leave hMg);clear hMg;(try clear yH zc1 zc2 zc4 zo24);replace zc3 := ce3_ ST 1))
  replace ST := aM_ (ST.out.put3 1 rfl (.slice (some ⟨gT,0,none⟩) ts.length c1_0) (.slice A1_1 n1_1 c1_1) (.slice A1_2 ns.length c1_2))
  refine bodyPost_ret (results_ct rfl _ _ gb3 28 _ (0,0) _ rfl (ST.out.bk 1 rfl) Try.underlying28 rfl (by kernel_rfl)) rfl ?_
  first | exact ⟨_,_,_,_,rfl,ST.out.M⟩ | exact ⟨_,by first | rfl | (simp <;> rfl),_,_,_,ST.out.M⟩ | exact ⟨_,_,_,by first | rfl | (simp <;> rfl),ST.out.M⟩
 rw [if_neg c11] at h
 by_cases c12 : op = 12
 ·subst c12
  rw [if_pos rfl] at h
  by_cases ha0 : 0 ≤ a
  case neg => rw [if_neg ha0] at h;cases h
  rw [if_pos ha0] at h
  by_cases ha1 : a < ((rd_T107 ts who).f1.length : Int)
  case neg => rw [if_neg ha1] at h;cases h
  rw [if_pos ha1] at h
  have HA0 := aM_ ha0
  clear ha0
  have HA1 := aM_ ha1
  clear ha1
  have pHA0 := eq_true HA0.out
  have pHA1 := eq_true HA1.out
  obtain ⟨gR,cR_,eR_,-,-,-⟩ := Kd.R_form HRR.out (by have := HA0.out;have := HA1.out;omega)
  injection eR_ with eR_ eR1_ eR2_
  clear eR1_ eR2_
  subst eR_
  have HPR := aM_ (HOKR.out gR (HRR.out.1 gR rfl)).1
  have HRT : Aside0 (gT ≠ gR) := ⟨fun e_ => (HOKR.out gR (HRR.out.1 gR rfl)).2 e_.symm⟩
  by_cases cZ : rd (rd_T107 ts who).f1 a = 0
  ·rw [if_pos cZ] at h
   unfold spec_l4Step.go at h
   replace h := Option.bind_eq_some_iff.mp h
   obtain ⟨t5,hgo,h⟩ := h
   try dsimp only at h
   obtain ⟨rfl,rfl,rfl,rfl⟩ := inj4 h
   clear h
   have HGO := aM_ hgo
   clear hgo
   have pHE0 : (rd (rd_T107 ts who).f1 a == 0) = true := beq_iff_eq.mpr cZ
   clear cZ
   refine hG.out ?_
   clear hG G
   obtain ⟨-,-,-,hu_,hfu_,-,-⟩ := ST.out.M.setReg who HI0.out HI1.out (ST.out.ck 0 rfl) a HA0.out HA1.out 0
   go_wp2_with (first | (refine gL_ (some 163) Try.func174 #[.agg #[.slice A0_0 l0_0.length c0_0,.slice (some ad3) l0_1.length c0_1],.agg #[.slice (some ⟨gT,0,none⟩) ts.length c1_0,.slice A1_1 n1_1 c1_1,.slice A1_2 ns.length c1_2],.int .i64 who,.int .i64 n] ?_;(with_reducible refine (spec_l4Go.calls _ _ _ _ _ l0_1 _ _ _ _ _ _ _ _ _ _ _ _ who n t5 _ ?s33_1 ST.out.M.enter HGO.out).mono ?_);(case s33_1 => exact Kd.C_below HP1.out (Below.trans HW.out ST.out.M.B));rintro e w5 ⟨rfl,hMg⟩;refine ⟨_,rfl,?_⟩;replace ST := aM_ (ST.out.leave hMg);clear hMg;(try clear yH zc1 zc2 zc4 zo24);replace zc3 := ce3_ ST 1))
   replace ST := aM_ (ST.out.put3 1 rfl (.slice (some ⟨gT,0,none⟩) ts.length c1_0) (.slice A1_1 n1_1 c1_1) (.slice A1_2 ns.length c1_2))
   refine bodyPost_ret (results_ct rfl _ _ gb3 28 _ (0,0) _ rfl (ST.out.bk 1 rfl) Try.underlying28 rfl (by kernel_rfl)) rfl ?_
   first | exact ⟨_,_,_,_,rfl,ST.out.M⟩ | exact ⟨_,by first | rfl | (simp <;> rfl),_,_,_,ST.out.M⟩ | exact ⟨_,_,_,by first | rfl | (simp <;> rfl),ST.out.M⟩
  ·rw [if_neg cZ] at h
   unfold spec_l4Step.go at h
   replace h := Option.bind_eq_some_iff.mp h
   obtain ⟨t5,hgo,h⟩ := h
   try dsimp only at h
   obtain ⟨rfl,rfl,rfl,rfl⟩ := inj4 h
   clear h
   have HGO := aM_ hgo
   clear hgo
   have pHE0 : (rd (rd_T107 ts who).f1 a == 0) = false := beq_eq_false_iff_ne.mpr cZ
   clear cZ
   refine hG.out ?_
   clear hG G
   obtain ⟨-,-,-,hu_,hfu_,-,-⟩ := ST.out.M.setReg who HI0.out HI1.out (ST.out.ck 0 rfl) a HA0.out HA1.out 0
   go_wp2_with (first | (refine gL_ (some 163) Try.func174 #[.agg #[.slice A0_0 l0_0.length c0_0,.slice (some ad3) l0_1.length c0_1],.agg #[.slice (some ⟨gT,0,none⟩) ts.length c1_0,.slice A1_1 n1_1 c1_1,.slice A1_2 ns.length c1_2],.int .i64 who,.int .i64 (wrap64 ((rd_T107 ts who).f0 + 1))] ?_;(with_reducible refine (spec_l4Go.calls _ _ _ _ _ l0_1 _ _ _ _ _ _ _ _ _ _ _ _ who (wrap64 ((rd_T107 ts who).f0 + 1)) t5 _ ?s34_1 ST.out.M.enter HGO.out).mono ?_);(case s34_1 => exact Kd.C_below HP1.out (Below.trans HW.out ST.out.M.B));rintro e w5 ⟨rfl,hMg⟩;refine ⟨_,rfl,?_⟩;replace ST := aM_ (ST.out.leave hMg);clear hMg;(try clear yH zc1 zc2 zc4 zo24);replace zc3 := ce3_ ST 1))
   replace ST := aM_ (ST.out.put3 1 rfl (.slice (some ⟨gT,0,none⟩) ts.length c1_0) (.slice A1_1 n1_1 c1_1) (.slice A1_2 ns.length c1_2))
   refine bodyPost_ret (results_ct rfl _ _ gb3 28 _ (0,0) _ rfl (ST.out.bk 1 rfl) Try.underlying28 rfl (by kernel_rfl)) rfl ?_
   first | exact ⟨_,_,_,_,rfl,ST.out.M⟩ | exact ⟨_,by first | rfl | (simp <;> rfl),_,_,_,ST.out.M⟩ | exact ⟨_,_,_,by first | rfl | (simp <;> rfl),ST.out.M⟩
 rw [if_neg c12] at h
 by_cases c13 : op = 13
 ·subst c13
  rw [if_pos rfl] at h
  obtain ⟨rfl,rfl,rfl,rfl⟩ := inj4 h
  clear h
  refine hG.out ?_
  clear hG G
  replace zc1 := ce2_ ST 3
  replace zc2 := ce3_ ST 2
  replace zc3 := ce3_ ST 1
  replace zc4 := ce5_ ST 0
  replace yH := ST.out.ck 0 rfl
  obtain ⟨A9,c9,hx_0,hx_1,hx_2,hx_f,-⟩ := ST.out.M.atT who HI0.out HI1.out
  have hxf2 := hx_f 2
  go_wp2_with (first | ((with_reducible refine gate_store (t := 3) (p := 157) rfl ?_);refine store_event (t := 3) (p := 157) (v := ?vo35) (w1 := ((((((w4.setCell ⟨gb4,0,none⟩ (.int .i64 13)).setCell ⟨gb4,1,none⟩ (.int .i64 r)).setCell ⟨gb4,2,none⟩ (.int .i64 a)).setCell ⟨gb4,3,none⟩ (.int .i64 bb)).setCell ⟨gb4,4,none⟩ (.int .i64 n)).setCell ⟨gT,(who).toNat * 3 + 2,none⟩ (.int .i64 1))) ?hg ?ho ?hn ?hr ?_;(case ho => rfl);(case hg => rfl);(case hn => rfl);(case hr => first | (go_simp;done) | (go_simp;rfl));intro w5 hw;subst hw;replace ST := aM_ (ST.out.own0 (ST.out.M.setT who HI0.out HI1.out 1).2 (.inl HPT.out));(try clear yH zo24);replace zc1 := ce2_ ST 3;replace zc2 := ce3_ ST 2;replace zc3 := ce3_ ST 1;replace zc4 := ce5_ ST 0))
  replace ST := aM_ (ST.out.put3 1 rfl (.slice (some ⟨gT,0,none⟩) ts.length c1_0) (.slice A1_1 n1_1 c1_1) (.slice A1_2 ns.length c1_2))
  refine bodyPost_ret (results_ct rfl _ _ gb3 28 _ (0,0) _ rfl (ST.out.bk 1 rfl) Try.underlying28 rfl (by kernel_rfl)) rfl ?_
  first | exact ⟨_,_,_,_,rfl,ST.out.M⟩ | exact ⟨_,by first | rfl | (simp <;> rfl),_,_,_,ST.out.M⟩ | exact ⟨_,_,_,by first | rfl | (simp <;> rfl),ST.out.M⟩
 rw [if_neg c13] at h
 have pHE_1 : (op == 1) = false := beq_eq_false_iff_ne.mpr c1
 have pHE_2 : (op == 2) = false := beq_eq_false_iff_ne.mpr c2
 have pHE_3 : (op == 3) = false := beq_eq_false_iff_ne.mpr c3
 have pHE_4 : (op == 4) = false := beq_eq_false_iff_ne.mpr c4
 have pHE_10 : (op == 10) = false := beq_eq_false_iff_ne.mpr c10
 have pHE_11 : (op == 11) = false := beq_eq_false_iff_ne.mpr c11
 have pHE_12 : (op == 12) = false := beq_eq_false_iff_ne.mpr c12
 have pHE_13 : (op == 13) = false := beq_eq_false_iff_ne.mpr c13
 clear c1 c2 c3 c4 c10 c11 c12 c13
 replace h := Option.bind_eq_some_iff.mp h
 obtain ⟨⟨t1,t2,t3⟩,hch,h⟩ := h
 try dsimp only at h
 have HCH := aM_ hch
 clear hch
 have HH := aM_ h
 clear h
 refine hG.out ?_
 clear hG G
 go_wp2_with (first | (refine gL_ (some 42) Try.func173 #[.agg #[.slice (some ⟨gT,0,none⟩) ts.length c1_0,.slice A1_1 n1_1 c1_1,.slice A1_2 ns.length c1_2],.int .i64 who,.agg #[.int .i64 op,.int .i64 r,.int .i64 a,.int .i64 bb,.int .i64 n]] ?_;(with_reducible refine (spec_l4Chan.calls k _ _ _ _ _ _ _ _ _ _ _ _ who op r a bb n t1 t2 t3 _ ST.out.M.enter HCH.out).mono ?_);rintro e w5 ⟨n1,PC1,rfl,hMg⟩;refine ⟨_,rfl,?_⟩;replace ST := aM_ (ST.out.leave hMg);clear hMg;(try clear yH zo24);replace zc1 := ce2_ ST 3;replace zc2 := ce3_ ST 2;replace zc3 := ce3_ ST 1;replace zc4 := ce5_ ST 0) | (refine bX_ 12 (cs := #[.slice none 0 0,.slice none 0 0,.slice none 0 0]) (t := 28) ?_;intro gb6 hg w6 hbox hb;replace ST := aM_ (ST.out.box hg hbox hb);clear hg hbox hb;have zo37 := cel3 (ST.out.bk 0 rfl);replace ST := aM_ (ST.out.put3 0 rfl (.slice (some ⟨gT,0,none⟩) ts.length c1_0) (.slice A1_1 n1_1 c1_1) (.slice A1_2 ns.length c1_2));replace zc1 := ce2_ ST 4;replace zc2 := ce3_ ST 3;replace zc3 := ce3_ ST 2;replace zc4 := ce5_ ST 1;replace zc6 := ce3_ ST 0;refine hide_ (fun G hG => ?_)))
 have h := HH.out
 clear HH
 by_cases d1 : t3 = 1
 ·rw [if_pos d1] at h
  obtain ⟨rfl,rfl,rfl,rfl⟩ := inj4 h
  clear h
  have pHE0 : (t3 == 1) = true := beq_iff_eq.mpr d1
  clear d1
  refine hG.out ?_
  clear hG G
  go_wp2
  replace ST := aM_ (ST.out.put3 2 rfl (.slice (some ⟨gT,0,none⟩) ts.length c1_0) (.slice A1_1 n1_1 c1_1) (.slice A1_2 ns.length c1_2))
  refine bodyPost_ret (results_ct rfl _ _ gb3 28 _ (0,0) _ rfl (ST.out.bk 2 rfl) Try.underlying28 rfl (by kernel_rfl)) rfl ?_
  first | exact ⟨_,_,_,_,rfl,ST.out.M⟩ | exact ⟨_,by first | rfl | (simp <;> rfl),_,_,_,ST.out.M⟩ | exact ⟨_,_,_,by first | rfl | (simp <;> rfl),ST.out.M⟩
 rw [if_neg d1] at h
 have pHE0 : (t3 == 1) = false := beq_eq_false_iff_ne.mpr d1
 clear d1
 by_cases d2 : t3 = 2
 ·rw [if_pos d2] at h
  by_cases hlt : who < (t1.length : Int)
  case neg => rw [if_neg hlt] at h;cases h
  rw [if_pos hlt] at h
  obtain ⟨rfl,rfl,rfl,rfl⟩ := inj4 h
  clear h
  have HLT := aM_ hlt
  clear hlt
  have pHE1 : (t3 == 2) = true := beq_iff_eq.mpr d2
  clear d2
  refine hG.out ?_
  clear hG G
  obtain ⟨A9,c9,hx_0,hx_1,hx_2,hx_f,-⟩ := ST.out.M.atT who HI0.out HLT.out
  have hxf2 := hx_f 2
  go_wp2_with (first | ((with_reducible refine gate_store (t := 3) (p := 55) rfl ?_);refine store_event (t := 3) (p := 55) (v := ?vo38) (w1 := ((((w6.setCell ⟨gb6,0,none⟩ (.slice (some ⟨gT,0,none⟩) ts.length c1_0)).setCell ⟨gb6,1,none⟩ (.slice A1_1 n1_1 c1_1)).setCell ⟨gb6,2,none⟩ (.slice A1_2 ns.length c1_2)).setCell ⟨gT,(who).toNat * 3 + 2,none⟩ (.int .i64 2))) ?hg ?ho ?hn ?hr ?_;(case ho => rfl);(case hg => rfl);(case hn => rfl);(case hr => first | (go_simp;done) | (go_simp;rfl));intro w7 hw;subst hw;replace ST := aM_ (ST.out.own0 (ST.out.M.setT who HI0.out HLT.out 2).2 (.inl HPT.out));(try clear zo37);replace zc1 := ce2_ ST 4;replace zc2 := ce3_ ST 3;replace zc3 := ce3_ ST 2;replace zc4 := ce5_ ST 1;replace zc6 := ce3_ ST 0))
  replace ST := aM_ (ST.out.put3 2 rfl (.slice (some ⟨gT,0,none⟩) ts.length c1_0) (.slice A1_1 n1_1 c1_1) (.slice A1_2 ns.length c1_2))
  refine bodyPost_ret (results_ct rfl _ _ gb3 28 _ (0,0) _ rfl (ST.out.bk 2 rfl) Try.underlying28 rfl (by kernel_rfl)) rfl ?_
  first | exact ⟨_,_,_,_,rfl,ST.out.M⟩ | exact ⟨_,by first | rfl | (simp <;> rfl),_,_,_,ST.out.M⟩ | exact ⟨_,_,_,by first | rfl | (simp <;> rfl),ST.out.M⟩
 rw [if_neg d2] at h
 unfold spec_l4Step.go at h
 replace h := Option.bind_eq_some_iff.mp h
 obtain ⟨t5,hgo,h⟩ := h
 try dsimp only at h
 obtain ⟨rfl,rfl,rfl,rfl⟩ := inj4 h
 clear h
 have HGO := aM_ hgo
 clear hgo
 have pHE1 : (t3 == 2) = false := beq_eq_false_iff_ne.mpr d2
 clear d2
 refine hG.out ?_
 clear hG G
 have zo39 := cel3 (ST.out.bk 3 rfl)
 replace ST := aM_ (ST.out.put3 3 rfl (.slice (some ⟨gT,0,none⟩) ts.length c1_0) (.slice A1_1 n1_1 c1_1) (.slice A1_2 ns.length c1_2))
 replace zc1 := ce2_ ST 4
 replace zc2 := ce3_ ST 3
 replace zc3 := ce3_ ST 2
 replace zc4 := ce5_ ST 1
 replace zc6 := ce3_ ST 0
 go_wp2_with (first | (refine gL_ (some 163) Try.func174 #[.agg #[.slice A0_0 l0_0.length c0_0,.slice (some ad3) l0_1.length c0_1],.agg #[.slice (some ⟨gT,0,none⟩) ts.length c1_0,.slice A1_1 n1_1 c1_1,.slice A1_2 ns.length c1_2],.int .i64 who,.int .i64 (wrap64 ((rd_T107 ts who).f0 + 1))] ?_;(with_reducible refine (spec_l4Go.calls _ _ _ _ _ l0_1 _ _ _ _ _ _ _ _ _ _ _ _ who (wrap64 ((rd_T107 ts who).f0 + 1)) t5 _ ?s40_1 ST.out.M.enter HGO.out).mono ?_);(case s40_1 => exact Kd.C_below HP1.out (Below.trans HW.out ST.out.M.B));rintro e w7 ⟨rfl,hMg⟩;refine ⟨_,rfl,?_⟩;replace ST := aM_ (ST.out.leave hMg);clear hMg;(try clear zc1 zc2 zc4 zc6 zo37 zo39);replace zc3 := ce3_ ST 2))
 replace ST := aM_ (ST.out.put3 2 rfl (.slice (some ⟨gT,0,none⟩) ts.length c1_0) (.slice A1_1 n1_1 c1_1) (.slice A1_2 ns.length c1_2))
 refine bodyPost_ret (results_ct rfl _ _ gb3 28 _ (0,0) _ rfl (ST.out.bk 2 rfl) Try.underlying28 rfl (by kernel_rfl)) rfl ?_
 first | exact ⟨_,_,_,_,rfl,ST.out.M⟩ | exact ⟨_,by first | rfl | (simp <;> rfl),_,_,_,ST.out.M⟩ | exact ⟨_,_,_,by first | rfl | (simp <;> rfl),ST.out.M⟩
end Go.Proofs.Ytobachfngmpeiaa.PFnExactAble
