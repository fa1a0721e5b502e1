/- Part of the proof of FnExactAble. -/
import Derived.Test.YtobachfngmpeiaaZFnExactAblea13
import Derived.Test.YtobachfngmpeiaaZFnExactAbles
namespace Go.Proofs.Ytobachfngmpeiaa.PFnExactAble
open Go.RowKit Go.Proofs.YtobachfngmpeiaaW.PrintWords Go.Proofs.YtobachfngmpeiaaW.PrintLast Go.Proofs.YtobachfngmpeiaaW.PrintMore
attribute [local go_sem] max2_int min2_int max_two min_two max_three min_three max_four min_four
set_option linter.unusedVariables false
set_option linter.unusedSimpArgs false
set_option maxHeartbeats 8000000 in
set_option maxRecDepth 100000 in
theorem spec_l4Chan.calls {b n0 : Nat} {PT PC PN : Nat → Prop} (k : Nat) (A1_0 : Option Addr) (n1_0 c1_0 : Nat) (ts : List S107) (A1_1 : Option Addr) (n1_1 c1_1 : Nat) (cs : List S94) (A1_2 : Option Addr) (n1_2 c1_2 : Nat) (ns : List S35) (who op r a bb n : Int) (ts' : List S107) (cs' : List S94) (how : Int) (w : World) (hM : Mine w b n0 (fun k => PT k ∨ PC k ∨ PN k) PT PC PN w (.slice A1_0 n1_0 c1_0) (.slice A1_1 n1_1 c1_1) (.slice A1_2 n1_2 c1_2) ts cs ns) (h : spec_l4Chan.f k ts cs who op r a bb n = some (ts',cs',how)) :
  Calls Try.prog 173 #[.agg #[.slice A1_0 n1_0 c1_0,.slice A1_1 n1_1 c1_1,.slice A1_2 n1_2 c1_2],.int .i64 who,.agg #[.int .i64 op,.int .i64 r,.int .i64 a,.int .i64 bb,.int .i64 n]] w fun e w' => ∃ n1 PC1,e = .returned (.tuple #[.agg #[.slice A1_0 n1_0 c1_0,.slice A1_1 n1_1 c1_1,.slice A1_2 n1_2 c1_2],.int .i64 how]) ∧ Mine w b n1 (fun k => PT k ∨ PC k ∨ PN k) PT PC1 PN w' (.slice A1_0 n1_0 c1_0) (.slice A1_1 n1_1 c1_1) (.slice A1_2 n1_2 c1_2) ts' cs' ns := by
 unfold spec_l4Chan.f at h
 by_cases h0 : 0 ≤ who
 case neg => rw [if_neg h0] at h;cases h
 rw [if_pos h0] at h
 by_cases h1 : who < (ts.length : Int)
 case neg => rw [if_neg h1] at h;cases h
 rw [if_pos h1] at h
 by_cases h2 : 0 ≤ n
 case neg => rw [if_neg h2] at h;cases h
 rw [if_pos h2] at h
 by_cases h3 : n < (cs.length : Int)
 case neg => rw [if_neg h3] at h;cases h
 rw [if_pos h3] at h
 obtain ⟨gT,rfl,rfl,hPT,-⟩ := hM.headT who h0 h1
 obtain ⟨gC,rfl,rfl,hPC,-⟩ := hM.headC n h2 h3
 obtain ⟨AR,cr,-,hx1,-,-,okr,hRr,hokr⟩ := hM.atT who h0 h1
 obtain ⟨AL,cl,hy0,hy1,hy2,-,-⟩ := hM.atC n h2 h3
 have hu28 := Try.underlying28
 have hu94 := Try.underlying94
 have ST := aM_ (Own.start hM)
 replace ST := aM_ (ST.out.cell hx1)
 replace ST := aM_ (ST.out.cell hy1)
 replace ST := aM_ (ST.out.cell hy0)
 replace ST := aM_ (ST.out.cell hy2)
 have HH := aM_ h
 have HPT := aM_ hPT
 have HPC := aM_ hPC
 have HI0 := aM_ h0
 have HI1 := aM_ h1
 have HN0 := aM_ h2
 have HN1 := aM_ h3
 have HRR := aM_ hRr
 have HOKR := aM_ hokr
 clear hM hPT hPC h hRr hokr hx1 hy0 hy1 hy2
 replace h0 := eq_true h0
 replace h1 := eq_true h1
 replace h2 := eq_true h2
 replace h3 := eq_true h3
 go_enter Try.func173,Try.ntmps173
 go_wp2_with (first | (refine bX_ 3 (cs := #[.slice (some ⟨gT,0,none⟩) ts.length c1_0,.slice (some ⟨gC,0,none⟩) cs.length c1_1,.slice A1_2 n1_2 c1_2]) (t := 28) ?_;intro gb1 hg w1 hbox hb;replace ST := aM_ (ST.out.box hg hbox hb);clear hg hbox hb;replace zc1 := ce3_ ST 0;replace yC2 := ST.out.ck 0 rfl;replace yC0 := ST.out.ck 1 rfl;replace yC1 := ST.out.ck 2 rfl;replace yH := ST.out.ck 3 rfl) | (refine bX_ 5 (cs := #[.int .i64 op,.int .i64 r,.int .i64 a,.int .i64 bb,.int .i64 n]) (t := 192) ?_;intro gb2 hg w2 hbox hb;replace ST := aM_ (ST.out.box hg hbox hb);clear hg hbox hb;replace zc1 := ce3_ ST 1;replace zc2 := ce5_ ST 0;replace yC2 := ST.out.ck 0 rfl;replace yC0 := ST.out.ck 1 rfl;replace yC1 := ST.out.ck 2 rfl;replace yH := ST.out.ck 3 rfl) | (refine bX_ 6 (cs := #[.slice none 0 0,.slice none 0 0,.slice none 0 0]) (t := 28) ?_;intro gb3 hg w3 hbox hb;replace ST := aM_ (ST.out.box hg hbox hb);clear hg hbox hb;replace zc1 := ce3_ ST 2;replace zc2 := ce5_ ST 1;replace zc3 := ce3_ ST 0;replace yC2 := ST.out.ck 0 rfl;replace yC0 := ST.out.ck 1 rfl;replace yC1 := ST.out.ck 2 rfl;replace yH := ST.out.ck 3 rfl) | (refine bX_ 9 (cs := #[.int .i64 0,.slice none 0 0,.bool false]) (t := 94) ?_;intro gb4 hg w4 hbox hb;replace ST := aM_ (ST.out.box hg hbox hb);clear hg hbox hb;have zo4 := cel3 (ST.out.bk 0 rfl);replace ST := aM_ (ST.out.put3 0 rfl (.int .i64 (rd_T94 cs n).f0) (.slice AL (rd_T94 cs n).f1.length cl) (.bool (rd_T94 cs n).f2));replace ST := aM_ (ST.out.cut 2);(try clear yC0 yC2);replace zc1 := ce3_ ST 3;replace zc2 := ce5_ ST 2;replace zc3 := ce3_ ST 1;replace zc4 := ce3_ ST 0;replace yC1 := ST.out.ck 0 rfl;replace yH := ST.out.ck 1 rfl;refine hide_ (fun G hG => ?_)))
 have h := HH.out
 clear HH
 by_cases c5 : op = 5
 ·subst c5
  rw [if_pos rfl] at h
  by_cases ha0 : 0 ≤ a
  case neg => rw [if_neg ha0] at h;cases h
  rw [if_pos ha0] at h
  by_cases ha1 : a < ((rd_T107 ts who).f1.length : Int)
  case neg => rw [if_neg ha1] at h;cases h
  rw [if_pos ha1] at h
  replace h := Option.bind_eq_some_iff.mp h
  obtain ⟨⟨t1,t2,t3,t4⟩,hf,h⟩ := h
  try dsimp only at h
  obtain ⟨rfl,rfl,rfl⟩ := inj3 h
  clear h
  have HA0 := aM_ ha0
  clear ha0
  have HA1 := aM_ ha1
  clear ha1
  have HF := aM_ hf
  clear hf
  have pHA0 := eq_true HA0.out
  have pHA1 := eq_true HA1.out
  obtain ⟨gR,cR_,eR_,-,-,-⟩ := Kd.R_form HRR.out (by have := HA0.out;have := HA1.out;omega)
  injection eR_ with eR_ eR1_ eR2_
  clear eR1_ eR2_
  subst eR_
  have HPR := aM_ (HOKR.out gR (HRR.out.1 gR rfl)).1
  have HRT : Aside0 (gT ≠ gR) := ⟨fun e_ => (HOKR.out gR (HRR.out.1 gR rfl)).2 e_.symm⟩
  refine hG.out ?_
  clear hG G
  try go_wp2
  replace ST := aM_ ST.out.drew
  refine sTa_ 12 (fun w' => C3 w' gb4 (.int .i64 (rd_T94 cs n).f0) (.slice AL (rd_T94 cs n).f1.length cl) (.bool (rd_T94 cs n).f2) ∧ C5 w' gb2 (.int .i64 5) (.int .i64 r) (.int .i64 a) (.int .i64 bb) (.int .i64 n) ∧ w'.cell? ⟨gR,(a).toNat,none⟩ = some (.int .i64 (rd (rd_T107 ts who).f1 a))) [10] ⟨cw3 (ST.out.bk 0 rfl),cw5 (ST.out.bk 2 rfl),(ST.out.M.setReg who HI0.out HI1.out (ST.out.ck 1 rfl) a HA0.out HA1.out 0).2.2.2.1⟩ (fun hHeld => ?_)
  generalize (((w4.setCell ⟨gb4,0,none⟩ (.int .i64 (rd_T94 cs n).f0)).setCell ⟨gb4,1,none⟩ (.slice AL (rd_T94 cs n).f1.length cl)).setCell ⟨gb4,2,none⟩ (.bool (rd_T94 cs n).f2)).drew = w5 at ST hHeld ⊢
  refine jU_ 1 49 12 2 ?_
  refine jU_ 2 50 12 6 ?_
  refine jK3_ 0 48 12 7 ?_
  refine jK3_ 3 51 12 15 ?_
  refine jU_ 4 52 12 31 ?_
  refine jK3_ 5 53 12 63 ?_
  refine jN_ 6 54 12 127 (fun K hK => ?_)
  refine gO_ Try.func190 #[.agg #[.int .i64 (rd_T94 cs n).f0,.slice AL (rd_T94 cs n).f1.length cl,.bool (rd_T94 cs n).f2],.int .i64 (rd (rd_T107 ts who).f1 a)] ?_
  (with_reducible refine (spec_ChanSend.calls k ((rd_T94 cs n).f0) _ _ ((rd_T94 cs n).f1) ((rd_T94 cs n).f2) (rd (rd_T107 ts who).f1 a) t1 t2 t3 t4 _ ?s5_1 ?s5_2 HF.out).mono ?_)
  (case s5_1 => exact (ST.out.M.readC n HN0.out HN1.out (ST.out.ck 0 rfl)).2)
  (case s5_2 => exact (ST.out.M.readC n HN0.out HN1.out (ST.out.ck 0 rfl)).1)
  rintro e w6 ⟨v9,rfl,ho0,hb⟩
  refine ⟨_,rfl,?_⟩
  obtain ⟨m,hm⟩ : ∃ m_ : Nat,m_ = w5.heap.size := ⟨_,rfl⟩
  rw [← hm] at ho0
  have LTM := aM_ (ST.out.lts hm)
  have MM : Aside0 (n0 ≤ m ∧ w.heap.size ≤ m) := ⟨by rw [hm];exact ⟨ST.out.M.wn,ST.out.M.sz⟩⟩
  replace ST := aM_ (ST.out.below hb)
  obtain ⟨Ao,co,eo⟩ := Kd.R_slice ho0
  subst eo
  have HL := aM_ (Kd.R_lower (Kd.R_mono (ok' := fun k => m ≤ k) (Kd.R_bound ho0) (fun k hk => hk.2.1)) (Nat.le_trans ST.out.M.bn MM.out.2))
  clear ho0 hm
  replace ST := aM_ (ST.out.cut 1)
  (try clear hb)
  refine kO_ hK (some 54) ⟨cw3 (ST.out.bk 0 rfl),cw5 (ST.out.bk 2 rfl),(ST.out.M.setReg who HI0.out HI1.out (ST.out.ck 0 rfl) a HA0.out HA1.out 0).2.2.2.1⟩ (fun hHeld => ?_)
  clear hK K
  refine jU_ 7 47 12 255 ?_
  refine jU_ 8 55 12 511 ?_
  refine jU_ 9 56 12 1023 ?_
  refine last_ (i := 10) (N := none) (mk_ 12 2047) rfl rfl (by kernel_rfl) (by decide) (fun K hK => ?_)
  have zs := cel3 (ST.out.bk 0 rfl)
  refine skip_ (w1 := ?_) (by rfl) rfl ?_ ?_
  rotate_left
  ·go_simp
   rfl
  refine hK.out _ _ ?_
  clear hK K
  refine jU_ 11 11 12 4095 ?_
  refine done_ (by kernel_rfl) ?_
  clear zs
  replace HL := aM_ (rfar3 HL.out (nlt LTM.out 0 rfl) (.int .i64 t1) (.slice Ao t2.length co) (.bool t3))
  replace ST := aM_ (ST.out.put3 0 rfl (.int .i64 t1) (.slice Ao t2.length co) (.bool t3))
  (try clear yC1 zo4)
  replace zc1 := ce3_ ST 3
  replace zc2 := ce5_ ST 2
  replace zc3 := ce3_ ST 1
  replace zc4 := ce3_ ST 0
  replace yH := ST.out.ck 0 rfl
  obtain ⟨A8,c8,hy_0,hy_1,hy_2,hy_f,-⟩ := ST.out.M.atC n HN0.out HN1.out
  have hyf0 := hy_f 0
  have hyf1 := hy_f 1
  have hyf2 := hy_f 2
  simp only [Nat.add_zero] at hyf0
  go_wp2_with (first | ((with_reducible refine gate_store (t := 94) (p := 112) rfl ?_);refine store_event (t := 94) (p := 112) (v := ?vo6) (w1 := ((((((w6.setCell ⟨gb4,0,none⟩ (.int .i64 t1)).setCell ⟨gb4,1,none⟩ (.slice Ao t2.length co)).setCell ⟨gb4,2,none⟩ (.bool t3)).setCell ⟨gC,(n).toNat * 3,none⟩ (.int .i64 t1)).setCell ⟨gC,(n).toNat * 3 + 1,none⟩ (.slice Ao t2.length co)).setCell ⟨gC,(n).toNat * 3 + 2,none⟩ (.bool t3))) ?hg ?ho ?hn ?hr ?_;(case ho => rfl);(case hg => rfl);(case hn => rfl);(case hr => first | (go_simp;done) | (go_simp;rfl));intro w7 hw;subst hw;replace ST := aM_ (ST.out.chan (ST.out.M.setC (x := (⟨t1,t2,t3⟩ : S94)) n HN0.out HN1.out (okl := fun k => m ≤ k) HL.out (fun k hk => ⟨Nat.le_trans MM.out.1 hk,Nat.le_trans MM.out.2 hk⟩)).1 HPC.out LTM.out);clear HL;(try clear yH);replace zc1 := ce3_ ST 3;replace zc2 := ce5_ ST 2;replace zc3 := ce3_ ST 1;replace zc4 := ce3_ ST 0))
  replace ST := aM_ (ST.out.put3 1 rfl (.slice (some ⟨gT,0,none⟩) ts.length c1_0) (.slice (some ⟨gC,0,none⟩) cs.length c1_1) (.slice A1_2 n1_2 c1_2))
  refine bodyPost_ret (results_ct rfl _ _ gb3 28 _ (0,0) _ rfl (ST.out.bk 1 rfl) Try.underlying28 rfl (by kernel_rfl)) rfl ?_
  exact ⟨by first | rfl | (simp <;> rfl),_,_,ST.out.M⟩
 rw [if_neg c5] at h
 by_cases c7 : op = 7
 ·subst c7
  rw [if_pos rfl] at h
  by_cases ha0 : 0 ≤ a
  case neg => rw [if_neg ha0] at h;cases h
  rw [if_pos ha0] at h
  by_cases ha1 : a < ((rd_T107 ts who).f1.length : Int)
  case neg => rw [if_neg ha1] at h;cases h
  rw [if_pos ha1] at h
  replace h := Option.bind_eq_some_iff.mp h
  obtain ⟨⟨t1,t2,t3,t4⟩,hf,h⟩ := h
  try dsimp only at h
  have HH := aM_ h
  clear h
  have HA0 := aM_ ha0
  clear ha0
  have HA1 := aM_ ha1
  clear ha1
  have HF := aM_ hf
  clear hf
  have pHA0 := eq_true HA0.out
  have pHA1 := eq_true HA1.out
  obtain ⟨gR,cR_,eR_,-,-,-⟩ := Kd.R_form HRR.out (by have := HA0.out;have := HA1.out;omega)
  injection eR_ with eR_ eR1_ eR2_
  clear eR1_ eR2_
  subst eR_
  have HPR := aM_ (HOKR.out gR (HRR.out.1 gR rfl)).1
  have HRT : Aside0 (gT ≠ gR) := ⟨fun e_ => (HOKR.out gR (HRR.out.1 gR rfl)).2 e_.symm⟩
  refine hG.out ?_
  clear hG G
  try go_wp2
  replace ST := aM_ ST.out.drew
  refine sTa_ 12 (fun w' => C3 w' gb4 (.int .i64 (rd_T94 cs n).f0) (.slice AL (rd_T94 cs n).f1.length cl) (.bool (rd_T94 cs n).f2) ∧ C5 w' gb2 (.int .i64 7) (.int .i64 r) (.int .i64 a) (.int .i64 bb) (.int .i64 n) ∧ w'.cell? ⟨gR,(a).toNat,none⟩ = some (.int .i64 (rd (rd_T107 ts who).f1 a))) [10] ⟨cw3 (ST.out.bk 0 rfl),cw5 (ST.out.bk 2 rfl),(ST.out.M.setReg who HI0.out HI1.out (ST.out.ck 1 rfl) a HA0.out HA1.out 0).2.2.2.1⟩ (fun hHeld => ?_)
  generalize (((w4.setCell ⟨gb4,0,none⟩ (.int .i64 (rd_T94 cs n).f0)).setCell ⟨gb4,1,none⟩ (.slice AL (rd_T94 cs n).f1.length cl)).setCell ⟨gb4,2,none⟩ (.bool (rd_T94 cs n).f2)).drew = w5 at ST hHeld ⊢
  refine jU_ 1 61 12 2 ?_
  refine jU_ 2 62 12 6 ?_
  refine jK3_ 0 60 12 7 ?_
  refine jK3_ 3 63 12 15 ?_
  refine jU_ 4 64 12 31 ?_
  refine jK3_ 5 65 12 63 ?_
  refine jN_ 6 66 12 127 (fun K hK => ?_)
  refine gO_ Try.func190 #[.agg #[.int .i64 (rd_T94 cs n).f0,.slice AL (rd_T94 cs n).f1.length cl,.bool (rd_T94 cs n).f2],.int .i64 (rd (rd_T107 ts who).f1 a)] ?_
  (with_reducible refine (spec_ChanSend.calls k ((rd_T94 cs n).f0) _ _ ((rd_T94 cs n).f1) ((rd_T94 cs n).f2) (rd (rd_T107 ts who).f1 a) t1 t2 t3 t4 _ ?s7_1 ?s7_2 HF.out).mono ?_)
  (case s7_1 => exact (ST.out.M.readC n HN0.out HN1.out (ST.out.ck 0 rfl)).2)
  (case s7_2 => exact (ST.out.M.readC n HN0.out HN1.out (ST.out.ck 0 rfl)).1)
  rintro e w6 ⟨v9,rfl,ho0,hb⟩
  refine ⟨_,rfl,?_⟩
  obtain ⟨m,hm⟩ : ∃ m_ : Nat,m_ = w5.heap.size := ⟨_,rfl⟩
  rw [← hm] at ho0
  have LTM := aM_ (ST.out.lts hm)
  have MM : Aside0 (n0 ≤ m ∧ w.heap.size ≤ m) := ⟨by rw [hm];exact ⟨ST.out.M.wn,ST.out.M.sz⟩⟩
  replace ST := aM_ (ST.out.below hb)
  obtain ⟨Ao,co,eo⟩ := Kd.R_slice ho0
  subst eo
  have HL := aM_ (Kd.R_lower (Kd.R_mono (ok' := fun k => m ≤ k) (Kd.R_bound ho0) (fun k hk => hk.2.1)) (Nat.le_trans ST.out.M.bn MM.out.2))
  clear ho0 hm
  replace ST := aM_ (ST.out.cut 1)
  (try clear hb)
  refine kO_ hK (some 66) ⟨cw3 (ST.out.bk 0 rfl),cw5 (ST.out.bk 2 rfl),(ST.out.M.setReg who HI0.out HI1.out (ST.out.ck 0 rfl) a HA0.out HA1.out 0).2.2.2.1⟩ (fun hHeld => ?_)
  clear hK K
  refine jU_ 7 59 12 255 ?_
  refine jU_ 8 67 12 511 ?_
  refine jU_ 9 68 12 1023 ?_
  refine last_ (i := 10) (N := none) (mk_ 12 2047) rfl rfl (by kernel_rfl) (by decide) (fun K hK => ?_)
  have zs := cel3 (ST.out.bk 0 rfl)
  refine skip_ (w1 := ?_) (by rfl) rfl ?_ ?_
  rotate_left
  ·go_simp
   rfl
  refine hK.out _ _ ?_
  clear hK K
  refine jU_ 11 11 12 4095 ?_
  refine done_ (by kernel_rfl) ?_
  clear zs
  replace HL := aM_ (rfar3 HL.out (nlt LTM.out 0 rfl) (.int .i64 t1) (.slice Ao t2.length co) (.bool t3))
  replace ST := aM_ (ST.out.put3 0 rfl (.int .i64 t1) (.slice Ao t2.length co) (.bool t3))
  (try clear yC1 zo4)
  replace zc1 := ce3_ ST 3
  replace zc2 := ce5_ ST 2
  replace zc3 := ce3_ ST 1
  replace zc4 := ce3_ ST 0
  replace yH := ST.out.ck 0 rfl
  have h := HH.out
  clear HH
  by_cases c2 : t4 = 2
  ·rw [if_pos c2,← c2] at h
   obtain ⟨rfl,rfl,rfl⟩ := inj3 h
   clear h
   have pHE0 : (t4 == 2) = true := beq_iff_eq.mpr c2
   have pHE1 : (t4 != 2) = false := bne_eq_false_iff_eq.mpr c2
   clear c2
   obtain ⟨A8,c8,hy_0,hy_1,hy_2,hy_f,-⟩ := ST.out.M.atC n HN0.out HN1.out
   have hyf0 := hy_f 0
   have hyf1 := hy_f 1
   have hyf2 := hy_f 2
   simp only [Nat.add_zero] at hyf0
   go_wp2_with (first | ((with_reducible refine gate_store (t := 94) (p := 112) rfl ?_);refine store_event (t := 94) (p := 112) (v := ?vo8) (w1 := ((((((w6.setCell ⟨gb4,0,none⟩ (.int .i64 t1)).setCell ⟨gb4,1,none⟩ (.slice Ao t2.length co)).setCell ⟨gb4,2,none⟩ (.bool t3)).setCell ⟨gC,(n).toNat * 3,none⟩ (.int .i64 t1)).setCell ⟨gC,(n).toNat * 3 + 1,none⟩ (.slice Ao t2.length co)).setCell ⟨gC,(n).toNat * 3 + 2,none⟩ (.bool t3))) ?hg ?ho ?hn ?hr ?_;(case ho => rfl);(case hg => rfl);(case hn => rfl);(case hr => first | (go_simp;done) | (go_simp;rfl));intro w7 hw;subst hw;replace ST := aM_ (ST.out.chan (ST.out.M.setC (x := (⟨t1,t2,t3⟩ : S94)) n HN0.out HN1.out (okl := fun k => m ≤ k) HL.out (fun k hk => ⟨Nat.le_trans MM.out.1 hk,Nat.le_trans MM.out.2 hk⟩)).1 HPC.out LTM.out);clear HL;(try clear yH);replace zc1 := ce3_ ST 3;replace zc2 := ce5_ ST 2;replace zc3 := ce3_ ST 1;replace zc4 := ce3_ ST 0))
   replace ST := aM_ (ST.out.put3 1 rfl (.slice (some ⟨gT,0,none⟩) ts.length c1_0) (.slice (some ⟨gC,0,none⟩) cs.length c1_1) (.slice A1_2 n1_2 c1_2))
   refine bodyPost_ret (results_ct rfl _ _ gb3 28 _ (0,0) _ rfl (ST.out.bk 1 rfl) Try.underlying28 rfl (by kernel_rfl)) rfl ?_
   exact ⟨by first | rfl | (simp <;> rfl),_,_,ST.out.M⟩
  ·rw [if_neg c2] at h
   by_cases hr0 : 0 ≤ r
   case neg => rw [if_neg hr0] at h;cases h
   rw [if_pos hr0] at h
   by_cases hr1 : r < ((rd_T107 ts who).f1.length : Int)
   case neg => rw [if_neg hr1] at h;cases h
   rw [if_pos hr1] at h
   replace h := Option.bind_eq_some_iff.mp h
   obtain ⟨y,hy,h⟩ := h
   try dsimp only at h
   obtain ⟨rfl,rfl,rfl⟩ := inj3 h
   clear h
   have HR0 := aM_ hr0
   clear hr0
   have HR1 := aM_ hr1
   clear hr1
   have HY := aM_ hy
   clear hy
   have pHR0 := eq_true HR0.out
   have pHR1 := eq_true HR1.out
   have pHE0 : (t4 == 2) = false := beq_eq_false_iff_ne.mpr c2
   have pHE1 : (t4 != 2) = true := bne_iff_ne.mpr c2
   clear c2
   try go_wp2
   replace ST := aM_ ST.out.drew
   replace HL := aM_ (Kd.R_below HL.out (below_drew (Below.refl _ _)))
   refine sTa_ 8 (fun w' => C5 w' gb2 (.int .i64 7) (.int .i64 r) (.int .i64 a) (.int .i64 bb) (.int .i64 n)) [7] (cw5 (ST.out.bk 2 rfl)) (fun hHeld => ?_)
   generalize (((w6.setCell ⟨gb4,0,none⟩ (.int .i64 t1)).setCell ⟨gb4,1,none⟩ (.slice Ao t2.length co)).setCell ⟨gb4,2,none⟩ (.bool t3)).drew = w7 at ST HL hHeld ⊢
   refine jU_ 0 71 8 1 ?_
   refine jU_ 1 72 8 3 ?_
   refine jU_ 3 74 8 11 ?_
   refine jU_ 4 75 8 27 ?_
   refine take_ (i := 2) (N := some 73) (v := ?_) (a' := ?_) #[true,true,true,true,true,false,false,false] rfl rfl (by kernel_rfl) (fun _ _ _ h => h) (Or.inl ⟨by rfl,?_⟩) hHeld ?_ ?_
   rotate_left
   ·rintro w' s0
    go_simp
    with_reducible rfl
   rotate_left
   ·simp only [pt_,pn_,sI_,s0_,s1_,i64_w,i32_w]
    rfl
   refine jN_ 5 76 8 63 (fun K hK => ?_)
   refine gO_ Try.func172 #[.bool (t4 == 0)] ?_
   (with_reducible refine (spec_l4Bit.calls (t4 == 0) y _ HY.out).mono ?_)
   rintro e w8 ⟨rfl,hd_⟩
   refine ⟨_,rfl,?_⟩
   have hb := Drawn0.below hd_
   replace ST := aM_ (ST.out.below hb)
   replace HL := aM_ (Kd.R_below HL.out hb)
   clear hb hd_
   refine kO_ hK (some 76) (cw5 (ST.out.bk 2 rfl)) (fun hHeld => ?_)
   clear hK K
   refine jU_ 6 77 8 127 ?_
   refine last_ (i := 7) (N := none) (mk_ 8 255) rfl rfl (by kernel_rfl) (by decide) (fun K hK => ?_)
   obtain ⟨-,-,-,hu_,hfu_,-,-⟩ := ST.out.M.setReg who HI0.out HI1.out (ST.out.ck 0 rfl) r HR0.out HR1.out 0
   refine skip_ (w1 := ?_) (by rfl) rfl ?_ ?_
   rotate_left
   ·go_simp
    rfl
   refine hK.out _ _ ?_
   clear hK K
   refine done_ (by kernel_rfl) ?_
   replace HL := aM_ (rfar1 (g := gR) (j := (r).toNat) HL.out (Nat.lt_of_lt_of_le (ST.out.M.lt gR (.inl HPR.out)).1 MM.out.1) (.int .i64 y))
   replace ST := aM_ (ST.out.own0 (ST.out.M.setReg who HI0.out HI1.out (ST.out.ck 0 rfl) r HR0.out HR1.out y).2.2.2.2.2.2 (.inl HPR.out))
   (try clear yH)
   replace zc1 := ce3_ ST 3
   replace zc2 := ce5_ ST 2
   replace zc3 := ce3_ ST 1
   replace zc4 := ce3_ ST 0
   obtain ⟨A8,c8,hy_0,hy_1,hy_2,hy_f,-⟩ := ST.out.M.atC n HN0.out HN1.out
   have hyf0 := hy_f 0
   have hyf1 := hy_f 1
   have hyf2 := hy_f 2
   simp only [Nat.add_zero] at hyf0
   go_wp2_with (first | ((with_reducible refine gate_store (t := 94) (p := 112) rfl ?_);refine store_event (t := 94) (p := 112) (v := ?vo10) (w1 := ((((w8.setCell ⟨gR,(r).toNat,none⟩ (.int .i64 y)).setCell ⟨gC,(n).toNat * 3,none⟩ (.int .i64 t1)).setCell ⟨gC,(n).toNat * 3 + 1,none⟩ (.slice Ao t2.length co)).setCell ⟨gC,(n).toNat * 3 + 2,none⟩ (.bool t3))) ?hg ?ho ?hn ?hr ?_;(case ho => rfl);(case hg => rfl);(case hn => rfl);(case hr => first | (go_simp;done) | (go_simp;rfl));intro w9 hw;subst hw;replace ST := aM_ (ST.out.chan (ST.out.M.setC (x := (⟨t1,t2,t3⟩ : S94)) n HN0.out HN1.out (okl := fun k => m ≤ k) HL.out (fun k hk => ⟨Nat.le_trans MM.out.1 hk,Nat.le_trans MM.out.2 hk⟩)).1 HPC.out LTM.out);clear HL;replace zc1 := ce3_ ST 3;replace zc2 := ce5_ ST 2;replace zc3 := ce3_ ST 1;replace zc4 := ce3_ ST 0))
   replace ST := aM_ (ST.out.put3 1 rfl (.slice (some ⟨gT,0,none⟩) ts.length c1_0) (.slice (some ⟨gC,0,none⟩) cs.length c1_1) (.slice A1_2 n1_2 c1_2))
   refine bodyPost_ret (results_ct rfl _ _ gb3 28 _ (0,0) _ rfl (ST.out.bk 1 rfl) Try.underlying28 rfl (by kernel_rfl)) rfl ?_
   exact ⟨by first | rfl | (simp <;> rfl),_,_,ST.out.M⟩
 rw [if_neg c7] at h
 by_cases c9 : op = 9
 ·subst c9
  rw [if_pos rfl] at h
  replace h := Option.bind_eq_some_iff.mp h
  obtain ⟨⟨t1,t2,t3,t4⟩,hf,h⟩ := h
  try dsimp only at h
  obtain ⟨rfl,rfl,rfl⟩ := inj3 h
  clear h
  have HF := aM_ hf
  clear hf
  refine hG.out ?_
  clear hG G
  go_wp2_with (first | (refine gL_ (some 82) Try.func191 #[.agg #[.int .i64 (rd_T94 cs n).f0,.slice AL (rd_T94 cs n).f1.length cl,.bool (rd_T94 cs n).f2]] ?_;(with_reducible refine (spec_ChanClose.calls ((rd_T94 cs n).f0) _ _ ((rd_T94 cs n).f1) ((rd_T94 cs n).f2) t1 t2 t3 t4 _ ?s11_1 ?s11_2 HF.out).mono ?_);(case s11_1 => exact (ST.out.M.readC n HN0.out HN1.out (ST.out.ck 0 rfl)).2);(case s11_2 => exact (ST.out.M.readC n HN0.out HN1.out (ST.out.ck 0 rfl)).1);rintro e w5 ⟨v9,rfl,ho0,hb⟩;refine ⟨_,rfl,?_⟩;obtain ⟨m,hm⟩ : ∃ m_ : Nat,m_ = (((w4.setCell ⟨gb4,0,none⟩ (.int .i64 (rd_T94 cs n).f0)).setCell ⟨gb4,1,none⟩ (.slice AL (rd_T94 cs n).f1.length cl)).setCell ⟨gb4,2,none⟩ (.bool (rd_T94 cs n).f2)).heap.size := ⟨_,rfl⟩;rw [← hm] at ho0;have LTM := aM_ (ST.out.lts hm);have MM : Aside0 (n0 ≤ m ∧ w.heap.size ≤ m) := ⟨by rw [hm];exact ⟨ST.out.M.wn,ST.out.M.sz⟩⟩;replace ST := aM_ (ST.out.below hb);obtain ⟨Ao,co,eo⟩ := Kd.R_slice ho0;subst eo;have HL := aM_ (Kd.R_lower (Kd.R_mono (ok' := fun k => m ≤ k) (Kd.R_bound ho0) (fun k hk => hk.2.1)) (Nat.le_trans ST.out.M.bn MM.out.2));clear ho0 hm;replace ST := aM_ (ST.out.cut 1);(try clear hb);(try clear yC1 zo4);replace zc1 := ce3_ ST 3;replace zc2 := ce5_ ST 2;replace zc3 := ce3_ ST 1;replace zc4 := ce3_ ST 0;replace yH := ST.out.ck 0 rfl;have zo12 := cel3 (ST.out.bk 0 rfl);replace HL := aM_ (rfar3 HL.out (nlt LTM.out 0 rfl) (.int .i64 t1) (.slice Ao t2.length co) (.bool t3));replace ST := aM_ (ST.out.put3 0 rfl (.int .i64 t1) (.slice Ao t2.length co) (.bool t3));replace zc1 := ce3_ ST 3;replace zc2 := ce5_ ST 2;replace zc3 := ce3_ ST 1;replace zc4 := ce3_ ST 0;replace yH := ST.out.ck 0 rfl;obtain ⟨A8,c8,hy_0,hy_1,hy_2,hy_f,-⟩ := ST.out.M.atC n HN0.out HN1.out;have hyf0 := hy_f 0;have hyf1 := hy_f 1;have hyf2 := hy_f 2;simp only [Nat.add_zero] at hyf0) | ((with_reducible refine gate_store (t := 94) (p := 112) rfl ?_);refine store_event (t := 94) (p := 112) (v := ?vo13) (w1 := ((((((w5.setCell ⟨gb4,0,none⟩ (.int .i64 t1)).setCell ⟨gb4,1,none⟩ (.slice Ao t2.length co)).setCell ⟨gb4,2,none⟩ (.bool t3)).setCell ⟨gC,(n).toNat * 3,none⟩ (.int .i64 t1)).setCell ⟨gC,(n).toNat * 3 + 1,none⟩ (.slice Ao t2.length co)).setCell ⟨gC,(n).toNat * 3 + 2,none⟩ (.bool t3))) ?hg ?ho ?hn ?hr ?_;(case ho => rfl);(case hg => rfl);(case hn => rfl);(case hr => first | (go_simp;done) | (go_simp;rfl));intro w6 hw;subst hw;replace ST := aM_ (ST.out.chan (ST.out.M.setC (x := (⟨t1,t2,t3⟩ : S94)) n HN0.out HN1.out (okl := fun k => m ≤ k) HL.out (fun k hk => ⟨Nat.le_trans MM.out.1 hk,Nat.le_trans MM.out.2 hk⟩)).1 HPC.out LTM.out);clear HL;(try clear yH zo12);replace zc1 := ce3_ ST 3;replace zc2 := ce5_ ST 2;replace zc3 := ce3_ ST 1;replace zc4 := ce3_ ST 0))
  replace ST := aM_ (ST.out.put3 1 rfl (.slice (some ⟨gT,0,none⟩) ts.length c1_0) (.slice (some ⟨gC,0,none⟩) cs.length c1_1) (.slice A1_2 n1_2 c1_2))
  refine bodyPost_ret (results_ct rfl _ _ gb3 28 _ (0,0) _ rfl (ST.out.bk 1 rfl) Try.underlying28 rfl (by kernel_rfl)) rfl ?_
  exact ⟨by first | rfl | (simp <;> rfl),_,_,ST.out.M⟩
 rw [if_neg c9] at h
 by_cases c6 : op = 6
 ·subst c6
  rw [if_pos rfl] at h
  replace h := Option.bind_eq_some_iff.mp h
  obtain ⟨⟨t1,t2,t3,t4,t5⟩,hf,h⟩ := h
  try dsimp only at h
  have HH := aM_ h
  clear h
  have HF := aM_ hf
  clear hf
  refine hG.out ?_
  clear hG G
  go_wp2_with (first | (refine gL_ (some 89) Try.func192 #[.agg #[.int .i64 (rd_T94 cs n).f0,.slice AL (rd_T94 cs n).f1.length cl,.bool (rd_T94 cs n).f2]] ?_;(with_reducible refine (spec_ChanTake.calls ((rd_T94 cs n).f0) _ _ ((rd_T94 cs n).f1) ((rd_T94 cs n).f2) t1 t2 t3 t4 t5 _ ?s14_1 ?s14_2 HF.out).mono ?_);(case s14_1 => exact (ST.out.M.readC n HN0.out HN1.out (ST.out.ck 0 rfl)).2);(case s14_2 => exact (ST.out.M.readC n HN0.out HN1.out (ST.out.ck 0 rfl)).1);rintro e w5 ⟨v9,rfl,ho0,hb⟩;refine ⟨_,rfl,?_⟩;obtain ⟨m,hm⟩ : ∃ m_ : Nat,m_ = (((w4.setCell ⟨gb4,0,none⟩ (.int .i64 (rd_T94 cs n).f0)).setCell ⟨gb4,1,none⟩ (.slice AL (rd_T94 cs n).f1.length cl)).setCell ⟨gb4,2,none⟩ (.bool (rd_T94 cs n).f2)).heap.size := ⟨_,rfl⟩;rw [← hm] at ho0;have LTM := aM_ (ST.out.lts hm);have MM : Aside0 (n0 ≤ m ∧ w.heap.size ≤ m) := ⟨by rw [hm];exact ⟨ST.out.M.wn,ST.out.M.sz⟩⟩;replace ST := aM_ (ST.out.below hb);obtain ⟨Ao,co,eo⟩ := Kd.R_slice ho0;subst eo;have HL := aM_ (Kd.R_lower (Kd.R_mono (ok' := fun k => m ≤ k) (Kd.R_bound ho0) (fun k hk => hk.2.1)) (Nat.le_trans ST.out.M.bn MM.out.2));clear ho0 hm;replace ST := aM_ (ST.out.cut 1);(try clear hb);(try clear yC1 zo4);replace zc1 := ce3_ ST 3;replace zc2 := ce5_ ST 2;replace zc3 := ce3_ ST 1;replace zc4 := ce3_ ST 0;replace yH := ST.out.ck 0 rfl;have zo15 := cel3 (ST.out.bk 0 rfl);replace HL := aM_ (rfar3 HL.out (nlt LTM.out 0 rfl) (.int .i64 t1) (.slice Ao t2.length co) (.bool t3));replace ST := aM_ (ST.out.put3 0 rfl (.int .i64 t1) (.slice Ao t2.length co) (.bool t3));replace zc1 := ce3_ ST 3;replace zc2 := ce5_ ST 2;replace zc3 := ce3_ ST 1;replace zc4 := ce3_ ST 0;replace yH := ST.out.ck 0 rfl;refine hide_ (fun G hG => ?_)))
  have h := HH.out
  clear HH
  by_cases c1 : t5 = 1
  ·rw [if_pos c1,← c1] at h
   obtain ⟨rfl,rfl,rfl⟩ := inj3 h
   clear h
   have pHE0 : (t5 == 1) = true := beq_iff_eq.mpr c1
   have pHE1 : (t5 != 1) = false := bne_eq_false_iff_eq.mpr c1
   clear c1
   refine hG.out ?_
   clear hG G
   obtain ⟨A8,c8,hy_0,hy_1,hy_2,hy_f,-⟩ := ST.out.M.atC n HN0.out HN1.out
   have hyf0 := hy_f 0
   have hyf1 := hy_f 1
   have hyf2 := hy_f 2
   simp only [Nat.add_zero] at hyf0
   go_wp2_with (first | ((with_reducible refine gate_store (t := 94) (p := 112) rfl ?_);refine store_event (t := 94) (p := 112) (v := ?vo16) (w1 := ((((((w5.setCell ⟨gb4,0,none⟩ (.int .i64 t1)).setCell ⟨gb4,1,none⟩ (.slice Ao t2.length co)).setCell ⟨gb4,2,none⟩ (.bool t3)).setCell ⟨gC,(n).toNat * 3,none⟩ (.int .i64 t1)).setCell ⟨gC,(n).toNat * 3 + 1,none⟩ (.slice Ao t2.length co)).setCell ⟨gC,(n).toNat * 3 + 2,none⟩ (.bool t3))) ?hg ?ho ?hn ?hr ?_;(case ho => rfl);(case hg => rfl);(case hn => rfl);(case hr => first | (go_simp;done) | (go_simp;rfl));intro w6 hw;subst hw;replace ST := aM_ (ST.out.chan (ST.out.M.setC (x := (⟨t1,t2,t3⟩ : S94)) n HN0.out HN1.out (okl := fun k => m ≤ k) HL.out (fun k hk => ⟨Nat.le_trans MM.out.1 hk,Nat.le_trans MM.out.2 hk⟩)).1 HPC.out LTM.out);clear HL;(try clear yH zo15);replace zc1 := ce3_ ST 3;replace zc2 := ce5_ ST 2;replace zc3 := ce3_ ST 1;replace zc4 := ce3_ ST 0))
   replace ST := aM_ (ST.out.put3 1 rfl (.slice (some ⟨gT,0,none⟩) ts.length c1_0) (.slice (some ⟨gC,0,none⟩) cs.length c1_1) (.slice A1_2 n1_2 c1_2))
   refine bodyPost_ret (results_ct rfl _ _ gb3 28 _ (0,0) _ rfl (ST.out.bk 1 rfl) Try.underlying28 rfl (by kernel_rfl)) rfl ?_
   exact ⟨by first | rfl | (simp <;> rfl),_,_,ST.out.M⟩
  ·rw [if_neg c1] at h
   by_cases hr0 : 0 ≤ r
   case neg => rw [if_neg hr0] at h;cases h
   rw [if_pos hr0] at h
   by_cases hr1 : r < ((rd_T107 ts who).f1.length : Int)
   case neg => rw [if_neg hr1] at h;cases h
   rw [if_pos hr1] at h
   by_cases hb0 : 0 ≤ bb
   case neg => rw [if_neg hb0] at h;cases h
   rw [if_pos hb0] at h
   by_cases hb1 : bb < ((rd_T107 ts who).f1.length : Int)
   case neg => rw [if_neg hb1] at h;cases h
   rw [if_pos hb1] at h
   replace h := Option.bind_eq_some_iff.mp h
   obtain ⟨y,hy,h⟩ := h
   try dsimp only at h
   obtain ⟨rfl,rfl,rfl⟩ := inj3 h
   clear h
   have HR0 := aM_ hr0
   clear hr0
   have HR1 := aM_ hr1
   clear hr1
   have HB0 := aM_ hb0
   clear hb0
   have HB1 := aM_ hb1
   clear hb1
   have HY := aM_ hy
   clear hy
   have pHR0 := eq_true HR0.out
   have pHR1 := eq_true HR1.out
   have pHB0 := eq_true HB0.out
   have pHB1 := eq_true HB1.out
   have pHE0 : (t5 == 1) = false := beq_eq_false_iff_ne.mpr c1
   have pHE1 : (t5 != 1) = true := bne_iff_ne.mpr c1
   clear c1
   obtain ⟨gR,cR_,eR_,-,-,-⟩ := Kd.R_form HRR.out (by have := HR0.out;have := HR1.out;omega)
   injection eR_ with eR_ eR1_ eR2_
   clear eR1_ eR2_
   subst eR_
   have HPR := aM_ (HOKR.out gR (HRR.out.1 gR rfl)).1
   have HRT : Aside0 (gT ≠ gR) := ⟨fun e_ => (HOKR.out gR (HRR.out.1 gR rfl)).2 e_.symm⟩
   refine hG.out ?_
   clear hG G
   obtain ⟨-,-,-,hu_,hfu_,-,-⟩ := ST.out.M.setReg who HI0.out HI1.out (ST.out.ck 0 rfl) r HR0.out HR1.out 0
   try go_wp2_with (first | ((with_reducible refine gate_store (t := 3) (p := 99) rfl ?_);refine store_event (t := 3) (p := 99) (v := ?vo17) (w1 := ((((w5.setCell ⟨gb4,0,none⟩ (.int .i64 t1)).setCell ⟨gb4,1,none⟩ (.slice Ao t2.length co)).setCell ⟨gb4,2,none⟩ (.bool t3)).setCell ⟨gR,(r).toNat,none⟩ (.int .i64 t4))) ?hg ?ho ?hn ?hr ?_;(case ho => rfl);(case hg => rfl);(case hn => rfl);(case hr => first | (go_simp;done) | (go_simp;rfl));intro w6 hw;subst hw;replace HL := aM_ (rfar1 (g := gR) (j := (r).toNat) HL.out (Nat.lt_of_lt_of_le (ST.out.M.lt gR (.inl HPR.out)).1 MM.out.1) (.int .i64 t4));replace ST := aM_ (ST.out.own (ST.out.M.setReg who HI0.out HI1.out (ST.out.ck 0 rfl) r HR0.out HR1.out t4).2.2.2.2.2.2 (.inl HPR.out) (cn1 HRT.out));(try clear zo15);replace zc1 := ce3_ ST 3;replace zc2 := ce5_ ST 2;replace zc3 := ce3_ ST 1;replace zc4 := ce3_ ST 0;replace yH := ST.out.ck 0 rfl))
   replace ST := aM_ ST.out.drew
   replace HL := aM_ (Kd.R_below HL.out (below_drew (Below.refl _ _)))
   refine sTa_ 8 (fun w' => C5 w' gb2 (.int .i64 6) (.int .i64 r) (.int .i64 a) (.int .i64 bb) (.int .i64 n)) [7] (cw5 (ST.out.bk 2 rfl)) (fun hHeld => ?_)
   generalize ((((w5.setCell ⟨gb4,0,none⟩ (.int .i64 t1)).setCell ⟨gb4,1,none⟩ (.slice Ao t2.length co)).setCell ⟨gb4,2,none⟩ (.bool t3)).setCell ⟨gR,(r).toNat,none⟩ (.int .i64 t4)).drew = w7 at ST HL hHeld ⊢
   refine jU_ 0 100 8 1 ?_
   refine jU_ 1 101 8 3 ?_
   refine jU_ 3 103 8 11 ?_
   refine jU_ 4 104 8 27 ?_
   refine take_ (i := 2) (N := some 102) (v := ?_) (a' := ?_) #[true,true,true,true,true,false,false,false] rfl rfl (by kernel_rfl) (fun _ _ _ h => h) (Or.inl ⟨by rfl,?_⟩) hHeld ?_ ?_
   rotate_left
   ·rintro w' s0
    go_simp
    with_reducible rfl
   rotate_left
   ·simp only [pt_,pn_,sI_,s0_,s1_,i64_w,i32_w]
    rfl
   refine jN_ 5 105 8 63 (fun K hK => ?_)
   refine gO_ Try.func172 #[.bool (t5 == 0)] ?_
   (with_reducible refine (spec_l4Bit.calls (t5 == 0) y _ HY.out).mono ?_)
   rintro e w8 ⟨rfl,hd_⟩
   refine ⟨_,rfl,?_⟩
   have hb := Drawn0.below hd_
   replace ST := aM_ (ST.out.below hb)
   replace HL := aM_ (Kd.R_below HL.out hb)
   clear hb hd_
   refine kO_ hK (some 105) (cw5 (ST.out.bk 2 rfl)) (fun hHeld => ?_)
   clear hK K
   refine jU_ 6 106 8 127 ?_
   refine last_ (i := 7) (N := none) (mk_ 8 255) rfl rfl (by kernel_rfl) (by decide) (fun K hK => ?_)
   obtain ⟨-,-,-,hu_,hfu_,-,-⟩ := ST.out.M.setReg who HI0.out (by rw [setR_len];exact HI1.out) (ST.out.ck 0 rfl) bb HB0.out (by rw [setR_regs _ _ _ _ HI0.out HI1.out];exact HB1.out) 0
   refine skip_ (w1 := ?_) (by rfl) rfl ?_ ?_
   rotate_left
   ·go_simp
    rfl
   refine hK.out _ _ ?_
   clear hK K
   refine done_ (by kernel_rfl) ?_
   replace HL := aM_ (rfar1 (g := gR) (j := (bb).toNat) HL.out (Nat.lt_of_lt_of_le (ST.out.M.lt gR (.inl HPR.out)).1 MM.out.1) (.int .i64 y))
   replace ST := aM_ (ST.out.own0 (ST.out.M.setReg who HI0.out (by rw [setR_len];exact HI1.out) (ST.out.ck 0 rfl) bb HB0.out (by rw [setR_regs _ _ _ _ HI0.out HI1.out];exact HB1.out) y).2.2.2.2.2.2 (.inl HPR.out))
   (try clear yH)
   replace zc1 := ce3_ ST 3
   replace zc2 := ce5_ ST 2
   replace zc3 := ce3_ ST 1
   replace zc4 := ce3_ ST 0
   obtain ⟨A8,c8,hy_0,hy_1,hy_2,hy_f,-⟩ := ST.out.M.atC n HN0.out HN1.out
   have hyf0 := hy_f 0
   have hyf1 := hy_f 1
   have hyf2 := hy_f 2
   simp only [Nat.add_zero] at hyf0
   go_wp2_with (first | ((with_reducible refine gate_store (t := 94) (p := 112) rfl ?_);refine store_event (t := 94) (p := 112) (v := ?vo19) (w1 := ((((w8.setCell ⟨gR,(bb).toNat,none⟩ (.int .i64 y)).setCell ⟨gC,(n).toNat * 3,none⟩ (.int .i64 t1)).setCell ⟨gC,(n).toNat * 3 + 1,none⟩ (.slice Ao t2.length co)).setCell ⟨gC,(n).toNat * 3 + 2,none⟩ (.bool t3))) ?hg ?ho ?hn ?hr ?_;(case ho => rfl);(case hg => rfl);(case hn => rfl);(case hr => first | (go_simp;done) | (go_simp;rfl));intro w9 hw;subst hw;replace ST := aM_ (ST.out.chan (ST.out.M.setC (x := (⟨t1,t2,t3⟩ : S94)) n HN0.out HN1.out (okl := fun k => m ≤ k) HL.out (fun k hk => ⟨Nat.le_trans MM.out.1 hk,Nat.le_trans MM.out.2 hk⟩)).1 HPC.out LTM.out);clear HL;replace zc1 := ce3_ ST 3;replace zc2 := ce5_ ST 2;replace zc3 := ce3_ ST 1;replace zc4 := ce3_ ST 0))
   replace ST := aM_ (ST.out.put3 1 rfl (.slice (some ⟨gT,0,none⟩) ts.length c1_0) (.slice (some ⟨gC,0,none⟩) cs.length c1_1) (.slice A1_2 n1_2 c1_2))
   refine bodyPost_ret (results_ct rfl _ _ gb3 28 _ (0,0) _ rfl (ST.out.bk 1 rfl) Try.underlying28 rfl (by kernel_rfl)) rfl ?_
   exact ⟨by first | rfl | (simp <;> rfl),_,_,ST.out.M⟩
 rw [if_neg c6] at h
 have pHE5 : (op == 5) = false := beq_eq_false_iff_ne.mpr c5
 have pHE7 : (op == 7) = false := beq_eq_false_iff_ne.mpr c7
 have pHE9 : (op == 9) = false := beq_eq_false_iff_ne.mpr c9
 have pHE6 : (op == 6) = false := beq_eq_false_iff_ne.mpr c6
 clear c5 c7 c9 c6
 replace h := Option.bind_eq_some_iff.mp h
 obtain ⟨⟨t1,t2,t3,t4,t5⟩,hf,h⟩ := h
 try dsimp only at h
 by_cases hr0 : 0 ≤ r
 case neg => rw [if_neg hr0] at h;cases h
 rw [if_pos hr0] at h
 by_cases hr1 : r < ((rd_T107 ts who).f1.length : Int)
 case neg => rw [if_neg hr1] at h;cases h
 rw [if_pos hr1] at h
 by_cases hb0 : 0 ≤ bb
 case neg => rw [if_neg hb0] at h;cases h
 rw [if_pos hb0] at h
 by_cases hb1 : bb < ((rd_T107 ts who).f1.length : Int)
 case neg => rw [if_neg hb1] at h;cases h
 rw [if_pos hb1] at h
 by_cases hq0 : 0 ≤ t5
 case neg => rw [if_neg hq0] at h;cases h
 rw [if_pos hq0] at h
 by_cases hq1 : t5 < 4
 case neg => rw [if_neg hq1] at h;cases h
 rw [if_pos hq1] at h
 obtain ⟨rfl,rfl,rfl⟩ := inj3 h
 clear h
 have HR0 := aM_ hr0
 clear hr0
 have HR1 := aM_ hr1
 clear hr1
 have HB0 := aM_ hb0
 clear hb0
 have HB1 := aM_ hb1
 clear hb1
 have HF := aM_ hf
 clear hf
 have HQ0 := aM_ hq0
 clear hq0
 have HQ1 := aM_ hq1
 clear hq1
 have pHR0 := eq_true HR0.out
 have pHR1 := eq_true HR1.out
 have pHB0 := eq_true HB0.out
 have pHB1 := eq_true HB1.out
 have pHQ0 := eq_true HQ0.out
 have pHQ1 := eq_true HQ1.out
 obtain ⟨gR,cR_,eR_,-,-,-⟩ := Kd.R_form HRR.out (by have := HR0.out;have := HR1.out;omega)
 injection eR_ with eR_ eR1_ eR2_
 clear eR1_ eR2_
 subst eR_
 have HPR := aM_ (HOKR.out gR (HRR.out.1 gR rfl)).1
 have HRT : Aside0 (gT ≠ gR) := ⟨fun e_ => (HOKR.out gR (HRR.out.1 gR rfl)).2 e_.symm⟩
 refine hG.out ?_
 clear hG G
 try go_wp2_with (first | (refine gL_ (some 28) Try.func192 #[.agg #[.int .i64 (rd_T94 cs n).f0,.slice AL (rd_T94 cs n).f1.length cl,.bool (rd_T94 cs n).f2]] ?_;(with_reducible refine (spec_ChanTake.calls ((rd_T94 cs n).f0) _ _ ((rd_T94 cs n).f1) ((rd_T94 cs n).f2) t1 t2 t3 t4 t5 _ ?s20_1 ?s20_2 HF.out).mono ?_);(case s20_1 => exact (ST.out.M.readC n HN0.out HN1.out (ST.out.ck 0 rfl)).2);(case s20_2 => exact (ST.out.M.readC n HN0.out HN1.out (ST.out.ck 0 rfl)).1);rintro e w5 ⟨v9,rfl,ho0,hb⟩;refine ⟨_,rfl,?_⟩;obtain ⟨m,hm⟩ : ∃ m_ : Nat,m_ = (((w4.setCell ⟨gb4,0,none⟩ (.int .i64 (rd_T94 cs n).f0)).setCell ⟨gb4,1,none⟩ (.slice AL (rd_T94 cs n).f1.length cl)).setCell ⟨gb4,2,none⟩ (.bool (rd_T94 cs n).f2)).heap.size := ⟨_,rfl⟩;rw [← hm] at ho0;have LTM := aM_ (ST.out.lts hm);have MM : Aside0 (n0 ≤ m ∧ w.heap.size ≤ m) := ⟨by rw [hm];exact ⟨ST.out.M.wn,ST.out.M.sz⟩⟩;replace ST := aM_ (ST.out.below hb);obtain ⟨Ao,co,eo⟩ := Kd.R_slice ho0;subst eo;have HL := aM_ (Kd.R_lower (Kd.R_mono (ok' := fun k => m ≤ k) (Kd.R_bound ho0) (fun k hk => hk.2.1)) (Nat.le_trans ST.out.M.bn MM.out.2));clear ho0 hm;replace ST := aM_ (ST.out.cut 1);(try clear hb);(try clear yC1 zo4);replace zc1 := ce3_ ST 3;replace zc2 := ce5_ ST 2;replace zc3 := ce3_ ST 1;replace zc4 := ce3_ ST 0;replace yH := ST.out.ck 0 rfl;have zo21 := cel3 (ST.out.bk 0 rfl);replace HL := aM_ (rfar3 HL.out (nlt LTM.out 0 rfl) (.int .i64 t1) (.slice Ao t2.length co) (.bool t3));replace ST := aM_ (ST.out.put3 0 rfl (.int .i64 t1) (.slice Ao t2.length co) (.bool t3));replace zc1 := ce3_ ST 3;replace zc2 := ce5_ ST 2;replace zc3 := ce3_ ST 1;replace zc4 := ce3_ ST 0;replace yH := ST.out.ck 0 rfl;obtain ⟨-,-,-,hu_,hfu_,-,-⟩ := ST.out.M.setReg who HI0.out HI1.out (ST.out.ck 0 rfl) r HR0.out HR1.out 0) | ((with_reducible refine gate_store (t := 3) (p := 36) rfl ?_);refine store_event (t := 3) (p := 36) (v := ?vo22) (w1 := ((((w5.setCell ⟨gb4,0,none⟩ (.int .i64 t1)).setCell ⟨gb4,1,none⟩ (.slice Ao t2.length co)).setCell ⟨gb4,2,none⟩ (.bool t3)).setCell ⟨gR,(r).toNat,none⟩ (.int .i64 t4))) ?hg ?ho ?hn ?hr ?_;(case ho => rfl);(case hg => rfl);(case hn => rfl);(case hr => first | (go_simp;done) | (go_simp;rfl));intro w6 hw;subst hw;replace HL := aM_ (rfar1 (g := gR) (j := (r).toNat) HL.out (Nat.lt_of_lt_of_le (ST.out.M.lt gR (.inl HPR.out)).1 MM.out.1) (.int .i64 t4));replace ST := aM_ (ST.out.own (ST.out.M.setReg who HI0.out HI1.out (ST.out.ck 0 rfl) r HR0.out HR1.out t4).2.2.2.2.2.2 (.inl HPR.out) (cn1 HRT.out));(try clear zo21);replace zc1 := ce3_ ST 3;replace zc2 := ce5_ ST 2;replace zc3 := ce3_ ST 1;replace zc4 := ce3_ ST 0;replace yH := ST.out.ck 0 rfl))
 replace ST := aM_ ST.out.drew
 replace HL := aM_ (Kd.R_below HL.out (below_drew (Below.refl _ _)))
 refine sTa_ 9 (fun w' => C5 w' gb2 (.int .i64 op) (.int .i64 r) (.int .i64 a) (.int .i64 bb) (.int .i64 n)) [8] (cw5 (ST.out.bk 2 rfl)) (fun hHeld => ?_)
 generalize ((((w5.setCell ⟨gb4,0,none⟩ (.int .i64 t1)).setCell ⟨gb4,1,none⟩ (.slice Ao t2.length co)).setCell ⟨gb4,2,none⟩ (.bool t3)).setCell ⟨gR,(r).toNat,none⟩ (.int .i64 t4)).drew = w7 at ST HL hHeld ⊢
 refine jU_ 0 37 9 1 ?_
 refine jU_ 1 38 9 3 ?_
 refine jU_ 4 41 9 19 ?_
 refine take_ (i := 2) (N := some 39) (v := ?_) (a' := ?_) #[true,true,true,false,true,false,false,false,false] rfl rfl (by kernel_rfl) (fun _ _ _ h => h) (Or.inl ⟨by rfl,?_⟩) hHeld ?_ ?_
 rotate_left
 ·rintro w' s0
  go_simp
  with_reducible rfl
 rotate_left
 ·simp only [pt_,pn_,sI_,s0_,s1_,i64_w,i32_w]
  rfl
 refine jN_ 3 40 9 31 (fun K hK => ?_)
 refine Kd.R_lit_step (Kd.int .i64) _ 3 ?hg (N := 40) ?hd (xs := ([1,0,0,2] : List Int)) (inner := [.int .i64 1,.int .i64 0,.int .i64 0,.int .i64 2]) (ok := fun _ => True) (okp := fun _ => True) ?hr ?hp (fun _ hk => hk) trivial (Below.refl _ _) (Nat.le_refl _) (by simp) ?_;(case hd => rfl);(case hg => rfl);(case hr => first | (go_simp;done) | (go_simp;rfl));(case hp => exact (Reps.one (show Kd.M (Kd.int .i64) _ _ _ 1 [.int .i64 1] from rfl) (Reps.one (show Kd.M (Kd.int .i64) _ _ _ 0 [.int .i64 0] from rfl) (Reps.one (show Kd.M (Kd.int .i64) _ _ _ 0 [.int .i64 0] from rfl) (Reps.one (show Kd.M (Kd.int .i64) _ _ _ 2 [.int .i64 2] from rfl) (Reps.none _ _))))))
 intro v8 w8 ho8 hb hg_ hnew_
 clear hg_ hnew_
 replace ST := aM_ (ST.out.below hb)
 replace HL := aM_ (Kd.R_below HL.out hb)
 obtain ⟨Al,cl8,el8⟩ := Kd.R_slice ho8
 subst el8
 obtain ⟨adl,eadl,hll⟩ := Kd.at_int ((Kd.R_reads' ho8).2.2) t5 HQ0.out HQ1.out
 cases eadl
 have HLL := aM_ hll
 have hll8 := HLL.out
 clear ho8 hb hll
 refine kO_ hK (some 40) (cw5 (ST.out.bk 2 rfl)) (fun hHeld => ?_)
 clear hK K
 refine jU_ 5 42 9 63 ?_
 refine jN_ 6 43 9 127 (fun K hK => ?_)
 refine value_ (w1 := ?_) (v := ?_) (by rfl) rfl ?_ ?_
 rotate_left 2
 ·go_simp
  constructor
  ·rfl
  ·rfl
 refine kO_ hK (some 43) (cw5 (ST.out.bk 2 rfl)) (fun hHeld => ?_)
 clear hK K
 refine jU_ 7 44 9 255 ?_
 refine last_ (i := 8) (N := none) (mk_ 9 511) rfl rfl (by kernel_rfl) (by decide) (fun K hK => ?_)
 clear hll8
 obtain ⟨-,-,-,hu_,hfu_,-,-⟩ := ST.out.M.setReg who HI0.out (by rw [setR_len];exact HI1.out) (ST.out.ck 0 rfl) bb HB0.out (by rw [setR_regs _ _ _ _ HI0.out HI1.out];exact HB1.out) 0
 refine skip_ (w1 := ?_) (by rfl) rfl ?_ ?_
 rotate_left
 ·go_simp
  rfl
 refine hK.out _ _ ?_
 clear hK K
 refine done_ (by kernel_rfl) ?_
 replace HL := aM_ (rfar1 (g := gR) (j := (bb).toNat) HL.out (Nat.lt_of_lt_of_le (ST.out.M.lt gR (.inl HPR.out)).1 MM.out.1) (.int .i64 (rd [1,0,0,2] t5)))
 replace ST := aM_ (ST.out.own0 (ST.out.M.setReg who HI0.out (by rw [setR_len];exact HI1.out) (ST.out.ck 0 rfl) bb HB0.out (by rw [setR_regs _ _ _ _ HI0.out HI1.out];exact HB1.out) (rd [1,0,0,2] t5)).2.2.2.2.2.2 (.inl HPR.out))
 (try clear yH)
 replace zc1 := ce3_ ST 3
 replace zc2 := ce5_ ST 2
 replace zc3 := ce3_ ST 1
 replace zc4 := ce3_ ST 0
 obtain ⟨A8,c8,hy_0,hy_1,hy_2,hy_f,-⟩ := ST.out.M.atC n HN0.out HN1.out
 have hyf0 := hy_f 0
 have hyf1 := hy_f 1
 have hyf2 := hy_f 2
 simp only [Nat.add_zero] at hyf0
 go_wp2_with (first | ((with_reducible refine gate_store (t := 94) (p := 112) rfl ?_);refine store_event (t := 94) (p := 112) (v := ?vo23) (w1 := ((((w8.setCell ⟨gR,(bb).toNat,none⟩ (.int .i64 (rd [1,0,0,2] t5))).setCell ⟨gC,(n).toNat * 3,none⟩ (.int .i64 t1)).setCell ⟨gC,(n).toNat * 3 + 1,none⟩ (.slice Ao t2.length co)).setCell ⟨gC,(n).toNat * 3 + 2,none⟩ (.bool t3))) ?hg ?ho ?hn ?hr ?_;(case ho => rfl);(case hg => rfl);(case hn => rfl);(case hr => first | (go_simp;done) | (go_simp;rfl));intro w9 hw;subst hw;replace ST := aM_ (ST.out.chan (ST.out.M.setC (x := (⟨t1,t2,t3⟩ : S94)) n HN0.out HN1.out (okl := fun k => m ≤ k) HL.out (fun k hk => ⟨Nat.le_trans MM.out.1 hk,Nat.le_trans MM.out.2 hk⟩)).1 HPC.out LTM.out);clear HL;replace zc1 := ce3_ ST 3;replace zc2 := ce5_ ST 2;replace zc3 := ce3_ ST 1;replace zc4 := ce3_ ST 0))
 replace ST := aM_ (ST.out.put3 1 rfl (.slice (some ⟨gT,0,none⟩) ts.length c1_0) (.slice (some ⟨gC,0,none⟩) cs.length c1_1) (.slice A1_2 n1_2 c1_2))
 refine bodyPost_ret (results_ct rfl _ _ gb3 28 _ (0,0) _ rfl (ST.out.bk 1 rfl) Try.underlying28 rfl (by kernel_rfl)) rfl ?_
 exact ⟨by first | rfl | (simp <;> rfl),_,_,ST.out.M⟩
def spec_l4Step.go (l0_1 : List (List S192)) (ts : List S107) (cs : List S94) (ns : List S35) (who next : Int) : Option (List S107 × List S94 × List S35 × Int) := (spec_l4Go.f l0_1 ts who next).bind fun t => some (t,cs,ns,0)
def spec_l4Step.f (k : Nat) (l0_1 : List (List S192)) (ts : List S107) (cs : List S94) (ns : List S35) (who : Int) : Option (List S107 × List S94 × List S35 × Int) :=
  if 0 ≤ who then (if who < (ts.length : Int) then (if who < (l0_1.length : Int) then (if 0 ≤ (rd_T107 ts who).f0 then (if (rd_T107 ts who).f0 < ((rd_L4 l0_1 who).length : Int) then (if (rd_T192 (rd_L4 l0_1 who) (rd_T107 ts who).f0).f0 = 1 then (if 0 ≤ (rd_T192 (rd_L4 l0_1 who) (rd_T107 ts who).f0).f1 then (if (rd_T192 (rd_L4 l0_1 who) (rd_T107 ts who).f0).f1 < ((rd_T107 ts who).f1.length : Int) then (spec_l4Step.go l0_1 (setR ts who (rd_T192 (rd_L4 l0_1 who) (rd_T107 ts who).f0).f1 (rd_T192 (rd_L4 l0_1 who) (rd_T107 ts who).f0).f4) cs ns who (wrap64 ((rd_T107 ts who).f0 + 1))) else none) else none) else if (rd_T192 (rd_L4 l0_1 who) (rd_T107 ts who).f0).f0 = 2 then (if 0 ≤ (rd_T192 (rd_L4 l0_1 who) (rd_T107 ts who).f0).f2 then (if (rd_T192 (rd_L4 l0_1 who) (rd_T107 ts who).f0).f2 < ((rd_T107 ts who).f1.length : Int) then (if 0 ≤ (rd_T192 (rd_L4 l0_1 who) (rd_T107 ts who).f0).f3 then (if (rd_T192 (rd_L4 l0_1 who) (rd_T107 ts who).f0).f3 < ((rd_T107 ts who).f1.length : Int) then (if 0 ≤ (rd_T192 (rd_L4 l0_1 who) (rd_T107 ts who).f0).f1 then (if (rd_T192 (rd_L4 l0_1 who) (rd_T107 ts who).f0).f1 < ((rd_T107 ts who).f1.length : Int) then (spec_l4Step.go l0_1 (setR ts who (rd_T192 (rd_L4 l0_1 who) (rd_T107 ts who).f0).f1 (wrap64 ((rd (rd_T107 ts who).f1 (rd_T192 (rd_L4 l0_1 who) (rd_T107 ts who).f0).f2) + (rd (rd_T107 ts who).f1 (rd_T192 (rd_L4 l0_1 who) (rd_T107 ts who).f0).f3)))) cs ns who (wrap64 ((rd_T107 ts who).f0 + 1))) else none) else none) else none) else none) else none) else none) else if (rd_T192 (rd_L4 l0_1 who) (rd_T107 ts who).f0).f0 = 3 then (if 0 ≤ (rd_T192 (rd_L4 l0_1 who) (rd_T107 ts who).f0).f2 then (if (rd_T192 (rd_L4 l0_1 who) (rd_T107 ts who).f0).f2 < ((rd_T107 ts who).f1.length : Int) then (if 0 ≤ (rd_T192 (rd_L4 l0_1 who) (rd_T107 ts who).f0).f3 then (if (rd_T192 (rd_L4 l0_1 who) (rd_T107 ts who).f0).f3 < ((rd_T107 ts who).f1.length : Int) then (if 0 ≤ (rd_T192 (rd_L4 l0_1 who) (rd_T107 ts who).f0).f1 then (if (rd_T192 (rd_L4 l0_1 who) (rd_T107 ts who).f0).f1 < ((rd_T107 ts who).f1.length : Int) then (spec_l4Step.go l0_1 (setR ts who (rd_T192 (rd_L4 l0_1 who) (rd_T107 ts who).f0).f1 (wrap64 ((rd (rd_T107 ts who).f1 (rd_T192 (rd_L4 l0_1 who) (rd_T107 ts who).f0).f2) - (rd (rd_T107 ts who).f1 (rd_T192 (rd_L4 l0_1 who) (rd_T107 ts who).f0).f3)))) cs ns who (wrap64 ((rd_T107 ts who).f0 + 1))) else none) else none) else none) else none) else none) else none) else if (rd_T192 (rd_L4 l0_1 who) (rd_T107 ts who).f0).f0 = 4 then (if 0 ≤ (rd_T192 (rd_L4 l0_1 who) (rd_T107 ts who).f0).f2 then (if (rd_T192 (rd_L4 l0_1 who) (rd_T107 ts who).f0).f2 < ((rd_T107 ts who).f1.length : Int) then (if 0 ≤ (rd_T192 (rd_L4 l0_1 who) (rd_T107 ts who).f0).f3 then (if (rd_T192 (rd_L4 l0_1 who) (rd_T107 ts who).f0).f3 < ((rd_T107 ts who).f1.length : Int) then (if 0 ≤ (rd_T192 (rd_L4 l0_1 who) (rd_T107 ts who).f0).f1 then (if (rd_T192 (rd_L4 l0_1 who) (rd_T107 ts who).f0).f1 < ((rd_T107 ts who).f1.length : Int) then ((spec_l4Bit.f (decide ((rd (rd_T107 ts who).f1 (rd_T192 (rd_L4 l0_1 who) (rd_T107 ts who).f0).f2) < (rd (rd_T107 ts who).f1 (rd_T192 (rd_L4 l0_1 who) (rd_T107 ts who).f0).f3)))).bind fun y => (spec_l4Step.go l0_1 (setR ts who (rd_T192 (rd_L4 l0_1 who) (rd_T107 ts who).f0).f1 y) cs ns who (wrap64 ((rd_T107 ts who).f0 + 1)))) else none) else none) else none) else none) else none) else none) else if (rd_T192 (rd_L4 l0_1 who) (rd_T107 ts who).f0).f0 = 10 then (if (ns.length : Int) = 4000 then some (ts,cs,ns,3) else (if 0 ≤ (rd_T192 (rd_L4 l0_1 who) (rd_T107 ts who).f0).f2 then (if (rd_T192 (rd_L4 l0_1 who) (rd_T107 ts who).f0).f2 < ((rd_T107 ts who).f1.length : Int) then (if ns.length < 8796093022208 then (spec_l4Step.go l0_1 ts cs (ns ++ [(⟨who,(rd (rd_T107 ts who).f1 (rd_T192 (rd_L4 l0_1 who) (rd_T107 ts who).f0).f2)⟩ : S35)]) who (wrap64 ((rd_T107 ts who).f0 + 1))) else none) else none) else none)) else if (rd_T192 (rd_L4 l0_1 who) (rd_T107 ts who).f0).f0 = 11 then (spec_l4Step.go l0_1 ts cs ns who (rd_T192 (rd_L4 l0_1 who) (rd_T107 ts who).f0).f4) else if (rd_T192 (rd_L4 l0_1 who) (rd_T107 ts who).f0).f0 = 12 then (if 0 ≤ (rd_T192 (rd_L4 l0_1 who) (rd_T107 ts who).f0).f2 then (if (rd_T192 (rd_L4 l0_1 who) (rd_T107 ts who).f0).f2 < ((rd_T107 ts who).f1.length : Int) then (if (rd (rd_T107 ts who).f1 (rd_T192 (rd_L4 l0_1 who) (rd_T107 ts who).f0).f2) = 0 then (spec_l4Step.go l0_1 ts cs ns who (rd_T192 (rd_L4 l0_1 who) (rd_T107 ts who).f0).f4) else (spec_l4Step.go l0_1 ts cs ns who (wrap64 ((rd_T107 ts who).f0 + 1)))) else none) else none) else if (rd_T192 (rd_L4 l0_1 who) (rd_T107 ts who).f0).f0 = 13 then some (setS ts who 1,cs,ns,0) else ((spec_l4Chan.f k ts cs who (rd_T192 (rd_L4 l0_1 who) (rd_T107 ts who).f0).f0 (rd_T192 (rd_L4 l0_1 who) (rd_T107 ts who).f0).f1 (rd_T192 (rd_L4 l0_1 who) (rd_T107 ts who).f0).f2 (rd_T192 (rd_L4 l0_1 who) (rd_T107 ts who).f0).f3 (rd_T192 (rd_L4 l0_1 who) (rd_T107 ts who).f0).f4).bind fun t => (if t.2.2 = 1 then some (t.1,t.2.1,ns,4) else if t.2.2 = 2 then (if who < (t.1.length : Int) then some (setS t.1 who 2,t.2.1,ns,0) else none) else (spec_l4Step.go l0_1 t.1 t.2.1 ns who (wrap64 ((rd_T107 ts who).f0 + 1)))))) else none) else none) else none) else none) else none
end Go.Proofs.Ytobachfngmpeiaa.PFnExactAble
