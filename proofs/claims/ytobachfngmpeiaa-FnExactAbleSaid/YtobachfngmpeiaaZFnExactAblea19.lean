/- Part of the proof of FnExactAble. -/
import Derived.Test.YtobachfngmpeiaaZFnExactAblea18
import Derived.Test.YtobachfngmpeiaaZFnExactAbles
set_option maxRecDepth 100000
namespace Go.Proofs.Ytobachfngmpeiaa.PFnExactAble
open Go.RowKit Go.Proofs.YtobachfngmpeiaaW.PrintWords Go.Proofs.YtobachfngmpeiaaW.PrintLast Go.Proofs.YtobachfngmpeiaaW.PrintMore
attribute [local go_sem] max2_int min2_int max_two min_two max_three min_three max_four min_four
set_option linter.unusedVariables false
set_option linter.unusedSimpArgs false
set_option maxHeartbeats 8000000 in
theorem impl_sourceCode.calls (A0_0 : Option Addr) (c0_0 : Nat) (l0_0 : List Int) (A0_1 : Option Addr) (c0_1 : Nat) (l0_1 : List (List S192)) (gb0 : Nat) (A1_0 : Option Addr) (c1_0 : Nat) (ts : List S107) (A1_1 : Option Addr) (c1_1 : Nat) (cs : List S94) (A1_2 : Option Addr) (c1_2 : Nat) (ns : List S35) (who : Int) (res : Int) (w : World) (hr0_1 : Kd.C (Kd.slice 192 k192) w A0_1 l0_1.length l0_1) (hr1_0 : Kd.C k107 w A1_0 ts.length ts) (hr1_1 : Kd.C k94 w A1_1 cs.length cs) (hS : w.heap[gb0]? = some (.cells #[.slice A1_0 ts.length c1_0,.slice A1_1 cs.length c1_1,.slice A1_2 ns.length c1_2] 28 (0,0))) (h : impl_sourceCode.f l0_0 l0_1 ts cs ns who = some res) :
  Calls Try.prog 100 #[.agg #[.slice A0_0 l0_0.length c0_0,.slice A0_1 l0_1.length c0_1],.pointer (some ⟨gb0,0,none⟩),.int .i64 who] w fun e w' => e = .returned (.int .i64 res) ∧ Below w.heap.size w w' := by
 unfold impl_sourceCode.f at h
 obtain ⟨t,hin,h⟩ := Option.bind_eq_some_iff.mp h
 have hu44 := Try.underlying44
 have hu28 := Try.underlying28
 have hu107 := Try.underlying107
 have hu192 := Try.underlying192
 have hu94 := Try.underlying94
 have ST := aM_ (Own.start (Mine.nothing w))
 have HS := aM_ hS
 obtain ⟨hS0,hS1,hS2⟩ := cw3 hS
 replace ST := aM_ (ST.out.cell hS0)
 replace ST := aM_ (ST.out.cell hS1)
 replace ST := aM_ (ST.out.cell hS2)
 have HIN := aM_ hin
 have HH := aM_ h
 have HR01 := aM_ hr0_1
 have HR10 := aM_ hr1_0
 have HR11 := aM_ hr1_1
 clear hin h hr0_1 hr1_0 hr1_1
 clear hS hS0 hS1 hS2
 replace yS2 := ST.out.ck 0 rfl
 replace yS1 := ST.out.ck 1 rfl
 replace yS0 := ST.out.ck 2 rfl
 go_enter Try.func100,Try.ntmps100
 go_wp2_with (first | (refine bX_ 3 (cs := #[.slice A0_0 l0_0.length c0_0,.slice A0_1 l0_1.length c0_1]) (t := 44) ?_;intro gb1 hg w1 hbox hb;replace ST := aM_ (ST.out.box hg hbox hb);clear hg hbox hb;replace zc1 := ce2_ ST 0;replace yS2 := ST.out.ck 0 rfl;replace yS1 := ST.out.ck 1 rfl;replace yS0 := ST.out.ck 2 rfl) | (refine gL_ (some 19) Try.func106 #[.int .i64 who,.int .i64 0,.int .i64 (wrap64 ((ts.length : Int) - 1))] ?_;(with_reducible refine (impl_within.calls who 0 (wrap64 ((ts.length : Int) - 1)) t _ HIN.out).mono ?_);rintro e w2 ⟨rfl,hd_⟩;refine ⟨_,rfl,?_⟩;have hb := Drawn0.below hd_;replace ST := aM_ (ST.out.below hb);clear hb hd_;replace zc1 := ce2_ ST 0;replace yS2 := ST.out.ck 0 rfl;replace yS1 := ST.out.ck 1 rfl;replace yS0 := ST.out.ck 2 rfl;refine hide_ (fun G hG => ?_)))
 have h := HH.out
 clear HH
 cases t
 ·rw [if_neg (by decide)] at h
  obtain rfl := Option.some.inj h
  clear h
  refine hG.out ?_
  clear hG G
  go_wp2
  go_ret
  exact ⟨by first | rfl | (simp <;> rfl),ST.out.M.B⟩
 rw [if_pos rfl] at h
 by_cases h0 : 0 ≤ who
 case neg => rw [if_neg h0] at h;cases h
 rw [if_pos h0] at h
 by_cases h1 : who < (ts.length : Int)
 case neg => rw [if_neg h1] at h;cases h
 rw [if_pos h1] at h
 by_cases h2 : who < (l0_1.length : Int)
 case neg => rw [if_neg h2] at h;cases h
 rw [if_pos h2] at h
 by_cases h3 : 0 ≤ (rd_T107 ts who).f0
 case neg => rw [if_neg h3] at h;cases h
 rw [if_pos h3] at h
 by_cases h4 : (rd_T107 ts who).f0 < ((rd_L4 l0_1 who).length : Int)
 case neg => rw [if_neg h4] at h;cases h
 rw [if_pos h4] at h
 rcases hx : rd_T192 (rd_L4 l0_1 who) (rd_T107 ts who).f0 with ⟨op,r,a,bb,n⟩
 rw [hx] at h
 dsimp only at h
 obtain ⟨ad7,A7_1,c7_1,e7,hx7_0,hx7_1,hx7_2,-,-⟩ := at_T107 HR10.out who h0 h1
 cases e7
 obtain ⟨ad3,A3_0,c3_0,e3,hb3,-,hi3⟩ := at_L4 HR01.out who h0 h2
 cases e3
 obtain ⟨ad5,e5,hx5_0,hx5_1,hx5_2,hx5_3,hx5_4⟩ := at_T192 hi3 (rd_T107 ts who).f0 h3 h4
 cases e5
 rw [hx] at hx5_0 hx5_1 hx5_2 hx5_3 hx5_4
 replace ST := aM_ (ST.out.par ST.out.M.B (Nat.le_refl _) hx7_0)
 replace ST := aM_ (ST.out.par ST.out.M.B (Nat.le_refl _) hx7_1)
 replace ST := aM_ (ST.out.par ST.out.M.B (Nat.le_refl _) hx7_2)
 replace ST := aM_ (ST.out.par ST.out.M.B (Nat.le_refl _) hb3)
 replace ST := aM_ (ST.out.par ST.out.M.B (Nat.le_refl _) hx5_0)
 replace ST := aM_ (ST.out.par ST.out.M.B (Nat.le_refl _) hx5_1)
 replace ST := aM_ (ST.out.par ST.out.M.B (Nat.le_refl _) hx5_2)
 replace ST := aM_ (ST.out.par ST.out.M.B (Nat.le_refl _) hx5_3)
 replace ST := aM_ (ST.out.par ST.out.M.B (Nat.le_refl _) hx5_4)
 clear hx7_0 hx7_1 hx7_2 hb3 hi3 hx5_0 hx5_1 hx5_2 hx5_3 hx5_4 hx
 replace h0 := eq_true h0
 replace h1 := eq_true h1
 replace h2 := eq_true h2
 replace h3 := eq_true h3
 replace h4 := eq_true h4
 have HH := aM_ h
 clear h
 replace zc1 := ce2_ ST 0
 replace y54 := ST.out.ck 0 rfl
 replace y53 := ST.out.ck 1 rfl
 replace y52 := ST.out.ck 2 rfl
 replace y51 := ST.out.ck 3 rfl
 replace y50 := ST.out.ck 4 rfl
 replace y3 := ST.out.ck 5 rfl
 replace y72 := ST.out.ck 6 rfl
 replace y71 := ST.out.ck 7 rfl
 replace y70 := ST.out.ck 8 rfl
 replace yS2 := ST.out.ck 9 rfl
 replace yS1 := ST.out.ck 10 rfl
 replace yS0 := ST.out.ck 11 rfl
 refine hG.out ?_
 clear hG G
 try go_wp2_with (first | (refine bX_ 7 (cs := #[.int .i64 0,.slice none 0 0,.int .i64 0]) (t := 107) ?_;intro gb3 hg w3 hbox hb;replace ST := aM_ (ST.out.box hg hbox hb);clear hg hbox hb;have zo54 := cel3 (ST.out.bk 0 rfl);replace ST := aM_ (ST.out.put3 0 rfl (.int .i64 (rd_T107 ts who).f0) (.slice A7_1 (rd_T107 ts who).f1.length c7_1) (.int .i64 (rd_T107 ts who).f2));(try clear y70 y71 y72);replace zc1 := ce2_ ST 1;replace zc3 := ce3_ ST 0;replace y54 := ST.out.ck 0 rfl;replace y53 := ST.out.ck 1 rfl;replace y52 := ST.out.ck 2 rfl;replace y51 := ST.out.ck 3 rfl;replace y50 := ST.out.ck 4 rfl;replace y3 := ST.out.ck 5 rfl;replace yS2 := ST.out.ck 9 rfl;replace yS1 := ST.out.ck 10 rfl;replace yS0 := ST.out.ck 11 rfl))
 replace ST := aM_ ST.out.drew
 refine sTa_ 11 (fun w' => C2 w' gb1 (.slice A0_0 l0_0.length c0_0) (.slice (some ad3) l0_1.length c0_1) ∧ C3 w' gb3 (.int .i64 (rd_T107 ts who).f0) (.slice A7_1 (rd_T107 ts who).f1.length c7_1) (.int .i64 (rd_T107 ts who).f2) ∧ w'.cell? (ad3.add (who).toNat) = some (.slice (some ad5) (rd_L4 l0_1 who).length c3_0) ∧ w'.cell? (ad5.add (((rd_T107 ts who).f0).toNat * 5)) = some (.int .i64 op) ∧ w'.cell? ⟨(ad5.add (((rd_T107 ts who).f0).toNat * 5)).block,(ad5.add (((rd_T107 ts who).f0).toNat * 5)).off + 1,none⟩ = some (.int .i64 r) ∧ w'.cell? ⟨(ad5.add (((rd_T107 ts who).f0).toNat * 5)).block,(ad5.add (((rd_T107 ts who).f0).toNat * 5)).off + 2,none⟩ = some (.int .i64 a) ∧ w'.cell? ⟨(ad5.add (((rd_T107 ts who).f0).toNat * 5)).block,(ad5.add (((rd_T107 ts who).f0).toNat * 5)).off + 3,none⟩ = some (.int .i64 bb) ∧ w'.cell? ⟨(ad5.add (((rd_T107 ts who).f0).toNat * 5)).block,(ad5.add (((rd_T107 ts who).f0).toNat * 5)).off + 4,none⟩ = some (.int .i64 n)) [10] ⟨cw2 (ST.out.bk 1 rfl),cw3 (ST.out.bk 0 rfl),(ST.out.ck 5 rfl),(ST.out.ck 4 rfl),(ST.out.ck 3 rfl),(ST.out.ck 2 rfl),(ST.out.ck 1 rfl),(ST.out.ck 0 rfl)⟩ (fun hHeld => ?_)
 generalize (((w3.setCell ⟨gb3,0,none⟩ (.int .i64 (rd_T107 ts who).f0)).setCell ⟨gb3,1,none⟩ (.slice A7_1 (rd_T107 ts who).f1.length c7_1)).setCell ⟨gb3,2,none⟩ (.int .i64 (rd_T107 ts who).f2)).drew = w4 at ST hHeld ⊢
 refine jU_ 0 28 11 1 ?_
 refine jU_ 2 30 11 5 ?_
 refine jU_ 5 33 11 37 ?_
 refine jK8_ 1 29 11 39 ?_
 refine jU_ 3 31 11 47 ?_
 refine jK8_ 4 32 11 63 ?_
 refine jK8_ 6 34 11 127 ?_
 refine jU_ 7 35 11 255 ?_
 refine jK8_ 8 36 11 511 ?_
 refine jN_ 9 8 11 1023 (fun K hK => ?_)
 refine box_step ?hg (N := 8) ?hd (cs := #[.int .i64 0,.int .i64 0,.int .i64 0,.int .i64 0,.int .i64 0]) (t := 192) ?hr ?_;(case hd => rfl);(case hg => rfl);(case hr => first | (go_simp;done) | (go_simp;rfl))
 intro gb5 hg w5 hbox hb
 replace ST := aM_ (ST.out.box hg hbox hb)
 clear hg hbox hb
 refine kO_ hK (some 8) ⟨cw2 (ST.out.bk 2 rfl),cw3 (ST.out.bk 1 rfl),(ST.out.ck 5 rfl),(ST.out.ck 4 rfl),(ST.out.ck 3 rfl),(ST.out.ck 2 rfl),(ST.out.ck 1 rfl),(ST.out.ck 0 rfl)⟩ (fun hHeld => ?_)
 clear hK K
 refine last_ (i := 10) (N := none) (mk_ 11 2047) rfl rfl (by kernel_rfl) (by decide) (fun K hK => ?_)
 have zs := cel5 (ST.out.bk 0 rfl)
 refine skip_ (w1 := ?_) (by rfl) rfl ?_ ?_
 rotate_left
 ·go_simp
  rfl
 refine hK.out _ _ ?_
 clear hK K
 refine done_ (by kernel_rfl) ?_
 clear zs
 replace ST := aM_ (ST.out.put5 0 rfl (.int .i64 op) (.int .i64 r) (.int .i64 a) (.int .i64 bb) (.int .i64 n))
 (try clear y3 y50 y51 y52 y53 y54 zo54)
 replace zc1 := ce2_ ST 2
 replace zc3 := ce3_ ST 1
 replace zc5 := ce5_ ST 0
 replace yS2 := ST.out.ck 9 rfl
 replace yS1 := ST.out.ck 10 rfl
 replace yS0 := ST.out.ck 11 rfl
 have h := HH.out
 clear HH
 by_cases hs : (rd_T107 ts who).f2 = 0
 case neg =>
  rw [if_neg hs] at h
  obtain rfl := Option.some.inj h
  clear h
  have pHES0 : ((rd_T107 ts who).f2 == 0) = false := beq_eq_false_iff_ne.mpr hs
  have pHES1 : ((rd_T107 ts who).f2 != 0) = true := bne_iff_ne.mpr hs
  clear hs
  go_wp2
  go_ret
  exact ⟨by first | rfl | (simp <;> rfl),ST.out.M.B⟩
 rw [if_pos hs] at h
 have pHES0 : ((rd_T107 ts who).f2 == 0) = true := beq_iff_eq.mpr hs
 have pHES1 : ((rd_T107 ts who).f2 != 0) = false := bne_eq_false_iff_eq.mpr hs
 clear hs
 by_cases c10 : op = 10
 ·subst c10
  rw [if_pos rfl] at h
  by_cases hl : (ns.length : Int) = 4000
  ·rw [if_pos hl] at h
   obtain rfl := Option.some.inj h
   clear h
   have pHEL : ((ns.length : Int) == 4000) = true := beq_iff_eq.mpr hl
   clear hl
   go_wp2
   go_ret
   exact ⟨by first | rfl | (simp <;> rfl),ST.out.M.B⟩
  ·rw [if_neg hl] at h
   obtain rfl := Option.some.inj h
   clear h
   have pHEL : ((ns.length : Int) == 4000) = false := beq_eq_false_iff_ne.mpr hl
   clear hl
   go_wp2
   go_ret
   exact ⟨by first | rfl | (simp <;> rfl),ST.out.M.B⟩
 rw [if_neg c10] at h
 by_cases c5 : op = 5
 ·subst c5
  rw [if_pos rfl] at h
  by_cases n0 : 0 ≤ n
  case neg => rw [if_neg n0] at h;cases h
  rw [if_pos n0] at h
  by_cases n1 : n < (cs.length : Int)
  case neg => rw [if_neg n1] at h;cases h
  rw [if_pos n1] at h
  have HH := aM_ h
  clear h
  obtain ⟨ad9,A9_1,c9_1,e9,hx9_0,hx9_1,hx9_2,-,-⟩ := at_T94 HR11.out n n0 n1
  cases e9
  replace ST := aM_ (ST.out.par ST.out.M.B (Nat.le_refl _) hx9_0)
  replace ST := aM_ (ST.out.par ST.out.M.B (Nat.le_refl _) hx9_1)
  replace ST := aM_ (ST.out.par ST.out.M.B (Nat.le_refl _) hx9_2)
  have pHN0 := eq_true n0
  have pHN1 := eq_true n1
  clear n0 n1 hx9_0 hx9_1 hx9_2
  replace zc1 := ce2_ ST 2
  replace zc3 := ce3_ ST 1
  replace zc5 := ce5_ ST 0
  replace y92 := ST.out.ck 0 rfl
  replace y91 := ST.out.ck 1 rfl
  replace y90 := ST.out.ck 2 rfl
  replace yS2 := ST.out.ck 12 rfl
  replace yS1 := ST.out.ck 13 rfl
  replace yS0 := ST.out.ck 14 rfl
  try go_wp2
  replace ST := aM_ ST.out.drew
  refine sTa_ 10 (fun w' => K_ w' gb0 0 (.slice (some ad7) ts.length c1_0) ∧ K_ w' gb0 1 (.slice (some ad9) cs.length c1_1) ∧ K_ w' gb0 2 (.slice A1_2 ns.length c1_2) ∧ C5 w' gb5 (.int .i64 5) (.int .i64 r) (.int .i64 a) (.int .i64 bb) (.int .i64 n) ∧ w'.cell? (ad9.add ((n).toNat * 3)) = some (.int .i64 (rd_T94 cs n).f0) ∧ w'.cell? ⟨(ad9.add ((n).toNat * 3)).block,(ad9.add ((n).toNat * 3)).off + 1,none⟩ = some (.slice A9_1 (rd_T94 cs n).f1.length c9_1) ∧ w'.cell? ⟨(ad9.add ((n).toNat * 3)).block,(ad9.add ((n).toNat * 3)).off + 2,none⟩ = some (.bool (rd_T94 cs n).f2)) [9] ⟨(ST.out.ck 14 rfl),(ST.out.ck 13 rfl),(ST.out.ck 12 rfl),cw5 (ST.out.bk 0 rfl),(ST.out.ck 2 rfl),(ST.out.ck 1 rfl),(ST.out.ck 0 rfl)⟩ (fun hHeld => ?_)
  generalize (((((w5.setCell ⟨gb5,0,none⟩ (.int .i64 5)).setCell ⟨gb5,1,none⟩ (.int .i64 r)).setCell ⟨gb5,2,none⟩ (.int .i64 a)).setCell ⟨gb5,3,none⟩ (.int .i64 bb)).setCell ⟨gb5,4,none⟩ (.int .i64 n)).drew = w6 at ST hHeld ⊢
  refine jU_ 0 61 10 1 ?_
  refine jU_ 1 62 10 3 ?_
  refine jU_ 2 63 10 7 ?_
  refine jU_ 4 65 10 23 ?_
  refine jK7_ 3 64 10 31 ?_
  refine jK7_ 5 66 10 63 ?_
  refine jU_ 6 67 10 127 ?_
  refine jK7_ 7 68 10 255 ?_
  refine jN_ 8 9 10 511 (fun K hK => ?_)
  refine box_step ?hg (N := 9) ?hd (cs := #[.int .i64 0,.slice none 0 0,.bool false]) (t := 94) ?hr ?_;(case hd => rfl);(case hg => rfl);(case hr => first | (go_simp;done) | (go_simp;rfl))
  intro gb7 hg w7 hbox hb
  replace ST := aM_ (ST.out.box hg hbox hb)
  clear hg hbox hb
  refine kO_ hK (some 9) ⟨(ST.out.ck 14 rfl),(ST.out.ck 13 rfl),(ST.out.ck 12 rfl),cw5 (ST.out.bk 1 rfl),(ST.out.ck 2 rfl),(ST.out.ck 1 rfl),(ST.out.ck 0 rfl)⟩ (fun hHeld => ?_)
  clear hK K
  refine last_ (i := 9) (N := none) (mk_ 10 1023) rfl rfl (by kernel_rfl) (by decide) (fun K hK => ?_)
  have zs := cel3 (ST.out.bk 0 rfl)
  refine skip_ (w1 := ?_) (by rfl) rfl ?_ ?_
  rotate_left
  ·go_simp
   rfl
  refine hK.out _ _ ?_
  clear hK K
  refine done_ (by kernel_rfl) ?_
  clear zs
  replace ST := aM_ (ST.out.put3 0 rfl (.int .i64 (rd_T94 cs n).f0) (.slice A9_1 (rd_T94 cs n).f1.length c9_1) (.bool (rd_T94 cs n).f2))
  (try clear y90 y91 y92)
  replace zc1 := ce2_ ST 3
  replace zc3 := ce3_ ST 2
  replace zc5 := ce5_ ST 1
  replace zc7 := ce3_ ST 0
  replace yS2 := ST.out.ck 12 rfl
  replace yS1 := ST.out.ck 13 rfl
  replace yS0 := ST.out.ck 14 rfl
  have h := HH.out
  clear HH
  cases hc : (rd_T94 cs n).f2
  ·rw [hc] at h ST
   clear hc
   replace zc1 := ce2_ ST 3
   replace zc3 := ce3_ ST 2
   replace zc5 := ce5_ ST 1
   replace zc7 := ce3_ ST 0
   replace yS2 := ST.out.ck 12 rfl
   replace yS1 := ST.out.ck 13 rfl
   replace yS0 := ST.out.ck 14 rfl
   rw [if_neg (by decide)] at h
   by_cases hl : ((rd_T94 cs n).f1.length : Int) = (rd_T94 cs n).f0
   ·rw [if_pos hl] at h
    obtain rfl := Option.some.inj h
    clear h
    have pHEL : (((rd_T94 cs n).f1.length : Int) == (rd_T94 cs n).f0) = true := beq_iff_eq.mpr hl
    clear hl
    go_wp2
    go_ret
    exact ⟨by first | rfl | (simp <;> rfl),ST.out.M.B⟩
   ·rw [if_neg hl] at h
    obtain rfl := Option.some.inj h
    clear h
    have pHEL : (((rd_T94 cs n).f1.length : Int) == (rd_T94 cs n).f0) = false := beq_eq_false_iff_ne.mpr hl
    clear hl
    go_wp2
    go_ret
    exact ⟨by first | rfl | (simp <;> rfl),ST.out.M.B⟩
  ·rw [hc] at h ST
   clear hc
   replace zc1 := ce2_ ST 3
   replace zc3 := ce3_ ST 2
   replace zc5 := ce5_ ST 1
   replace zc7 := ce3_ ST 0
   replace yS2 := ST.out.ck 12 rfl
   replace yS1 := ST.out.ck 13 rfl
   replace yS0 := ST.out.ck 14 rfl
   rw [if_pos rfl] at h
   obtain rfl := Option.some.inj h
   clear h
   go_wp2
   go_ret
   exact ⟨by first | rfl | (simp <;> rfl),ST.out.M.B⟩
 rw [if_neg c5] at h
 by_cases c6 : op = 6
 ·subst c6
  rw [if_pos rfl] at h
  by_cases n0 : 0 ≤ n
  case neg => rw [if_neg n0] at h;cases h
  rw [if_pos n0] at h
  by_cases n1 : n < (cs.length : Int)
  case neg => rw [if_neg n1] at h;cases h
  rw [if_pos n1] at h
  have HH := aM_ h
  clear h
  obtain ⟨ad9,A9_1,c9_1,e9,hx9_0,hx9_1,hx9_2,-,-⟩ := at_T94 HR11.out n n0 n1
  cases e9
  replace ST := aM_ (ST.out.par ST.out.M.B (Nat.le_refl _) hx9_0)
  replace ST := aM_ (ST.out.par ST.out.M.B (Nat.le_refl _) hx9_1)
  replace ST := aM_ (ST.out.par ST.out.M.B (Nat.le_refl _) hx9_2)
  have pHN0 := eq_true n0
  have pHN1 := eq_true n1
  clear n0 n1 hx9_0 hx9_1 hx9_2
  replace zc1 := ce2_ ST 2
  replace zc3 := ce3_ ST 1
  replace zc5 := ce5_ ST 0
  replace y92 := ST.out.ck 0 rfl
  replace y91 := ST.out.ck 1 rfl
  replace y90 := ST.out.ck 2 rfl
  replace yS2 := ST.out.ck 12 rfl
  replace yS1 := ST.out.ck 13 rfl
  replace yS0 := ST.out.ck 14 rfl
  try go_wp2
  replace ST := aM_ ST.out.drew
  refine sTa_ 10 (fun w' => K_ w' gb0 0 (.slice (some ad7) ts.length c1_0) ∧ K_ w' gb0 1 (.slice (some ad9) cs.length c1_1) ∧ K_ w' gb0 2 (.slice A1_2 ns.length c1_2) ∧ C5 w' gb5 (.int .i64 6) (.int .i64 r) (.int .i64 a) (.int .i64 bb) (.int .i64 n) ∧ w'.cell? (ad9.add ((n).toNat * 3)) = some (.int .i64 (rd_T94 cs n).f0) ∧ w'.cell? ⟨(ad9.add ((n).toNat * 3)).block,(ad9.add ((n).toNat * 3)).off + 1,none⟩ = some (.slice A9_1 (rd_T94 cs n).f1.length c9_1) ∧ w'.cell? ⟨(ad9.add ((n).toNat * 3)).block,(ad9.add ((n).toNat * 3)).off + 2,none⟩ = some (.bool (rd_T94 cs n).f2)) [9] ⟨(ST.out.ck 14 rfl),(ST.out.ck 13 rfl),(ST.out.ck 12 rfl),cw5 (ST.out.bk 0 rfl),(ST.out.ck 2 rfl),(ST.out.ck 1 rfl),(ST.out.ck 0 rfl)⟩ (fun hHeld => ?_)
  generalize (((((w5.setCell ⟨gb5,0,none⟩ (.int .i64 6)).setCell ⟨gb5,1,none⟩ (.int .i64 r)).setCell ⟨gb5,2,none⟩ (.int .i64 a)).setCell ⟨gb5,3,none⟩ (.int .i64 bb)).setCell ⟨gb5,4,none⟩ (.int .i64 n)).drew = w6 at ST hHeld ⊢
  refine jU_ 0 61 10 1 ?_
  refine jU_ 1 62 10 3 ?_
  refine jU_ 2 63 10 7 ?_
  refine jU_ 4 65 10 23 ?_
  refine jK7_ 3 64 10 31 ?_
  refine jK7_ 5 66 10 63 ?_
  refine jU_ 6 67 10 127 ?_
  refine jK7_ 7 68 10 255 ?_
  refine jN_ 8 9 10 511 (fun K hK => ?_)
  refine box_step ?hg (N := 9) ?hd (cs := #[.int .i64 0,.slice none 0 0,.bool false]) (t := 94) ?hr ?_;(case hd => rfl);(case hg => rfl);(case hr => first | (go_simp;done) | (go_simp;rfl))
  intro gb7 hg w7 hbox hb
  replace ST := aM_ (ST.out.box hg hbox hb)
  clear hg hbox hb
  refine kO_ hK (some 9) ⟨(ST.out.ck 14 rfl),(ST.out.ck 13 rfl),(ST.out.ck 12 rfl),cw5 (ST.out.bk 1 rfl),(ST.out.ck 2 rfl),(ST.out.ck 1 rfl),(ST.out.ck 0 rfl)⟩ (fun hHeld => ?_)
  clear hK K
  refine last_ (i := 9) (N := none) (mk_ 10 1023) rfl rfl (by kernel_rfl) (by decide) (fun K hK => ?_)
  have zs := cel3 (ST.out.bk 0 rfl)
  refine skip_ (w1 := ?_) (by rfl) rfl ?_ ?_
  rotate_left
  ·go_simp
   rfl
  refine hK.out _ _ ?_
  clear hK K
  refine done_ (by kernel_rfl) ?_
  clear zs
  replace ST := aM_ (ST.out.put3 0 rfl (.int .i64 (rd_T94 cs n).f0) (.slice A9_1 (rd_T94 cs n).f1.length c9_1) (.bool (rd_T94 cs n).f2))
  (try clear y90 y91 y92)
  replace zc1 := ce2_ ST 3
  replace zc3 := ce3_ ST 2
  replace zc5 := ce5_ ST 1
  replace zc7 := ce3_ ST 0
  replace yS2 := ST.out.ck 12 rfl
  replace yS1 := ST.out.ck 13 rfl
  replace yS0 := ST.out.ck 14 rfl
  have h := HH.out
  clear HH
  cases hc : (rd_T94 cs n).f2
  ·rw [hc] at h ST
   clear hc
   replace zc1 := ce2_ ST 3
   replace zc3 := ce3_ ST 2
   replace zc5 := ce5_ ST 1
   replace zc7 := ce3_ ST 0
   replace yS2 := ST.out.ck 12 rfl
   replace yS1 := ST.out.ck 13 rfl
   replace yS0 := ST.out.ck 14 rfl
   rw [if_neg (by decide)] at h
   by_cases hl : ((rd_T94 cs n).f1.length : Int) = 0
   ·rw [if_pos hl] at h
    obtain rfl := Option.some.inj h
    clear h
    have pHEL : (((rd_T94 cs n).f1.length : Int) == 0) = true := beq_iff_eq.mpr hl
    clear hl
    go_wp2
    go_ret
    exact ⟨by first | rfl | (simp <;> rfl),ST.out.M.B⟩
   ·rw [if_neg hl] at h
    obtain rfl := Option.some.inj h
    clear h
    have pHEL : (((rd_T94 cs n).f1.length : Int) == 0) = false := beq_eq_false_iff_ne.mpr hl
    clear hl
    go_wp2
    go_ret
    exact ⟨by first | rfl | (simp <;> rfl),ST.out.M.B⟩
  ·rw [hc] at h ST
   clear hc
   replace zc1 := ce2_ ST 3
   replace zc3 := ce3_ ST 2
   replace zc5 := ce5_ ST 1
   replace zc7 := ce3_ ST 0
   replace yS2 := ST.out.ck 12 rfl
   replace yS1 := ST.out.ck 13 rfl
   replace yS0 := ST.out.ck 14 rfl
   rw [if_pos rfl] at h
   obtain rfl := Option.some.inj h
   clear h
   go_wp2
   go_ret
   exact ⟨by first | rfl | (simp <;> rfl),ST.out.M.B⟩
 rw [if_neg c6] at h
 have pHEq10 : (op == 10) = false := beq_eq_false_iff_ne.mpr c10
 have pHEn10 : (op != 10) = true := bne_iff_ne.mpr c10
 have pHEq5 : (op == 5) = false := beq_eq_false_iff_ne.mpr c5
 have pHEn5 : (op != 5) = true := bne_iff_ne.mpr c5
 have pHEq6 : (op == 6) = false := beq_eq_false_iff_ne.mpr c6
 have pHEn6 : (op != 6) = true := bne_iff_ne.mpr c6
 clear c10 c5 c6
 obtain rfl := Option.some.inj h
 clear h
 go_wp2
 go_ret
 exact ⟨by first | rfl | (simp <;> rfl),ST.out.M.B⟩
theorem impl_sourceCode.callsP (gb0 : Nat) (A0_0 : Option Addr) (c0_0 : Nat) (l0_0 : List Int) (A0_1 : Option Addr) (c0_1 : Nat) (l0_1 : List (List (S192))) (A1_0 : Option Addr) (c1_0 : Nat) (l1_0 : List (S107)) (A1_1 : Option Addr) (c1_1 : Nat) (l1_1 : List (S94)) (A1_2 : Option Addr) (c1_2 : Nat) (l1_2 : List (S35)) (a2 : Int) (r : Int) (w : World) (hS : w.heap[gb0]? = some (.cells #[.slice A1_0 l1_0.length c1_0,.slice A1_1 l1_1.length c1_1,.slice A1_2 l1_2.length c1_2] 28 (0,0))) (hr0_0 : Kd.C (Kd.int .i64) w A0_0 l0_0.length l0_0) (hc0_0 : l0_0.length ≤ c0_0) (hr0_1 : Kd.C (Kd.slice 192 k192) w A0_1 l0_1.length l0_1) (hc0_1 : l0_1.length ≤ c0_1) (hr1_0 : Kd.C k107 w A1_0 l1_0.length l1_0) (hc1_0 : l1_0.length ≤ c1_0) (hr1_1 : Kd.C k94 w A1_1 l1_1.length l1_1) (hc1_1 : l1_1.length ≤ c1_1) (hr1_2 : Kd.C k35 w A1_2 l1_2.length l1_2) (hc1_2 : l1_2.length ≤ c1_2) (h : impl_sourceCode.f l0_0 l0_1 l1_0 l1_1 l1_2 a2 = some r) :
  Calls Try.prog 100 #[.agg #[.slice A0_0 l0_0.length c0_0,.slice A0_1 l0_1.length c0_1],.pointer (some ⟨gb0,0,none⟩),.int .i64 a2] w fun e w' => e = .returned (.int .i64 r) ∧ Below w.heap.size w w' :=
 impl_sourceCode.calls A0_0 c0_0 l0_0 A0_1 c0_1 l0_1 gb0 A1_0 c1_0 l1_0 A1_1 c1_1 l1_1 A1_2 c1_2 l1_2 a2 r w hr0_1 hr1_0 hr1_1 hS h
end Go.Proofs.Ytobachfngmpeiaa.PFnExactAble
namespace Go.Proofs.Ytobachfngmpeiaa.PFnExactAble
open Go.RowKit Go.Proofs.YtobachfngmpeiaaW.PrintWords Go.Proofs.YtobachfngmpeiaaW.PrintLast Go.Proofs.YtobachfngmpeiaaW.PrintMore
attribute [local go_sem] max2_int min2_int max_two min_two max_three min_three max_four min_four   -- for this text's walks alone
set_option linter.unusedVariables false
set_option linter.unusedSimpArgs false
def impl_ChanOk.f (a0_0 : Int) (l0_1 : List Int) (a0_2 : Bool) : Option (Bool) := (impl_within.f a0_0 1 4).bind fun t387 => (if t387 = true then (some (decide ((l0_1.length : Int) ≤ a0_0))) else (some false))
set_option maxHeartbeats 8000000 in
theorem impl_ChanOk.calls (a0_0 : Int) (A0_1 : Option Addr) (c0_1 : Nat) (l0_1 : List Int) (a0_2 : Bool) (r : Bool) (w : World) (hr0_1 : Kd.C (Kd.int .i64) w A0_1 l0_1.length l0_1) (hc0_1 : l0_1.length ≤ c0_1) (h : impl_ChanOk.f a0_0 l0_1 a0_2 = some r) :
  Calls Try.prog 54 #[.agg #[.int .i64 a0_0,.slice A0_1 l0_1.length c0_1,.bool a0_2]] w fun e w' => e = .returned (.bool r) ∧ Below w.heap.size w w' := by
 have hu94 := Try.underlying94
 have HR0_1 := aM_ hr0_1
 have HC0_1 := aM_ hc0_1
 clear hr0_1 hc0_1
 have HB := aM_ (Below.refl w.heap.size w)
 have H : ((impl_within.f a0_0 1 4).bind fun t387 => (if t387 = true then (some (decide ((l0_1.length : Int) ≤ a0_0))) else (some false))) = some r := h
 clear h
 replace H := Option.bind_eq_some_iff.mp H
 obtain ⟨t387,A20,H⟩ := H
 replace H : (if t387 = true then (some (decide ((l0_1.length : Int) ≤ a0_0))) else (some false)) = some r := H
 have A2 := aM_ A20
 clear A20
 by_cases c3 : t387 = true
 ·subst c3
  have H1 : (some (decide ((l0_1.length : Int) ≤ a0_0))) = some r := by rw [if_pos rfl] at H;exact H
  clear H
  have H := H1
  clear H1
  obtain rfl := sJ_ H
  go_enter Try.func54,Try.ntmps54
  go_wp2_with (first | ((with_reducible refine gate_dst (N := 1) rfl ?_);(try (refine gate_guard (by rfl) ?_;dsimp only));refine bX_ 1 (cs := #[.int .i64 a0_0,.slice A0_1 l0_1.length c0_1,.bool a0_2]) (t := 94) ?_;intro gb386 hg w4 hbox hb;have BK386 := aM_ (hbox);have GE386 := aM_ (sZ_ hg HB.out);replace HB := aM_ (sT_ HB.out hb);clear hb hbox hg;have z_5 := bR3_ BK386.out) | (refine gL_ (some 5) Try.func106 #[.int .i64 a0_0,.int .i64 1,.int .i64 4] ?_;(with_reducible refine (impl_within.calls a0_0 1 4 true _ A2.out).mono ?_);rintro e w' ⟨rfl,⟨nd,rfl⟩⟩;refine ⟨_,rfl,?_⟩))
  go_ret
  exact fI_ HB.out
 ·replace c3 := Bool.eq_false_iff.mpr c3
  subst c3
  have H1 := hF_ H
  clear H
  have H := H1
  clear H1
  obtain rfl := sJ_ H
  go_enter Try.func54,Try.ntmps54
  go_wp2_with (first | ((with_reducible refine gate_dst (N := 1) rfl ?_);(try (refine gate_guard (by rfl) ?_;dsimp only));refine bX_ 1 (cs := #[.int .i64 a0_0,.slice A0_1 l0_1.length c0_1,.bool a0_2]) (t := 94) ?_;intro gb386 hg w6 hbox hb;have BK386 := aM_ (hbox);have GE386 := aM_ (sZ_ hg HB.out);replace HB := aM_ (sT_ HB.out hb);clear hb hbox hg;have z_7 := bR3_ BK386.out) | (refine gL_ (some 5) Try.func106 #[.int .i64 a0_0,.int .i64 1,.int .i64 4] ?_;(with_reducible refine (impl_within.calls a0_0 1 4 false _ A2.out).mono ?_);rintro e w' ⟨rfl,⟨nd,rfl⟩⟩;refine ⟨_,rfl,?_⟩))
  go_ret
  exact fI_ HB.out
def impl_capsOk.l0 : Nat → List Int → Int → Int → Option (Bool)
  | 0,_,_,_ => none
  | k + 1,x5,x6,x7 => if x7 < x6 then (if 0 ≤ x7 then (if x7 < (x5.length : Int) then ((impl_within.f (rd x5 x7) 1 4).bind fun t389 => (if t389 = true then (impl_capsOk.l0 k x5 x6 (wrap64 (x7 + 1))) else (some false))) else (none)) else (none)) else (some true)
def impl_capsOk.f (k : Nat) (l0 : List Int) : Option (Bool) := impl_capsOk.l0 k l0 (l0.length : Int) 0
set_option maxHeartbeats 8000000 in
theorem impl_capsOk.calls (k : Nat) (A0 : Option Addr) (c0 : Nat) (l0 : List Int) (r : Bool) (w : World) (hr0 : Kd.C (Kd.int .i64) w A0 l0.length l0) (hc0 : l0.length ≤ c0) (h : impl_capsOk.f k l0 = some r) :
  Calls Try.prog 109 #[.slice A0 l0.length c0] w fun e w' => e = .returned (.bool r) ∧ Drawn0 w w' := by
 have HR0 := aM_ hr0
 have HC0 := aM_ hc0
 clear hr0 hc0
 have H : (impl_capsOk.l0 k l0 (l0.length : Int) 0) = some r := h
 clear h
 have H' := aM_ H
 clear H
 go_enter Try.func109,Try.ntmps109
 go_wp2
 go_loopg [7] k (fun kq v7 w' => ∃ (x7_1 : Int),v7 = .int .i64 x7_1 ∧ Aside0 (impl_capsOk.l0 kq l0 (l0.length : Int) x7_1 = some r) ∧ Aside0 (kq ≤ k) ∧ Drawn0 w w')
 case atStart => exact ⟨(0),(by first | rfl | (simp;done) | (simp [*];done)),H',⟨Nat.le_refl _⟩,by repeat (first | exact Drawn0.refl _ | apply Drawn0.step)⟩
 case round =>
  clear H'
  try clear c1
  obtain ⟨x7_1,rfl,HA,HK1,⟨m1,rfl⟩⟩ := hrel
  cases gk with
  | zero => exact absurd HA.out (by simp [impl_capsOk.l0])
  | succ k1 =>
   have H := HA.out
   clear HA
   simp only [impl_capsOk.l0] at H
   by_cases c2 : x7_1 < (l0.length : Int)
   ·rw [if_pos c2] at H
    have c2b0 : decide (x7_1 < (l0.length : Int)) = true := decide_eq_true c2
    clear c2
    by_cases c3 : 0 ≤ x7_1
    ·rw [if_pos c3] at H
     have c3b0 : decide (0 ≤ x7_1) = true := decide_eq_true c3
     clear c3
     by_cases c4 : x7_1 < (l0.length : Int)
     ·rw [if_pos c4] at H
      have c4b0 : decide (x7_1 < (l0.length : Int)) = true := decide_eq_true c4
      clear c4
      replace H := Option.bind_eq_some_iff.mp H
      obtain ⟨t389,A50,H⟩ := H
      replace H : (if t389 = true then (impl_capsOk.l0 k1 l0 (l0.length : Int) (wrap64 (x7_1 + 1))) else (some false)) = some r := H
      have A5 := aM_ A50
      clear A50
      by_cases c6 : t389 = true
      ·subst c6
       have H1 : (impl_capsOk.l0 k1 l0 (l0.length : Int) (wrap64 (x7_1 + 1))) = some r := by rw [if_pos rfl] at H;exact H
       clear H
       have H := H1
       clear H1
       have H' := aM_ H
       clear H
       have p388 : 0 ≤ (x7_1 : Int) := pD_
       have q388 : x7_1 < (l0.length : Int) := pD_
       obtain ⟨ad388,e388,hx388_0⟩ := Kd.at_int HR0.out x7_1 p388 q388
       cases e388
       replace p388 := eq_true p388
       replace q388 := eq_true q388
       go_wp2_with (first | (refine gL_ (some 12) Try.func106 #[.int .i64 (rd l0 x7_1),.int .i64 1,.int .i64 4] ?_;(with_reducible refine (impl_within.calls (rd l0 x7_1) 1 4 true _ A5.out).mono ?_);rintro e w' ⟨rfl,⟨nd,rfl⟩⟩;refine ⟨_,rfl,?_⟩))
       go_roundg k1
       case measure => have := HK1.out;omega
       case rel => exact ⟨(wrap64 (x7_1 + 1)),(by first | rfl | (simp;done) | (simp [*];done)),H',⟨by have := HK1.out;omega⟩,by repeat (first | exact Drawn0.refl _ | apply Drawn0.step)⟩
      ·replace c6 := Bool.eq_false_iff.mpr c6
       subst c6
       have H1 := hF_ H
       clear H
       have H := H1
       clear H1
       obtain rfl := sJ_ H
       have p388 : 0 ≤ (x7_1 : Int) := pD_
       have q388 : x7_1 < (l0.length : Int) := pD_
       obtain ⟨ad388,e388,hx388_0⟩ := Kd.at_int HR0.out x7_1 p388 q388
       cases e388
       replace p388 := eq_true p388
       replace q388 := eq_true q388
       go_wp2_with (first | (refine gL_ (some 12) Try.func106 #[.int .i64 (rd l0 x7_1),.int .i64 1,.int .i64 4] ?_;(with_reducible refine (impl_within.calls (rd l0 x7_1) 1 4 false _ A5.out).mono ?_);rintro e w' ⟨rfl,⟨nd,rfl⟩⟩;refine ⟨_,rfl,?_⟩))
       go_ret
       exact ⟨by first | rfl | (simp;done) | (simp [*];done),by repeat (first | exact Drawn0.refl _ | apply Drawn0.step)⟩
     ·rw [if_neg c4] at H
      exact absurd H (by simp)
    ·rw [if_neg c3] at H
     exact absurd H (by simp)
   ·rw [if_neg c2] at H
    have c2b0 : decide (x7_1 < (l0.length : Int)) = false := decide_eq_false c2
    clear c2
    obtain rfl := sJ_ H
    go_wp2
    go_ret
    exact ⟨by first | rfl | (simp;done) | (simp [*];done),by repeat (first | exact Drawn0.refl _ | apply Drawn0.step)⟩
end Go.Proofs.Ytobachfngmpeiaa.PFnExactAble
