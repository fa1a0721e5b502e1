/- Part of the proof of FnExactAble. -/
import Derived.Test.YtobachfngmpeiaaZFnExactAblea25
import Derived.Test.YtobachfngmpeiaaZFnExactAbles
set_option maxRecDepth 100000
namespace Go.Proofs.Ytobachfngmpeiaa.PFnExactAble
open Go.RowKit Go.Proofs.YtobachfngmpeiaaW.PrintWords Go.Proofs.YtobachfngmpeiaaW.PrintLast Go.Proofs.YtobachfngmpeiaaW.PrintMore Go.Proofs.Ytobachfngmpeiaa.Marks Go.Proofs.Ytobachfngmpeiaa.LawKit
set_option linter.unusedVariables false
set_option linter.unusedSimpArgs false
attribute [local go_sem] max2_int min2_int max_two min_two max_three min_three max_four min_four
theorem rep192 : Rep k192 (.pair .int (.pair .int (.pair .int (.pair .int .int)))) wt192 := Rep.iso (Rep.pair Rep.int (Rep.pair Rep.int (Rep.pair Rep.int (Rep.pair Rep.int Rep.int)))) _
theorem rep107 : Rep k107 (.pair .int (.pair (.sl .int) .int)) wt107 := Rep.iso (Rep.pair Rep.int (Rep.pair (Rep.slice Rep.int 3) Rep.int)) _
theorem rep94 : Rep k94 (.pair .int (.pair (.sl .int) .bool)) wt94 := Rep.iso (Rep.pair Rep.int (Rep.pair (Rep.slice Rep.int 3) Rep.bool)) _
theorem rep35 : Rep k35 (.pair .int .int) wt35 := Rep.iso (Rep.pair Rep.int Rep.int) _
theorem aq_ {p q : Prop} (h : Aside0 p) (k : Aside0 q) : Aside0 (p ∧ q) := ⟨⟨h.out,k.out⟩⟩
theorem vb_ {lo hi : Nat} {Q : World → Prop} {W W1 : World} (h : Aside0 (St lo hi Q W)) (hb : Below W.heap.size W W1) : Aside0 (St lo hi Q W1) := ⟨h.out.below hb⟩
theorem bkb_ {w w1 : World} {g : Nat} {o : Obj} (h : Aside0 (w.heap[g]? = some o)) (hb : Below w.heap.size w w1) : Aside0 (w1.heap[g]? = some o) := ⟨blk_below h.out hb⟩
theorem bx2_ {w : World} {g : Nat} {t : TypeId} {v0 v1 : Value} (h : Aside0 (w.heap[g]? = some (.cells #[v0,v1] t (0,0)))) : w.cell? ⟨g,0,none⟩ = some v0 ∧ w.frozen? ⟨g,0,none⟩ = false ∧ w.cell? ⟨g,1,none⟩ = some v1 ∧ w.frozen? ⟨g,1,none⟩ = false := ⟨(blk_cell h.out 0).trans rfl,blk_frozen h.out 0,(blk_cell h.out 1).trans rfl,blk_frozen h.out 1⟩
theorem bx3_ {w : World} {g : Nat} {t : TypeId} {v0 v1 v2 : Value} (h : Aside0 (w.heap[g]? = some (.cells #[v0,v1,v2] t (0,0)))) : w.cell? ⟨g,0,none⟩ = some v0 ∧ w.frozen? ⟨g,0,none⟩ = false ∧ w.cell? ⟨g,1,none⟩ = some v1 ∧ w.frozen? ⟨g,1,none⟩ = false ∧ w.cell? ⟨g,2,none⟩ = some v2 ∧ w.frozen? ⟨g,2,none⟩ = false := ⟨(blk_cell h.out 0).trans rfl,blk_frozen h.out 0,(blk_cell h.out 1).trans rfl,blk_frozen h.out 1,(blk_cell h.out 2).trans rfl,blk_frozen h.out 2⟩
theorem hs2_ {lo hi : Nat} {Q : World → Prop} {W : World} (h : Aside0 (St lo hi Q W)) (g : Nat) (v0 v1 : Value) (hg : hi ≤ g := by have q_ := HQ.out;omega) : Aside0 (St lo hi Q ((W.setCell ⟨g,0,none⟩ v0).setCell ⟨g,1,none⟩ v1)) := ⟨((h.out.set (o := 0) (g := g) hg v0).set (o := 1) (g := g) hg v1)⟩
theorem hs3_ {lo hi : Nat} {Q : World → Prop} {W : World} (h : Aside0 (St lo hi Q W)) (g : Nat) (v0 v1 v2 : Value) (hg : hi ≤ g := by have q_ := HQ.out;omega) : Aside0 (St lo hi Q (((W.setCell ⟨g,0,none⟩ v0).setCell ⟨g,1,none⟩ v1).setCell ⟨g,2,none⟩ v2)) := ⟨(((h.out.set (o := 0) (g := g) hg v0).set (o := 1) (g := g) hg v1).set (o := 2) (g := g) hg v2)⟩
set_option maxHeartbeats 16000000 in
theorem FnExactAble_exit0 (k : Nat) (A0_0 : Option Addr) (c0_0 : Nat) (l0_0 : List Int) (A0_1 : Option Addr) (c0_1 : Nat) (l0_1 : List (List (S208))) (A1_0 : Option Addr) (c1_0 : Nat) (l1_0 : List (S184)) (A1_1 : Option Addr) (c1_1 : Nat) (l1_1 : List (S186)) (A1_2 : Option Addr) (c1_2 : Nat) (l1_2 : List (S190)) (t1 : Int) (w : World) (hr0_0 : Kd.C (Kd.int .i64) w A0_0 l0_0.length l0_0) (hc0_0 : l0_0.length ≤ c0_0) (hr0_1 : Kd.C (Kd.slice 208 k208) w A0_1 l0_1.length l0_1) (hc0_1 : l0_1.length ≤ c0_1) (hr1_0 : Kd.C k184 w A1_0 l1_0.length l1_0) (hc1_0 : l1_0.length ≤ c1_0) (hr1_1 : Kd.C k186 w A1_1 l1_1.length l1_1) (hc1_1 : l1_1.length ≤ c1_1) (hr1_2 : Kd.C k190 w A1_2 l1_2.length l1_2) (hc1_2 : l1_2.length ≤ c1_2) (pA3 : laws_szProg.f k l0_0 l0_1 1048576 = some t1) (hq0 : (t1 < 0)) :
  Calls Try.prog 7 #[.agg #[.slice A0_0 l0_0.length c0_0,.slice A0_1 l0_1.length c0_1],.agg #[.slice A1_0 l1_0.length c1_0,.slice A1_1 l1_1.length c1_1,.slice A1_2 l1_2.length c1_2]] w fun e w' => e = .returned (.bool true) ∧ Below w.heap.size w w' := by
 have HR0_0 := aM_ hr0_0
 have HC0_0 := aM_ hc0_0
 clear hr0_0 hc0_0
 have HR0_1 := aM_ hr0_1
 have HC0_1 := aM_ hc0_1
 clear hr0_1 hc0_1
 have HR1_0 := aM_ hr1_0
 have HC1_0 := aM_ hc1_0
 clear hr1_0 hc1_0
 have HR1_1 := aM_ hr1_1
 have HC1_1 := aM_ hc1_1
 clear hr1_1 hc1_1
 have HR1_2 := aM_ hr1_2
 have HC1_2 := aM_ hc1_2
 clear hr1_2 hc1_2
 have A3 := aM_ pA3
 clear pA3
 have hq0b : decide (t1 < 0) = true := decide_eq_true hq0
 have hu38 := Try.underlying38
 have hu72 := Try.underlying72
 have HB := aM_ (Below.refl w.heap.size w)
 have HQ : Aside0 True := ⟨trivial⟩
 go_enter Try.func7,Try.ntmps7
 go_wp2_with (first | (refine bX_ 2 (cs := #[.slice A0_0 l0_0.length c0_0,.slice A0_1 l0_1.length c0_1]) (t := 38) ?_;intro gb1 hg w1 hbox hb;have HN1 : Aside0 (w.heap.size ≤ gb1) := ⟨by rw [hg];exact HB.out.size⟩;replace HQ := aq_ HQ HN1;replace HB := aM_ (below_step HB.out hb);have BK1 := aM_ hbox;clear hg hbox hb;obtain ⟨hz1_1_0,hf1_1_0,hz1_1_1,hf1_1_1⟩ := bx2_ BK1) | (refine bX_ 3 (cs := #[.slice A1_0 l1_0.length c1_0,.slice A1_1 l1_1.length c1_1,.slice A1_2 l1_2.length c1_2]) (t := 72) ?_;intro gb2 hg w2 hbox hb;have HN2 : Aside0 (gb1 + 1 ≤ gb2) := ⟨by rw [hg];exact (blk_lt BK1.out)⟩;replace HQ := aq_ HQ HN2;replace BK1 := bkb_ BK1 hb;replace HB := aM_ (below_step HB.out hb);have BK2 := aM_ hbox;clear hg hbox hb;(try clear hz1_1_0 hf1_1_0 hz1_1_1 hf1_1_1);obtain ⟨hz2_1_0,hf2_1_0,hz2_1_1,hf2_1_1⟩ := bx2_ BK1;obtain ⟨hz2_2_0,hf2_2_0,hz2_2_1,hf2_2_1,hz2_2_2,hf2_2_2⟩ := bx3_ BK2) | (refine gL_ (some 16) Try.func15 #[.agg #[.slice A0_0 l0_0.length c0_0,.slice A0_1 l0_1.length c0_1],.int .i64 1048576] ?_;(with_reducible refine (laws_szProg.calls k _ _ l0_0 _ _ l0_1 1048576 t1 _ ?side1 HC0_0.out ?side3 HC0_1.out A3.out).mono ?_);(case side1 => exact Kd.C_below HR0_0.out HB.out);(case side3 => exact Kd.C_below HR0_1.out HB.out);rintro e w3 ⟨rfl,hb⟩;refine ⟨_,rfl,?_⟩;replace BK1 := bkb_ BK1 hb;replace BK2 := bkb_ BK2 hb;replace HB := aM_ (below_step HB.out hb);clear hb;(try clear hz2_1_0 hf2_1_0 hz2_1_1 hf2_1_1);(try clear hz2_2_0 hf2_2_0 hz2_2_1 hf2_2_1 hz2_2_2 hf2_2_2);obtain ⟨hz3_1_0,hf3_1_0,hz3_1_1,hf3_1_1⟩ := bx2_ BK1;obtain ⟨hz3_2_0,hf3_2_0,hz3_2_1,hf3_2_1,hz3_2_2,hf3_2_2⟩ := bx3_ BK2))
 go_ret
 exact ⟨rfl,HB.out⟩
set_option maxHeartbeats 16000000 in
theorem FnExactAble_exit1 (k : Nat) (A0_0 : Option Addr) (c0_0 : Nat) (l0_0 : List Int) (A0_1 : Option Addr) (c0_1 : Nat) (l0_1 : List (List (S208))) (A1_0 : Option Addr) (c1_0 : Nat) (l1_0 : List (S184)) (A1_1 : Option Addr) (c1_1 : Nat) (l1_1 : List (S186)) (A1_2 : Option Addr) (c1_2 : Nat) (l1_2 : List (S190)) (t1 : Int) (t2 : Int) (w : World) (hr0_0 : Kd.C (Kd.int .i64) w A0_0 l0_0.length l0_0) (hc0_0 : l0_0.length ≤ c0_0) (hr0_1 : Kd.C (Kd.slice 208 k208) w A0_1 l0_1.length l0_1) (hc0_1 : l0_1.length ≤ c0_1) (hr1_0 : Kd.C k184 w A1_0 l1_0.length l1_0) (hc1_0 : l1_0.length ≤ c1_0) (hr1_1 : Kd.C k186 w A1_1 l1_1.length l1_1) (hc1_1 : l1_1.length ≤ c1_1) (hr1_2 : Kd.C k190 w A1_2 l1_2.length l1_2) (hc1_2 : l1_2.length ≤ c1_2) (pA3 : laws_szProg.f k l0_0 l0_1 1048576 = some t1) (hq0 : ¬ (t1 < 0)) (pA4 : laws_szSource.f k l1_0 l1_1 l1_2 t1 = some t2) (hq1 : (t2 < 0)) :
  Calls Try.prog 7 #[.agg #[.slice A0_0 l0_0.length c0_0,.slice A0_1 l0_1.length c0_1],.agg #[.slice A1_0 l1_0.length c1_0,.slice A1_1 l1_1.length c1_1,.slice A1_2 l1_2.length c1_2]] w fun e w' => e = .returned (.bool true) ∧ Below w.heap.size w w' := by
 have HR0_0 := aM_ hr0_0
 have HC0_0 := aM_ hc0_0
 clear hr0_0 hc0_0
 have HR0_1 := aM_ hr0_1
 have HC0_1 := aM_ hc0_1
 clear hr0_1 hc0_1
 have HR1_0 := aM_ hr1_0
 have HC1_0 := aM_ hc1_0
 clear hr1_0 hc1_0
 have HR1_1 := aM_ hr1_1
 have HC1_1 := aM_ hc1_1
 clear hr1_1 hc1_1
 have HR1_2 := aM_ hr1_2
 have HC1_2 := aM_ hc1_2
 clear hr1_2 hc1_2
 have A3 := aM_ pA3
 clear pA3
 have A4 := aM_ pA4
 clear pA4
 have hq0b : decide (t1 < 0) = false := decide_eq_false hq0
 have hq1b : decide (t2 < 0) = true := decide_eq_true hq1
 have hu38 := Try.underlying38
 have hu72 := Try.underlying72
 have HB := aM_ (Below.refl w.heap.size w)
 have HQ : Aside0 True := ⟨trivial⟩
 go_enter Try.func7,Try.ntmps7
 go_wp2_with (first | (refine bX_ 2 (cs := #[.slice A0_0 l0_0.length c0_0,.slice A0_1 l0_1.length c0_1]) (t := 38) ?_;intro gb1 hg w1 hbox hb;have HN1 : Aside0 (w.heap.size ≤ gb1) := ⟨by rw [hg];exact HB.out.size⟩;replace HQ := aq_ HQ HN1;replace HB := aM_ (below_step HB.out hb);have BK1 := aM_ hbox;clear hg hbox hb;obtain ⟨hz1_1_0,hf1_1_0,hz1_1_1,hf1_1_1⟩ := bx2_ BK1) | (refine bX_ 3 (cs := #[.slice A1_0 l1_0.length c1_0,.slice A1_1 l1_1.length c1_1,.slice A1_2 l1_2.length c1_2]) (t := 72) ?_;intro gb2 hg w2 hbox hb;have HN2 : Aside0 (gb1 + 1 ≤ gb2) := ⟨by rw [hg];exact (blk_lt BK1.out)⟩;replace HQ := aq_ HQ HN2;replace BK1 := bkb_ BK1 hb;replace HB := aM_ (below_step HB.out hb);have BK2 := aM_ hbox;clear hg hbox hb;(try clear hz1_1_0 hf1_1_0 hz1_1_1 hf1_1_1);obtain ⟨hz2_1_0,hf2_1_0,hz2_1_1,hf2_1_1⟩ := bx2_ BK1;obtain ⟨hz2_2_0,hf2_2_0,hz2_2_1,hf2_2_1,hz2_2_2,hf2_2_2⟩ := bx3_ BK2) | (refine gL_ (some 16) Try.func15 #[.agg #[.slice A0_0 l0_0.length c0_0,.slice A0_1 l0_1.length c0_1],.int .i64 1048576] ?_;(with_reducible refine (laws_szProg.calls k _ _ l0_0 _ _ l0_1 1048576 t1 _ ?side1 HC0_0.out ?side3 HC0_1.out A3.out).mono ?_);(case side1 => exact Kd.C_below HR0_0.out HB.out);(case side3 => exact Kd.C_below HR0_1.out HB.out);rintro e w3 ⟨rfl,hb⟩;refine ⟨_,rfl,?_⟩;replace BK1 := bkb_ BK1 hb;replace BK2 := bkb_ BK2 hb;replace HB := aM_ (below_step HB.out hb);clear hb;(try clear hz2_1_0 hf2_1_0 hz2_1_1 hf2_1_1);(try clear hz2_2_0 hf2_2_0 hz2_2_1 hf2_2_1 hz2_2_2 hf2_2_2);obtain ⟨hz3_1_0,hf3_1_0,hz3_1_1,hf3_1_1⟩ := bx2_ BK1;obtain ⟨hz3_2_0,hf3_2_0,hz3_2_1,hf3_2_1,hz3_2_2,hf3_2_2⟩ := bx3_ BK2) | (refine gL_ (some 21) Try.func33 #[.agg #[.slice A1_0 l1_0.length c1_0,.slice A1_1 l1_1.length c1_1,.slice A1_2 l1_2.length c1_2],.int .i64 t1] ?_;(with_reducible refine (laws_szSource.calls k _ _ l1_0 _ _ l1_1 _ _ l1_2 t1 t2 _ ?side1 HC1_0.out ?side3 HC1_1.out ?side5 HC1_2.out A4.out).mono ?_);(case side1 => exact Kd.C_below HR1_0.out HB.out);(case side3 => exact Kd.C_below HR1_1.out HB.out);(case side5 => exact Kd.C_below HR1_2.out HB.out);rintro e w4 ⟨rfl,hb⟩;refine ⟨_,rfl,?_⟩;replace BK1 := bkb_ BK1 hb;replace BK2 := bkb_ BK2 hb;replace HB := aM_ (below_step HB.out hb);clear hb;(try clear hz3_1_0 hf3_1_0 hz3_1_1 hf3_1_1);(try clear hz3_2_0 hf3_2_0 hz3_2_1 hf3_2_1 hz3_2_2 hf3_2_2);obtain ⟨hz4_1_0,hf4_1_0,hz4_1_1,hf4_1_1⟩ := bx2_ BK1;obtain ⟨hz4_2_0,hf4_2_0,hz4_2_1,hf4_2_1,hz4_2_2,hf4_2_2⟩ := bx3_ BK2))
 go_ret
 exact ⟨rfl,HB.out⟩
set_option maxHeartbeats 16000000 in
theorem FnExactAble_main (k : Nat) (A0_0 : Option Addr) (c0_0 : Nat) (l0_0 : List Int) (A0_1 : Option Addr) (c0_1 : Nat) (l0_1 : List (List (S208))) (A1_0 : Option Addr) (c1_0 : Nat) (l1_0 : List (S184)) (A1_1 : Option Addr) (c1_1 : Nat) (l1_1 : List (S186)) (A1_2 : Option Addr) (c1_2 : Nat) (l1_2 : List (S190)) (t1 : Int) (t2 : Int) (t3 : List Int) (t4 : List (List (S192))) (t5 : List (S107)) (t6 : List (S94)) (t7 : List (S35)) (t8 : List Int) (t9 : List Int) (t10 : List (List (S192))) (t11 : List (S107)) (t12 : List (S94)) (t13 : List (S35)) (t14 : List Int) (t15 : List Int) (t16 : List (List (S192))) (t17 : List (S107)) (t18 : List (S94)) (t19 : List (S35)) (t20 : List Int) (t21 : List (List (S192))) (t22 : List (S107)) (t23 : List (S94)) (t24 : List (S35)) (t25 : List Int) (w : World) (hr0_0 : Kd.C (Kd.int .i64) w A0_0 l0_0.length l0_0) (hc0_0 : l0_0.length ≤ c0_0) (hr0_1 : Kd.C (Kd.slice 208 k208) w A0_1 l0_1.length l0_1) (hc0_1 : l0_1.length ≤ c0_1) (hr1_0 : Kd.C k184 w A1_0 l1_0.length l1_0) (hc1_0 : l1_0.length ≤ c1_0) (hr1_1 : Kd.C k186 w A1_1 l1_1.length l1_1) (hc1_1 : l1_1.length ≤ c1_1) (hr1_2 : Kd.C k190 w A1_2 l1_2.length l1_2) (hc1_2 : l1_2.length ≤ c1_2) (pA3 : laws_szProg.f k l0_0 l0_1 1048576 = some t1) (hq0 : ¬ (t1 < 0)) (pA4 : laws_szSource.f k l1_0 l1_1 l1_2 t1 = some t2) (hq1 : ¬ (t2 < 0)) (pA6 : laws_toProg.f k l0_0 l0_1 = some (t3,t4)) (pA7 : laws_toSource.f k l1_0 l1_1 l1_2 = some (t5,t6,t7)) (pA8 : spec_Able.f k t3 t4 t5 t6 t7 = some t8) (pA9 : laws_toProg.f k l0_0 l0_1 = some (t9,t10)) (pA12 : laws_toSource.f k l1_0 l1_1 l1_2 = some (t11,t12,t13)) (pA15 : impl_Able.f k t9 t10 t11 t12 t13 = some t14) (pA16 : laws_eqIntS.f k t14 t8 = some true) (pA18 : laws_toProg.f k l0_0 l0_1 = some (t15,t16)) (pA19 : laws_eqProg.f k t9 t10 t15 t16 = some true) (pA21 : laws_toSource.f k l1_0 l1_1 l1_2 = some (t17,t18,t19)) (pA22 : laws_eqSource.f k t11 t12 t13 t17 t18 t19 = some true) (hwt23 : wsum (fun _ => 1) t9 + wsum (wsum wt192) t10 ≤ 1152921504606846976) (hwt24 : wsum wt107 t11 + wsum wt94 t12 + wsum wt35 t13 ≤ 1152921504606846976) (pA25 : laws_eqIntS.f k t14 t8 = some true) (hwt26 : wsum (fun _ => 1) t14 ≤ 1152921504606846976) (pA29 : laws_toProg.f k l0_0 l0_1 = some (t20,t21)) (pA30 : laws_toSource.f k l1_0 l1_1 l1_2 = some (t22,t23,t24)) (pA31 : impl_Able.f k t20 t21 t22 t23 t24 = some t25) (pA32 : laws_eqIntS.f k t25 t8 = some true) :
  Calls Try.prog 7 #[.agg #[.slice A0_0 l0_0.length c0_0,.slice A0_1 l0_1.length c0_1],.agg #[.slice A1_0 l1_0.length c1_0,.slice A1_1 l1_1.length c1_1,.slice A1_2 l1_2.length c1_2]] w fun e w' => e = .returned (.bool true) ∧ Below w.heap.size w w' := by
 have HR0_0 := aM_ hr0_0
 have HC0_0 := aM_ hc0_0
 clear hr0_0 hc0_0
 have HR0_1 := aM_ hr0_1
 have HC0_1 := aM_ hc0_1
 clear hr0_1 hc0_1
 have HR1_0 := aM_ hr1_0
 have HC1_0 := aM_ hc1_0
 clear hr1_0 hc1_0
 have HR1_1 := aM_ hr1_1
 have HC1_1 := aM_ hc1_1
 clear hr1_1 hc1_1
 have HR1_2 := aM_ hr1_2
 have HC1_2 := aM_ hc1_2
 clear hr1_2 hc1_2
 have A3 := aM_ pA3
 clear pA3
 have A4 := aM_ pA4
 clear pA4
 have A6 := aM_ pA6
 clear pA6
 have A7 := aM_ pA7
 clear pA7
 have A8 := aM_ pA8
 clear pA8
 have A9 := aM_ pA9
 clear pA9
 have A12 := aM_ pA12
 clear pA12
 have A15 := aM_ pA15
 clear pA15
 have A16 := aM_ pA16
 clear pA16
 have A18 := aM_ pA18
 clear pA18
 have A19 := aM_ pA19
 clear pA19
 have A21 := aM_ pA21
 clear pA21
 have A22 := aM_ pA22
 clear pA22
 have A25 := aM_ pA25
 clear pA25
 have A29 := aM_ pA29
 clear pA29
 have A30 := aM_ pA30
 clear pA30
 have A31 := aM_ pA31
 clear pA31
 have A32 := aM_ pA32
 clear pA32
 have hq0b : decide (t1 < 0) = false := decide_eq_false hq0
 have hq1b : decide (t2 < 0) = false := decide_eq_false hq1
 have hu28 := Try.underlying28
 have hu38 := Try.underlying38
 have hu44 := Try.underlying44
 have hu72 := Try.underlying72
 have HB := aM_ (Below.refl w.heap.size w)
 have HQ : Aside0 True := ⟨trivial⟩
 go_enter Try.func7,Try.ntmps7
 go_wp2_with (first | (refine bX_ 2 (cs := #[.slice A0_0 l0_0.length c0_0,.slice A0_1 l0_1.length c0_1]) (t := 38) ?_;intro gb1 hg w1 hbox hb;have HN1 : Aside0 (w.heap.size ≤ gb1) := ⟨by rw [hg];exact HB.out.size⟩;replace HQ := aq_ HQ HN1;replace HB := aM_ (below_step HB.out hb);have BK1 := aM_ hbox;clear hg hbox hb;obtain ⟨hz1_1_0,hf1_1_0,hz1_1_1,hf1_1_1⟩ := bx2_ BK1) | (refine bX_ 3 (cs := #[.slice A1_0 l1_0.length c1_0,.slice A1_1 l1_1.length c1_1,.slice A1_2 l1_2.length c1_2]) (t := 72) ?_;intro gb2 hg w2 hbox hb;have HN2 : Aside0 (gb1 + 1 ≤ gb2) := ⟨by rw [hg];exact (blk_lt BK1.out)⟩;replace HQ := aq_ HQ HN2;replace BK1 := bkb_ BK1 hb;replace HB := aM_ (below_step HB.out hb);have BK2 := aM_ hbox;clear hg hbox hb;(try clear hz1_1_0 hf1_1_0 hz1_1_1 hf1_1_1);obtain ⟨hz2_1_0,hf2_1_0,hz2_1_1,hf2_1_1⟩ := bx2_ BK1;obtain ⟨hz2_2_0,hf2_2_0,hz2_2_1,hf2_2_1,hz2_2_2,hf2_2_2⟩ := bx3_ BK2) | (refine gL_ (some 16) Try.func15 #[.agg #[.slice A0_0 l0_0.length c0_0,.slice A0_1 l0_1.length c0_1],.int .i64 1048576] ?_;(with_reducible refine (laws_szProg.calls k _ _ l0_0 _ _ l0_1 1048576 t1 _ ?side1 HC0_0.out ?side3 HC0_1.out A3.out).mono ?_);(case side1 => exact Kd.C_below HR0_0.out HB.out);(case side3 => exact Kd.C_below HR0_1.out HB.out);rintro e w3 ⟨rfl,hb⟩;refine ⟨_,rfl,?_⟩;replace BK1 := bkb_ BK1 hb;replace BK2 := bkb_ BK2 hb;replace HB := aM_ (below_step HB.out hb);clear hb;(try clear hz2_1_0 hf2_1_0 hz2_1_1 hf2_1_1);(try clear hz2_2_0 hf2_2_0 hz2_2_1 hf2_2_1 hz2_2_2 hf2_2_2);obtain ⟨hz3_1_0,hf3_1_0,hz3_1_1,hf3_1_1⟩ := bx2_ BK1;obtain ⟨hz3_2_0,hf3_2_0,hz3_2_1,hf3_2_1,hz3_2_2,hf3_2_2⟩ := bx3_ BK2) | (refine gL_ (some 21) Try.func33 #[.agg #[.slice A1_0 l1_0.length c1_0,.slice A1_1 l1_1.length c1_1,.slice A1_2 l1_2.length c1_2],.int .i64 t1] ?_;(with_reducible refine (laws_szSource.calls k _ _ l1_0 _ _ l1_1 _ _ l1_2 t1 t2 _ ?side1 HC1_0.out ?side3 HC1_1.out ?side5 HC1_2.out A4.out).mono ?_);(case side1 => exact Kd.C_below HR1_0.out HB.out);(case side3 => exact Kd.C_below HR1_1.out HB.out);(case side5 => exact Kd.C_below HR1_2.out HB.out);rintro e w4 ⟨rfl,hb⟩;refine ⟨_,rfl,?_⟩;replace BK1 := bkb_ BK1 hb;replace BK2 := bkb_ BK2 hb;replace HB := aM_ (below_step HB.out hb);clear hb;(try clear hz3_1_0 hf3_1_0 hz3_1_1 hf3_1_1);(try clear hz3_2_0 hf3_2_0 hz3_2_1 hf3_2_1 hz3_2_2 hf3_2_2);obtain ⟨hz4_1_0,hf4_1_0,hz4_1_1,hf4_1_1⟩ := bx2_ BK1;obtain ⟨hz4_2_0,hf4_2_0,hz4_2_1,hf4_2_1,hz4_2_2,hf4_2_2⟩ := bx3_ BK2))
 replace BK1 := aM_ (blk_drew BK1.out)
 replace BK2 := aM_ (blk_drew BK2.out)
 replace HB := aM_ (below_drew1 HB.out)
 refine sTa_ 6 (fun w' => K_ w' gb1 0 (.slice A0_0 l0_0.length c0_0) ∧ K_ w' gb1 1 (.slice A0_1 l0_1.length c0_1) ∧ K_ w' gb2 0 (.slice A1_0 l1_0.length c1_0) ∧ K_ w' gb2 1 (.slice A1_1 l1_1.length c1_1) ∧ K_ w' gb2 2 (.slice A1_2 l1_2.length c1_2)) [] ⟨(blk_cell BK1.out 0).trans rfl,(blk_cell BK1.out 1).trans rfl,(blk_cell BK2.out 0).trans rfl,(blk_cell BK2.out 1).trans rfl,(blk_cell BK2.out 2).trans rfl⟩ (fun hHeld => ?_)
 generalize w4.drew = w5 at BK1 BK2 HB hHeld ⊢
 refine jK5_ 0 24 6 1 ?_
 refine jK5_ 2 26 6 5 ?_
 refine jN_ 1 25 6 7 (fun K hK => ?_)
 refine gO_ Try.func17 #[.agg #[.slice A0_0 l0_0.length c0_0,.slice A0_1 l0_1.length c0_1]] ?_
 (with_reducible refine (laws_toProg.calls k _ _ l0_0 _ _ l0_1 t3 t4 _ ?side1 ?side2 ?side3 ?side4 A6.out).mono ?_)
 (case side1 => exact Kd.C_below HR0_0.out HB.out)
 (case side2 => exact HC0_0.out)
 (case side3 => exact Kd.C_below HR0_1.out HB.out)
 (case side4 => exact HC0_1.out)
 rintro e w6 ⟨vv6_0,vv6_1,rfl,ho0,ho1,hb⟩
 refine ⟨_,rfl,?_⟩
 obtain ⟨lo6,hi6,hl1,hl2,hl3,hnew⟩ := St.new (gb2 + 1) (blk_lt BK2.out) hb.size
 have HN6 : Aside0 (gb2 + 1 ≤ lo6 ∧ lo6 ≤ hi6) := ⟨hl1,hl2⟩
 replace HQ := aq_ HQ HN6
 replace BK1 := bkb_ BK1 hb
 replace BK2 := bkb_ BK2 hb
 replace HB := aM_ (below_step HB.out hb)
 obtain ⟨Ao6_0,co6_0,eo⟩ := Kd.R_slice ho0
 subst eo
 have HV6_0 := aM_ (hnew _ _ _ _ _ _ ho0)
 have HIHV6_0 : Aside0 (hi6 ≤ hi6) := ⟨Nat.le_refl _⟩
 replace HQ := aq_ HQ HIHV6_0
 clear ho0
 obtain ⟨Ao6_1,co6_1,eo⟩ := Kd.R_slice (Kd.S_R ho1)
 subst eo
 have HV6_1 := aM_ (hnew _ _ _ _ _ _ (Kd.S_R ho1))
 have HIHV6_1 : Aside0 (hi6 ≤ hi6) := ⟨Nat.le_refl _⟩
 replace HQ := aq_ HQ HIHV6_1
 clear ho1
 clear hnew hl1 hl2 hl3
 clear hb
 refine kO_ hK (some 25) ⟨(blk_cell BK1.out 0).trans rfl,(blk_cell BK1.out 1).trans rfl,(blk_cell BK2.out 0).trans rfl,(blk_cell BK2.out 1).trans rfl,(blk_cell BK2.out 2).trans rfl⟩ (fun hHeld => ?_)
 clear hK K
 refine jN_ 3 27 6 15 (fun K hK => ?_)
 refine gO_ Try.func35 #[.agg #[.slice A1_0 l1_0.length c1_0,.slice A1_1 l1_1.length c1_1,.slice A1_2 l1_2.length c1_2]] ?_
 (with_reducible refine (laws_toSource.calls k _ _ l1_0 _ _ l1_1 _ _ l1_2 t5 t6 t7 _ ?side1 ?side2 ?side3 ?side4 ?side5 ?side6 A7.out).mono ?_)
 (case side1 => exact Kd.C_below HR1_0.out HB.out)
 (case side2 => exact HC1_0.out)
 (case side3 => exact Kd.C_below HR1_1.out HB.out)
 (case side4 => exact HC1_1.out)
 (case side5 => exact Kd.C_below HR1_2.out HB.out)
 (case side6 => exact HC1_2.out)
 rintro e w7 ⟨vv7_0,vv7_1,vv7_2,rfl,ho0,ho1,ho2,hb⟩
 refine ⟨_,rfl,?_⟩
 obtain ⟨lo7,hi7,hl1,hl2,hl3,hnew⟩ := St.new (hi6) HV6_0.out.1 hb.size
 have HN7 : Aside0 (hi6 ≤ lo7 ∧ lo7 ≤ hi7) := ⟨hl1,hl2⟩
 replace HQ := aq_ HQ HN7
 replace HV6_0 := vb_ HV6_0 hb
 replace HV6_1 := vb_ HV6_1 hb
 replace BK1 := bkb_ BK1 hb
 replace BK2 := bkb_ BK2 hb
 replace HB := aM_ (below_step HB.out hb)
 obtain ⟨Ao7_0,co7_0,eo⟩ := Kd.R_slice (Kd.S_R ho0)
 subst eo
 have HV7_0 := aM_ (hnew _ _ _ _ _ _ (Kd.S_R ho0))
 have HIHV7_0 : Aside0 (hi7 ≤ hi7) := ⟨Nat.le_refl _⟩
 replace HQ := aq_ HQ HIHV7_0
 clear ho0
 obtain ⟨Ao7_1,co7_1,eo⟩ := Kd.R_slice (Kd.S_R ho1)
 subst eo
 have HV7_1 := aM_ (hnew _ _ _ _ _ _ (Kd.S_R ho1))
 have HIHV7_1 : Aside0 (hi7 ≤ hi7) := ⟨Nat.le_refl _⟩
 replace HQ := aq_ HQ HIHV7_1
 clear ho1
 obtain ⟨Ao7_2,co7_2,eo⟩ := Kd.R_slice ho2
 subst eo
 have HV7_2 := aM_ (hnew _ _ _ _ _ _ ho2)
 have HIHV7_2 : Aside0 (hi7 ≤ hi7) := ⟨Nat.le_refl _⟩
 replace HQ := aq_ HQ HIHV7_2
 clear ho2
 clear hnew hl1 hl2 hl3
 clear hb
 refine kO_ hK (some 27) ⟨(blk_cell BK1.out 0).trans rfl,(blk_cell BK1.out 1).trans rfl,(blk_cell BK2.out 0).trans rfl,(blk_cell BK2.out 1).trans rfl,(blk_cell BK2.out 2).trans rfl⟩ (fun hHeld => ?_)
 clear hK K
 refine jN_ 4 28 6 31 (fun K hK => ?_)
 refine gO_ Try.func37 #[.agg #[.slice Ao6_0 t3.length co6_0,.slice Ao6_1 t4.length co6_1],.agg #[.slice Ao7_0 t5.length co7_0,.slice Ao7_1 t6.length co7_1,.slice Ao7_2 t7.length co7_2]] ?_
 (with_reducible refine (spec_Able.calls k _ _ t3 _ _ t4 _ _ t5 _ _ t6 _ _ t7 t8 _ ?side1 ?side2 ?side3 ?side4 ?side5 ?side6 ?side7 ?side8 ?side9 ?side10 A8.out).mono ?_)
 (case side1 => exact HV6_0.out.reads)
 (case side2 => exact HV6_0.out.room)
 (case side3 => exact HV6_1.out.reads)
 (case side4 => exact HV6_1.out.room)
 (case side5 => exact HV7_0.out.reads)
 (case side6 => exact HV7_0.out.room)
 (case side7 => exact HV7_1.out.reads)
 (case side8 => exact HV7_1.out.room)
 (case side9 => exact HV7_2.out.reads)
 (case side10 => exact HV7_2.out.room)
 rintro e w8 ⟨vv8_0,rfl,ho0,hb⟩
 refine ⟨_,rfl,?_⟩
 obtain ⟨lo8,hi8,hl1,hl2,hl3,hnew⟩ := St.new (hi7) HV7_0.out.1 hb.size
 have HN8 : Aside0 (hi7 ≤ lo8 ∧ lo8 ≤ hi8) := ⟨hl1,hl2⟩
 replace HQ := aq_ HQ HN8
 replace HV6_0 := vb_ HV6_0 hb
 replace HV6_1 := vb_ HV6_1 hb
 replace HV7_0 := vb_ HV7_0 hb
 replace HV7_1 := vb_ HV7_1 hb
 replace HV7_2 := vb_ HV7_2 hb
 replace BK1 := bkb_ BK1 hb
 replace BK2 := bkb_ BK2 hb
 replace HB := aM_ (below_step HB.out hb)
 obtain ⟨Ao8_0,co8_0,eo⟩ := Kd.R_slice ho0
 subst eo
 have HV8_0 := aM_ (hnew _ _ _ _ _ _ ho0)
 have HIHV8_0 : Aside0 (hi8 ≤ hi8) := ⟨Nat.le_refl _⟩
 replace HQ := aq_ HQ HIHV8_0
 clear ho0
 clear hnew hl1 hl2 hl3
 clear hb
 refine kO_ hK (some 28) ⟨(blk_cell BK1.out 0).trans rfl,(blk_cell BK1.out 1).trans rfl,(blk_cell BK2.out 0).trans rfl,(blk_cell BK2.out 1).trans rfl,(blk_cell BK2.out 2).trans rfl⟩ (fun hHeld => ?_)
 clear hK K
 refine jU_ 5 6 6 63 ?_
 refine done_ (by kernel_rfl) ?_
 (try clear hz4_1_0)
 (try clear hf4_1_0)
 (try clear hz4_1_1)
 (try clear hf4_1_1)
 (try clear hz4_2_0)
 (try clear hf4_2_0)
 (try clear hz4_2_1)
 (try clear hf4_2_1)
 (try clear hz4_2_2)
 (try clear hf4_2_2)
 obtain ⟨hz8_1_0,hf8_1_0,hz8_1_1,hf8_1_1⟩ := bx2_ BK1
 obtain ⟨hz8_2_0,hf8_2_0,hz8_2_1,hf8_2_1,hz8_2_2,hf8_2_2⟩ := bx3_ BK2
 go_wp2_with (first | (refine gL_ (some 30) Try.func17 #[.agg #[.slice A0_0 l0_0.length c0_0,.slice A0_1 l0_1.length c0_1]] ?_;(with_reducible refine (laws_toProg.calls k _ _ l0_0 _ _ l0_1 t9 t10 _ ?side1 HC0_0.out ?side3 HC0_1.out A9.out).mono ?_);(case side1 => exact Kd.C_below HR0_0.out HB.out);(case side3 => exact Kd.C_below HR0_1.out HB.out);rintro e w9 ⟨vv9_0,vv9_1,rfl,ho0,ho1,hb⟩;refine ⟨_,rfl,?_⟩;obtain ⟨lo9,hi9,hl1,hl2,hl3,hnew⟩ := St.new (hi8) HV8_0.out.1 hb.size;have HN9 : Aside0 (hi8 ≤ lo9 ∧ lo9 ≤ hi9) := ⟨hl1,hl2⟩;replace HQ := aq_ HQ HN9;replace HV6_0 := vb_ HV6_0 hb;replace HV6_1 := vb_ HV6_1 hb;replace HV7_0 := vb_ HV7_0 hb;replace HV7_1 := vb_ HV7_1 hb;replace HV7_2 := vb_ HV7_2 hb;replace HV8_0 := vb_ HV8_0 hb;replace BK1 := bkb_ BK1 hb;replace BK2 := bkb_ BK2 hb;replace HB := aM_ (below_step HB.out hb);obtain ⟨Ao9_0,co9_0,eo⟩ := Kd.R_slice ho0;subst eo;have HV9_0 := aM_ (hnew _ _ _ _ _ _ ho0);have HIHV9_0 : Aside0 (hi9 ≤ hi9) := ⟨Nat.le_refl _⟩;replace HQ := aq_ HQ HIHV9_0;clear ho0;obtain ⟨Ao9_1,co9_1,eo⟩ := Kd.R_slice (Kd.S_R ho1);subst eo;have HV9_1 := aM_ (hnew _ _ _ _ _ _ (Kd.S_R ho1));have HIHV9_1 : Aside0 (hi9 ≤ hi9) := ⟨Nat.le_refl _⟩;replace HQ := aq_ HQ HIHV9_1;clear ho1;clear hnew hl1 hl2 hl3;clear hb;(try clear hz8_1_0 hf8_1_0 hz8_1_1 hf8_1_1);(try clear hz8_2_0 hf8_2_0 hz8_2_1 hf8_2_1 hz8_2_2 hf8_2_2);obtain ⟨hz9_1_0,hf9_1_0,hz9_1_1,hf9_1_1⟩ := bx2_ BK1;obtain ⟨hz9_2_0,hf9_2_0,hz9_2_1,hf9_2_1,hz9_2_2,hf9_2_2⟩ := bx3_ BK2) | (refine bX_ 7 (cs := #[.slice none 0 0,.slice none 0 0]) (t := 44) ?_;intro gb10 hg w10 hbox hb;have HN10 : Aside0 (hi9 ≤ gb10) := ⟨by rw [hg];exact HV9_0.out.1⟩;replace HQ := aq_ HQ HN10;replace HV6_0 := vb_ HV6_0 hb;replace HV6_1 := vb_ HV6_1 hb;replace HV7_0 := vb_ HV7_0 hb;replace HV7_1 := vb_ HV7_1 hb;replace HV7_2 := vb_ HV7_2 hb;replace HV8_0 := vb_ HV8_0 hb;replace HV9_0 := vb_ HV9_0 hb;replace HV9_1 := vb_ HV9_1 hb;replace BK1 := bkb_ BK1 hb;replace BK2 := bkb_ BK2 hb;replace HB := aM_ (below_step HB.out hb);have BK10 := aM_ hbox;clear hg hbox hb;(try clear hz9_1_0 hf9_1_0 hz9_1_1 hf9_1_1);(try clear hz9_2_0 hf9_2_0 hz9_2_1 hf9_2_1 hz9_2_2 hf9_2_2);obtain ⟨hz10_1_0,hf10_1_0,hz10_1_1,hf10_1_1⟩ := bx2_ BK1;obtain ⟨hz10_2_0,hf10_2_0,hz10_2_1,hf10_2_1,hz10_2_2,hf10_2_2⟩ := bx3_ BK2;obtain ⟨hz10_10_0,hf10_10_0,hz10_10_1,hf10_10_1⟩ := bx2_ BK10;replace HV6_0 := hs2_ HV6_0 gb10 (.slice Ao9_0 t9.length co9_0) (.slice Ao9_1 t10.length co9_1);replace HV6_1 := hs2_ HV6_1 gb10 (.slice Ao9_0 t9.length co9_0) (.slice Ao9_1 t10.length co9_1);replace HV7_0 := hs2_ HV7_0 gb10 (.slice Ao9_0 t9.length co9_0) (.slice Ao9_1 t10.length co9_1);replace HV7_1 := hs2_ HV7_1 gb10 (.slice Ao9_0 t9.length co9_0) (.slice Ao9_1 t10.length co9_1);replace HV7_2 := hs2_ HV7_2 gb10 (.slice Ao9_0 t9.length co9_0) (.slice Ao9_1 t10.length co9_1);replace HV8_0 := hs2_ HV8_0 gb10 (.slice Ao9_0 t9.length co9_0) (.slice Ao9_1 t10.length co9_1);replace HV9_0 := hs2_ HV9_0 gb10 (.slice Ao9_0 t9.length co9_0) (.slice Ao9_1 t10.length co9_1);replace HV9_1 := hs2_ HV9_1 gb10 (.slice Ao9_0 t9.length co9_0) (.slice Ao9_1 t10.length co9_1);replace BK1 := aM_ (blk_far (p := ⟨gb10,1,none⟩) (blk_far (p := ⟨gb10,0,none⟩) BK1.out (by show gb1 ≠ gb10;have q_ := HQ.out;omega) (.slice Ao9_0 t9.length co9_0)) (by show gb1 ≠ gb10;have q_ := HQ.out;omega) (.slice Ao9_1 t10.length co9_1));replace BK2 := aM_ (blk_far (p := ⟨gb10,1,none⟩) (blk_far (p := ⟨gb10,0,none⟩) BK2.out (by show gb2 ≠ gb10;have q_ := HQ.out;omega) (.slice Ao9_0 t9.length co9_0)) (by show gb2 ≠ gb10;have q_ := HQ.out;omega) (.slice Ao9_1 t10.length co9_1));replace BK10 := aM_ (show ((w10.setCell ⟨gb10,0,none⟩ (.slice Ao9_0 t9.length co9_0)).setCell ⟨gb10,1,none⟩ (.slice Ao9_1 t10.length co9_1)).heap[gb10]? = some (.cells #[.slice Ao9_0 t9.length co9_0,.slice Ao9_1 t10.length co9_1] 44 (0,0)) from (blk_put (cs := #[.slice Ao9_0 t9.length co9_0,.slice none 0 0]) (blk_put (cs := #[.slice none 0 0,.slice none 0 0]) BK10.out 0 (.slice Ao9_0 t9.length co9_0) rfl) 1 (.slice Ao9_1 t10.length co9_1) rfl));replace HB := aM_ (show Below w.heap.size w ((w10.setCell ⟨gb10,0,none⟩ (.slice Ao9_0 t9.length co9_0)).setCell ⟨gb10,1,none⟩ (.slice Ao9_1 t10.length co9_1)) from (below_set (j := 1) (v := .slice Ao9_1 t10.length co9_1) (below_set (j := 0) (v := .slice Ao9_0 t9.length co9_0) HB.out (by have q_ := HQ.out;omega)) (by have q_ := HQ.out;omega)));obtain ⟨hz11_1_0,hf11_1_0,hz11_1_1,hf11_1_1⟩ := bx2_ BK1;obtain ⟨hz11_2_0,hf11_2_0,hz11_2_1,hf11_2_1,hz11_2_2,hf11_2_2⟩ := bx3_ BK2;obtain ⟨hz11_10_0,hf11_10_0,hz11_10_1,hf11_10_1⟩ := bx2_ BK10) | (refine gL_ (some 32) Try.func35 #[.agg #[.slice A1_0 l1_0.length c1_0,.slice A1_1 l1_1.length c1_1,.slice A1_2 l1_2.length c1_2]] ?_;(with_reducible refine (laws_toSource.calls k _ _ l1_0 _ _ l1_1 _ _ l1_2 t11 t12 t13 _ ?side1 HC1_0.out ?side3 HC1_1.out ?side5 HC1_2.out A12.out).mono ?_);(case side1 => exact Kd.C_below HR1_0.out HB.out);(case side3 => exact Kd.C_below HR1_1.out HB.out);(case side5 => exact Kd.C_below HR1_2.out HB.out);rintro e w12 ⟨vv12_0,vv12_1,vv12_2,rfl,ho0,ho1,ho2,hb⟩;refine ⟨_,rfl,?_⟩;obtain ⟨lo12,hi12,hl1,hl2,hl3,hnew⟩ := St.new (gb10 + 1) (blk_lt BK10.out) hb.size;have HN12 : Aside0 (gb10 + 1 ≤ lo12 ∧ lo12 ≤ hi12) := ⟨hl1,hl2⟩;replace HQ := aq_ HQ HN12;replace HV6_0 := vb_ HV6_0 hb;replace HV6_1 := vb_ HV6_1 hb;replace HV7_0 := vb_ HV7_0 hb;replace HV7_1 := vb_ HV7_1 hb;replace HV7_2 := vb_ HV7_2 hb;replace HV8_0 := vb_ HV8_0 hb;replace HV9_0 := vb_ HV9_0 hb;replace HV9_1 := vb_ HV9_1 hb;replace BK1 := bkb_ BK1 hb;replace BK2 := bkb_ BK2 hb;replace BK10 := bkb_ BK10 hb;replace HB := aM_ (below_step HB.out hb);obtain ⟨Ao12_0,co12_0,eo⟩ := Kd.R_slice (Kd.S_R ho0);subst eo;have HV12_0 := aM_ (hnew _ _ _ _ _ _ (Kd.S_R ho0));have HIHV12_0 : Aside0 (hi12 ≤ hi12) := ⟨Nat.le_refl _⟩;replace HQ := aq_ HQ HIHV12_0;clear ho0;obtain ⟨Ao12_1,co12_1,eo⟩ := Kd.R_slice (Kd.S_R ho1);subst eo;have HV12_1 := aM_ (hnew _ _ _ _ _ _ (Kd.S_R ho1));have HIHV12_1 : Aside0 (hi12 ≤ hi12) := ⟨Nat.le_refl _⟩;replace HQ := aq_ HQ HIHV12_1;clear ho1;obtain ⟨Ao12_2,co12_2,eo⟩ := Kd.R_slice ho2;subst eo;have HV12_2 := aM_ (hnew _ _ _ _ _ _ ho2);have HIHV12_2 : Aside0 (hi12 ≤ hi12) := ⟨Nat.le_refl _⟩;replace HQ := aq_ HQ HIHV12_2;clear ho2;clear hnew hl1 hl2 hl3;clear hb;(try clear hz10_1_0 hf10_1_0 hz10_1_1 hf10_1_1);(try clear hz10_2_0 hf10_2_0 hz10_2_1 hf10_2_1 hz10_2_2 hf10_2_2);(try clear hz10_10_0 hf10_10_0 hz10_10_1 hf10_10_1);(try clear hz11_1_0 hf11_1_0 hz11_1_1 hf11_1_1);(try clear hz11_2_0 hf11_2_0 hz11_2_1 hf11_2_1 hz11_2_2 hf11_2_2);(try clear hz11_10_0 hf11_10_0 hz11_10_1 hf11_10_1);obtain ⟨hz12_1_0,hf12_1_0,hz12_1_1,hf12_1_1⟩ := bx2_ BK1;obtain ⟨hz12_2_0,hf12_2_0,hz12_2_1,hf12_2_1,hz12_2_2,hf12_2_2⟩ := bx3_ BK2;obtain ⟨hz12_10_0,hf12_10_0,hz12_10_1,hf12_10_1⟩ := bx2_ BK10) | (refine bX_ 8 (cs := #[.slice none 0 0,.slice none 0 0,.slice none 0 0]) (t := 28) ?_;intro gb13 hg w13 hbox hb;have HN13 : Aside0 (hi12 ≤ gb13) := ⟨by rw [hg];exact HV12_0.out.1⟩;replace HQ := aq_ HQ HN13;replace HV6_0 := vb_ HV6_0 hb;replace HV6_1 := vb_ HV6_1 hb;replace HV7_0 := vb_ HV7_0 hb;replace HV7_1 := vb_ HV7_1 hb;replace HV7_2 := vb_ HV7_2 hb;replace HV8_0 := vb_ HV8_0 hb;replace HV9_0 := vb_ HV9_0 hb;replace HV9_1 := vb_ HV9_1 hb;replace HV12_0 := vb_ HV12_0 hb;replace HV12_1 := vb_ HV12_1 hb;replace HV12_2 := vb_ HV12_2 hb;replace BK1 := bkb_ BK1 hb;replace BK2 := bkb_ BK2 hb;replace BK10 := bkb_ BK10 hb;replace HB := aM_ (below_step HB.out hb);have BK13 := aM_ hbox;clear hg hbox hb;(try clear hz12_1_0 hf12_1_0 hz12_1_1 hf12_1_1);(try clear hz12_2_0 hf12_2_0 hz12_2_1 hf12_2_1 hz12_2_2 hf12_2_2);(try clear hz12_10_0 hf12_10_0 hz12_10_1 hf12_10_1);obtain ⟨hz13_1_0,hf13_1_0,hz13_1_1,hf13_1_1⟩ := bx2_ BK1;obtain ⟨hz13_2_0,hf13_2_0,hz13_2_1,hf13_2_1,hz13_2_2,hf13_2_2⟩ := bx3_ BK2;obtain ⟨hz13_10_0,hf13_10_0,hz13_10_1,hf13_10_1⟩ := bx2_ BK10;obtain ⟨hz13_13_0,hf13_13_0,hz13_13_1,hf13_13_1,hz13_13_2,hf13_13_2⟩ := bx3_ BK13;replace HV6_0 := hs3_ HV6_0 gb13 (.slice Ao12_0 t11.length co12_0) (.slice Ao12_1 t12.length co12_1) (.slice Ao12_2 t13.length co12_2);replace HV6_1 := hs3_ HV6_1 gb13 (.slice Ao12_0 t11.length co12_0) (.slice Ao12_1 t12.length co12_1) (.slice Ao12_2 t13.length co12_2);replace HV7_0 := hs3_ HV7_0 gb13 (.slice Ao12_0 t11.length co12_0) (.slice Ao12_1 t12.length co12_1) (.slice Ao12_2 t13.length co12_2);replace HV7_1 := hs3_ HV7_1 gb13 (.slice Ao12_0 t11.length co12_0) (.slice Ao12_1 t12.length co12_1) (.slice Ao12_2 t13.length co12_2);replace HV7_2 := hs3_ HV7_2 gb13 (.slice Ao12_0 t11.length co12_0) (.slice Ao12_1 t12.length co12_1) (.slice Ao12_2 t13.length co12_2);replace HV8_0 := hs3_ HV8_0 gb13 (.slice Ao12_0 t11.length co12_0) (.slice Ao12_1 t12.length co12_1) (.slice Ao12_2 t13.length co12_2);replace HV9_0 := hs3_ HV9_0 gb13 (.slice Ao12_0 t11.length co12_0) (.slice Ao12_1 t12.length co12_1) (.slice Ao12_2 t13.length co12_2);replace HV9_1 := hs3_ HV9_1 gb13 (.slice Ao12_0 t11.length co12_0) (.slice Ao12_1 t12.length co12_1) (.slice Ao12_2 t13.length co12_2);replace HV12_0 := hs3_ HV12_0 gb13 (.slice Ao12_0 t11.length co12_0) (.slice Ao12_1 t12.length co12_1) (.slice Ao12_2 t13.length co12_2);replace HV12_1 := hs3_ HV12_1 gb13 (.slice Ao12_0 t11.length co12_0) (.slice Ao12_1 t12.length co12_1) (.slice Ao12_2 t13.length co12_2);replace HV12_2 := hs3_ HV12_2 gb13 (.slice Ao12_0 t11.length co12_0) (.slice Ao12_1 t12.length co12_1) (.slice Ao12_2 t13.length co12_2);replace BK1 := aM_ (blk_far (p := ⟨gb13,2,none⟩) (blk_far (p := ⟨gb13,1,none⟩) (blk_far (p := ⟨gb13,0,none⟩) BK1.out (by show gb1 ≠ gb13;have q_ := HQ.out;omega) (.slice Ao12_0 t11.length co12_0)) (by show gb1 ≠ gb13;have q_ := HQ.out;omega) (.slice Ao12_1 t12.length co12_1)) (by show gb1 ≠ gb13;have q_ := HQ.out;omega) (.slice Ao12_2 t13.length co12_2));replace BK2 := aM_ (blk_far (p := ⟨gb13,2,none⟩) (blk_far (p := ⟨gb13,1,none⟩) (blk_far (p := ⟨gb13,0,none⟩) BK2.out (by show gb2 ≠ gb13;have q_ := HQ.out;omega) (.slice Ao12_0 t11.length co12_0)) (by show gb2 ≠ gb13;have q_ := HQ.out;omega) (.slice Ao12_1 t12.length co12_1)) (by show gb2 ≠ gb13;have q_ := HQ.out;omega) (.slice Ao12_2 t13.length co12_2));replace BK10 := aM_ (blk_far (p := ⟨gb13,2,none⟩) (blk_far (p := ⟨gb13,1,none⟩) (blk_far (p := ⟨gb13,0,none⟩) BK10.out (by show gb10 ≠ gb13;have q_ := HQ.out;omega) (.slice Ao12_0 t11.length co12_0)) (by show gb10 ≠ gb13;have q_ := HQ.out;omega) (.slice Ao12_1 t12.length co12_1)) (by show gb10 ≠ gb13;have q_ := HQ.out;omega) (.slice Ao12_2 t13.length co12_2));replace BK13 := aM_ (show (((w13.setCell ⟨gb13,0,none⟩ (.slice Ao12_0 t11.length co12_0)).setCell ⟨gb13,1,none⟩ (.slice Ao12_1 t12.length co12_1)).setCell ⟨gb13,2,none⟩ (.slice Ao12_2 t13.length co12_2)).heap[gb13]? = some (.cells #[.slice Ao12_0 t11.length co12_0,.slice Ao12_1 t12.length co12_1,.slice Ao12_2 t13.length co12_2] 28 (0,0)) from (blk_put (cs := #[.slice Ao12_0 t11.length co12_0,.slice Ao12_1 t12.length co12_1,.slice none 0 0]) (blk_put (cs := #[.slice Ao12_0 t11.length co12_0,.slice none 0 0,.slice none 0 0]) (blk_put (cs := #[.slice none 0 0,.slice none 0 0,.slice none 0 0]) BK13.out 0 (.slice Ao12_0 t11.length co12_0) rfl) 1 (.slice Ao12_1 t12.length co12_1) rfl) 2 (.slice Ao12_2 t13.length co12_2) rfl));replace HB := aM_ (show Below w.heap.size w (((w13.setCell ⟨gb13,0,none⟩ (.slice Ao12_0 t11.length co12_0)).setCell ⟨gb13,1,none⟩ (.slice Ao12_1 t12.length co12_1)).setCell ⟨gb13,2,none⟩ (.slice Ao12_2 t13.length co12_2)) from (below_set (j := 2) (v := .slice Ao12_2 t13.length co12_2) (below_set (j := 1) (v := .slice Ao12_1 t12.length co12_1) (below_set (j := 0) (v := .slice Ao12_0 t11.length co12_0) HB.out (by have q_ := HQ.out;omega)) (by have q_ := HQ.out;omega)) (by have q_ := HQ.out;omega)));obtain ⟨hz14_1_0,hf14_1_0,hz14_1_1,hf14_1_1⟩ := bx2_ BK1;obtain ⟨hz14_2_0,hf14_2_0,hz14_2_1,hf14_2_1,hz14_2_2,hf14_2_2⟩ := bx3_ BK2;obtain ⟨hz14_10_0,hf14_10_0,hz14_10_1,hf14_10_1⟩ := bx2_ BK10;obtain ⟨hz14_13_0,hf14_13_0,hz14_13_1,hf14_13_1,hz14_13_2,hf14_13_2⟩ := bx3_ BK13) | (refine gL_ (some 35) Try.func38 #[.agg #[.slice Ao9_0 t9.length co9_0,.slice Ao9_1 t10.length co9_1],.agg #[.slice Ao12_0 t11.length co12_0,.slice Ao12_1 t12.length co12_1,.slice Ao12_2 t13.length co12_2]] ?_;(with_reducible refine (impl_Able.calls k _ _ t9 _ _ t10 _ _ t11 _ _ t12 _ _ t13 t14 _ ?side1 ?side2 ?side3 ?side4 ?side5 ?side6 ?side7 ?side8 ?side9 ?side10 A15.out).mono ?_);(case side1 => exact HV9_0.out.reads);(case side2 => exact HV9_0.out.room);(case side3 => exact HV9_1.out.reads);(case side4 => exact HV9_1.out.room);(case side5 => exact HV12_0.out.reads);(case side6 => exact HV12_0.out.room);(case side7 => exact HV12_1.out.reads);(case side8 => exact HV12_1.out.room);(case side9 => exact HV12_2.out.reads);(case side10 => exact HV12_2.out.room);rintro e w15 ⟨vv15_0,rfl,ho0,hb⟩;refine ⟨_,rfl,?_⟩;obtain ⟨lo15,hi15,hl1,hl2,hl3,hnew⟩ := St.new (gb13 + 1) (blk_lt BK13.out) hb.size;have HN15 : Aside0 (gb13 + 1 ≤ lo15 ∧ lo15 ≤ hi15) := ⟨hl1,hl2⟩;replace HQ := aq_ HQ HN15;replace HV6_0 := vb_ HV6_0 hb;replace HV6_1 := vb_ HV6_1 hb;replace HV7_0 := vb_ HV7_0 hb;replace HV7_1 := vb_ HV7_1 hb;replace HV7_2 := vb_ HV7_2 hb;replace HV8_0 := vb_ HV8_0 hb;replace HV9_0 := vb_ HV9_0 hb;replace HV9_1 := vb_ HV9_1 hb;replace HV12_0 := vb_ HV12_0 hb;replace HV12_1 := vb_ HV12_1 hb;replace HV12_2 := vb_ HV12_2 hb;replace BK1 := bkb_ BK1 hb;replace BK2 := bkb_ BK2 hb;replace BK10 := bkb_ BK10 hb;replace BK13 := bkb_ BK13 hb;replace HB := aM_ (below_step HB.out hb);obtain ⟨Ao15_0,co15_0,eo⟩ := Kd.R_slice ho0;subst eo;have HV15_0 := aM_ (hnew _ _ _ _ _ _ ho0);have HIHV15_0 : Aside0 (hi15 ≤ hi15) := ⟨Nat.le_refl _⟩;replace HQ := aq_ HQ HIHV15_0;clear ho0;clear hnew hl1 hl2 hl3;clear hb;(try clear hz13_1_0 hf13_1_0 hz13_1_1 hf13_1_1);(try clear hz13_2_0 hf13_2_0 hz13_2_1 hf13_2_1 hz13_2_2 hf13_2_2);(try clear hz13_10_0 hf13_10_0 hz13_10_1 hf13_10_1);(try clear hz13_13_0 hf13_13_0 hz13_13_1 hf13_13_1 hz13_13_2 hf13_13_2);(try clear hz14_1_0 hf14_1_0 hz14_1_1 hf14_1_1);(try clear hz14_2_0 hf14_2_0 hz14_2_1 hf14_2_1 hz14_2_2 hf14_2_2);(try clear hz14_10_0 hf14_10_0 hz14_10_1 hf14_10_1);(try clear hz14_13_0 hf14_13_0 hz14_13_1 hf14_13_1 hz14_13_2 hf14_13_2);obtain ⟨hz15_1_0,hf15_1_0,hz15_1_1,hf15_1_1⟩ := bx2_ BK1;obtain ⟨hz15_2_0,hf15_2_0,hz15_2_1,hf15_2_1,hz15_2_2,hf15_2_2⟩ := bx3_ BK2;obtain ⟨hz15_10_0,hf15_10_0,hz15_10_1,hf15_10_1⟩ := bx2_ BK10;obtain ⟨hz15_13_0,hf15_13_0,hz15_13_1,hf15_13_1,hz15_13_2,hf15_13_2⟩ := bx3_ BK13) | (refine gL_ (some 38) Try.func39 #[.slice Ao15_0 t14.length co15_0,.slice Ao8_0 t8.length co8_0] ?_;(with_reducible refine (laws_eqIntS.calls k _ _ t14 _ _ t8 true _ ?side1 ?side2 ?side3 ?side4 A16.out).mono ?_);(case side1 => exact HV15_0.out.reads);(case side2 => exact HV15_0.out.room);(case side3 => exact HV8_0.out.reads);(case side4 => exact HV8_0.out.room);rintro e w16 ⟨rfl,hd_⟩;refine ⟨_,rfl,?_⟩;have hb := Drawn0.below hd_;replace HV6_0 := vb_ HV6_0 hb;replace HV6_1 := vb_ HV6_1 hb;replace HV7_0 := vb_ HV7_0 hb;replace HV7_1 := vb_ HV7_1 hb;replace HV7_2 := vb_ HV7_2 hb;replace HV8_0 := vb_ HV8_0 hb;replace HV9_0 := vb_ HV9_0 hb;replace HV9_1 := vb_ HV9_1 hb;replace HV12_0 := vb_ HV12_0 hb;replace HV12_1 := vb_ HV12_1 hb;replace HV12_2 := vb_ HV12_2 hb;replace HV15_0 := vb_ HV15_0 hb;replace BK1 := bkb_ BK1 hb;replace BK2 := bkb_ BK2 hb;replace BK10 := bkb_ BK10 hb;replace BK13 := bkb_ BK13 hb;replace HB := aM_ (below_step HB.out hb);clear hb;(try clear hz15_1_0 hf15_1_0 hz15_1_1 hf15_1_1);(try clear hz15_2_0 hf15_2_0 hz15_2_1 hf15_2_1 hz15_2_2 hf15_2_2);(try clear hz15_10_0 hf15_10_0 hz15_10_1 hf15_10_1);(try clear hz15_13_0 hf15_13_0 hz15_13_1 hf15_13_1 hz15_13_2 hf15_13_2);obtain ⟨hz16_1_0,hf16_1_0,hz16_1_1,hf16_1_1⟩ := bx2_ BK1;obtain ⟨hz16_2_0,hf16_2_0,hz16_2_1,hf16_2_1,hz16_2_2,hf16_2_2⟩ := bx3_ BK2;obtain ⟨hz16_10_0,hf16_10_0,hz16_10_1,hf16_10_1⟩ := bx2_ BK10;obtain ⟨hz16_13_0,hf16_13_0,hz16_13_1,hf16_13_1,hz16_13_2,hf16_13_2⟩ := bx3_ BK13))
 replace HV6_0 := aM_ (HV6_0.out.drew)
 replace HV6_1 := aM_ (HV6_1.out.drew)
 replace HV7_0 := aM_ (HV7_0.out.drew)
 replace HV7_1 := aM_ (HV7_1.out.drew)
 replace HV7_2 := aM_ (HV7_2.out.drew)
 replace HV8_0 := aM_ (HV8_0.out.drew)
 replace HV9_0 := aM_ (HV9_0.out.drew)
 replace HV9_1 := aM_ (HV9_1.out.drew)
 replace HV12_0 := aM_ (HV12_0.out.drew)
 replace HV12_1 := aM_ (HV12_1.out.drew)
 replace HV12_2 := aM_ (HV12_2.out.drew)
 replace HV15_0 := aM_ (HV15_0.out.drew)
 replace BK1 := aM_ (blk_drew BK1.out)
 replace BK2 := aM_ (blk_drew BK2.out)
 replace BK10 := aM_ (blk_drew BK10.out)
 replace BK13 := aM_ (blk_drew BK13.out)
 replace HB := aM_ (below_drew1 HB.out)
 refine sTa_ 5 (fun w' => K_ w' gb10 0 (.slice Ao9_0 t9.length co9_0) ∧ K_ w' gb10 1 (.slice Ao9_1 t10.length co9_1) ∧ K_ w' gb1 0 (.slice A0_0 l0_0.length c0_0) ∧ K_ w' gb1 1 (.slice A0_1 l0_1.length c0_1)) [] ⟨(blk_cell BK10.out 0).trans rfl,(blk_cell BK10.out 1).trans rfl,(blk_cell BK1.out 0).trans rfl,(blk_cell BK1.out 1).trans rfl⟩ (fun hHeld => ?_)
 generalize w16.drew = w17 at HV6_0 HV6_1 HV7_0 HV7_1 HV7_2 HV8_0 HV9_0 HV9_1 HV12_0 HV12_1 HV12_2 HV15_0 BK1 BK2 BK10 BK13 HB hHeld ⊢
 refine jK4_ 0 40 5 1 ?_
 refine jK4_ 1 41 5 3 ?_
 refine jN_ 2 42 5 7 (fun K hK => ?_)
 refine gO_ Try.func17 #[.agg #[.slice A0_0 l0_0.length c0_0,.slice A0_1 l0_1.length c0_1]] ?_
 (with_reducible refine (laws_toProg.calls k _ _ l0_0 _ _ l0_1 t15 t16 _ ?side1 ?side2 ?side3 ?side4 A18.out).mono ?_)
 (case side1 => exact Kd.C_below HR0_0.out HB.out)
 (case side2 => exact HC0_0.out)
 (case side3 => exact Kd.C_below HR0_1.out HB.out)
 (case side4 => exact HC0_1.out)
 rintro e w18 ⟨vv18_0,vv18_1,rfl,ho0,ho1,hb⟩
 refine ⟨_,rfl,?_⟩
 obtain ⟨lo18,hi18,hl1,hl2,hl3,hnew⟩ := St.new (hi15) HV15_0.out.1 hb.size
 have HN18 : Aside0 (hi15 ≤ lo18 ∧ lo18 ≤ hi18) := ⟨hl1,hl2⟩
 replace HQ := aq_ HQ HN18
 replace HV6_0 := vb_ HV6_0 hb
 replace HV6_1 := vb_ HV6_1 hb
 replace HV7_0 := vb_ HV7_0 hb
 replace HV7_1 := vb_ HV7_1 hb
 replace HV7_2 := vb_ HV7_2 hb
 replace HV8_0 := vb_ HV8_0 hb
 replace HV9_0 := vb_ HV9_0 hb
 replace HV9_1 := vb_ HV9_1 hb
 replace HV12_0 := vb_ HV12_0 hb
 replace HV12_1 := vb_ HV12_1 hb
 replace HV12_2 := vb_ HV12_2 hb
 replace HV15_0 := vb_ HV15_0 hb
 replace BK1 := bkb_ BK1 hb
 replace BK2 := bkb_ BK2 hb
 replace BK10 := bkb_ BK10 hb
 replace BK13 := bkb_ BK13 hb
 replace HB := aM_ (below_step HB.out hb)
 obtain ⟨Ao18_0,co18_0,eo⟩ := Kd.R_slice ho0
 subst eo
 have HV18_0 := aM_ (hnew _ _ _ _ _ _ ho0)
 have HIHV18_0 : Aside0 (hi18 ≤ hi18) := ⟨Nat.le_refl _⟩
 replace HQ := aq_ HQ HIHV18_0
 clear ho0
 obtain ⟨Ao18_1,co18_1,eo⟩ := Kd.R_slice (Kd.S_R ho1)
 subst eo
 have HV18_1 := aM_ (hnew _ _ _ _ _ _ (Kd.S_R ho1))
 have HIHV18_1 : Aside0 (hi18 ≤ hi18) := ⟨Nat.le_refl _⟩
 replace HQ := aq_ HQ HIHV18_1
 clear ho1
 clear hnew hl1 hl2 hl3
 clear hb
 refine kO_ hK (some 42) ⟨(blk_cell BK10.out 0).trans rfl,(blk_cell BK10.out 1).trans rfl,(blk_cell BK1.out 0).trans rfl,(blk_cell BK1.out 1).trans rfl⟩ (fun hHeld => ?_)
 clear hK K
 refine jN_ 3 43 5 15 (fun K hK => ?_)
 refine gO_ Try.func20 #[.agg #[.slice Ao9_0 t9.length co9_0,.slice Ao9_1 t10.length co9_1],.agg #[.slice Ao18_0 t15.length co18_0,.slice Ao18_1 t16.length co18_1]] ?_
 (with_reducible refine (laws_eqProg.calls k _ _ t9 _ _ t10 _ _ t15 _ _ t16 true _ ?side1 ?side2 ?side3 ?side4 ?side5 ?side6 ?side7 ?side8 A19.out).mono ?_)
 (case side1 => exact HV9_0.out.reads)
 (case side2 => exact HV9_0.out.room)
 (case side3 => exact HV9_1.out.reads)
 (case side4 => exact HV9_1.out.room)
 (case side5 => exact HV18_0.out.reads)
 (case side6 => exact HV18_0.out.room)
 (case side7 => exact HV18_1.out.reads)
 (case side8 => exact HV18_1.out.room)
 rintro e w19 ⟨rfl,hb⟩
 refine ⟨_,rfl,?_⟩
 replace HV6_0 := vb_ HV6_0 hb
 replace HV6_1 := vb_ HV6_1 hb
 replace HV7_0 := vb_ HV7_0 hb
 replace HV7_1 := vb_ HV7_1 hb
 replace HV7_2 := vb_ HV7_2 hb
 replace HV8_0 := vb_ HV8_0 hb
 replace HV9_0 := vb_ HV9_0 hb
 replace HV9_1 := vb_ HV9_1 hb
 replace HV12_0 := vb_ HV12_0 hb
 replace HV12_1 := vb_ HV12_1 hb
 replace HV12_2 := vb_ HV12_2 hb
 replace HV15_0 := vb_ HV15_0 hb
 replace HV18_0 := vb_ HV18_0 hb
 replace HV18_1 := vb_ HV18_1 hb
 replace BK1 := bkb_ BK1 hb
 replace BK2 := bkb_ BK2 hb
 replace BK10 := bkb_ BK10 hb
 replace BK13 := bkb_ BK13 hb
 replace HB := aM_ (below_step HB.out hb)
 clear hb
 refine kO_ hK (some 43) ⟨(blk_cell BK10.out 0).trans rfl,(blk_cell BK10.out 1).trans rfl,(blk_cell BK1.out 0).trans rfl,(blk_cell BK1.out 1).trans rfl⟩ (fun hHeld => ?_)
 clear hK K
 refine jU_ 4 44 5 31 ?_
 refine done_ (by kernel_rfl) ?_
 (try clear hz16_1_0)
 (try clear hf16_1_0)
 (try clear hz16_1_1)
 (try clear hf16_1_1)
 (try clear hz16_2_0)
 (try clear hf16_2_0)
 (try clear hz16_2_1)
 (try clear hf16_2_1)
 (try clear hz16_2_2)
 (try clear hf16_2_2)
 (try clear hz16_10_0)
 (try clear hf16_10_0)
 (try clear hz16_10_1)
 (try clear hf16_10_1)
 (try clear hz16_13_0)
 (try clear hf16_13_0)
 (try clear hz16_13_1)
 (try clear hf16_13_1)
 (try clear hz16_13_2)
 (try clear hf16_13_2)
 obtain ⟨hz19_1_0,hf19_1_0,hz19_1_1,hf19_1_1⟩ := bx2_ BK1
 obtain ⟨hz19_2_0,hf19_2_0,hz19_2_1,hf19_2_1,hz19_2_2,hf19_2_2⟩ := bx3_ BK2
 obtain ⟨hz19_10_0,hf19_10_0,hz19_10_1,hf19_10_1⟩ := bx2_ BK10
 obtain ⟨hz19_13_0,hf19_13_0,hz19_13_1,hf19_13_1,hz19_13_2,hf19_13_2⟩ := bx3_ BK13
 go_wp2
 replace HV6_0 := aM_ (HV6_0.out.drew)
 replace HV6_1 := aM_ (HV6_1.out.drew)
 replace HV7_0 := aM_ (HV7_0.out.drew)
 replace HV7_1 := aM_ (HV7_1.out.drew)
 replace HV7_2 := aM_ (HV7_2.out.drew)
 replace HV8_0 := aM_ (HV8_0.out.drew)
 replace HV9_0 := aM_ (HV9_0.out.drew)
 replace HV9_1 := aM_ (HV9_1.out.drew)
 replace HV12_0 := aM_ (HV12_0.out.drew)
 replace HV12_1 := aM_ (HV12_1.out.drew)
 replace HV12_2 := aM_ (HV12_2.out.drew)
 replace HV15_0 := aM_ (HV15_0.out.drew)
 replace HV18_0 := aM_ (HV18_0.out.drew)
 replace HV18_1 := aM_ (HV18_1.out.drew)
 replace BK1 := aM_ (blk_drew BK1.out)
 replace BK2 := aM_ (blk_drew BK2.out)
 replace BK10 := aM_ (blk_drew BK10.out)
 replace BK13 := aM_ (blk_drew BK13.out)
 replace HB := aM_ (below_drew1 HB.out)
 refine sTa_ 5 (fun w' => K_ w' gb13 0 (.slice Ao12_0 t11.length co12_0) ∧ K_ w' gb13 1 (.slice Ao12_1 t12.length co12_1) ∧ K_ w' gb13 2 (.slice Ao12_2 t13.length co12_2) ∧ K_ w' gb2 0 (.slice A1_0 l1_0.length c1_0) ∧ K_ w' gb2 1 (.slice A1_1 l1_1.length c1_1) ∧ K_ w' gb2 2 (.slice A1_2 l1_2.length c1_2)) [] ⟨(blk_cell BK13.out 0).trans rfl,(blk_cell BK13.out 1).trans rfl,(blk_cell BK13.out 2).trans rfl,(blk_cell BK2.out 0).trans rfl,(blk_cell BK2.out 1).trans rfl,(blk_cell BK2.out 2).trans rfl⟩ (fun hHeld => ?_)
 generalize w19.drew = w20 at HV6_0 HV6_1 HV7_0 HV7_1 HV7_2 HV8_0 HV9_0 HV9_1 HV12_0 HV12_1 HV12_2 HV15_0 HV18_0 HV18_1 BK1 BK2 BK10 BK13 HB hHeld ⊢
 refine jK6_ 0 45 5 1 ?_
 refine jK6_ 1 46 5 3 ?_
 refine jN_ 2 47 5 7 (fun K hK => ?_)
 refine gO_ Try.func35 #[.agg #[.slice A1_0 l1_0.length c1_0,.slice A1_1 l1_1.length c1_1,.slice A1_2 l1_2.length c1_2]] ?_
 (with_reducible refine (laws_toSource.calls k _ _ l1_0 _ _ l1_1 _ _ l1_2 t17 t18 t19 _ ?side1 ?side2 ?side3 ?side4 ?side5 ?side6 A21.out).mono ?_)
 (case side1 => exact Kd.C_below HR1_0.out HB.out)
 (case side2 => exact HC1_0.out)
 (case side3 => exact Kd.C_below HR1_1.out HB.out)
 (case side4 => exact HC1_1.out)
 (case side5 => exact Kd.C_below HR1_2.out HB.out)
 (case side6 => exact HC1_2.out)
 rintro e w21 ⟨vv21_0,vv21_1,vv21_2,rfl,ho0,ho1,ho2,hb⟩
 refine ⟨_,rfl,?_⟩
 obtain ⟨lo21,hi21,hl1,hl2,hl3,hnew⟩ := St.new (hi18) HV18_0.out.1 hb.size
 have HN21 : Aside0 (hi18 ≤ lo21 ∧ lo21 ≤ hi21) := ⟨hl1,hl2⟩
 replace HQ := aq_ HQ HN21
 replace HV6_0 := vb_ HV6_0 hb
 replace HV6_1 := vb_ HV6_1 hb
 replace HV7_0 := vb_ HV7_0 hb
 replace HV7_1 := vb_ HV7_1 hb
 replace HV7_2 := vb_ HV7_2 hb
 replace HV8_0 := vb_ HV8_0 hb
 replace HV9_0 := vb_ HV9_0 hb
 replace HV9_1 := vb_ HV9_1 hb
 replace HV12_0 := vb_ HV12_0 hb
 replace HV12_1 := vb_ HV12_1 hb
 replace HV12_2 := vb_ HV12_2 hb
 replace HV15_0 := vb_ HV15_0 hb
 replace HV18_0 := vb_ HV18_0 hb
 replace HV18_1 := vb_ HV18_1 hb
 replace BK1 := bkb_ BK1 hb
 replace BK2 := bkb_ BK2 hb
 replace BK10 := bkb_ BK10 hb
 replace BK13 := bkb_ BK13 hb
 replace HB := aM_ (below_step HB.out hb)
 obtain ⟨Ao21_0,co21_0,eo⟩ := Kd.R_slice (Kd.S_R ho0)
 subst eo
 have HV21_0 := aM_ (hnew _ _ _ _ _ _ (Kd.S_R ho0))
 have HIHV21_0 : Aside0 (hi21 ≤ hi21) := ⟨Nat.le_refl _⟩
 replace HQ := aq_ HQ HIHV21_0
 clear ho0
 obtain ⟨Ao21_1,co21_1,eo⟩ := Kd.R_slice (Kd.S_R ho1)
 subst eo
 have HV21_1 := aM_ (hnew _ _ _ _ _ _ (Kd.S_R ho1))
 have HIHV21_1 : Aside0 (hi21 ≤ hi21) := ⟨Nat.le_refl _⟩
 replace HQ := aq_ HQ HIHV21_1
 clear ho1
 obtain ⟨Ao21_2,co21_2,eo⟩ := Kd.R_slice ho2
 subst eo
 have HV21_2 := aM_ (hnew _ _ _ _ _ _ ho2)
 have HIHV21_2 : Aside0 (hi21 ≤ hi21) := ⟨Nat.le_refl _⟩
 replace HQ := aq_ HQ HIHV21_2
 clear ho2
 clear hnew hl1 hl2 hl3
 clear hb
 refine kO_ hK (some 47) ⟨(blk_cell BK13.out 0).trans rfl,(blk_cell BK13.out 1).trans rfl,(blk_cell BK13.out 2).trans rfl,(blk_cell BK2.out 0).trans rfl,(blk_cell BK2.out 1).trans rfl,(blk_cell BK2.out 2).trans rfl⟩ (fun hHeld => ?_)
 clear hK K
 refine jN_ 3 48 5 15 (fun K hK => ?_)
 refine gO_ Try.func19 #[.agg #[.slice Ao12_0 t11.length co12_0,.slice Ao12_1 t12.length co12_1,.slice Ao12_2 t13.length co12_2],.agg #[.slice Ao21_0 t17.length co21_0,.slice Ao21_1 t18.length co21_1,.slice Ao21_2 t19.length co21_2]] ?_
 (with_reducible refine (laws_eqSource.calls k _ _ t11 _ _ t12 _ _ t13 _ _ t17 _ _ t18 _ _ t19 true _ ?side1 ?side2 ?side3 ?side4 ?side5 ?side6 ?side7 ?side8 ?side9 ?side10 ?side11 ?side12 A22.out).mono ?_)
 (case side1 => exact HV12_0.out.reads)
 (case side2 => exact HV12_0.out.room)
 (case side3 => exact HV12_1.out.reads)
 (case side4 => exact HV12_1.out.room)
 (case side5 => exact HV12_2.out.reads)
 (case side6 => exact HV12_2.out.room)
 (case side7 => exact HV21_0.out.reads)
 (case side8 => exact HV21_0.out.room)
 (case side9 => exact HV21_1.out.reads)
 (case side10 => exact HV21_1.out.room)
 (case side11 => exact HV21_2.out.reads)
 (case side12 => exact HV21_2.out.room)
 rintro e w22 ⟨rfl,hb⟩
 refine ⟨_,rfl,?_⟩
 replace HV6_0 := vb_ HV6_0 hb
 replace HV6_1 := vb_ HV6_1 hb
 replace HV7_0 := vb_ HV7_0 hb
 replace HV7_1 := vb_ HV7_1 hb
 replace HV7_2 := vb_ HV7_2 hb
 replace HV8_0 := vb_ HV8_0 hb
 replace HV9_0 := vb_ HV9_0 hb
 replace HV9_1 := vb_ HV9_1 hb
 replace HV12_0 := vb_ HV12_0 hb
 replace HV12_1 := vb_ HV12_1 hb
 replace HV12_2 := vb_ HV12_2 hb
 replace HV15_0 := vb_ HV15_0 hb
 replace HV18_0 := vb_ HV18_0 hb
 replace HV18_1 := vb_ HV18_1 hb
 replace HV21_0 := vb_ HV21_0 hb
 replace HV21_1 := vb_ HV21_1 hb
 replace HV21_2 := vb_ HV21_2 hb
 replace BK1 := bkb_ BK1 hb
 replace BK2 := bkb_ BK2 hb
 replace BK10 := bkb_ BK10 hb
 replace BK13 := bkb_ BK13 hb
 replace HB := aM_ (below_step HB.out hb)
 clear hb
 refine kO_ hK (some 48) ⟨(blk_cell BK13.out 0).trans rfl,(blk_cell BK13.out 1).trans rfl,(blk_cell BK13.out 2).trans rfl,(blk_cell BK2.out 0).trans rfl,(blk_cell BK2.out 1).trans rfl,(blk_cell BK2.out 2).trans rfl⟩ (fun hHeld => ?_)
 clear hK K
 refine jU_ 4 49 5 31 ?_
 refine done_ (by kernel_rfl) ?_
 (try clear hz19_1_0)
 (try clear hf19_1_0)
 (try clear hz19_1_1)
 (try clear hf19_1_1)
 (try clear hz19_2_0)
 (try clear hf19_2_0)
 (try clear hz19_2_1)
 (try clear hf19_2_1)
 (try clear hz19_2_2)
 (try clear hf19_2_2)
 (try clear hz19_10_0)
 (try clear hf19_10_0)
 (try clear hz19_10_1)
 (try clear hf19_10_1)
 (try clear hz19_13_0)
 (try clear hf19_13_0)
 (try clear hz19_13_1)
 (try clear hf19_13_1)
 (try clear hz19_13_2)
 (try clear hf19_13_2)
 obtain ⟨hz22_1_0,hf22_1_0,hz22_1_1,hf22_1_1⟩ := bx2_ BK1
 obtain ⟨hz22_2_0,hf22_2_0,hz22_2_1,hf22_2_1,hz22_2_2,hf22_2_2⟩ := bx3_ BK2
 obtain ⟨hz22_10_0,hf22_10_0,hz22_10_1,hf22_10_1⟩ := bx2_ BK10
 obtain ⟨hz22_13_0,hf22_13_0,hz22_13_1,hf22_13_1,hz22_13_2,hf22_13_2⟩ := bx3_ BK13
 go_wp2_with (first | ((with_reducible refine gate_callee (f := 21) rfl ?_);obtain ⟨L23_0,hrv23_0,hll23_0⟩ := St.rowv Rep.int HV9_0.out;have HW23_0 := aM_ (St.of_row (HV9_0.out.1) hrv23_0);obtain ⟨L23_1,hrv23_1,hll23_1⟩ := St.rowv (Rep.slice rep192 192) HV9_1.out;have HW23_1 := aM_ (St.of_row (HV9_1.out.1) hrv23_1);have HX23 : Aside0 ((0 : Int) ≤ 1 ∧ (1 + (L23_0.length : Int) + (L23_1.length : Int) : Int) ≤ 4611686018427387904) := ⟨by have l0_ := hll23_0;have l1_ := hll23_1;have b_ := hwt23;omega⟩;have HLB23_0 : Aside0 (L23_0.length ≤ 1152921504606846976) := ⟨by have l0_ := hll23_0;have l1_ := hll23_1;have b_ := hwt23;omega⟩;have HLB23_1 : Aside0 (L23_1.length ≤ 1152921504606846976) := ⟨by have l0_ := hll23_0;have l1_ := hll23_1;have b_ := hwt23;omega⟩;clear hll23_0 hll23_1;refine gL_ (some 52) Try.func21 #[.agg #[.slice Ao9_0 t9.length co9_0,.slice Ao9_1 t10.length co9_1],.int .i64 1] ?_;refine (wr_markProg (fun k_ => lo9 ≤ k_ ∧ k_ < hi9) _ Ao9_0 t9.length co9_0 Ao9_1 t10.length co9_1 1 L23_0 L23_1 HW23_0.out.now HW23_1.out.now (fun j_ hj_ => Nat.lt_of_lt_of_le hj_.2 HV9_0.out.1) HX23.out.1 HX23.out.2).mono ?_;rintro e w23 ⟨rfl,hm,hw⟩;refine ⟨_,rfl,?_⟩;have hi_HV9_0 := HV9_0.out.1;have hi_HV9_1 := HV9_1.out.1;have hc23_0 := HW23_0.out.now.cells;have hc23_1 := HW23_1.out.now.cells;replace HW23_0 := aM_ (St.of_row (Nat.le_trans hi_HV9_0 hm.2.1.size) (RowV.mk hm HW23_0.out.now));replace HW23_1 := aM_ (St.of_row (Nat.le_trans hi_HV9_0 hm.2.1.size) (RowV.mk hm HW23_1.out.now));replace HV6_0 := aM_ (HV6_0.out.mark hm (fun k_ hk_ => by have h1_ := hk_.1;have h2_ := hk_.2;have q_ := HQ.out;omega));replace HV6_1 := aM_ (HV6_1.out.mark hm (fun k_ hk_ => by have h1_ := hk_.1;have h2_ := hk_.2;have q_ := HQ.out;omega));replace HV7_0 := aM_ (HV7_0.out.mark hm (fun k_ hk_ => by have h1_ := hk_.1;have h2_ := hk_.2;have q_ := HQ.out;omega));replace HV7_1 := aM_ (HV7_1.out.mark hm (fun k_ hk_ => by have h1_ := hk_.1;have h2_ := hk_.2;have q_ := HQ.out;omega));replace HV7_2 := aM_ (HV7_2.out.mark hm (fun k_ hk_ => by have h1_ := hk_.1;have h2_ := hk_.2;have q_ := HQ.out;omega));replace HV8_0 := aM_ (HV8_0.out.mark hm (fun k_ hk_ => by have h1_ := hk_.1;have h2_ := hk_.2;have q_ := HQ.out;omega));replace HV12_0 := aM_ (HV12_0.out.mark hm (fun k_ hk_ => by have h1_ := hk_.1;have h2_ := hk_.2;have q_ := HQ.out;omega));replace HV12_1 := aM_ (HV12_1.out.mark hm (fun k_ hk_ => by have h1_ := hk_.1;have h2_ := hk_.2;have q_ := HQ.out;omega));replace HV12_2 := aM_ (HV12_2.out.mark hm (fun k_ hk_ => by have h1_ := hk_.1;have h2_ := hk_.2;have q_ := HQ.out;omega));replace HV15_0 := aM_ (HV15_0.out.mark hm (fun k_ hk_ => by have h1_ := hk_.1;have h2_ := hk_.2;have q_ := HQ.out;omega));replace HV18_0 := aM_ (HV18_0.out.mark hm (fun k_ hk_ => by have h1_ := hk_.1;have h2_ := hk_.2;have q_ := HQ.out;omega));replace HV18_1 := aM_ (HV18_1.out.mark hm (fun k_ hk_ => by have h1_ := hk_.1;have h2_ := hk_.2;have q_ := HQ.out;omega));replace HV21_0 := aM_ (HV21_0.out.mark hm (fun k_ hk_ => by have h1_ := hk_.1;have h2_ := hk_.2;have q_ := HQ.out;omega));replace HV21_1 := aM_ (HV21_1.out.mark hm (fun k_ hk_ => by have h1_ := hk_.1;have h2_ := hk_.2;have q_ := HQ.out;omega));replace HV21_2 := aM_ (HV21_2.out.mark hm (fun k_ hk_ => by have h1_ := hk_.1;have h2_ := hk_.2;have q_ := HQ.out;omega));replace BK1 := aM_ (blk_kept BK1.out hm.1 (fun hk_ => by have h1_ := hk_.1;have h2_ := hk_.2;have q_ := HQ.out;omega));replace BK2 := aM_ (blk_kept BK2.out hm.1 (fun hk_ => by have h1_ := hk_.1;have h2_ := hk_.2;have q_ := HQ.out;omega));replace BK10 := aM_ (blk_kept BK10.out hm.1 (fun hk_ => by have h1_ := hk_.1;have h2_ := hk_.2;have q_ := HQ.out;omega));replace BK13 := aM_ (blk_kept BK13.out hm.1 (fun hk_ => by have h1_ := hk_.1;have h2_ := hk_.2;have q_ := HQ.out;omega));replace HB := aM_ (HB.out.trans (hm.below HB.out.size (fun k_ hk_ => by have h1_ := hk_.1;have q_ := HQ.out;omega)));have HIHW23_0 : Aside0 (hi9 ≤ hi9) := ⟨Nat.le_refl _⟩;clear hrv23_0 hc23_0;have HIHW23_1 : Aside0 (hi9 ≤ hi9) := ⟨Nat.le_refl _⟩;clear hrv23_1 hc23_1;clear HV9_0 hi_HV9_0;clear HV9_1 hi_HV9_1;clear hm hw;have hl23 : decide (1 + (L23_0.length : Int) + (L23_1.length : Int) < 0) = false := decide_eq_false (by have h1_ := HX23.out;omega);(try clear hz22_1_0 hf22_1_0 hz22_1_1 hf22_1_1);(try clear hz22_2_0 hf22_2_0 hz22_2_1 hf22_2_1 hz22_2_2 hf22_2_2);(try clear hz22_10_0 hf22_10_0 hz22_10_1 hf22_10_1);(try clear hz22_13_0 hf22_13_0 hz22_13_1 hf22_13_1 hz22_13_2 hf22_13_2);obtain ⟨hz23_1_0,hf23_1_0,hz23_1_1,hf23_1_1⟩ := bx2_ BK1;obtain ⟨hz23_2_0,hf23_2_0,hz23_2_1,hf23_2_1,hz23_2_2,hf23_2_2⟩ := bx3_ BK2;obtain ⟨hz23_10_0,hf23_10_0,hz23_10_1,hf23_10_1⟩ := bx2_ BK10;obtain ⟨hz23_13_0,hf23_13_0,hz23_13_1,hf23_13_1,hz23_13_2,hf23_13_2⟩ := bx3_ BK13) | ((with_reducible refine gate_callee (f := 22) rfl ?_);obtain ⟨L24_0,hrv24_0,hll24_0⟩ := St.rowv rep107 HV12_0.out;have HW24_0 := aM_ (St.of_row (HV12_0.out.1) hrv24_0);obtain ⟨L24_1,hrv24_1,hll24_1⟩ := St.rowv rep94 HV12_1.out;have HW24_1 := aM_ (St.of_row (HV12_1.out.1) hrv24_1);obtain ⟨L24_2,hrv24_2,hll24_2⟩ := St.rowv rep35 HV12_2.out;have HW24_2 := aM_ (St.of_row (HV12_2.out.1) hrv24_2);have HX24 : Aside0 ((0 : Int) ≤ 1 + (L23_0.length : Int) + (L23_1.length : Int) ∧ (1 + (L23_0.length : Int) + (L23_1.length : Int) + (L24_0.length : Int) + (L24_1.length : Int) + (L24_2.length : Int) : Int) ≤ 4611686018427387904) := ⟨by have l0_ := hll24_0;have l1_ := hll24_1;have l2_ := hll24_2;have y0_ := HLB23_0.out;have y1_ := HLB23_1.out;have b_ := hwt24;omega⟩;have HLB24_0 : Aside0 (L24_0.length ≤ 1152921504606846976) := ⟨by have l0_ := hll24_0;have l1_ := hll24_1;have l2_ := hll24_2;have b_ := hwt24;omega⟩;have HLB24_1 : Aside0 (L24_1.length ≤ 1152921504606846976) := ⟨by have l0_ := hll24_0;have l1_ := hll24_1;have l2_ := hll24_2;have b_ := hwt24;omega⟩;have HLB24_2 : Aside0 (L24_2.length ≤ 1152921504606846976) := ⟨by have l0_ := hll24_0;have l1_ := hll24_1;have l2_ := hll24_2;have b_ := hwt24;omega⟩;clear hll24_0 hll24_1 hll24_2;refine gL_ (some 55) Try.func22 #[.agg #[.slice Ao12_0 t11.length co12_0,.slice Ao12_1 t12.length co12_1,.slice Ao12_2 t13.length co12_2],.int .i64 (1 + (L23_0.length : Int) + (L23_1.length : Int))] ?_;refine (wr_markSource (fun k_ => lo12 ≤ k_ ∧ k_ < hi12) _ Ao12_0 t11.length co12_0 Ao12_1 t12.length co12_1 Ao12_2 t13.length co12_2 (1 + (L23_0.length : Int) + (L23_1.length : Int)) L24_0 L24_1 L24_2 HW24_0.out.now HW24_1.out.now HW24_2.out.now (fun j_ hj_ => Nat.lt_of_lt_of_le hj_.2 HV12_0.out.1) HX24.out.1 HX24.out.2).mono ?_;rintro e w24 ⟨rfl,hm,hw⟩;refine ⟨_,rfl,?_⟩;have hi_HV12_0 := HV12_0.out.1;have hi_HV12_1 := HV12_1.out.1;have hi_HV12_2 := HV12_2.out.1;have hc24_0 := HW24_0.out.now.cells;have hc24_1 := HW24_1.out.now.cells;have hc24_2 := HW24_2.out.now.cells;replace HW24_0 := aM_ (St.of_row (Nat.le_trans hi_HV12_0 hm.2.1.size) (RowV.mk hm HW24_0.out.now));replace HW24_1 := aM_ (St.of_row (Nat.le_trans hi_HV12_0 hm.2.1.size) (RowV.mk hm HW24_1.out.now));replace HW24_2 := aM_ (St.of_row (Nat.le_trans hi_HV12_0 hm.2.1.size) (RowV.mk hm HW24_2.out.now));replace HV6_0 := aM_ (HV6_0.out.mark hm (fun k_ hk_ => by have h1_ := hk_.1;have h2_ := hk_.2;have q_ := HQ.out;omega));replace HV6_1 := aM_ (HV6_1.out.mark hm (fun k_ hk_ => by have h1_ := hk_.1;have h2_ := hk_.2;have q_ := HQ.out;omega));replace HV7_0 := aM_ (HV7_0.out.mark hm (fun k_ hk_ => by have h1_ := hk_.1;have h2_ := hk_.2;have q_ := HQ.out;omega));replace HV7_1 := aM_ (HV7_1.out.mark hm (fun k_ hk_ => by have h1_ := hk_.1;have h2_ := hk_.2;have q_ := HQ.out;omega));replace HV7_2 := aM_ (HV7_2.out.mark hm (fun k_ hk_ => by have h1_ := hk_.1;have h2_ := hk_.2;have q_ := HQ.out;omega));replace HV8_0 := aM_ (HV8_0.out.mark hm (fun k_ hk_ => by have h1_ := hk_.1;have h2_ := hk_.2;have q_ := HQ.out;omega));replace HV15_0 := aM_ (HV15_0.out.mark hm (fun k_ hk_ => by have h1_ := hk_.1;have h2_ := hk_.2;have q_ := HQ.out;omega));replace HV18_0 := aM_ (HV18_0.out.mark hm (fun k_ hk_ => by have h1_ := hk_.1;have h2_ := hk_.2;have q_ := HQ.out;omega));replace HV18_1 := aM_ (HV18_1.out.mark hm (fun k_ hk_ => by have h1_ := hk_.1;have h2_ := hk_.2;have q_ := HQ.out;omega));replace HV21_0 := aM_ (HV21_0.out.mark hm (fun k_ hk_ => by have h1_ := hk_.1;have h2_ := hk_.2;have q_ := HQ.out;omega));replace HV21_1 := aM_ (HV21_1.out.mark hm (fun k_ hk_ => by have h1_ := hk_.1;have h2_ := hk_.2;have q_ := HQ.out;omega));replace HV21_2 := aM_ (HV21_2.out.mark hm (fun k_ hk_ => by have h1_ := hk_.1;have h2_ := hk_.2;have q_ := HQ.out;omega));replace HW23_0 := aM_ (HW23_0.out.mark hm (fun k_ hk_ => by have h1_ := hk_.1;have h2_ := hk_.2;have q_ := HQ.out;omega));replace HW23_1 := aM_ (HW23_1.out.mark hm (fun k_ hk_ => by have h1_ := hk_.1;have h2_ := hk_.2;have q_ := HQ.out;omega));replace BK1 := aM_ (blk_kept BK1.out hm.1 (fun hk_ => by have h1_ := hk_.1;have h2_ := hk_.2;have q_ := HQ.out;omega));replace BK2 := aM_ (blk_kept BK2.out hm.1 (fun hk_ => by have h1_ := hk_.1;have h2_ := hk_.2;have q_ := HQ.out;omega));replace BK10 := aM_ (blk_kept BK10.out hm.1 (fun hk_ => by have h1_ := hk_.1;have h2_ := hk_.2;have q_ := HQ.out;omega));replace BK13 := aM_ (blk_kept BK13.out hm.1 (fun hk_ => by have h1_ := hk_.1;have h2_ := hk_.2;have q_ := HQ.out;omega));replace HB := aM_ (HB.out.trans (hm.below HB.out.size (fun k_ hk_ => by have h1_ := hk_.1;have q_ := HQ.out;omega)));have HIHW24_0 : Aside0 (hi12 ≤ hi12) := ⟨Nat.le_refl _⟩;clear hrv24_0 hc24_0;have HIHW24_1 : Aside0 (hi12 ≤ hi12) := ⟨Nat.le_refl _⟩;clear hrv24_1 hc24_1;have HIHW24_2 : Aside0 (hi12 ≤ hi12) := ⟨Nat.le_refl _⟩;clear hrv24_2 hc24_2;clear HV12_0 hi_HV12_0;clear HV12_1 hi_HV12_1;clear HV12_2 hi_HV12_2;clear hm hw;have hl24 : decide (1 + (L23_0.length : Int) + (L23_1.length : Int) + (L24_0.length : Int) + (L24_1.length : Int) + (L24_2.length : Int) < 0) = false := decide_eq_false (by have h1_ := HX24.out;omega);(try clear hz23_1_0 hf23_1_0 hz23_1_1 hf23_1_1);(try clear hz23_2_0 hf23_2_0 hz23_2_1 hf23_2_1 hz23_2_2 hf23_2_2);(try clear hz23_10_0 hf23_10_0 hz23_10_1 hf23_10_1);(try clear hz23_13_0 hf23_13_0 hz23_13_1 hf23_13_1 hz23_13_2 hf23_13_2);obtain ⟨hz24_1_0,hf24_1_0,hz24_1_1,hf24_1_1⟩ := bx2_ BK1;obtain ⟨hz24_2_0,hf24_2_0,hz24_2_1,hf24_2_1,hz24_2_2,hf24_2_2⟩ := bx3_ BK2;obtain ⟨hz24_10_0,hf24_10_0,hz24_10_1,hf24_10_1⟩ := bx2_ BK10;obtain ⟨hz24_13_0,hf24_13_0,hz24_13_1,hf24_13_1,hz24_13_2,hf24_13_2⟩ := bx3_ BK13) | (go_at_call 39;(with_reducible refine (laws_eqIntS.calls k _ _ t14 _ _ t8 true _ ?side1 ?side2 ?side3 ?side4 A25.out).mono ?_);(case side1 => exact HV15_0.out.reads);(case side2 => exact HV15_0.out.room);(case side3 => exact HV8_0.out.reads);(case side4 => exact HV8_0.out.room);rintro e w25 ⟨rfl,hd_⟩;have hb := Drawn0.below hd_;replace HV6_0 := vb_ HV6_0 hb;replace HV6_1 := vb_ HV6_1 hb;replace HV7_0 := vb_ HV7_0 hb;replace HV7_1 := vb_ HV7_1 hb;replace HV7_2 := vb_ HV7_2 hb;replace HV8_0 := vb_ HV8_0 hb;replace HV15_0 := vb_ HV15_0 hb;replace HV18_0 := vb_ HV18_0 hb;replace HV18_1 := vb_ HV18_1 hb;replace HV21_0 := vb_ HV21_0 hb;replace HV21_1 := vb_ HV21_1 hb;replace HV21_2 := vb_ HV21_2 hb;replace HW23_0 := aM_ (HW23_0.out.below hb);replace HW23_1 := aM_ (HW23_1.out.below hb);replace HW24_0 := aM_ (HW24_0.out.below hb);replace HW24_1 := aM_ (HW24_1.out.below hb);replace HW24_2 := aM_ (HW24_2.out.below hb);replace BK1 := bkb_ BK1 hb;replace BK2 := bkb_ BK2 hb;replace BK10 := bkb_ BK10 hb;replace BK13 := bkb_ BK13 hb;replace HB := aM_ (below_step HB.out hb);clear hb;(try clear hz24_1_0 hf24_1_0 hz24_1_1 hf24_1_1);(try clear hz24_2_0 hf24_2_0 hz24_2_1 hf24_2_1 hz24_2_2 hf24_2_2);(try clear hz24_10_0 hf24_10_0 hz24_10_1 hf24_10_1);(try clear hz24_13_0 hf24_13_0 hz24_13_1 hf24_13_1 hz24_13_2 hf24_13_2);obtain ⟨hz25_1_0,hf25_1_0,hz25_1_1,hf25_1_1⟩ := bx2_ BK1;obtain ⟨hz25_2_0,hf25_2_0,hz25_2_1,hf25_2_1,hz25_2_2,hf25_2_2⟩ := bx3_ BK2;obtain ⟨hz25_10_0,hf25_10_0,hz25_10_1,hf25_10_1⟩ := bx2_ BK10;obtain ⟨hz25_13_0,hf25_13_0,hz25_13_1,hf25_13_1,hz25_13_2,hf25_13_2⟩ := bx3_ BK13) | ((with_reducible refine gate_callee (f := 40) rfl ?_);obtain ⟨L26_0,hrv26_0,hll26_0⟩ := St.rowv Rep.int HV15_0.out;have HW26_0 := aM_ (St.of_row (HV15_0.out.1) hrv26_0);have HX26 : Aside0 ((0 : Int) ≤ 1 ∧ (1 + (L26_0.length : Int) : Int) ≤ 4611686018427387904) := ⟨by have l0_ := hll26_0;have y0_ := HLB23_0.out;have y1_ := HLB23_1.out;have y2_ := HLB24_0.out;have y3_ := HLB24_1.out;have y4_ := HLB24_2.out;have b_ := hwt26;omega⟩;have HLB26_0 : Aside0 (L26_0.length ≤ 1152921504606846976) := ⟨by have l0_ := hll26_0;have b_ := hwt26;omega⟩;clear hll26_0;refine gL_ (some 66) Try.func40 #[.slice Ao15_0 t14.length co15_0,.int .i64 1] ?_;refine (wr_markIntS (fun k_ => lo15 ≤ k_ ∧ k_ < hi15) _ Ao15_0 t14.length co15_0 1 L26_0 HW26_0.out.now HX26.out.1 HX26.out.2).mono ?_;rintro e w26 ⟨rfl,hm,hw⟩;refine ⟨_,rfl,?_⟩;have hi_HV15_0 := HV15_0.out.1;have hc26_0 := HW26_0.out.now.cells;have hh_ := WrB.held hw.B (fun c hc => (hc26_0 c hc).1) (RowV.ints HW26_0.out.now);have HH26 := aM_ (St.of_held (lo := lo15) (hi := hi15) (Nat.le_trans hi_HV15_0 hm.2.1.size) (fun c hc => (hc26_0 c hc).2) hh_);clear hh_;replace HW26_0 := aM_ (St.of_row (Nat.le_trans hi_HV15_0 hm.2.1.size) (RowV.mk hm HW26_0.out.now));replace HV6_0 := aM_ (HV6_0.out.mark hm (fun k_ hk_ => by have h1_ := hk_.1;have h2_ := hk_.2;have q_ := HQ.out;omega));replace HV6_1 := aM_ (HV6_1.out.mark hm (fun k_ hk_ => by have h1_ := hk_.1;have h2_ := hk_.2;have q_ := HQ.out;omega));replace HV7_0 := aM_ (HV7_0.out.mark hm (fun k_ hk_ => by have h1_ := hk_.1;have h2_ := hk_.2;have q_ := HQ.out;omega));replace HV7_1 := aM_ (HV7_1.out.mark hm (fun k_ hk_ => by have h1_ := hk_.1;have h2_ := hk_.2;have q_ := HQ.out;omega));replace HV7_2 := aM_ (HV7_2.out.mark hm (fun k_ hk_ => by have h1_ := hk_.1;have h2_ := hk_.2;have q_ := HQ.out;omega));replace HV8_0 := aM_ (HV8_0.out.mark hm (fun k_ hk_ => by have h1_ := hk_.1;have h2_ := hk_.2;have q_ := HQ.out;omega));replace HV18_0 := aM_ (HV18_0.out.mark hm (fun k_ hk_ => by have h1_ := hk_.1;have h2_ := hk_.2;have q_ := HQ.out;omega));replace HV18_1 := aM_ (HV18_1.out.mark hm (fun k_ hk_ => by have h1_ := hk_.1;have h2_ := hk_.2;have q_ := HQ.out;omega));replace HV21_0 := aM_ (HV21_0.out.mark hm (fun k_ hk_ => by have h1_ := hk_.1;have h2_ := hk_.2;have q_ := HQ.out;omega));replace HV21_1 := aM_ (HV21_1.out.mark hm (fun k_ hk_ => by have h1_ := hk_.1;have h2_ := hk_.2;have q_ := HQ.out;omega));replace HV21_2 := aM_ (HV21_2.out.mark hm (fun k_ hk_ => by have h1_ := hk_.1;have h2_ := hk_.2;have q_ := HQ.out;omega));replace HW23_0 := aM_ (HW23_0.out.mark hm (fun k_ hk_ => by have h1_ := hk_.1;have h2_ := hk_.2;have q_ := HQ.out;omega));replace HW23_1 := aM_ (HW23_1.out.mark hm (fun k_ hk_ => by have h1_ := hk_.1;have h2_ := hk_.2;have q_ := HQ.out;omega));replace HW24_0 := aM_ (HW24_0.out.mark hm (fun k_ hk_ => by have h1_ := hk_.1;have h2_ := hk_.2;have q_ := HQ.out;omega));replace HW24_1 := aM_ (HW24_1.out.mark hm (fun k_ hk_ => by have h1_ := hk_.1;have h2_ := hk_.2;have q_ := HQ.out;omega));replace HW24_2 := aM_ (HW24_2.out.mark hm (fun k_ hk_ => by have h1_ := hk_.1;have h2_ := hk_.2;have q_ := HQ.out;omega));replace BK1 := aM_ (blk_kept BK1.out hm.1 (fun hk_ => by have h1_ := hk_.1;have h2_ := hk_.2;have q_ := HQ.out;omega));replace BK2 := aM_ (blk_kept BK2.out hm.1 (fun hk_ => by have h1_ := hk_.1;have h2_ := hk_.2;have q_ := HQ.out;omega));replace BK10 := aM_ (blk_kept BK10.out hm.1 (fun hk_ => by have h1_ := hk_.1;have h2_ := hk_.2;have q_ := HQ.out;omega));replace BK13 := aM_ (blk_kept BK13.out hm.1 (fun hk_ => by have h1_ := hk_.1;have h2_ := hk_.2;have q_ := HQ.out;omega));replace HB := aM_ (HB.out.trans (hm.below HB.out.size (fun k_ hk_ => by have h1_ := hk_.1;have q_ := HQ.out;omega)));have HIHW26_0 : Aside0 (hi15 ≤ hi15) := ⟨Nat.le_refl _⟩;clear hrv26_0 hc26_0;have HIHH26 : Aside0 (hi15 ≤ hi15) := ⟨Nat.le_refl _⟩;replace HQ := aq_ HQ HIHH26;clear HV15_0 hi_HV15_0;clear hm hw;have hl26 : decide (1 + (L26_0.length : Int) < 0) = false := decide_eq_false (by have h1_ := HX26.out;omega);(try clear hz25_1_0 hf25_1_0 hz25_1_1 hf25_1_1);(try clear hz25_2_0 hf25_2_0 hz25_2_1 hf25_2_1 hz25_2_2 hf25_2_2);(try clear hz25_10_0 hf25_10_0 hz25_10_1 hf25_10_1);(try clear hz25_13_0 hf25_13_0 hz25_13_1 hf25_13_1 hz25_13_2 hf25_13_2);obtain ⟨hz26_1_0,hf26_1_0,hz26_1_1,hf26_1_1⟩ := bx2_ BK1;obtain ⟨hz26_2_0,hf26_2_0,hz26_2_1,hf26_2_1,hz26_2_2,hf26_2_2⟩ := bx3_ BK2;obtain ⟨hz26_10_0,hf26_10_0,hz26_10_1,hf26_10_1⟩ := bx2_ BK10;obtain ⟨hz26_13_0,hf26_13_0,hz26_13_1,hf26_13_1,hz26_13_2,hf26_13_2⟩ := bx3_ BK13) | (refine gL_ (some 69) Try.func41 #[.slice Ao15_0 t14.length co15_0,.int .i64 1] ?_;refine (hd_heldIntS (fun k_ => lo15 ≤ k_ ∧ k_ < hi15) _ Ao15_0 t14.length co15_0 1 L26_0 HW26_0.out.now HH26.out.now HX26.out.1 HX26.out.2).mono ?_;rintro e w27 ⟨rfl,hd_⟩;refine ⟨_,rfl,?_⟩;have hb := Drawn0.below hd_;replace HV6_0 := vb_ HV6_0 hb;replace HV6_1 := vb_ HV6_1 hb;replace HV7_0 := vb_ HV7_0 hb;replace HV7_1 := vb_ HV7_1 hb;replace HV7_2 := vb_ HV7_2 hb;replace HV8_0 := vb_ HV8_0 hb;replace HV18_0 := vb_ HV18_0 hb;replace HV18_1 := vb_ HV18_1 hb;replace HV21_0 := vb_ HV21_0 hb;replace HV21_1 := vb_ HV21_1 hb;replace HV21_2 := vb_ HV21_2 hb;replace HW23_0 := aM_ (HW23_0.out.below hb);replace HW23_1 := aM_ (HW23_1.out.below hb);replace HW24_0 := aM_ (HW24_0.out.below hb);replace HW24_1 := aM_ (HW24_1.out.below hb);replace HW24_2 := aM_ (HW24_2.out.below hb);replace HW26_0 := aM_ (HW26_0.out.below hb);replace HH26 := aM_ (HH26.out.below hb);replace BK1 := bkb_ BK1 hb;replace BK2 := bkb_ BK2 hb;replace BK10 := bkb_ BK10 hb;replace BK13 := bkb_ BK13 hb;replace HB := aM_ (below_step HB.out hb);clear hd_ hb;have hl27 : decide (1 + (L26_0.length : Int) < 0) = false := decide_eq_false (by have h1_ := HX26.out;omega);(try clear hz26_1_0 hf26_1_0 hz26_1_1 hf26_1_1);(try clear hz26_2_0 hf26_2_0 hz26_2_1 hf26_2_1 hz26_2_2 hf26_2_2);(try clear hz26_10_0 hf26_10_0 hz26_10_1 hf26_10_1);(try clear hz26_13_0 hf26_13_0 hz26_13_1 hf26_13_1 hz26_13_2 hf26_13_2);obtain ⟨hz27_1_0,hf27_1_0,hz27_1_1,hf27_1_1⟩ := bx2_ BK1;obtain ⟨hz27_2_0,hf27_2_0,hz27_2_1,hf27_2_1,hz27_2_2,hf27_2_2⟩ := bx3_ BK2;obtain ⟨hz27_10_0,hf27_10_0,hz27_10_1,hf27_10_1⟩ := bx2_ BK10;obtain ⟨hz27_13_0,hf27_13_0,hz27_13_1,hf27_13_1,hz27_13_2,hf27_13_2⟩ := bx3_ BK13))
 replace HV6_0 := aM_ (HV6_0.out.drew)
 replace HV6_1 := aM_ (HV6_1.out.drew)
 replace HV7_0 := aM_ (HV7_0.out.drew)
 replace HV7_1 := aM_ (HV7_1.out.drew)
 replace HV7_2 := aM_ (HV7_2.out.drew)
 replace HV8_0 := aM_ (HV8_0.out.drew)
 replace HV18_0 := aM_ (HV18_0.out.drew)
 replace HV18_1 := aM_ (HV18_1.out.drew)
 replace HV21_0 := aM_ (HV21_0.out.drew)
 replace HV21_1 := aM_ (HV21_1.out.drew)
 replace HV21_2 := aM_ (HV21_2.out.drew)
 replace HW23_0 := aM_ (HW23_0.out.drew)
 replace HW23_1 := aM_ (HW23_1.out.drew)
 replace HW24_0 := aM_ (HW24_0.out.drew)
 replace HW24_1 := aM_ (HW24_1.out.drew)
 replace HW24_2 := aM_ (HW24_2.out.drew)
 replace HW26_0 := aM_ (HW26_0.out.drew)
 replace HH26 := aM_ (HH26.out.drew)
 replace BK1 := aM_ (blk_drew BK1.out)
 replace BK2 := aM_ (blk_drew BK2.out)
 replace BK10 := aM_ (blk_drew BK10.out)
 replace BK13 := aM_ (blk_drew BK13.out)
 replace HB := aM_ (below_drew1 HB.out)
 refine sTa_ 6 (fun w' => K_ w' gb1 0 (.slice A0_0 l0_0.length c0_0) ∧ K_ w' gb1 1 (.slice A0_1 l0_1.length c0_1) ∧ K_ w' gb2 0 (.slice A1_0 l1_0.length c1_0) ∧ K_ w' gb2 1 (.slice A1_1 l1_1.length c1_1) ∧ K_ w' gb2 2 (.slice A1_2 l1_2.length c1_2)) [] ⟨(blk_cell BK1.out 0).trans rfl,(blk_cell BK1.out 1).trans rfl,(blk_cell BK2.out 0).trans rfl,(blk_cell BK2.out 1).trans rfl,(blk_cell BK2.out 2).trans rfl⟩ (fun hHeld => ?_)
 generalize w27.drew = w28 at HV6_0 HV6_1 HV7_0 HV7_1 HV7_2 HV8_0 HV18_0 HV18_1 HV21_0 HV21_1 HV21_2 HW23_0 HW23_1 HW24_0 HW24_1 HW24_2 HW26_0 HH26 BK1 BK2 BK10 BK13 HB hHeld ⊢
 refine jK5_ 0 75 6 1 ?_
 refine jK5_ 2 77 6 5 ?_
 refine jN_ 1 76 6 7 (fun K hK => ?_)
 refine gO_ Try.func17 #[.agg #[.slice A0_0 l0_0.length c0_0,.slice A0_1 l0_1.length c0_1]] ?_
 (with_reducible refine (laws_toProg.calls k _ _ l0_0 _ _ l0_1 t20 t21 _ ?side1 ?side2 ?side3 ?side4 A29.out).mono ?_)
 (case side1 => exact Kd.C_below HR0_0.out HB.out)
 (case side2 => exact HC0_0.out)
 (case side3 => exact Kd.C_below HR0_1.out HB.out)
 (case side4 => exact HC0_1.out)
 rintro e w29 ⟨vv29_0,vv29_1,rfl,ho0,ho1,hb⟩
 refine ⟨_,rfl,?_⟩
 obtain ⟨lo29,hi29,hl1,hl2,hl3,hnew⟩ := St.new (hi21) HV21_0.out.1 hb.size
 have HN29 : Aside0 (hi21 ≤ lo29 ∧ lo29 ≤ hi29) := ⟨hl1,hl2⟩
 replace HQ := aq_ HQ HN29
 replace HV6_0 := vb_ HV6_0 hb
 replace HV6_1 := vb_ HV6_1 hb
 replace HV7_0 := vb_ HV7_0 hb
 replace HV7_1 := vb_ HV7_1 hb
 replace HV7_2 := vb_ HV7_2 hb
 replace HV8_0 := vb_ HV8_0 hb
 replace HV18_0 := vb_ HV18_0 hb
 replace HV18_1 := vb_ HV18_1 hb
 replace HV21_0 := vb_ HV21_0 hb
 replace HV21_1 := vb_ HV21_1 hb
 replace HV21_2 := vb_ HV21_2 hb
 replace HW23_0 := aM_ (HW23_0.out.below hb)
 replace HW23_1 := aM_ (HW23_1.out.below hb)
 replace HW24_0 := aM_ (HW24_0.out.below hb)
 replace HW24_1 := aM_ (HW24_1.out.below hb)
 replace HW24_2 := aM_ (HW24_2.out.below hb)
 replace HW26_0 := aM_ (HW26_0.out.below hb)
 replace HH26 := aM_ (HH26.out.below hb)
 replace BK1 := bkb_ BK1 hb
 replace BK2 := bkb_ BK2 hb
 replace BK10 := bkb_ BK10 hb
 replace BK13 := bkb_ BK13 hb
 replace HB := aM_ (below_step HB.out hb)
 obtain ⟨Ao29_0,co29_0,eo⟩ := Kd.R_slice ho0
 subst eo
 have HV29_0 := aM_ (hnew _ _ _ _ _ _ ho0)
 have HIHV29_0 : Aside0 (hi29 ≤ hi29) := ⟨Nat.le_refl _⟩
 replace HQ := aq_ HQ HIHV29_0
 clear ho0
 obtain ⟨Ao29_1,co29_1,eo⟩ := Kd.R_slice (Kd.S_R ho1)
 subst eo
 have HV29_1 := aM_ (hnew _ _ _ _ _ _ (Kd.S_R ho1))
 have HIHV29_1 : Aside0 (hi29 ≤ hi29) := ⟨Nat.le_refl _⟩
 replace HQ := aq_ HQ HIHV29_1
 clear ho1
 clear hnew hl1 hl2 hl3
 clear hb
 refine kO_ hK (some 76) ⟨(blk_cell BK1.out 0).trans rfl,(blk_cell BK1.out 1).trans rfl,(blk_cell BK2.out 0).trans rfl,(blk_cell BK2.out 1).trans rfl,(blk_cell BK2.out 2).trans rfl⟩ (fun hHeld => ?_)
 clear hK K
 refine jN_ 3 78 6 15 (fun K hK => ?_)
 refine gO_ Try.func35 #[.agg #[.slice A1_0 l1_0.length c1_0,.slice A1_1 l1_1.length c1_1,.slice A1_2 l1_2.length c1_2]] ?_
 (with_reducible refine (laws_toSource.calls k _ _ l1_0 _ _ l1_1 _ _ l1_2 t22 t23 t24 _ ?side1 ?side2 ?side3 ?side4 ?side5 ?side6 A30.out).mono ?_)
 (case side1 => exact Kd.C_below HR1_0.out HB.out)
 (case side2 => exact HC1_0.out)
 (case side3 => exact Kd.C_below HR1_1.out HB.out)
 (case side4 => exact HC1_1.out)
 (case side5 => exact Kd.C_below HR1_2.out HB.out)
 (case side6 => exact HC1_2.out)
 rintro e w30 ⟨vv30_0,vv30_1,vv30_2,rfl,ho0,ho1,ho2,hb⟩
 refine ⟨_,rfl,?_⟩
 obtain ⟨lo30,hi30,hl1,hl2,hl3,hnew⟩ := St.new (hi29) HV29_0.out.1 hb.size
 have HN30 : Aside0 (hi29 ≤ lo30 ∧ lo30 ≤ hi30) := ⟨hl1,hl2⟩
 replace HQ := aq_ HQ HN30
 replace HV6_0 := vb_ HV6_0 hb
 replace HV6_1 := vb_ HV6_1 hb
 replace HV7_0 := vb_ HV7_0 hb
 replace HV7_1 := vb_ HV7_1 hb
 replace HV7_2 := vb_ HV7_2 hb
 replace HV8_0 := vb_ HV8_0 hb
 replace HV18_0 := vb_ HV18_0 hb
 replace HV18_1 := vb_ HV18_1 hb
 replace HV21_0 := vb_ HV21_0 hb
 replace HV21_1 := vb_ HV21_1 hb
 replace HV21_2 := vb_ HV21_2 hb
 replace HW23_0 := aM_ (HW23_0.out.below hb)
 replace HW23_1 := aM_ (HW23_1.out.below hb)
 replace HW24_0 := aM_ (HW24_0.out.below hb)
 replace HW24_1 := aM_ (HW24_1.out.below hb)
 replace HW24_2 := aM_ (HW24_2.out.below hb)
 replace HW26_0 := aM_ (HW26_0.out.below hb)
 replace HH26 := aM_ (HH26.out.below hb)
 replace HV29_0 := vb_ HV29_0 hb
 replace HV29_1 := vb_ HV29_1 hb
 replace BK1 := bkb_ BK1 hb
 replace BK2 := bkb_ BK2 hb
 replace BK10 := bkb_ BK10 hb
 replace BK13 := bkb_ BK13 hb
 replace HB := aM_ (below_step HB.out hb)
 obtain ⟨Ao30_0,co30_0,eo⟩ := Kd.R_slice (Kd.S_R ho0)
 subst eo
 have HV30_0 := aM_ (hnew _ _ _ _ _ _ (Kd.S_R ho0))
 have HIHV30_0 : Aside0 (hi30 ≤ hi30) := ⟨Nat.le_refl _⟩
 replace HQ := aq_ HQ HIHV30_0
 clear ho0
 obtain ⟨Ao30_1,co30_1,eo⟩ := Kd.R_slice (Kd.S_R ho1)
 subst eo
 have HV30_1 := aM_ (hnew _ _ _ _ _ _ (Kd.S_R ho1))
 have HIHV30_1 : Aside0 (hi30 ≤ hi30) := ⟨Nat.le_refl _⟩
 replace HQ := aq_ HQ HIHV30_1
 clear ho1
 obtain ⟨Ao30_2,co30_2,eo⟩ := Kd.R_slice ho2
 subst eo
 have HV30_2 := aM_ (hnew _ _ _ _ _ _ ho2)
 have HIHV30_2 : Aside0 (hi30 ≤ hi30) := ⟨Nat.le_refl _⟩
 replace HQ := aq_ HQ HIHV30_2
 clear ho2
 clear hnew hl1 hl2 hl3
 clear hb
 refine kO_ hK (some 78) ⟨(blk_cell BK1.out 0).trans rfl,(blk_cell BK1.out 1).trans rfl,(blk_cell BK2.out 0).trans rfl,(blk_cell BK2.out 1).trans rfl,(blk_cell BK2.out 2).trans rfl⟩ (fun hHeld => ?_)
 clear hK K
 refine jN_ 4 79 6 31 (fun K hK => ?_)
 refine gO_ Try.func38 #[.agg #[.slice Ao29_0 t20.length co29_0,.slice Ao29_1 t21.length co29_1],.agg #[.slice Ao30_0 t22.length co30_0,.slice Ao30_1 t23.length co30_1,.slice Ao30_2 t24.length co30_2]] ?_
 (with_reducible refine (impl_Able.calls k _ _ t20 _ _ t21 _ _ t22 _ _ t23 _ _ t24 t25 _ ?side1 ?side2 ?side3 ?side4 ?side5 ?side6 ?side7 ?side8 ?side9 ?side10 A31.out).mono ?_)
 (case side1 => exact HV29_0.out.reads)
 (case side2 => exact HV29_0.out.room)
 (case side3 => exact HV29_1.out.reads)
 (case side4 => exact HV29_1.out.room)
 (case side5 => exact HV30_0.out.reads)
 (case side6 => exact HV30_0.out.room)
 (case side7 => exact HV30_1.out.reads)
 (case side8 => exact HV30_1.out.room)
 (case side9 => exact HV30_2.out.reads)
 (case side10 => exact HV30_2.out.room)
 rintro e w31 ⟨vv31_0,rfl,ho0,hb⟩
 refine ⟨_,rfl,?_⟩
 obtain ⟨lo31,hi31,hl1,hl2,hl3,hnew⟩ := St.new (hi30) HV30_0.out.1 hb.size
 have HN31 : Aside0 (hi30 ≤ lo31 ∧ lo31 ≤ hi31) := ⟨hl1,hl2⟩
 replace HQ := aq_ HQ HN31
 replace HV6_0 := vb_ HV6_0 hb
 replace HV6_1 := vb_ HV6_1 hb
 replace HV7_0 := vb_ HV7_0 hb
 replace HV7_1 := vb_ HV7_1 hb
 replace HV7_2 := vb_ HV7_2 hb
 replace HV8_0 := vb_ HV8_0 hb
 replace HV18_0 := vb_ HV18_0 hb
 replace HV18_1 := vb_ HV18_1 hb
 replace HV21_0 := vb_ HV21_0 hb
 replace HV21_1 := vb_ HV21_1 hb
 replace HV21_2 := vb_ HV21_2 hb
 replace HW23_0 := aM_ (HW23_0.out.below hb)
 replace HW23_1 := aM_ (HW23_1.out.below hb)
 replace HW24_0 := aM_ (HW24_0.out.below hb)
 replace HW24_1 := aM_ (HW24_1.out.below hb)
 replace HW24_2 := aM_ (HW24_2.out.below hb)
 replace HW26_0 := aM_ (HW26_0.out.below hb)
 replace HH26 := aM_ (HH26.out.below hb)
 replace HV29_0 := vb_ HV29_0 hb
 replace HV29_1 := vb_ HV29_1 hb
 replace HV30_0 := vb_ HV30_0 hb
 replace HV30_1 := vb_ HV30_1 hb
 replace HV30_2 := vb_ HV30_2 hb
 replace BK1 := bkb_ BK1 hb
 replace BK2 := bkb_ BK2 hb
 replace BK10 := bkb_ BK10 hb
 replace BK13 := bkb_ BK13 hb
 replace HB := aM_ (below_step HB.out hb)
 obtain ⟨Ao31_0,co31_0,eo⟩ := Kd.R_slice ho0
 subst eo
 have HV31_0 := aM_ (hnew _ _ _ _ _ _ ho0)
 have HIHV31_0 : Aside0 (hi31 ≤ hi31) := ⟨Nat.le_refl _⟩
 replace HQ := aq_ HQ HIHV31_0
 clear ho0
 clear hnew hl1 hl2 hl3
 clear hb
 refine kO_ hK (some 79) ⟨(blk_cell BK1.out 0).trans rfl,(blk_cell BK1.out 1).trans rfl,(blk_cell BK2.out 0).trans rfl,(blk_cell BK2.out 1).trans rfl,(blk_cell BK2.out 2).trans rfl⟩ (fun hHeld => ?_)
 clear hK K
 refine jU_ 5 13 6 63 ?_
 refine done_ (by kernel_rfl) ?_
 (try clear hz27_1_0)
 (try clear hf27_1_0)
 (try clear hz27_1_1)
 (try clear hf27_1_1)
 (try clear hz27_2_0)
 (try clear hf27_2_0)
 (try clear hz27_2_1)
 (try clear hf27_2_1)
 (try clear hz27_2_2)
 (try clear hf27_2_2)
 (try clear hz27_10_0)
 (try clear hf27_10_0)
 (try clear hz27_10_1)
 (try clear hf27_10_1)
 (try clear hz27_13_0)
 (try clear hf27_13_0)
 (try clear hz27_13_1)
 (try clear hf27_13_1)
 (try clear hz27_13_2)
 (try clear hf27_13_2)
 obtain ⟨hz31_1_0,hf31_1_0,hz31_1_1,hf31_1_1⟩ := bx2_ BK1
 obtain ⟨hz31_2_0,hf31_2_0,hz31_2_1,hf31_2_1,hz31_2_2,hf31_2_2⟩ := bx3_ BK2
 obtain ⟨hz31_10_0,hf31_10_0,hz31_10_1,hf31_10_1⟩ := bx2_ BK10
 obtain ⟨hz31_13_0,hf31_13_0,hz31_13_1,hf31_13_1,hz31_13_2,hf31_13_2⟩ := bx3_ BK13
 go_wp2_with (first | (refine gL_ (some 82) Try.func39 #[.slice Ao31_0 t25.length co31_0,.slice Ao8_0 t8.length co8_0] ?_;(with_reducible refine (laws_eqIntS.calls k _ _ t25 _ _ t8 true _ ?side1 ?side2 ?side3 ?side4 A32.out).mono ?_);(case side1 => exact HV31_0.out.reads);(case side2 => exact HV31_0.out.room);(case side3 => exact HV8_0.out.reads);(case side4 => exact HV8_0.out.room);rintro e w32 ⟨rfl,hd_⟩;refine ⟨_,rfl,?_⟩;have hb := Drawn0.below hd_;replace HV6_0 := vb_ HV6_0 hb;replace HV6_1 := vb_ HV6_1 hb;replace HV7_0 := vb_ HV7_0 hb;replace HV7_1 := vb_ HV7_1 hb;replace HV7_2 := vb_ HV7_2 hb;replace HV8_0 := vb_ HV8_0 hb;replace HV18_0 := vb_ HV18_0 hb;replace HV18_1 := vb_ HV18_1 hb;replace HV21_0 := vb_ HV21_0 hb;replace HV21_1 := vb_ HV21_1 hb;replace HV21_2 := vb_ HV21_2 hb;replace HW23_0 := aM_ (HW23_0.out.below hb);replace HW23_1 := aM_ (HW23_1.out.below hb);replace HW24_0 := aM_ (HW24_0.out.below hb);replace HW24_1 := aM_ (HW24_1.out.below hb);replace HW24_2 := aM_ (HW24_2.out.below hb);replace HW26_0 := aM_ (HW26_0.out.below hb);replace HH26 := aM_ (HH26.out.below hb);replace HV29_0 := vb_ HV29_0 hb;replace HV29_1 := vb_ HV29_1 hb;replace HV30_0 := vb_ HV30_0 hb;replace HV30_1 := vb_ HV30_1 hb;replace HV30_2 := vb_ HV30_2 hb;replace HV31_0 := vb_ HV31_0 hb;replace BK1 := bkb_ BK1 hb;replace BK2 := bkb_ BK2 hb;replace BK10 := bkb_ BK10 hb;replace BK13 := bkb_ BK13 hb;replace HB := aM_ (below_step HB.out hb);clear hb;(try clear hz31_1_0 hf31_1_0 hz31_1_1 hf31_1_1);(try clear hz31_2_0 hf31_2_0 hz31_2_1 hf31_2_1 hz31_2_2 hf31_2_2);(try clear hz31_10_0 hf31_10_0 hz31_10_1 hf31_10_1);(try clear hz31_13_0 hf31_13_0 hz31_13_1 hf31_13_1 hz31_13_2 hf31_13_2);obtain ⟨hz32_1_0,hf32_1_0,hz32_1_1,hf32_1_1⟩ := bx2_ BK1;obtain ⟨hz32_2_0,hf32_2_0,hz32_2_1,hf32_2_1,hz32_2_2,hf32_2_2⟩ := bx3_ BK2;obtain ⟨hz32_10_0,hf32_10_0,hz32_10_1,hf32_10_1⟩ := bx2_ BK10;obtain ⟨hz32_13_0,hf32_13_0,hz32_13_1,hf32_13_1,hz32_13_2,hf32_13_2⟩ := bx3_ BK13) | (refine gL_ (some 86) Try.func41 #[.slice Ao15_0 t14.length co15_0,.int .i64 1] ?_;refine (hd_heldIntS (fun k_ => lo15 ≤ k_ ∧ k_ < hi15) _ Ao15_0 t14.length co15_0 1 L26_0 HW26_0.out.now HH26.out.now HX26.out.1 HX26.out.2).mono ?_;rintro e w33 ⟨rfl,hd_⟩;refine ⟨_,rfl,?_⟩;have hb := Drawn0.below hd_;replace HV6_0 := vb_ HV6_0 hb;replace HV6_1 := vb_ HV6_1 hb;replace HV7_0 := vb_ HV7_0 hb;replace HV7_1 := vb_ HV7_1 hb;replace HV7_2 := vb_ HV7_2 hb;replace HV8_0 := vb_ HV8_0 hb;replace HV18_0 := vb_ HV18_0 hb;replace HV18_1 := vb_ HV18_1 hb;replace HV21_0 := vb_ HV21_0 hb;replace HV21_1 := vb_ HV21_1 hb;replace HV21_2 := vb_ HV21_2 hb;replace HW23_0 := aM_ (HW23_0.out.below hb);replace HW23_1 := aM_ (HW23_1.out.below hb);replace HW24_0 := aM_ (HW24_0.out.below hb);replace HW24_1 := aM_ (HW24_1.out.below hb);replace HW24_2 := aM_ (HW24_2.out.below hb);replace HW26_0 := aM_ (HW26_0.out.below hb);replace HH26 := aM_ (HH26.out.below hb);replace HV29_0 := vb_ HV29_0 hb;replace HV29_1 := vb_ HV29_1 hb;replace HV30_0 := vb_ HV30_0 hb;replace HV30_1 := vb_ HV30_1 hb;replace HV30_2 := vb_ HV30_2 hb;replace HV31_0 := vb_ HV31_0 hb;replace BK1 := bkb_ BK1 hb;replace BK2 := bkb_ BK2 hb;replace BK10 := bkb_ BK10 hb;replace BK13 := bkb_ BK13 hb;replace HB := aM_ (below_step HB.out hb);clear hd_ hb;have hl33 : decide (1 + (L26_0.length : Int) < 0) = false := decide_eq_false (by have h1_ := HX26.out;omega);(try clear hz32_1_0 hf32_1_0 hz32_1_1 hf32_1_1);(try clear hz32_2_0 hf32_2_0 hz32_2_1 hf32_2_1 hz32_2_2 hf32_2_2);(try clear hz32_10_0 hf32_10_0 hz32_10_1 hf32_10_1);(try clear hz32_13_0 hf32_13_0 hz32_13_1 hf32_13_1 hz32_13_2 hf32_13_2);obtain ⟨hz33_1_0,hf33_1_0,hz33_1_1,hf33_1_1⟩ := bx2_ BK1;obtain ⟨hz33_2_0,hf33_2_0,hz33_2_1,hf33_2_1,hz33_2_2,hf33_2_2⟩ := bx3_ BK2;obtain ⟨hz33_10_0,hf33_10_0,hz33_10_1,hf33_10_1⟩ := bx2_ BK10;obtain ⟨hz33_13_0,hf33_13_0,hz33_13_1,hf33_13_1,hz33_13_2,hf33_13_2⟩ := bx3_ BK13))
 go_ret
 exact ⟨rfl,HB.out⟩
set_option maxHeartbeats 16000000 in
theorem laws_FnExactAble.calls (k : Nat) (A0_0 : Option Addr) (c0_0 : Nat) (l0_0 : List Int) (A0_1 : Option Addr) (c0_1 : Nat) (l0_1 : List (List (S208))) (A1_0 : Option Addr) (c1_0 : Nat) (l1_0 : List (S184)) (A1_1 : Option Addr) (c1_1 : Nat) (l1_1 : List (S186)) (A1_2 : Option Addr) (c1_2 : Nat) (l1_2 : List (S190)) (r : Bool) (w : World) (hr0_0 : Kd.C (Kd.int .i64) w A0_0 l0_0.length l0_0) (hc0_0 : l0_0.length ≤ c0_0) (hr0_1 : Kd.C (Kd.slice 208 k208) w A0_1 l0_1.length l0_1) (hc0_1 : l0_1.length ≤ c0_1) (hr1_0 : Kd.C k184 w A1_0 l1_0.length l1_0) (hc1_0 : l1_0.length ≤ c1_0) (hr1_1 : Kd.C k186 w A1_1 l1_1.length l1_1) (hc1_1 : l1_1.length ≤ c1_1) (hr1_2 : Kd.C k190 w A1_2 l1_2.length l1_2) (hc1_2 : l1_2.length ≤ c1_2) (h : laws_FnExactAble.f k l0_0 l0_1 l1_0 l1_1 l1_2 = some r) (hr : r = true) :
  Calls Try.prog 7 #[.agg #[.slice A0_0 l0_0.length c0_0,.slice A0_1 l0_1.length c0_1],.agg #[.slice A1_0 l1_0.length c1_0,.slice A1_1 l1_1.length c1_1,.slice A1_2 l1_2.length c1_2]] w fun e w' => e = .returned (.bool r) ∧ Below w.heap.size w w' := by
 subst hr
 simp only [laws_FnExactAble.f] at h
 obtain ⟨t1,A3,h⟩ := Option.bind_eq_some_iff.mp h
 by_cases hq0 : t1 < 0
 case pos => exact FnExactAble_exit0 k A0_0 c0_0 l0_0 A0_1 c0_1 l0_1 A1_0 c1_0 l1_0 A1_1 c1_1 l1_1 A1_2 c1_2 l1_2 t1 w hr0_0 hc0_0 hr0_1 hc0_1 hr1_0 hc1_0 hr1_1 hc1_1 hr1_2 hc1_2 A3 hq0
 rw [if_neg hq0] at h
 obtain ⟨t2,A4,h⟩ := Option.bind_eq_some_iff.mp h
 by_cases hq1 : t2 < 0
 case pos => exact FnExactAble_exit1 k A0_0 c0_0 l0_0 A0_1 c0_1 l0_1 A1_0 c1_0 l1_0 A1_1 c1_1 l1_1 A1_2 c1_2 l1_2 t1 t2 w hr0_0 hc0_0 hr0_1 hc0_1 hr1_0 hc1_0 hr1_1 hc1_1 hr1_2 hc1_2 A3 hq0 A4 hq1
 rw [if_neg hq1] at h
 obtain ⟨⟨t3,t4⟩,A6,h⟩ := Option.bind_eq_some_iff.mp h
 (try simp only [] at h)
 obtain ⟨⟨t5,t6,t7⟩,A7,h⟩ := Option.bind_eq_some_iff.mp h
 (try simp only [] at h)
 obtain ⟨t8,A8,h⟩ := Option.bind_eq_some_iff.mp h
 obtain ⟨⟨t9,t10⟩,A9,h⟩ := Option.bind_eq_some_iff.mp h
 (try simp only [] at h)
 obtain ⟨⟨t11,t12,t13⟩,A12,h⟩ := Option.bind_eq_some_iff.mp h
 (try simp only [] at h)
 obtain ⟨t14,A15,h⟩ := Option.bind_eq_some_iff.mp h
 obtain ⟨eA16,A16,h⟩ := Option.bind_eq_some_iff.mp h
 by_cases cA16 : eA16 = true
 case neg => rw [if_neg cA16] at h;exact absurd (Option.some.inj h) (by decide)
 rw [if_pos cA16] at h
 subst cA16
 obtain ⟨⟨t15,t16⟩,A18,h⟩ := Option.bind_eq_some_iff.mp h
 (try simp only [] at h)
 obtain ⟨eA19,A19,h⟩ := Option.bind_eq_some_iff.mp h
 by_cases cA19 : eA19 = true
 case neg => rw [if_neg cA19] at h;exact absurd (Option.some.inj h) (by decide)
 rw [if_pos cA19] at h
 subst cA19
 obtain ⟨⟨t17,t18,t19⟩,A21,h⟩ := Option.bind_eq_some_iff.mp h
 (try simp only [] at h)
 obtain ⟨eA22,A22,h⟩ := Option.bind_eq_some_iff.mp h
 by_cases cA22 : eA22 = true
 case neg => rw [if_neg cA22] at h;exact absurd (Option.some.inj h) (by decide)
 rw [if_pos cA22] at h
 subst cA22
 by_cases hwt23 : wsum (fun _ => 1) t9 + wsum (wsum wt192) t10 ≤ 1152921504606846976
 case neg => rw [if_neg hwt23] at h;cases h
 rw [if_pos hwt23] at h
 by_cases hwt24 : wsum wt107 t11 + wsum wt94 t12 + wsum wt35 t13 ≤ 1152921504606846976
 case neg => rw [if_neg hwt24] at h;cases h
 rw [if_pos hwt24] at h
 obtain ⟨eA25,A25,h⟩ := Option.bind_eq_some_iff.mp h
 by_cases cA25 : eA25 = true
 case neg => rw [if_neg cA25] at h;exact absurd (Option.some.inj h) (by decide)
 rw [if_pos cA25] at h
 subst cA25
 by_cases hwt26 : wsum (fun _ => 1) t14 ≤ 1152921504606846976
 case neg => rw [if_neg hwt26] at h;cases h
 rw [if_pos hwt26] at h
 obtain ⟨⟨t20,t21⟩,A29,h⟩ := Option.bind_eq_some_iff.mp h
 (try simp only [] at h)
 obtain ⟨⟨t22,t23,t24⟩,A30,h⟩ := Option.bind_eq_some_iff.mp h
 (try simp only [] at h)
 obtain ⟨t25,A31,h⟩ := Option.bind_eq_some_iff.mp h
 obtain ⟨eA32,A32,h⟩ := Option.bind_eq_some_iff.mp h
 by_cases cA32 : eA32 = true
 case neg => rw [if_neg cA32] at h;exact absurd (Option.some.inj h) (by decide)
 rw [if_pos cA32] at h
 subst cA32
 exact FnExactAble_main k A0_0 c0_0 l0_0 A0_1 c0_1 l0_1 A1_0 c1_0 l1_0 A1_1 c1_1 l1_1 A1_2 c1_2 l1_2 t1 t2 t3 t4 t5 t6 t7 t8 t9 t10 t11 t12 t13 t14 t15 t16 t17 t18 t19 t20 t21 t22 t23 t24 t25 w hr0_0 hc0_0 hr0_1 hc0_1 hr1_0 hc1_0 hr1_1 hc1_1 hr1_2 hc1_2 A3 hq0 A4 hq1 A6 A7 A8 A9 A12 A15 A16 A18 A19 A21 A22 hwt23 hwt24 A25 hwt26 A29 A30 A31 A32
end Go.Proofs.Ytobachfngmpeiaa.PFnExactAble
namespace Go.Proofs.Ytobachfngmpeiaa.Lp
open Go.RowKit Go.Proofs.YtobachfngmpeiaaW.PrintWords
set_option linter.unusedVariables false
set_option linter.unusedSimpArgs false
theorem wrapS {j n : Nat} (h : j < n) (hn : n ≤ 9223372036854775807) : wrap64 ((j : Int) + 1) = ((j + 1 : Nat) : Int) := by
 unfold wrap64;omega
theorem wrap_in {n : Int} (h0 : -9223372036854775808 ≤ n) (h1 : n ≤ 9223372036854775807) : wrap64 n = n := by
 unfold wrap64;omega
theorem rd_get {xs : List Int} {j : Nat} (h : j < xs.length) : rd xs (j : Int) = xs[j] := by simp [rd,List.getD_eq_getElem?_getD,h]
theorem count_up {ρ : Type} {L : Nat → Nat → Option ρ} {R : Nat → ρ} {n : Nat} (hend : Ev (L n) (R n)) (hstep : ∀ j,j < n → Ev (L (j + 1)) (R (j + 1)) → Ev (L j) (R j)) : ∀ j,j ≤ n → Ev (L j) (R j) := by
  have key : ∀ d j,j + d = n → Ev (L j) (R j) := by
    intro d
    induction d with
    | zero => intro j hj;obtain rfl : j = n := by omega
              exact hend
    | succ d ih => intro j hj;exact hstep j (by omega) (ih (j + 1) (by omega))
  exact fun j hj => key (n - j) j (by omega)
theorem Ev.one {α : Type} {g : Nat → Option α} {r : α} (h : ∀ k,g (k + 1) = some r) : Ev g r := ⟨1,fun k hk => by
 obtain ⟨m,rfl⟩ : ∃ m,k = m + 1 := ⟨k - 1,by omega⟩
 exact h m⟩
theorem Ev.all {α : Type} {g : Nat → Option α} {r : α} (h : ∀ k,g k = some r) : Ev g r := ⟨0,fun k _ => h k⟩
theorem fill_set {α : Type} (l : List α) (z : α) (j : Nat) (h : j < l.length) (x : α) (hx : x = l[j]) : (l.take j ++ List.replicate (l.length - j) z).set j x = l.take (j + 1) ++ List.replicate (l.length - (j + 1)) z := by
 subst hx
 rw [show l.length - j = (l.length - (j + 1)) + 1 by omega,List.replicate_succ,List.set_append_right _ _ (by simp;omega),List.length_take,show j - min j l.length = 0 by omega,List.set_cons_zero,List.take_succ_eq_append_getElem h,List.append_assoc]
 rfl
def agree {α : Type} [DecidableEq α] (a b : List α) (j : Nat) : Bool := decide (a.drop j = b.drop j)
theorem agree_step {α : Type} [DecidableEq α] {a b : List α} {j : Nat} (ha : j < a.length) (hb : j < b.length) (h : a[j] = b[j]) : agree a b j = agree a b (j + 1) := by
 unfold agree
 have e1 := List.drop_eq_getElem_cons ha
 have e2 := List.drop_eq_getElem_cons hb
 rw [decide_eq_decide,e1,e2,h,List.cons.injEq]
 exact ⟨fun c => c.2,fun c => ⟨rfl,c⟩⟩
theorem agree_no {α : Type} [DecidableEq α] {a b : List α} {j : Nat} (ha : j < a.length) (hb : j < b.length) (h : ¬ a[j] = b[j]) : agree a b j = false := by
 unfold agree
 have e1 := List.drop_eq_getElem_cons ha
 have e2 := List.drop_eq_getElem_cons hb
 rw [decide_eq_false_iff_not,e1,e2]
 intro c
 injection c with c1
 exact h c1
theorem agree_end {α : Type} [DecidableEq α] {a b : List α} (h : a.length = b.length) : agree a b a.length = true := by
 unfold agree
 simp [h]
def allFrom {α : Type} (p : α → Bool) (xs : List α) (j : Nat) : Bool := (xs.drop j).all p
theorem allFrom_step {α : Type} {p : α → Bool} {xs : List α} {j : Nat} (h : j < xs.length) : allFrom p xs j = (p xs[j] && allFrom p xs (j + 1)) := by
 unfold allFrom
 rw [List.drop_eq_getElem_cons h,List.all_cons]
theorem allFrom_end {α : Type} {p : α → Bool} (xs : List α) : allFrom p xs xs.length = true := by simp [allFrom]
theorem allFrom_zero {α : Type} (p : α → Bool) (xs : List α) : allFrom p xs 0 = xs.all p := rfl
def total {α : Type} (w : α → Nat) : List α → Nat
  | [] => 0
  | x :: xs => w x + total w xs
theorem total_drop {α : Type} (w : α → Nat) {xs : List α} {j : Nat} (h : j < xs.length) : total w (xs.drop j) = w xs[j] + total w (xs.drop (j + 1)) := by
 rw [List.drop_eq_getElem_cons h,total]
theorem total_mem {α : Type} (w : α → Nat) : ∀ {xs : List α} {x : α},x ∈ xs → w x ≤ total w xs
 | y :: xs,x,h => by
  rcases List.mem_cons.1 h with rfl | h
  ·rw [total];omega
  ·have := total_mem w h
   rw [total];omega
def left? (t : Nat) (a : Int) : Int := if (t : Int) ≤ a then a - (t : Int) else -1
theorem sz_loop {α : Type} {L : Nat → Int → Nat → Option Int} (xs : List α) (w : α → Nat) (B : Int) (hend : ∀ a,Ev (L xs.length a) a)
  (hyes : ∀ j (h : j < xs.length) a,a ≤ B → (w xs[j] : Int) ≤ a → ∀ r,Ev (L (j + 1) (a - (w xs[j] : Int))) r → Ev (L j a) r)
  (hno : ∀ j (h : j < xs.length) a,0 ≤ a → a ≤ B → a < (w xs[j] : Int) → Ev (L j a) (-1)) : ∀ a,0 ≤ a → a ≤ B → Ev (L 0 a) (left? (total w xs) a) := by
 have key : ∀ d j,j + d = xs.length → ∀ a,0 ≤ a → a ≤ B → Ev (L j a) (left? (total w (xs.drop j)) a) := by
  intro d
  induction d with
  | zero =>
   intro j hj a h0 hB
   obtain rfl : j = xs.length := by omega
   rw [List.drop_length,total,left?,if_pos (by omega),show a - ((0 : Nat) : Int) = a by omega]
   exact hend a
  | succ d ih =>
   intro j hj a h0 hB
   have h : j < xs.length := by omega
   rw [total_drop w h]
   by_cases hw : (w xs[j] : Int) ≤ a
   ·refine hyes j h a hB hw _ ?_
    have := ih (j + 1) (by omega) (a - (w xs[j] : Int)) (by omega) (by omega)
    unfold left? at this ⊢
    by_cases c : (total w (xs.drop (j + 1)) : Int) ≤ a - (w xs[j] : Int)
    ·rw [if_pos c] at this
     rw [if_pos (by omega),show a - ((w xs[j] + total w (xs.drop (j + 1)) : Nat) : Int) = a - (w xs[j] : Int) - (total w (xs.drop (j + 1)) : Int) by omega]
     exact this
    ·rw [if_neg c] at this
     rw [if_neg (by omega)]
     exact this
   ·rw [left?,if_neg (by omega)]
    exact hno j h a h0 hB (by omega)
 exact fun a h0 hB => by simpa using key xs.length 0 (by omega) a h0 hB
theorem left?_yes {t : Nat} {a : Int} (h : (t : Int) ≤ a) : left? t a = a - (t : Int) := if_pos h
theorem left?_no {t : Nat} {a : Int} (h : ¬ (t : Int) ≤ a) : left? t a = -1 := if_neg h
theorem left?_add {m t : Nat} {a : Int} (h : (m : Int) ≤ a) : left? t (a - (m : Int)) = left? (m + t) a := by
 unfold left?
 by_cases c : (t : Int) ≤ a - (m : Int)
 ·rw [if_pos c,if_pos (by omega)];omega
 ·rw [if_neg c,if_neg (by omega)]
theorem Ev.val {α : Type} {g : Nat → Option α} {r r' : α} (h : r = r') (k : Ev g r) : Ev g r' := h ▸ k
theorem Ev.ite_pos {α : Type} {c : Prop} [Decidable c] {g f : Nat → Option α} {r : α} (h : c) (k : Ev g r) : Ev (fun n => if c then g n else f n) r := by simp only [if_pos h];exact k
theorem Ev.ite_neg {α : Type} {c : Prop} [Decidable c] {g f : Nat → Option α} {r : α} (h : ¬ c) (k : Ev f r) : Ev (fun n => if c then g n else f n) r := by simp only [if_neg h];exact k
theorem total_map {α β : Type} (w : α → Nat) (w' : β → Nat) (c : α → β) (h : ∀ x,w' (c x) = w x) : ∀ xs : List α,total w' (xs.map c) = total w xs
 | [] => rfl
 | x :: xs => by rw [List.map_cons,total,total,h,total_map w w' c h xs]
theorem to_loop {α β : Type} {L : Nat → List β → Nat → Option (List β)} (xs : List α) (c : α → β) (z : β) (hend : ∀ ys,ys.length = xs.length → Ev (L xs.length ys) ys)
  (hstep : ∀ j (h : j < xs.length) ys,ys.length = xs.length → ∀ r,Ev (L (j + 1) (ys.set j (c xs[j]))) r → Ev (L j ys) r) : Ev (L 0 (List.replicate xs.length z)) (xs.map c) := by
 have key : ∀ d j,j + d = xs.length → Ev (L j ((xs.map c).take j ++ List.replicate (xs.length - j) z)) (xs.map c) := by
  intro d
  induction d with
  | zero =>
   intro j hj
   obtain rfl : j = xs.length := by omega
   have := hend (xs.map c) (by simp)
   rw [Nat.sub_self,List.replicate_zero,List.append_nil,List.take_of_length_le (by simp)]
   exact this
  | succ d ih =>
   intro j hj
   have h : j < xs.length := by omega
   refine hstep j h _ (by simp;omega) _ ?_
   have h2 := fill_set (xs.map c) z j (by simpa using h) (c xs[j]) (by simp)
   rw [List.length_map] at h2
   rw [h2]
   exact ih (j + 1) (by omega)
 simpa using key xs.length 0 (by omega)
theorem yes_loop {ρ : Type} {L : Nat → Nat → Option ρ} (n : Nat) (r : ρ) (hend : Ev (L n) r) (hstep : ∀ j,j < n → Ev (L (j + 1)) r → Ev (L j) r) : Ev (L 0) r :=
 count_up (R := fun _ => r) hend hstep 0 (Nat.zero_le _)
theorem all_loop {α : Type} {L : Nat → Nat → Option Bool} (xs : List α) (p : α → Bool) {b : Bool} (hend : Ev (L xs.length) b) (hyes : ∀ j (h : j < xs.length),p xs[j] = true → ∀ r,Ev (L (j + 1)) r → Ev (L j) r) (hno : ∀ j (h : j < xs.length),p xs[j] = false → Ev (L j) false) : Ev (L 0) (xs.all p && b) := by
 have key : ∀ d j,j + d = xs.length → Ev (L j) (allFrom p xs j && b) := by
  intro d
  induction d with
  | zero =>
   intro j hj
   obtain rfl : j = xs.length := by omega
   rw [allFrom_end,Bool.true_and]
   exact hend
  | succ d ih =>
   intro j hj
   have h : j < xs.length := by omega
   rw [allFrom_step h]
   cases e : p xs[j] with
   | true => rw [Bool.true_and];exact hyes j h e _ (ih (j + 1) (by omega))
   | false => rw [Bool.false_and,Bool.false_and];exact hno j h e
 have := key xs.length 0 (by omega)
 rwa [allFrom_zero] at this
end Go.Proofs.Ytobachfngmpeiaa.Lp
