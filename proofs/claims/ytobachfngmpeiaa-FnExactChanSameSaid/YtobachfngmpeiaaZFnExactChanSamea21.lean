/- A part of the proof that the law FnExactChanSame holds for every input: the words, functions and walks that its row needs, without a condition of their own. -/
import Derived.Test.YtobachfngmpeiaaZFnExactChanSamea3
import Derived.Test.YtobachfngmpeiaaZFnExactChanSamea6
import Derived.Test.YtobachfngmpeiaaZFnExactChanSamea7
import Derived.Test.YtobachfngmpeiaaZFnExactChanSamea11
import Derived.Test.YtobachfngmpeiaaZFnExactChanSamea12
import Derived.Test.YtobachfngmpeiaaZFnExactChanSamea13
import Derived.Test.YtobachfngmpeiaaZFnExactChanSamea16
import Derived.Test.YtobachfngmpeiaaZFnExactChanSamea17
import Derived.Test.YtobachfngmpeiaaZFnExactChanSamea20
import Derived.Test.YtobachfngmpeiaaZFnExactChanSames
namespace Go.Proofs.Ytobachfngmpeiaa.PFnExactChanSame
open Go.RowKit Go.Proofs.YtobachfngmpeiaaW.PrintWords Go.Proofs.YtobachfngmpeiaaW.PrintLast Go.Proofs.YtobachfngmpeiaaW.PrintMore Go.Proofs.Ytobachfngmpeiaa.Marks Go.Proofs.Ytobachfngmpeiaa.LawKit
set_option linter.unusedVariables false
set_option linter.unusedSimpArgs false
attribute [local go_sem] max2_int min2_int max_two min_two max_three min_three max_four min_four
theorem aq_ {p q : Prop} (h : Aside0 p) (k : Aside0 q) : Aside0 (p ∧ q) := ⟨⟨h.out,k.out⟩⟩
theorem bkb_ {w w1 : World} {g : Nat} {o : Obj} (h : Aside0 (w.heap[g]? = some o)) (hb : Below w.heap.size w w1) : Aside0 (w1.heap[g]? = some o) := ⟨blk_below h.out hb⟩
theorem bx2_ {w : World} {g : Nat} {t : TypeId} {v0 v1 : Value} (h : Aside0 (w.heap[g]? = some (.cells #[v0,v1] t (0,0)))) : w.cell? ⟨g,0,none⟩ = some v0 ∧ w.frozen? ⟨g,0,none⟩ = false ∧ w.cell? ⟨g,1,none⟩ = some v1 ∧ w.frozen? ⟨g,1,none⟩ = false := ⟨(blk_cell h.out 0).trans rfl,blk_frozen h.out 0,(blk_cell h.out 1).trans rfl,blk_frozen h.out 1⟩
theorem bx3_ {w : World} {g : Nat} {t : TypeId} {v0 v1 v2 : Value} (h : Aside0 (w.heap[g]? = some (.cells #[v0,v1,v2] t (0,0)))) : w.cell? ⟨g,0,none⟩ = some v0 ∧ w.frozen? ⟨g,0,none⟩ = false ∧ w.cell? ⟨g,1,none⟩ = some v1 ∧ w.frozen? ⟨g,1,none⟩ = false ∧ w.cell? ⟨g,2,none⟩ = some v2 ∧ w.frozen? ⟨g,2,none⟩ = false := ⟨(blk_cell h.out 0).trans rfl,blk_frozen h.out 0,(blk_cell h.out 1).trans rfl,blk_frozen h.out 1,(blk_cell h.out 2).trans rfl,blk_frozen h.out 2⟩
theorem bx4_ {w : World} {g : Nat} {t : TypeId} {v0 v1 v2 v3 : Value} (h : Aside0 (w.heap[g]? = some (.cells #[v0,v1,v2,v3] t (0,0)))) : w.cell? ⟨g,0,none⟩ = some v0 ∧ w.frozen? ⟨g,0,none⟩ = false ∧ w.cell? ⟨g,1,none⟩ = some v1 ∧ w.frozen? ⟨g,1,none⟩ = false ∧ w.cell? ⟨g,2,none⟩ = some v2 ∧ w.frozen? ⟨g,2,none⟩ = false ∧ w.cell? ⟨g,3,none⟩ = some v3 ∧ w.frozen? ⟨g,3,none⟩ = false := ⟨(blk_cell h.out 0).trans rfl,blk_frozen h.out 0,(blk_cell h.out 1).trans rfl,blk_frozen h.out 1,(blk_cell h.out 2).trans rfl,blk_frozen h.out 2,(blk_cell h.out 3).trans rfl,blk_frozen h.out 3⟩
theorem hs2_ {lo hi : Nat} {Q : World → Prop} {W : World} (h : Aside0 (St lo hi Q W)) (g : Nat) (v0 v1 : Value) (hg : hi ≤ g := by have q_ := HQ.out;omega) : Aside0 (St lo hi Q ((W.setCell ⟨g,0,none⟩ v0).setCell ⟨g,1,none⟩ v1)) := ⟨((h.out.set (o := 0) (g := g) hg v0).set (o := 1) (g := g) hg v1)⟩
theorem hs3_ {lo hi : Nat} {Q : World → Prop} {W : World} (h : Aside0 (St lo hi Q W)) (g : Nat) (v0 v1 v2 : Value) (hg : hi ≤ g := by have q_ := HQ.out;omega) : Aside0 (St lo hi Q (((W.setCell ⟨g,0,none⟩ v0).setCell ⟨g,1,none⟩ v1).setCell ⟨g,2,none⟩ v2)) := ⟨(((h.out.set (o := 0) (g := g) hg v0).set (o := 1) (g := g) hg v1).set (o := 2) (g := g) hg v2)⟩
theorem hs4_ {lo hi : Nat} {Q : World → Prop} {W : World} (h : Aside0 (St lo hi Q W)) (g : Nat) (v0 v1 v2 v3 : Value) (hg : hi ≤ g := by have q_ := HQ.out;omega) : Aside0 (St lo hi Q ((((W.setCell ⟨g,0,none⟩ v0).setCell ⟨g,1,none⟩ v1).setCell ⟨g,2,none⟩ v2).setCell ⟨g,3,none⟩ v3)) := ⟨((((h.out.set (o := 0) (g := g) hg v0).set (o := 1) (g := g) hg v1).set (o := 2) (g := g) hg v2).set (o := 3) (g := g) hg v3)⟩
set_option maxHeartbeats 16000000 in
set_option maxRecDepth 100000 in
theorem FnExactChanSame_exit0 (k : Nat) (A0_0 : Option Addr) (c0_0 : Nat) (l0_0 : List Int) (A0_1 : Option Addr) (c0_1 : Nat) (l0_1 : List (List (S208))) (A1_0 : Option Addr) (c1_0 : Nat) (l1_0 : List (List (S177))) (A1_1 : Option Addr) (c1_1 : Nat) (l1_1 : List (S194)) (A1_2 : Option Addr) (c1_2 : Nat) (l1_2 : List (List (S238))) (A1_3 : Option Addr) (c1_3 : Nat) (l1_3 : List (S190)) (A2_0 : Option Addr) (c2_0 : Nat) (l2_0 : List (S184)) (A2_1 : Option Addr) (c2_1 : Nat) (l2_1 : List (S186)) (A2_2 : Option Addr) (c2_2 : Nat) (l2_2 : List (S190)) (a3 : Int) (t1 : Int) (w : World) (hr0_0 : Kd.C (Kd.int .i64) w A0_0 l0_0.length l0_0) (hc0_0 : l0_0.length ≤ c0_0) (hr0_1 : Kd.C (Kd.slice 208 k208) w A0_1 l0_1.length l0_1) (hc0_1 : l0_1.length ≤ c0_1) (hr1_0 : Kd.C (Kd.slice 177 k177) w A1_0 l1_0.length l1_0) (hc1_0 : l1_0.length ≤ c1_0) (hr1_1 : Kd.C k194 w A1_1 l1_1.length l1_1) (hc1_1 : l1_1.length ≤ c1_1) (hr1_2 : Kd.C (Kd.slice 238 k238) w A1_2 l1_2.length l1_2) (hc1_2 : l1_2.length ≤ c1_2) (hr1_3 : Kd.C k190 w A1_3 l1_3.length l1_3) (hc1_3 : l1_3.length ≤ c1_3) (hr2_0 : Kd.C k184 w A2_0 l2_0.length l2_0) (hc2_0 : l2_0.length ≤ c2_0) (hr2_1 : Kd.C k186 w A2_1 l2_1.length l2_1) (hc2_1 : l2_1.length ≤ c2_1) (hr2_2 : Kd.C k190 w A2_2 l2_2.length l2_2) (hc2_2 : l2_2.length ≤ c2_2) (pA4 : laws_szProg.f k l0_0 l0_1 1048576 = some t1) (hq0 : (t1 < 0)) :
  Calls Try.prog 8 #[.agg #[.slice A0_0 l0_0.length c0_0,.slice A0_1 l0_1.length c0_1],.agg #[.slice A1_0 l1_0.length c1_0,.slice A1_1 l1_1.length c1_1,.slice A1_2 l1_2.length c1_2,.slice A1_3 l1_3.length c1_3],.agg #[.slice A2_0 l2_0.length c2_0,.slice A2_1 l2_1.length c2_1,.slice A2_2 l2_2.length c2_2],.int .i64 a3] w fun e w' => e = .returned (.bool true) ∧ Below w.heap.size w w' := by
 have HR0_0 := Aside0.mk hr0_0
 have HC0_0 := Aside0.mk hc0_0
 clear hr0_0 hc0_0
 have HR0_1 := Aside0.mk hr0_1
 have HC0_1 := Aside0.mk hc0_1
 clear hr0_1 hc0_1
 have HR1_0 := Aside0.mk hr1_0
 have HC1_0 := Aside0.mk hc1_0
 clear hr1_0 hc1_0
 have HR1_1 := Aside0.mk hr1_1
 have HC1_1 := Aside0.mk hc1_1
 clear hr1_1 hc1_1
 have HR1_2 := Aside0.mk hr1_2
 have HC1_2 := Aside0.mk hc1_2
 clear hr1_2 hc1_2
 have HR1_3 := Aside0.mk hr1_3
 have HC1_3 := Aside0.mk hc1_3
 clear hr1_3 hc1_3
 have HR2_0 := Aside0.mk hr2_0
 have HC2_0 := Aside0.mk hc2_0
 clear hr2_0 hc2_0
 have HR2_1 := Aside0.mk hr2_1
 have HC2_1 := Aside0.mk hc2_1
 clear hr2_1 hc2_1
 have HR2_2 := Aside0.mk hr2_2
 have HC2_2 := Aside0.mk hc2_2
 clear hr2_2 hc2_2
 have A4 := Aside0.mk pA4
 clear pA4
 have hq0b : decide (t1 < 0) = true := decide_eq_true hq0
 have hu38 := Try.underlying38
 have hu72 := Try.underlying72
 have hu84 := Try.underlying84
 have HB := Aside0.mk (Below.refl w.heap.size w)
 have HQ : Aside0 True := ⟨trivial⟩
 go_enter Try.func8,Try.ntmps8
 go_wp2_with (first | ((with_reducible refine gate_dst (N := 4) rfl ?_);refine bX_ 4 (cs := #[.slice A0_0 l0_0.length c0_0,.slice A0_1 l0_1.length c0_1]) (t := 38) ?_;intro gb1 hg w1 hbox hb;have HN1 : Aside0 (w.heap.size ≤ gb1) := ⟨by rw [hg];exact HB.out.size⟩;replace HQ := aq_ HQ HN1;replace HB := Aside0.mk (below_step HB.out hb);have BK1 := Aside0.mk hbox;clear hg hbox hb;obtain ⟨hz1_1_0,hf1_1_0,hz1_1_1,hf1_1_1⟩ := bx2_ BK1) | ((with_reducible refine gate_dst (N := 5) rfl ?_);refine bX_ 5 (cs := #[.slice A1_0 l1_0.length c1_0,.slice A1_1 l1_1.length c1_1,.slice A1_2 l1_2.length c1_2,.slice A1_3 l1_3.length c1_3]) (t := 84) ?_;intro gb2 hg w2 hbox hb;have HN2 : Aside0 (gb1 + 1 ≤ gb2) := ⟨by rw [hg];exact (blk_lt BK1.out)⟩;replace HQ := aq_ HQ HN2;replace BK1 := bkb_ BK1 hb;replace HB := Aside0.mk (below_step HB.out hb);have BK2 := Aside0.mk hbox;clear hg hbox hb;(try clear hz1_1_0 hf1_1_0 hz1_1_1 hf1_1_1);obtain ⟨hz2_1_0,hf2_1_0,hz2_1_1,hf2_1_1⟩ := bx2_ BK1;obtain ⟨hz2_2_0,hf2_2_0,hz2_2_1,hf2_2_1,hz2_2_2,hf2_2_2,hz2_2_3,hf2_2_3⟩ := bx4_ BK2) | ((with_reducible refine gate_dst (N := 6) rfl ?_);refine bX_ 6 (cs := #[.slice A2_0 l2_0.length c2_0,.slice A2_1 l2_1.length c2_1,.slice A2_2 l2_2.length c2_2]) (t := 72) ?_;intro gb3 hg w3 hbox hb;have HN3 : Aside0 (gb2 + 1 ≤ gb3) := ⟨by rw [hg];exact (blk_lt BK2.out)⟩;replace HQ := aq_ HQ HN3;replace BK1 := bkb_ BK1 hb;replace BK2 := bkb_ BK2 hb;replace HB := Aside0.mk (below_step HB.out hb);have BK3 := Aside0.mk hbox;clear hg hbox hb;(try clear hz2_1_0 hf2_1_0 hz2_1_1 hf2_1_1);(try clear hz2_2_0 hf2_2_0 hz2_2_1 hf2_2_1 hz2_2_2 hf2_2_2 hz2_2_3 hf2_2_3);obtain ⟨hz3_1_0,hf3_1_0,hz3_1_1,hf3_1_1⟩ := bx2_ BK1;obtain ⟨hz3_2_0,hf3_2_0,hz3_2_1,hf3_2_1,hz3_2_2,hf3_2_2,hz3_2_3,hf3_2_3⟩ := bx4_ BK2;obtain ⟨hz3_3_0,hf3_3_0,hz3_3_1,hf3_3_1,hz3_3_2,hf3_3_2⟩ := bx3_ BK3) | ((with_reducible refine gate_callee (f := 15) rfl ?_);refine gL_ (some 17) Try.func15 #[.agg #[.slice A0_0 l0_0.length c0_0,.slice A0_1 l0_1.length c0_1],.int .i64 1048576] ?_;(with_reducible refine (laws_szProg.calls k _ _ l0_0 _ _ l0_1 1048576 t1 _ ?side1 ?side2 ?side3 ?side4 A4.out).mono ?_);(case side1 => exact Kd.C_below HR0_0.out HB.out);(case side2 => exact HC0_0.out);(case side3 => exact Kd.C_below HR0_1.out HB.out);(case side4 => exact HC0_1.out);rintro e w4 ⟨rfl,hb⟩;refine ⟨_,rfl,?_⟩;replace BK1 := bkb_ BK1 hb;replace BK2 := bkb_ BK2 hb;replace BK3 := bkb_ BK3 hb;replace HB := Aside0.mk (below_step HB.out hb);clear hb;(try clear hz3_1_0 hf3_1_0 hz3_1_1 hf3_1_1);(try clear hz3_2_0 hf3_2_0 hz3_2_1 hf3_2_1 hz3_2_2 hf3_2_2 hz3_2_3 hf3_2_3);(try clear hz3_3_0 hf3_3_0 hz3_3_1 hf3_3_1 hz3_3_2 hf3_3_2);obtain ⟨hz4_1_0,hf4_1_0,hz4_1_1,hf4_1_1⟩ := bx2_ BK1;obtain ⟨hz4_2_0,hf4_2_0,hz4_2_1,hf4_2_1,hz4_2_2,hf4_2_2,hz4_2_3,hf4_2_3⟩ := bx4_ BK2;obtain ⟨hz4_3_0,hf4_3_0,hz4_3_1,hf4_3_1,hz4_3_2,hf4_3_2⟩ := bx3_ BK3))
 go_ret
 exact ⟨rfl,HB.out⟩
set_option maxHeartbeats 16000000 in
set_option maxRecDepth 100000 in
theorem FnExactChanSame_exit1 (k : Nat) (A0_0 : Option Addr) (c0_0 : Nat) (l0_0 : List Int) (A0_1 : Option Addr) (c0_1 : Nat) (l0_1 : List (List (S208))) (A1_0 : Option Addr) (c1_0 : Nat) (l1_0 : List (List (S177))) (A1_1 : Option Addr) (c1_1 : Nat) (l1_1 : List (S194)) (A1_2 : Option Addr) (c1_2 : Nat) (l1_2 : List (List (S238))) (A1_3 : Option Addr) (c1_3 : Nat) (l1_3 : List (S190)) (A2_0 : Option Addr) (c2_0 : Nat) (l2_0 : List (S184)) (A2_1 : Option Addr) (c2_1 : Nat) (l2_1 : List (S186)) (A2_2 : Option Addr) (c2_2 : Nat) (l2_2 : List (S190)) (a3 : Int) (t1 : Int) (t2 : Int) (w : World) (hr0_0 : Kd.C (Kd.int .i64) w A0_0 l0_0.length l0_0) (hc0_0 : l0_0.length ≤ c0_0) (hr0_1 : Kd.C (Kd.slice 208 k208) w A0_1 l0_1.length l0_1) (hc0_1 : l0_1.length ≤ c0_1) (hr1_0 : Kd.C (Kd.slice 177 k177) w A1_0 l1_0.length l1_0) (hc1_0 : l1_0.length ≤ c1_0) (hr1_1 : Kd.C k194 w A1_1 l1_1.length l1_1) (hc1_1 : l1_1.length ≤ c1_1) (hr1_2 : Kd.C (Kd.slice 238 k238) w A1_2 l1_2.length l1_2) (hc1_2 : l1_2.length ≤ c1_2) (hr1_3 : Kd.C k190 w A1_3 l1_3.length l1_3) (hc1_3 : l1_3.length ≤ c1_3) (hr2_0 : Kd.C k184 w A2_0 l2_0.length l2_0) (hc2_0 : l2_0.length ≤ c2_0) (hr2_1 : Kd.C k186 w A2_1 l2_1.length l2_1) (hc2_1 : l2_1.length ≤ c2_1) (hr2_2 : Kd.C k190 w A2_2 l2_2.length l2_2) (hc2_2 : l2_2.length ≤ c2_2) (pA4 : laws_szProg.f k l0_0 l0_1 1048576 = some t1) (hq0 : ¬ (t1 < 0)) (pA5 : laws_szMachine.f k l1_0 l1_1 l1_2 l1_3 t1 = some t2) (hq1 : (t2 < 0)) :
  Calls Try.prog 8 #[.agg #[.slice A0_0 l0_0.length c0_0,.slice A0_1 l0_1.length c0_1],.agg #[.slice A1_0 l1_0.length c1_0,.slice A1_1 l1_1.length c1_1,.slice A1_2 l1_2.length c1_2,.slice A1_3 l1_3.length c1_3],.agg #[.slice A2_0 l2_0.length c2_0,.slice A2_1 l2_1.length c2_1,.slice A2_2 l2_2.length c2_2],.int .i64 a3] w fun e w' => e = .returned (.bool true) ∧ Below w.heap.size w w' := by
 have HR0_0 := Aside0.mk hr0_0
 have HC0_0 := Aside0.mk hc0_0
 clear hr0_0 hc0_0
 have HR0_1 := Aside0.mk hr0_1
 have HC0_1 := Aside0.mk hc0_1
 clear hr0_1 hc0_1
 have HR1_0 := Aside0.mk hr1_0
 have HC1_0 := Aside0.mk hc1_0
 clear hr1_0 hc1_0
 have HR1_1 := Aside0.mk hr1_1
 have HC1_1 := Aside0.mk hc1_1
 clear hr1_1 hc1_1
 have HR1_2 := Aside0.mk hr1_2
 have HC1_2 := Aside0.mk hc1_2
 clear hr1_2 hc1_2
 have HR1_3 := Aside0.mk hr1_3
 have HC1_3 := Aside0.mk hc1_3
 clear hr1_3 hc1_3
 have HR2_0 := Aside0.mk hr2_0
 have HC2_0 := Aside0.mk hc2_0
 clear hr2_0 hc2_0
 have HR2_1 := Aside0.mk hr2_1
 have HC2_1 := Aside0.mk hc2_1
 clear hr2_1 hc2_1
 have HR2_2 := Aside0.mk hr2_2
 have HC2_2 := Aside0.mk hc2_2
 clear hr2_2 hc2_2
 have A4 := Aside0.mk pA4
 clear pA4
 have A5 := Aside0.mk pA5
 clear pA5
 have hq0b : decide (t1 < 0) = false := decide_eq_false hq0
 have hq1b : decide (t2 < 0) = true := decide_eq_true hq1
 have hu38 := Try.underlying38
 have hu72 := Try.underlying72
 have hu84 := Try.underlying84
 have HB := Aside0.mk (Below.refl w.heap.size w)
 have HQ : Aside0 True := ⟨trivial⟩
 go_enter Try.func8,Try.ntmps8
 go_wp2_with (first | ((with_reducible refine gate_dst (N := 4) rfl ?_);refine bX_ 4 (cs := #[.slice A0_0 l0_0.length c0_0,.slice A0_1 l0_1.length c0_1]) (t := 38) ?_;intro gb1 hg w1 hbox hb;have HN1 : Aside0 (w.heap.size ≤ gb1) := ⟨by rw [hg];exact HB.out.size⟩;replace HQ := aq_ HQ HN1;replace HB := Aside0.mk (below_step HB.out hb);have BK1 := Aside0.mk hbox;clear hg hbox hb;obtain ⟨hz1_1_0,hf1_1_0,hz1_1_1,hf1_1_1⟩ := bx2_ BK1) | ((with_reducible refine gate_dst (N := 5) rfl ?_);refine bX_ 5 (cs := #[.slice A1_0 l1_0.length c1_0,.slice A1_1 l1_1.length c1_1,.slice A1_2 l1_2.length c1_2,.slice A1_3 l1_3.length c1_3]) (t := 84) ?_;intro gb2 hg w2 hbox hb;have HN2 : Aside0 (gb1 + 1 ≤ gb2) := ⟨by rw [hg];exact (blk_lt BK1.out)⟩;replace HQ := aq_ HQ HN2;replace BK1 := bkb_ BK1 hb;replace HB := Aside0.mk (below_step HB.out hb);have BK2 := Aside0.mk hbox;clear hg hbox hb;(try clear hz1_1_0 hf1_1_0 hz1_1_1 hf1_1_1);obtain ⟨hz2_1_0,hf2_1_0,hz2_1_1,hf2_1_1⟩ := bx2_ BK1;obtain ⟨hz2_2_0,hf2_2_0,hz2_2_1,hf2_2_1,hz2_2_2,hf2_2_2,hz2_2_3,hf2_2_3⟩ := bx4_ BK2) | ((with_reducible refine gate_dst (N := 6) rfl ?_);refine bX_ 6 (cs := #[.slice A2_0 l2_0.length c2_0,.slice A2_1 l2_1.length c2_1,.slice A2_2 l2_2.length c2_2]) (t := 72) ?_;intro gb3 hg w3 hbox hb;have HN3 : Aside0 (gb2 + 1 ≤ gb3) := ⟨by rw [hg];exact (blk_lt BK2.out)⟩;replace HQ := aq_ HQ HN3;replace BK1 := bkb_ BK1 hb;replace BK2 := bkb_ BK2 hb;replace HB := Aside0.mk (below_step HB.out hb);have BK3 := Aside0.mk hbox;clear hg hbox hb;(try clear hz2_1_0 hf2_1_0 hz2_1_1 hf2_1_1);(try clear hz2_2_0 hf2_2_0 hz2_2_1 hf2_2_1 hz2_2_2 hf2_2_2 hz2_2_3 hf2_2_3);obtain ⟨hz3_1_0,hf3_1_0,hz3_1_1,hf3_1_1⟩ := bx2_ BK1;obtain ⟨hz3_2_0,hf3_2_0,hz3_2_1,hf3_2_1,hz3_2_2,hf3_2_2,hz3_2_3,hf3_2_3⟩ := bx4_ BK2;obtain ⟨hz3_3_0,hf3_3_0,hz3_3_1,hf3_3_1,hz3_3_2,hf3_3_2⟩ := bx3_ BK3) | ((with_reducible refine gate_callee (f := 15) rfl ?_);refine gL_ (some 17) Try.func15 #[.agg #[.slice A0_0 l0_0.length c0_0,.slice A0_1 l0_1.length c0_1],.int .i64 1048576] ?_;(with_reducible refine (laws_szProg.calls k _ _ l0_0 _ _ l0_1 1048576 t1 _ ?side1 ?side2 ?side3 ?side4 A4.out).mono ?_);(case side1 => exact Kd.C_below HR0_0.out HB.out);(case side2 => exact HC0_0.out);(case side3 => exact Kd.C_below HR0_1.out HB.out);(case side4 => exact HC0_1.out);rintro e w4 ⟨rfl,hb⟩;refine ⟨_,rfl,?_⟩;replace BK1 := bkb_ BK1 hb;replace BK2 := bkb_ BK2 hb;replace BK3 := bkb_ BK3 hb;replace HB := Aside0.mk (below_step HB.out hb);clear hb;(try clear hz3_1_0 hf3_1_0 hz3_1_1 hf3_1_1);(try clear hz3_2_0 hf3_2_0 hz3_2_1 hf3_2_1 hz3_2_2 hf3_2_2 hz3_2_3 hf3_2_3);(try clear hz3_3_0 hf3_3_0 hz3_3_1 hf3_3_1 hz3_3_2 hf3_3_2);obtain ⟨hz4_1_0,hf4_1_0,hz4_1_1,hf4_1_1⟩ := bx2_ BK1;obtain ⟨hz4_2_0,hf4_2_0,hz4_2_1,hf4_2_1,hz4_2_2,hf4_2_2,hz4_2_3,hf4_2_3⟩ := bx4_ BK2;obtain ⟨hz4_3_0,hf4_3_0,hz4_3_1,hf4_3_1,hz4_3_2,hf4_3_2⟩ := bx3_ BK3) | ((with_reducible refine gate_callee (f := 42) rfl ?_);refine gL_ (some 22) Try.func42 #[.agg #[.slice A1_0 l1_0.length c1_0,.slice A1_1 l1_1.length c1_1,.slice A1_2 l1_2.length c1_2,.slice A1_3 l1_3.length c1_3],.int .i64 t1] ?_;(with_reducible refine (laws_szMachine.calls k _ _ l1_0 _ _ l1_1 _ _ l1_2 _ _ l1_3 t1 t2 _ ?side1 ?side2 ?side3 ?side4 ?side5 ?side6 ?side7 ?side8 A5.out).mono ?_);(case side1 => exact Kd.C_below HR1_0.out HB.out);(case side2 => exact HC1_0.out);(case side3 => exact Kd.C_below HR1_1.out HB.out);(case side4 => exact HC1_1.out);(case side5 => exact Kd.C_below HR1_2.out HB.out);(case side6 => exact HC1_2.out);(case side7 => exact Kd.C_below HR1_3.out HB.out);(case side8 => exact HC1_3.out);rintro e w5 ⟨rfl,hb⟩;refine ⟨_,rfl,?_⟩;replace BK1 := bkb_ BK1 hb;replace BK2 := bkb_ BK2 hb;replace BK3 := bkb_ BK3 hb;replace HB := Aside0.mk (below_step HB.out hb);clear hb;(try clear hz4_1_0 hf4_1_0 hz4_1_1 hf4_1_1);(try clear hz4_2_0 hf4_2_0 hz4_2_1 hf4_2_1 hz4_2_2 hf4_2_2 hz4_2_3 hf4_2_3);(try clear hz4_3_0 hf4_3_0 hz4_3_1 hf4_3_1 hz4_3_2 hf4_3_2);obtain ⟨hz5_1_0,hf5_1_0,hz5_1_1,hf5_1_1⟩ := bx2_ BK1;obtain ⟨hz5_2_0,hf5_2_0,hz5_2_1,hf5_2_1,hz5_2_2,hf5_2_2,hz5_2_3,hf5_2_3⟩ := bx4_ BK2;obtain ⟨hz5_3_0,hf5_3_0,hz5_3_1,hf5_3_1,hz5_3_2,hf5_3_2⟩ := bx3_ BK3))
 go_ret
 exact ⟨rfl,HB.out⟩
set_option maxHeartbeats 16000000 in
set_option maxRecDepth 100000 in
theorem FnExactChanSame_exit2 (k : Nat) (A0_0 : Option Addr) (c0_0 : Nat) (l0_0 : List Int) (A0_1 : Option Addr) (c0_1 : Nat) (l0_1 : List (List (S208))) (A1_0 : Option Addr) (c1_0 : Nat) (l1_0 : List (List (S177))) (A1_1 : Option Addr) (c1_1 : Nat) (l1_1 : List (S194)) (A1_2 : Option Addr) (c1_2 : Nat) (l1_2 : List (List (S238))) (A1_3 : Option Addr) (c1_3 : Nat) (l1_3 : List (S190)) (A2_0 : Option Addr) (c2_0 : Nat) (l2_0 : List (S184)) (A2_1 : Option Addr) (c2_1 : Nat) (l2_1 : List (S186)) (A2_2 : Option Addr) (c2_2 : Nat) (l2_2 : List (S190)) (a3 : Int) (t1 : Int) (t2 : Int) (t3 : Int) (w : World) (hr0_0 : Kd.C (Kd.int .i64) w A0_0 l0_0.length l0_0) (hc0_0 : l0_0.length ≤ c0_0) (hr0_1 : Kd.C (Kd.slice 208 k208) w A0_1 l0_1.length l0_1) (hc0_1 : l0_1.length ≤ c0_1) (hr1_0 : Kd.C (Kd.slice 177 k177) w A1_0 l1_0.length l1_0) (hc1_0 : l1_0.length ≤ c1_0) (hr1_1 : Kd.C k194 w A1_1 l1_1.length l1_1) (hc1_1 : l1_1.length ≤ c1_1) (hr1_2 : Kd.C (Kd.slice 238 k238) w A1_2 l1_2.length l1_2) (hc1_2 : l1_2.length ≤ c1_2) (hr1_3 : Kd.C k190 w A1_3 l1_3.length l1_3) (hc1_3 : l1_3.length ≤ c1_3) (hr2_0 : Kd.C k184 w A2_0 l2_0.length l2_0) (hc2_0 : l2_0.length ≤ c2_0) (hr2_1 : Kd.C k186 w A2_1 l2_1.length l2_1) (hc2_1 : l2_1.length ≤ c2_1) (hr2_2 : Kd.C k190 w A2_2 l2_2.length l2_2) (hc2_2 : l2_2.length ≤ c2_2) (pA4 : laws_szProg.f k l0_0 l0_1 1048576 = some t1) (hq0 : ¬ (t1 < 0)) (pA5 : laws_szMachine.f k l1_0 l1_1 l1_2 l1_3 t1 = some t2) (hq1 : ¬ (t2 < 0)) (pA6 : laws_szSource.f k l2_0 l2_1 l2_2 t2 = some t3) (hq2 : (t3 < 0)) :
  Calls Try.prog 8 #[.agg #[.slice A0_0 l0_0.length c0_0,.slice A0_1 l0_1.length c0_1],.agg #[.slice A1_0 l1_0.length c1_0,.slice A1_1 l1_1.length c1_1,.slice A1_2 l1_2.length c1_2,.slice A1_3 l1_3.length c1_3],.agg #[.slice A2_0 l2_0.length c2_0,.slice A2_1 l2_1.length c2_1,.slice A2_2 l2_2.length c2_2],.int .i64 a3] w fun e w' => e = .returned (.bool true) ∧ Below w.heap.size w w' := by
 have HR0_0 := Aside0.mk hr0_0
 have HC0_0 := Aside0.mk hc0_0
 clear hr0_0 hc0_0
 have HR0_1 := Aside0.mk hr0_1
 have HC0_1 := Aside0.mk hc0_1
 clear hr0_1 hc0_1
 have HR1_0 := Aside0.mk hr1_0
 have HC1_0 := Aside0.mk hc1_0
 clear hr1_0 hc1_0
 have HR1_1 := Aside0.mk hr1_1
 have HC1_1 := Aside0.mk hc1_1
 clear hr1_1 hc1_1
 have HR1_2 := Aside0.mk hr1_2
 have HC1_2 := Aside0.mk hc1_2
 clear hr1_2 hc1_2
 have HR1_3 := Aside0.mk hr1_3
 have HC1_3 := Aside0.mk hc1_3
 clear hr1_3 hc1_3
 have HR2_0 := Aside0.mk hr2_0
 have HC2_0 := Aside0.mk hc2_0
 clear hr2_0 hc2_0
 have HR2_1 := Aside0.mk hr2_1
 have HC2_1 := Aside0.mk hc2_1
 clear hr2_1 hc2_1
 have HR2_2 := Aside0.mk hr2_2
 have HC2_2 := Aside0.mk hc2_2
 clear hr2_2 hc2_2
 have A4 := Aside0.mk pA4
 clear pA4
 have A5 := Aside0.mk pA5
 clear pA5
 have A6 := Aside0.mk pA6
 clear pA6
 have hq0b : decide (t1 < 0) = false := decide_eq_false hq0
 have hq1b : decide (t2 < 0) = false := decide_eq_false hq1
 have hq2b : decide (t3 < 0) = true := decide_eq_true hq2
 have hu38 := Try.underlying38
 have hu72 := Try.underlying72
 have hu84 := Try.underlying84
 have HB := Aside0.mk (Below.refl w.heap.size w)
 have HQ : Aside0 True := ⟨trivial⟩
 go_enter Try.func8,Try.ntmps8
 go_wp2_with (first | ((with_reducible refine gate_dst (N := 4) rfl ?_);refine bX_ 4 (cs := #[.slice A0_0 l0_0.length c0_0,.slice A0_1 l0_1.length c0_1]) (t := 38) ?_;intro gb1 hg w1 hbox hb;have HN1 : Aside0 (w.heap.size ≤ gb1) := ⟨by rw [hg];exact HB.out.size⟩;replace HQ := aq_ HQ HN1;replace HB := Aside0.mk (below_step HB.out hb);have BK1 := Aside0.mk hbox;clear hg hbox hb;obtain ⟨hz1_1_0,hf1_1_0,hz1_1_1,hf1_1_1⟩ := bx2_ BK1) | ((with_reducible refine gate_dst (N := 5) rfl ?_);refine bX_ 5 (cs := #[.slice A1_0 l1_0.length c1_0,.slice A1_1 l1_1.length c1_1,.slice A1_2 l1_2.length c1_2,.slice A1_3 l1_3.length c1_3]) (t := 84) ?_;intro gb2 hg w2 hbox hb;have HN2 : Aside0 (gb1 + 1 ≤ gb2) := ⟨by rw [hg];exact (blk_lt BK1.out)⟩;replace HQ := aq_ HQ HN2;replace BK1 := bkb_ BK1 hb;replace HB := Aside0.mk (below_step HB.out hb);have BK2 := Aside0.mk hbox;clear hg hbox hb;(try clear hz1_1_0 hf1_1_0 hz1_1_1 hf1_1_1);obtain ⟨hz2_1_0,hf2_1_0,hz2_1_1,hf2_1_1⟩ := bx2_ BK1;obtain ⟨hz2_2_0,hf2_2_0,hz2_2_1,hf2_2_1,hz2_2_2,hf2_2_2,hz2_2_3,hf2_2_3⟩ := bx4_ BK2) | ((with_reducible refine gate_dst (N := 6) rfl ?_);refine bX_ 6 (cs := #[.slice A2_0 l2_0.length c2_0,.slice A2_1 l2_1.length c2_1,.slice A2_2 l2_2.length c2_2]) (t := 72) ?_;intro gb3 hg w3 hbox hb;have HN3 : Aside0 (gb2 + 1 ≤ gb3) := ⟨by rw [hg];exact (blk_lt BK2.out)⟩;replace HQ := aq_ HQ HN3;replace BK1 := bkb_ BK1 hb;replace BK2 := bkb_ BK2 hb;replace HB := Aside0.mk (below_step HB.out hb);have BK3 := Aside0.mk hbox;clear hg hbox hb;(try clear hz2_1_0 hf2_1_0 hz2_1_1 hf2_1_1);(try clear hz2_2_0 hf2_2_0 hz2_2_1 hf2_2_1 hz2_2_2 hf2_2_2 hz2_2_3 hf2_2_3);obtain ⟨hz3_1_0,hf3_1_0,hz3_1_1,hf3_1_1⟩ := bx2_ BK1;obtain ⟨hz3_2_0,hf3_2_0,hz3_2_1,hf3_2_1,hz3_2_2,hf3_2_2,hz3_2_3,hf3_2_3⟩ := bx4_ BK2;obtain ⟨hz3_3_0,hf3_3_0,hz3_3_1,hf3_3_1,hz3_3_2,hf3_3_2⟩ := bx3_ BK3) | ((with_reducible refine gate_callee (f := 15) rfl ?_);refine gL_ (some 17) Try.func15 #[.agg #[.slice A0_0 l0_0.length c0_0,.slice A0_1 l0_1.length c0_1],.int .i64 1048576] ?_;(with_reducible refine (laws_szProg.calls k _ _ l0_0 _ _ l0_1 1048576 t1 _ ?side1 ?side2 ?side3 ?side4 A4.out).mono ?_);(case side1 => exact Kd.C_below HR0_0.out HB.out);(case side2 => exact HC0_0.out);(case side3 => exact Kd.C_below HR0_1.out HB.out);(case side4 => exact HC0_1.out);rintro e w4 ⟨rfl,hb⟩;refine ⟨_,rfl,?_⟩;replace BK1 := bkb_ BK1 hb;replace BK2 := bkb_ BK2 hb;replace BK3 := bkb_ BK3 hb;replace HB := Aside0.mk (below_step HB.out hb);clear hb;(try clear hz3_1_0 hf3_1_0 hz3_1_1 hf3_1_1);(try clear hz3_2_0 hf3_2_0 hz3_2_1 hf3_2_1 hz3_2_2 hf3_2_2 hz3_2_3 hf3_2_3);(try clear hz3_3_0 hf3_3_0 hz3_3_1 hf3_3_1 hz3_3_2 hf3_3_2);obtain ⟨hz4_1_0,hf4_1_0,hz4_1_1,hf4_1_1⟩ := bx2_ BK1;obtain ⟨hz4_2_0,hf4_2_0,hz4_2_1,hf4_2_1,hz4_2_2,hf4_2_2,hz4_2_3,hf4_2_3⟩ := bx4_ BK2;obtain ⟨hz4_3_0,hf4_3_0,hz4_3_1,hf4_3_1,hz4_3_2,hf4_3_2⟩ := bx3_ BK3) | ((with_reducible refine gate_callee (f := 42) rfl ?_);refine gL_ (some 22) Try.func42 #[.agg #[.slice A1_0 l1_0.length c1_0,.slice A1_1 l1_1.length c1_1,.slice A1_2 l1_2.length c1_2,.slice A1_3 l1_3.length c1_3],.int .i64 t1] ?_;(with_reducible refine (laws_szMachine.calls k _ _ l1_0 _ _ l1_1 _ _ l1_2 _ _ l1_3 t1 t2 _ ?side1 ?side2 ?side3 ?side4 ?side5 ?side6 ?side7 ?side8 A5.out).mono ?_);(case side1 => exact Kd.C_below HR1_0.out HB.out);(case side2 => exact HC1_0.out);(case side3 => exact Kd.C_below HR1_1.out HB.out);(case side4 => exact HC1_1.out);(case side5 => exact Kd.C_below HR1_2.out HB.out);(case side6 => exact HC1_2.out);(case side7 => exact Kd.C_below HR1_3.out HB.out);(case side8 => exact HC1_3.out);rintro e w5 ⟨rfl,hb⟩;refine ⟨_,rfl,?_⟩;replace BK1 := bkb_ BK1 hb;replace BK2 := bkb_ BK2 hb;replace BK3 := bkb_ BK3 hb;replace HB := Aside0.mk (below_step HB.out hb);clear hb;(try clear hz4_1_0 hf4_1_0 hz4_1_1 hf4_1_1);(try clear hz4_2_0 hf4_2_0 hz4_2_1 hf4_2_1 hz4_2_2 hf4_2_2 hz4_2_3 hf4_2_3);(try clear hz4_3_0 hf4_3_0 hz4_3_1 hf4_3_1 hz4_3_2 hf4_3_2);obtain ⟨hz5_1_0,hf5_1_0,hz5_1_1,hf5_1_1⟩ := bx2_ BK1;obtain ⟨hz5_2_0,hf5_2_0,hz5_2_1,hf5_2_1,hz5_2_2,hf5_2_2,hz5_2_3,hf5_2_3⟩ := bx4_ BK2;obtain ⟨hz5_3_0,hf5_3_0,hz5_3_1,hf5_3_1,hz5_3_2,hf5_3_2⟩ := bx3_ BK3) | ((with_reducible refine gate_callee (f := 33) rfl ?_);refine gL_ (some 27) Try.func33 #[.agg #[.slice A2_0 l2_0.length c2_0,.slice A2_1 l2_1.length c2_1,.slice A2_2 l2_2.length c2_2],.int .i64 t2] ?_;(with_reducible refine (laws_szSource.calls k _ _ l2_0 _ _ l2_1 _ _ l2_2 t2 t3 _ ?side1 ?side2 ?side3 ?side4 ?side5 ?side6 A6.out).mono ?_);(case side1 => exact Kd.C_below HR2_0.out HB.out);(case side2 => exact HC2_0.out);(case side3 => exact Kd.C_below HR2_1.out HB.out);(case side4 => exact HC2_1.out);(case side5 => exact Kd.C_below HR2_2.out HB.out);(case side6 => exact HC2_2.out);rintro e w6 ⟨rfl,hb⟩;refine ⟨_,rfl,?_⟩;replace BK1 := bkb_ BK1 hb;replace BK2 := bkb_ BK2 hb;replace BK3 := bkb_ BK3 hb;replace HB := Aside0.mk (below_step HB.out hb);clear hb;(try clear hz5_1_0 hf5_1_0 hz5_1_1 hf5_1_1);(try clear hz5_2_0 hf5_2_0 hz5_2_1 hf5_2_1 hz5_2_2 hf5_2_2 hz5_2_3 hf5_2_3);(try clear hz5_3_0 hf5_3_0 hz5_3_1 hf5_3_1 hz5_3_2 hf5_3_2);obtain ⟨hz6_1_0,hf6_1_0,hz6_1_1,hf6_1_1⟩ := bx2_ BK1;obtain ⟨hz6_2_0,hf6_2_0,hz6_2_1,hf6_2_1,hz6_2_2,hf6_2_2,hz6_2_3,hf6_2_3⟩ := bx4_ BK2;obtain ⟨hz6_3_0,hf6_3_0,hz6_3_1,hf6_3_1,hz6_3_2,hf6_3_2⟩ := bx3_ BK3))
 go_ret
 exact ⟨rfl,HB.out⟩
set_option maxHeartbeats 16000000 in
set_option maxRecDepth 100000 in
theorem FnExactChanSame_main (k : Nat) (A0_0 : Option Addr) (c0_0 : Nat) (l0_0 : List Int) (A0_1 : Option Addr) (c0_1 : Nat) (l0_1 : List (List (S208))) (A1_0 : Option Addr) (c1_0 : Nat) (l1_0 : List (List (S177))) (A1_1 : Option Addr) (c1_1 : Nat) (l1_1 : List (S194)) (A1_2 : Option Addr) (c1_2 : Nat) (l1_2 : List (List (S238))) (A1_3 : Option Addr) (c1_3 : Nat) (l1_3 : List (S190)) (A2_0 : Option Addr) (c2_0 : Nat) (l2_0 : List (S184)) (A2_1 : Option Addr) (c2_1 : Nat) (l2_1 : List (S186)) (A2_2 : Option Addr) (c2_2 : Nat) (l2_2 : List (S190)) (a3 : Int) (t1 : Int) (t2 : Int) (t3 : Int) (t4 : List Int) (t5 : List (List (S192))) (t6 : List (List (S175))) (t7 : List (S123)) (t8 : List (List (S170))) (t9 : List (S35)) (t10 : List (S107)) (t11 : List (S94)) (t12 : List (S35)) (t13 : Bool) (t14 : List Int) (t15 : List (List (S192))) (t16 : List (List (S175))) (t17 : List (S123)) (t18 : List (List (S170))) (t19 : List (S35)) (t20 : List (S107)) (t21 : List (S94)) (t22 : List (S35)) (t24 : List Int) (t25 : List (List (S192))) (t26 : List (List (S175))) (t27 : List (S123)) (t28 : List (List (S170))) (t29 : List (S35)) (t30 : List (S107)) (t31 : List (S94)) (t32 : List (S35)) (w : World) (hr0_0 : Kd.C (Kd.int .i64) w A0_0 l0_0.length l0_0) (hc0_0 : l0_0.length ≤ c0_0) (hr0_1 : Kd.C (Kd.slice 208 k208) w A0_1 l0_1.length l0_1) (hc0_1 : l0_1.length ≤ c0_1) (hr1_0 : Kd.C (Kd.slice 177 k177) w A1_0 l1_0.length l1_0) (hc1_0 : l1_0.length ≤ c1_0) (hr1_1 : Kd.C k194 w A1_1 l1_1.length l1_1) (hc1_1 : l1_1.length ≤ c1_1) (hr1_2 : Kd.C (Kd.slice 238 k238) w A1_2 l1_2.length l1_2) (hc1_2 : l1_2.length ≤ c1_2) (hr1_3 : Kd.C k190 w A1_3 l1_3.length l1_3) (hc1_3 : l1_3.length ≤ c1_3) (hr2_0 : Kd.C k184 w A2_0 l2_0.length l2_0) (hc2_0 : l2_0.length ≤ c2_0) (hr2_1 : Kd.C k186 w A2_1 l2_1.length l2_1) (hc2_1 : l2_1.length ≤ c2_1) (hr2_2 : Kd.C k190 w A2_2 l2_2.length l2_2) (hc2_2 : l2_2.length ≤ c2_2) (pA4 : laws_szProg.f k l0_0 l0_1 1048576 = some t1) (hq0 : ¬ (t1 < 0)) (pA5 : laws_szMachine.f k l1_0 l1_1 l1_2 l1_3 t1 = some t2) (hq1 : ¬ (t2 < 0)) (pA6 : laws_szSource.f k l2_0 l2_1 l2_2 t2 = some t3) (hq2 : ¬ (t3 < 0)) (pA8 : laws_toProg.f k l0_0 l0_1 = some (t4,t5)) (pA9 : laws_toMachine.f k l1_0 l1_1 l1_2 l1_3 = some (t6,t7,t8,t9)) (pA10 : laws_toSource.f k l2_0 l2_1 l2_2 = some (t10,t11,t12)) (pA11 : spec_ChanSame.f k t4 t5 t6 t7 t8 t9 t10 t11 t12 a3 = some t13) (pA12 : laws_toProg.f k l0_0 l0_1 = some (t14,t15)) (pA15 : laws_toMachine.f k l1_0 l1_1 l1_2 l1_3 = some (t16,t17,t18,t19)) (pA18 : laws_toSource.f k l2_0 l2_1 l2_2 = some (t20,t21,t22)) (pA21 : impl_ChanSame.f k t14 t15 t16 t17 t18 t19 t20 t21 t22 a3 = some t13) (pA23 : laws_toProg.f k l0_0 l0_1 = some (t24,t25)) (pA24 : laws_eqProg.f k t14 t15 t24 t25 = some true) (pA26 : laws_toMachine.f k l1_0 l1_1 l1_2 l1_3 = some (t26,t27,t28,t29)) (pA27 : laws_eqMachine.f k t16 t17 t18 t19 t26 t27 t28 t29 = some true) (pA29 : laws_toSource.f k l2_0 l2_1 l2_2 = some (t30,t31,t32)) (pA30 : laws_eqSource.f k t20 t21 t22 t30 t31 t32 = some true) :
  Calls Try.prog 8 #[.agg #[.slice A0_0 l0_0.length c0_0,.slice A0_1 l0_1.length c0_1],.agg #[.slice A1_0 l1_0.length c1_0,.slice A1_1 l1_1.length c1_1,.slice A1_2 l1_2.length c1_2,.slice A1_3 l1_3.length c1_3],.agg #[.slice A2_0 l2_0.length c2_0,.slice A2_1 l2_1.length c2_1,.slice A2_2 l2_2.length c2_2],.int .i64 a3] w fun e w' => e = .returned (.bool true) ∧ Below w.heap.size w w' := by
 have HR0_0 := Aside0.mk hr0_0
 have HC0_0 := Aside0.mk hc0_0
 clear hr0_0 hc0_0
 have HR0_1 := Aside0.mk hr0_1
 have HC0_1 := Aside0.mk hc0_1
 clear hr0_1 hc0_1
 have HR1_0 := Aside0.mk hr1_0
 have HC1_0 := Aside0.mk hc1_0
 clear hr1_0 hc1_0
 have HR1_1 := Aside0.mk hr1_1
 have HC1_1 := Aside0.mk hc1_1
 clear hr1_1 hc1_1
 have HR1_2 := Aside0.mk hr1_2
 have HC1_2 := Aside0.mk hc1_2
 clear hr1_2 hc1_2
 have HR1_3 := Aside0.mk hr1_3
 have HC1_3 := Aside0.mk hc1_3
 clear hr1_3 hc1_3
 have HR2_0 := Aside0.mk hr2_0
 have HC2_0 := Aside0.mk hc2_0
 clear hr2_0 hc2_0
 have HR2_1 := Aside0.mk hr2_1
 have HC2_1 := Aside0.mk hc2_1
 clear hr2_1 hc2_1
 have HR2_2 := Aside0.mk hr2_2
 have HC2_2 := Aside0.mk hc2_2
 clear hr2_2 hc2_2
 have A4 := Aside0.mk pA4
 clear pA4
 have A5 := Aside0.mk pA5
 clear pA5
 have A6 := Aside0.mk pA6
 clear pA6
 have A8 := Aside0.mk pA8
 clear pA8
 have A9 := Aside0.mk pA9
 clear pA9
 have A10 := Aside0.mk pA10
 clear pA10
 have A11 := Aside0.mk pA11
 clear pA11
 have A12 := Aside0.mk pA12
 clear pA12
 have A15 := Aside0.mk pA15
 clear pA15
 have A18 := Aside0.mk pA18
 clear pA18
 have A21 := Aside0.mk pA21
 clear pA21
 have A23 := Aside0.mk pA23
 clear pA23
 have A24 := Aside0.mk pA24
 clear pA24
 have A26 := Aside0.mk pA26
 clear pA26
 have A27 := Aside0.mk pA27
 clear pA27
 have A29 := Aside0.mk pA29
 clear pA29
 have A30 := Aside0.mk pA30
 clear pA30
 have hq0b : decide (t1 < 0) = false := decide_eq_false hq0
 have hq1b : decide (t2 < 0) = false := decide_eq_false hq1
 have hq2b : decide (t3 < 0) = false := decide_eq_false hq2
 have hu28 := Try.underlying28
 have hu38 := Try.underlying38
 have hu44 := Try.underlying44
 have hu59 := Try.underlying59
 have hu72 := Try.underlying72
 have hu84 := Try.underlying84
 have HB := Aside0.mk (Below.refl w.heap.size w)
 have HQ : Aside0 True := ⟨trivial⟩
 go_enter Try.func8,Try.ntmps8
 go_wp2_with (first | ((with_reducible refine gate_dst (N := 4) rfl ?_);refine bX_ 4 (cs := #[.slice A0_0 l0_0.length c0_0,.slice A0_1 l0_1.length c0_1]) (t := 38) ?_;intro gb1 hg w1 hbox hb;have HN1 : Aside0 (w.heap.size ≤ gb1) := ⟨by rw [hg];exact HB.out.size⟩;replace HQ := aq_ HQ HN1;replace HB := Aside0.mk (below_step HB.out hb);have BK1 := Aside0.mk hbox;clear hg hbox hb;obtain ⟨hz1_1_0,hf1_1_0,hz1_1_1,hf1_1_1⟩ := bx2_ BK1) | ((with_reducible refine gate_dst (N := 5) rfl ?_);refine bX_ 5 (cs := #[.slice A1_0 l1_0.length c1_0,.slice A1_1 l1_1.length c1_1,.slice A1_2 l1_2.length c1_2,.slice A1_3 l1_3.length c1_3]) (t := 84) ?_;intro gb2 hg w2 hbox hb;have HN2 : Aside0 (gb1 + 1 ≤ gb2) := ⟨by rw [hg];exact (blk_lt BK1.out)⟩;replace HQ := aq_ HQ HN2;replace BK1 := bkb_ BK1 hb;replace HB := Aside0.mk (below_step HB.out hb);have BK2 := Aside0.mk hbox;clear hg hbox hb;(try clear hz1_1_0 hf1_1_0 hz1_1_1 hf1_1_1);obtain ⟨hz2_1_0,hf2_1_0,hz2_1_1,hf2_1_1⟩ := bx2_ BK1;obtain ⟨hz2_2_0,hf2_2_0,hz2_2_1,hf2_2_1,hz2_2_2,hf2_2_2,hz2_2_3,hf2_2_3⟩ := bx4_ BK2) | ((with_reducible refine gate_dst (N := 6) rfl ?_);refine bX_ 6 (cs := #[.slice A2_0 l2_0.length c2_0,.slice A2_1 l2_1.length c2_1,.slice A2_2 l2_2.length c2_2]) (t := 72) ?_;intro gb3 hg w3 hbox hb;have HN3 : Aside0 (gb2 + 1 ≤ gb3) := ⟨by rw [hg];exact (blk_lt BK2.out)⟩;replace HQ := aq_ HQ HN3;replace BK1 := bkb_ BK1 hb;replace BK2 := bkb_ BK2 hb;replace HB := Aside0.mk (below_step HB.out hb);have BK3 := Aside0.mk hbox;clear hg hbox hb;(try clear hz2_1_0 hf2_1_0 hz2_1_1 hf2_1_1);(try clear hz2_2_0 hf2_2_0 hz2_2_1 hf2_2_1 hz2_2_2 hf2_2_2 hz2_2_3 hf2_2_3);obtain ⟨hz3_1_0,hf3_1_0,hz3_1_1,hf3_1_1⟩ := bx2_ BK1;obtain ⟨hz3_2_0,hf3_2_0,hz3_2_1,hf3_2_1,hz3_2_2,hf3_2_2,hz3_2_3,hf3_2_3⟩ := bx4_ BK2;obtain ⟨hz3_3_0,hf3_3_0,hz3_3_1,hf3_3_1,hz3_3_2,hf3_3_2⟩ := bx3_ BK3) | ((with_reducible refine gate_callee (f := 15) rfl ?_);refine gL_ (some 17) Try.func15 #[.agg #[.slice A0_0 l0_0.length c0_0,.slice A0_1 l0_1.length c0_1],.int .i64 1048576] ?_;(with_reducible refine (laws_szProg.calls k _ _ l0_0 _ _ l0_1 1048576 t1 _ ?side1 ?side2 ?side3 ?side4 A4.out).mono ?_);(case side1 => exact Kd.C_below HR0_0.out HB.out);(case side2 => exact HC0_0.out);(case side3 => exact Kd.C_below HR0_1.out HB.out);(case side4 => exact HC0_1.out);rintro e w4 ⟨rfl,hb⟩;refine ⟨_,rfl,?_⟩;replace BK1 := bkb_ BK1 hb;replace BK2 := bkb_ BK2 hb;replace BK3 := bkb_ BK3 hb;replace HB := Aside0.mk (below_step HB.out hb);clear hb;(try clear hz3_1_0 hf3_1_0 hz3_1_1 hf3_1_1);(try clear hz3_2_0 hf3_2_0 hz3_2_1 hf3_2_1 hz3_2_2 hf3_2_2 hz3_2_3 hf3_2_3);(try clear hz3_3_0 hf3_3_0 hz3_3_1 hf3_3_1 hz3_3_2 hf3_3_2);obtain ⟨hz4_1_0,hf4_1_0,hz4_1_1,hf4_1_1⟩ := bx2_ BK1;obtain ⟨hz4_2_0,hf4_2_0,hz4_2_1,hf4_2_1,hz4_2_2,hf4_2_2,hz4_2_3,hf4_2_3⟩ := bx4_ BK2;obtain ⟨hz4_3_0,hf4_3_0,hz4_3_1,hf4_3_1,hz4_3_2,hf4_3_2⟩ := bx3_ BK3) | ((with_reducible refine gate_callee (f := 42) rfl ?_);refine gL_ (some 22) Try.func42 #[.agg #[.slice A1_0 l1_0.length c1_0,.slice A1_1 l1_1.length c1_1,.slice A1_2 l1_2.length c1_2,.slice A1_3 l1_3.length c1_3],.int .i64 t1] ?_;(with_reducible refine (laws_szMachine.calls k _ _ l1_0 _ _ l1_1 _ _ l1_2 _ _ l1_3 t1 t2 _ ?side1 ?side2 ?side3 ?side4 ?side5 ?side6 ?side7 ?side8 A5.out).mono ?_);(case side1 => exact Kd.C_below HR1_0.out HB.out);(case side2 => exact HC1_0.out);(case side3 => exact Kd.C_below HR1_1.out HB.out);(case side4 => exact HC1_1.out);(case side5 => exact Kd.C_below HR1_2.out HB.out);(case side6 => exact HC1_2.out);(case side7 => exact Kd.C_below HR1_3.out HB.out);(case side8 => exact HC1_3.out);rintro e w5 ⟨rfl,hb⟩;refine ⟨_,rfl,?_⟩;replace BK1 := bkb_ BK1 hb;replace BK2 := bkb_ BK2 hb;replace BK3 := bkb_ BK3 hb;replace HB := Aside0.mk (below_step HB.out hb);clear hb;(try clear hz4_1_0 hf4_1_0 hz4_1_1 hf4_1_1);(try clear hz4_2_0 hf4_2_0 hz4_2_1 hf4_2_1 hz4_2_2 hf4_2_2 hz4_2_3 hf4_2_3);(try clear hz4_3_0 hf4_3_0 hz4_3_1 hf4_3_1 hz4_3_2 hf4_3_2);obtain ⟨hz5_1_0,hf5_1_0,hz5_1_1,hf5_1_1⟩ := bx2_ BK1;obtain ⟨hz5_2_0,hf5_2_0,hz5_2_1,hf5_2_1,hz5_2_2,hf5_2_2,hz5_2_3,hf5_2_3⟩ := bx4_ BK2;obtain ⟨hz5_3_0,hf5_3_0,hz5_3_1,hf5_3_1,hz5_3_2,hf5_3_2⟩ := bx3_ BK3) | ((with_reducible refine gate_callee (f := 33) rfl ?_);refine gL_ (some 27) Try.func33 #[.agg #[.slice A2_0 l2_0.length c2_0,.slice A2_1 l2_1.length c2_1,.slice A2_2 l2_2.length c2_2],.int .i64 t2] ?_;(with_reducible refine (laws_szSource.calls k _ _ l2_0 _ _ l2_1 _ _ l2_2 t2 t3 _ ?side1 ?side2 ?side3 ?side4 ?side5 ?side6 A6.out).mono ?_);(case side1 => exact Kd.C_below HR2_0.out HB.out);(case side2 => exact HC2_0.out);(case side3 => exact Kd.C_below HR2_1.out HB.out);(case side4 => exact HC2_1.out);(case side5 => exact Kd.C_below HR2_2.out HB.out);(case side6 => exact HC2_2.out);rintro e w6 ⟨rfl,hb⟩;refine ⟨_,rfl,?_⟩;replace BK1 := bkb_ BK1 hb;replace BK2 := bkb_ BK2 hb;replace BK3 := bkb_ BK3 hb;replace HB := Aside0.mk (below_step HB.out hb);clear hb;(try clear hz5_1_0 hf5_1_0 hz5_1_1 hf5_1_1);(try clear hz5_2_0 hf5_2_0 hz5_2_1 hf5_2_1 hz5_2_2 hf5_2_2 hz5_2_3 hf5_2_3);(try clear hz5_3_0 hf5_3_0 hz5_3_1 hf5_3_1 hz5_3_2 hf5_3_2);obtain ⟨hz6_1_0,hf6_1_0,hz6_1_1,hf6_1_1⟩ := bx2_ BK1;obtain ⟨hz6_2_0,hf6_2_0,hz6_2_1,hf6_2_1,hz6_2_2,hf6_2_2,hz6_2_3,hf6_2_3⟩ := bx4_ BK2;obtain ⟨hz6_3_0,hf6_3_0,hz6_3_1,hf6_3_1,hz6_3_2,hf6_3_2⟩ := bx3_ BK3))
 replace BK1 := Aside0.mk (blk_drew BK1.out)
 replace BK2 := Aside0.mk (blk_drew BK2.out)
 replace BK3 := Aside0.mk (blk_drew BK3.out)
 replace HB := Aside0.mk (below_drew1 HB.out)
 refine start_ (n := 9) (S := fun w' => w'.cell? ⟨gb1,0,none⟩ = some (.slice A0_0 l0_0.length c0_0) ∧ w'.cell? ⟨gb1,1,none⟩ = some (.slice A0_1 l0_1.length c0_1) ∧ w'.cell? ⟨gb2,0,none⟩ = some (.slice A1_0 l1_0.length c1_0) ∧ w'.cell? ⟨gb2,1,none⟩ = some (.slice A1_1 l1_1.length c1_1) ∧ w'.cell? ⟨gb2,2,none⟩ = some (.slice A1_2 l1_2.length c1_2) ∧ w'.cell? ⟨gb2,3,none⟩ = some (.slice A1_3 l1_3.length c1_3) ∧ w'.cell? ⟨gb3,0,none⟩ = some (.slice A2_0 l2_0.length c2_0) ∧ w'.cell? ⟨gb3,1,none⟩ = some (.slice A2_1 l2_1.length c2_1) ∧ w'.cell? ⟨gb3,2,none⟩ = some (.slice A2_2 l2_2.length c2_2)) (ds := []) (mk_ 9 0) (by kernel_rfl) rfl rfl ⟨(blk_cell BK1.out 0).trans rfl,(blk_cell BK1.out 1).trans rfl,(blk_cell BK2.out 0).trans rfl,(blk_cell BK2.out 1).trans rfl,(blk_cell BK2.out 2).trans rfl,(blk_cell BK2.out 3).trans rfl,(blk_cell BK3.out 0).trans rfl,(blk_cell BK3.out 1).trans rfl,(blk_cell BK3.out 2).trans rfl⟩ (fun hHeld => ?_)
 generalize w6.drew = w7 at BK1 BK2 BK3 HB hHeld ⊢
 refine tK9_ 0 (some 30) (mk_ 9 1) ?_
 refine tK9_ 2 (some 32) (mk_ 9 5) ?_
 refine tK9_ 4 (some 34) (mk_ 9 21) ?_
 refine pU_ 6 (some 36) (mk_ 9 85) ?_
 refine oN_ 1 (some 31) (mk_ 9 87) (fun K hK => ?_)
 refine gO_ Try.func17 #[.agg #[.slice A0_0 l0_0.length c0_0,.slice A0_1 l0_1.length c0_1]] ?_
 (with_reducible refine (laws_toProg.calls k _ _ l0_0 _ _ l0_1 t4 t5 _ ?side1 ?side2 ?side3 ?side4 A8.out).mono ?_)
 (case side1 => exact Kd.C_below HR0_0.out HB.out)
 (case side2 => exact HC0_0.out)
 (case side3 => exact Kd.C_below HR0_1.out HB.out)
 (case side4 => exact HC0_1.out)
 rintro e w8 ⟨vv8_0,vv8_1,rfl,ho0,ho1,hb⟩
 refine ⟨_,rfl,?_⟩
 obtain ⟨lo8,hi8,hl1,hl2,hl3,hnew⟩ := St.new (gb3 + 1) (blk_lt BK3.out) hb.size
 have HN8 : Aside0 (gb3 + 1 ≤ lo8 ∧ lo8 ≤ hi8) := ⟨hl1,hl2⟩
 replace HQ := aq_ HQ HN8
 replace BK1 := bkb_ BK1 hb
 replace BK2 := bkb_ BK2 hb
 replace BK3 := bkb_ BK3 hb
 replace HB := Aside0.mk (below_step HB.out hb)
 obtain ⟨Ao8_0,co8_0,eo⟩ := Kd.R_slice ho0
 subst eo
 have HV8_0 := Aside0.mk (hnew _ _ _ _ _ _ ho0)
 have HIHV8_0 : Aside0 (hi8 ≤ hi8) := ⟨Nat.le_refl _⟩
 replace HQ := aq_ HQ HIHV8_0
 clear ho0
 obtain ⟨Ao8_1,co8_1,eo⟩ := Kd.R_slice (Kd.S_R ho1)
 subst eo
 have HV8_1 := Aside0.mk (hnew _ _ _ _ _ _ (Kd.S_R ho1))
 have HIHV8_1 : Aside0 (hi8 ≤ hi8) := ⟨Nat.le_refl _⟩
 replace HQ := aq_ HQ HIHV8_1
 clear ho1
 clear hnew hl1 hl2 hl3
 clear hb
 refine hK.out _ _ ⟨(blk_cell BK1.out 0).trans rfl,(blk_cell BK1.out 1).trans rfl,(blk_cell BK2.out 0).trans rfl,(blk_cell BK2.out 1).trans rfl,(blk_cell BK2.out 2).trans rfl,(blk_cell BK2.out 3).trans rfl,(blk_cell BK3.out 0).trans rfl,(blk_cell BK3.out 1).trans rfl,(blk_cell BK3.out 2).trans rfl⟩ (fun hHeld => ?_)
 clear hK K
 refine norm_ (a' := ?_) ?_ ?_
 rotate_left
 ·show Act.put _ (some 31) _ = _
  simp only [Act.put,List.setIfInBounds_toArray,List.set_cons_zero,List.set_cons_succ,i64_w,i32_w]
  rfl
 refine oN_ 3 (some 33) (mk_ 9 95) (fun K hK => ?_)
 refine gO_ Try.func44 #[.agg #[.slice A1_0 l1_0.length c1_0,.slice A1_1 l1_1.length c1_1,.slice A1_2 l1_2.length c1_2,.slice A1_3 l1_3.length c1_3]] ?_
 (with_reducible refine (laws_toMachine.calls k _ _ l1_0 _ _ l1_1 _ _ l1_2 _ _ l1_3 t6 t7 t8 t9 _ ?side1 ?side2 ?side3 ?side4 ?side5 ?side6 ?side7 ?side8 A9.out).mono ?_)
 (case side1 => exact Kd.C_below HR1_0.out HB.out)
 (case side2 => exact HC1_0.out)
 (case side3 => exact Kd.C_below HR1_1.out HB.out)
 (case side4 => exact HC1_1.out)
 (case side5 => exact Kd.C_below HR1_2.out HB.out)
 (case side6 => exact HC1_2.out)
 (case side7 => exact Kd.C_below HR1_3.out HB.out)
 (case side8 => exact HC1_3.out)
 rintro e w9 ⟨vv9_0,vv9_1,vv9_2,vv9_3,rfl,ho0,ho1,ho2,ho3,hb⟩
 refine ⟨_,rfl,?_⟩
 obtain ⟨lo9,hi9,hl1,hl2,hl3,hnew⟩ := St.new (hi8) HV8_0.out.1 hb.size
 have HN9 : Aside0 (hi8 ≤ lo9 ∧ lo9 ≤ hi9) := ⟨hl1,hl2⟩
 replace HQ := aq_ HQ HN9
 replace HV8_0 := Aside0.mk (HV8_0.out.below hb)
 replace HV8_1 := Aside0.mk (HV8_1.out.below hb)
 replace BK1 := bkb_ BK1 hb
 replace BK2 := bkb_ BK2 hb
 replace BK3 := bkb_ BK3 hb
 replace HB := Aside0.mk (below_step HB.out hb)
 obtain ⟨Ao9_0,co9_0,eo⟩ := Kd.R_slice (Kd.S_R ho0)
 subst eo
 have HV9_0 := Aside0.mk (hnew _ _ _ _ _ _ (Kd.S_R ho0))
 have HIHV9_0 : Aside0 (hi9 ≤ hi9) := ⟨Nat.le_refl _⟩
 replace HQ := aq_ HQ HIHV9_0
 clear ho0
 obtain ⟨Ao9_1,co9_1,eo⟩ := Kd.R_slice (Kd.S_R ho1)
 subst eo
 have HV9_1 := Aside0.mk (hnew _ _ _ _ _ _ (Kd.S_R ho1))
 have HIHV9_1 : Aside0 (hi9 ≤ hi9) := ⟨Nat.le_refl _⟩
 replace HQ := aq_ HQ HIHV9_1
 clear ho1
 obtain ⟨Ao9_2,co9_2,eo⟩ := Kd.R_slice ho2
 subst eo
 have HV9_2 := Aside0.mk (hnew _ _ _ _ _ _ ho2)
 have HIHV9_2 : Aside0 (hi9 ≤ hi9) := ⟨Nat.le_refl _⟩
 replace HQ := aq_ HQ HIHV9_2
 clear ho2
 obtain ⟨Ao9_3,co9_3,eo⟩ := Kd.R_slice ho3
 subst eo
 have HV9_3 := Aside0.mk (hnew _ _ _ _ _ _ ho3)
 have HIHV9_3 : Aside0 (hi9 ≤ hi9) := ⟨Nat.le_refl _⟩
 replace HQ := aq_ HQ HIHV9_3
 clear ho3
 clear hnew hl1 hl2 hl3
 clear hb
 refine hK.out _ _ ⟨(blk_cell BK1.out 0).trans rfl,(blk_cell BK1.out 1).trans rfl,(blk_cell BK2.out 0).trans rfl,(blk_cell BK2.out 1).trans rfl,(blk_cell BK2.out 2).trans rfl,(blk_cell BK2.out 3).trans rfl,(blk_cell BK3.out 0).trans rfl,(blk_cell BK3.out 1).trans rfl,(blk_cell BK3.out 2).trans rfl⟩ (fun hHeld => ?_)
 clear hK K
 refine norm_ (a' := ?_) ?_ ?_
 rotate_left
 ·show Act.put _ (some 33) _ = _
  simp only [Act.put,List.setIfInBounds_toArray,List.set_cons_zero,List.set_cons_succ,i64_w,i32_w]
  rfl
 refine oN_ 5 (some 35) (mk_ 9 127) (fun K hK => ?_)
 refine gO_ Try.func35 #[.agg #[.slice A2_0 l2_0.length c2_0,.slice A2_1 l2_1.length c2_1,.slice A2_2 l2_2.length c2_2]] ?_
 (with_reducible refine (laws_toSource.calls k _ _ l2_0 _ _ l2_1 _ _ l2_2 t10 t11 t12 _ ?side1 ?side2 ?side3 ?side4 ?side5 ?side6 A10.out).mono ?_)
 (case side1 => exact Kd.C_below HR2_0.out HB.out)
 (case side2 => exact HC2_0.out)
 (case side3 => exact Kd.C_below HR2_1.out HB.out)
 (case side4 => exact HC2_1.out)
 (case side5 => exact Kd.C_below HR2_2.out HB.out)
 (case side6 => exact HC2_2.out)
 rintro e w10 ⟨vv10_0,vv10_1,vv10_2,rfl,ho0,ho1,ho2,hb⟩
 refine ⟨_,rfl,?_⟩
 obtain ⟨lo10,hi10,hl1,hl2,hl3,hnew⟩ := St.new (hi9) HV9_0.out.1 hb.size
 have HN10 : Aside0 (hi9 ≤ lo10 ∧ lo10 ≤ hi10) := ⟨hl1,hl2⟩
 replace HQ := aq_ HQ HN10
 replace HV8_0 := Aside0.mk (HV8_0.out.below hb)
 replace HV8_1 := Aside0.mk (HV8_1.out.below hb)
 replace HV9_0 := Aside0.mk (HV9_0.out.below hb)
 replace HV9_1 := Aside0.mk (HV9_1.out.below hb)
 replace HV9_2 := Aside0.mk (HV9_2.out.below hb)
 replace HV9_3 := Aside0.mk (HV9_3.out.below hb)
 replace BK1 := bkb_ BK1 hb
 replace BK2 := bkb_ BK2 hb
 replace BK3 := bkb_ BK3 hb
 replace HB := Aside0.mk (below_step HB.out hb)
 obtain ⟨Ao10_0,co10_0,eo⟩ := Kd.R_slice (Kd.S_R ho0)
 subst eo
 have HV10_0 := Aside0.mk (hnew _ _ _ _ _ _ (Kd.S_R ho0))
 have HIHV10_0 : Aside0 (hi10 ≤ hi10) := ⟨Nat.le_refl _⟩
 replace HQ := aq_ HQ HIHV10_0
 clear ho0
 obtain ⟨Ao10_1,co10_1,eo⟩ := Kd.R_slice (Kd.S_R ho1)
 subst eo
 have HV10_1 := Aside0.mk (hnew _ _ _ _ _ _ (Kd.S_R ho1))
 have HIHV10_1 : Aside0 (hi10 ≤ hi10) := ⟨Nat.le_refl _⟩
 replace HQ := aq_ HQ HIHV10_1
 clear ho1
 obtain ⟨Ao10_2,co10_2,eo⟩ := Kd.R_slice ho2
 subst eo
 have HV10_2 := Aside0.mk (hnew _ _ _ _ _ _ ho2)
 have HIHV10_2 : Aside0 (hi10 ≤ hi10) := ⟨Nat.le_refl _⟩
 replace HQ := aq_ HQ HIHV10_2
 clear ho2
 clear hnew hl1 hl2 hl3
 clear hb
 refine hK.out _ _ ⟨(blk_cell BK1.out 0).trans rfl,(blk_cell BK1.out 1).trans rfl,(blk_cell BK2.out 0).trans rfl,(blk_cell BK2.out 1).trans rfl,(blk_cell BK2.out 2).trans rfl,(blk_cell BK2.out 3).trans rfl,(blk_cell BK3.out 0).trans rfl,(blk_cell BK3.out 1).trans rfl,(blk_cell BK3.out 2).trans rfl⟩ (fun hHeld => ?_)
 clear hK K
 refine norm_ (a' := ?_) ?_ ?_
 rotate_left
 ·show Act.put _ (some 35) _ = _
  simp only [Act.put,List.setIfInBounds_toArray,List.set_cons_zero,List.set_cons_succ,i64_w,i32_w]
  rfl
 refine oN_ 7 (some 37) (mk_ 9 255) (fun K hK => ?_)
 refine gO_ Try.func43 #[.agg #[.slice Ao8_0 t4.length co8_0,.slice Ao8_1 t5.length co8_1],.agg #[.slice Ao9_0 t6.length co9_0,.slice Ao9_1 t7.length co9_1,.slice Ao9_2 t8.length co9_2,.slice Ao9_3 t9.length co9_3],.agg #[.slice Ao10_0 t10.length co10_0,.slice Ao10_1 t11.length co10_1,.slice Ao10_2 t12.length co10_2],.int .i64 a3] ?_
 (with_reducible refine (spec_ChanSame.calls k _ _ t4 _ _ t5 _ _ t6 _ _ t7 _ _ t8 _ _ t9 _ _ t10 _ _ t11 _ _ t12 a3 t13 _ ?side1 ?side2 ?side3 ?side4 ?side5 ?side6 ?side7 ?side8 ?side9 ?side10 ?side11 ?side12 ?side13 ?side14 ?side15 ?side16 ?side17 ?side18 A11.out).mono ?_)
 (case side1 => exact HV8_0.out.reads)
 (case side2 => exact HV8_0.out.room)
 (case side3 => exact HV8_1.out.reads)
 (case side4 => exact HV8_1.out.room)
 (case side5 => exact HV9_0.out.reads)
 (case side6 => exact HV9_0.out.room)
 (case side7 => exact HV9_1.out.reads)
 (case side8 => exact HV9_1.out.room)
 (case side9 => exact HV9_2.out.reads)
 (case side10 => exact HV9_2.out.room)
 (case side11 => exact HV9_3.out.reads)
 (case side12 => exact HV9_3.out.room)
 (case side13 => exact HV10_0.out.reads)
 (case side14 => exact HV10_0.out.room)
 (case side15 => exact HV10_1.out.reads)
 (case side16 => exact HV10_1.out.room)
 (case side17 => exact HV10_2.out.reads)
 (case side18 => exact HV10_2.out.room)
 rintro e w11 ⟨rfl,hb⟩
 refine ⟨_,rfl,?_⟩
 replace HV8_0 := Aside0.mk (HV8_0.out.below hb)
 replace HV8_1 := Aside0.mk (HV8_1.out.below hb)
 replace HV9_0 := Aside0.mk (HV9_0.out.below hb)
 replace HV9_1 := Aside0.mk (HV9_1.out.below hb)
 replace HV9_2 := Aside0.mk (HV9_2.out.below hb)
 replace HV9_3 := Aside0.mk (HV9_3.out.below hb)
 replace HV10_0 := Aside0.mk (HV10_0.out.below hb)
 replace HV10_1 := Aside0.mk (HV10_1.out.below hb)
 replace HV10_2 := Aside0.mk (HV10_2.out.below hb)
 replace BK1 := bkb_ BK1 hb
 replace BK2 := bkb_ BK2 hb
 replace BK3 := bkb_ BK3 hb
 replace HB := Aside0.mk (below_step HB.out hb)
 clear hb
 refine hK.out _ _ ⟨(blk_cell BK1.out 0).trans rfl,(blk_cell BK1.out 1).trans rfl,(blk_cell BK2.out 0).trans rfl,(blk_cell BK2.out 1).trans rfl,(blk_cell BK2.out 2).trans rfl,(blk_cell BK2.out 3).trans rfl,(blk_cell BK3.out 0).trans rfl,(blk_cell BK3.out 1).trans rfl,(blk_cell BK3.out 2).trans rfl⟩ (fun hHeld => ?_)
 clear hK K
 refine norm_ (a' := ?_) ?_ ?_
 rotate_left
 ·show Act.put _ (some 37) _ = _
  simp only [Act.put,List.setIfInBounds_toArray,List.set_cons_zero,List.set_cons_succ,i64_w,i32_w]
  rfl
 refine pU_ 8 (some 10) (mk_ 9 511) ?_
 refine done_ (by kernel_rfl) ?_
 (try clear hz6_1_0)
 (try clear hf6_1_0)
 (try clear hz6_1_1)
 (try clear hf6_1_1)
 (try clear hz6_2_0)
 (try clear hf6_2_0)
 (try clear hz6_2_1)
 (try clear hf6_2_1)
 (try clear hz6_2_2)
 (try clear hf6_2_2)
 (try clear hz6_2_3)
 (try clear hf6_2_3)
 (try clear hz6_3_0)
 (try clear hf6_3_0)
 (try clear hz6_3_1)
 (try clear hf6_3_1)
 (try clear hz6_3_2)
 (try clear hf6_3_2)
 obtain ⟨hz11_1_0,hf11_1_0,hz11_1_1,hf11_1_1⟩ := bx2_ BK1
 obtain ⟨hz11_2_0,hf11_2_0,hz11_2_1,hf11_2_1,hz11_2_2,hf11_2_2,hz11_2_3,hf11_2_3⟩ := bx4_ BK2
 obtain ⟨hz11_3_0,hf11_3_0,hz11_3_1,hf11_3_1,hz11_3_2,hf11_3_2⟩ := bx3_ BK3
 go_wp2_with (first | ((with_reducible refine gate_callee (f := 17) rfl ?_);refine gL_ (some 39) Try.func17 #[.agg #[.slice A0_0 l0_0.length c0_0,.slice A0_1 l0_1.length c0_1]] ?_;(with_reducible refine (laws_toProg.calls k _ _ l0_0 _ _ l0_1 t14 t15 _ ?side1 ?side2 ?side3 ?side4 A12.out).mono ?_);(case side1 => exact Kd.C_below HR0_0.out HB.out);(case side2 => exact HC0_0.out);(case side3 => exact Kd.C_below HR0_1.out HB.out);(case side4 => exact HC0_1.out);rintro e w12 ⟨vv12_0,vv12_1,rfl,ho0,ho1,hb⟩;refine ⟨_,rfl,?_⟩;obtain ⟨lo12,hi12,hl1,hl2,hl3,hnew⟩ := St.new (hi10) HV10_0.out.1 hb.size;have HN12 : Aside0 (hi10 ≤ lo12 ∧ lo12 ≤ hi12) := ⟨hl1,hl2⟩;replace HQ := aq_ HQ HN12;replace HV8_0 := Aside0.mk (HV8_0.out.below hb);replace HV8_1 := Aside0.mk (HV8_1.out.below hb);replace HV9_0 := Aside0.mk (HV9_0.out.below hb);replace HV9_1 := Aside0.mk (HV9_1.out.below hb);replace HV9_2 := Aside0.mk (HV9_2.out.below hb);replace HV9_3 := Aside0.mk (HV9_3.out.below hb);replace HV10_0 := Aside0.mk (HV10_0.out.below hb);replace HV10_1 := Aside0.mk (HV10_1.out.below hb);replace HV10_2 := Aside0.mk (HV10_2.out.below hb);replace BK1 := bkb_ BK1 hb;replace BK2 := bkb_ BK2 hb;replace BK3 := bkb_ BK3 hb;replace HB := Aside0.mk (below_step HB.out hb);obtain ⟨Ao12_0,co12_0,eo⟩ := Kd.R_slice ho0;subst eo;have HV12_0 := Aside0.mk (hnew _ _ _ _ _ _ ho0);have HIHV12_0 : Aside0 (hi12 ≤ hi12) := ⟨Nat.le_refl _⟩;replace HQ := aq_ HQ HIHV12_0;clear ho0;obtain ⟨Ao12_1,co12_1,eo⟩ := Kd.R_slice (Kd.S_R ho1);subst eo;have HV12_1 := Aside0.mk (hnew _ _ _ _ _ _ (Kd.S_R ho1));have HIHV12_1 : Aside0 (hi12 ≤ hi12) := ⟨Nat.le_refl _⟩;replace HQ := aq_ HQ HIHV12_1;clear ho1;clear hnew hl1 hl2 hl3;clear hb;(try clear hz11_1_0 hf11_1_0 hz11_1_1 hf11_1_1);(try clear hz11_2_0 hf11_2_0 hz11_2_1 hf11_2_1 hz11_2_2 hf11_2_2 hz11_2_3 hf11_2_3);(try clear hz11_3_0 hf11_3_0 hz11_3_1 hf11_3_1 hz11_3_2 hf11_3_2);obtain ⟨hz12_1_0,hf12_1_0,hz12_1_1,hf12_1_1⟩ := bx2_ BK1;obtain ⟨hz12_2_0,hf12_2_0,hz12_2_1,hf12_2_1,hz12_2_2,hf12_2_2,hz12_2_3,hf12_2_3⟩ := bx4_ BK2;obtain ⟨hz12_3_0,hf12_3_0,hz12_3_1,hf12_3_1,hz12_3_2,hf12_3_2⟩ := bx3_ BK3) | ((with_reducible refine gate_dst (N := 11) rfl ?_);refine bX_ 11 (cs := #[.slice none 0 0,.slice none 0 0]) (t := 44) ?_;intro gb13 hg w13 hbox hb;have HN13 : Aside0 (hi12 ≤ gb13) := ⟨by rw [hg];exact HV12_0.out.1⟩;replace HQ := aq_ HQ HN13;replace HV8_0 := Aside0.mk (HV8_0.out.below hb);replace HV8_1 := Aside0.mk (HV8_1.out.below hb);replace HV9_0 := Aside0.mk (HV9_0.out.below hb);replace HV9_1 := Aside0.mk (HV9_1.out.below hb);replace HV9_2 := Aside0.mk (HV9_2.out.below hb);replace HV9_3 := Aside0.mk (HV9_3.out.below hb);replace HV10_0 := Aside0.mk (HV10_0.out.below hb);replace HV10_1 := Aside0.mk (HV10_1.out.below hb);replace HV10_2 := Aside0.mk (HV10_2.out.below hb);replace HV12_0 := Aside0.mk (HV12_0.out.below hb);replace HV12_1 := Aside0.mk (HV12_1.out.below hb);replace BK1 := bkb_ BK1 hb;replace BK2 := bkb_ BK2 hb;replace BK3 := bkb_ BK3 hb;replace HB := Aside0.mk (below_step HB.out hb);have BK13 := Aside0.mk hbox;clear hg hbox hb;(try clear hz12_1_0 hf12_1_0 hz12_1_1 hf12_1_1);(try clear hz12_2_0 hf12_2_0 hz12_2_1 hf12_2_1 hz12_2_2 hf12_2_2 hz12_2_3 hf12_2_3);(try clear hz12_3_0 hf12_3_0 hz12_3_1 hf12_3_1 hz12_3_2 hf12_3_2);obtain ⟨hz13_1_0,hf13_1_0,hz13_1_1,hf13_1_1⟩ := bx2_ BK1;obtain ⟨hz13_2_0,hf13_2_0,hz13_2_1,hf13_2_1,hz13_2_2,hf13_2_2,hz13_2_3,hf13_2_3⟩ := bx4_ BK2;obtain ⟨hz13_3_0,hf13_3_0,hz13_3_1,hf13_3_1,hz13_3_2,hf13_3_2⟩ := bx3_ BK3;obtain ⟨hz13_13_0,hf13_13_0,hz13_13_1,hf13_13_1⟩ := bx2_ BK13;replace HV8_0 := hs2_ HV8_0 gb13 (.slice Ao12_0 t14.length co12_0) (.slice Ao12_1 t15.length co12_1);replace HV8_1 := hs2_ HV8_1 gb13 (.slice Ao12_0 t14.length co12_0) (.slice Ao12_1 t15.length co12_1);replace HV9_0 := hs2_ HV9_0 gb13 (.slice Ao12_0 t14.length co12_0) (.slice Ao12_1 t15.length co12_1);replace HV9_1 := hs2_ HV9_1 gb13 (.slice Ao12_0 t14.length co12_0) (.slice Ao12_1 t15.length co12_1);replace HV9_2 := hs2_ HV9_2 gb13 (.slice Ao12_0 t14.length co12_0) (.slice Ao12_1 t15.length co12_1);replace HV9_3 := hs2_ HV9_3 gb13 (.slice Ao12_0 t14.length co12_0) (.slice Ao12_1 t15.length co12_1);replace HV10_0 := hs2_ HV10_0 gb13 (.slice Ao12_0 t14.length co12_0) (.slice Ao12_1 t15.length co12_1);replace HV10_1 := hs2_ HV10_1 gb13 (.slice Ao12_0 t14.length co12_0) (.slice Ao12_1 t15.length co12_1);replace HV10_2 := hs2_ HV10_2 gb13 (.slice Ao12_0 t14.length co12_0) (.slice Ao12_1 t15.length co12_1);replace HV12_0 := hs2_ HV12_0 gb13 (.slice Ao12_0 t14.length co12_0) (.slice Ao12_1 t15.length co12_1);replace HV12_1 := hs2_ HV12_1 gb13 (.slice Ao12_0 t14.length co12_0) (.slice Ao12_1 t15.length co12_1);replace BK1 := Aside0.mk (blk_far (p := ⟨gb13,1,none⟩) (blk_far (p := ⟨gb13,0,none⟩) BK1.out (by show gb1 ≠ gb13;have q_ := HQ.out;omega) (.slice Ao12_0 t14.length co12_0)) (by show gb1 ≠ gb13;have q_ := HQ.out;omega) (.slice Ao12_1 t15.length co12_1));replace BK2 := Aside0.mk (blk_far (p := ⟨gb13,1,none⟩) (blk_far (p := ⟨gb13,0,none⟩) BK2.out (by show gb2 ≠ gb13;have q_ := HQ.out;omega) (.slice Ao12_0 t14.length co12_0)) (by show gb2 ≠ gb13;have q_ := HQ.out;omega) (.slice Ao12_1 t15.length co12_1));replace BK3 := Aside0.mk (blk_far (p := ⟨gb13,1,none⟩) (blk_far (p := ⟨gb13,0,none⟩) BK3.out (by show gb3 ≠ gb13;have q_ := HQ.out;omega) (.slice Ao12_0 t14.length co12_0)) (by show gb3 ≠ gb13;have q_ := HQ.out;omega) (.slice Ao12_1 t15.length co12_1));replace BK13 := Aside0.mk (show ((w13.setCell ⟨gb13,0,none⟩ (.slice Ao12_0 t14.length co12_0)).setCell ⟨gb13,1,none⟩ (.slice Ao12_1 t15.length co12_1)).heap[gb13]? = some (.cells #[.slice Ao12_0 t14.length co12_0,.slice Ao12_1 t15.length co12_1] 44 (0,0)) from (blk_put (cs := #[.slice Ao12_0 t14.length co12_0,.slice none 0 0]) (blk_put (cs := #[.slice none 0 0,.slice none 0 0]) BK13.out 0 (.slice Ao12_0 t14.length co12_0) rfl) 1 (.slice Ao12_1 t15.length co12_1) rfl));replace HB := Aside0.mk (show Below w.heap.size w ((w13.setCell ⟨gb13,0,none⟩ (.slice Ao12_0 t14.length co12_0)).setCell ⟨gb13,1,none⟩ (.slice Ao12_1 t15.length co12_1)) from (below_set (j := 1) (v := .slice Ao12_1 t15.length co12_1) (below_set (j := 0) (v := .slice Ao12_0 t14.length co12_0) HB.out (by have q_ := HQ.out;omega)) (by have q_ := HQ.out;omega)));obtain ⟨hz14_1_0,hf14_1_0,hz14_1_1,hf14_1_1⟩ := bx2_ BK1;obtain ⟨hz14_2_0,hf14_2_0,hz14_2_1,hf14_2_1,hz14_2_2,hf14_2_2,hz14_2_3,hf14_2_3⟩ := bx4_ BK2;obtain ⟨hz14_3_0,hf14_3_0,hz14_3_1,hf14_3_1,hz14_3_2,hf14_3_2⟩ := bx3_ BK3;obtain ⟨hz14_13_0,hf14_13_0,hz14_13_1,hf14_13_1⟩ := bx2_ BK13) | ((with_reducible refine gate_callee (f := 44) rfl ?_);refine gL_ (some 41) Try.func44 #[.agg #[.slice A1_0 l1_0.length c1_0,.slice A1_1 l1_1.length c1_1,.slice A1_2 l1_2.length c1_2,.slice A1_3 l1_3.length c1_3]] ?_;(with_reducible refine (laws_toMachine.calls k _ _ l1_0 _ _ l1_1 _ _ l1_2 _ _ l1_3 t16 t17 t18 t19 _ ?side1 ?side2 ?side3 ?side4 ?side5 ?side6 ?side7 ?side8 A15.out).mono ?_);(case side1 => exact Kd.C_below HR1_0.out HB.out);(case side2 => exact HC1_0.out);(case side3 => exact Kd.C_below HR1_1.out HB.out);(case side4 => exact HC1_1.out);(case side5 => exact Kd.C_below HR1_2.out HB.out);(case side6 => exact HC1_2.out);(case side7 => exact Kd.C_below HR1_3.out HB.out);(case side8 => exact HC1_3.out);rintro e w15 ⟨vv15_0,vv15_1,vv15_2,vv15_3,rfl,ho0,ho1,ho2,ho3,hb⟩;refine ⟨_,rfl,?_⟩;obtain ⟨lo15,hi15,hl1,hl2,hl3,hnew⟩ := St.new (gb13 + 1) (blk_lt BK13.out) hb.size;have HN15 : Aside0 (gb13 + 1 ≤ lo15 ∧ lo15 ≤ hi15) := ⟨hl1,hl2⟩;replace HQ := aq_ HQ HN15;replace HV8_0 := Aside0.mk (HV8_0.out.below hb);replace HV8_1 := Aside0.mk (HV8_1.out.below hb);replace HV9_0 := Aside0.mk (HV9_0.out.below hb);replace HV9_1 := Aside0.mk (HV9_1.out.below hb);replace HV9_2 := Aside0.mk (HV9_2.out.below hb);replace HV9_3 := Aside0.mk (HV9_3.out.below hb);replace HV10_0 := Aside0.mk (HV10_0.out.below hb);replace HV10_1 := Aside0.mk (HV10_1.out.below hb);replace HV10_2 := Aside0.mk (HV10_2.out.below hb);replace HV12_0 := Aside0.mk (HV12_0.out.below hb);replace HV12_1 := Aside0.mk (HV12_1.out.below hb);replace BK1 := bkb_ BK1 hb;replace BK2 := bkb_ BK2 hb;replace BK3 := bkb_ BK3 hb;replace BK13 := bkb_ BK13 hb;replace HB := Aside0.mk (below_step HB.out hb);obtain ⟨Ao15_0,co15_0,eo⟩ := Kd.R_slice (Kd.S_R ho0);subst eo;have HV15_0 := Aside0.mk (hnew _ _ _ _ _ _ (Kd.S_R ho0));have HIHV15_0 : Aside0 (hi15 ≤ hi15) := ⟨Nat.le_refl _⟩;replace HQ := aq_ HQ HIHV15_0;clear ho0;obtain ⟨Ao15_1,co15_1,eo⟩ := Kd.R_slice (Kd.S_R ho1);subst eo;have HV15_1 := Aside0.mk (hnew _ _ _ _ _ _ (Kd.S_R ho1));have HIHV15_1 : Aside0 (hi15 ≤ hi15) := ⟨Nat.le_refl _⟩;replace HQ := aq_ HQ HIHV15_1;clear ho1;obtain ⟨Ao15_2,co15_2,eo⟩ := Kd.R_slice ho2;subst eo;have HV15_2 := Aside0.mk (hnew _ _ _ _ _ _ ho2);have HIHV15_2 : Aside0 (hi15 ≤ hi15) := ⟨Nat.le_refl _⟩;replace HQ := aq_ HQ HIHV15_2;clear ho2;obtain ⟨Ao15_3,co15_3,eo⟩ := Kd.R_slice ho3;subst eo;have HV15_3 := Aside0.mk (hnew _ _ _ _ _ _ ho3);have HIHV15_3 : Aside0 (hi15 ≤ hi15) := ⟨Nat.le_refl _⟩;replace HQ := aq_ HQ HIHV15_3;clear ho3;clear hnew hl1 hl2 hl3;clear hb;(try clear hz13_1_0 hf13_1_0 hz13_1_1 hf13_1_1);(try clear hz13_2_0 hf13_2_0 hz13_2_1 hf13_2_1 hz13_2_2 hf13_2_2 hz13_2_3 hf13_2_3);(try clear hz13_3_0 hf13_3_0 hz13_3_1 hf13_3_1 hz13_3_2 hf13_3_2);(try clear hz13_13_0 hf13_13_0 hz13_13_1 hf13_13_1);(try clear hz14_1_0 hf14_1_0 hz14_1_1 hf14_1_1);(try clear hz14_2_0 hf14_2_0 hz14_2_1 hf14_2_1 hz14_2_2 hf14_2_2 hz14_2_3 hf14_2_3);(try clear hz14_3_0 hf14_3_0 hz14_3_1 hf14_3_1 hz14_3_2 hf14_3_2);(try clear hz14_13_0 hf14_13_0 hz14_13_1 hf14_13_1);obtain ⟨hz15_1_0,hf15_1_0,hz15_1_1,hf15_1_1⟩ := bx2_ BK1;obtain ⟨hz15_2_0,hf15_2_0,hz15_2_1,hf15_2_1,hz15_2_2,hf15_2_2,hz15_2_3,hf15_2_3⟩ := bx4_ BK2;obtain ⟨hz15_3_0,hf15_3_0,hz15_3_1,hf15_3_1,hz15_3_2,hf15_3_2⟩ := bx3_ BK3;obtain ⟨hz15_13_0,hf15_13_0,hz15_13_1,hf15_13_1⟩ := bx2_ BK13) | ((with_reducible refine gate_dst (N := 12) rfl ?_);refine bX_ 12 (cs := #[.slice none 0 0,.slice none 0 0,.slice none 0 0,.slice none 0 0]) (t := 59) ?_;intro gb16 hg w16 hbox hb;have HN16 : Aside0 (hi15 ≤ gb16) := ⟨by rw [hg];exact HV15_0.out.1⟩;replace HQ := aq_ HQ HN16;replace HV8_0 := Aside0.mk (HV8_0.out.below hb);replace HV8_1 := Aside0.mk (HV8_1.out.below hb);replace HV9_0 := Aside0.mk (HV9_0.out.below hb);replace HV9_1 := Aside0.mk (HV9_1.out.below hb);replace HV9_2 := Aside0.mk (HV9_2.out.below hb);replace HV9_3 := Aside0.mk (HV9_3.out.below hb);replace HV10_0 := Aside0.mk (HV10_0.out.below hb);replace HV10_1 := Aside0.mk (HV10_1.out.below hb);replace HV10_2 := Aside0.mk (HV10_2.out.below hb);replace HV12_0 := Aside0.mk (HV12_0.out.below hb);replace HV12_1 := Aside0.mk (HV12_1.out.below hb);replace HV15_0 := Aside0.mk (HV15_0.out.below hb);replace HV15_1 := Aside0.mk (HV15_1.out.below hb);replace HV15_2 := Aside0.mk (HV15_2.out.below hb);replace HV15_3 := Aside0.mk (HV15_3.out.below hb);replace BK1 := bkb_ BK1 hb;replace BK2 := bkb_ BK2 hb;replace BK3 := bkb_ BK3 hb;replace BK13 := bkb_ BK13 hb;replace HB := Aside0.mk (below_step HB.out hb);have BK16 := Aside0.mk hbox;clear hg hbox hb;(try clear hz15_1_0 hf15_1_0 hz15_1_1 hf15_1_1);(try clear hz15_2_0 hf15_2_0 hz15_2_1 hf15_2_1 hz15_2_2 hf15_2_2 hz15_2_3 hf15_2_3);(try clear hz15_3_0 hf15_3_0 hz15_3_1 hf15_3_1 hz15_3_2 hf15_3_2);(try clear hz15_13_0 hf15_13_0 hz15_13_1 hf15_13_1);obtain ⟨hz16_1_0,hf16_1_0,hz16_1_1,hf16_1_1⟩ := bx2_ BK1;obtain ⟨hz16_2_0,hf16_2_0,hz16_2_1,hf16_2_1,hz16_2_2,hf16_2_2,hz16_2_3,hf16_2_3⟩ := bx4_ BK2;obtain ⟨hz16_3_0,hf16_3_0,hz16_3_1,hf16_3_1,hz16_3_2,hf16_3_2⟩ := bx3_ BK3;obtain ⟨hz16_13_0,hf16_13_0,hz16_13_1,hf16_13_1⟩ := bx2_ BK13;obtain ⟨hz16_16_0,hf16_16_0,hz16_16_1,hf16_16_1,hz16_16_2,hf16_16_2,hz16_16_3,hf16_16_3⟩ := bx4_ BK16;replace HV8_0 := hs4_ HV8_0 gb16 (.slice Ao15_0 t16.length co15_0) (.slice Ao15_1 t17.length co15_1) (.slice Ao15_2 t18.length co15_2) (.slice Ao15_3 t19.length co15_3);replace HV8_1 := hs4_ HV8_1 gb16 (.slice Ao15_0 t16.length co15_0) (.slice Ao15_1 t17.length co15_1) (.slice Ao15_2 t18.length co15_2) (.slice Ao15_3 t19.length co15_3);replace HV9_0 := hs4_ HV9_0 gb16 (.slice Ao15_0 t16.length co15_0) (.slice Ao15_1 t17.length co15_1) (.slice Ao15_2 t18.length co15_2) (.slice Ao15_3 t19.length co15_3);replace HV9_1 := hs4_ HV9_1 gb16 (.slice Ao15_0 t16.length co15_0) (.slice Ao15_1 t17.length co15_1) (.slice Ao15_2 t18.length co15_2) (.slice Ao15_3 t19.length co15_3);replace HV9_2 := hs4_ HV9_2 gb16 (.slice Ao15_0 t16.length co15_0) (.slice Ao15_1 t17.length co15_1) (.slice Ao15_2 t18.length co15_2) (.slice Ao15_3 t19.length co15_3);replace HV9_3 := hs4_ HV9_3 gb16 (.slice Ao15_0 t16.length co15_0) (.slice Ao15_1 t17.length co15_1) (.slice Ao15_2 t18.length co15_2) (.slice Ao15_3 t19.length co15_3);replace HV10_0 := hs4_ HV10_0 gb16 (.slice Ao15_0 t16.length co15_0) (.slice Ao15_1 t17.length co15_1) (.slice Ao15_2 t18.length co15_2) (.slice Ao15_3 t19.length co15_3);replace HV10_1 := hs4_ HV10_1 gb16 (.slice Ao15_0 t16.length co15_0) (.slice Ao15_1 t17.length co15_1) (.slice Ao15_2 t18.length co15_2) (.slice Ao15_3 t19.length co15_3);replace HV10_2 := hs4_ HV10_2 gb16 (.slice Ao15_0 t16.length co15_0) (.slice Ao15_1 t17.length co15_1) (.slice Ao15_2 t18.length co15_2) (.slice Ao15_3 t19.length co15_3);replace HV12_0 := hs4_ HV12_0 gb16 (.slice Ao15_0 t16.length co15_0) (.slice Ao15_1 t17.length co15_1) (.slice Ao15_2 t18.length co15_2) (.slice Ao15_3 t19.length co15_3);replace HV12_1 := hs4_ HV12_1 gb16 (.slice Ao15_0 t16.length co15_0) (.slice Ao15_1 t17.length co15_1) (.slice Ao15_2 t18.length co15_2) (.slice Ao15_3 t19.length co15_3);replace HV15_0 := hs4_ HV15_0 gb16 (.slice Ao15_0 t16.length co15_0) (.slice Ao15_1 t17.length co15_1) (.slice Ao15_2 t18.length co15_2) (.slice Ao15_3 t19.length co15_3);replace HV15_1 := hs4_ HV15_1 gb16 (.slice Ao15_0 t16.length co15_0) (.slice Ao15_1 t17.length co15_1) (.slice Ao15_2 t18.length co15_2) (.slice Ao15_3 t19.length co15_3);replace HV15_2 := hs4_ HV15_2 gb16 (.slice Ao15_0 t16.length co15_0) (.slice Ao15_1 t17.length co15_1) (.slice Ao15_2 t18.length co15_2) (.slice Ao15_3 t19.length co15_3);replace HV15_3 := hs4_ HV15_3 gb16 (.slice Ao15_0 t16.length co15_0) (.slice Ao15_1 t17.length co15_1) (.slice Ao15_2 t18.length co15_2) (.slice Ao15_3 t19.length co15_3);replace BK1 := Aside0.mk (blk_far (p := ⟨gb16,3,none⟩) (blk_far (p := ⟨gb16,2,none⟩) (blk_far (p := ⟨gb16,1,none⟩) (blk_far (p := ⟨gb16,0,none⟩) BK1.out (by show gb1 ≠ gb16;have q_ := HQ.out;omega) (.slice Ao15_0 t16.length co15_0)) (by show gb1 ≠ gb16;have q_ := HQ.out;omega) (.slice Ao15_1 t17.length co15_1)) (by show gb1 ≠ gb16;have q_ := HQ.out;omega) (.slice Ao15_2 t18.length co15_2)) (by show gb1 ≠ gb16;have q_ := HQ.out;omega) (.slice Ao15_3 t19.length co15_3));replace BK2 := Aside0.mk (blk_far (p := ⟨gb16,3,none⟩) (blk_far (p := ⟨gb16,2,none⟩) (blk_far (p := ⟨gb16,1,none⟩) (blk_far (p := ⟨gb16,0,none⟩) BK2.out (by show gb2 ≠ gb16;have q_ := HQ.out;omega) (.slice Ao15_0 t16.length co15_0)) (by show gb2 ≠ gb16;have q_ := HQ.out;omega) (.slice Ao15_1 t17.length co15_1)) (by show gb2 ≠ gb16;have q_ := HQ.out;omega) (.slice Ao15_2 t18.length co15_2)) (by show gb2 ≠ gb16;have q_ := HQ.out;omega) (.slice Ao15_3 t19.length co15_3));replace BK3 := Aside0.mk (blk_far (p := ⟨gb16,3,none⟩) (blk_far (p := ⟨gb16,2,none⟩) (blk_far (p := ⟨gb16,1,none⟩) (blk_far (p := ⟨gb16,0,none⟩) BK3.out (by show gb3 ≠ gb16;have q_ := HQ.out;omega) (.slice Ao15_0 t16.length co15_0)) (by show gb3 ≠ gb16;have q_ := HQ.out;omega) (.slice Ao15_1 t17.length co15_1)) (by show gb3 ≠ gb16;have q_ := HQ.out;omega) (.slice Ao15_2 t18.length co15_2)) (by show gb3 ≠ gb16;have q_ := HQ.out;omega) (.slice Ao15_3 t19.length co15_3));replace BK13 := Aside0.mk (blk_far (p := ⟨gb16,3,none⟩) (blk_far (p := ⟨gb16,2,none⟩) (blk_far (p := ⟨gb16,1,none⟩) (blk_far (p := ⟨gb16,0,none⟩) BK13.out (by show gb13 ≠ gb16;have q_ := HQ.out;omega) (.slice Ao15_0 t16.length co15_0)) (by show gb13 ≠ gb16;have q_ := HQ.out;omega) (.slice Ao15_1 t17.length co15_1)) (by show gb13 ≠ gb16;have q_ := HQ.out;omega) (.slice Ao15_2 t18.length co15_2)) (by show gb13 ≠ gb16;have q_ := HQ.out;omega) (.slice Ao15_3 t19.length co15_3));replace BK16 := Aside0.mk (show ((((w16.setCell ⟨gb16,0,none⟩ (.slice Ao15_0 t16.length co15_0)).setCell ⟨gb16,1,none⟩ (.slice Ao15_1 t17.length co15_1)).setCell ⟨gb16,2,none⟩ (.slice Ao15_2 t18.length co15_2)).setCell ⟨gb16,3,none⟩ (.slice Ao15_3 t19.length co15_3)).heap[gb16]? = some (.cells #[.slice Ao15_0 t16.length co15_0,.slice Ao15_1 t17.length co15_1,.slice Ao15_2 t18.length co15_2,.slice Ao15_3 t19.length co15_3] 59 (0,0)) from (blk_put (cs := #[.slice Ao15_0 t16.length co15_0,.slice Ao15_1 t17.length co15_1,.slice Ao15_2 t18.length co15_2,.slice none 0 0]) (blk_put (cs := #[.slice Ao15_0 t16.length co15_0,.slice Ao15_1 t17.length co15_1,.slice none 0 0,.slice none 0 0]) (blk_put (cs := #[.slice Ao15_0 t16.length co15_0,.slice none 0 0,.slice none 0 0,.slice none 0 0]) (blk_put (cs := #[.slice none 0 0,.slice none 0 0,.slice none 0 0,.slice none 0 0]) BK16.out 0 (.slice Ao15_0 t16.length co15_0) rfl) 1 (.slice Ao15_1 t17.length co15_1) rfl) 2 (.slice Ao15_2 t18.length co15_2) rfl) 3 (.slice Ao15_3 t19.length co15_3) rfl));replace HB := Aside0.mk (show Below w.heap.size w ((((w16.setCell ⟨gb16,0,none⟩ (.slice Ao15_0 t16.length co15_0)).setCell ⟨gb16,1,none⟩ (.slice Ao15_1 t17.length co15_1)).setCell ⟨gb16,2,none⟩ (.slice Ao15_2 t18.length co15_2)).setCell ⟨gb16,3,none⟩ (.slice Ao15_3 t19.length co15_3)) from (below_set (j := 3) (v := .slice Ao15_3 t19.length co15_3) (below_set (j := 2) (v := .slice Ao15_2 t18.length co15_2) (below_set (j := 1) (v := .slice Ao15_1 t17.length co15_1) (below_set (j := 0) (v := .slice Ao15_0 t16.length co15_0) HB.out (by have q_ := HQ.out;omega)) (by have q_ := HQ.out;omega)) (by have q_ := HQ.out;omega)) (by have q_ := HQ.out;omega)));obtain ⟨hz17_1_0,hf17_1_0,hz17_1_1,hf17_1_1⟩ := bx2_ BK1;obtain ⟨hz17_2_0,hf17_2_0,hz17_2_1,hf17_2_1,hz17_2_2,hf17_2_2,hz17_2_3,hf17_2_3⟩ := bx4_ BK2;obtain ⟨hz17_3_0,hf17_3_0,hz17_3_1,hf17_3_1,hz17_3_2,hf17_3_2⟩ := bx3_ BK3;obtain ⟨hz17_13_0,hf17_13_0,hz17_13_1,hf17_13_1⟩ := bx2_ BK13;obtain ⟨hz17_16_0,hf17_16_0,hz17_16_1,hf17_16_1,hz17_16_2,hf17_16_2,hz17_16_3,hf17_16_3⟩ := bx4_ BK16) | ((with_reducible refine gate_callee (f := 35) rfl ?_);refine gL_ (some 43) Try.func35 #[.agg #[.slice A2_0 l2_0.length c2_0,.slice A2_1 l2_1.length c2_1,.slice A2_2 l2_2.length c2_2]] ?_;(with_reducible refine (laws_toSource.calls k _ _ l2_0 _ _ l2_1 _ _ l2_2 t20 t21 t22 _ ?side1 ?side2 ?side3 ?side4 ?side5 ?side6 A18.out).mono ?_);(case side1 => exact Kd.C_below HR2_0.out HB.out);(case side2 => exact HC2_0.out);(case side3 => exact Kd.C_below HR2_1.out HB.out);(case side4 => exact HC2_1.out);(case side5 => exact Kd.C_below HR2_2.out HB.out);(case side6 => exact HC2_2.out);rintro e w18 ⟨vv18_0,vv18_1,vv18_2,rfl,ho0,ho1,ho2,hb⟩;refine ⟨_,rfl,?_⟩;obtain ⟨lo18,hi18,hl1,hl2,hl3,hnew⟩ := St.new (gb16 + 1) (blk_lt BK16.out) hb.size;have HN18 : Aside0 (gb16 + 1 ≤ lo18 ∧ lo18 ≤ hi18) := ⟨hl1,hl2⟩;replace HQ := aq_ HQ HN18;replace HV8_0 := Aside0.mk (HV8_0.out.below hb);replace HV8_1 := Aside0.mk (HV8_1.out.below hb);replace HV9_0 := Aside0.mk (HV9_0.out.below hb);replace HV9_1 := Aside0.mk (HV9_1.out.below hb);replace HV9_2 := Aside0.mk (HV9_2.out.below hb);replace HV9_3 := Aside0.mk (HV9_3.out.below hb);replace HV10_0 := Aside0.mk (HV10_0.out.below hb);replace HV10_1 := Aside0.mk (HV10_1.out.below hb);replace HV10_2 := Aside0.mk (HV10_2.out.below hb);replace HV12_0 := Aside0.mk (HV12_0.out.below hb);replace HV12_1 := Aside0.mk (HV12_1.out.below hb);replace HV15_0 := Aside0.mk (HV15_0.out.below hb);replace HV15_1 := Aside0.mk (HV15_1.out.below hb);replace HV15_2 := Aside0.mk (HV15_2.out.below hb);replace HV15_3 := Aside0.mk (HV15_3.out.below hb);replace BK1 := bkb_ BK1 hb;replace BK2 := bkb_ BK2 hb;replace BK3 := bkb_ BK3 hb;replace BK13 := bkb_ BK13 hb;replace BK16 := bkb_ BK16 hb;replace HB := Aside0.mk (below_step HB.out hb);obtain ⟨Ao18_0,co18_0,eo⟩ := Kd.R_slice (Kd.S_R ho0);subst eo;have HV18_0 := Aside0.mk (hnew _ _ _ _ _ _ (Kd.S_R ho0));have HIHV18_0 : Aside0 (hi18 ≤ hi18) := ⟨Nat.le_refl _⟩;replace HQ := aq_ HQ HIHV18_0;clear ho0;obtain ⟨Ao18_1,co18_1,eo⟩ := Kd.R_slice (Kd.S_R ho1);subst eo;have HV18_1 := Aside0.mk (hnew _ _ _ _ _ _ (Kd.S_R ho1));have HIHV18_1 : Aside0 (hi18 ≤ hi18) := ⟨Nat.le_refl _⟩;replace HQ := aq_ HQ HIHV18_1;clear ho1;obtain ⟨Ao18_2,co18_2,eo⟩ := Kd.R_slice ho2;subst eo;have HV18_2 := Aside0.mk (hnew _ _ _ _ _ _ ho2);have HIHV18_2 : Aside0 (hi18 ≤ hi18) := ⟨Nat.le_refl _⟩;replace HQ := aq_ HQ HIHV18_2;clear ho2;clear hnew hl1 hl2 hl3;clear hb;(try clear hz16_1_0 hf16_1_0 hz16_1_1 hf16_1_1);(try clear hz16_2_0 hf16_2_0 hz16_2_1 hf16_2_1 hz16_2_2 hf16_2_2 hz16_2_3 hf16_2_3);(try clear hz16_3_0 hf16_3_0 hz16_3_1 hf16_3_1 hz16_3_2 hf16_3_2);(try clear hz16_13_0 hf16_13_0 hz16_13_1 hf16_13_1);(try clear hz16_16_0 hf16_16_0 hz16_16_1 hf16_16_1 hz16_16_2 hf16_16_2 hz16_16_3 hf16_16_3);(try clear hz17_1_0 hf17_1_0 hz17_1_1 hf17_1_1);(try clear hz17_2_0 hf17_2_0 hz17_2_1 hf17_2_1 hz17_2_2 hf17_2_2 hz17_2_3 hf17_2_3);(try clear hz17_3_0 hf17_3_0 hz17_3_1 hf17_3_1 hz17_3_2 hf17_3_2);(try clear hz17_13_0 hf17_13_0 hz17_13_1 hf17_13_1);(try clear hz17_16_0 hf17_16_0 hz17_16_1 hf17_16_1 hz17_16_2 hf17_16_2 hz17_16_3 hf17_16_3);obtain ⟨hz18_1_0,hf18_1_0,hz18_1_1,hf18_1_1⟩ := bx2_ BK1;obtain ⟨hz18_2_0,hf18_2_0,hz18_2_1,hf18_2_1,hz18_2_2,hf18_2_2,hz18_2_3,hf18_2_3⟩ := bx4_ BK2;obtain ⟨hz18_3_0,hf18_3_0,hz18_3_1,hf18_3_1,hz18_3_2,hf18_3_2⟩ := bx3_ BK3;obtain ⟨hz18_13_0,hf18_13_0,hz18_13_1,hf18_13_1⟩ := bx2_ BK13;obtain ⟨hz18_16_0,hf18_16_0,hz18_16_1,hf18_16_1,hz18_16_2,hf18_16_2,hz18_16_3,hf18_16_3⟩ := bx4_ BK16) | ((with_reducible refine gate_dst (N := 13) rfl ?_);refine bX_ 13 (cs := #[.slice none 0 0,.slice none 0 0,.slice none 0 0]) (t := 28) ?_;intro gb19 hg w19 hbox hb;have HN19 : Aside0 (hi18 ≤ gb19) := ⟨by rw [hg];exact HV18_0.out.1⟩;replace HQ := aq_ HQ HN19;replace HV8_0 := Aside0.mk (HV8_0.out.below hb);replace HV8_1 := Aside0.mk (HV8_1.out.below hb);replace HV9_0 := Aside0.mk (HV9_0.out.below hb);replace HV9_1 := Aside0.mk (HV9_1.out.below hb);replace HV9_2 := Aside0.mk (HV9_2.out.below hb);replace HV9_3 := Aside0.mk (HV9_3.out.below hb);replace HV10_0 := Aside0.mk (HV10_0.out.below hb);replace HV10_1 := Aside0.mk (HV10_1.out.below hb);replace HV10_2 := Aside0.mk (HV10_2.out.below hb);replace HV12_0 := Aside0.mk (HV12_0.out.below hb);replace HV12_1 := Aside0.mk (HV12_1.out.below hb);replace HV15_0 := Aside0.mk (HV15_0.out.below hb);replace HV15_1 := Aside0.mk (HV15_1.out.below hb);replace HV15_2 := Aside0.mk (HV15_2.out.below hb);replace HV15_3 := Aside0.mk (HV15_3.out.below hb);replace HV18_0 := Aside0.mk (HV18_0.out.below hb);replace HV18_1 := Aside0.mk (HV18_1.out.below hb);replace HV18_2 := Aside0.mk (HV18_2.out.below hb);replace BK1 := bkb_ BK1 hb;replace BK2 := bkb_ BK2 hb;replace BK3 := bkb_ BK3 hb;replace BK13 := bkb_ BK13 hb;replace BK16 := bkb_ BK16 hb;replace HB := Aside0.mk (below_step HB.out hb);have BK19 := Aside0.mk hbox;clear hg hbox hb;(try clear hz18_1_0 hf18_1_0 hz18_1_1 hf18_1_1);(try clear hz18_2_0 hf18_2_0 hz18_2_1 hf18_2_1 hz18_2_2 hf18_2_2 hz18_2_3 hf18_2_3);(try clear hz18_3_0 hf18_3_0 hz18_3_1 hf18_3_1 hz18_3_2 hf18_3_2);(try clear hz18_13_0 hf18_13_0 hz18_13_1 hf18_13_1);(try clear hz18_16_0 hf18_16_0 hz18_16_1 hf18_16_1 hz18_16_2 hf18_16_2 hz18_16_3 hf18_16_3);obtain ⟨hz19_1_0,hf19_1_0,hz19_1_1,hf19_1_1⟩ := bx2_ BK1;obtain ⟨hz19_2_0,hf19_2_0,hz19_2_1,hf19_2_1,hz19_2_2,hf19_2_2,hz19_2_3,hf19_2_3⟩ := bx4_ BK2;obtain ⟨hz19_3_0,hf19_3_0,hz19_3_1,hf19_3_1,hz19_3_2,hf19_3_2⟩ := bx3_ BK3;obtain ⟨hz19_13_0,hf19_13_0,hz19_13_1,hf19_13_1⟩ := bx2_ BK13;obtain ⟨hz19_16_0,hf19_16_0,hz19_16_1,hf19_16_1,hz19_16_2,hf19_16_2,hz19_16_3,hf19_16_3⟩ := bx4_ BK16;obtain ⟨hz19_19_0,hf19_19_0,hz19_19_1,hf19_19_1,hz19_19_2,hf19_19_2⟩ := bx3_ BK19;replace HV8_0 := hs3_ HV8_0 gb19 (.slice Ao18_0 t20.length co18_0) (.slice Ao18_1 t21.length co18_1) (.slice Ao18_2 t22.length co18_2);replace HV8_1 := hs3_ HV8_1 gb19 (.slice Ao18_0 t20.length co18_0) (.slice Ao18_1 t21.length co18_1) (.slice Ao18_2 t22.length co18_2);replace HV9_0 := hs3_ HV9_0 gb19 (.slice Ao18_0 t20.length co18_0) (.slice Ao18_1 t21.length co18_1) (.slice Ao18_2 t22.length co18_2);replace HV9_1 := hs3_ HV9_1 gb19 (.slice Ao18_0 t20.length co18_0) (.slice Ao18_1 t21.length co18_1) (.slice Ao18_2 t22.length co18_2);replace HV9_2 := hs3_ HV9_2 gb19 (.slice Ao18_0 t20.length co18_0) (.slice Ao18_1 t21.length co18_1) (.slice Ao18_2 t22.length co18_2);replace HV9_3 := hs3_ HV9_3 gb19 (.slice Ao18_0 t20.length co18_0) (.slice Ao18_1 t21.length co18_1) (.slice Ao18_2 t22.length co18_2);replace HV10_0 := hs3_ HV10_0 gb19 (.slice Ao18_0 t20.length co18_0) (.slice Ao18_1 t21.length co18_1) (.slice Ao18_2 t22.length co18_2);replace HV10_1 := hs3_ HV10_1 gb19 (.slice Ao18_0 t20.length co18_0) (.slice Ao18_1 t21.length co18_1) (.slice Ao18_2 t22.length co18_2);replace HV10_2 := hs3_ HV10_2 gb19 (.slice Ao18_0 t20.length co18_0) (.slice Ao18_1 t21.length co18_1) (.slice Ao18_2 t22.length co18_2);replace HV12_0 := hs3_ HV12_0 gb19 (.slice Ao18_0 t20.length co18_0) (.slice Ao18_1 t21.length co18_1) (.slice Ao18_2 t22.length co18_2);replace HV12_1 := hs3_ HV12_1 gb19 (.slice Ao18_0 t20.length co18_0) (.slice Ao18_1 t21.length co18_1) (.slice Ao18_2 t22.length co18_2);replace HV15_0 := hs3_ HV15_0 gb19 (.slice Ao18_0 t20.length co18_0) (.slice Ao18_1 t21.length co18_1) (.slice Ao18_2 t22.length co18_2);replace HV15_1 := hs3_ HV15_1 gb19 (.slice Ao18_0 t20.length co18_0) (.slice Ao18_1 t21.length co18_1) (.slice Ao18_2 t22.length co18_2);replace HV15_2 := hs3_ HV15_2 gb19 (.slice Ao18_0 t20.length co18_0) (.slice Ao18_1 t21.length co18_1) (.slice Ao18_2 t22.length co18_2);replace HV15_3 := hs3_ HV15_3 gb19 (.slice Ao18_0 t20.length co18_0) (.slice Ao18_1 t21.length co18_1) (.slice Ao18_2 t22.length co18_2);replace HV18_0 := hs3_ HV18_0 gb19 (.slice Ao18_0 t20.length co18_0) (.slice Ao18_1 t21.length co18_1) (.slice Ao18_2 t22.length co18_2);replace HV18_1 := hs3_ HV18_1 gb19 (.slice Ao18_0 t20.length co18_0) (.slice Ao18_1 t21.length co18_1) (.slice Ao18_2 t22.length co18_2);replace HV18_2 := hs3_ HV18_2 gb19 (.slice Ao18_0 t20.length co18_0) (.slice Ao18_1 t21.length co18_1) (.slice Ao18_2 t22.length co18_2);replace BK1 := Aside0.mk (blk_far (p := ⟨gb19,2,none⟩) (blk_far (p := ⟨gb19,1,none⟩) (blk_far (p := ⟨gb19,0,none⟩) BK1.out (by show gb1 ≠ gb19;have q_ := HQ.out;omega) (.slice Ao18_0 t20.length co18_0)) (by show gb1 ≠ gb19;have q_ := HQ.out;omega) (.slice Ao18_1 t21.length co18_1)) (by show gb1 ≠ gb19;have q_ := HQ.out;omega) (.slice Ao18_2 t22.length co18_2));replace BK2 := Aside0.mk (blk_far (p := ⟨gb19,2,none⟩) (blk_far (p := ⟨gb19,1,none⟩) (blk_far (p := ⟨gb19,0,none⟩) BK2.out (by show gb2 ≠ gb19;have q_ := HQ.out;omega) (.slice Ao18_0 t20.length co18_0)) (by show gb2 ≠ gb19;have q_ := HQ.out;omega) (.slice Ao18_1 t21.length co18_1)) (by show gb2 ≠ gb19;have q_ := HQ.out;omega) (.slice Ao18_2 t22.length co18_2));replace BK3 := Aside0.mk (blk_far (p := ⟨gb19,2,none⟩) (blk_far (p := ⟨gb19,1,none⟩) (blk_far (p := ⟨gb19,0,none⟩) BK3.out (by show gb3 ≠ gb19;have q_ := HQ.out;omega) (.slice Ao18_0 t20.length co18_0)) (by show gb3 ≠ gb19;have q_ := HQ.out;omega) (.slice Ao18_1 t21.length co18_1)) (by show gb3 ≠ gb19;have q_ := HQ.out;omega) (.slice Ao18_2 t22.length co18_2));replace BK13 := Aside0.mk (blk_far (p := ⟨gb19,2,none⟩) (blk_far (p := ⟨gb19,1,none⟩) (blk_far (p := ⟨gb19,0,none⟩) BK13.out (by show gb13 ≠ gb19;have q_ := HQ.out;omega) (.slice Ao18_0 t20.length co18_0)) (by show gb13 ≠ gb19;have q_ := HQ.out;omega) (.slice Ao18_1 t21.length co18_1)) (by show gb13 ≠ gb19;have q_ := HQ.out;omega) (.slice Ao18_2 t22.length co18_2));replace BK16 := Aside0.mk (blk_far (p := ⟨gb19,2,none⟩) (blk_far (p := ⟨gb19,1,none⟩) (blk_far (p := ⟨gb19,0,none⟩) BK16.out (by show gb16 ≠ gb19;have q_ := HQ.out;omega) (.slice Ao18_0 t20.length co18_0)) (by show gb16 ≠ gb19;have q_ := HQ.out;omega) (.slice Ao18_1 t21.length co18_1)) (by show gb16 ≠ gb19;have q_ := HQ.out;omega) (.slice Ao18_2 t22.length co18_2));replace BK19 := Aside0.mk (show (((w19.setCell ⟨gb19,0,none⟩ (.slice Ao18_0 t20.length co18_0)).setCell ⟨gb19,1,none⟩ (.slice Ao18_1 t21.length co18_1)).setCell ⟨gb19,2,none⟩ (.slice Ao18_2 t22.length co18_2)).heap[gb19]? = some (.cells #[.slice Ao18_0 t20.length co18_0,.slice Ao18_1 t21.length co18_1,.slice Ao18_2 t22.length co18_2] 28 (0,0)) from (blk_put (cs := #[.slice Ao18_0 t20.length co18_0,.slice Ao18_1 t21.length co18_1,.slice none 0 0]) (blk_put (cs := #[.slice Ao18_0 t20.length co18_0,.slice none 0 0,.slice none 0 0]) (blk_put (cs := #[.slice none 0 0,.slice none 0 0,.slice none 0 0]) BK19.out 0 (.slice Ao18_0 t20.length co18_0) rfl) 1 (.slice Ao18_1 t21.length co18_1) rfl) 2 (.slice Ao18_2 t22.length co18_2) rfl));replace HB := Aside0.mk (show Below w.heap.size w (((w19.setCell ⟨gb19,0,none⟩ (.slice Ao18_0 t20.length co18_0)).setCell ⟨gb19,1,none⟩ (.slice Ao18_1 t21.length co18_1)).setCell ⟨gb19,2,none⟩ (.slice Ao18_2 t22.length co18_2)) from (below_set (j := 2) (v := .slice Ao18_2 t22.length co18_2) (below_set (j := 1) (v := .slice Ao18_1 t21.length co18_1) (below_set (j := 0) (v := .slice Ao18_0 t20.length co18_0) HB.out (by have q_ := HQ.out;omega)) (by have q_ := HQ.out;omega)) (by have q_ := HQ.out;omega)));obtain ⟨hz20_1_0,hf20_1_0,hz20_1_1,hf20_1_1⟩ := bx2_ BK1;obtain ⟨hz20_2_0,hf20_2_0,hz20_2_1,hf20_2_1,hz20_2_2,hf20_2_2,hz20_2_3,hf20_2_3⟩ := bx4_ BK2;obtain ⟨hz20_3_0,hf20_3_0,hz20_3_1,hf20_3_1,hz20_3_2,hf20_3_2⟩ := bx3_ BK3;obtain ⟨hz20_13_0,hf20_13_0,hz20_13_1,hf20_13_1⟩ := bx2_ BK13;obtain ⟨hz20_16_0,hf20_16_0,hz20_16_1,hf20_16_1,hz20_16_2,hf20_16_2,hz20_16_3,hf20_16_3⟩ := bx4_ BK16;obtain ⟨hz20_19_0,hf20_19_0,hz20_19_1,hf20_19_1,hz20_19_2,hf20_19_2⟩ := bx3_ BK19) | ((with_reducible refine gate_callee (f := 45) rfl ?_);refine gL_ (some 48) Try.func45 #[.agg #[.slice Ao12_0 t14.length co12_0,.slice Ao12_1 t15.length co12_1],.agg #[.slice Ao15_0 t16.length co15_0,.slice Ao15_1 t17.length co15_1,.slice Ao15_2 t18.length co15_2,.slice Ao15_3 t19.length co15_3],.agg #[.slice Ao18_0 t20.length co18_0,.slice Ao18_1 t21.length co18_1,.slice Ao18_2 t22.length co18_2],.int .i64 a3] ?_;(with_reducible refine (impl_ChanSame.calls k _ _ t14 _ _ t15 _ _ t16 _ _ t17 _ _ t18 _ _ t19 _ _ t20 _ _ t21 _ _ t22 a3 t13 _ ?side1 ?side2 ?side3 ?side4 ?side5 ?side6 ?side7 ?side8 ?side9 ?side10 ?side11 ?side12 ?side13 ?side14 ?side15 ?side16 ?side17 ?side18 A21.out).mono ?_);(case side1 => exact HV12_0.out.reads);(case side2 => exact HV12_0.out.room);(case side3 => exact HV12_1.out.reads);(case side4 => exact HV12_1.out.room);(case side5 => exact HV15_0.out.reads);(case side6 => exact HV15_0.out.room);(case side7 => exact HV15_1.out.reads);(case side8 => exact HV15_1.out.room);(case side9 => exact HV15_2.out.reads);(case side10 => exact HV15_2.out.room);(case side11 => exact HV15_3.out.reads);(case side12 => exact HV15_3.out.room);(case side13 => exact HV18_0.out.reads);(case side14 => exact HV18_0.out.room);(case side15 => exact HV18_1.out.reads);(case side16 => exact HV18_1.out.room);(case side17 => exact HV18_2.out.reads);(case side18 => exact HV18_2.out.room);rintro e w21 ⟨rfl,hb⟩;refine ⟨_,rfl,?_⟩;replace HV8_0 := Aside0.mk (HV8_0.out.below hb);replace HV8_1 := Aside0.mk (HV8_1.out.below hb);replace HV9_0 := Aside0.mk (HV9_0.out.below hb);replace HV9_1 := Aside0.mk (HV9_1.out.below hb);replace HV9_2 := Aside0.mk (HV9_2.out.below hb);replace HV9_3 := Aside0.mk (HV9_3.out.below hb);replace HV10_0 := Aside0.mk (HV10_0.out.below hb);replace HV10_1 := Aside0.mk (HV10_1.out.below hb);replace HV10_2 := Aside0.mk (HV10_2.out.below hb);replace HV12_0 := Aside0.mk (HV12_0.out.below hb);replace HV12_1 := Aside0.mk (HV12_1.out.below hb);replace HV15_0 := Aside0.mk (HV15_0.out.below hb);replace HV15_1 := Aside0.mk (HV15_1.out.below hb);replace HV15_2 := Aside0.mk (HV15_2.out.below hb);replace HV15_3 := Aside0.mk (HV15_3.out.below hb);replace HV18_0 := Aside0.mk (HV18_0.out.below hb);replace HV18_1 := Aside0.mk (HV18_1.out.below hb);replace HV18_2 := Aside0.mk (HV18_2.out.below hb);replace BK1 := bkb_ BK1 hb;replace BK2 := bkb_ BK2 hb;replace BK3 := bkb_ BK3 hb;replace BK13 := bkb_ BK13 hb;replace BK16 := bkb_ BK16 hb;replace BK19 := bkb_ BK19 hb;replace HB := Aside0.mk (below_step HB.out hb);clear hb;(try clear hz19_1_0 hf19_1_0 hz19_1_1 hf19_1_1);(try clear hz19_2_0 hf19_2_0 hz19_2_1 hf19_2_1 hz19_2_2 hf19_2_2 hz19_2_3 hf19_2_3);(try clear hz19_3_0 hf19_3_0 hz19_3_1 hf19_3_1 hz19_3_2 hf19_3_2);(try clear hz19_13_0 hf19_13_0 hz19_13_1 hf19_13_1);(try clear hz19_16_0 hf19_16_0 hz19_16_1 hf19_16_1 hz19_16_2 hf19_16_2 hz19_16_3 hf19_16_3);(try clear hz19_19_0 hf19_19_0 hz19_19_1 hf19_19_1 hz19_19_2 hf19_19_2);(try clear hz20_1_0 hf20_1_0 hz20_1_1 hf20_1_1);(try clear hz20_2_0 hf20_2_0 hz20_2_1 hf20_2_1 hz20_2_2 hf20_2_2 hz20_2_3 hf20_2_3);(try clear hz20_3_0 hf20_3_0 hz20_3_1 hf20_3_1 hz20_3_2 hf20_3_2);(try clear hz20_13_0 hf20_13_0 hz20_13_1 hf20_13_1);(try clear hz20_16_0 hf20_16_0 hz20_16_1 hf20_16_1 hz20_16_2 hf20_16_2 hz20_16_3 hf20_16_3);(try clear hz20_19_0 hf20_19_0 hz20_19_1 hf20_19_1 hz20_19_2 hf20_19_2);obtain ⟨hz21_1_0,hf21_1_0,hz21_1_1,hf21_1_1⟩ := bx2_ BK1;obtain ⟨hz21_2_0,hf21_2_0,hz21_2_1,hf21_2_1,hz21_2_2,hf21_2_2,hz21_2_3,hf21_2_3⟩ := bx4_ BK2;obtain ⟨hz21_3_0,hf21_3_0,hz21_3_1,hf21_3_1,hz21_3_2,hf21_3_2⟩ := bx3_ BK3;obtain ⟨hz21_13_0,hf21_13_0,hz21_13_1,hf21_13_1⟩ := bx2_ BK13;obtain ⟨hz21_16_0,hf21_16_0,hz21_16_1,hf21_16_1,hz21_16_2,hf21_16_2,hz21_16_3,hf21_16_3⟩ := bx4_ BK16;obtain ⟨hz21_19_0,hf21_19_0,hz21_19_1,hf21_19_1,hz21_19_2,hf21_19_2⟩ := bx3_ BK19))
 replace HV8_0 := Aside0.mk (HV8_0.out.drew)
 replace HV8_1 := Aside0.mk (HV8_1.out.drew)
 replace HV9_0 := Aside0.mk (HV9_0.out.drew)
 replace HV9_1 := Aside0.mk (HV9_1.out.drew)
 replace HV9_2 := Aside0.mk (HV9_2.out.drew)
 replace HV9_3 := Aside0.mk (HV9_3.out.drew)
 replace HV10_0 := Aside0.mk (HV10_0.out.drew)
 replace HV10_1 := Aside0.mk (HV10_1.out.drew)
 replace HV10_2 := Aside0.mk (HV10_2.out.drew)
 replace HV12_0 := Aside0.mk (HV12_0.out.drew)
 replace HV12_1 := Aside0.mk (HV12_1.out.drew)
 replace HV15_0 := Aside0.mk (HV15_0.out.drew)
 replace HV15_1 := Aside0.mk (HV15_1.out.drew)
 replace HV15_2 := Aside0.mk (HV15_2.out.drew)
 replace HV15_3 := Aside0.mk (HV15_3.out.drew)
 replace HV18_0 := Aside0.mk (HV18_0.out.drew)
 replace HV18_1 := Aside0.mk (HV18_1.out.drew)
 replace HV18_2 := Aside0.mk (HV18_2.out.drew)
 replace BK1 := Aside0.mk (blk_drew BK1.out)
 replace BK2 := Aside0.mk (blk_drew BK2.out)
 replace BK3 := Aside0.mk (blk_drew BK3.out)
 replace BK13 := Aside0.mk (blk_drew BK13.out)
 replace BK16 := Aside0.mk (blk_drew BK16.out)
 replace BK19 := Aside0.mk (blk_drew BK19.out)
 replace HB := Aside0.mk (below_drew1 HB.out)
 refine start_ (n := 5) (S := fun w' => w'.cell? ⟨gb13,0,none⟩ = some (.slice Ao12_0 t14.length co12_0) ∧ w'.cell? ⟨gb13,1,none⟩ = some (.slice Ao12_1 t15.length co12_1) ∧ w'.cell? ⟨gb1,0,none⟩ = some (.slice A0_0 l0_0.length c0_0) ∧ w'.cell? ⟨gb1,1,none⟩ = some (.slice A0_1 l0_1.length c0_1)) (ds := []) (mk_ 5 0) (by kernel_rfl) rfl rfl ⟨(blk_cell BK13.out 0).trans rfl,(blk_cell BK13.out 1).trans rfl,(blk_cell BK1.out 0).trans rfl,(blk_cell BK1.out 1).trans rfl⟩ (fun hHeld => ?_)
 generalize w21.drew = w22 at HV8_0 HV8_1 HV9_0 HV9_1 HV9_2 HV9_3 HV10_0 HV10_1 HV10_2 HV12_0 HV12_1 HV15_0 HV15_1 HV15_2 HV15_3 HV18_0 HV18_1 HV18_2 BK1 BK2 BK3 BK13 BK16 BK19 HB hHeld ⊢
 refine tK4_ 0 (some 52) (mk_ 5 1) ?_
 refine tK4_ 1 (some 53) (mk_ 5 3) ?_
 refine oN_ 2 (some 54) (mk_ 5 7) (fun K hK => ?_)
 refine gO_ Try.func17 #[.agg #[.slice A0_0 l0_0.length c0_0,.slice A0_1 l0_1.length c0_1]] ?_
 (with_reducible refine (laws_toProg.calls k _ _ l0_0 _ _ l0_1 t24 t25 _ ?side1 ?side2 ?side3 ?side4 A23.out).mono ?_)
 (case side1 => exact Kd.C_below HR0_0.out HB.out)
 (case side2 => exact HC0_0.out)
 (case side3 => exact Kd.C_below HR0_1.out HB.out)
 (case side4 => exact HC0_1.out)
 rintro e w23 ⟨vv23_0,vv23_1,rfl,ho0,ho1,hb⟩
 refine ⟨_,rfl,?_⟩
 obtain ⟨lo23,hi23,hl1,hl2,hl3,hnew⟩ := St.new (gb19 + 1) (blk_lt BK19.out) hb.size
 have HN23 : Aside0 (gb19 + 1 ≤ lo23 ∧ lo23 ≤ hi23) := ⟨hl1,hl2⟩
 replace HQ := aq_ HQ HN23
 replace HV8_0 := Aside0.mk (HV8_0.out.below hb)
 replace HV8_1 := Aside0.mk (HV8_1.out.below hb)
 replace HV9_0 := Aside0.mk (HV9_0.out.below hb)
 replace HV9_1 := Aside0.mk (HV9_1.out.below hb)
 replace HV9_2 := Aside0.mk (HV9_2.out.below hb)
 replace HV9_3 := Aside0.mk (HV9_3.out.below hb)
 replace HV10_0 := Aside0.mk (HV10_0.out.below hb)
 replace HV10_1 := Aside0.mk (HV10_1.out.below hb)
 replace HV10_2 := Aside0.mk (HV10_2.out.below hb)
 replace HV12_0 := Aside0.mk (HV12_0.out.below hb)
 replace HV12_1 := Aside0.mk (HV12_1.out.below hb)
 replace HV15_0 := Aside0.mk (HV15_0.out.below hb)
 replace HV15_1 := Aside0.mk (HV15_1.out.below hb)
 replace HV15_2 := Aside0.mk (HV15_2.out.below hb)
 replace HV15_3 := Aside0.mk (HV15_3.out.below hb)
 replace HV18_0 := Aside0.mk (HV18_0.out.below hb)
 replace HV18_1 := Aside0.mk (HV18_1.out.below hb)
 replace HV18_2 := Aside0.mk (HV18_2.out.below hb)
 replace BK1 := bkb_ BK1 hb
 replace BK2 := bkb_ BK2 hb
 replace BK3 := bkb_ BK3 hb
 replace BK13 := bkb_ BK13 hb
 replace BK16 := bkb_ BK16 hb
 replace BK19 := bkb_ BK19 hb
 replace HB := Aside0.mk (below_step HB.out hb)
 obtain ⟨Ao23_0,co23_0,eo⟩ := Kd.R_slice ho0
 subst eo
 have HV23_0 := Aside0.mk (hnew _ _ _ _ _ _ ho0)
 have HIHV23_0 : Aside0 (hi23 ≤ hi23) := ⟨Nat.le_refl _⟩
 replace HQ := aq_ HQ HIHV23_0
 clear ho0
 obtain ⟨Ao23_1,co23_1,eo⟩ := Kd.R_slice (Kd.S_R ho1)
 subst eo
 have HV23_1 := Aside0.mk (hnew _ _ _ _ _ _ (Kd.S_R ho1))
 have HIHV23_1 : Aside0 (hi23 ≤ hi23) := ⟨Nat.le_refl _⟩
 replace HQ := aq_ HQ HIHV23_1
 clear ho1
 clear hnew hl1 hl2 hl3
 clear hb
 refine hK.out _ _ ⟨(blk_cell BK13.out 0).trans rfl,(blk_cell BK13.out 1).trans rfl,(blk_cell BK1.out 0).trans rfl,(blk_cell BK1.out 1).trans rfl⟩ (fun hHeld => ?_)
 clear hK K
 refine norm_ (a' := ?_) ?_ ?_
 rotate_left
 ·show Act.put _ (some 54) _ = _
  simp only [Act.put,List.setIfInBounds_toArray,List.set_cons_zero,List.set_cons_succ,i64_w,i32_w]
  rfl
 refine oN_ 3 (some 55) (mk_ 5 15) (fun K hK => ?_)
 refine gO_ Try.func20 #[.agg #[.slice Ao12_0 t14.length co12_0,.slice Ao12_1 t15.length co12_1],.agg #[.slice Ao23_0 t24.length co23_0,.slice Ao23_1 t25.length co23_1]] ?_
 (with_reducible refine (laws_eqProg.calls k _ _ t14 _ _ t15 _ _ t24 _ _ t25 true _ ?side1 ?side2 ?side3 ?side4 ?side5 ?side6 ?side7 ?side8 A24.out).mono ?_)
 (case side1 => exact HV12_0.out.reads)
 (case side2 => exact HV12_0.out.room)
 (case side3 => exact HV12_1.out.reads)
 (case side4 => exact HV12_1.out.room)
 (case side5 => exact HV23_0.out.reads)
 (case side6 => exact HV23_0.out.room)
 (case side7 => exact HV23_1.out.reads)
 (case side8 => exact HV23_1.out.room)
 rintro e w24 ⟨rfl,hb⟩
 refine ⟨_,rfl,?_⟩
 replace HV8_0 := Aside0.mk (HV8_0.out.below hb)
 replace HV8_1 := Aside0.mk (HV8_1.out.below hb)
 replace HV9_0 := Aside0.mk (HV9_0.out.below hb)
 replace HV9_1 := Aside0.mk (HV9_1.out.below hb)
 replace HV9_2 := Aside0.mk (HV9_2.out.below hb)
 replace HV9_3 := Aside0.mk (HV9_3.out.below hb)
 replace HV10_0 := Aside0.mk (HV10_0.out.below hb)
 replace HV10_1 := Aside0.mk (HV10_1.out.below hb)
 replace HV10_2 := Aside0.mk (HV10_2.out.below hb)
 replace HV12_0 := Aside0.mk (HV12_0.out.below hb)
 replace HV12_1 := Aside0.mk (HV12_1.out.below hb)
 replace HV15_0 := Aside0.mk (HV15_0.out.below hb)
 replace HV15_1 := Aside0.mk (HV15_1.out.below hb)
 replace HV15_2 := Aside0.mk (HV15_2.out.below hb)
 replace HV15_3 := Aside0.mk (HV15_3.out.below hb)
 replace HV18_0 := Aside0.mk (HV18_0.out.below hb)
 replace HV18_1 := Aside0.mk (HV18_1.out.below hb)
 replace HV18_2 := Aside0.mk (HV18_2.out.below hb)
 replace HV23_0 := Aside0.mk (HV23_0.out.below hb)
 replace HV23_1 := Aside0.mk (HV23_1.out.below hb)
 replace BK1 := bkb_ BK1 hb
 replace BK2 := bkb_ BK2 hb
 replace BK3 := bkb_ BK3 hb
 replace BK13 := bkb_ BK13 hb
 replace BK16 := bkb_ BK16 hb
 replace BK19 := bkb_ BK19 hb
 replace HB := Aside0.mk (below_step HB.out hb)
 clear hb
 refine hK.out _ _ ⟨(blk_cell BK13.out 0).trans rfl,(blk_cell BK13.out 1).trans rfl,(blk_cell BK1.out 0).trans rfl,(blk_cell BK1.out 1).trans rfl⟩ (fun hHeld => ?_)
 clear hK K
 refine norm_ (a' := ?_) ?_ ?_
 rotate_left
 ·show Act.put _ (some 55) _ = _
  simp only [Act.put,List.setIfInBounds_toArray,List.set_cons_zero,List.set_cons_succ,i64_w,i32_w]
  rfl
 refine pU_ 4 (some 56) (mk_ 5 31) ?_
 refine done_ (by kernel_rfl) ?_
 (try clear hz21_1_0)
 (try clear hf21_1_0)
 (try clear hz21_1_1)
 (try clear hf21_1_1)
 (try clear hz21_2_0)
 (try clear hf21_2_0)
 (try clear hz21_2_1)
 (try clear hf21_2_1)
 (try clear hz21_2_2)
 (try clear hf21_2_2)
 (try clear hz21_2_3)
 (try clear hf21_2_3)
 (try clear hz21_3_0)
 (try clear hf21_3_0)
 (try clear hz21_3_1)
 (try clear hf21_3_1)
 (try clear hz21_3_2)
 (try clear hf21_3_2)
 (try clear hz21_13_0)
 (try clear hf21_13_0)
 (try clear hz21_13_1)
 (try clear hf21_13_1)
 (try clear hz21_16_0)
 (try clear hf21_16_0)
 (try clear hz21_16_1)
 (try clear hf21_16_1)
 (try clear hz21_16_2)
 (try clear hf21_16_2)
 (try clear hz21_16_3)
 (try clear hf21_16_3)
 (try clear hz21_19_0)
 (try clear hf21_19_0)
 (try clear hz21_19_1)
 (try clear hf21_19_1)
 (try clear hz21_19_2)
 (try clear hf21_19_2)
 obtain ⟨hz24_1_0,hf24_1_0,hz24_1_1,hf24_1_1⟩ := bx2_ BK1
 obtain ⟨hz24_2_0,hf24_2_0,hz24_2_1,hf24_2_1,hz24_2_2,hf24_2_2,hz24_2_3,hf24_2_3⟩ := bx4_ BK2
 obtain ⟨hz24_3_0,hf24_3_0,hz24_3_1,hf24_3_1,hz24_3_2,hf24_3_2⟩ := bx3_ BK3
 obtain ⟨hz24_13_0,hf24_13_0,hz24_13_1,hf24_13_1⟩ := bx2_ BK13
 obtain ⟨hz24_16_0,hf24_16_0,hz24_16_1,hf24_16_1,hz24_16_2,hf24_16_2,hz24_16_3,hf24_16_3⟩ := bx4_ BK16
 obtain ⟨hz24_19_0,hf24_19_0,hz24_19_1,hf24_19_1,hz24_19_2,hf24_19_2⟩ := bx3_ BK19
 go_wp2
 replace HV8_0 := Aside0.mk (HV8_0.out.drew)
 replace HV8_1 := Aside0.mk (HV8_1.out.drew)
 replace HV9_0 := Aside0.mk (HV9_0.out.drew)
 replace HV9_1 := Aside0.mk (HV9_1.out.drew)
 replace HV9_2 := Aside0.mk (HV9_2.out.drew)
 replace HV9_3 := Aside0.mk (HV9_3.out.drew)
 replace HV10_0 := Aside0.mk (HV10_0.out.drew)
 replace HV10_1 := Aside0.mk (HV10_1.out.drew)
 replace HV10_2 := Aside0.mk (HV10_2.out.drew)
 replace HV12_0 := Aside0.mk (HV12_0.out.drew)
 replace HV12_1 := Aside0.mk (HV12_1.out.drew)
 replace HV15_0 := Aside0.mk (HV15_0.out.drew)
 replace HV15_1 := Aside0.mk (HV15_1.out.drew)
 replace HV15_2 := Aside0.mk (HV15_2.out.drew)
 replace HV15_3 := Aside0.mk (HV15_3.out.drew)
 replace HV18_0 := Aside0.mk (HV18_0.out.drew)
 replace HV18_1 := Aside0.mk (HV18_1.out.drew)
 replace HV18_2 := Aside0.mk (HV18_2.out.drew)
 replace HV23_0 := Aside0.mk (HV23_0.out.drew)
 replace HV23_1 := Aside0.mk (HV23_1.out.drew)
 replace BK1 := Aside0.mk (blk_drew BK1.out)
 replace BK2 := Aside0.mk (blk_drew BK2.out)
 replace BK3 := Aside0.mk (blk_drew BK3.out)
 replace BK13 := Aside0.mk (blk_drew BK13.out)
 replace BK16 := Aside0.mk (blk_drew BK16.out)
 replace BK19 := Aside0.mk (blk_drew BK19.out)
 replace HB := Aside0.mk (below_drew1 HB.out)
 refine start_ (n := 5) (S := fun w' => w'.cell? ⟨gb16,0,none⟩ = some (.slice Ao15_0 t16.length co15_0) ∧ w'.cell? ⟨gb16,1,none⟩ = some (.slice Ao15_1 t17.length co15_1) ∧ w'.cell? ⟨gb16,2,none⟩ = some (.slice Ao15_2 t18.length co15_2) ∧ w'.cell? ⟨gb16,3,none⟩ = some (.slice Ao15_3 t19.length co15_3) ∧ w'.cell? ⟨gb2,0,none⟩ = some (.slice A1_0 l1_0.length c1_0) ∧ w'.cell? ⟨gb2,1,none⟩ = some (.slice A1_1 l1_1.length c1_1) ∧ w'.cell? ⟨gb2,2,none⟩ = some (.slice A1_2 l1_2.length c1_2) ∧ w'.cell? ⟨gb2,3,none⟩ = some (.slice A1_3 l1_3.length c1_3)) (ds := []) (mk_ 5 0) (by kernel_rfl) rfl rfl ⟨(blk_cell BK16.out 0).trans rfl,(blk_cell BK16.out 1).trans rfl,(blk_cell BK16.out 2).trans rfl,(blk_cell BK16.out 3).trans rfl,(blk_cell BK2.out 0).trans rfl,(blk_cell BK2.out 1).trans rfl,(blk_cell BK2.out 2).trans rfl,(blk_cell BK2.out 3).trans rfl⟩ (fun hHeld => ?_)
 generalize w24.drew = w25 at HV8_0 HV8_1 HV9_0 HV9_1 HV9_2 HV9_3 HV10_0 HV10_1 HV10_2 HV12_0 HV12_1 HV15_0 HV15_1 HV15_2 HV15_3 HV18_0 HV18_1 HV18_2 HV23_0 HV23_1 BK1 BK2 BK3 BK13 BK16 BK19 HB hHeld ⊢
 refine tK8_ 0 (some 57) (mk_ 5 1) ?_
 refine tK8_ 1 (some 58) (mk_ 5 3) ?_
 refine oN_ 2 (some 59) (mk_ 5 7) (fun K hK => ?_)
 refine gO_ Try.func44 #[.agg #[.slice A1_0 l1_0.length c1_0,.slice A1_1 l1_1.length c1_1,.slice A1_2 l1_2.length c1_2,.slice A1_3 l1_3.length c1_3]] ?_
 (with_reducible refine (laws_toMachine.calls k _ _ l1_0 _ _ l1_1 _ _ l1_2 _ _ l1_3 t26 t27 t28 t29 _ ?side1 ?side2 ?side3 ?side4 ?side5 ?side6 ?side7 ?side8 A26.out).mono ?_)
 (case side1 => exact Kd.C_below HR1_0.out HB.out)
 (case side2 => exact HC1_0.out)
 (case side3 => exact Kd.C_below HR1_1.out HB.out)
 (case side4 => exact HC1_1.out)
 (case side5 => exact Kd.C_below HR1_2.out HB.out)
 (case side6 => exact HC1_2.out)
 (case side7 => exact Kd.C_below HR1_3.out HB.out)
 (case side8 => exact HC1_3.out)
 rintro e w26 ⟨vv26_0,vv26_1,vv26_2,vv26_3,rfl,ho0,ho1,ho2,ho3,hb⟩
 refine ⟨_,rfl,?_⟩
 obtain ⟨lo26,hi26,hl1,hl2,hl3,hnew⟩ := St.new (hi23) HV23_0.out.1 hb.size
 have HN26 : Aside0 (hi23 ≤ lo26 ∧ lo26 ≤ hi26) := ⟨hl1,hl2⟩
 replace HQ := aq_ HQ HN26
 replace HV8_0 := Aside0.mk (HV8_0.out.below hb)
 replace HV8_1 := Aside0.mk (HV8_1.out.below hb)
 replace HV9_0 := Aside0.mk (HV9_0.out.below hb)
 replace HV9_1 := Aside0.mk (HV9_1.out.below hb)
 replace HV9_2 := Aside0.mk (HV9_2.out.below hb)
 replace HV9_3 := Aside0.mk (HV9_3.out.below hb)
 replace HV10_0 := Aside0.mk (HV10_0.out.below hb)
 replace HV10_1 := Aside0.mk (HV10_1.out.below hb)
 replace HV10_2 := Aside0.mk (HV10_2.out.below hb)
 replace HV12_0 := Aside0.mk (HV12_0.out.below hb)
 replace HV12_1 := Aside0.mk (HV12_1.out.below hb)
 replace HV15_0 := Aside0.mk (HV15_0.out.below hb)
 replace HV15_1 := Aside0.mk (HV15_1.out.below hb)
 replace HV15_2 := Aside0.mk (HV15_2.out.below hb)
 replace HV15_3 := Aside0.mk (HV15_3.out.below hb)
 replace HV18_0 := Aside0.mk (HV18_0.out.below hb)
 replace HV18_1 := Aside0.mk (HV18_1.out.below hb)
 replace HV18_2 := Aside0.mk (HV18_2.out.below hb)
 replace HV23_0 := Aside0.mk (HV23_0.out.below hb)
 replace HV23_1 := Aside0.mk (HV23_1.out.below hb)
 replace BK1 := bkb_ BK1 hb
 replace BK2 := bkb_ BK2 hb
 replace BK3 := bkb_ BK3 hb
 replace BK13 := bkb_ BK13 hb
 replace BK16 := bkb_ BK16 hb
 replace BK19 := bkb_ BK19 hb
 replace HB := Aside0.mk (below_step HB.out hb)
 obtain ⟨Ao26_0,co26_0,eo⟩ := Kd.R_slice (Kd.S_R ho0)
 subst eo
 have HV26_0 := Aside0.mk (hnew _ _ _ _ _ _ (Kd.S_R ho0))
 have HIHV26_0 : Aside0 (hi26 ≤ hi26) := ⟨Nat.le_refl _⟩
 replace HQ := aq_ HQ HIHV26_0
 clear ho0
 obtain ⟨Ao26_1,co26_1,eo⟩ := Kd.R_slice (Kd.S_R ho1)
 subst eo
 have HV26_1 := Aside0.mk (hnew _ _ _ _ _ _ (Kd.S_R ho1))
 have HIHV26_1 : Aside0 (hi26 ≤ hi26) := ⟨Nat.le_refl _⟩
 replace HQ := aq_ HQ HIHV26_1
 clear ho1
 obtain ⟨Ao26_2,co26_2,eo⟩ := Kd.R_slice ho2
 subst eo
 have HV26_2 := Aside0.mk (hnew _ _ _ _ _ _ ho2)
 have HIHV26_2 : Aside0 (hi26 ≤ hi26) := ⟨Nat.le_refl _⟩
 replace HQ := aq_ HQ HIHV26_2
 clear ho2
 obtain ⟨Ao26_3,co26_3,eo⟩ := Kd.R_slice ho3
 subst eo
 have HV26_3 := Aside0.mk (hnew _ _ _ _ _ _ ho3)
 have HIHV26_3 : Aside0 (hi26 ≤ hi26) := ⟨Nat.le_refl _⟩
 replace HQ := aq_ HQ HIHV26_3
 clear ho3
 clear hnew hl1 hl2 hl3
 clear hb
 refine hK.out _ _ ⟨(blk_cell BK16.out 0).trans rfl,(blk_cell BK16.out 1).trans rfl,(blk_cell BK16.out 2).trans rfl,(blk_cell BK16.out 3).trans rfl,(blk_cell BK2.out 0).trans rfl,(blk_cell BK2.out 1).trans rfl,(blk_cell BK2.out 2).trans rfl,(blk_cell BK2.out 3).trans rfl⟩ (fun hHeld => ?_)
 clear hK K
 refine norm_ (a' := ?_) ?_ ?_
 rotate_left
 ·show Act.put _ (some 59) _ = _
  simp only [Act.put,List.setIfInBounds_toArray,List.set_cons_zero,List.set_cons_succ,i64_w,i32_w]
  rfl
 refine oN_ 3 (some 60) (mk_ 5 15) (fun K hK => ?_)
 refine gO_ Try.func28 #[.agg #[.slice Ao15_0 t16.length co15_0,.slice Ao15_1 t17.length co15_1,.slice Ao15_2 t18.length co15_2,.slice Ao15_3 t19.length co15_3],.agg #[.slice Ao26_0 t26.length co26_0,.slice Ao26_1 t27.length co26_1,.slice Ao26_2 t28.length co26_2,.slice Ao26_3 t29.length co26_3]] ?_
 (with_reducible refine (laws_eqMachine.calls k _ _ t16 _ _ t17 _ _ t18 _ _ t19 _ _ t26 _ _ t27 _ _ t28 _ _ t29 true _ ?side1 ?side2 ?side3 ?side4 ?side5 ?side6 ?side7 ?side8 ?side9 ?side10 ?side11 ?side12 ?side13 ?side14 ?side15 ?side16 A27.out).mono ?_)
 (case side1 => exact HV15_0.out.reads)
 (case side2 => exact HV15_0.out.room)
 (case side3 => exact HV15_1.out.reads)
 (case side4 => exact HV15_1.out.room)
 (case side5 => exact HV15_2.out.reads)
 (case side6 => exact HV15_2.out.room)
 (case side7 => exact HV15_3.out.reads)
 (case side8 => exact HV15_3.out.room)
 (case side9 => exact HV26_0.out.reads)
 (case side10 => exact HV26_0.out.room)
 (case side11 => exact HV26_1.out.reads)
 (case side12 => exact HV26_1.out.room)
 (case side13 => exact HV26_2.out.reads)
 (case side14 => exact HV26_2.out.room)
 (case side15 => exact HV26_3.out.reads)
 (case side16 => exact HV26_3.out.room)
 rintro e w27 ⟨rfl,hb⟩
 refine ⟨_,rfl,?_⟩
 replace HV8_0 := Aside0.mk (HV8_0.out.below hb)
 replace HV8_1 := Aside0.mk (HV8_1.out.below hb)
 replace HV9_0 := Aside0.mk (HV9_0.out.below hb)
 replace HV9_1 := Aside0.mk (HV9_1.out.below hb)
 replace HV9_2 := Aside0.mk (HV9_2.out.below hb)
 replace HV9_3 := Aside0.mk (HV9_3.out.below hb)
 replace HV10_0 := Aside0.mk (HV10_0.out.below hb)
 replace HV10_1 := Aside0.mk (HV10_1.out.below hb)
 replace HV10_2 := Aside0.mk (HV10_2.out.below hb)
 replace HV12_0 := Aside0.mk (HV12_0.out.below hb)
 replace HV12_1 := Aside0.mk (HV12_1.out.below hb)
 replace HV15_0 := Aside0.mk (HV15_0.out.below hb)
 replace HV15_1 := Aside0.mk (HV15_1.out.below hb)
 replace HV15_2 := Aside0.mk (HV15_2.out.below hb)
 replace HV15_3 := Aside0.mk (HV15_3.out.below hb)
 replace HV18_0 := Aside0.mk (HV18_0.out.below hb)
 replace HV18_1 := Aside0.mk (HV18_1.out.below hb)
 replace HV18_2 := Aside0.mk (HV18_2.out.below hb)
 replace HV23_0 := Aside0.mk (HV23_0.out.below hb)
 replace HV23_1 := Aside0.mk (HV23_1.out.below hb)
 replace HV26_0 := Aside0.mk (HV26_0.out.below hb)
 replace HV26_1 := Aside0.mk (HV26_1.out.below hb)
 replace HV26_2 := Aside0.mk (HV26_2.out.below hb)
 replace HV26_3 := Aside0.mk (HV26_3.out.below hb)
 replace BK1 := bkb_ BK1 hb
 replace BK2 := bkb_ BK2 hb
 replace BK3 := bkb_ BK3 hb
 replace BK13 := bkb_ BK13 hb
 replace BK16 := bkb_ BK16 hb
 replace BK19 := bkb_ BK19 hb
 replace HB := Aside0.mk (below_step HB.out hb)
 clear hb
 refine hK.out _ _ ⟨(blk_cell BK16.out 0).trans rfl,(blk_cell BK16.out 1).trans rfl,(blk_cell BK16.out 2).trans rfl,(blk_cell BK16.out 3).trans rfl,(blk_cell BK2.out 0).trans rfl,(blk_cell BK2.out 1).trans rfl,(blk_cell BK2.out 2).trans rfl,(blk_cell BK2.out 3).trans rfl⟩ (fun hHeld => ?_)
 clear hK K
 refine norm_ (a' := ?_) ?_ ?_
 rotate_left
 ·show Act.put _ (some 60) _ = _
  simp only [Act.put,List.setIfInBounds_toArray,List.set_cons_zero,List.set_cons_succ,i64_w,i32_w]
  rfl
 refine pU_ 4 (some 61) (mk_ 5 31) ?_
 refine done_ (by kernel_rfl) ?_
 (try clear hz24_1_0)
 (try clear hf24_1_0)
 (try clear hz24_1_1)
 (try clear hf24_1_1)
 (try clear hz24_2_0)
 (try clear hf24_2_0)
 (try clear hz24_2_1)
 (try clear hf24_2_1)
 (try clear hz24_2_2)
 (try clear hf24_2_2)
 (try clear hz24_2_3)
 (try clear hf24_2_3)
 (try clear hz24_3_0)
 (try clear hf24_3_0)
 (try clear hz24_3_1)
 (try clear hf24_3_1)
 (try clear hz24_3_2)
 (try clear hf24_3_2)
 (try clear hz24_13_0)
 (try clear hf24_13_0)
 (try clear hz24_13_1)
 (try clear hf24_13_1)
 (try clear hz24_16_0)
 (try clear hf24_16_0)
 (try clear hz24_16_1)
 (try clear hf24_16_1)
 (try clear hz24_16_2)
 (try clear hf24_16_2)
 (try clear hz24_16_3)
 (try clear hf24_16_3)
 (try clear hz24_19_0)
 (try clear hf24_19_0)
 (try clear hz24_19_1)
 (try clear hf24_19_1)
 (try clear hz24_19_2)
 (try clear hf24_19_2)
 obtain ⟨hz27_1_0,hf27_1_0,hz27_1_1,hf27_1_1⟩ := bx2_ BK1
 obtain ⟨hz27_2_0,hf27_2_0,hz27_2_1,hf27_2_1,hz27_2_2,hf27_2_2,hz27_2_3,hf27_2_3⟩ := bx4_ BK2
 obtain ⟨hz27_3_0,hf27_3_0,hz27_3_1,hf27_3_1,hz27_3_2,hf27_3_2⟩ := bx3_ BK3
 obtain ⟨hz27_13_0,hf27_13_0,hz27_13_1,hf27_13_1⟩ := bx2_ BK13
 obtain ⟨hz27_16_0,hf27_16_0,hz27_16_1,hf27_16_1,hz27_16_2,hf27_16_2,hz27_16_3,hf27_16_3⟩ := bx4_ BK16
 obtain ⟨hz27_19_0,hf27_19_0,hz27_19_1,hf27_19_1,hz27_19_2,hf27_19_2⟩ := bx3_ BK19
 go_wp2
 replace HV8_0 := Aside0.mk (HV8_0.out.drew)
 replace HV8_1 := Aside0.mk (HV8_1.out.drew)
 replace HV9_0 := Aside0.mk (HV9_0.out.drew)
 replace HV9_1 := Aside0.mk (HV9_1.out.drew)
 replace HV9_2 := Aside0.mk (HV9_2.out.drew)
 replace HV9_3 := Aside0.mk (HV9_3.out.drew)
 replace HV10_0 := Aside0.mk (HV10_0.out.drew)
 replace HV10_1 := Aside0.mk (HV10_1.out.drew)
 replace HV10_2 := Aside0.mk (HV10_2.out.drew)
 replace HV12_0 := Aside0.mk (HV12_0.out.drew)
 replace HV12_1 := Aside0.mk (HV12_1.out.drew)
 replace HV15_0 := Aside0.mk (HV15_0.out.drew)
 replace HV15_1 := Aside0.mk (HV15_1.out.drew)
 replace HV15_2 := Aside0.mk (HV15_2.out.drew)
 replace HV15_3 := Aside0.mk (HV15_3.out.drew)
 replace HV18_0 := Aside0.mk (HV18_0.out.drew)
 replace HV18_1 := Aside0.mk (HV18_1.out.drew)
 replace HV18_2 := Aside0.mk (HV18_2.out.drew)
 replace HV23_0 := Aside0.mk (HV23_0.out.drew)
 replace HV23_1 := Aside0.mk (HV23_1.out.drew)
 replace HV26_0 := Aside0.mk (HV26_0.out.drew)
 replace HV26_1 := Aside0.mk (HV26_1.out.drew)
 replace HV26_2 := Aside0.mk (HV26_2.out.drew)
 replace HV26_3 := Aside0.mk (HV26_3.out.drew)
 replace BK1 := Aside0.mk (blk_drew BK1.out)
 replace BK2 := Aside0.mk (blk_drew BK2.out)
 replace BK3 := Aside0.mk (blk_drew BK3.out)
 replace BK13 := Aside0.mk (blk_drew BK13.out)
 replace BK16 := Aside0.mk (blk_drew BK16.out)
 replace BK19 := Aside0.mk (blk_drew BK19.out)
 replace HB := Aside0.mk (below_drew1 HB.out)
 refine start_ (n := 5) (S := fun w' => w'.cell? ⟨gb19,0,none⟩ = some (.slice Ao18_0 t20.length co18_0) ∧ w'.cell? ⟨gb19,1,none⟩ = some (.slice Ao18_1 t21.length co18_1) ∧ w'.cell? ⟨gb19,2,none⟩ = some (.slice Ao18_2 t22.length co18_2) ∧ w'.cell? ⟨gb3,0,none⟩ = some (.slice A2_0 l2_0.length c2_0) ∧ w'.cell? ⟨gb3,1,none⟩ = some (.slice A2_1 l2_1.length c2_1) ∧ w'.cell? ⟨gb3,2,none⟩ = some (.slice A2_2 l2_2.length c2_2)) (ds := []) (mk_ 5 0) (by kernel_rfl) rfl rfl ⟨(blk_cell BK19.out 0).trans rfl,(blk_cell BK19.out 1).trans rfl,(blk_cell BK19.out 2).trans rfl,(blk_cell BK3.out 0).trans rfl,(blk_cell BK3.out 1).trans rfl,(blk_cell BK3.out 2).trans rfl⟩ (fun hHeld => ?_)
 generalize w27.drew = w28 at HV8_0 HV8_1 HV9_0 HV9_1 HV9_2 HV9_3 HV10_0 HV10_1 HV10_2 HV12_0 HV12_1 HV15_0 HV15_1 HV15_2 HV15_3 HV18_0 HV18_1 HV18_2 HV23_0 HV23_1 HV26_0 HV26_1 HV26_2 HV26_3 BK1 BK2 BK3 BK13 BK16 BK19 HB hHeld ⊢
 refine tK6_ 0 (some 62) (mk_ 5 1) ?_
 refine tK6_ 1 (some 63) (mk_ 5 3) ?_
 refine oN_ 2 (some 64) (mk_ 5 7) (fun K hK => ?_)
 refine gO_ Try.func35 #[.agg #[.slice A2_0 l2_0.length c2_0,.slice A2_1 l2_1.length c2_1,.slice A2_2 l2_2.length c2_2]] ?_
 (with_reducible refine (laws_toSource.calls k _ _ l2_0 _ _ l2_1 _ _ l2_2 t30 t31 t32 _ ?side1 ?side2 ?side3 ?side4 ?side5 ?side6 A29.out).mono ?_)
 (case side1 => exact Kd.C_below HR2_0.out HB.out)
 (case side2 => exact HC2_0.out)
 (case side3 => exact Kd.C_below HR2_1.out HB.out)
 (case side4 => exact HC2_1.out)
 (case side5 => exact Kd.C_below HR2_2.out HB.out)
 (case side6 => exact HC2_2.out)
 rintro e w29 ⟨vv29_0,vv29_1,vv29_2,rfl,ho0,ho1,ho2,hb⟩
 refine ⟨_,rfl,?_⟩
 obtain ⟨lo29,hi29,hl1,hl2,hl3,hnew⟩ := St.new (hi26) HV26_0.out.1 hb.size
 have HN29 : Aside0 (hi26 ≤ lo29 ∧ lo29 ≤ hi29) := ⟨hl1,hl2⟩
 replace HQ := aq_ HQ HN29
 replace HV8_0 := Aside0.mk (HV8_0.out.below hb)
 replace HV8_1 := Aside0.mk (HV8_1.out.below hb)
 replace HV9_0 := Aside0.mk (HV9_0.out.below hb)
 replace HV9_1 := Aside0.mk (HV9_1.out.below hb)
 replace HV9_2 := Aside0.mk (HV9_2.out.below hb)
 replace HV9_3 := Aside0.mk (HV9_3.out.below hb)
 replace HV10_0 := Aside0.mk (HV10_0.out.below hb)
 replace HV10_1 := Aside0.mk (HV10_1.out.below hb)
 replace HV10_2 := Aside0.mk (HV10_2.out.below hb)
 replace HV12_0 := Aside0.mk (HV12_0.out.below hb)
 replace HV12_1 := Aside0.mk (HV12_1.out.below hb)
 replace HV15_0 := Aside0.mk (HV15_0.out.below hb)
 replace HV15_1 := Aside0.mk (HV15_1.out.below hb)
 replace HV15_2 := Aside0.mk (HV15_2.out.below hb)
 replace HV15_3 := Aside0.mk (HV15_3.out.below hb)
 replace HV18_0 := Aside0.mk (HV18_0.out.below hb)
 replace HV18_1 := Aside0.mk (HV18_1.out.below hb)
 replace HV18_2 := Aside0.mk (HV18_2.out.below hb)
 replace HV23_0 := Aside0.mk (HV23_0.out.below hb)
 replace HV23_1 := Aside0.mk (HV23_1.out.below hb)
 replace HV26_0 := Aside0.mk (HV26_0.out.below hb)
 replace HV26_1 := Aside0.mk (HV26_1.out.below hb)
 replace HV26_2 := Aside0.mk (HV26_2.out.below hb)
 replace HV26_3 := Aside0.mk (HV26_3.out.below hb)
 replace BK1 := bkb_ BK1 hb
 replace BK2 := bkb_ BK2 hb
 replace BK3 := bkb_ BK3 hb
 replace BK13 := bkb_ BK13 hb
 replace BK16 := bkb_ BK16 hb
 replace BK19 := bkb_ BK19 hb
 replace HB := Aside0.mk (below_step HB.out hb)
 obtain ⟨Ao29_0,co29_0,eo⟩ := Kd.R_slice (Kd.S_R ho0)
 subst eo
 have HV29_0 := Aside0.mk (hnew _ _ _ _ _ _ (Kd.S_R ho0))
 have HIHV29_0 : Aside0 (hi29 ≤ hi29) := ⟨Nat.le_refl _⟩
 replace HQ := aq_ HQ HIHV29_0
 clear ho0
 obtain ⟨Ao29_1,co29_1,eo⟩ := Kd.R_slice (Kd.S_R ho1)
 subst eo
 have HV29_1 := Aside0.mk (hnew _ _ _ _ _ _ (Kd.S_R ho1))
 have HIHV29_1 : Aside0 (hi29 ≤ hi29) := ⟨Nat.le_refl _⟩
 replace HQ := aq_ HQ HIHV29_1
 clear ho1
 obtain ⟨Ao29_2,co29_2,eo⟩ := Kd.R_slice ho2
 subst eo
 have HV29_2 := Aside0.mk (hnew _ _ _ _ _ _ ho2)
 have HIHV29_2 : Aside0 (hi29 ≤ hi29) := ⟨Nat.le_refl _⟩
 replace HQ := aq_ HQ HIHV29_2
 clear ho2
 clear hnew hl1 hl2 hl3
 clear hb
 refine hK.out _ _ ⟨(blk_cell BK19.out 0).trans rfl,(blk_cell BK19.out 1).trans rfl,(blk_cell BK19.out 2).trans rfl,(blk_cell BK3.out 0).trans rfl,(blk_cell BK3.out 1).trans rfl,(blk_cell BK3.out 2).trans rfl⟩ (fun hHeld => ?_)
 clear hK K
 refine norm_ (a' := ?_) ?_ ?_
 rotate_left
 ·show Act.put _ (some 64) _ = _
  simp only [Act.put,List.setIfInBounds_toArray,List.set_cons_zero,List.set_cons_succ,i64_w,i32_w]
  rfl
 refine oN_ 3 (some 65) (mk_ 5 15) (fun K hK => ?_)
 refine gO_ Try.func19 #[.agg #[.slice Ao18_0 t20.length co18_0,.slice Ao18_1 t21.length co18_1,.slice Ao18_2 t22.length co18_2],.agg #[.slice Ao29_0 t30.length co29_0,.slice Ao29_1 t31.length co29_1,.slice Ao29_2 t32.length co29_2]] ?_
 (with_reducible refine (laws_eqSource.calls k _ _ t20 _ _ t21 _ _ t22 _ _ t30 _ _ t31 _ _ t32 true _ ?side1 ?side2 ?side3 ?side4 ?side5 ?side6 ?side7 ?side8 ?side9 ?side10 ?side11 ?side12 A30.out).mono ?_)
 (case side1 => exact HV18_0.out.reads)
 (case side2 => exact HV18_0.out.room)
 (case side3 => exact HV18_1.out.reads)
 (case side4 => exact HV18_1.out.room)
 (case side5 => exact HV18_2.out.reads)
 (case side6 => exact HV18_2.out.room)
 (case side7 => exact HV29_0.out.reads)
 (case side8 => exact HV29_0.out.room)
 (case side9 => exact HV29_1.out.reads)
 (case side10 => exact HV29_1.out.room)
 (case side11 => exact HV29_2.out.reads)
 (case side12 => exact HV29_2.out.room)
 rintro e w30 ⟨rfl,hb⟩
 refine ⟨_,rfl,?_⟩
 replace HV8_0 := Aside0.mk (HV8_0.out.below hb)
 replace HV8_1 := Aside0.mk (HV8_1.out.below hb)
 replace HV9_0 := Aside0.mk (HV9_0.out.below hb)
 replace HV9_1 := Aside0.mk (HV9_1.out.below hb)
 replace HV9_2 := Aside0.mk (HV9_2.out.below hb)
 replace HV9_3 := Aside0.mk (HV9_3.out.below hb)
 replace HV10_0 := Aside0.mk (HV10_0.out.below hb)
 replace HV10_1 := Aside0.mk (HV10_1.out.below hb)
 replace HV10_2 := Aside0.mk (HV10_2.out.below hb)
 replace HV12_0 := Aside0.mk (HV12_0.out.below hb)
 replace HV12_1 := Aside0.mk (HV12_1.out.below hb)
 replace HV15_0 := Aside0.mk (HV15_0.out.below hb)
 replace HV15_1 := Aside0.mk (HV15_1.out.below hb)
 replace HV15_2 := Aside0.mk (HV15_2.out.below hb)
 replace HV15_3 := Aside0.mk (HV15_3.out.below hb)
 replace HV18_0 := Aside0.mk (HV18_0.out.below hb)
 replace HV18_1 := Aside0.mk (HV18_1.out.below hb)
 replace HV18_2 := Aside0.mk (HV18_2.out.below hb)
 replace HV23_0 := Aside0.mk (HV23_0.out.below hb)
 replace HV23_1 := Aside0.mk (HV23_1.out.below hb)
 replace HV26_0 := Aside0.mk (HV26_0.out.below hb)
 replace HV26_1 := Aside0.mk (HV26_1.out.below hb)
 replace HV26_2 := Aside0.mk (HV26_2.out.below hb)
 replace HV26_3 := Aside0.mk (HV26_3.out.below hb)
 replace HV29_0 := Aside0.mk (HV29_0.out.below hb)
 replace HV29_1 := Aside0.mk (HV29_1.out.below hb)
 replace HV29_2 := Aside0.mk (HV29_2.out.below hb)
 replace BK1 := bkb_ BK1 hb
 replace BK2 := bkb_ BK2 hb
 replace BK3 := bkb_ BK3 hb
 replace BK13 := bkb_ BK13 hb
 replace BK16 := bkb_ BK16 hb
 replace BK19 := bkb_ BK19 hb
 replace HB := Aside0.mk (below_step HB.out hb)
 clear hb
 refine hK.out _ _ ⟨(blk_cell BK19.out 0).trans rfl,(blk_cell BK19.out 1).trans rfl,(blk_cell BK19.out 2).trans rfl,(blk_cell BK3.out 0).trans rfl,(blk_cell BK3.out 1).trans rfl,(blk_cell BK3.out 2).trans rfl⟩ (fun hHeld => ?_)
 clear hK K
 refine norm_ (a' := ?_) ?_ ?_
 rotate_left
 ·show Act.put _ (some 65) _ = _
  simp only [Act.put,List.setIfInBounds_toArray,List.set_cons_zero,List.set_cons_succ,i64_w,i32_w]
  rfl
 refine pU_ 4 (some 66) (mk_ 5 31) ?_
 refine done_ (by kernel_rfl) ?_
 (try clear hz27_1_0)
 (try clear hf27_1_0)
 (try clear hz27_1_1)
 (try clear hf27_1_1)
 (try clear hz27_2_0)
 (try clear hf27_2_0)
 (try clear hz27_2_1)
 (try clear hf27_2_1)
 (try clear hz27_2_2)
 (try clear hf27_2_2)
 (try clear hz27_2_3)
 (try clear hf27_2_3)
 (try clear hz27_3_0)
 (try clear hf27_3_0)
 (try clear hz27_3_1)
 (try clear hf27_3_1)
 (try clear hz27_3_2)
 (try clear hf27_3_2)
 (try clear hz27_13_0)
 (try clear hf27_13_0)
 (try clear hz27_13_1)
 (try clear hf27_13_1)
 (try clear hz27_16_0)
 (try clear hf27_16_0)
 (try clear hz27_16_1)
 (try clear hf27_16_1)
 (try clear hz27_16_2)
 (try clear hf27_16_2)
 (try clear hz27_16_3)
 (try clear hf27_16_3)
 (try clear hz27_19_0)
 (try clear hf27_19_0)
 (try clear hz27_19_1)
 (try clear hf27_19_1)
 (try clear hz27_19_2)
 (try clear hf27_19_2)
 obtain ⟨hz30_1_0,hf30_1_0,hz30_1_1,hf30_1_1⟩ := bx2_ BK1
 obtain ⟨hz30_2_0,hf30_2_0,hz30_2_1,hf30_2_1,hz30_2_2,hf30_2_2,hz30_2_3,hf30_2_3⟩ := bx4_ BK2
 obtain ⟨hz30_3_0,hf30_3_0,hz30_3_1,hf30_3_1,hz30_3_2,hf30_3_2⟩ := bx3_ BK3
 obtain ⟨hz30_13_0,hf30_13_0,hz30_13_1,hf30_13_1⟩ := bx2_ BK13
 obtain ⟨hz30_16_0,hf30_16_0,hz30_16_1,hf30_16_1,hz30_16_2,hf30_16_2,hz30_16_3,hf30_16_3⟩ := bx4_ BK16
 obtain ⟨hz30_19_0,hf30_19_0,hz30_19_1,hf30_19_1,hz30_19_2,hf30_19_2⟩ := bx3_ BK19
 go_wp2
 go_ret
 exact ⟨rfl,HB.out⟩
set_option maxHeartbeats 16000000 in
set_option maxRecDepth 100000 in
theorem laws_FnExactChanSame.calls (k : Nat) (A0_0 : Option Addr) (c0_0 : Nat) (l0_0 : List Int) (A0_1 : Option Addr) (c0_1 : Nat) (l0_1 : List (List (S208))) (A1_0 : Option Addr) (c1_0 : Nat) (l1_0 : List (List (S177))) (A1_1 : Option Addr) (c1_1 : Nat) (l1_1 : List (S194)) (A1_2 : Option Addr) (c1_2 : Nat) (l1_2 : List (List (S238))) (A1_3 : Option Addr) (c1_3 : Nat) (l1_3 : List (S190)) (A2_0 : Option Addr) (c2_0 : Nat) (l2_0 : List (S184)) (A2_1 : Option Addr) (c2_1 : Nat) (l2_1 : List (S186)) (A2_2 : Option Addr) (c2_2 : Nat) (l2_2 : List (S190)) (a3 : Int) (r : Bool) (w : World) (hr0_0 : Kd.C (Kd.int .i64) w A0_0 l0_0.length l0_0) (hc0_0 : l0_0.length ≤ c0_0) (hr0_1 : Kd.C (Kd.slice 208 k208) w A0_1 l0_1.length l0_1) (hc0_1 : l0_1.length ≤ c0_1) (hr1_0 : Kd.C (Kd.slice 177 k177) w A1_0 l1_0.length l1_0) (hc1_0 : l1_0.length ≤ c1_0) (hr1_1 : Kd.C k194 w A1_1 l1_1.length l1_1) (hc1_1 : l1_1.length ≤ c1_1) (hr1_2 : Kd.C (Kd.slice 238 k238) w A1_2 l1_2.length l1_2) (hc1_2 : l1_2.length ≤ c1_2) (hr1_3 : Kd.C k190 w A1_3 l1_3.length l1_3) (hc1_3 : l1_3.length ≤ c1_3) (hr2_0 : Kd.C k184 w A2_0 l2_0.length l2_0) (hc2_0 : l2_0.length ≤ c2_0) (hr2_1 : Kd.C k186 w A2_1 l2_1.length l2_1) (hc2_1 : l2_1.length ≤ c2_1) (hr2_2 : Kd.C k190 w A2_2 l2_2.length l2_2) (hc2_2 : l2_2.length ≤ c2_2) (h : laws_FnExactChanSame.f k l0_0 l0_1 l1_0 l1_1 l1_2 l1_3 l2_0 l2_1 l2_2 a3 = some r) (hr : r = true) :
  Calls Try.prog 8 #[.agg #[.slice A0_0 l0_0.length c0_0,.slice A0_1 l0_1.length c0_1],.agg #[.slice A1_0 l1_0.length c1_0,.slice A1_1 l1_1.length c1_1,.slice A1_2 l1_2.length c1_2,.slice A1_3 l1_3.length c1_3],.agg #[.slice A2_0 l2_0.length c2_0,.slice A2_1 l2_1.length c2_1,.slice A2_2 l2_2.length c2_2],.int .i64 a3] w fun e w' => e = .returned (.bool r) ∧ Below w.heap.size w w' := by
 subst hr
 simp only [laws_FnExactChanSame.f] at h
 obtain ⟨t1,A4,h⟩ := Option.bind_eq_some_iff.mp h
 by_cases hq0 : t1 < 0
 case pos => exact FnExactChanSame_exit0 k A0_0 c0_0 l0_0 A0_1 c0_1 l0_1 A1_0 c1_0 l1_0 A1_1 c1_1 l1_1 A1_2 c1_2 l1_2 A1_3 c1_3 l1_3 A2_0 c2_0 l2_0 A2_1 c2_1 l2_1 A2_2 c2_2 l2_2 a3 t1 w hr0_0 hc0_0 hr0_1 hc0_1 hr1_0 hc1_0 hr1_1 hc1_1 hr1_2 hc1_2 hr1_3 hc1_3 hr2_0 hc2_0 hr2_1 hc2_1 hr2_2 hc2_2 A4 hq0
 rw [if_neg hq0] at h
 obtain ⟨t2,A5,h⟩ := Option.bind_eq_some_iff.mp h
 by_cases hq1 : t2 < 0
 case pos => exact FnExactChanSame_exit1 k A0_0 c0_0 l0_0 A0_1 c0_1 l0_1 A1_0 c1_0 l1_0 A1_1 c1_1 l1_1 A1_2 c1_2 l1_2 A1_3 c1_3 l1_3 A2_0 c2_0 l2_0 A2_1 c2_1 l2_1 A2_2 c2_2 l2_2 a3 t1 t2 w hr0_0 hc0_0 hr0_1 hc0_1 hr1_0 hc1_0 hr1_1 hc1_1 hr1_2 hc1_2 hr1_3 hc1_3 hr2_0 hc2_0 hr2_1 hc2_1 hr2_2 hc2_2 A4 hq0 A5 hq1
 rw [if_neg hq1] at h
 obtain ⟨t3,A6,h⟩ := Option.bind_eq_some_iff.mp h
 by_cases hq2 : t3 < 0
 case pos => exact FnExactChanSame_exit2 k A0_0 c0_0 l0_0 A0_1 c0_1 l0_1 A1_0 c1_0 l1_0 A1_1 c1_1 l1_1 A1_2 c1_2 l1_2 A1_3 c1_3 l1_3 A2_0 c2_0 l2_0 A2_1 c2_1 l2_1 A2_2 c2_2 l2_2 a3 t1 t2 t3 w hr0_0 hc0_0 hr0_1 hc0_1 hr1_0 hc1_0 hr1_1 hc1_1 hr1_2 hc1_2 hr1_3 hc1_3 hr2_0 hc2_0 hr2_1 hc2_1 hr2_2 hc2_2 A4 hq0 A5 hq1 A6 hq2
 rw [if_neg hq2] at h
 obtain ⟨⟨t4,t5⟩,A8,h⟩ := Option.bind_eq_some_iff.mp h
 (try simp only [] at h)
 obtain ⟨⟨t6,t7,t8,t9⟩,A9,h⟩ := Option.bind_eq_some_iff.mp h
 (try simp only [] at h)
 obtain ⟨⟨t10,t11,t12⟩,A10,h⟩ := Option.bind_eq_some_iff.mp h
 (try simp only [] at h)
 obtain ⟨t13,A11,h⟩ := Option.bind_eq_some_iff.mp h
 obtain ⟨⟨t14,t15⟩,A12,h⟩ := Option.bind_eq_some_iff.mp h
 (try simp only [] at h)
 obtain ⟨⟨t16,t17,t18,t19⟩,A15,h⟩ := Option.bind_eq_some_iff.mp h
 (try simp only [] at h)
 obtain ⟨⟨t20,t21,t22⟩,A18,h⟩ := Option.bind_eq_some_iff.mp h
 (try simp only [] at h)
 obtain ⟨t23,A21,h⟩ := Option.bind_eq_some_iff.mp h
 by_cases ct23 : t23 = t13
 case neg => rw [if_neg ct23] at h;exact absurd (Option.some.inj h) (by decide)
 rw [if_pos ct23] at h
 replace ct23 := ct23.symm
 subst ct23
 obtain ⟨⟨t24,t25⟩,A23,h⟩ := Option.bind_eq_some_iff.mp h
 (try simp only [] at h)
 obtain ⟨eA24,A24,h⟩ := Option.bind_eq_some_iff.mp h
 by_cases cA24 : eA24 = true
 case neg => rw [if_neg cA24] at h;exact absurd (Option.some.inj h) (by decide)
 rw [if_pos cA24] at h
 subst cA24
 obtain ⟨⟨t26,t27,t28,t29⟩,A26,h⟩ := Option.bind_eq_some_iff.mp h
 (try simp only [] at h)
 obtain ⟨eA27,A27,h⟩ := Option.bind_eq_some_iff.mp h
 by_cases cA27 : eA27 = true
 case neg => rw [if_neg cA27] at h;exact absurd (Option.some.inj h) (by decide)
 rw [if_pos cA27] at h
 subst cA27
 obtain ⟨⟨t30,t31,t32⟩,A29,h⟩ := Option.bind_eq_some_iff.mp h
 (try simp only [] at h)
 obtain ⟨eA30,A30,h⟩ := Option.bind_eq_some_iff.mp h
 by_cases cA30 : eA30 = true
 case neg => rw [if_neg cA30] at h;exact absurd (Option.some.inj h) (by decide)
 rw [if_pos cA30] at h
 subst cA30
 exact FnExactChanSame_main k A0_0 c0_0 l0_0 A0_1 c0_1 l0_1 A1_0 c1_0 l1_0 A1_1 c1_1 l1_1 A1_2 c1_2 l1_2 A1_3 c1_3 l1_3 A2_0 c2_0 l2_0 A2_1 c2_1 l2_1 A2_2 c2_2 l2_2 a3 t1 t2 t3 t4 t5 t6 t7 t8 t9 t10 t11 t12 t13 t14 t15 t16 t17 t18 t19 t20 t21 t22 t24 t25 t26 t27 t28 t29 t30 t31 t32 w hr0_0 hc0_0 hr0_1 hc0_1 hr1_0 hc1_0 hr1_1 hc1_1 hr1_2 hc1_2 hr1_3 hc1_3 hr2_0 hc2_0 hr2_1 hc2_1 hr2_2 hc2_2 A4 hq0 A5 hq1 A6 hq2 A8 A9 A10 A11 A12 A15 A18 A21 A23 A24 A26 A27 A29 A30
end Go.Proofs.Ytobachfngmpeiaa.PFnExactChanSame
