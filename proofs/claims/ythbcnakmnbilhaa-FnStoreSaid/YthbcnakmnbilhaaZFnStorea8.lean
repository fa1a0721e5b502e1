/- A part of the proof that the law FnStore holds for every input: the words, functions and walks that its row needs, without a condition of their own. -/
import Derived.Test.YthbcnakmnbilhaaZFnStorea2
import Derived.Test.YthbcnakmnbilhaaZFnStorea3
import Derived.Test.YthbcnakmnbilhaaZFnStorea6
import Derived.Test.YthbcnakmnbilhaaZFnStorea7
import Derived.Test.YthbcnakmnbilhaaZFnStores
namespace Go.Proofs.Ythbcnakmnbilhaa.PFnStore
open Go.RowKit Go.Proofs.YthbcnakmnbilhaaW.PrintWords Go.Proofs.YthbcnakmnbilhaaW.PrintLast Go.Proofs.YthbcnakmnbilhaaW.PrintMore Go.Proofs.Ythbcnakmnbilhaa.SepMark
attribute [local go_sem] max2_int min2_int max_two min_two max_three min_three max_four min_four   -- for this text's walks alone
set_option linter.unusedVariables false
set_option linter.unusedSimpArgs false
def spec_l1Below.f (s0_0 : List Int) (s0_1 : Int) (s0_2 : Int) (a1 : Int) : Option (Int × Int × Int) := if a1 ≤ 0 then (some (0,s0_1,s0_2)) else (if a1 ≤ 256 then ((spec_l1Byte.f s0_0 s0_1 s0_2).bind fun bt219 => (if a1 = 0 then (none) else (some (Int.tmod bt219.1 a1,bt219.2.1,bt219.2.2)))) else ((spec_l1Byte.f s0_0 s0_1 s0_2).bind fun bt222 => ((spec_l1Byte.f s0_0 bt222.2.1 bt222.2.2).bind fun bt225 => ((spec_l1Byte.f s0_0 bt225.2.1 bt225.2.2).bind fun bt228 => ((spec_l1Byte.f s0_0 bt228.2.1 bt228.2.2).bind fun bt231 => (if a1 = 0 then (none) else (some (Int.tmod (wrap64 ((wrap64 ((wrap64 ((wrap64 (bt222.1 * 16777216)) + (wrap64 (bt225.1 * 65536)))) + (wrap64 (bt228.1 * 256)))) + bt231.1)) a1,bt231.2.1,bt231.2.2))))))))
set_option maxHeartbeats 8000000 in
set_option maxRecDepth 100000 in
theorem spec_l1Below.calls (g : Nat) (s0_0 : List Int) (s0_1 : Int) (s0_2 : Int) (a1 : Int) (r1 : Int) (r2 : Int) (r3 : Int) (w0 w : World) (hI : IsS119 w0 w g s0_0 s0_1 s0_2) (hB : Below w0.heap.size w0 w) (h : spec_l1Below.f s0_0 s0_1 s0_2 a1 = some (r1,r2,r3)) :
  Calls Try.prog 84 #[.pointer (some ⟨g,0,none⟩),.int .i64 a1] w fun e w' => e = .returned (.int .i64 r1) ∧ IsS119 w0 w' g s0_0 r2 r3 ∧ Below w0.heap.size w0 w' ∧ KeepBut w w' g none := by
 have HI0 := aM_ hI
 have HK := aM_ (KeepBut.refl w g none)
 have HL := aM_ hB.size
 clear hI
 have HW0 := aM_ hB.size
 have HB := aM_ hB
 clear hB
 have H : (if a1 ≤ 0 then (some (0,s0_1,s0_2)) else (if a1 ≤ 256 then ((spec_l1Byte.f s0_0 s0_1 s0_2).bind fun bt219 => (if a1 = 0 then (none) else (some (Int.tmod bt219.1 a1,bt219.2.1,bt219.2.2)))) else ((spec_l1Byte.f s0_0 s0_1 s0_2).bind fun bt222 => ((spec_l1Byte.f s0_0 bt222.2.1 bt222.2.2).bind fun bt225 => ((spec_l1Byte.f s0_0 bt225.2.1 bt225.2.2).bind fun bt228 => ((spec_l1Byte.f s0_0 bt228.2.1 bt228.2.2).bind fun bt231 => (if a1 = 0 then (none) else (some (Int.tmod (wrap64 ((wrap64 ((wrap64 ((wrap64 (bt222.1 * 16777216)) + (wrap64 (bt225.1 * 65536)))) + (wrap64 (bt228.1 * 256)))) + bt231.1)) a1,bt231.2.1,bt231.2.2))))))))) = some (r1,r2,r3) := h
 clear h
 by_cases c3 : a1 ≤ 0
 ·rw [if_pos c3] at H
  have c3b0 : decide (a1 ≤ 0) = true := decide_eq_true c3
  clear c3
  simp only [Option.some.injEq,Prod.mk.injEq] at H
  obtain ⟨rfl,rfl,rfl⟩ := H
  go_enter Try.func84,Try.ntmps84
  go_wp2
  go_ret
  exact ⟨fR_,gI119_ HI0.out,gB119_ HB.out,gK_ HK.out⟩
 ·rw [if_neg c3] at H
  have c3b0 : decide (a1 ≤ 0) = false := decide_eq_false c3
  clear c3
  by_cases c4 : a1 ≤ 256
  ·rw [if_pos c4] at H
   have c4b0 : decide (a1 ≤ 256) = true := decide_eq_true c4
   clear c4
   replace H := Option.bind_eq_some_iff.mp H
   obtain ⟨⟨t219,t220,t221⟩,A50,H⟩ := H
   replace H : (if a1 = 0 then (none) else (some (Int.tmod t219 a1,t220,t221))) = some (r1,r2,r3) := H
   have A5 := aM_ A50
   clear A50
   by_cases c6 : a1 = 0
   ·rw [if_pos c6] at H
    exact absurd H (by simp)
   ·rw [if_neg c6] at H
    have c6b0 : (a1 == 0) = false := beq_eq_false_iff_ne.mpr c6
    have c6b1 : (a1 != 0) = true := bne_iff_ne.mpr c6
    simp only [Option.some.injEq,Prod.mk.injEq] at H
    obtain ⟨rfl,rfl,rfl⟩ := H
    go_enter Try.func84,Try.ntmps84
    go_wp2_with (first | ((with_reducible refine gate_callee (f := 107) rfl ?_);refine gL_ (some 14) Try.func107 #[.pointer (some ⟨g,0,none⟩)] ?_;(with_reducible refine (spec_l1Byte.calls g s0_0 s0_1 s0_2 t219 t220 t221 w0 _ ?side1 ?side2 A5.out).mono ?_);(case side1 => exact gI119_ HI0.out);(case side2 => exact gB119_ HB.out);rintro e w7 ⟨rfl,hi,hb,hk⟩;refine ⟨_,rfl,?_⟩;have n0 := aM_ (KeepBut.trans (gK_ HK.out) hk (.inl rfl));have n1 := aM_ (hb);have n2 := aM_ (hi);clear HK;clear HB;clear HI0;have HK := n0;have HB := n1;have HI0 := n2;clear n0 n1 n2))
    go_ret
    exact ⟨fR_,gI119_ HI0.out,gB119_ HB.out,gK_ HK.out⟩
  ·rw [if_neg c4] at H
   have c4b0 : decide (a1 ≤ 256) = false := decide_eq_false c4
   clear c4
   replace H := Option.bind_eq_some_iff.mp H
   obtain ⟨⟨t222,t223,t224⟩,A80,H⟩ := H
   replace H : ((spec_l1Byte.f s0_0 t223 t224).bind fun bt225 => ((spec_l1Byte.f s0_0 bt225.2.1 bt225.2.2).bind fun bt228 => ((spec_l1Byte.f s0_0 bt228.2.1 bt228.2.2).bind fun bt231 => (if a1 = 0 then (none) else (some (Int.tmod (wrap64 ((wrap64 ((wrap64 ((wrap64 (t222 * 16777216)) + (wrap64 (bt225.1 * 65536)))) + (wrap64 (bt228.1 * 256)))) + bt231.1)) a1,bt231.2.1,bt231.2.2)))))) = some (r1,r2,r3) := H
   have A8 := aM_ A80
   clear A80
   replace H := Option.bind_eq_some_iff.mp H
   obtain ⟨⟨t225,t226,t227⟩,A90,H⟩ := H
   replace H : ((spec_l1Byte.f s0_0 t226 t227).bind fun bt228 => ((spec_l1Byte.f s0_0 bt228.2.1 bt228.2.2).bind fun bt231 => (if a1 = 0 then (none) else (some (Int.tmod (wrap64 ((wrap64 ((wrap64 ((wrap64 (t222 * 16777216)) + (wrap64 (t225 * 65536)))) + (wrap64 (bt228.1 * 256)))) + bt231.1)) a1,bt231.2.1,bt231.2.2))))) = some (r1,r2,r3) := H
   have A9 := aM_ A90
   clear A90
   replace H := Option.bind_eq_some_iff.mp H
   obtain ⟨⟨t228,t229,t230⟩,A100,H⟩ := H
   replace H : ((spec_l1Byte.f s0_0 t229 t230).bind fun bt231 => (if a1 = 0 then (none) else (some (Int.tmod (wrap64 ((wrap64 ((wrap64 ((wrap64 (t222 * 16777216)) + (wrap64 (t225 * 65536)))) + (wrap64 (t228 * 256)))) + bt231.1)) a1,bt231.2.1,bt231.2.2)))) = some (r1,r2,r3) := H
   have A10 := aM_ A100
   clear A100
   replace H := Option.bind_eq_some_iff.mp H
   obtain ⟨⟨t231,t232,t233⟩,A110,H⟩ := H
   replace H : (if a1 = 0 then (none) else (some (Int.tmod (wrap64 ((wrap64 ((wrap64 ((wrap64 (t222 * 16777216)) + (wrap64 (t225 * 65536)))) + (wrap64 (t228 * 256)))) + t231)) a1,t232,t233))) = some (r1,r2,r3) := H
   have A11 := aM_ A110
   clear A110
   by_cases c12 : a1 = 0
   ·rw [if_pos c12] at H
    exact absurd H (by simp)
   ·rw [if_neg c12] at H
    have c12b0 : (a1 == 0) = false := beq_eq_false_iff_ne.mpr c12
    have c12b1 : (a1 != 0) = true := bne_iff_ne.mpr c12
    simp only [Option.some.injEq,Prod.mk.injEq] at H
    obtain ⟨rfl,rfl,rfl⟩ := H
    go_enter Try.func84,Try.ntmps84
    go_wp2_with (first | ((with_reducible refine gate_callee (f := 107) rfl ?_);refine gL_ (some 18) Try.func107 #[.pointer (some ⟨g,0,none⟩)] ?_;(with_reducible refine (spec_l1Byte.calls g s0_0 s0_1 s0_2 t222 t223 t224 w0 _ ?side1 ?side2 A8.out).mono ?_);(case side1 => exact gI119_ HI0.out);(case side2 => exact gB119_ HB.out);rintro e w13 ⟨rfl,hi,hb,hk⟩;refine ⟨_,rfl,?_⟩;have n0 := aM_ (KeepBut.trans (gK_ HK.out) hk (.inl rfl));have n1 := aM_ (hb);have n2 := aM_ (hi);clear HK;clear HB;clear HI0;have HK := n0;have HB := n1;have HI0 := n2;clear n0 n1 n2) | ((with_reducible refine gate_callee (f := 107) rfl ?_);refine gL_ (some 20) Try.func107 #[.pointer (some ⟨g,0,none⟩)] ?_;(with_reducible refine (spec_l1Byte.calls g s0_0 t223 t224 t225 t226 t227 w0 _ ?side1 ?side2 A9.out).mono ?_);(case side1 => exact gI119_ HI0.out);(case side2 => exact gB119_ HB.out);rintro e w14 ⟨rfl,hi,hb,hk⟩;refine ⟨_,rfl,?_⟩;have n0 := aM_ (KeepBut.trans (gK_ HK.out) hk (.inl rfl));have n1 := aM_ (hb);have n2 := aM_ (hi);clear HK;clear HB;clear HI0;have HK := n0;have HB := n1;have HI0 := n2;clear n0 n1 n2) | ((with_reducible refine gate_callee (f := 107) rfl ?_);refine gL_ (some 22) Try.func107 #[.pointer (some ⟨g,0,none⟩)] ?_;(with_reducible refine (spec_l1Byte.calls g s0_0 t226 t227 t228 t229 t230 w0 _ ?side1 ?side2 A10.out).mono ?_);(case side1 => exact gI119_ HI0.out);(case side2 => exact gB119_ HB.out);rintro e w15 ⟨rfl,hi,hb,hk⟩;refine ⟨_,rfl,?_⟩;have n0 := aM_ (KeepBut.trans (gK_ HK.out) hk (.inl rfl));have n1 := aM_ (hb);have n2 := aM_ (hi);clear HK;clear HB;clear HI0;have HK := n0;have HB := n1;have HI0 := n2;clear n0 n1 n2) | ((with_reducible refine gate_callee (f := 107) rfl ?_);refine gL_ (some 24) Try.func107 #[.pointer (some ⟨g,0,none⟩)] ?_;(with_reducible refine (spec_l1Byte.calls g s0_0 t229 t230 t231 t232 t233 w0 _ ?side1 ?side2 A11.out).mono ?_);(case side1 => exact gI119_ HI0.out);(case side2 => exact gB119_ HB.out);rintro e w16 ⟨rfl,hi,hb,hk⟩;refine ⟨_,rfl,?_⟩;have n0 := aM_ (KeepBut.trans (gK_ HK.out) hk (.inl rfl));have n1 := aM_ (hb);have n2 := aM_ (hi);clear HK;clear HB;clear HI0;have HK := n0;have HB := n1;have HI0 := n2;clear n0 n1 n2))
    go_ret
    exact ⟨fR_,gI119_ HI0.out,gB119_ HB.out,gK_ HK.out⟩
def spec_l1PickInt.f (s0_0 : List Int) (s0_1 : Int) (s0_2 : Int) (l1 : List Int) : Option (Int × Int × Int) := (spec_l1Below.f s0_0 s0_1 s0_2 (l1.length : Int)).bind fun bt234 => (if 0 ≤ bt234.1 then (if bt234.1 < (l1.length : Int) then (some (rd l1 bt234.1,bt234.2.1,bt234.2.2)) else (none)) else (none))
set_option maxHeartbeats 8000000 in
set_option maxRecDepth 100000 in
theorem spec_l1PickInt.calls (g : Nat) (s0_0 : List Int) (s0_1 : Int) (s0_2 : Int) (A1 : Option Addr) (c1 : Nat) (l1 : List Int) (r1 : Int) (r2 : Int) (r3 : Int) (w0 w : World) (hI : IsS119 w0 w g s0_0 s0_1 s0_2) (hB : Below w0.heap.size w0 w) (hr1 : Kd.C (Kd.int .i64) w A1 l1.length l1) (hc1 : l1.length ≤ c1) (hf1 : ∀ ad,A1 = some ad → 0 < l1.length → ad.block ≠ g) (h : spec_l1PickInt.f s0_0 s0_1 s0_2 l1 = some (r1,r2,r3)) :
  Calls Try.prog 66 #[.pointer (some ⟨g,0,none⟩),.slice A1 l1.length c1] w fun e w' => e = .returned (.int .i64 r1) ∧ IsS119 w0 w' g s0_0 r2 r3 ∧ Below w0.heap.size w0 w' ∧ KeepBut w w' g none := by
 have HR1 := aM_ hr1
 have HC1 := aM_ hc1
 clear hr1 hc1
 have HI0 := aM_ hI
 have HK := aM_ (KeepBut.refl w g none)
 have HL := aM_ hB.size
 clear hI
 have HW0 := aM_ hB.size
 have HB := aM_ hB
 clear hB
 have H : ((spec_l1Below.f s0_0 s0_1 s0_2 (l1.length : Int)).bind fun bt234 => (if 0 ≤ bt234.1 then (if bt234.1 < (l1.length : Int) then (some (rd l1 bt234.1,bt234.2.1,bt234.2.2)) else (none)) else (none))) = some (r1,r2,r3) := h
 clear h
 replace H := Option.bind_eq_some_iff.mp H
 obtain ⟨⟨t234,t235,t236⟩,A30,H⟩ := H
 replace H : (if 0 ≤ t234 then (if t234 < (l1.length : Int) then (some (rd l1 t234,t235,t236)) else (none)) else (none)) = some (r1,r2,r3) := H
 have A3 := aM_ A30
 clear A30
 by_cases c4 : 0 ≤ t234
 ·rw [if_pos c4] at H
  have c4b0 : decide (0 ≤ t234) = true := decide_eq_true c4
  clear c4
  by_cases c5 : t234 < (l1.length : Int)
  ·rw [if_pos c5] at H
   have c5b0 : decide (t234 < (l1.length : Int)) = true := decide_eq_true c5
   clear c5
   simp only [Option.some.injEq,Prod.mk.injEq] at H
   obtain ⟨rfl,rfl,rfl⟩ := H
   go_enter Try.func66,Try.ntmps66
   go_wp2_with (first | ((with_reducible refine gate_callee (f := 84) rfl ?_);refine gL_ (some 9) Try.func84 #[.pointer (some ⟨g,0,none⟩),.int .i64 (l1.length : Int)] ?_;(with_reducible refine (spec_l1Below.calls g s0_0 s0_1 s0_2 (l1.length : Int) t234 t235 t236 w0 _ ?side1 ?side2 A3.out).mono ?_);(case side1 => exact gI119_ HI0.out);(case side2 => exact gB119_ HB.out);rintro e w6 ⟨rfl,hi,hb,hk⟩;refine ⟨_,rfl,?_⟩;have n0 := aM_ (KeepBut.trans (gK_ HK.out) hk (.inl rfl));have n1 := aM_ (hb);have n2 := aM_ (hi);clear HK;clear HB;clear HI0;have HK := n0;have HB := n1;have HI0 := n2;clear n0 n1 n2;have p237 : 0 ≤ (t234 : Int) := of_decide_eq_true (by first | (with_reducible assumption) | assumption);have q237 : t234 < (l1.length : Int) := of_decide_eq_true (by first | (with_reducible assumption) | assumption);obtain ⟨ad237,e237,hx237_0⟩ := Kd.at_int HR1.out t234 p237 q237;cases e237;replace hx237_0 := keep_cell HK.out hx237_0 (by first | (rw [add_block];exact hf1 _ rfl (by omega)) | exact hf1 _ rfl (by omega) | exact hf1 ad237 rfl (by omega));replace p237 := eq_true p237;replace q237 := eq_true q237))
   go_ret
   exact ⟨fR_,gI119_ HI0.out,gB119_ HB.out,gK_ HK.out⟩
  ·rw [if_neg c5] at H
   exact absurd H (by simp)
 ·rw [if_neg c4] at H
  exact absurd H (by simp)
def spec_MemoryNew.l0 : Nat → Int → List (List (S43)) → Option ((List (List (S43))))
  | 0,_,_ => none
  | k + 1,x2,x240000 => if x2 < 24 then (if 24 ≤ 35184372088832 then (if x240000.length < 5864062014805 then (spec_MemoryNew.l0 k (wrap64 (x2 + 1)) (x240000 ++ [(([(⟨0,(List.replicate 24 0)⟩ : S43)] : List (S43)))])) else (none)) else (none)) else (some x240000)
def spec_MemoryNew.f (k : Nat)  : Option ((List (List (S43)))) := spec_MemoryNew.l0 k 0 ([] : List (List (S43)))
def spec_MemoryNew.T5 : Bool × List (List Nat × List Nat) := (true,[([],[]),([0],[0]),([],[]),([2],[2]),([3],[3]),([4],[4]),([1,5],[1,5]),([0,1,2,3,4,5,6],[]),([7,6,6,0,1,2,3,4,5,6],[6,7])])
def spec_MemoryNew.B5 : List Nat := [0,1,0,4,12,28,63,127,255]
theorem spec_MemoryNew.tab5 : rtab .any (opsOf Try.f13 5) = spec_MemoryNew.T5 := by kernel_rfl
theorem spec_MemoryNew.bits5 : waitsOk spec_MemoryNew.T5.2 spec_MemoryNew.B5 = true := by kernel_rfl
set_option maxHeartbeats 8000000 in
set_option maxRecDepth 100000 in
theorem spec_MemoryNew.calls (k : Nat)  (r : List (List (S43))) (w : World) (h : spec_MemoryNew.f k  = some r) :
  Calls Try.prog 13 #[] w fun e w' => ∃ v0_ : Value,e = .returned (.agg #[v0_]) ∧ Kd.S (sslice 43 k43) 44 w' w.heap.size (fun k_ => (w.heap.size ≤ k_)) v0_ r ∧ Below w.heap.size w w' := by
 have hu24 := Try.underlying24
 have hu43 := Try.underlying43
 have HB := aM_ (Below.refl w.heap.size w)
 have H : (spec_MemoryNew.l0 k 0 ([] : List (List (S43)))) = some r := h
 clear h
 have H' := aM_ H
 clear H
 go_enter Try.func13,Try.ntmps13
 go_wp2_with (first | ((with_reducible refine gate_dst (N := 0) rfl ?_);refine bX_ 0 (cs := #[.slice none 0 0]) (t := 24) ?_;intro gb238 hg w1 hbox hb;have n0 := aM_ (sT_ HB.out hb);have n1 := aM_ (hbox);have n2 := aM_ (sZ_ hg HB.out);have n3 := aM_ (sZ_ hg HB.out);clear HB;have HB := n0;have BK238 := n1;have GW238 := n2;have GE238 := n3;clear n0 n1 n2 n3;clear hb hbox hg) | ((with_reducible refine gate_dst (N := 1) rfl ?_);refine bX_ 1 (cs := #[.slice none 0 0]) (t := 24) ?_;intro gb239 hg w2 hbox hb;have n0 := aM_ (nB_ BK238.out hb);have n1 := aM_ (sT_ HB.out hb);have n2 := aM_ (hbox);have n3 := aM_ (sZ_ hg HB.out);have n4 := aM_ (sZ_ hg HB.out);have n5 := aM_ (nL_ hg BK238.out);have n6 := aM_ (nG_ hg BK238.out);clear BK238;clear HB;have BK238 := n0;have HB := n1;have BK239 := n2;have GW239 := n3;have GE239 := n4;have NB238_239 := n5;have NB239_238 := n6;clear n0 n1 n2 n3 n4 n5 n6;clear hb hbox hg;have hnb3 := NB239_238.out;have hnc3 := NB238_239.out;have hcz4_0 : w2.cell? ⟨gb239,0,none⟩ = some (.slice none 0 0) := (blk_cell BK239.out 0).trans rfl;have hfz4_0 := blk_frozen BK239.out 0))
 go_loopg [2] k (fun kq v2 w' => ∃ (x2_1 : Int) (x2400_1 : List (List (S43))) (u2400 : Value),v2 = .int .i64 x2_1 ∧ Aside0 (spec_MemoryNew.l0 kq x2_1 x2400_1 = some r) ∧ Aside0 (kq ≤ k) ∧ Aside0 (Kd.S (sslice 43 k43) 44 w' w.heap.size (fun k_ => (w.heap.size ≤ k_) ∧ k_ ≠ gb238 ∧ k_ ≠ gb239) u2400 x2400_1) ∧ Aside0 (w'.heap[gb238]? = some (.cells #[(.slice none 0 0)] 24 (0,0))) ∧ Aside0 (w'.heap[gb239]? = some (.cells #[u2400] 24 (0,0))) ∧ Aside0 (Below w.heap.size w w'))
 case atStart => exact ⟨(0),(([] : List (List (S43)))),(.slice none 0 0),(by first | rfl | (simp;done) | (simp [*];done)),H',⟨Nat.le_refl _⟩,⟨by first | exact Kd.R_nil _ _ _ _ _ | exact Kd.S_nil _ _ _ _ _ | exact Kd.V_nil _ _ _ _ _ | exact Kd.Q_nil _ _ _ _ _ | exact Kd.S_nil _ _ _ _ _⟩,⟨by (with_reducible repeat (first | refine bN_ ?_ _ | refine bD_ ?_ | refine bA_ ?_ _));refine blk_far ?_ NB238_239.out _;(with_reducible repeat (first | refine bN_ ?_ _ | refine bD_ ?_ | refine bA_ ?_ _));exact BK238.out⟩,⟨by (with_reducible repeat (first | refine bN_ ?_ _ | refine bD_ ?_ | refine bA_ ?_ _));refine blk_put (cs := #[.slice none 0 0]) ?_ 0 _ rfl;(with_reducible repeat (first | refine bN_ ?_ _ | refine bD_ ?_ | refine bA_ ?_ _));exact BK239.out⟩,⟨gW_ HB.out⟩⟩
 case round =>
  clear H'
  try clear c1
  try clear p2
  try clear c3
  try clear hcz4_0 hfz4_0
  obtain ⟨x2_1,x2400_1,u2400,rfl,HA,HK1,HO_240000,BK238,BK239,HB⟩ := hrel
  cases gk with
  | zero => exact absurd HA.out (by simp [spec_MemoryNew.l0])
  | succ k1 =>
   have H := HA.out
   clear HA
   simp only [spec_MemoryNew.l0] at H
   by_cases c5 : x2_1 < 24
   ·rw [if_pos c5] at H
    have c5b0 : decide (x2_1 < 24) = true := decide_eq_true c5
    clear c5
    by_cases c6 : 24 ≤ 35184372088832
    ·rw [if_pos c6] at H
     have c6b0 := eq_true c6
     have c6b1 : decide (24 ≤ 35184372088832) = true := decide_eq_true c6
     clear c6
     obtain ⟨y240,hy240⟩ : ∃ y_ : List Int,y_ = (List.replicate 24 0) := ⟨_,rfl⟩
     replace H : (if x2400_1.length < 5864062014805 then (spec_MemoryNew.l0 k1 (wrap64 (x2_1 + 1)) (x2400_1 ++ [(([(⟨0,y240⟩ : S43)] : List (S43)))])) else (none)) = some r := by first | (rw [hy240];with_reducible exact H) | (have H2_ := (Option.bind_some _ _).symm.trans H;rw [hy240];with_reducible exact H2_) | (have H2_ := (Option.bind_some _ _).symm.trans H;with_reducible exact H2_) | with_reducible exact H | (rw [hy240];exact H) | exact H
     have Ny240 := aM_ hy240
     clear hy240
     obtain ⟨y243,hy243⟩ : ∃ y_ : List (S43),y_ = (([(⟨0,y240⟩ : S43)] : List (S43))) := ⟨_,rfl⟩
     replace H : (if x2400_1.length < 5864062014805 then (spec_MemoryNew.l0 k1 (wrap64 (x2_1 + 1)) (x2400_1 ++ [y243])) else (none)) = some r := by first | (rw [hy243];with_reducible exact H) | (have H2_ := (Option.bind_some _ _).symm.trans H;rw [hy243];with_reducible exact H2_) | (have H2_ := (Option.bind_some _ _).symm.trans H;with_reducible exact H2_) | with_reducible exact H | (rw [hy243];exact H) | exact H
     have Ny243 := aM_ hy243
     clear hy243
     by_cases c7 : x2400_1.length < 5864062014805
     ·rw [if_pos c7] at H
      have LMc7 := aM_ c7
      clear c7
      obtain ⟨y246,hy246⟩ : ∃ y_ : List (List (S43)),y_ = (x2400_1 ++ [y243]) := ⟨_,rfl⟩
      replace H : (spec_MemoryNew.l0 k1 (wrap64 (x2_1 + 1)) y246) = some r := by first | (rw [hy246];with_reducible exact H) | (have H2_ := (Option.bind_some _ _).symm.trans H;rw [hy246];with_reducible exact H2_) | (have H2_ := (Option.bind_some _ _).symm.trans H;with_reducible exact H2_) | with_reducible exact H | (rw [hy246];exact H) | exact H
      have Ny246 := aM_ hy246
      clear hy246
      have H' := aM_ H
      clear H
      try go_wp2
      have n0 := aM_ (Kd.S_drew HO_240000.out)
      have n1 := aM_ (blk_drew BK238.out)
      have n2 := aM_ (blk_drew BK239.out)
      have n3 := aM_ (below_drew1 HB.out)
      clear HO_240000
      clear BK238
      clear BK239
      clear HB
      have HO_240000 := n0
      have BK238 := n1
      have BK239 := n2
      have HB := n3
      clear n0 n1 n2 n3
      refine start_ (n := 9) (S := fun w' => w'.cell? ⟨gb239,0,none⟩ = some (u2400)) (ds := [8]) #[false,false,false,false,false,false,false,false,false] (by kernel_rfl) rfl rfl ((blk_cell BK239.out 0).trans rfl) (fun hHeld => ?_);refine with_tabW spec_MemoryNew.tab5 spec_MemoryNew.bits5 (fun HT_ HW_ => ?_)
      generalize wr.drew = w8 at HO_240000 BK238 BK239 HB hHeld ⊢
      have HF := aM_ (show ∀ k,w8.heap.size ≤ k → (w.heap.size ≤ k ∧ k ≠ gb238 ∧ k ≠ gb239) ∧ some k ≠ (u2400 : Value).ownBlock from fun k hk => ⟨⟨Nat.le_trans (below_size HB.out) hk,fun e => by have := blk_lt BK238.out;omega,fun e => by have := blk_lt BK239.out;omega⟩,fun e => by have := Kd.S_lt HO_240000.out k e.symm;omega⟩)
      replace HO_240000 := aM_ (Kd.S_mono (ok' := fun k_ => ((w.heap.size ≤ k_) ∧ k_ ≠ gb238 ∧ k_ ≠ gb239) ∧ k_ < w8.heap.size) (Kd.S_bound HO_240000.out) (fun k hk => ⟨hk.1,hk.2.2.1⟩))
      refine pU_ 0 (some 8) (mk_ 9 1) ?_
      refine take_ (i := 1) (N := some 9) (v := ?_) (a' := ?_) #[true,true,false,false,false,false,false,false,false] rfl rfl (take_ofW HT_.out HW_.out (by kernel_rfl)) (fun _ _ _ h => h) (Or.inl ⟨by rfl,?_⟩) hHeld ?_ ?_
      rotate_left
      ·intro w' s0
       go_simp
       with_reducible rfl
      rotate_left
      ·simp only [pt_,pn_,sI_,s0_,s1_,i64_w,i32_w]
       rfl
      refine oN_ 2 (some 10) (mk_ 9 7) (fun K hK => ?_)
      refine Kd.R_make_step (Kd.int .i64) _ 3 (by rfl) (N := 10) rfl 31 _ _ rfl 24 rfl rfl Try.underlying31 (.int .i64 0) 8 info3 rfl (by decide) (by omega) 0 (ok := fun _ => True) (okp := fun _ => True) rfl (fun _ hk => hk) trivial (by omega) (by omega) (Below.refl _ _) (Nat.le_refl _) ?_
      intro v241 w9 ho10 hb hg_ hnew_
      have HS9 := aM_ hb.size
      clear hg_ hnew_
      (first | rw [← Ny240.out] at ho10 | (simp only [Int.reduceToNat] at ho10;rw [← Ny240.out] at ho10))
      have n0 := aM_ (Kd.S_elder' (by (with_reducible repeat (first | apply Kd.S_alloc | apply Kd.S_drewN | apply Kd.S_drew));exact HO_240000.out) (Kd.R_base ho10) hb)
      have n1 := aM_ (Kd.R_lower (Kd.R_newM (M := fun k_ => (w8.heap.size ≤ k_)) ho10 (Nat.le_refl _) (fun k_ h_ => h_)) (below_size (gB_ HB.out)))
      have n2 := aM_ (nB_ BK238.out hb)
      have n3 := aM_ (nB_ BK239.out hb)
      have n4 := aM_ (sT_ HB.out hb)
      clear HO_240000
      clear BK238
      clear BK239
      clear HB
      have HO_240000 := n0
      have HO242 := n1
      have BK238 := n2
      have BK239 := n3
      have HB := n4
      clear n0 n1 n2 n3 n4
      clear hb ho10
      obtain ⟨Ao11,co11,eo11⟩ := Kd.R_slice HO242.out
      (first | subst eo11 | (injection eo11 with f1_ f2_ f3_;have f4_ := f1_.symm;have f5_ := f3_.symm;clear f1_ f2_ f3_;subst f4_;subst f5_))
      refine hK.out _ _ ((blk_cell BK239.out 0).trans rfl) (fun hHeld => ?_)
      clear hK K
      refine norm_ (a' := ?_) ?_ ?_
      rotate_left
      ·show Act.put _ (some 10) _ = _
       simp only [pt_,pn_,sI_,s0_,s1_,i64_w,i32_w]
       rfl
      refine pU_ 3 (some 11) (mk_ 9 15) ?_
      refine oN_ 4 (some 12) (mk_ 9 31) (fun K hK => ?_)
      refine Kd.R_lit_step k43 w.heap.size 43 ?hg (N := 12) ?hd (xs := ([(⟨0,y240⟩ : S43)] : List (S43))) (inner := [.int .i64 0,.slice Ao11 y240.length co11]) (ok := (fun k_ => (w8.heap.size ≤ k_))) (okp := (fun k_ => (w8.heap.size ≤ k_))) ?hr ?hp (fun _ hk => hk) (HS9.out) (Below.refl _ _) (below_size (gB_ HB.out)) (by simp) ?_;(case hd => rfl);(case hg => rfl);(case hr => first | (go_simp;done) | (go_simp;rfl));(case hp => exact (Reps.c2 (show k43.M _ _ _ (⟨0,y240⟩ : S43) [.int .i64 0,.slice Ao11 y240.length co11] from k43_mkM _ _ _ (⟨0,y240⟩ : S43) (Kd.R_mono HO242.out (fun _ hk => hk.1))) (Reps.none _ _)))
      intro v244 w12 ho13 hb0_ hg_ hnew_
      have hb : Below w9.heap.size w9 w12 := (Below.refl w9.heap.size w9).grown hg_ (Nat.le_refl _) (by simp)
      replace ho13 := S_one ho13
      have hbs_ : ∀ k,v244.ownBlock = some k → w9.heap.size ≤ k := fun k hk => by obtain ⟨b,h1,h2⟩ := hnew_;rw [h1] at hk;cases hk;exact h2
      clear hb0_ hg_ hnew_
      (first | rw [← Ny243.out] at ho13 | (simp only [Int.reduceToNat] at ho13;rw [← Ny243.out] at ho13))
      have n0 := aM_ (Kd.S_elder' (by (with_reducible repeat (first | apply Kd.S_alloc | apply Kd.S_drewN | apply Kd.S_drew));exact HO_240000.out) hbs_ hb)
      have n1 := aM_ (Kd.S_lower ho13 (Nat.le_refl _))
      have n2 := aM_ (nB_ BK238.out hb)
      have n3 := aM_ (nB_ BK239.out hb)
      have n4 := aM_ (sT_ HB.out hb)
      clear HO_240000
      clear BK238
      clear BK239
      clear HB
      clear HO242
      have HO_240000 := n0
      have HO245 := n1
      have BK238 := n2
      have BK239 := n3
      have HB := n4
      clear n0 n1 n2 n3 n4
      clear hb ho13
      obtain ⟨Ao15,co15,eo15⟩ := Kd.S_slice HO245.out
      (first | subst eo15 | (injection eo15 with f1_ f2_ f3_;have f4_ := f1_.symm;have f5_ := f3_.symm;clear f1_ f2_ f3_;subst f4_;subst f5_))
      refine hK.out _ _ ((blk_cell BK239.out 0).trans rfl) (fun hHeld => ?_)
      clear hK K
      refine norm_ (a' := ?_) ?_ ?_
      rotate_left
      ·show Act.put _ (some 12) _ = _
       simp only [pt_,pn_,sI_,s0_,s1_,i64_w,i32_w]
       rfl
      refine oN_ 5 (some 13) (mk_ 9 63) (fun K hK => ?_)
      refine value_ (w1 := ?_) (v := ?_) (by rfl) rfl ?_ ?_
      rotate_left 2
      ·go_simp
       constructor
       ·rfl
       ·rfl
      refine hK.out _ _ ((blk_cell (blk_alloc BK239.out _) 0).trans rfl) (fun hHeld => ?_)
      clear hK K
      refine norm_ (a' := ?_) ?_ ?_
      rotate_left
      ·show Act.put _ (some 13) _ = _
       simp only [pt_,pn_,sI_,s0_,s1_,i64_w,i32_w]
       rfl
      refine oN_ 6 (some 14) (mk_ 9 127) (fun K hK => ?_)
      refine Kd.S_append_step (sslice 43 k43) (w0 := w) w.heap.size (by rfl) (.tmp 9) (.tmp 13) 22 44 (.slice none 0 0) 24 rfl Try.underlying22 info44 rfl (by decide) (by omega) u2400 x2400_1 y243 [.slice Ao15 y243.length co15] (fun k_ => (w.heap.size ≤ k_) ∧ k_ ≠ gb238 ∧ k_ ≠ gb239) (fun k_ => (w8.heap.size ≤ k_)) rfl rfl ?aP HF.out ?aF ?aO ?aB ?aS ?aL ?_
      (case aP => exact ⟨_,rfl,HO245.out⟩)
      (case aB => exact (gB_ HB.out))
      (case aF => exact (fun k_ hk => ⟨(Nat.le_trans (below_size (gB_ HB.out)) hk),Kd.freshB (g := gb238) (o := .cells #[.slice none 0 0] 24 (0,0)) (by (with_reducible repeat (first | refine bN_ ?_ _ | refine bD_ ?_ | refine bA_ ?_ _));exact BK238.out) k_ hk,Kd.freshB (g := gb239) (o := .cells #[u2400] 24 (0,0)) (by (with_reducible repeat (first | refine bN_ ?_ _ | refine bD_ ?_ | refine bA_ ?_ _));exact BK239.out) k_ hk⟩))
      (case aO => exact Kd.S_mono HO_240000.out (fun _ hk => ⟨hk.1.1.1,fun h => absurd h (Nat.not_le.2 hk.1.1.2)⟩))
      (case aS => exact (below_size (gB_ HB.out)))
      (case aL => have := LMc7.out;omega)
      intro v247 w14 ho hb hg hat
      rw [← Ny246.out] at ho
      have n0 := aM_ (blk_grown (g := gb238) (o := .cells #[.slice none 0 0] 24 (0,0)) (by (with_reducible repeat (first | refine bN_ ?_ _ | refine bD_ ?_ | refine bA_ ?_ _));exact BK238.out) hg (Kd.S_ne HO_240000.out BK238.out (by decide)))
      have n1 := aM_ (blk_grown (g := gb239) (o := .cells #[u2400] 24 (0,0)) (by (with_reducible repeat (first | refine bN_ ?_ _ | refine bD_ ?_ | refine bA_ ?_ _));exact BK239.out) hg (Kd.S_ne HO_240000.out BK239.out (by decide)))
      have n2 := aM_ (hb)
      have n3 := aM_ (ho)
      clear BK238
      clear BK239
      clear HB
      clear HO_240000
      clear HO245
      have BK238 := n0
      have BK239 := n1
      have HB := n2
      have HO248 := n3
      clear n0 n1 n2 n3
      clear ho hb hg hat
      obtain ⟨Ao16,co16,eo16⟩ := Kd.S_slice HO248.out
      (first | subst eo16 | (injection eo16 with f1_ f2_ f3_;have f4_ := f1_.symm;have f5_ := f3_.symm;clear f1_ f2_ f3_;subst f4_;subst f5_))
      refine hK.out _ _ ((blk_cell BK239.out 0).trans rfl) (fun hHeld => ?_)
      clear hK K
      refine norm_ (a' := ?_) ?_ ?_
      rotate_left
      ·show Act.put _ (some 14) _ = _
       simp only [pt_,pn_,sI_,s0_,s1_,i64_w,i32_w]
       rfl
      refine pU_ 7 (some 15) (mk_ 9 255) ?_
      refine last_ (i := 8) (N := none) #[true,true,true,true,true,true,true,true,true] rfl rfl (one_of HT_.out (by kernel_rfl)) (by decide) (fun K hK => ?_)
      have hs17 : w14.cell? ⟨gb239,0,none⟩ = some (u2400) := (blk_cell BK239.out 0).trans rfl
      have hfs17 := blk_frozen BK239.out 0
      have hns17_0 := NB238_239.out
      have hms17_0 := NB239_238.out
      refine skip_ (w1 := ?_) (by rfl) rfl ?_ ?_
      rotate_left
      ·go_simp
       rfl
      refine hK.out _ _ ?_
      clear hK K
      refine done_ (done_of HT_.out (by kernel_rfl)) ?_
      try go_wp2
      go_roundg k1
      case measure => have := HK1.out;omega
      case rel => exact ⟨(wrap64 (x2_1 + 1)),(y246),(.slice Ao16 y246.length co16),(by first | rfl | (simp;done) | (simp [*];done)),H',⟨by have := HK1.out;omega⟩,⟨by (with_reducible repeat (first | apply Kd.S_alloc | apply Kd.S_drewN | apply Kd.S_drew));exact Kd.S_mono (Kd.S_far (p := ⟨gb239,0,none⟩) (Kd.S_mono HO248.out (fun k_ hk => (⟨hk,hk.2.2⟩ : _ ∧ k_ ≠ gb239))) (fun _ hk => hk.2) (.slice Ao16 y246.length co16)) (fun _ hk => ⟨hk.1.1,⟨hk.1.2.1,hk.1.2.2⟩⟩)⟩,⟨by (with_reducible repeat (first | refine bN_ ?_ _ | refine bD_ ?_ | refine bA_ ?_ _));refine blk_far ?_ NB238_239.out _;(with_reducible repeat (first | refine bN_ ?_ _ | refine bD_ ?_ | refine bA_ ?_ _));exact BK238.out⟩,⟨by (with_reducible repeat (first | refine bN_ ?_ _ | refine bD_ ?_ | refine bA_ ?_ _));refine blk_put (cs := #[u2400]) ?_ 0 _ rfl;(with_reducible repeat (first | refine bN_ ?_ _ | refine bD_ ?_ | refine bA_ ?_ _));exact BK239.out⟩,⟨gW_ HB.out⟩⟩
     ·rw [if_neg c7] at H
      exact absurd H (by simp)
    ·rw [if_neg c6] at H
     exact absurd H (by simp)
   ·rw [if_neg c5] at H
    have c5b0 : decide (x2_1 < 24) = false := decide_eq_false c5
    clear c5
    obtain rfl := Option.some.inj H
    have hnb18 := NB239_238.out
    have hnc18 := NB238_239.out
    have hcz19_0 : wr.cell? ⟨gb239,0,none⟩ = some (u2400) := (blk_cell BK239.out 0).trans rfl
    have hfz19_0 := blk_frozen BK239.out 0
    obtain ⟨Ao20,co20,eo20⟩ := Kd.S_slice HO_240000.out
    subst eo20
    have hcz21_0 : wr.cell? ⟨gb238,0,none⟩ = some (.slice none 0 0) := (blk_cell BK238.out 0).trans rfl
    have hfz21_0 := blk_frozen BK238.out 0
    go_wp2
    refine bodyPost_ret (results_cell_row rfl _ _ gb238 24 #[.slice Ao20 x2400_1.length co20] (0,0) _ rfl (by (with_reducible repeat (first | refine bN_ ?_ _ | refine bD_ ?_ | refine bA_ ?_ _));refine blk_put (cs := #[.slice none 0 0]) ?_ 0 _ rfl;exact rW_ BK238.out) Try.underlying24 rfl (by kernel_rfl)) rfl ?_
    exact ⟨_,fR_,by (with_reducible repeat (first | apply Kd.S_alloc | apply Kd.S_drewN | apply Kd.S_drew));exact Kd.S_mono (Kd.S_far (p := ⟨gb238,0,none⟩) (Kd.S_mono HO_240000.out (fun k_ hk => (⟨hk,hk.2.1⟩ : _ ∧ k_ ≠ gb238))) (fun _ hk => hk.2) (.slice Ao20 x2400_1.length co20)) (fun _ hk => hk.1.1),gB_ HB.out⟩
def spec_l6Right.f (k : Nat) (l0_0 : List (List (S43))) (l1 : List Int) (a2 : Int) : Option (Bool) := (spec_MemoryOk.f k l0_0).bind fun t250 => (if t250 = true then ((spec_ViewOk.f k l0_0 l1).bind fun t251 => (if t251 = true then ((spec_l1In.f a2 0 23).bind fun t252 => (some t252)) else (some false))) else (some false))
set_option maxHeartbeats 8000000 in
set_option maxRecDepth 100000 in
theorem spec_l6Right.calls (k : Nat) (A0_0 : Option Addr) (c0_0 : Nat) (l0_0 : List (List (S43))) (A1 : Option Addr) (c1 : Nat) (l1 : List Int) (a2 : Int) (r : Bool) (w : World) (hr0_0 : Kd.C (Kd.slice 43 k43) w A0_0 l0_0.length l0_0) (hc0_0 : l0_0.length ≤ c0_0) (hr1 : Kd.C (Kd.int .i64) w A1 l1.length l1) (hc1 : l1.length ≤ c1) (h : spec_l6Right.f k l0_0 l1 a2 = some r) :
  Calls Try.prog 61 #[.agg #[.slice A0_0 l0_0.length c0_0],.slice A1 l1.length c1,.int .i64 a2] w fun e w' => e = .returned (.bool r) ∧ Below w.heap.size w w' := by
 have hu24 := Try.underlying24
 have HR0_0 := aM_ hr0_0
 have HC0_0 := aM_ hc0_0
 clear hr0_0 hc0_0
 have HR1 := aM_ hr1
 have HC1 := aM_ hc1
 clear hr1 hc1
 have HB := aM_ (Below.refl w.heap.size w)
 have H : ((spec_MemoryOk.f k l0_0).bind fun t250 => (if t250 = true then ((spec_ViewOk.f k l0_0 l1).bind fun t251 => (if t251 = true then ((spec_l1In.f a2 0 23).bind fun t252 => (some t252)) else (some false))) else (some false))) = some r := h
 clear h
 replace H := Option.bind_eq_some_iff.mp H
 obtain ⟨t250,A40,H⟩ := H
 replace H : (if t250 = true then ((spec_ViewOk.f k l0_0 l1).bind fun t251 => (if t251 = true then ((spec_l1In.f a2 0 23).bind fun t252 => (some t252)) else (some false))) else (some false)) = some r := H
 have A4 := aM_ A40
 clear A40
 by_cases c5 : t250 = true
 ·subst c5
  have H1 : ((spec_ViewOk.f k l0_0 l1).bind fun t251 => (if t251 = true then ((spec_l1In.f a2 0 23).bind fun t252 => (some t252)) else (some false))) = some r := by rw [if_pos rfl] at H;exact H
  clear H
  have H := H1
  clear H1
  replace H := Option.bind_eq_some_iff.mp H
  obtain ⟨t251,A60,H⟩ := H
  replace H : (if t251 = true then ((spec_l1In.f a2 0 23).bind fun t252 => (some t252)) else (some false)) = some r := H
  have A6 := aM_ A60
  clear A60
  by_cases c7 : t251 = true
  ·subst c7
   have H1 : ((spec_l1In.f a2 0 23).bind fun t252 => (some t252)) = some r := by rw [if_pos rfl] at H;exact H
   clear H
   have H := H1
   clear H1
   replace H := Option.bind_eq_some_iff.mp H
   obtain ⟨t252,A80,H⟩ := H
   replace H : (some t252) = some r := H
   have A8 := aM_ A80
   clear A80
   obtain rfl := Option.some.inj H
   go_enter Try.func61,Try.ntmps61
   go_wp2_with (first | ((with_reducible refine gate_dst (N := 3) rfl ?_);refine bX_ 3 (cs := #[.slice A0_0 l0_0.length c0_0]) (t := 24) ?_;intro gb249 hg w9 hbox hb;have n0 := aM_ (sT_ HB.out hb);have n1 := aM_ (hbox);have n2 := aM_ (sZ_ hg HB.out);have n3 := aM_ (sZ_ hg HB.out);clear HB;have HB := n0;have BK249 := n1;have GW249 := n2;have GE249 := n3;clear n0 n1 n2 n3;clear hb hbox hg;have hcz10_0 : w9.cell? ⟨gb249,0,none⟩ = some (.slice A0_0 l0_0.length c0_0) := (blk_cell BK249.out 0).trans rfl;have hfz10_0 := blk_frozen BK249.out 0) | ((with_reducible refine gate_callee (f := 27) rfl ?_);refine gL_ (some 8) Try.func27 #[.agg #[.slice A0_0 l0_0.length c0_0]] ?_;(with_reducible refine (spec_MemoryOk.calls k _ _ l0_0 true _ ?side1 ?side2 A4.out).mono ?_);(case side1 => exact cS_ (Kd.C_below HR0_0.out HB.out));(case side2 => exact HC0_0.out);rintro e w11 ⟨rfl,hb⟩;refine ⟨_,rfl,?_⟩;have n0 := aM_ (nB_ BK249.out hb);have n1 := aM_ (sT_ HB.out hb);clear BK249;clear HB;have BK249 := n0;have HB := n1;clear n0 n1;have hcz12_0 : w11.cell? ⟨gb249,0,none⟩ = some (.slice A0_0 l0_0.length c0_0) := (blk_cell BK249.out 0).trans rfl;have hfz12_0 := blk_frozen BK249.out 0) | (go_at_call 29;(with_reducible refine (spec_ViewOk.calls k _ _ l0_0 _ _ l1 true _ ?side1 ?side2 ?side3 ?side4 A6.out).mono ?_);(case side1 => exact cS_ (Kd.C_below HR0_0.out HB.out));(case side2 => exact HC0_0.out);(case side3 => exact cS_ (Kd.C_below HR1.out HB.out));(case side4 => exact HC1.out);rintro e w13 ⟨rfl,hb⟩;have n0 := aM_ (nB_ BK249.out hb);have n1 := aM_ (sT_ HB.out hb);clear BK249;clear HB;have BK249 := n0;have HB := n1;clear n0 n1) | (go_at_call 69;(with_reducible refine (spec_l1In.calls a2 0 23 t252 _ A8.out).mono ?_);rintro e w' ⟨rfl,⟨nd,rfl⟩⟩))
   go_ret
   exact fI_ HB.out
  ·replace c7 := Bool.eq_false_iff.mpr c7
   subst c7
   have H1 : (some false) = some r := by rw [if_neg (show ¬ (false = true) by decide)] at H;exact H
   clear H
   have H := H1
   clear H1
   obtain rfl := Option.some.inj H
   go_enter Try.func61,Try.ntmps61
   go_wp2_with (first | ((with_reducible refine gate_dst (N := 3) rfl ?_);refine bX_ 3 (cs := #[.slice A0_0 l0_0.length c0_0]) (t := 24) ?_;intro gb249 hg w14 hbox hb;have n0 := aM_ (sT_ HB.out hb);have n1 := aM_ (hbox);have n2 := aM_ (sZ_ hg HB.out);have n3 := aM_ (sZ_ hg HB.out);clear HB;have HB := n0;have BK249 := n1;have GW249 := n2;have GE249 := n3;clear n0 n1 n2 n3;clear hb hbox hg;have hcz15_0 : w14.cell? ⟨gb249,0,none⟩ = some (.slice A0_0 l0_0.length c0_0) := (blk_cell BK249.out 0).trans rfl;have hfz15_0 := blk_frozen BK249.out 0) | ((with_reducible refine gate_callee (f := 27) rfl ?_);refine gL_ (some 8) Try.func27 #[.agg #[.slice A0_0 l0_0.length c0_0]] ?_;(with_reducible refine (spec_MemoryOk.calls k _ _ l0_0 true _ ?side1 ?side2 A4.out).mono ?_);(case side1 => exact cS_ (Kd.C_below HR0_0.out HB.out));(case side2 => exact HC0_0.out);rintro e w16 ⟨rfl,hb⟩;refine ⟨_,rfl,?_⟩;have n0 := aM_ (nB_ BK249.out hb);have n1 := aM_ (sT_ HB.out hb);clear BK249;clear HB;have BK249 := n0;have HB := n1;clear n0 n1;have hcz17_0 : w16.cell? ⟨gb249,0,none⟩ = some (.slice A0_0 l0_0.length c0_0) := (blk_cell BK249.out 0).trans rfl;have hfz17_0 := blk_frozen BK249.out 0) | (go_at_call 29;(with_reducible refine (spec_ViewOk.calls k _ _ l0_0 _ _ l1 false _ ?side1 ?side2 ?side3 ?side4 A6.out).mono ?_);(case side1 => exact cS_ (Kd.C_below HR0_0.out HB.out));(case side2 => exact HC0_0.out);(case side3 => exact cS_ (Kd.C_below HR1.out HB.out));(case side4 => exact HC1.out);rintro e w18 ⟨rfl,hb⟩;have n0 := aM_ (nB_ BK249.out hb);have n1 := aM_ (sT_ HB.out hb);clear BK249;clear HB;have BK249 := n0;have HB := n1;clear n0 n1))
   go_ret
   exact fI_ HB.out
 ·replace c5 := Bool.eq_false_iff.mpr c5
  subst c5
  have H1 : (some false) = some r := by rw [if_neg (show ¬ (false = true) by decide)] at H;exact H
  clear H
  have H := H1
  clear H1
  obtain rfl := Option.some.inj H
  go_enter Try.func61,Try.ntmps61
  go_wp2_with (first | ((with_reducible refine gate_dst (N := 3) rfl ?_);refine bX_ 3 (cs := #[.slice A0_0 l0_0.length c0_0]) (t := 24) ?_;intro gb249 hg w19 hbox hb;have n0 := aM_ (sT_ HB.out hb);have n1 := aM_ (hbox);have n2 := aM_ (sZ_ hg HB.out);have n3 := aM_ (sZ_ hg HB.out);clear HB;have HB := n0;have BK249 := n1;have GW249 := n2;have GE249 := n3;clear n0 n1 n2 n3;clear hb hbox hg;have hcz20_0 : w19.cell? ⟨gb249,0,none⟩ = some (.slice A0_0 l0_0.length c0_0) := (blk_cell BK249.out 0).trans rfl;have hfz20_0 := blk_frozen BK249.out 0) | ((with_reducible refine gate_callee (f := 27) rfl ?_);refine gL_ (some 8) Try.func27 #[.agg #[.slice A0_0 l0_0.length c0_0]] ?_;(with_reducible refine (spec_MemoryOk.calls k _ _ l0_0 false _ ?side1 ?side2 A4.out).mono ?_);(case side1 => exact cS_ (Kd.C_below HR0_0.out HB.out));(case side2 => exact HC0_0.out);rintro e w21 ⟨rfl,hb⟩;refine ⟨_,rfl,?_⟩;have n0 := aM_ (nB_ BK249.out hb);have n1 := aM_ (sT_ HB.out hb);clear BK249;clear HB;have BK249 := n0;have HB := n1;clear n0 n1))
  go_ret
  exact fI_ HB.out
def spec_l1Max.f (a0 : Int) (a1 : Int) : Option (Int) := if a0 > a1 then (some a0) else (some a1)
set_option maxHeartbeats 8000000 in
set_option maxRecDepth 100000 in
theorem spec_l1Max.calls (a0 : Int) (a1 : Int) (r : Int) (w : World) (h : spec_l1Max.f a0 a1 = some r) :
  Calls Try.prog 95 #[.int .i64 a0,.int .i64 a1] w fun e w' => e = .returned (.int .i64 r) ∧ Drawn0 w w' := by
 have H : (if a0 > a1 then (some a0) else (some a1)) = some r := h
 clear h
 by_cases c3 : a0 > a1
 ·rw [if_pos c3] at H
  have c3b0 : decide (a1 < a0) = true := decide_eq_true c3
  clear c3
  obtain rfl := Option.some.inj H
  go_enter Try.func95,Try.ntmps95
  go_wp2
  go_ret
  exact ⟨by first | rfl | (simp;done) | (simp [*];done),by repeat (first | exact Drawn0.refl _ | apply Drawn0.step)⟩
 ·rw [if_neg c3] at H
  have c3b0 : decide (a1 < a0) = false := decide_eq_false c3
  clear c3
  obtain rfl := Option.some.inj H
  go_enter Try.func95,Try.ntmps95
  go_wp2
  go_ret
  exact ⟨by first | rfl | (simp;done) | (simp [*];done),by repeat (first | exact Drawn0.refl _ | apply Drawn0.step)⟩
def spec_Join.l0 : Nat → List Int → List Int → List Int → Int → Option (List Int)
  | 0,_,_,_,_ => none
  | k + 1,x0,x1,x5,x6 => if x6 < (x0.length : Int) then (if x6 < (x1.length : Int) then (if 0 ≤ x6 then ((spec_l1Max.f (rd x0 x6) (rd x1 x6)).bind fun t258 => (if x5.length < 17592186044416 then (spec_Join.l0 k x0 x1 (x5 ++ [t258]) (wrap64 (x6 + 1))) else (none))) else (none)) else (some x5)) else (some x5)
def spec_Join.f (k : Nat) (l0 : List Int) (l1 : List Int) : Option (List Int) := spec_Join.l0 k l0 l1 (([] : List Int)) 0
def spec_Join.T5 : Bool × List (List Nat × List Nat) := (true,[([],[]),([],[]),([],[]),([1,2],[1,2]),([3],[3]),([],[]),([],[]),([5,6],[5,6]),([7],[7]),([4,8],[4,8]),([9],[9]),([0,10,9],[0,10]),([11,11,0,1,2,3,4,5,6,7,8,9,10,11],[0,11])])
def spec_Join.B5 : List Nat := [0,0,0,6,14,0,0,96,224,510,1022,2047,4095]
theorem spec_Join.tab5 : rtab .any (opsOf Try.f96 5) = spec_Join.T5 := by kernel_rfl
theorem spec_Join.bits5 : waitsOk spec_Join.T5.2 spec_Join.B5 = true := by kernel_rfl
set_option maxHeartbeats 8000000 in
set_option maxRecDepth 100000 in
theorem spec_Join.calls (k : Nat) (A0 : Option Addr) (c0 : Nat) (l0 : List Int) (A1 : Option Addr) (c1 : Nat) (l1 : List Int) (r : List Int) (w : World) (hr0 : Kd.C (Kd.int .i64) w A0 l0.length l0) (hc0 : l0.length ≤ c0) (hr1 : Kd.C (Kd.int .i64) w A1 l1.length l1) (hc1 : l1.length ≤ c1) (h : spec_Join.f k l0 l1 = some r) :
  Calls Try.prog 96 #[.slice A0 l0.length c0,.slice A1 l1.length c1] w fun e w' => ∃ v0_ : Value,e = .returned (v0_) ∧ Kd.R (Kd.int .i64) 3 w' w.heap.size (fun _ => True) v0_ r ∧ Below w.heap.size w w' := by
 have HR0 := aM_ hr0
 have HC0 := aM_ hc0
 clear hr0 hc0
 have HR1 := aM_ hr1
 have HC1 := aM_ hc1
 clear hr1 hc1
 have HB := aM_ (Below.refl w.heap.size w)
 have H : (spec_Join.l0 k l0 l1 (([] : List Int)) 0) = some r := h
 clear h
 obtain ⟨y253,hy253⟩ : ∃ y_ : List Int,y_ = (([] : List Int)) := ⟨_,rfl⟩
 replace H : (spec_Join.l0 k l0 l1 y253 0) = some r := by first | (rw [hy253];with_reducible exact H) | (have H2_ := (Option.bind_some _ _).symm.trans H;rw [hy253];with_reducible exact H2_) | (have H2_ := (Option.bind_some _ _).symm.trans H;with_reducible exact H2_) | with_reducible exact H | (rw [hy253];exact H) | exact H
 have Ny253 := aM_ hy253
 clear hy253
 have H' := aM_ H
 clear H
 go_enter Try.func96,Try.ntmps96
 go_wp2_with (first | ((with_reducible refine gate_dst (N := 7) rfl ?_);(try (refine gate_guard (by rfl) ?_;dsimp only));refine Kd.R_lit (Kd.int .i64) _ 3 ?hg (N := 7) ?hd (xs := ([] : List Int)) (inner := []) (ok := fun _ => True) (okp := fun _ => True) ?hr ?hp (fun _ hk => hk) trivial (Below.refl _ _) (Nat.le_refl _) (by simp) ?_;(case hd => rfl);(case hg => rfl);(case hr => first | (go_simp;done) | (go_simp;rfl));(case hp => exact (Reps.none _ _));intro v254 w3 ho4 hb hg_ hnew_;clear hg_ hnew_;(first | rw [← Ny253.out] at ho4 | (simp only [Int.reduceToNat] at ho4;rw [← Ny253.out] at ho4));have n0 := aM_ (Kd.R_lower ho4 (below_size (gB_ HB.out)));have n1 := aM_ (sT_ HB.out hb);clear HB;have HO255 := n0;have HB := n1;clear n0 n1;clear hb ho4))
 go_loopg [5,6] k (fun kq v5 v6 w' => ∃ (x5_1 : List Int) (x6_1 : Int),v6 = .int .i64 x6_1 ∧ Aside0 (spec_Join.l0 kq l0 l1 x5_1 x6_1 = some r) ∧ Aside0 (kq ≤ k) ∧ Aside0 (Kd.R (Kd.int .i64) 3 w' w.heap.size (fun _ => True) v5 x5_1) ∧ Aside0 (Below w.heap.size w w'))
 case atStart => exact ⟨(y253),(0),(by first | rfl | (simp;done) | (simp [*];done)),H',⟨Nat.le_refl _⟩,⟨by (with_reducible repeat (first | apply rA_ | apply rN_ | apply rD_));exact HO255.out⟩,⟨gW_ HB.out⟩⟩
 case round =>
  clear H'
  try clear c1
  try clear p2
  obtain ⟨x5_1,x6_1,rfl,HA,HK1,HO_5,HB⟩ := hrel
  cases gk with
  | zero => exact absurd HA.out (by simp [spec_Join.l0])
  | succ k1 =>
   have H := HA.out
   clear HA
   simp only [spec_Join.l0] at H
   by_cases c5 : x6_1 < (l0.length : Int)
   ·rw [if_pos c5] at H
    have c5b0 : decide (x6_1 < (l0.length : Int)) = true := decide_eq_true c5
    clear c5
    by_cases c6 : x6_1 < (l1.length : Int)
    ·rw [if_pos c6] at H
     have c6b0 : decide (x6_1 < (l1.length : Int)) = true := decide_eq_true c6
     clear c6
     by_cases c7 : 0 ≤ x6_1
     ·rw [if_pos c7] at H
      have c7b0 : decide (0 ≤ x6_1) = true := decide_eq_true c7
      clear c7
      replace H := Option.bind_eq_some_iff.mp H
      obtain ⟨t258,A80,H⟩ := H
      replace H : (if x5_1.length < 17592186044416 then (spec_Join.l0 k1 l0 l1 (x5_1 ++ [t258]) (wrap64 (x6_1 + 1))) else (none)) = some r := H
      have A8 := aM_ A80
      clear A80
      by_cases c9 : x5_1.length < 17592186044416
      ·rw [if_pos c9] at H
       have LMc9 := aM_ c9
       clear c9
       obtain ⟨y259,hy259⟩ : ∃ y_ : List Int,y_ = (x5_1 ++ [t258]) := ⟨_,rfl⟩
       replace H : (spec_Join.l0 k1 l0 l1 y259 (wrap64 (x6_1 + 1))) = some r := by first | (rw [hy259];with_reducible exact H) | (have H2_ := (Option.bind_some _ _).symm.trans H;rw [hy259];with_reducible exact H2_) | (have H2_ := (Option.bind_some _ _).symm.trans H;with_reducible exact H2_) | with_reducible exact H | (rw [hy259];exact H) | exact H
       have Ny259 := aM_ hy259
       clear hy259
       have H' := aM_ H
       clear H
       try go_wp2
       have n0 := aM_ (Kd.R_drew HO_5.out)
       have n1 := aM_ (below_drew1 HB.out)
       clear HO_5
       clear HB
       have HO_5 := n0
       have HB := n1
       clear n0 n1
       have p256 : 0 ≤ (x6_1 : Int) := of_decide_eq_true (by first | (with_reducible assumption) | assumption)
       have q256 : x6_1 < (l0.length : Int) := of_decide_eq_true (by first | (with_reducible assumption) | assumption)
       obtain ⟨ad256,e256,hx256_0⟩ := Kd.at_int HR0.out x6_1 p256 q256
       have hw256_0 := hx256_0
       cases e256
       replace hx256_0 := cB_ HB.out hx256_0
       replace p256 := eq_true p256
       replace q256 := eq_true q256
       have p257 : 0 ≤ (x6_1 : Int) := of_decide_eq_true (by first | (with_reducible assumption) | assumption)
       have q257 : x6_1 < (l1.length : Int) := of_decide_eq_true (by first | (with_reducible assumption) | assumption)
       obtain ⟨ad257,e257,hx257_0⟩ := Kd.at_int HR1.out x6_1 p257 q257
       have hw257_0 := hx257_0
       cases e257
       replace hx257_0 := cB_ HB.out hx257_0
       replace p257 := eq_true p257
       replace q257 := eq_true q257
       refine start_ (n := 13) (S := fun w' => w'.cell? (ad256.add (x6_1).toNat) = some (.int .i64 (rd l0 x6_1)) ∧ w'.cell? (ad257.add (x6_1).toNat) = some (.int .i64 (rd l1 x6_1))) (ds := []) (mk_ 13 0) (by kernel_rfl) rfl rfl ⟨(cB_ HB.out hw256_0 :),(cB_ HB.out hw257_0 :)⟩ (fun hHeld => ?_);refine with_tabW spec_Join.tab5 spec_Join.bits5 (fun HT_ HW_ => ?_)
       generalize wr.drew = w10 at HO_5 HB hx256_0 hx257_0 hHeld ⊢
       refine pU_ 0 (some 20) (mk_ 13 1) ?_
       refine pU_ 1 (some 21) (mk_ 13 3) ?_
       refine pU_ 2 (some 22) (mk_ 13 7) ?_
       refine pU_ 3 (some 23) (mk_ 13 15) ?_
       refine pU_ 5 (some 25) (mk_ 13 47) ?_
       refine pU_ 6 (some 26) (mk_ 13 111) ?_
       refine pU_ 7 (some 27) (mk_ 13 239) ?_
       refine tK2_ 4 (some 24) (mk_ 13 255) ?_
       refine tK2_ 8 (some 28) (mk_ 13 511) ?_
       refine oN_ 9 (some 29) (mk_ 13 1023) (fun K hK => ?_)
       refine gO_ Try.func95 #[.int .i64 (rd l0 x6_1),.int .i64 (rd l1 x6_1)] ?_
       with_reducible refine (spec_l1Max.calls (rd l0 x6_1) (rd l1 x6_1) t258 _ A8.out).mono ?_
       rintro e w' ⟨rfl,⟨nd,rfl⟩⟩
       refine ⟨_,rfl,?_⟩
       refine hK.out _ _ ⟨(cB_ HB.out hw256_0 :),(cB_ HB.out hw257_0 :)⟩ (fun hHeld => ?_)
       clear hK K
       refine norm_ (a' := ?_) ?_ ?_
       rotate_left
       ·show Act.put _ (some 29) _ = _
        simp only [pt_,pn_,sI_,s0_,s1_,i64_w,i32_w]
        rfl
       refine oN_ 10 (some 30) (mk_ 13 2047) (fun K hK => ?_)
       refine value_ (w1 := ?_) (v := ?_) (by rfl) rfl ?_ ?_
       rotate_left 2
       ·go_simp
        constructor
        ·rfl
        ·rfl
       refine hK.out _ _ ⟨(World.cell?_alloc_lt _ _ _ (World.block_lt_of_cell? _ _ ((cB_ HB.out hw256_0 :)))).trans ((cB_ HB.out hw256_0 :)),(World.cell?_alloc_lt _ _ _ (World.block_lt_of_cell? _ _ ((cB_ HB.out hw257_0 :)))).trans ((cB_ HB.out hw257_0 :))⟩ (fun hHeld => ?_)
       clear hK K
       refine norm_ (a' := ?_) ?_ ?_
       rotate_left
       ·show Act.put _ (some 30) _ = _
        simp only [pt_,pn_,sI_,s0_,s1_,i64_w,i32_w]
        rfl
       refine oN_ 11 (some 31) (mk_ 13 4095) (fun K hK => ?_)
       refine Kd.R_append_step (Kd.int .i64) (w0 := w) w.heap.size (by rfl) (.tmp 20) (.tmp 30) 31 3 (.int .i64 0) 8 rfl Try.underlying31 info3 rfl (by decide) (by omega) u5 x5_1 t258 [.int .i64 t258] (fun _ => True) (fun _ => False) rfl rfl ?aP (fun _ hk => hk.elim) ?aF ?aO ?aB ?aS ?aL ?_
       (case aP => exact rfl)
       (case aB => exact (gB_ HB.out))
       (case aF => exact (fun _ _ => trivial))
       (case aO => exact (by (with_reducible repeat (first | apply rA_ | apply rN_ | apply rD_));exact HO_5.out))
       (case aS => exact (below_size (gB_ HB.out)))
       (case aL => have := LMc9.out;omega)
       intro v260 w11 ho hb hg hat
       rw [← Ny259.out] at ho
       have n0 := aM_ (hb)
       have n1 := aM_ (ho)
       clear HB
       clear HO_5
       have HB := n0
       have HO261 := n1
       clear n0 n1
       clear ho hb hg hat
       refine hK.out _ _ ⟨(cB_ HB.out hw256_0 :),(cB_ HB.out hw257_0 :)⟩ (fun hHeld => ?_)
       clear hK K
       refine norm_ (a' := ?_) ?_ ?_
       rotate_left
       ·show Act.put _ (some 31) _ = _
        simp only [pt_,pn_,sI_,s0_,s1_,i64_w,i32_w]
        rfl
       refine pU_ 12 (some 5) (mk_ 13 8191) ?_
       refine done_ (done_of HT_.out (by kernel_rfl)) ?_
       try go_wp2
       go_roundg k1
       case measure => have := HK1.out;omega
       case rel => exact ⟨(y259),(wrap64 (x6_1 + 1)),(by first | rfl | (simp;done) | (simp [*];done)),H',⟨by have := HK1.out;omega⟩,⟨by (with_reducible repeat (first | apply rA_ | apply rN_ | apply rD_));exact HO261.out⟩,⟨gW_ HB.out⟩⟩
      ·rw [if_neg c9] at H
       exact absurd H (by simp)
     ·rw [if_neg c7] at H
      exact absurd H (by simp)
    ·rw [if_neg c6] at H
     have c6b0 : decide (x6_1 < (l1.length : Int)) = false := decide_eq_false c6
     clear c6
     obtain rfl := Option.some.inj H
     go_wp2
     go_ret
     exact ⟨_,fR_,by (with_reducible repeat (first | apply rA_ | apply rN_ | apply rD_));exact HO_5.out,gB_ HB.out⟩
   ·rw [if_neg c5] at H
    have c5b0 : decide (x6_1 < (l0.length : Int)) = false := decide_eq_false c5
    clear c5
    obtain rfl := Option.some.inj H
    go_wp2
    go_ret
    exact ⟨_,fR_,by (with_reducible repeat (first | apply rA_ | apply rN_ | apply rD_));exact HO_5.out,gB_ HB.out⟩
end Go.Proofs.Ythbcnakmnbilhaa.PFnStore
