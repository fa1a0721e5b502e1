/- A part of the proof that the law FnLoad holds for every input: the words, functions and walks that its row needs, without a condition of their own. -/
import Derived.Test.YthbcnakmnbilhaaZFnLoada2
import Derived.Test.YthbcnakmnbilhaaZFnLoada5
import Derived.Test.YthbcnakmnbilhaaZFnLoada7
import Derived.Test.YthbcnakmnbilhaaZFnLoads
namespace Go.Proofs.Ythbcnakmnbilhaa.PFnLoad
open Go.RowKit Go.Proofs.YthbcnakmnbilhaaW.PrintWords Go.Proofs.YthbcnakmnbilhaaW.PrintLast Go.Proofs.YthbcnakmnbilhaaW.PrintMore Go.Proofs.Ythbcnakmnbilhaa.SepMark
attribute [local go_sem] max2_int min2_int max_two min_two max_three min_three max_four min_four   -- for this text's walks alone
set_option linter.unusedVariables false
set_option linter.unusedSimpArgs false
def spec_l1Below.f (s0_0 : List Int) (s0_1 : Int) (s0_2 : Int) (a1 : Int) : Option (Int × Int × Int) := if a1 ≤ 0 then (some (0,s0_1,s0_2)) else (if a1 ≤ 256 then ((spec_l1Byte.f s0_0 s0_1 s0_2).bind fun bt210 => (if a1 = 0 then (none) else (some (Int.tmod bt210.1 a1,bt210.2.1,bt210.2.2)))) else ((spec_l1Byte.f s0_0 s0_1 s0_2).bind fun bt213 => ((spec_l1Byte.f s0_0 bt213.2.1 bt213.2.2).bind fun bt216 => ((spec_l1Byte.f s0_0 bt216.2.1 bt216.2.2).bind fun bt219 => ((spec_l1Byte.f s0_0 bt219.2.1 bt219.2.2).bind fun bt222 => (if a1 = 0 then (none) else (some (Int.tmod (wrap64 ((wrap64 ((wrap64 ((wrap64 (bt213.1 * 16777216)) + (wrap64 (bt216.1 * 65536)))) + (wrap64 (bt219.1 * 256)))) + bt222.1)) a1,bt222.2.1,bt222.2.2))))))))
set_option maxHeartbeats 8000000 in
set_option maxRecDepth 100000 in
theorem spec_l1Below.calls (g : Nat) (s0_0 : List Int) (s0_1 : Int) (s0_2 : Int) (a1 : Int) (r1 : Int) (r2 : Int) (r3 : Int) (w0 w : World) (hI : IsS119 w0 w g s0_0 s0_1 s0_2) (hB : Below w0.heap.size w0 w) (h : spec_l1Below.f s0_0 s0_1 s0_2 a1 = some (r1,r2,r3)) :
  Calls Try.prog 84 #[.pointer (some ⟨g,0,none⟩),.int .i64 a1] w fun e w' => e = .returned (.int .i64 r1) ∧ IsS119 w0 w' g s0_0 r2 r3 ∧ Below w0.heap.size w0 w' ∧ KeepBut w w' g none := by
 have HI0 := aM_ hI
 have HK := aM_ (KeepBut.refl w g none)
 have HL := aM_ hB.size
 clear hI
 have HW0 := aM_ hB.size
 have HB := aM_ hB
 clear hB
 have H : (if a1 ≤ 0 then (some (0,s0_1,s0_2)) else (if a1 ≤ 256 then ((spec_l1Byte.f s0_0 s0_1 s0_2).bind fun bt210 => (if a1 = 0 then (none) else (some (Int.tmod bt210.1 a1,bt210.2.1,bt210.2.2)))) else ((spec_l1Byte.f s0_0 s0_1 s0_2).bind fun bt213 => ((spec_l1Byte.f s0_0 bt213.2.1 bt213.2.2).bind fun bt216 => ((spec_l1Byte.f s0_0 bt216.2.1 bt216.2.2).bind fun bt219 => ((spec_l1Byte.f s0_0 bt219.2.1 bt219.2.2).bind fun bt222 => (if a1 = 0 then (none) else (some (Int.tmod (wrap64 ((wrap64 ((wrap64 ((wrap64 (bt213.1 * 16777216)) + (wrap64 (bt216.1 * 65536)))) + (wrap64 (bt219.1 * 256)))) + bt222.1)) a1,bt222.2.1,bt222.2.2))))))))) = some (r1,r2,r3) := h
 clear h
 by_cases c3 : a1 ≤ 0
 ·rw [if_pos c3] at H
  have c3b0 : decide (a1 ≤ 0) = true := decide_eq_true c3
  clear c3
  simp only [Option.some.injEq,Prod.mk.injEq] at H
  obtain ⟨rfl,rfl,rfl⟩ := H
  go_enter Try.func84,Try.ntmps84
  go_wp2
  go_ret
  exact ⟨fR_,gI119_ HI0.out,gB119_ HB.out,gK_ HK.out⟩
 ·rw [if_neg c3] at H
  have c3b0 : decide (a1 ≤ 0) = false := decide_eq_false c3
  clear c3
  by_cases c4 : a1 ≤ 256
  ·rw [if_pos c4] at H
   have c4b0 : decide (a1 ≤ 256) = true := decide_eq_true c4
   clear c4
   replace H := Option.bind_eq_some_iff.mp H
   obtain ⟨⟨t210,t211,t212⟩,A50,H⟩ := H
   replace H : (if a1 = 0 then (none) else (some (Int.tmod t210 a1,t211,t212))) = some (r1,r2,r3) := H
   have A5 := aM_ A50
   clear A50
   by_cases c6 : a1 = 0
   ·rw [if_pos c6] at H
    exact absurd H (by simp)
   ·rw [if_neg c6] at H
    have c6b0 : (a1 == 0) = false := beq_eq_false_iff_ne.mpr c6
    have c6b1 : (a1 != 0) = true := bne_iff_ne.mpr c6
    simp only [Option.some.injEq,Prod.mk.injEq] at H
    obtain ⟨rfl,rfl,rfl⟩ := H
    go_enter Try.func84,Try.ntmps84
    go_wp2_with (first | ((with_reducible refine gate_callee (f := 107) rfl ?_);refine gL_ (some 14) Try.func107 #[.pointer (some ⟨g,0,none⟩)] ?_;(with_reducible refine (spec_l1Byte.calls g s0_0 s0_1 s0_2 t210 t211 t212 w0 _ ?side1 ?side2 A5.out).mono ?_);(case side1 => exact gI119_ HI0.out);(case side2 => exact gB119_ HB.out);rintro e w7 ⟨rfl,hi,hb,hk⟩;refine ⟨_,rfl,?_⟩;have n0 := aM_ (KeepBut.trans (gK_ HK.out) hk (.inl rfl));have n1 := aM_ (hb);have n2 := aM_ (hi);clear HK;clear HB;clear HI0;have HK := n0;have HB := n1;have HI0 := n2;clear n0 n1 n2))
    go_ret
    exact ⟨fR_,gI119_ HI0.out,gB119_ HB.out,gK_ HK.out⟩
  ·rw [if_neg c4] at H
   have c4b0 : decide (a1 ≤ 256) = false := decide_eq_false c4
   clear c4
   replace H := Option.bind_eq_some_iff.mp H
   obtain ⟨⟨t213,t214,t215⟩,A80,H⟩ := H
   replace H : ((spec_l1Byte.f s0_0 t214 t215).bind fun bt216 => ((spec_l1Byte.f s0_0 bt216.2.1 bt216.2.2).bind fun bt219 => ((spec_l1Byte.f s0_0 bt219.2.1 bt219.2.2).bind fun bt222 => (if a1 = 0 then (none) else (some (Int.tmod (wrap64 ((wrap64 ((wrap64 ((wrap64 (t213 * 16777216)) + (wrap64 (bt216.1 * 65536)))) + (wrap64 (bt219.1 * 256)))) + bt222.1)) a1,bt222.2.1,bt222.2.2)))))) = some (r1,r2,r3) := H
   have A8 := aM_ A80
   clear A80
   replace H := Option.bind_eq_some_iff.mp H
   obtain ⟨⟨t216,t217,t218⟩,A90,H⟩ := H
   replace H : ((spec_l1Byte.f s0_0 t217 t218).bind fun bt219 => ((spec_l1Byte.f s0_0 bt219.2.1 bt219.2.2).bind fun bt222 => (if a1 = 0 then (none) else (some (Int.tmod (wrap64 ((wrap64 ((wrap64 ((wrap64 (t213 * 16777216)) + (wrap64 (t216 * 65536)))) + (wrap64 (bt219.1 * 256)))) + bt222.1)) a1,bt222.2.1,bt222.2.2))))) = some (r1,r2,r3) := H
   have A9 := aM_ A90
   clear A90
   replace H := Option.bind_eq_some_iff.mp H
   obtain ⟨⟨t219,t220,t221⟩,A100,H⟩ := H
   replace H : ((spec_l1Byte.f s0_0 t220 t221).bind fun bt222 => (if a1 = 0 then (none) else (some (Int.tmod (wrap64 ((wrap64 ((wrap64 ((wrap64 (t213 * 16777216)) + (wrap64 (t216 * 65536)))) + (wrap64 (t219 * 256)))) + bt222.1)) a1,bt222.2.1,bt222.2.2)))) = some (r1,r2,r3) := H
   have A10 := aM_ A100
   clear A100
   replace H := Option.bind_eq_some_iff.mp H
   obtain ⟨⟨t222,t223,t224⟩,A110,H⟩ := H
   replace H : (if a1 = 0 then (none) else (some (Int.tmod (wrap64 ((wrap64 ((wrap64 ((wrap64 (t213 * 16777216)) + (wrap64 (t216 * 65536)))) + (wrap64 (t219 * 256)))) + t222)) a1,t223,t224))) = some (r1,r2,r3) := H
   have A11 := aM_ A110
   clear A110
   by_cases c12 : a1 = 0
   ·rw [if_pos c12] at H
    exact absurd H (by simp)
   ·rw [if_neg c12] at H
    have c12b0 : (a1 == 0) = false := beq_eq_false_iff_ne.mpr c12
    have c12b1 : (a1 != 0) = true := bne_iff_ne.mpr c12
    simp only [Option.some.injEq,Prod.mk.injEq] at H
    obtain ⟨rfl,rfl,rfl⟩ := H
    go_enter Try.func84,Try.ntmps84
    go_wp2_with (first | ((with_reducible refine gate_callee (f := 107) rfl ?_);refine gL_ (some 18) Try.func107 #[.pointer (some ⟨g,0,none⟩)] ?_;(with_reducible refine (spec_l1Byte.calls g s0_0 s0_1 s0_2 t213 t214 t215 w0 _ ?side1 ?side2 A8.out).mono ?_);(case side1 => exact gI119_ HI0.out);(case side2 => exact gB119_ HB.out);rintro e w13 ⟨rfl,hi,hb,hk⟩;refine ⟨_,rfl,?_⟩;have n0 := aM_ (KeepBut.trans (gK_ HK.out) hk (.inl rfl));have n1 := aM_ (hb);have n2 := aM_ (hi);clear HK;clear HB;clear HI0;have HK := n0;have HB := n1;have HI0 := n2;clear n0 n1 n2) | ((with_reducible refine gate_callee (f := 107) rfl ?_);refine gL_ (some 20) Try.func107 #[.pointer (some ⟨g,0,none⟩)] ?_;(with_reducible refine (spec_l1Byte.calls g s0_0 t214 t215 t216 t217 t218 w0 _ ?side1 ?side2 A9.out).mono ?_);(case side1 => exact gI119_ HI0.out);(case side2 => exact gB119_ HB.out);rintro e w14 ⟨rfl,hi,hb,hk⟩;refine ⟨_,rfl,?_⟩;have n0 := aM_ (KeepBut.trans (gK_ HK.out) hk (.inl rfl));have n1 := aM_ (hb);have n2 := aM_ (hi);clear HK;clear HB;clear HI0;have HK := n0;have HB := n1;have HI0 := n2;clear n0 n1 n2) | ((with_reducible refine gate_callee (f := 107) rfl ?_);refine gL_ (some 22) Try.func107 #[.pointer (some ⟨g,0,none⟩)] ?_;(with_reducible refine (spec_l1Byte.calls g s0_0 t217 t218 t219 t220 t221 w0 _ ?side1 ?side2 A10.out).mono ?_);(case side1 => exact gI119_ HI0.out);(case side2 => exact gB119_ HB.out);rintro e w15 ⟨rfl,hi,hb,hk⟩;refine ⟨_,rfl,?_⟩;have n0 := aM_ (KeepBut.trans (gK_ HK.out) hk (.inl rfl));have n1 := aM_ (hb);have n2 := aM_ (hi);clear HK;clear HB;clear HI0;have HK := n0;have HB := n1;have HI0 := n2;clear n0 n1 n2) | ((with_reducible refine gate_callee (f := 107) rfl ?_);refine gL_ (some 24) Try.func107 #[.pointer (some ⟨g,0,none⟩)] ?_;(with_reducible refine (spec_l1Byte.calls g s0_0 t220 t221 t222 t223 t224 w0 _ ?side1 ?side2 A11.out).mono ?_);(case side1 => exact gI119_ HI0.out);(case side2 => exact gB119_ HB.out);rintro e w16 ⟨rfl,hi,hb,hk⟩;refine ⟨_,rfl,?_⟩;have n0 := aM_ (KeepBut.trans (gK_ HK.out) hk (.inl rfl));have n1 := aM_ (hb);have n2 := aM_ (hi);clear HK;clear HB;clear HI0;have HK := n0;have HB := n1;have HI0 := n2;clear n0 n1 n2))
    go_ret
    exact ⟨fR_,gI119_ HI0.out,gB119_ HB.out,gK_ HK.out⟩
def spec_l1PickInt.f (s0_0 : List Int) (s0_1 : Int) (s0_2 : Int) (l1 : List Int) : Option (Int × Int × Int) := (spec_l1Below.f s0_0 s0_1 s0_2 (l1.length : Int)).bind fun bt225 => (if 0 ≤ bt225.1 then (if bt225.1 < (l1.length : Int) then (some (rd l1 bt225.1,bt225.2.1,bt225.2.2)) else (none)) else (none))
set_option maxHeartbeats 8000000 in
set_option maxRecDepth 100000 in
theorem spec_l1PickInt.calls (g : Nat) (s0_0 : List Int) (s0_1 : Int) (s0_2 : Int) (A1 : Option Addr) (c1 : Nat) (l1 : List Int) (r1 : Int) (r2 : Int) (r3 : Int) (w0 w : World) (hI : IsS119 w0 w g s0_0 s0_1 s0_2) (hB : Below w0.heap.size w0 w) (hr1 : Kd.C (Kd.int .i64) w A1 l1.length l1) (hc1 : l1.length ≤ c1) (hf1 : ∀ ad,A1 = some ad → 0 < l1.length → ad.block ≠ g) (h : spec_l1PickInt.f s0_0 s0_1 s0_2 l1 = some (r1,r2,r3)) :
  Calls Try.prog 66 #[.pointer (some ⟨g,0,none⟩),.slice A1 l1.length c1] w fun e w' => e = .returned (.int .i64 r1) ∧ IsS119 w0 w' g s0_0 r2 r3 ∧ Below w0.heap.size w0 w' ∧ KeepBut w w' g none := by
 have HR1 := aM_ hr1
 have HC1 := aM_ hc1
 clear hr1 hc1
 have HI0 := aM_ hI
 have HK := aM_ (KeepBut.refl w g none)
 have HL := aM_ hB.size
 clear hI
 have HW0 := aM_ hB.size
 have HB := aM_ hB
 clear hB
 have H : ((spec_l1Below.f s0_0 s0_1 s0_2 (l1.length : Int)).bind fun bt225 => (if 0 ≤ bt225.1 then (if bt225.1 < (l1.length : Int) then (some (rd l1 bt225.1,bt225.2.1,bt225.2.2)) else (none)) else (none))) = some (r1,r2,r3) := h
 clear h
 replace H := Option.bind_eq_some_iff.mp H
 obtain ⟨⟨t225,t226,t227⟩,A30,H⟩ := H
 replace H : (if 0 ≤ t225 then (if t225 < (l1.length : Int) then (some (rd l1 t225,t226,t227)) else (none)) else (none)) = some (r1,r2,r3) := H
 have A3 := aM_ A30
 clear A30
 by_cases c4 : 0 ≤ t225
 ·rw [if_pos c4] at H
  have c4b0 : decide (0 ≤ t225) = true := decide_eq_true c4
  clear c4
  by_cases c5 : t225 < (l1.length : Int)
  ·rw [if_pos c5] at H
   have c5b0 : decide (t225 < (l1.length : Int)) = true := decide_eq_true c5
   clear c5
   simp only [Option.some.injEq,Prod.mk.injEq] at H
   obtain ⟨rfl,rfl,rfl⟩ := H
   go_enter Try.func66,Try.ntmps66
   go_wp2_with (first | ((with_reducible refine gate_callee (f := 84) rfl ?_);refine gL_ (some 9) Try.func84 #[.pointer (some ⟨g,0,none⟩),.int .i64 (l1.length : Int)] ?_;(with_reducible refine (spec_l1Below.calls g s0_0 s0_1 s0_2 (l1.length : Int) t225 t226 t227 w0 _ ?side1 ?side2 A3.out).mono ?_);(case side1 => exact gI119_ HI0.out);(case side2 => exact gB119_ HB.out);rintro e w6 ⟨rfl,hi,hb,hk⟩;refine ⟨_,rfl,?_⟩;have n0 := aM_ (KeepBut.trans (gK_ HK.out) hk (.inl rfl));have n1 := aM_ (hb);have n2 := aM_ (hi);clear HK;clear HB;clear HI0;have HK := n0;have HB := n1;have HI0 := n2;clear n0 n1 n2;have p228 : 0 ≤ (t225 : Int) := of_decide_eq_true (by first | (with_reducible assumption) | assumption);have q228 : t225 < (l1.length : Int) := of_decide_eq_true (by first | (with_reducible assumption) | assumption);obtain ⟨ad228,e228,hx228_0⟩ := Kd.at_int HR1.out t225 p228 q228;cases e228;replace hx228_0 := keep_cell HK.out hx228_0 (by first | (rw [add_block];exact hf1 _ rfl (by omega)) | exact hf1 _ rfl (by omega) | exact hf1 ad228 rfl (by omega));replace p228 := eq_true p228;replace q228 := eq_true q228))
   go_ret
   exact ⟨fR_,gI119_ HI0.out,gB119_ HB.out,gK_ HK.out⟩
  ·rw [if_neg c5] at H
   exact absurd H (by simp)
 ·rw [if_neg c4] at H
  exact absurd H (by simp)
def spec_MemoryNew.l0 : Nat → Int → List (List (S43)) → Option ((List (List (S43))))
  | 0,_,_ => none
  | k + 1,x2,x231000 => if x2 < 24 then (if 24 ≤ 35184372088832 then (if x231000.length < 5864062014805 then (spec_MemoryNew.l0 k (wrap64 (x2 + 1)) (x231000 ++ [(([(⟨0,(List.replicate 24 0)⟩ : S43)] : List (S43)))])) else (none)) else (none)) else (some x231000)
def spec_MemoryNew.f (k : Nat)  : Option ((List (List (S43)))) := spec_MemoryNew.l0 k 0 ([] : List (List (S43)))
def spec_MemoryNew.T5 : Bool × List (List Nat × List Nat) := (true,[([],[]),([0],[0]),([],[]),([2],[2]),([3],[3]),([4],[4]),([1,5],[1,5]),([0,1,2,3,4,5,6],[]),([7,6,6,0,1,2,3,4,5,6],[6,7])])
def spec_MemoryNew.B5 : List Nat := [0,1,0,4,12,28,63,127,255]
theorem spec_MemoryNew.tab5 : rtab .any (opsOf Try.f13 5) = spec_MemoryNew.T5 := by kernel_rfl
theorem spec_MemoryNew.bits5 : waitsOk spec_MemoryNew.T5.2 spec_MemoryNew.B5 = true := by kernel_rfl
set_option maxHeartbeats 8000000 in
set_option maxRecDepth 100000 in
theorem spec_MemoryNew.calls (k : Nat)  (r : List (List (S43))) (w : World) (h : spec_MemoryNew.f k  = some r) :
  Calls Try.prog 13 #[] w fun e w' => ∃ v0_ : Value,e = .returned (.agg #[v0_]) ∧ Kd.S (sslice 43 k43) 44 w' w.heap.size (fun k_ => (w.heap.size ≤ k_)) v0_ r ∧ Below w.heap.size w w' := by
 have hu24 := Try.underlying24
 have hu43 := Try.underlying43
 have HB := aM_ (Below.refl w.heap.size w)
 have H : (spec_MemoryNew.l0 k 0 ([] : List (List (S43)))) = some r := h
 clear h
 have H' := aM_ H
 clear H
 go_enter Try.func13,Try.ntmps13
 go_wp2_with (first | ((with_reducible refine gate_dst (N := 0) rfl ?_);refine bX_ 0 (cs := #[.slice none 0 0]) (t := 24) ?_;intro gb229 hg w1 hbox hb;have n0 := aM_ (sT_ HB.out hb);have n1 := aM_ (hbox);have n2 := aM_ (sZ_ hg HB.out);have n3 := aM_ (sZ_ hg HB.out);clear HB;have HB := n0;have BK229 := n1;have GW229 := n2;have GE229 := n3;clear n0 n1 n2 n3;clear hb hbox hg) | ((with_reducible refine gate_dst (N := 1) rfl ?_);refine bX_ 1 (cs := #[.slice none 0 0]) (t := 24) ?_;intro gb230 hg w2 hbox hb;have n0 := aM_ (nB_ BK229.out hb);have n1 := aM_ (sT_ HB.out hb);have n2 := aM_ (hbox);have n3 := aM_ (sZ_ hg HB.out);have n4 := aM_ (sZ_ hg HB.out);have n5 := aM_ (nL_ hg BK229.out);have n6 := aM_ (nG_ hg BK229.out);clear BK229;clear HB;have BK229 := n0;have HB := n1;have BK230 := n2;have GW230 := n3;have GE230 := n4;have NB229_230 := n5;have NB230_229 := n6;clear n0 n1 n2 n3 n4 n5 n6;clear hb hbox hg;have hnb3 := NB230_229.out;have hnc3 := NB229_230.out;have hcz4_0 : w2.cell? ⟨gb230,0,none⟩ = some (.slice none 0 0) := (blk_cell BK230.out 0).trans rfl;have hfz4_0 := blk_frozen BK230.out 0))
 go_loopg [2] k (fun kq v2 w' => ∃ (x2_1 : Int) (x2310_1 : List (List (S43))) (u2310 : Value),v2 = .int .i64 x2_1 ∧ Aside0 (spec_MemoryNew.l0 kq x2_1 x2310_1 = some r) ∧ Aside0 (kq ≤ k) ∧ Aside0 (Kd.S (sslice 43 k43) 44 w' w.heap.size (fun k_ => (w.heap.size ≤ k_) ∧ k_ ≠ gb229 ∧ k_ ≠ gb230) u2310 x2310_1) ∧ Aside0 (w'.heap[gb229]? = some (.cells #[(.slice none 0 0)] 24 (0,0))) ∧ Aside0 (w'.heap[gb230]? = some (.cells #[u2310] 24 (0,0))) ∧ Aside0 (Below w.heap.size w w'))
 case atStart => exact ⟨(0),(([] : List (List (S43)))),(.slice none 0 0),(by first | rfl | (simp;done) | (simp [*];done)),H',⟨Nat.le_refl _⟩,⟨by first | exact Kd.R_nil _ _ _ _ _ | exact Kd.S_nil _ _ _ _ _ | exact Kd.V_nil _ _ _ _ _ | exact Kd.Q_nil _ _ _ _ _ | exact Kd.S_nil _ _ _ _ _⟩,⟨by (with_reducible repeat (first | refine bN_ ?_ _ | refine bD_ ?_ | refine bA_ ?_ _));refine blk_far ?_ NB229_230.out _;(with_reducible repeat (first | refine bN_ ?_ _ | refine bD_ ?_ | refine bA_ ?_ _));exact BK229.out⟩,⟨by (with_reducible repeat (first | refine bN_ ?_ _ | refine bD_ ?_ | refine bA_ ?_ _));refine blk_put (cs := #[.slice none 0 0]) ?_ 0 _ rfl;(with_reducible repeat (first | refine bN_ ?_ _ | refine bD_ ?_ | refine bA_ ?_ _));exact BK230.out⟩,⟨gW_ HB.out⟩⟩
 case round =>
  clear H'
  try clear c1
  try clear p2
  try clear c3
  try clear hcz4_0 hfz4_0
  obtain ⟨x2_1,x2310_1,u2310,rfl,HA,HK1,HO_231000,BK229,BK230,HB⟩ := hrel
  cases gk with
  | zero => exact absurd HA.out (by simp [spec_MemoryNew.l0])
  | succ k1 =>
   have H := HA.out
   clear HA
   simp only [spec_MemoryNew.l0] at H
   by_cases c5 : x2_1 < 24
   ·rw [if_pos c5] at H
    have c5b0 : decide (x2_1 < 24) = true := decide_eq_true c5
    clear c5
    by_cases c6 : 24 ≤ 35184372088832
    ·rw [if_pos c6] at H
     have c6b0 := eq_true c6
     have c6b1 : decide (24 ≤ 35184372088832) = true := decide_eq_true c6
     clear c6
     obtain ⟨y231,hy231⟩ : ∃ y_ : List Int,y_ = (List.replicate 24 0) := ⟨_,rfl⟩
     replace H : (if x2310_1.length < 5864062014805 then (spec_MemoryNew.l0 k1 (wrap64 (x2_1 + 1)) (x2310_1 ++ [(([(⟨0,y231⟩ : S43)] : List (S43)))])) else (none)) = some r := by first | (rw [hy231];with_reducible exact H) | (have H2_ := (Option.bind_some _ _).symm.trans H;rw [hy231];with_reducible exact H2_) | (have H2_ := (Option.bind_some _ _).symm.trans H;with_reducible exact H2_) | with_reducible exact H | (rw [hy231];exact H) | exact H
     have Ny231 := aM_ hy231
     clear hy231
     obtain ⟨y234,hy234⟩ : ∃ y_ : List (S43),y_ = (([(⟨0,y231⟩ : S43)] : List (S43))) := ⟨_,rfl⟩
     replace H : (if x2310_1.length < 5864062014805 then (spec_MemoryNew.l0 k1 (wrap64 (x2_1 + 1)) (x2310_1 ++ [y234])) else (none)) = some r := by first | (rw [hy234];with_reducible exact H) | (have H2_ := (Option.bind_some _ _).symm.trans H;rw [hy234];with_reducible exact H2_) | (have H2_ := (Option.bind_some _ _).symm.trans H;with_reducible exact H2_) | with_reducible exact H | (rw [hy234];exact H) | exact H
     have Ny234 := aM_ hy234
     clear hy234
     by_cases c7 : x2310_1.length < 5864062014805
     ·rw [if_pos c7] at H
      have LMc7 := aM_ c7
      clear c7
      obtain ⟨y237,hy237⟩ : ∃ y_ : List (List (S43)),y_ = (x2310_1 ++ [y234]) := ⟨_,rfl⟩
      replace H : (spec_MemoryNew.l0 k1 (wrap64 (x2_1 + 1)) y237) = some r := by first | (rw [hy237];with_reducible exact H) | (have H2_ := (Option.bind_some _ _).symm.trans H;rw [hy237];with_reducible exact H2_) | (have H2_ := (Option.bind_some _ _).symm.trans H;with_reducible exact H2_) | with_reducible exact H | (rw [hy237];exact H) | exact H
      have Ny237 := aM_ hy237
      clear hy237
      have H' := aM_ H
      clear H
      try go_wp2
      have n0 := aM_ (Kd.S_drew HO_231000.out)
      have n1 := aM_ (blk_drew BK229.out)
      have n2 := aM_ (blk_drew BK230.out)
      have n3 := aM_ (below_drew1 HB.out)
      clear HO_231000
      clear BK229
      clear BK230
      clear HB
      have HO_231000 := n0
      have BK229 := n1
      have BK230 := n2
      have HB := n3
      clear n0 n1 n2 n3
      refine start_ (n := 9) (S := fun w' => w'.cell? ⟨gb230,0,none⟩ = some (u2310)) (ds := [8]) #[false,false,false,false,false,false,false,false,false] (by kernel_rfl) rfl rfl ((blk_cell BK230.out 0).trans rfl) (fun hHeld => ?_);refine with_tabW spec_MemoryNew.tab5 spec_MemoryNew.bits5 (fun HT_ HW_ => ?_)
      generalize wr.drew = w8 at HO_231000 BK229 BK230 HB hHeld ⊢
      have HF := aM_ (show ∀ k,w8.heap.size ≤ k → (w.heap.size ≤ k ∧ k ≠ gb229 ∧ k ≠ gb230) ∧ some k ≠ (u2310 : Value).ownBlock from fun k hk => ⟨⟨Nat.le_trans (below_size HB.out) hk,fun e => by have := blk_lt BK229.out;omega,fun e => by have := blk_lt BK230.out;omega⟩,fun e => by have := Kd.S_lt HO_231000.out k e.symm;omega⟩)
      replace HO_231000 := aM_ (Kd.S_mono (ok' := fun k_ => ((w.heap.size ≤ k_) ∧ k_ ≠ gb229 ∧ k_ ≠ gb230) ∧ k_ < w8.heap.size) (Kd.S_bound HO_231000.out) (fun k hk => ⟨hk.1,hk.2.2.1⟩))
      refine pU_ 0 (some 8) (mk_ 9 1) ?_
      refine take_ (i := 1) (N := some 9) (v := ?_) (a' := ?_) #[true,true,false,false,false,false,false,false,false] rfl rfl (take_ofW HT_.out HW_.out (by kernel_rfl)) (fun _ _ _ h => h) (Or.inl ⟨by rfl,?_⟩) hHeld ?_ ?_
      rotate_left
      ·intro w' s0
       go_simp
       with_reducible rfl
      rotate_left
      ·simp only [pt_,pn_,sI_,s0_,s1_,i64_w,i32_w]
       rfl
      refine oN_ 2 (some 10) (mk_ 9 7) (fun K hK => ?_)
      refine Kd.R_make_step (Kd.int .i64) _ 3 (by rfl) (N := 10) rfl 31 _ _ rfl 24 rfl rfl Try.underlying31 (.int .i64 0) 8 info3 rfl (by decide) (by omega) 0 (ok := fun _ => True) (okp := fun _ => True) rfl (fun _ hk => hk) trivial (by omega) (by omega) (Below.refl _ _) (Nat.le_refl _) ?_
      intro v232 w9 ho10 hb hg_ hnew_
      have HS9 := aM_ hb.size
      clear hg_ hnew_
      (first | rw [← Ny231.out] at ho10 | (simp only [Int.reduceToNat] at ho10;rw [← Ny231.out] at ho10))
      have n0 := aM_ (Kd.S_elder' (by (with_reducible repeat (first | apply Kd.S_alloc | apply Kd.S_drewN | apply Kd.S_drew));exact HO_231000.out) (Kd.R_base ho10) hb)
      have n1 := aM_ (Kd.R_lower (Kd.R_newM (M := fun k_ => (w8.heap.size ≤ k_)) ho10 (Nat.le_refl _) (fun k_ h_ => h_)) (below_size (gB_ HB.out)))
      have n2 := aM_ (nB_ BK229.out hb)
      have n3 := aM_ (nB_ BK230.out hb)
      have n4 := aM_ (sT_ HB.out hb)
      clear HO_231000
      clear BK229
      clear BK230
      clear HB
      have HO_231000 := n0
      have HO233 := n1
      have BK229 := n2
      have BK230 := n3
      have HB := n4
      clear n0 n1 n2 n3 n4
      clear hb ho10
      obtain ⟨Ao11,co11,eo11⟩ := Kd.R_slice HO233.out
      (first | subst eo11 | (injection eo11 with f1_ f2_ f3_;have f4_ := f1_.symm;have f5_ := f3_.symm;clear f1_ f2_ f3_;subst f4_;subst f5_))
      refine hK.out _ _ ((blk_cell BK230.out 0).trans rfl) (fun hHeld => ?_)
      clear hK K
      refine norm_ (a' := ?_) ?_ ?_
      rotate_left
      ·show Act.put _ (some 10) _ = _
       simp only [pt_,pn_,sI_,s0_,s1_,i64_w,i32_w]
       rfl
      refine pU_ 3 (some 11) (mk_ 9 15) ?_
      refine oN_ 4 (some 12) (mk_ 9 31) (fun K hK => ?_)
      refine Kd.R_lit_step k43 w.heap.size 43 ?hg (N := 12) ?hd (xs := ([(⟨0,y231⟩ : S43)] : List (S43))) (inner := [.int .i64 0,.slice Ao11 y231.length co11]) (ok := (fun k_ => (w8.heap.size ≤ k_))) (okp := (fun k_ => (w8.heap.size ≤ k_))) ?hr ?hp (fun _ hk => hk) (HS9.out) (Below.refl _ _) (below_size (gB_ HB.out)) (by simp) ?_;(case hd => rfl);(case hg => rfl);(case hr => first | (go_simp;done) | (go_simp;rfl));(case hp => exact (Reps.c2 (show k43.M _ _ _ (⟨0,y231⟩ : S43) [.int .i64 0,.slice Ao11 y231.length co11] from k43_mkM _ _ _ (⟨0,y231⟩ : S43) (Kd.R_mono HO233.out (fun _ hk => hk.1))) (Reps.none _ _)))
      intro v235 w12 ho13 hb0_ hg_ hnew_
      have hb : Below w9.heap.size w9 w12 := (Below.refl w9.heap.size w9).grown hg_ (Nat.le_refl _) (by simp)
      replace ho13 := S_one ho13
      have hbs_ : ∀ k,v235.ownBlock = some k → w9.heap.size ≤ k := fun k hk => by obtain ⟨b,h1,h2⟩ := hnew_;rw [h1] at hk;cases hk;exact h2
      clear hb0_ hg_ hnew_
      (first | rw [← Ny234.out] at ho13 | (simp only [Int.reduceToNat] at ho13;rw [← Ny234.out] at ho13))
      have n0 := aM_ (Kd.S_elder' (by (with_reducible repeat (first | apply Kd.S_alloc | apply Kd.S_drewN | apply Kd.S_drew));exact HO_231000.out) hbs_ hb)
      have n1 := aM_ (Kd.S_lower ho13 (Nat.le_refl _))
      have n2 := aM_ (nB_ BK229.out hb)
      have n3 := aM_ (nB_ BK230.out hb)
      have n4 := aM_ (sT_ HB.out hb)
      clear HO_231000
      clear BK229
      clear BK230
      clear HB
      clear HO233
      have HO_231000 := n0
      have HO236 := n1
      have BK229 := n2
      have BK230 := n3
      have HB := n4
      clear n0 n1 n2 n3 n4
      clear hb ho13
      obtain ⟨Ao15,co15,eo15⟩ := Kd.S_slice HO236.out
      (first | subst eo15 | (injection eo15 with f1_ f2_ f3_;have f4_ := f1_.symm;have f5_ := f3_.symm;clear f1_ f2_ f3_;subst f4_;subst f5_))
      refine hK.out _ _ ((blk_cell BK230.out 0).trans rfl) (fun hHeld => ?_)
      clear hK K
      refine norm_ (a' := ?_) ?_ ?_
      rotate_left
      ·show Act.put _ (some 12) _ = _
       simp only [pt_,pn_,sI_,s0_,s1_,i64_w,i32_w]
       rfl
      refine oN_ 5 (some 13) (mk_ 9 63) (fun K hK => ?_)
      refine value_ (w1 := ?_) (v := ?_) (by rfl) rfl ?_ ?_
      rotate_left 2
      ·go_simp
       constructor
       ·rfl
       ·rfl
      refine hK.out _ _ ((blk_cell (blk_alloc BK230.out _) 0).trans rfl) (fun hHeld => ?_)
      clear hK K
      refine norm_ (a' := ?_) ?_ ?_
      rotate_left
      ·show Act.put _ (some 13) _ = _
       simp only [pt_,pn_,sI_,s0_,s1_,i64_w,i32_w]
       rfl
      refine oN_ 6 (some 14) (mk_ 9 127) (fun K hK => ?_)
      refine Kd.S_append_step (sslice 43 k43) (w0 := w) w.heap.size (by rfl) (.tmp 9) (.tmp 13) 22 44 (.slice none 0 0) 24 rfl Try.underlying22 info44 rfl (by decide) (by omega) u2310 x2310_1 y234 [.slice Ao15 y234.length co15] (fun k_ => (w.heap.size ≤ k_) ∧ k_ ≠ gb229 ∧ k_ ≠ gb230) (fun k_ => (w8.heap.size ≤ k_)) rfl rfl ?aP HF.out ?aF ?aO ?aB ?aS ?aL ?_
      (case aP => exact ⟨_,rfl,HO236.out⟩)
      (case aB => exact (gB_ HB.out))
      (case aF => exact (fun k_ hk => ⟨(Nat.le_trans (below_size (gB_ HB.out)) hk),Kd.freshB (g := gb229) (o := .cells #[.slice none 0 0] 24 (0,0)) (by (with_reducible repeat (first | refine bN_ ?_ _ | refine bD_ ?_ | refine bA_ ?_ _));exact BK229.out) k_ hk,Kd.freshB (g := gb230) (o := .cells #[u2310] 24 (0,0)) (by (with_reducible repeat (first | refine bN_ ?_ _ | refine bD_ ?_ | refine bA_ ?_ _));exact BK230.out) k_ hk⟩))
      (case aO => exact Kd.S_mono HO_231000.out (fun _ hk => ⟨hk.1.1.1,fun h => absurd h (Nat.not_le.2 hk.1.1.2)⟩))
      (case aS => exact (below_size (gB_ HB.out)))
      (case aL => have := LMc7.out;omega)
      intro v238 w14 ho hb hg hat
      rw [← Ny237.out] at ho
      have n0 := aM_ (blk_grown (g := gb229) (o := .cells #[.slice none 0 0] 24 (0,0)) (by (with_reducible repeat (first | refine bN_ ?_ _ | refine bD_ ?_ | refine bA_ ?_ _));exact BK229.out) hg (Kd.S_ne HO_231000.out BK229.out (by decide)))
      have n1 := aM_ (blk_grown (g := gb230) (o := .cells #[u2310] 24 (0,0)) (by (with_reducible repeat (first | refine bN_ ?_ _ | refine bD_ ?_ | refine bA_ ?_ _));exact BK230.out) hg (Kd.S_ne HO_231000.out BK230.out (by decide)))
      have n2 := aM_ (hb)
      have n3 := aM_ (ho)
      clear BK229
      clear BK230
      clear HB
      clear HO_231000
      clear HO236
      have BK229 := n0
      have BK230 := n1
      have HB := n2
      have HO239 := n3
      clear n0 n1 n2 n3
      clear ho hb hg hat
      obtain ⟨Ao16,co16,eo16⟩ := Kd.S_slice HO239.out
      (first | subst eo16 | (injection eo16 with f1_ f2_ f3_;have f4_ := f1_.symm;have f5_ := f3_.symm;clear f1_ f2_ f3_;subst f4_;subst f5_))
      refine hK.out _ _ ((blk_cell BK230.out 0).trans rfl) (fun hHeld => ?_)
      clear hK K
      refine norm_ (a' := ?_) ?_ ?_
      rotate_left
      ·show Act.put _ (some 14) _ = _
       simp only [pt_,pn_,sI_,s0_,s1_,i64_w,i32_w]
       rfl
      refine pU_ 7 (some 15) (mk_ 9 255) ?_
      refine last_ (i := 8) (N := none) #[true,true,true,true,true,true,true,true,true] rfl rfl (one_of HT_.out (by kernel_rfl)) (by decide) (fun K hK => ?_)
      have hs17 : w14.cell? ⟨gb230,0,none⟩ = some (u2310) := (blk_cell BK230.out 0).trans rfl
      have hfs17 := blk_frozen BK230.out 0
      have hns17_0 := NB229_230.out
      have hms17_0 := NB230_229.out
      refine skip_ (w1 := ?_) (by rfl) rfl ?_ ?_
      rotate_left
      ·go_simp
       rfl
      refine hK.out _ _ ?_
      clear hK K
      refine done_ (done_of HT_.out (by kernel_rfl)) ?_
      try go_wp2
      go_roundg k1
      case measure => have := HK1.out;omega
      case rel => exact ⟨(wrap64 (x2_1 + 1)),(y237),(.slice Ao16 y237.length co16),(by first | rfl | (simp;done) | (simp [*];done)),H',⟨by have := HK1.out;omega⟩,⟨by (with_reducible repeat (first | apply Kd.S_alloc | apply Kd.S_drewN | apply Kd.S_drew));exact Kd.S_mono (Kd.S_far (p := ⟨gb230,0,none⟩) (Kd.S_mono HO239.out (fun k_ hk => (⟨hk,hk.2.2⟩ : _ ∧ k_ ≠ gb230))) (fun _ hk => hk.2) (.slice Ao16 y237.length co16)) (fun _ hk => ⟨hk.1.1,⟨hk.1.2.1,hk.1.2.2⟩⟩)⟩,⟨by (with_reducible repeat (first | refine bN_ ?_ _ | refine bD_ ?_ | refine bA_ ?_ _));refine blk_far ?_ NB229_230.out _;(with_reducible repeat (first | refine bN_ ?_ _ | refine bD_ ?_ | refine bA_ ?_ _));exact BK229.out⟩,⟨by (with_reducible repeat (first | refine bN_ ?_ _ | refine bD_ ?_ | refine bA_ ?_ _));refine blk_put (cs := #[u2310]) ?_ 0 _ rfl;(with_reducible repeat (first | refine bN_ ?_ _ | refine bD_ ?_ | refine bA_ ?_ _));exact BK230.out⟩,⟨gW_ HB.out⟩⟩
     ·rw [if_neg c7] at H
      exact absurd H (by simp)
    ·rw [if_neg c6] at H
     exact absurd H (by simp)
   ·rw [if_neg c5] at H
    have c5b0 : decide (x2_1 < 24) = false := decide_eq_false c5
    clear c5
    obtain rfl := Option.some.inj H
    have hnb18 := NB230_229.out
    have hnc18 := NB229_230.out
    have hcz19_0 : wr.cell? ⟨gb230,0,none⟩ = some (u2310) := (blk_cell BK230.out 0).trans rfl
    have hfz19_0 := blk_frozen BK230.out 0
    obtain ⟨Ao20,co20,eo20⟩ := Kd.S_slice HO_231000.out
    subst eo20
    have hcz21_0 : wr.cell? ⟨gb229,0,none⟩ = some (.slice none 0 0) := (blk_cell BK229.out 0).trans rfl
    have hfz21_0 := blk_frozen BK229.out 0
    go_wp2
    refine bodyPost_ret (results_cell_row rfl _ _ gb229 24 #[.slice Ao20 x2310_1.length co20] (0,0) _ rfl (by (with_reducible repeat (first | refine bN_ ?_ _ | refine bD_ ?_ | refine bA_ ?_ _));refine blk_put (cs := #[.slice none 0 0]) ?_ 0 _ rfl;exact rW_ BK229.out) Try.underlying24 rfl (by kernel_rfl)) rfl ?_
    exact ⟨_,fR_,by (with_reducible repeat (first | apply Kd.S_alloc | apply Kd.S_drewN | apply Kd.S_drew));exact Kd.S_mono (Kd.S_far (p := ⟨gb229,0,none⟩) (Kd.S_mono HO_231000.out (fun k_ hk => (⟨hk,hk.2.1⟩ : _ ∧ k_ ≠ gb229))) (fun _ hk => hk.2) (.slice Ao20 x2310_1.length co20)) (fun _ hk => hk.1.1),gB_ HB.out⟩
end Go.Proofs.Ythbcnakmnbilhaa.PFnLoad
